/- Rows in memory of their own, full or grown. -/
import Derived.Test.YtiepokkmhhginaaGreatDoorLibA
import Derived.Test.YtiepokkmhhginaaGreatDoorAbD
import Derived.Test.YtiepokkmhhginaaGreatDoorC5Dec
import Derived.Test.YtiepokkmhhginaaGreatDoorLibI
set_option linter.unusedVariables false
set_option linter.unusedSimpArgs false
set_option maxRecDepth 100000
set_option maxHeartbeats 4000000
set_option maxHeartbeats 2000000
noncomputable section
namespace Go.Proofs.YtiepokkmhhginaaGreatDoor.code
open Go.Ab
def bys (l:List Int):List Value:=l.map (Value.int .u8)
theorem JC (l:List Int):(bys l).length=l.length:=Nn ..
theorem QaT (l m:List Int):bys (l++m)=bys l++bys m:=N6 ..
theorem QcP (l:List Int):(bys l).all (·.oneCell')=true:=by
 rw[Li];intro v hv;obtain⟨z,_,rfl⟩:=N4.1 hv;rfl
def inB (v:Value) (id:Nat):Prop:=∃o n c,v=.slice (some ⟨id,o,none⟩) n c
def Gx (size:Nat) (e:TypeId) (H0 H:Qa) (v:Value) (n:Nat) (cs:List Value):Prop:=(v=.slice none 0 0∧n=0∧cs=[])∨∃b cap,v=.slice (some ⟨b,0,none⟩) n cap∧H0.next<=b∧H.get b=some (.cells cs e false)∧cs.length=n * size∧(cap=n∨cap=UNK+size∧0<n)
theorem Gx.ext {size:Nat} {e:TypeId} {H0 H H':Qa} {v:Value} {n:Nat} {cs:List Value} (h:Gx size e H0 H v n cs) (hk:∀id,inB v id->H'.get id=H.get id):Gx size e H0 H' v n cs:=by
 rcases h with h | ⟨b,c,rfl,h2,h3,h4⟩
 ·exact .inl h
 ·exact .inr ⟨b,c,rfl,h2,by rw[hk b ⟨_,_,_,rfl⟩];exact h3,h4⟩
theorem Gx.go {size:Nat} {e:TypeId} {H0 H H':Qa} {v:Value} {n:Nat} {cs:List Value} (h:Gx size e H0 H v n cs) (hw:H.Wf) (hx:Ext H H'):Gx size e H0 H' v n cs:=by
 rcases h with h | ⟨b,c,rfl,h2,h3,h4⟩
 ·exact .inl h
 ·exact .inr ⟨b,c,rfl,h2,by rw[hx.get b (hw.lt h3)];exact h3,h4⟩
theorem Gx.low {size:Nat} {e:TypeId} {H0 H:Qa} {v:Value} {n:Nat} {cs:List Value} (h:Gx size e H0 H v n cs) (hw:H.Wf) {id:Nat} (hi:inB v id):H0.next<=id∧id<H.next:=by
 obtain⟨o,n',c,rfl⟩:=hi;rcases h with⟨h,_,_⟩ | ⟨b,c,h,h2,h3,h4⟩
 ·cases h
 ·cases h;exact⟨h2,hw.lt h3⟩
theorem Gx.sl {size:Nat} {e:TypeId} {H0 H:Qa} {v:Value} {n:Nat} {cs:List Value} (h:Gx size e H0 H v n cs):QbV H v n cs:=by
 rcases h with⟨rfl,rfl,rfl⟩ | ⟨b,c,rfl,h2,h3,h4⟩
 ·exact⟨none,0,rfl,λh=>absurd h (NX 0)⟩
 ·exact⟨_,_,rfl,λ_=>⟨b,e,false,rfl,h3⟩⟩
theorem Gx.slc {size:Nat} {e:TypeId} {H0 H:Qa} {v:Value} {n:Nat} {cs:List Value} (h:Gx size e H0 H v n cs):∃a c,v=.slice a n c:=by
 rcases h with⟨rfl,rfl,rfl⟩ | ⟨b,c,rfl,_⟩
 ·exact⟨_,_,rfl⟩
 ·exact⟨_,_,rfl⟩
theorem Gx.down {size:Nat} {e:TypeId} {H0 H1 H:Qa} {v:Value} {n:Nat} {cs:List Value} (h:Gx size e H1 H v n cs) (hx:H0.next<=H1.next):Gx size e H0 H v n cs:=by
 rcases h with h | ⟨b,c,rfl,h2,h3,h4⟩
 ·exact .inl h
 ·exact .inr ⟨b,c,rfl,by omega,h3,h4⟩
theorem Gx.src {size:Nat} {e:TypeId} {H0 H:Qa} {v:Value} {n:Nat} {cs:List Value} (h:Gx size e H0 H v n cs):ZQ size v H=some (n,cs):=by
 rcases h with⟨rfl,rfl,rfl⟩ | ⟨b,c,rfl,h2,h3,h4,_⟩
 ·simp[ZQ]
 ·by_cases hn:n=0
  ·subst hn;have:cs=[]:=N2.1 (by omega);subst this;simp[ZQ]
  ·rw[Qb5 h3 hn (by omega),Lw,LF (by omega)]
structure GK (v v':Value) (H0 H H':Qa):Prop where
 x:Ext H0 H'
 w:H'.Wf
 keep:∀id,id<H.next->¬inB v id->H'.get id=H.get id
 next:H.next<=H'.next
 new:∀id,inB v' id->inB v id∨H.next<=id
theorem Qdf {size:Nat} {e bytes:Nat} {H0 H:Qa} {v x:Value} {n m:Nat} {cs ms:List Value} {k:Value->Qa->Prop} (hs:Gx size e H0 H v n cs) (hx:Ext H0 H) (hw:H.Wf) (hsrc:ZQ size x H=some (m,ms)) (hone:ms.all (·.oneCell')=true) (hml:ms.length=m * size) (hb:(n+m) * bytes<=140737488355328) (hn:n+m<=9223372036854775807)
  (h:∀v' H',Gx size e H0 H' v' (n+m) (cs++ms)->GK v v' H0 H H'->k v' H'):Qeu e size bytes v x H k:=by
 have hnn:=hx.next
 by_cases hm:m=0
 ·subst hm;have hms:ms=[]:=N2.1 (by omega);subst hms;have hr:YN e size bytes v x H=some (v,H):=by
   unfold YN;rw[hsrc];rcases hs with⟨rfl,rfl,rfl⟩ | ⟨b,c,rfl,h2,h3,h4,h5⟩
   ·rfl
   ·simp only[BI,N3];rw[Lc];rcases h5 with rfl | ⟨rfl,_⟩
    ·first | exact .inl (Lb _) | exact .inl (by omega) | simp
    ·first | exact .inl (by omega) | simp
  unfold Qeu;rw[hr,QH];rw[N9,Na]at h;exact h v H hs ⟨hx,hw,λ_ _ _=>rfl,Lb _,λid hi=>.inl hi⟩
 ·rcases hs with⟨rfl,rfl,rfl⟩ | ⟨b,c,rfl,h2,h3,h4,h5⟩
  ·refine QjN hsrc hone hm (by rw[LP]at hb;exact hb) (by omega) (h _ _ (.inr ⟨H.next,_,by rw[LP],hnn,by rw[Qd,Lc rfl,LH],by rw[LH,LP];exact hml,.inr ⟨rfl,by omega⟩⟩) ⟨hx.push _,hw.push _,λid hid _=>by rw[Qd,Le (by omega)],by rw[Qe];omega,?_⟩);rintro id ⟨o,n',c,he⟩;cases he;exact .inr (Lb _)
  ·have hbl:=hw.lt h3;rcases Nq c UNK with hc | hc
   ·have hcn:c=n:=by rcases h5 with h | h;exact h;omega
    subst hcn;have e1:(cs.drop 0).take (c * size)++ms=cs++ms:=by rw[Lw,LF (by omega)]
    refine Qlk hsrc hone hm h3 (by omega) hb hn hc (by omega) (h _ _ (.inr ⟨H.next,_,rfl,hnn,by rw[Qd,Lc rfl,e1],by rw[Lh,h4,hml,Ry],.inr ⟨rfl,by omega⟩⟩) ⟨hx.push _,hw.push _,λid hid _=>by rw[Qd,Le (by omega)],by rw[Qe];omega,?_⟩);rintro id ⟨o,n',c,he⟩;cases he;exact .inr (Lb _)
   ·refine Qoa rfl hsrc hone hm h3 (by rw[LP];omega) hb hn hc (h _ _ (.inr ⟨H.next,_,rfl,hnn,?_,by rw[Lh,h4,hml,Ry],.inr ⟨rfl,by omega⟩⟩) ⟨?_,?_,?_,by rw[Qe,VM];omega,?_⟩)
    ·rw[Qd,VM,Lc rfl,Lw]
    ·refine⟨by rw[Qe,VM];omega,λid hid=>?_⟩;rw[Qd,VM,Le (by omega),Wd,Le (by omega)];exact hx.get id hid
    ·exact(hw.kill b).push _
    ·intro id hid hnb;have hne:¬id=b:=λh=>hnb ⟨_,_,_,by rw[h]⟩;rw[Qd,VM,Le (by omega),Wd,Le hne]
    ·rintro id ⟨o,n',c,he⟩;cases he;exact .inr (Lb _)
theorem QAw {size:Nat} {e bytes:Nat} {H0 H:Qa} {v x:Value} {n m:Nat} {cs ms:List Value} {k:Value->Qa->Prop} (hs:Gx size e H0 H v n cs) (hfull:∃a,v=.slice a n n) (hw:H.Wf) (hsrc:ZQ size x H=some (m,ms)) (hone:ms.all (·.oneCell')=true) (hm:m≠0) (hml:ms.length=m * size) (hb:(n+m) * bytes<=140737488355328) (hn:n+m<=9223372036854775807) (hu:n<UNK)
  (h:∀v' H',Gx size e H H' v' (n+m) (cs++ms)->Ext H H'->H'.Wf->(∃b,v'=.slice (some ⟨b,0,none⟩) (n+m) (UNK+size))->k v' H'):Qeu e size bytes v x H k:=by
 rcases hs with⟨rfl,rfl,rfl⟩ | ⟨b,c,rfl,h2,h3,h4,h5⟩
 ·refine QjN hsrc hone hm (by rw[LP]at hb;exact hb) (by omega) (h _ _ (.inr ⟨H.next,_,by rw[LP],Lb _,by rw[Qd,Lc rfl,LH],by rw[LH,LP];exact hml,.inr ⟨rfl,by omega⟩⟩) ((Ext.refl H).push _) (hw.push _) ⟨_,by rw[LP]⟩)
 ·obtain⟨a,ha⟩:=hfull;cases ha;have e1:(cs.drop 0).take (n * size)++ms=cs++ms:=by rw[Lw,LF (by omega)]
  exact Qlk hsrc hone hm h3 (by omega) hb hn hu (by omega) (h _ _ (.inr ⟨H.next,_,rfl,Lb _,by rw[Qd,Lc rfl,e1],by rw[Lh,h4,hml,Ry],.inr ⟨rfl,by omega⟩⟩) ((Ext.refl H).push _) (hw.push _) ⟨_,rfl⟩)
theorem QCs {size:Nat} {e:TypeId} {H0 H:Qa} {v:Value} {n:Nat} {cs:List Value} (h:Gx size e H0 H v n cs) (hu:n<UNK):∃a,Ki size v none (some (n:Int)) (some (n:Int))=some (.slice a n n)∧Gx size e H0 H (.slice a n n) n cs:=by
 rcases h with⟨rfl,rfl,rfl⟩ | ⟨b,c,rfl,h2,h3,h4,h5⟩
 ·exact⟨none,rfl,.inl ⟨rfl,rfl,rfl⟩⟩
 ·refine⟨some ⟨b,0,none⟩,?_,.inr ⟨b,n,rfl,h2,h3,h4,.inl rfl⟩⟩;unfold Ki;simp only[Br,NB];rcases Nq c UNK with hc | hc
  ·rw[Le (by omega),Lc (by omega),show(n:Int).toNat - (0:Int).toNat=n by omega]
   by_cases hn:n=0
   ·subst hn;rfl
   ·rw[Le (by omega),show 0+(0:Int).toNat * size=0 by simp]
  ·rw[Lc hc,Lc (by omega),show(n:Int).toNat - (0:Int).toNat=n by omega,show 0+(0:Int).toNat * size=0 by simp]
def QEl (H:Qa) (v:Value) (bs:List Int):Prop:=∃a cap,v=.slice a bs.length cap∧(0<bs.length->∃b o e ro cs,a=some ⟨b,o,none⟩∧H.get b=some (.cells cs e ro)∧∀j,j<bs.length->cs[o+j]? = some (.int .u8 (bs.getD j 0)))
theorem QEl.ext {H H':Qa} {v:Value} {bs:List Int} (hw:H.Wf) (he:Ext H H') (h:QEl H v bs):QEl H' v bs:=by
 obtain⟨a,cap,rfl,h1⟩:=h;refine⟨a,cap,rfl,λhn=>?_⟩;obtain⟨b,o,e,ro,cs,rfl,hb,hc⟩:=h1 hn;exact⟨b,o,e,ro,cs,rfl,by rw[he.get b (hw.lt hb)];exact hb,hc⟩
def Qjl (n:Int):Bool:=(n==1)||(n==2)||(n==4)||(n==8)
theorem Qp7 (n:Int) (H:Qa):Qg prog Qc6 [.int .i64 n] H λu H'=>u=.bool (Qjl n)∧H'=H:=by
 refine QoN λhw=>?_;simp(disch:=(first | omega | (simp only[hnP];try omega))) only[QgP,QK,simprocAttr,QfG]
 repeat' (first
   | (refine QG (λh=>?_) (λh=>?_)<;>(try simp only[Lr,Lu]at h)<;>simp(disch:=(first | omega | (simp only[hnP];try omega))) only[QK,simprocAttr,QfG,h])
   | fail)
 all_goals refine .mk (Lb _) ⟨?_,rfl⟩
 all_goals (simp only[Qjl];simp_all)
def Y5 (n:Int):Bool:=decide (1<=n)&&decide (n<=64)
theorem JD (n:Int) (H:Qa):Qg prog XS [.int .i64 n] H λu H'=>u=.bool (Y5 n)∧H'=H:=by
 refine QlL λhw=>?_;simp(disch:=(first | omega | (simp only[hnP];try omega))) only[Qd3,QK,simprocAttr,QcJ]
 repeat' (first
   | (refine QG (λh=>?_) (λh=>?_)<;>(try simp only[Lr,Lu]at h)<;>simp(disch:=(first | omega | (simp only[hnP];try omega))) only[QK,simprocAttr,QcJ,h])
   | fail)
 all_goals refine .mk (Lb _) ⟨?_,rfl⟩
 all_goals (simp only[Y5];simp_all<;>omega)
def QqX (n bits:Int):Int:=if Y5 bits=false then 0 else(IntKind.i64.wrap (IntKind.u64.wrap (IntKind.u64.wrap n * 2 ^ (min (64 - bits).toNat 64)))).fdiv (2 ^ (min (64 - bits).toNat 64))
theorem QkN (n bits:Int) (H:Qa):Qg prog QaM [.int .i64 n,.int .i64 bits] H λu H'=>u=.int .i64 (QqX n bits)∧H'=H:=by
 refine Qp1 λhw=>?_;simp only[Qie,Qb,simprocAttr];refine(JD bits H).thenW ?_;rintro _ H _ hw ⟨rfl,rfl⟩;simp only[Qb,simprocAttr];cases q:Y5 bits with
 | false=>
  simp only[Qb,simprocAttr,QgR];exact .mk (Lb _) ⟨by rw[QqX,Lc q],rfl⟩
 | true=>
  have hb:1<=bits∧bits<=64:=by simpa[Y5] using q
  have e:IntKind.i64.wrap (64 - bits)=64 - bits:=w64 (by unfold I64;omega);have h0:0<=64 - bits:=by omega
  have b1:IntKind.u64.bits=64:=rfl;have b2:IntKind.i64.bits=64:=rfl;simp only[Qb,simprocAttr,e,h0,b1,b2,QgR];exact .mk (Lb _) ⟨by rw[QqX,Le (by simp[q])],rfl⟩
def QCt (n bits:Int):Int:=if Y5 bits=false then 0 else IntKind.i64.wrap ((IntKind.u64.wrap (IntKind.u64.wrap n * 2 ^ (min (64 - bits).toNat 64))).fdiv (2 ^ (min (64 - bits).toNat 64)))
theorem Qt1 (n bits:Int) (H:Qa):Qg prog Qgn [.int .i64 n,.int .i64 bits] H λu H'=>u=.int .i64 (QCt n bits)∧H'=H:=by
 refine QrZ λhw=>?_;simp only[QkG,Qb,simprocAttr];refine(JD bits H).thenW ?_;rintro _ H _ hw ⟨rfl,rfl⟩;simp only[Qb,simprocAttr];cases q:Y5 bits with
 | false=>
  simp only[Qb,simprocAttr,Qif];exact .mk (Lb _) ⟨by rw[QCt,Lc q],rfl⟩
 | true=>
  have hb:1<=bits∧bits<=64:=by simpa[Y5] using q
  have e:IntKind.i64.wrap (64 - bits)=64 - bits:=w64 (by unfold I64;omega);have h0:0<=64 - bits:=by omega
  have b1:IntKind.u64.bits=64:=rfl;have b2:IntKind.i64.bits=64:=rfl;simp only[Qb,simprocAttr,e,h0,b1,b2,Qif];exact .mk (Lb _) ⟨by rw[QCt,Le (by simp[q])],rfl⟩
def Qw7 (n bits:Int):Bool:=Y5 bits&&(QqX n bits==n||QCt n bits==n)
theorem Qr5 (n bits:Int) (H:Qa):Qg prog QeH [.int .i64 n,.int .i64 bits] H λu H'=>u=.bool (Qw7 n bits)∧H'=H:=by
 refine QpY λhw=>?_;have q1:=λH=>JD bits H;have q2:=λH=>QkN n bits H;have q3:=λH=>Qt1 n bits H;unfold Qw7;simp only[Qib,Qb,simprocAttr];refine(q1 H).thenW ?_;rintro _ H _ hw ⟨rfl,rfl⟩;cases Y5 bits with
 | false=>
  simp only[Qb,simprocAttr,QbF];exact .mk (Lb _) ⟨rfl,rfl⟩
 | true=>
  simp only[Qb,simprocAttr];refine(q2 H).thenW ?_;rintro _ H _ hw ⟨rfl,rfl⟩;simp only[Qb,simprocAttr];cases QqX n bits==n with
  | true=>
   simp only[Qb,simprocAttr,QbF];exact .mk (Lb _) ⟨rfl,rfl⟩
  | false=>
   simp only[Qb,simprocAttr];refine(q3 H).thenW ?_;rintro _ H _ hw ⟨rfl,rfl⟩;simp only[Qb,simprocAttr,QbF];exact .mk (Lb _) ⟨rfl,rfl⟩
def Qw8 (n bits:Int):Bool:=Y5 bits&&(QqX n bits==n)
theorem Qr6 (n bits:Int) (H:Qa):Qg prog QeL [.int .i64 n,.int .i64 bits] H λu H'=>u=.bool (Qw8 n bits)∧H'=H:=by
 refine Qp6 λhw=>?_;have q1:=λH=>JD bits H;have q2:=λH=>QkN n bits H;unfold Qw8;simp only[Qii,Qb,simprocAttr];refine(q1 H).thenW ?_;rintro _ H _ hw ⟨rfl,rfl⟩;cases Y5 bits with
 | false=>
  simp only[Qb,simprocAttr,QgY];exact .mk (Lb _) ⟨rfl,rfl⟩
 | true=>
  simp only[Qb,simprocAttr];refine(q2 H).thenW ?_;rintro _ H _ hw ⟨rfl,rfl⟩;simp only[Qb,simprocAttr,QgY];exact .mk (Lb _) ⟨rfl,rfl⟩
def Qw9 (n:Int) (i:Nat):Int:=IntKind.u8.wrap ((IntKind.u64.wrap n).fdiv (2 ^ (min (8 * i) 64)))
def Qjm (n:Int) (sz:Nat):List Int:=(List.range sz).map (Qw9 n)
def Vk (n sz:Int):List Int×Int:=if Qjl sz=false then([],2) else if Qw7 n (8 * sz)=false then([],5) else(Qjm n sz.toNat,0)
theorem QmM (n sz:Int) (hn:I64 n) (H:Qa):Qg prog VD [.int .i64 n,.int .i64 sz] H λu H'=>∃v,u=.tuple #[v,.int .i64 (Vk n sz).2]∧Gx 1 5 H H' v (Vk n sz).1.length (bys (Vk n sz).1)∧Ext H H':=by
 refine QrX λhw=>?_;unfold Vk;simp only[QkB,Qb,simprocAttr];refine(Qp7 sz H).thenW ?_;rintro _ H _ hw ⟨rfl,rfl⟩;cases h1:Qjl sz with
 | false=>
  simp only[Qb,simprocAttr,LM,Qdc];exact .mk (Lb _) ⟨_,rfl,.inl ⟨rfl,rfl,rfl⟩,.refl _⟩
 | true=>
  obtain⟨s,hs,hs8,hs1⟩:∃s:Nat,sz=s∧s<=8∧1<=s:=by
   have:sz=1∨sz=2∨sz=4∨sz=8:=by simpa[Qjl,or_assoc] using h1
   exact⟨sz.toNat,by omega,by omega,by omega⟩
  subst hs;have w8:IntKind.i64.wrap (8 * (s:Int))=8 * (s:Int):=w64 (by unfold I64;omega);simp only[Qb,simprocAttr,L8,w8];refine(Qr5 n (8 * (s:Int)) H).thenW ?_;rintro _ H _ hw ⟨rfl,rfl⟩;cases h2:Qw7 n (8 * (s:Int)) with
  | false=>
   simp only[Qb,simprocAttr,LM,Qdc];exact .mk (Lb _) ⟨_,rfl,.inl ⟨rfl,rfl,rfl⟩,.refl _⟩
  | true=>
   simp only[Qb,simprocAttr,L8,LN,reduceCtorEq,LG];refine⟨⟨by omega,by omega,by omega,by omega⟩,?_⟩;refine QB (λm A' H'=>∃i:Nat,i<=s∧m=s - i∧H'.Wf∧Ext H H'∧H'.get H.next=some (.cells (bys (Qjm n i)++List.replicate (s - i) (.int .u8 0)) 5 false)∧A' 0=.int .i64 n∧A' 1=.int .i64 s∧A' 6=.slice (some ⟨H.next,0,none⟩) s s∧A' 18=.int .i64 s∧A' 19=.int .i64 i) s ?_ ?_
   ·refine⟨0,L7 _,by omega,hw.push _,(Ext.refl H).push _,?_,?_,?_,?_,?_,?_⟩
    ·rw[Qd,Lc rfl];have h8:Xt [Value.int .u8 0].toArray s=List.replicate s (.int .u8 0):=by
      unfold Xt;rw[Fv];refine⟨by simp,λb hb=>?_⟩;obtain⟨i,_,rfl⟩:=N4.1 hb;show([Value.int .u8 0].toArray)[i % 1]! = _;rw[Nat.mod_one];rfl
     exact congrArg (λc=>some (Blk.cells c 5 false)) h8
    all_goals simp only[Ql,simprocAttr]
    all_goals rfl
   ·rintro m A' H' ⟨i,hi,rfl,hw',hx,hg,r0,r1,r6,r18,r19⟩;simp only[Qb,simprocAttr,r18,r19];refine Qi (λh3=>?_) (λh3=>?_)
    ·have h3:i<s:=by have:=Lg h3;omega
     have d1:(0:Int)<=i∧(i:Int)<s:=by omega
     have d3:(i:Int).toNat=i:=by omega
     have ei:IntKind.i64.wrap ((i:Int)+1)=((i+1:Nat):Int):=by rw[w64 (by unfold I64;omega)];omega
     have e8:IntKind.i64.wrap (8 * (i:Int))=((8 * i:Nat):Int):=by rw[w64 (by unfold I64;omega)];omega
     simp only[Qb,simprocAttr,r0,r6,r19,d1,d3,ei,e8,hg];have hl1:(bys (Qjm n i)).length=i:=by rw[JC];simp[Qjm]
     have hsp:splice (bys (Qjm n i)++List.replicate (s - i) (.int .u8 0)) i [.int .u8 (Qw9 n i)]=bys (Qjm n (i+1))++List.replicate (s - (i+1)) (.int .u8 0):=by
      have e1:Qjm n (i+1)=Qjm n i++[Qw9 n i]:=by simp[Qjm,R0]
      have e2:s - i=(s - (i+1))+1:=by omega
      unfold splice;rw[e1,QaT,e2,List.replicate_succ,NO (by omega),LF (by omega),B3,hl1];have hl2:(Qjm n i).length=i:=by simp[Qjm]
      simp[bys,hl2]
     refine⟨by omega,by rw[Lh,hl1,List.length_replicate];omega,s - (i+1),by omega,i+1,by omega,rfl,?_,?_,?_,?_,?_,?_,?_,?_⟩
     ·exact hw'.set hg _
     ·exact hx.set (Lb _) _
     ·have h64:min (((8 * i:Nat):Int)).toNat IntKind.u64.bits=min (8 * i) 64:=rfl;rw[Qn,Lc rfl,<- hsp];unfold Qw9 splice;rw[h64];rfl
     all_goals simp only[Ql,simprocAttr,r0,r1,r6,r18]
    ·have h3:i=s:=by have:=Ll h3;omega
     subst h3;simp only[Qb,simprocAttr,r6,Qdc];rw[BJ,List.replicate_zero,Na]at hg;have hl:(Qjm n i).length=i:=by simp[Qjm]
     exact .mk hx.next ⟨_,rfl,.inr ⟨H.next,i,by rw[hl],Lb _,hg,by rw[JC,NH],.inl (by rw[hl])⟩,hx⟩
def Xp (r:Rg):Int:=if Q9 r=true then r.n % 8 else 0
def Kc (r:Rg):Int:=if Q9 r=true then r.n / 8 else 0
theorem QEm {r:Rg} (h:Q9 r=true):0<=r.n∧r.n<16:=by
 unfold Q9 QeU at h;have h:=Lg h;split at h
 ·simp at h;omega
 ·split at h
  ·simp at h;omega
  ·split at h<;>simp at h<;>omega
theorem Qr7 (r:Rg):0<=Xp r∧Xp r<8:=by
 unfold Xp;split<;>omega
theorem QkO (r:Rg):0<=Kc r∧Kc r<2:=by
 unfold Kc;split
 ·rename_i h;have:=QEm h;omega
 ·omega
theorem Vl (r:Rg) (H:Qa):Qg prog ZV [.agg r.cells.toArray] H λu H'=>u=.int .i64 (Xp r)∧∃k,H'=H.up k:=by
 refine QvW λhw=>?_;have q:=J8 r;have hv:=@QEm r;unfold Xp;obtain⟨v,ev⟩:∃v,Q9 r=v:=⟨_,rfl⟩;rw[ev]at q hv ⊢;obtain⟨c,n⟩:=r;simp only[Rg.cells]at q;simp only[Rg.cells,QoL,Qb,simprocAttr];refine(q _).thenW ?_;rintro _ _ hn hw2 ⟨rfl,k,rfl⟩;simp only[Qe,Qy]at hn;cases v with
 | false=>
  simp only[Qb,simprocAttr,LM,QmH];exact .ext hw (((Ext.refl H).push _).up (by rw[Qe];exact hn)) ⟨by simp,_,rfl⟩
 | true=>
  have hb:=hv rfl;simp only[sxA,sxB,Nat.reduceBEq,Nat.reduceEqDiff,reduceCtorEq,mxA,mxB,Nat.reduceAdd,reduceIte,Nat.reduceLeDiff,splice,L8,QmH];have e:n.tmod 8=n % 8:=BM hb.1;exact⟨by decide,.ext hw (((Ext.refl H).push _).up (by rw[Qe];exact hn)) ⟨by rw[e],_,rfl⟩⟩
theorem QbO (r:Rg) (H:Qa):Qg prog ZA [.agg r.cells.toArray] H λu H'=>u=.int .i64 (Kc r)∧∃k,H'=H.up k:=by
 refine QtV λhw=>?_;have q:=J8 r;have hv:=@QEm r;unfold Kc;obtain⟨v,ev⟩:∃v,Q9 r=v:=⟨_,rfl⟩;rw[ev]at q hv ⊢;obtain⟨c,n⟩:=r;simp only[Rg.cells]at q;simp only[Rg.cells,QmI,Qb,simprocAttr];refine(q _).thenW ?_;rintro _ _ hn hw2 ⟨rfl,k,rfl⟩;simp only[Qe,Qy]at hn;cases v with
 | false=>
  simp only[Qb,simprocAttr,LM,QkD];exact .ext hw (((Ext.refl H).push _).up (by rw[Qe];exact hn)) ⟨by simp,_,rfl⟩
 | true=>
  have hb:=hv rfl;simp only[sxA,sxB,Nat.reduceBEq,Nat.reduceEqDiff,reduceCtorEq,mxA,mxB,Nat.reduceAdd,reduceIte,Nat.reduceLeDiff,splice,L8,QkD];have e:IntKind.i64.wrap (n.tdiv 8)=n / 8:=by
   rw[Int.tdiv_eq_ediv_of_nonneg hb.1];have hb':0<=n∧n<16:=hb;exact w64 (show I64 (n / 8) by unfold I64;omega)
  exact⟨by decide,.ext hw (((Ext.refl H).push _).up (by rw[Qe];exact hn)) ⟨by rw[e],_,rfl⟩⟩
def Qr8 (r:Rg):Bool:=(r.c==1)&&decide (4<=r.n)&&decide (r.n<=7)
def Qxa (r:Rg):Bool:=(r.c==2)&&Q9 r
theorem Qt2 (r:Rg) (H:Qa):Qg prog Qgp [.agg r.cells.toArray] H λu H'=>u=.bool (Qr8 r)∧∃k,H'=H.up k:=by
 refine Qr3 λhw=>?_;obtain⟨c,n⟩:=r;unfold Qr8;simp only[Rg.cells,QkJ,Qb,simprocAttr];cases h:c==1<;>cases h2:decide (4<=n)<;>simp only[Qb,simprocAttr,h,h2,Qp5]
 all_goals exact .ext hw ((Ext.refl H).push _) ⟨by simp,_,rfl⟩
theorem QvZ (r:Rg) (H:Qa):Qg prog QiJ [.agg r.cells.toArray] H λu H'=>u=.bool (Qxa r)∧∃k,H'=H.up k:=by
 refine QtY λhw=>?_;have q:=J8 r;unfold Qxa;obtain⟨v,ev⟩:∃v,Q9 r=v:=⟨_,rfl⟩;rw[ev]at q ⊢;obtain⟨c,n⟩:=r;simp only[Rg.cells]at q;simp only[Rg.cells,QmL,Qb,simprocAttr];cases h:c==2 with
 | false=>
  simp only[Qb,simprocAttr,h,QkK];exact .ext hw ((Ext.refl H).push _) ⟨rfl,_,rfl⟩
 | true=>
  simp only[Qb,simprocAttr,h];refine(q _).thenW ?_;rintro _ _ hn hw2 ⟨rfl,k,rfl⟩;simp only[Qe,Qy]at hn;simp only[Qb,simprocAttr,QkK];exact .ext hw (((Ext.refl H).push _).up (by rw[Qe];exact hn)) ⟨rfl,_,rfl⟩
def QR (h m l:Int):Int:=h * 64+m * 8+l
theorem QAx:∀h:Fin 4,∀m:Fin 8,∀l:Fin 8,IntKind.u8.wrap (IntKind.i64.wrap (BitVec.ofInt IntKind.i64.bits (IntKind.i64.wrap (BitVec.ofInt IntKind.i64.bits (IntKind.i64.wrap ((h:Nat) * 2 ^ min ((6:Int)).toNat IntKind.i64.bits)) ||| BitVec.ofInt IntKind.i64.bits (IntKind.i64.wrap ((m:Nat) * 2 ^ min ((3:Int)).toNat IntKind.i64.bits))).toNat) ||| BitVec.ofInt IntKind.i64.bits ((l:Nat):Int)).toNat)=QR (h:Nat) (m:Nat) (l:Nat):=by decide +kernel
theorem Yd (h m l:Int) (hh:0<=h∧h<4) (hm:0<=m∧m<8) (hl:0<=l∧l<8) (H:Qa):Qg prog WH [.int .i64 h,.int .i64 m,.int .i64 l] H λu H'=>u=.int .u8 (QR h m l)∧H'=H:=by
 refine QpZ λhw=>?_;simp only[Qic,sxA,sxB,Nat.reduceBEq,Nat.reduceEqDiff,reduceCtorEq,mxA,mxB,Nat.reduceAdd,reduceIte,Nat.reduceLeDiff,splice,QoO];have e:=QAx ⟨h.toNat,by omega⟩ ⟨m.toNat,by omega⟩ ⟨l.toNat,by omega⟩;simp only[Bi hh.1,Bi hm.1,Bi hl.1]at e;refine⟨by decide,by decide,.mk (Lb _) ⟨?_,rfl⟩⟩;rw[<- e]
theorem QcQ (n sz:Int) (hn:I64 n) (H:Qa):Qg prog ZC [.int .i64 n,.int .i64 sz] H λv H'=>Gx 1 5 H H' v (Vk n sz).1.length (bys (Vk n sz).1)∧Ext H H':=by
 refine Qr0 λhw=>?_;simp only[QkH,Qb,simprocAttr];refine(QmM n sz hn H).thenW ?_;rintro _ H1 _ hw1 ⟨v,rfl,hv,hx⟩;simp only[Qb,simprocAttr,Qp2];exact .mk hx.next ⟨hv,hx⟩
def noK:CallF:=λ_ _ _=>none
theorem QAy:CallOk prog noK:=λ_ _ _ _ _ h=>by cases h
def isW (u:Value):Option (Value×Qa)->Bool
 | some (v,_)=>Qa7 6 u v
 | none=>false
theorem Qt3 {F G k:Nat} {f:FuncId} {args:List Value} {u:Value} (he:entered prog f=true) (ha:args.all Ab.plain=true) (hu:Ab.plain u=true) (h:isW u ((run prog noK F G k).fn f args (H0 prog))=true) (H:Qa):Qg prog f args H λv H'=>v=u∧H'=H:=by
 unfold isW at h;split at h
 ·rename_i v H1 hr;have hd:=((Qdn QAy k).fn f args _ _ H1 hr).does he;have e:u=v:=Kk 6 _ _ h;subst e;exact QcU he (Qtv hd ha hu H)
 ·cases h
def Vm (n:Int):Int:=if n=2 then 1 else if n=4 then 2 else if n=8 then 3 else 0
theorem Qt4 (n:Int):0<=Vm n∧Vm n<4:=by unfold Vm;repeat' (split<;>try omega)
theorem Qv0:(([1,2,4,8]:List Int).all λn=>isW (.int .i64 (Vm n)) ((run prog noK 100 5 10).fn Vs [.int .i64 n] (H0 prog)))=true:=by kernel_rfl
theorem Qij (n:Int) (hn:Wx n=true) (H:Qa):Qg prog Vs [.int .i64 n] H λu H'=>u=.int .i64 (Vm n)∧H'=H:=by
 have hm:n∈([1,2,4,8]:List Int):=by
  unfold Wx at hn;simp only[Nw,L0]at hn;simp only[LK,Ns,NN];omega
 exact Qt3 (by kernel_rfl) rfl rfl (Li.1 Qv0 n hm) H
structure Ld where
 b:List Int
 x:Int
 h:Int
 deriving DecidableEq
def LdV (H0 H:Qa) (w:Ld) (v:Value):Prop:=∃s,v=.agg #[s,.int .i64 w.x,.int .i64 w.h]∧Gx 1 5 H0 H s w.b.length (bys w.b)
theorem QgZ (n sz:Int) (h:sz<=8):(Vk n sz).1.length<=8:=by
 unfold Vk;split
 ·simp
 ·split
  ·simp
  ·simp[Qjm];omega
def Qe1 (mid:Int) (ix:Rg) (f d:Int):Ld:=⟨[QR 0 mid 4,bif isR ix 0 0 then QR 0 4 5 else QR (Vm f) (Xp ix) 5]++(Vk d 4).1,Kc ix,0⟩
theorem Qik (mid:Int) (ix:Rg) (f d:Int) (hm:0<=mid∧mid<8) (hf:isR ix 0 0=false->Wx f=true) (hd:I64 d) (H:Qa):
  Qg prog Vr [.int .i64 mid,.agg ix.cells.toArray,.int .i64 f,.int .i64 d] H λv H'=>LdV H H' (Qe1 mid ix f d) v∧Ext H H':=by
 refine QoS λhw=>?_;have hl:=Qr7 ix;have hsc:=Qt4 f;have q1:=Vl ix;have q2:=QbO ix;have hpl:=QgZ d 4 (by decide);have he:(ix.c==0&&ix.n==0)=isR ix 0 0:=rfl;have j45:QR 0 4 5=37:=rfl;obtain⟨w,ew⟩:∃w,w=Qe1 mid ix f d:=⟨_,rfl⟩;rw[<- ew];unfold Qe1 at ew;obtain⟨lo,elo⟩:∃lo,Xp ix=lo:=⟨_,rfl⟩;obtain⟨hi,ehi⟩:∃hi,Kc ix=hi:=⟨_,rfl⟩;rw[elo]at q1 hl ew;rw[ehi]at q2 ew;clear elo ehi;obtain⟨c,n⟩:=ix;simp only[Rg.cells]at q1 q2;simp only[Rg.cells,QgS,Qb,simprocAttr];generalize hH1:Qa.push (Qa.push H _) _=H1;have hx1:Ext H H1:=by rw[<- hH1];exact((Ext.refl H).push _).push _
 have hw1:H1.Wf:=by rw[<- hH1];exact(hw.push _).push _
 have g0:H1.get H.next=some (.cells [.int .i64 c,.int .i64 n] QL false):=by rw[<- hH1,Qd,Le (by rw[Qe];omega),Qd,Lc rfl]
 have g1:H1.get (H.next+1)=some (.cells [.slice none 0 0,.int .i64 0,.int .i64 0] Qq false):=by rw[<- hH1,Qd,Lc (by rw[Qe])]
 have hn1:H1.next=H.next+2:=by rw[<- hH1];rfl
 clear hH1;refine(Yd 0 4 5 (by decide) (by decide) (by decide) H1).thenW ?_;rintro _ H1 _ _ ⟨rfl,rfl⟩
 -- the end,of any byte of SIB
 have hend:∀ (sib:Int) (A:Env) (H2:Qa),Ext H1 H2->H2.Wf->w=⟨[QR 0 mid 4,sib]++(Vk d 4).1,hi,0⟩->A 0=.int .i64 mid->A 3=.int .i64 d->A 5=.pointer (some ⟨H.next,0,none⟩)->A 8=.pointer (some ⟨H.next+1,0,none⟩)->A 9=.int .u8 sib->
   Qs prog (.seq (.ops [Om 20 (t 0),Ow 21 (.call WH [(Ci 0),(t 20),(Ci 4)]),Om 22 (t 9),Ow 23 (.bslice 5 1 2 [.int .u8 0,.int .u8 0] [(0,(t 21)),(1,(t 22))]),Om 24 (t 3),Ow 25 (.call ZC [(t 24),(Ci 4)]),Ow 26 (.app 5 1 1 (t 23) (t 25)),Om 10 (t 26)]) (.seq (.ops [Om 27 (t 10),Ow 28 (.ld true 2 (t 5)),Ow 29 (.call ZA [(t 28)]),Ow 30 (.build [.slice none 0 0,.int .i64 0,.int .i64 0] [(0,1,(t 27)),(1,1,(t 29))]),Ov (.st 3 (t 8) (t 30))]) .ret)) ⟨Rt prog Qig H λv H'=>LdV H H' w v∧Ext H H',YO⟩ (Rt prog Qig H λv H'=>LdV H H' w v∧Ext H H') A H2:=by
  intro sib A H2 hx2 hw2 e r0 r3 r5 r8 r9;simp only[Qb,simprocAttr,r0,r3,r5,r8,r9];refine(Yd 0 mid 4 (by decide) hm (by decide) H2).thenW ?_;rintro _ H2 _ _ ⟨rfl,rfl⟩;simp only[Qb,simprocAttr,r0,r3,r5,r8,r9];have hx3:=(Ext.refl H2).push (.cells [.int .u8 (QR 0 mid 4),.int .u8 sib] 5 false);have hw3:=hw2.push (.cells [.int .u8 (QR 0 mid 4),.int .u8 sib] 5 false);have hs3:Gx 1 5 H2 (H2.push (.cells [.int .u8 (QR 0 mid 4),.int .u8 sib] 5 false)) (.slice (some ⟨H2.next,0,none⟩) 2 2) 2 (bys [QR 0 mid 4,sib]):=.inr ⟨_,_,rfl,Lb _,by rw[Qd,Lc rfl];rfl,rfl,.inl rfl⟩;generalize H2.push _=H3 at *;refine(QcQ d 4 hd H3).thenW ?_;rintro v4 H4 _ hw4 ⟨hv4,hx4⟩;simp only[Qb,simprocAttr];refine Qdf (hs3.go hw3 hx4) (hx3.trans hx4) hw4 hv4.src (QcP _) (by rw[JC,NH]) (by omega) (by omega) ?_;intro v5 H5 hg5 hk5;have k0:H5.get H.next=some (.cells [.int .i64 c,.int .i64 n] QL false):=by rw[(hx2.trans hk5.x).get _ (by omega)];exact g0
  simp only[Qb,simprocAttr,r5,k0];refine(q2 H5).thenW ?_;rintro _ _ hn6 hw6 ⟨rfl,k,rfl⟩;simp only[Qy]at hn6;have hx6:=(hx2.trans hk5.x).up hn6;have k1:H5.get (H.next+1)=some (.cells [.slice none 0 0,.int .i64 0,.int .i64 0] Qq false):=by rw[(hx2.trans hk5.x).get _ (by omega)];exact g1
  obtain⟨a5,c5,rfl⟩:=hg5.slc;simp only[Qb,simprocAttr,r8,k1,Qm7];have hx7:=hx1.trans hx6;have hx8:=hx7.set (i:=H.next+1) (by omega) (.cells [.slice a5 (2+(Vk d 4).1.length) c5,.int .i64 hi,.int .i64 0] Qq false);refine .mk hx8.next ⟨⟨_,by rw[e],?_⟩,hx8⟩;have hl9:w.b.length=2+(Vk d 4).1.length:=by rw[e];simp only[Lh,Lo,L9]
  have hb9:bys w.b=bys [QR 0 mid 4,sib]++bys (Vk d 4).1:=by rw[e,QaT]
  have hle:=hx1.next;have hle2:=hx2.next;rw[hl9,hb9];refine(hg5.down (H0:=H) (by omega)).ext λid hid=>?_;have hlo:=hg5.low hk5.w hid;rw[Qn,Le (by omega),Z9]
 simp only[Qb,simprocAttr,g0,Qz,Lq,he];cases hz:isR ⟨c,n⟩ 0 0 with
 | true=>
  rw[hz,Lq]at ew;simp only[L8,QiE,Qn2];refine hend 37 _ H1 (.refl _) hw1 ?_ ?_ ?_ ?_ ?_ ?_
  ·rw[ew,j45]
  all_goals simp only[Ql,simprocAttr,j45]
 | false=>
  rw[hz,Ls]at ew;simp only[LM,QwP,Qb,simprocAttr];refine⟨by omega,?_⟩;refine(Qij f (hf hz) H1).thenW ?_;rintro _ H1 _ _ ⟨rfl,rfl⟩;simp only[Qb,simprocAttr,g0];refine⟨λ_ _=>rfl,by simp[Qm,Ab.plain],?_⟩;refine(q1 H1).thenW ?_;rintro _ _ hn3 hw3 ⟨rfl,k,rfl⟩;simp only[Qy]at hn3;simp only[Qb,simprocAttr];refine(Yd (Vm f) lo 5 hsc hl (by decide) _).thenW ?_;rintro _ _ _ hw4 ⟨rfl,rfl⟩;simp only[Qa9,JH,JX,Qhk,QwQ];refine hend _ _ (H1.up k) ((Ext.refl H1).up hn3) hw3 ew ?_ ?_ ?_ ?_ ?_
  all_goals simp only[Ql,simprocAttr]
def QEn (pre:Int):List Int:=(if pre % 2=1 then[102] else[])++((if pre / 2 % 2=1 then[242] else[])++(if pre / 4 % 2=1 then[243] else[]))
def Qd6 (pre rx:Int):List Int:=QEn pre++(if 0<=rx then[64+rx] else[])
def QFs:Option (Value×Qa)->Nat
 | some (.tuple xs,_)=>match xs.toList with | .slice (some a) _ _::_=>a.block | _=>0
 | _=>0
def Qxb (bs:List Int) (e:Int):Value:=.tuple #[bif bs.isEmpty then .slice none 0 0 else .slice (some ⟨prog.globals.size,0,none⟩) bs.length (UNK+1),.int .i64 e]
def Qxc (r:Option (Value×Qa)) (bs:List Int):List Row:=bif bs.isEmpty then[] else[⟨QFs r,bys bs,5,false⟩]
def QAz (f:FuncId) (args:List Value):Option (Value×Qa):=(run prog noK 2000 5 20).fn f args (Xc prog.globals.size [])
theorem Qr9 {f:FuncId} {args:List Value} {bs:List Int} {e:Int} (he:entered prog f=true) (ha:args.all XA=true) (h:Qmv prog.globals.size (Qxb bs e) (Qxc (QAz f args) bs) (QAz f args)=true) (H:Qa):Qg prog f args H λu H'=>∃v,u=.tuple #[v,.int .i64 e]∧Gx 1 5 H H' v bs.length (bys bs)∧Ext H H':=by
 have hd:=Qtu QAy (tabs:=[]) he ha rfl h H rfl;intro hw;cases hb:bs.isEmpty with
 | true=>
  have hbs:bs=[]:=DF.1 hb;subst hbs;exact⟨_,_,.inl ⟨he,hd⟩,Lb _,hw,.slice none 0 0,rfl,.inl ⟨rfl,rfl,rfl⟩,.refl _⟩
 | false=>
  have hx:Ext H (H.push (.cells (bys bs) 5 false)):=(Ext.refl H).push _;refine⟨.tuple #[.slice (some ⟨H.next,0,none⟩) bs.length (UNK+1),.int .i64 e],H.push (.cells (bys bs) 5 false),.inl ⟨he,?_⟩,hx.next,hw.push _,_,rfl,.inr ⟨_,_,rfl,Lb _,by rw[Qd,Lc rfl],by rw[JC,NH],.inr ⟨rfl,by cases bs with | nil=>cases hb | cons=>simp⟩⟩,hx⟩
  by_cases hG:prog.globals.size<=H.next
  ·have e1:shV prog.globals.size (H.next - prog.globals.size) 6 (Qxb bs e)=.tuple #[.slice (some ⟨H.next,0,none⟩) bs.length (UNK+1),.int .i64 e]:=by
    have hs:shN prog.globals.size (H.next - prog.globals.size) prog.globals.size=H.next:=by
     unfold shN;have:Nat.blt prog.globals.size prog.globals.size=false:=by
      cases hq:Nat.blt prog.globals.size prog.globals.size with
      | false=>rfl
      | true=>rw[B5]at hq;omega
     rw[this,Ls];omega
    unfold Qxb;rw[hb,Ls];show Value.tuple #[.slice (some ⟨shN prog.globals.size (H.next - prog.globals.size) prog.globals.size,0,none⟩) bs.length (UNK+1),.int .i64 e]=_;rw[hs]
   have e2:QmW prog.globals.size (Qxc (QAz f args) bs) H=H.push (.cells (bys bs) 5 false):=by
    have e3:(bys bs).map (shV prog.globals.size (H.next - prog.globals.size) 6)=bys bs:=by
     unfold bys;rw[Ht];rfl
    unfold Qxc;rw[hb,Ls];show H.push (.cells ((bys bs).map (shV prog.globals.size (H.next - prog.globals.size) 6)) 5 false)=_;rw[e3]
   rw[e1,e2]at hd;exact hd
  ·intro ρ w args' hs _;exfalso;obtain⟨i,hi,_⟩:=hs.glob H.next (by omega);rw[hs.none_next]at hi;cases hi
def Qsa:List (Int×Int):=([0,1,2,3,4,5]:List Int).flatMap λp=>((List.range 17).map fun(k:Nat)=>(p,(k:Int) - 1))
theorem QAA:(Qsa.all λp=>Qmv prog.globals.size (Qxb (Qd6 p.1 p.2) 0) (Qxc (QAz Qho [.int .i64 p.1,.int .i64 p.2]) (Qd6 p.1 p.2)) (QAz Qho [.int .i64 p.1,.int .i64 p.2]))=true:=by kernel_rfl
theorem QyT (pre rx:Int) (hp:0<=pre∧pre<=5) (hr:-1<=rx∧rx<=15) (H:Qa):Qg prog Qho [.int .i64 pre,.int .i64 rx] H λu H'=>∃v,u=.tuple #[v,.int .i64 0]∧Gx 1 5 H H' v (Qd6 pre rx).length (bys (Qd6 pre rx))∧Ext H H':=by
 have hm:(pre,rx)∈Qsa:=by
  unfold Qsa;rw[NF];refine⟨pre,?_,N4.2 ⟨(rx+1).toNat,LU.2 (by omega),?_⟩⟩
  ·simp only[LK,Ns,NN];omega
  ·have:((rx+1).toNat:Int) - 1=rx:=by omega
   rw[this]
 exact Qr9 (by kernel_rfl) rfl (Li.1 QAA _ hm) H
def QDn (n:Int) (p:Int×Int):Int:=IntKind.i64.wrap (BitVec.ofInt IntKind.i64.bits (IntKind.i64.wrap (n * 2 ^ (min p.2.toNat IntKind.i64.bits))) ||| BitVec.ofInt IntKind.i64.bits p.1).toNat
def QoY (ps:List (Int×Int)):Int:=ps.foldl QDn 0
def prs (ps:List (Int×Int)):List Value:=ps.flatMap λp=>[.int .i64 p.1,.int .i64 p.2]
theorem Qxd:∀ps:List (Int×Int),(prs ps).length=ps.length * 2
 | []=>rfl
 | p::ps=>by
  have:=Qxd ps;unfold prs at *;rw[Ba,Lh,this];simp;omega
theorem QAB:∀ (ps:List (Int×Int)) (i:Nat) (p:Int×Int),ps[i]? = some p->((prs ps).drop (i * 2)).take 2=[.int .i64 p.1,.int .i64 p.2]
 | [],i,p,h=>by simp at h
 | q::ps,0,p,h=>by simp at h;subst h;rfl
 | q::ps,i+1,p,h=>by
  have:=QAB ps i p (by simpa using h);have e:prs (q::ps)=[.int .i64 q.1,.int .i64 q.2]++prs ps:=rfl;rw[e,show(i+1) * 2=2+i * 2 by omega,<- Rc];exact this
theorem QqY (ps:List (Int×Int)) (hp:∀p∈ps,0<=p.2) (hl:ps.length<=100) {b cap:Nat} {e:TypeId} {ro:Bool} (H:Qa) (hg:H.get b=some (.cells (prs ps) e ro)):Qg prog Qdo [.slice (some ⟨b,0,none⟩) ps.length cap] H λu H'=>u=.int .i64 (QoY ps)∧Ext H H':=by
 refine QvY λhw=>?_;have hlt:=hw.lt hg;simp only[QoT,Qb,simprocAttr,QU];refine QB (λm A' H'=>∃i:Nat,i<=ps.length∧m=ps.length - i∧H'.Wf∧Ext H H'∧A' 3=.int .i64 (QoY (ps.take i))∧A' 6=.slice (some ⟨b,0,none⟩) ps.length cap∧A' 7=.int .i64 ps.length∧A' 8=.int .i64 i) ps.length ?_ ?_
 ·refine⟨0,L7 _,by omega,hw,.refl _,?_,?_,?_,?_⟩
  all_goals simp only[Ql,simprocAttr]
  all_goals rfl
 ·rintro m A' H' ⟨i,hi,rfl,hw',hx,r3,r6,r7,r8⟩;simp only[Qb,simprocAttr,r7,r8];refine Qi (λh2=>?_) (λh2=>?_)
  ·have h2:i<ps.length:=by have:=Lg h2;omega
   obtain⟨p,hpi⟩:∃p,ps[i]? = some p:=⟨_,La h2⟩;have h0:=hp p (Ln hpi);have d1:(0:Int)<=i∧(i:Int)<ps.length:=by omega
   have d3:(i:Int).toNat=i:=by omega
   have ei:IntKind.i64.wrap ((i:Int)+1)=((i+1:Nat):Int):=by rw[w64 (by unfold I64;omega)];omega
   have hle:i * 2+2<=(prs ps).length:=by rw[Qxd];omega
   have hgb:H'.get b=some (.cells (prs ps) e ro):=by rw[hx.get _ hlt];exact hg
   have htk:=QAB ps i p hpi;have htl:QoY (ps.take (i+1))=QDn (QoY (ps.take i)) p:=by
    unfold QoY;rw[Nv,hpi,List.foldl_append];rfl
   simp only[Qb,simprocAttr,r3,r6,r8,d1,d3,hgb,htk,h0];refine⟨hle,?_⟩;refine⟨ps.length - (i+1),by omega,i+1,by omega,rfl,?_,((hx.push _).set (by have:=hx.next;omega) _),?_,?_,?_,?_⟩
   ·exact(hw'.push _).set (b0:=.cells [.int .i64 0,.int .i64 0] YJ false) (by rw[Qd,Lc rfl]) _
   ·rw[htl];simp only[Ql,simprocAttr];rfl
   all_goals simp only[Ql,simprocAttr,r6,r7,r8,ei]
  ·have h2:i=ps.length:=by have:=Ll h2;omega
   subst h2;rw[Nr]at r3;simp only[Qb,simprocAttr,r3,QtW];exact .mk hx.next ⟨rfl,hx⟩
structure Vx where
 r:Int
 x:Int
 b:Int
 mp:Int
 w:Int
 v:Int
 l:Int
 pre:Int
def Vx.cells (y:Vx):List Value:=[.int .i64 y.r,.int .i64 y.x,.int .i64 y.b,.int .i64 y.mp,.int .i64 y.w,.int .i64 y.v,.int .i64 y.l,.int .i64 y.pre]
structure Vx.Ok (y:Vx):Prop where
 r:0<=y.r∧y.r<2
 x:0<=y.x∧y.x<2
 b:0<=y.b∧y.b<2
 mp:1<=y.mp∧y.mp<4
 w:0<=y.w∧y.w<2
 v:0<=y.v∧y.v<16
 l:0<=y.l∧y.l<2
 pre:y.pre=0∨y.pre=1∨y.pre=2∨y.pre=4
def QbP (n:Int):Int:=if n=1 then 1 else if n=4 then 2 else if n=2 then 3 else 0
theorem Qxe (n:Int):0<=QbP n∧QbP n<4:=by unfold QbP;repeat' (split<;>try omega)
theorem QkP (n:Int) (H:Qa):Qg prog QaN [.int .i64 n] H λu H'=>u=.int .i64 (QbP n)∧H'=H:=by
 refine Qp4 λhw=>?_;simp only[Qih,Qb,simprocAttr];unfold QbP
 repeat' (first
  | (refine Qi (λh=>?_) (λh=>?_)<;>(try simp only[L0,LC,Da]at h)<;>simp only[Qba,simprocAttr,h,QoU,N3,LN])
  | fail)
 all_goals exact .mk (Lb _) ⟨rfl,rfl⟩
def vb2 (y:Vx):Int:=(1 - y.r) * 128+(15 - y.v) * 8+y.l * 4+QbP y.pre
def vbm (y:Vx):Int:=(1 - y.r) * 128+(1 - y.x) * 64+(1 - y.b) * 32+y.mp
def vbn (y:Vx):Int:=y.w * 128+(15 - y.v) * 8+y.l * 4+QbP y.pre
def Qd7 (y:Vx):List Int:=[196,vbm y,vbn y]
theorem QCu:∀r:Fin 2,∀v:Fin 16,∀l:Fin 2,∀p:Fin 4,IntKind.u8.wrap (IntKind.i64.wrap (BitVec.ofInt IntKind.i64.bits (QoY [((r:Nat),1),((v:Nat),4),((l:Nat),1),((p:Nat),2)]) ^^^ BitVec.ofInt IntKind.i64.bits 248).toNat)=(1 - (r:Nat):Int) * 128+(15 - (v:Nat):Int) * 8+(l:Nat) * 4+(p:Nat):=by decide +kernel
theorem QCv:∀r:Fin 2,∀v:Fin 16,∀l:Fin 2,∀p:Fin 4,IntKind.u8.wrap (IntKind.i64.wrap (BitVec.ofInt IntKind.i64.bits (QoY [((r:Nat),1),((v:Nat),4),((l:Nat),1),((p:Nat),2)]) ^^^ BitVec.ofInt IntKind.i64.bits 120).toNat)=((r:Nat):Int) * 128+(15 - (v:Nat):Int) * 8+(l:Nat) * 4+(p:Nat):=by decide +kernel
theorem QCw:∀r:Fin 2,∀x:Fin 2,∀b:Fin 2,∀m:Fin 4,IntKind.u8.wrap (IntKind.i64.wrap (BitVec.ofInt IntKind.i64.bits (QoY [((r:Nat),1),((x:Nat),1),((b:Nat),1),((m:Nat),5)]) ^^^ BitVec.ofInt IntKind.i64.bits 224).toNat)=(1 - (r:Nat):Int) * 128+(1 - (x:Nat):Int) * 64+(1 - (b:Nat):Int) * 32+(m:Nat):=by decide +kernel
theorem QEo {y:Vx} (h:y.Ok):IntKind.u8.wrap (IntKind.i64.wrap (BitVec.ofInt IntKind.i64.bits (QoY [(y.r,1),(y.v,4),(y.l,1),(QbP y.pre,2)]) ^^^ BitVec.ofInt IntKind.i64.bits 248).toNat)=vb2 y:=by
 have hp:=Qxe y.pre;have hr:=h.r;have hv:=h.v;have hl:=h.l;have e:=QCu ⟨y.r.toNat,by omega⟩ ⟨y.v.toNat,by omega⟩ ⟨y.l.toNat,by omega⟩ ⟨(QbP y.pre).toNat,by omega⟩;simp only[Bi hr.1,Bi hv.1,Bi hl.1,Bi hp.1]at e;exact e
theorem QEp {y:Vx} (h:y.Ok):IntKind.u8.wrap (IntKind.i64.wrap (BitVec.ofInt IntKind.i64.bits (QoY [(y.w,1),(y.v,4),(y.l,1),(QbP y.pre,2)]) ^^^ BitVec.ofInt IntKind.i64.bits 120).toNat)=vbn y:=by
 have hp:=Qxe y.pre;have hr:=h.w;have hv:=h.v;have hl:=h.l;have e:=QCv ⟨y.w.toNat,by omega⟩ ⟨y.v.toNat,by omega⟩ ⟨y.l.toNat,by omega⟩ ⟨(QbP y.pre).toNat,by omega⟩;simp only[Bi hr.1,Bi hv.1,Bi hl.1,Bi hp.1]at e;exact e
theorem QEq {y:Vx} (h:y.Ok):IntKind.u8.wrap (IntKind.i64.wrap (BitVec.ofInt IntKind.i64.bits (QoY [(y.r,1),(y.x,1),(y.b,1),(y.mp,5)]) ^^^ BitVec.ofInt IntKind.i64.bits 224).toNat)=vbm y:=by
 have hr:=h.r;have hx:=h.x;have hb:=h.b;have hm:=h.mp;have hm0:0<=y.mp:=by omega
 have e:=QCw ⟨y.r.toNat,by omega⟩ ⟨y.x.toNat,by omega⟩ ⟨y.b.toNat,by omega⟩ ⟨y.mp.toNat,by omega⟩;simp only[Bi hr.1,Bi hx.1,Bi hb.1,Bi hm0]at e;exact e
theorem QoZ {y:Vx} (h:y.Ok) (H:Qa):Qg prog QeK [.agg y.cells.toArray] H λv H'=>Gx 1 5 H H' v 3 (bys (Qd7 y))∧Ext H H'∧∃a,v=.slice a 3 3:=by
 refine QtX λhw=>?_;have em:=QEq h;have en:=QEp h;unfold Qd7;generalize vbm y=zm at *;generalize vbn y=zn at *;have hlay:=fun(ps:List (Int×Int)) hp hl (b cap:Nat) e ro (H:Qa)=>QqY (cap:=cap) (b:=b) (e:=e) (ro:=ro) ps hp hl H;obtain⟨r,x,b,mp,w,v,l,pre⟩:=y;simp only at em en;simp only[Vx.cells,QmK,Qb,simprocAttr,Nat.reduceMul];generalize hH1:Qa.push (Qa.push H _) _=H1;have hx1:Ext H H1:=by rw[<- hH1];exact((Ext.refl H).push _).push _
 have g1:H1.get (H.next+1)=some (.cells (prs [(r,1),(x,1),(b,1),(mp,5)]) YJ false):=by rw[<- hH1,Qd,Lc (by rw[Qe])];rfl
 have g0:H1.get H.next=some (.cells [.int .i64 r,.int .i64 x,.int .i64 b,.int .i64 mp,.int .i64 w,.int .i64 v,.int .i64 l,.int .i64 pre] Wh false):=by rw[<- hH1,Qd,Le (by rw[Qe];omega),Qd,Lc rfl]
 have hn1:H1.next=H.next+2:=by rw[<- hH1];rfl
 clear hH1;refine(hlay [(r,1),(x,1),(b,1),(mp,5)] (by simp) (by simp) _ _ _ _ H1 g1).thenW ?_;rintro _ H2 _ hw2 ⟨rfl,hx2⟩;have k0:=(hx2.get H.next (by omega)).trans g0;simp only[Qb,simprocAttr,k0];refine⟨by simp[Qm,Ab.plain],by simp[Qm,Ab.plain],by simp[Qm,Ab.plain],?_⟩;refine(QkP pre H2).thenW ?_;rintro _ H2 _ _ ⟨rfl,rfl⟩;simp only[Qb,simprocAttr,Nat.reduceMul];refine⟨λ_ _=>rfl,?_⟩;generalize hH3:Qa.push H2 _=H3;have hx3:Ext H2 H3:=by rw[<- hH3];exact(Ext.refl H2).push _
 have g3:H3.get H2.next=some (.cells (prs [(w,1),(v,4),(l,1),(QbP pre,2)]) YJ false):=by rw[<- hH3,Qd,Lc rfl];rfl
 clear hH3;refine(hlay [(w,1),(v,4),(l,1),(QbP pre,2)] (by simp) (by simp) _ _ _ _ H3 g3).thenW ?_;rintro _ H4 _ hw4 ⟨rfl,hx4⟩;simp only[Qb,simprocAttr,em,en,Qr2];have hx5:=(((hx1.trans hx2).trans hx3).trans hx4);have hx6:=hx5.push (.cells [.int .u8 196,.int .u8 zm,.int .u8 zn] 5 false);exact .mk hx6.next ⟨.inr ⟨_,_,rfl,hx5.next,by rw[Qd,Lc rfl];rfl,rfl,.inl rfl⟩,hx6,_,rfl⟩
theorem Qt5 {y:Vx} (h:y.Ok) (H:Qa):Qg prog Qgo [.agg y.cells.toArray] H λu H'=>u=.int .i64 0∧Ext H H':=by
 refine Qr1 λhw=>?_;have hh:=h;obtain⟨h1,h2,h3,h4,h5,h6,h7,h8⟩:=h;obtain⟨r,x,b,mp,w,v,l,pre⟩:=y;simp only at h1 h2 h3 h4 h5 h6 h7 h8;simp only[Vx.cells,QkI,Qb,simprocAttr,QU];generalize hH1:Qa.push (Qa.push H _) _=H1;have hx1:Ext H H1:=by rw[<- hH1];exact((Ext.refl H).push _).push _
 have g1:H1.get (H.next+1)=some (.cells (ints [r,x,b,w,l]) 3 false):=by rw[<- hH1,Qd,Lc (by rw[Qe])];rfl
 have g0:H1.get H.next=some (.cells [.int .i64 r,.int .i64 x,.int .i64 b,.int .i64 mp,.int .i64 w,.int .i64 v,.int .i64 l,.int .i64 pre] Wh false):=by rw[<- hH1,Qd,Le (by rw[Qe];omega),Qd,Lc rfl]
 clear hH1;refine QB (λm A' H'=>∃i:Nat,i<=5∧m=5 - i∧H'=H1∧A' 1=.pointer (some ⟨H.next,0,none⟩)∧A' 15=.slice (some ⟨H.next+1,0,none⟩) 5 5∧A' 16=.int .i64 5∧A' 17=.int .i64 i) 5 ?_ ?_
 ·refine⟨0,by omega,rfl,rfl,?_,?_,?_,?_⟩
  all_goals simp only[Ql,simprocAttr]
  all_goals rfl
 ·rintro m A' H' ⟨i,hi,rfl,rfl,r1,r15,r16,r17⟩;simp only[QgX,Qb,simprocAttr,r16,r17];refine Qi (λh2=>?_) (λh2=>?_)
  ·have h2:i<5:=by have:=Lg h2;omega
   obtain⟨z,hz,hz2⟩:∃z,(ints [r,x,b,w,l])[i]? = some (.int .i64 z)∧0<=z∧z<2:=by
    rcases i with _ | _ | _ | _ | _ | i
    ·exact⟨r,rfl,h1⟩
    ·exact⟨x,rfl,by assumption⟩
    ·exact⟨b,rfl,h3⟩
    ·exact⟨w,rfl,h5⟩
    ·exact⟨l,rfl,h7⟩
    ·omega
   have d1:(0:Int)<=i∧(i:Int)<(5:Nat):=by omega
   have d3:(i:Int).toNat=i:=by omega
   have ei:IntKind.i64.wrap ((i:Int)+1)=((i+1:Nat):Int):=by rw[w64 (by unfold I64;omega)];omega
   simp only[QgW,sxA,sxB,Nat.reduceBEq,Nat.reduceEqDiff,reduceCtorEq,mxA,mxB,Nat.reduceAdd,reduceIte,Nat.reduceLeDiff,splice,r15,r17,d1,d3,g1,hz];rcases(show z=0∨z=1 by omega) with rfl | rfl
   ·simp only[Qb,simprocAttr,LO,L8,r17,ei];refine⟨5 - (i+1),by omega,i+1,by omega,rfl,rfl,?_,?_,?_,?_⟩
    all_goals simp only[Ql,simprocAttr,r1,r15,r16]
   ·have e10:((1:Int)==0)=false:=rfl;simp only[Qb,simprocAttr,e10,LO,LM,L8,r17,ei];refine⟨5 - (i+1),by omega,i+1,by omega,rfl,rfl,?_,?_,?_,?_⟩
    all_goals simp only[Ql,simprocAttr,r1,r15,r16]
  ·have e1:decide (mp<1)=false:=Lj (by omega);have e2:decide (3<mp)=false:=Lj (by omega);have e3:decide (v<0)=false:=Lj (by omega);have e4:decide (15<v)=false:=Lj (by omega);simp only[QgV,Qb,simprocAttr,r1,g0,e1,e2,e3,e4,B4];rcases h8 with rfl | rfl | rfl | rfl
   all_goals simp only[QgU,QgT,Qb,simprocAttr,r1,g0,LO,Int.reduceBEq,Qp3]
   all_goals exact .mk hx1.next ⟨rfl,hx1⟩
structure Gl (e:TypeId) (H0 H:Qa) (v:Value) (bss:List (List Int)):Prop where
 ne:e≠5
 it:∃ss:List Value,ss.length=bss.length∧Gx 1 e H0 H v bss.length ss∧∀ (j:Nat) s bs,ss[j]? = some s->bss[j]? = some bs->Gx 1 5 H0 H s bs.length (bys bs)
theorem Gl.nil {e:TypeId} (he:e≠5) (H0 H:Qa):Gl e H0 H (.slice none 0 0) []:=⟨he,[],rfl,.inl ⟨rfl,rfl,rfl⟩,λj s w h=>by simp at h⟩
theorem Gl.go {e:TypeId} {H0 H H':Qa} {v:Value} {ws:List (List Int)} (h:Gl e H0 H v ws) (hw:H.Wf) (hx:Ext H H'):Gl e H0 H' v ws:=by
 obtain⟨ss,h1,h2,h3⟩:=h.it;exact⟨h.ne,ss,h1,h2.go hw hx,λj s w hs hw'=>(h3 j s w hs hw').go hw hx⟩
theorem Gl.down {e:TypeId} {H0 H1 H:Qa} {v:Value} {ws:List (List Int)} (h:Gl e H1 H v ws) (hx:H0.next<=H1.next):Gl e H0 H v ws:=by
 obtain⟨ss,h1,h2,h3⟩:=h.it;exact⟨h.ne,ss,h1,h2.down hx,λj s w hs hw'=>(h3 j s w hs hw').down hx⟩
theorem Gl.slc {e:TypeId} {H0 H:Qa} {v:Value} {ws:List (List Int)} (h:Gl e H0 H v ws):∃a c,v=.slice a ws.length c:=by
 obtain⟨ss,h1,h2,h3⟩:=h.it;exact h2.slc
theorem Qsb {e bytes:Nat} {H0 H:Qa} {v s x:Value} {bs:List Int} {ws:List (List Int)} {k:Value->Qa->Prop} (hl:Gl e H0 H v ws) (hx:Ext H0 H) (hw:H.Wf) (hs:Gx 1 5 H0 H s bs.length (bys bs)) (hsrc:ZQ 1 x H=some (1,[s])) (hb:(ws.length+1) * bytes<=140737488355328) (hn:ws.length+1<=9223372036854775807)
  (h:∀v' H',Gl e H0 H' v' (ws++[bs])->GK v v' H0 H H'->k v' H'):Qeu e 1 bytes v x H k:=by
 obtain⟨ss,h1,h2,h3⟩:=hl.it;have hone:([s]:List Value).all (·.oneCell')=true:=by
  obtain⟨a,c,rfl⟩:=hs.slc;rfl
 refine Qdf h2 hx hw hsrc hone rfl hb hn ?_;intro v' H' hg hk;refine h v' H' ⟨hl.ne,ss++[s],by simp[h1],?_,λj s' w' hs' hw'=>?_⟩ hk
 ·rw[Lh];exact hg
 ·have hnot:∀id c',H.get id=some (.cells c' 5 false)->¬inB v id:=λid c' hc hi=>by
   obtain⟨o,n',c,rfl⟩:=hi;rcases h2 with⟨h,_,_⟩ | ⟨b,c,h,q2,q3,q4⟩
   ·cases h
   ·cases h;rw[q3]at hc;cases hc;exact hl.ne rfl
  have key:∀ {s:Value} {bs:List Int},Gx 1 5 H0 H s bs.length (bys bs)->Gx 1 5 H0 H' s bs.length (bys bs):=λhq=>by
   rcases hq with h2 | ⟨b,c,rfl,q2,q3,q4⟩
   ·exact .inl h2
   ·exact .inr ⟨b,c,rfl,q2,by rw[hk.keep b (hw.lt q3) (hnot b _ q3)];exact q3,q4⟩
  rcases Dj j ss.length with hj | hj | hj
  ·rw[LY hj]at hs';rw[LY (by omega)]at hw';exact key (h3 j s' w' hs' hw')
  ·rw[LR (by omega)]at hs' hw';rw[hj,BJ]at hs';rw[hj,h1,BJ]at hw';cases hs';cases hw';exact key hs
  ·have:=(Lk.1 hs').1;simp at this;omega
def Qv1 (y:Vx) (any:Bool):List (List Int):=
 (if(y.x=0∧y.b=0∧(any=true∨y.w=0))∧y.mp=1 then[[197,vb2 y]] else[])++([Qd7 (bif any then {y with w:=0} else y)]++(bif any then[Qd7 {y with w:=1}] else[]))
theorem Vx.Ok.setW {y:Vx} (h:y.Ok) (n:Int) (hn:0<=n∧n<2):Vx.Ok {y with w:=n}:=⟨h.r,h.x,h.b,h.mp,hn,h.v,h.l,h.pre⟩
section
variable {H:Qa} {W:List (List Int)}
abbrev KV (H:Qa) (W:List (List Int)):Env->Qa->Prop:=Rt prog QyS H λu H'=>∃v,u=.tuple #[v,.int .i64 0]∧Gl Xe H H' v W∧Ext H H'
theorem Qnw (H:Qa) (s:Value):ZQ 1 (.slice (some ⟨H.next,0,none⟩) 1 1) (H.push (.cells [s] Xe false))=some (1,[s]):=Qtq (by rw[Qd,Lc rfl])
theorem Gl.keep {e:TypeId} {H0 H H':Qa} {v:Value} {ws:List (List Int)} (h:Gl e H0 H v ws) (hk:∀id,H0.next<=id->H'.get id=H.get id):Gl e H0 H' v ws:=by
 obtain⟨ss,h1,h2,h3⟩:=h.it;have key:∀ {e:TypeId} {v:Value} {n:Nat} {cs:List Value},Gx 1 e H0 H v n cs->Gx 1 e H0 H' v n cs:=λhq=>by
  rcases hq with h2 | ⟨b,c,rfl,q2,q3,q4⟩
  ·exact .inl h2
  ·exact .inr ⟨b,c,rfl,q2,by rw[hk b q2];exact q3,q4⟩
 exact⟨h.ne,ss,h1,key h2,λj s w a b=>key (h3 j s w a b)⟩
theorem QFt {y:Vx} (h:y.Ok) (any:Bool) {ws:List (List Int)} (hl:ws.length<=5) {v:Value} {A:Env} {Hb H1:Qa} (hnb:Hb.next=H.next+1) (hv:Gl Xe Hb H1 v ws) (hxb:Ext Hb H1) (hx:Ext H H1) (hw:H1.Wf) (hg:H1.get H.next=some (.cells y.cells Wh false)) (r1:A 1=.bool any) (r2:A 2=.pointer (some ⟨H.next,0,none⟩)) (r7:A 7=v) (eW:W=ws++([Qd7 y]++(bif any then[Qd7 {y with w:=1}] else[]))):
  Qs prog KW ⟨KV H W,YO⟩ (KV H W) A H1:=by
 have hnx:=hxb.next;have q1:=QoZ h;have q2:=QoZ (h.setW 1 (by decide));obtain⟨y1,ey1⟩:∃y1,y1=Qd7 y:=⟨_,rfl⟩;obtain⟨y2,ey2⟩:∃y2,y2=Qd7 {y with w:=1}:=⟨_,rfl⟩;have ly1:y1.length=3:=by rw[ey1];rfl
 have ly2:y2.length=3:=by rw[ey2];rfl
 rw[<- ey1]at q1 eW;rw[<- ey2]at q2 eW;clear ey1 ey2;obtain⟨r,x,b,mp,w,vv,l,pre⟩:=y;simp only[Vx.cells]at hg q1 q2;simp only[KW,Qb,simprocAttr,r1,r2,r7,hg];refine(q1 H1).thenW ?_;rintro s2 H2 hn2 hw2 ⟨hs2,hx2,a2,rfl⟩
 replace hs2:Gx 1 5 H1 H2 (.slice a2 3 3) y1.length (bys y1):=by rw[ly1];exact hs2
 simp only[Qb,simprocAttr];refine Qsb (H0:=Hb) (bs:=y1) ((hv.go hw hx2).go hw2 ((Ext.refl H2).push _)) ((hxb.trans hx2).push _) (hw2.push _) ((hs2.go hw2 ((Ext.refl H2).push _)).down (by omega)) (Qnw H2 _) (by omega) (by omega) ?_;intro v4 H4 hv4 hk4;have hg4:H4.get H.next=some (.cells [.int .i64 r,.int .i64 x,.int .i64 b,.int .i64 mp,.int .i64 w,.int .i64 vv,.int .i64 l,.int .i64 pre] Wh false):=by rw[(hk4.x).get _ (by omega),<- hxb.get _ (by omega)];exact hg
 have hx4:Ext H H4:=⟨by have:=hk4.x.next;omega,λid hid=>by rw[hk4.x.get id (by omega),<- hxb.get id (by omega)];exact hx.get id hid⟩;cases any with
 | false=>
  rw[Ls,Na]at eW;simp only[Qb,simprocAttr,r1,QmJ];exact .mk hx4.next ⟨v4,rfl,by rw[eW];exact hv4.down (by omega),hx4⟩
 | true=>
  rw[Lq]at eW;simp only[Qb,simprocAttr,r1,r2,hg4];generalize hH5:Qa.set H4 _ _=H5;have hx5:Ext H H5:=by rw[<- hH5];exact hx4.set (Lb _) _
  have hw5:H5.Wf:=by rw[<- hH5];exact hk4.w.set hg4 _
  have k5:∀id,Hb.next<=id->H5.get id=H4.get id:=λid hid=>by rw[<- hH5,Qn,Le (by omega)]
  have hv5:=hv4.keep k5;have hn5:H5.next=H4.next:=by rw[<- hH5];rfl
  have hn4:=hk4.x.next;clear hH5;refine(q2 H5).thenW ?_;rintro s6 H6 hn6 hw6 ⟨hs6,hx6,a6,rfl⟩
  replace hs6:Gx 1 5 H5 H6 (.slice a6 3 3) y2.length (bys y2):=by rw[ly2];exact hs6
  simp only[Qb,simprocAttr];have hz:∃Hz:Qa,Ext Hz H5∧Hz.next=Hb.next:=⟨⟨Hb.next,H5.tr⟩,⟨by show Hb.next<=H5.next;omega,λid _=>rfl⟩,rfl⟩;obtain⟨Hz,hxz,hnz⟩:=hz;refine Qsb (H0:=Hz) (bs:=y2) (((hv5.go hw5 hx6).go hw6 ((Ext.refl H6).push _)).down (by omega)) ((hxz.trans hx6).push _) (hw6.push _) ((hs6.go hw6 ((Ext.refl H6).push _)).down (by omega)) (Qnw H6 _) (by rw[Lh,Bb];omega) (by rw[Lh,Bb];omega) ?_;intro v7 H7 hv7 hk7;have hx7:Ext H H7:=⟨by have:=hk7.x.next;omega,λid hid=>by rw[hk7.x.get id (by omega),<- hxz.get id (by omega)];exact hx5.get id hid⟩;simp only[Qb,simprocAttr,QmJ];exact .mk hx7.next ⟨v7,rfl,by rw[eW,<- LQ];exact hv7.down (by omega),hx7⟩
theorem QFu {y:Vx} (h:y.Ok) (any:Bool) {A:Env} {Hb H1:Qa} (hnb:Hb.next=H.next+1) (hxb:Ext Hb H1) (hx:Ext H H1) (hw:H1.Wf) (hg:H1.get H.next=some (.cells y.cells Wh false)) (r1:A 1=.bool any) (r2:A 2=.pointer (some ⟨H.next,0,none⟩)) (eW:W=(if(y.x=0∧y.b=0∧y.w=0)∧y.mp=1 then[[197,vb2 y]] else[])++([Qd7 y]++(bif any then[Qd7 {y with w:=1}] else[]))):
  Qs prog QeZ ⟨KV H W,YO⟩ (KV H W) A H1:=by
 have hnx:=hxb.next;have hg0:=hg;have eb:=QEo h;have hlay:=fun(ps:List (Int×Int)) hp hl (b cap:Nat) e ro (H:Qa)=>QqY (cap:=cap) (b:=b) (e:=e) (ro:=ro) ps hp hl H;have h1:=λA=>QFt (H:=H) (W:=W) (A:=A) h any (ws:=[]) (by simp) hnb (Gl.nil (e:=Xe) (by decide) Hb H1) hxb hx hw hg;have hne:∀A,A 1=.bool any->A 2=.pointer (some ⟨H.next,0,none⟩)->A 7=.slice none 0 0->¬ ((y.x=0∧y.b=0∧y.w=0)∧y.mp=1)->Qs prog KW ⟨KV H W,YO⟩ (KV H W) A H1:=λA a1 a2 a7 hno=>h1 A a1 a2 a7 (by rw[eW,Le hno]);obtain⟨z2,ez2⟩:∃z2,z2=vb2 y:=⟨_,rfl⟩;have hyes:(y.x=0∧y.b=0∧y.w=0)∧y.mp=1->∀ (A:Env) (H4:Qa) (v4:Value),Gl Xe Hb H4 v4 [[197,z2]]->Ext Hb H4->Ext H H4->H4.Wf->A 1=.bool any->A 2=.pointer (some ⟨H.next,0,none⟩)->A 7=v4->Qs prog KW ⟨KV H W,YO⟩ (KV H W) A H4:=by
  intro hy A H4 v4 hv4 hx4b hx4 hw4 a1 a2 a7;refine QFt h any (ws:=[[197,z2]]) (by simp) hnb hv4 hx4b hx4 hw4 (by rw[hx4b.get _ (by omega),<- hxb.get _ (by omega)];exact hg0) a1 a2 a7 (by rw[eW,Lc hy,ez2])
 rw[<- ez2]at eb;clear ez2 eW h1 hg0 h;obtain⟨r,x,b,mp,w,v,l,pre⟩:=y;simp only[Vx.cells]at hg;simp only at hyes hne eb;simp only[QeZ,Qb,simprocAttr,r1,r2,hg];cases ex:x==0 with
 | false=>
  have hx0:¬x=0:=by simpa using ex
  simp only[Qb,simprocAttr,ex];refine hne _ ?_ ?_ ?_ (λh=>hx0 h.1.1)
  all_goals simp only[Ql,simprocAttr,r1,r2]
 | true=>
  have hx0:x=0:=by simpa using ex
  simp only[Qb,simprocAttr,r2,hg];cases e2:b==0 with
  | false=>
   have hb0:¬b=0:=by simpa using e2
   simp only[Qb,simprocAttr,e2];refine hne _ ?_ ?_ ?_ (λh=>hb0 h.1.2.1)
   all_goals simp only[Ql,simprocAttr,r1,r2]
  | true=>
   have hb0:b=0:=by simpa using e2
   simp only[Qb,simprocAttr,r2,hg];cases e3:w==0 with
   | false=>
    have hw0:¬w=0:=by simpa using e3
    simp only[Qb,simprocAttr,e3];refine hne _ ?_ ?_ ?_ (λh=>hw0 h.1.2.2)
    all_goals simp only[Ql,simprocAttr,r1,r2]
   | true=>
    have hw0:w=0:=by simpa using e3
    simp only[Qb,simprocAttr,r2,hg];cases e4:mp==1 with
    | false=>
     have hm0:¬mp=1:=by simpa using e4
     simp only[Qb,simprocAttr,e4];refine hne _ ?_ ?_ ?_ (λh=>hm0 h.2)
     all_goals simp only[Ql,simprocAttr,r1,r2]
    | true=>
     have hm0:mp=1:=by simpa using e4
     simp only[QkE,Qb,simprocAttr,e4,r2,hg];refine⟨by simp[Qm,Ab.plain],by simp[Qm,Ab.plain],by simp[Qm,Ab.plain],?_⟩;refine(QkP pre H1).thenW ?_;rintro _ H1 _ _ ⟨rfl,rfl⟩;simp only[Qb,simprocAttr,Nat.reduceMul];refine⟨λ_ _=>rfl,?_⟩;generalize hH3:Qa.push H1 _=H3;have hx3:Ext H1 H3:=by rw[<- hH3];exact(Ext.refl H1).push _
     have g3:H3.get H1.next=some (.cells (prs [(r,1),(v,4),(l,1),(QbP pre,2)]) YJ false):=by rw[<- hH3,Qd,Lc rfl];rfl
     clear hH3;refine(hlay [(r,1),(v,4),(l,1),(QbP pre,2)] (by simp) (by simp) _ _ _ _ H3 g3).thenW ?_;rintro _ H4 _ hw4 ⟨rfl,hx4⟩;simp only[Qb,simprocAttr,eb];have hx14:=hx3.trans hx4;have hx5:=(Ext.refl H4).push (.cells [.int .u8 197,.int .u8 z2] 5 false);have hw5:=hw4.push (.cells [.int .u8 197,.int .u8 z2] 5 false);have hg5:Gx 1 5 H4 (H4.push (.cells [.int .u8 197,.int .u8 z2] 5 false)) (.slice (some ⟨H4.next,0,none⟩) 2 2) 2 (bys [197,z2]):=.inr ⟨_,_,rfl,Lb _,by rw[Qd,Lc rfl];rfl,rfl,.inl rfl⟩;have hn14:=hx14.next;have hn5:(H4.push (.cells [.int .u8 197,.int .u8 z2] 5 false)).next=H4.next+1:=rfl;generalize H4.push (.cells [.int .u8 197,.int .u8 z2] 5 false)=H5 at *;have hx15:=hx14.trans hx5;have hx6:=(Ext.refl H5).push (.cells [.slice (some ⟨H4.next,0,none⟩) 2 2] Xe false);refine Qsb (H0:=Hb) (bs:=[197,z2]) (Gl.nil (e:=Xe) (by decide) Hb _) ((hxb.trans hx15).trans hx6) (hw5.push _) ((hg5.go hw5 hx6).down (by omega)) (by rw[<- hn5];exact Qnw H5 _) (by simp) (by simp) ?_;intro v7 H7 hv7 hk7;have hx7:Ext H H7:=⟨by have:=hk7.x.next;omega,λid hid=>by rw[hk7.x.get id (by omega),<- hxb.get id (by omega)];exact hx.get id hid⟩;simp only[Qa9,JH,JX,Qhk,QwQ];refine hyes ⟨⟨hx0,hb0,hw0⟩,hm0⟩ _ H7 v7 hv7 hk7.x hx7 hk7.w ?_ ?_ ?_
     all_goals simp only[Ql,simprocAttr,r1,r2]
end
theorem QCx (y:Vx) (any:Bool) (y':Vx) (h:y'=bif any then {y with w:=0} else y):Qv1 y any=(if(y'.x=0∧y'.b=0∧y'.w=0)∧y'.mp=1 then[[197,vb2 y']] else[])++([Qd7 y']++(bif any then[Qd7 {y' with w:=1}] else[])):=by
 subst h;unfold Qv1;cases any with
 | true=>simp only[Lq,true_or,Hr,vb2]
 | false=>simp only[Ls,LV,false_or]
theorem QyU {y:Vx} (h:y.Ok) (any:Bool) (H:Qa):Qg prog Qln [.agg y.cells.toArray,.bool any] H λu H'=>∃v,u=.tuple #[v,.int .i64 0]∧Gl Xe H H' v (Qv1 y any)∧Ext H H':=by
 refine QvX λhw=>?_;obtain⟨y',ey⟩:∃y':Vx,y'=bif any then {y with w:=0} else y:=⟨_,rfl⟩
 have hy':y'.Ok:=by rw[ey];cases any with | true=>exact h.setW 0 (by decide) | false=>exact h
 have eL:=QCx y any y' ey;have ec:y'.cells=bif any then[.int .i64 y.r,.int .i64 y.x,.int .i64 y.b,.int .i64 y.mp,.int .i64 0,.int .i64 y.v,.int .i64 y.l,.int .i64 y.pre] else y.cells:=by rw[ey];cases any<;>rfl
 have qc:=Qt5 h;have hx1:=(Ext.refl H).push (.cells y.cells Wh false);have hw1:=hw.push (.cells y.cells Wh false);have hg1:(H.push (.cells y.cells Wh false)).get H.next=some (.cells y.cells Wh false):=by rw[Qd,Lc rfl]
 have hn1:(H.push (.cells y.cells Wh false)).next=H.next+1:=rfl;obtain⟨W,eW⟩:∃W,W=Qv1 y any:=⟨_,rfl⟩;rw[<- eW]at eL ⊢;clear eW ey h;obtain⟨r,x,b,mp,w,v,l,pre⟩:=y;simp only[Vx.cells]at hx1 hw1 hg1 hn1 qc ec;simp only[Vx.cells,QoR,Qb,simprocAttr];generalize H.push _=H1 at *;refine(qc H1).thenW ?_;rintro _ H2 hn2 hw2 ⟨rfl,hx2⟩;have hg2:=(hx2.get H.next (by omega)).trans hg1;have hx12:=hx1.trans hx2;simp only[Qb,simprocAttr,LO,L8];cases any with
 | true=>
  rw[Lq]at ec;simp only[Qe0,Qb,simprocAttr,hg2];generalize hH3:Qa.set H2 _ _=H3;have hx3:Ext H H3:=by rw[<- hH3];exact hx12.set (Lb _) _
  have hw3:H3.Wf:=by rw[<- hH3];exact hw2.set hg2 _
  have hg3:H3.get H.next=some (.cells y'.cells Wh false):=by rw[<- hH3,Qn,Lc rfl];exact congrArg (λc=>some (Blk.cells c Wh false)) ec.symm
  have hn3:H3.next=H2.next:=by rw[<- hH3];rfl
  clear hH3;refine QFu (H:=H) (Hb:=⟨H.next+1,H3.tr⟩) hy' true rfl ⟨by show H.next+1<=H3.next;omega,λid _=>rfl⟩ hx3 hw3 hg3 ?_ ?_ eL
  all_goals simp only[Ql,simprocAttr]
 | false=>
  rw[Ls]at ec;simp only[Qe0,Qb,simprocAttr];refine QFu (H:=H) (Hb:=⟨H.next+1,H2.tr⟩) hy' false rfl ⟨by show H.next+1<=H2.next;omega,λid _=>rfl⟩ hx12 hw2 (by rw[hg2];exact congrArg (λc=>some (Blk.cells c Wh false)) ec.symm) ?_ ?_ eL
  all_goals simp only[Ql,simprocAttr]
def Qe2 (m:Int):List Int:=if(m==1)=true then[15] else if(m==2)=true then[15,56] else if(m==3)=true then[15,58] else[]
theorem Qm8 (m:Int) (H:Qa):Qg prog V7 [.int .i64 m] H λv H'=>Gx 1 5 H H' v (Qe2 m).length (bys (Qe2 m))∧Ext H H':=by
 refine QlK λhw=>?_;have hg:∀bs:List Int,Gx 1 5 H (H.push (.cells (bys bs) 5 false)) (.slice (some ⟨H.next,0,none⟩) bs.length bs.length) bs.length (bys bs):=λbs=>.inr ⟨_,_,rfl,Lb _,by rw[Qd,Lc rfl],by rw[JC,NH],.inl rfl⟩;simp only[Qd2,Qb,simprocAttr];unfold Qe2;cases h1:m==1 with
 | true=>
  simp only[Qb,simprocAttr,h1,Zs];exact .mk ((Ext.refl H).push _).next ⟨hg [15],(Ext.refl H).push _⟩
 | false=>
  simp only[Qb,simprocAttr,h1];cases h2:m==2 with
  | true=>
   simp only[Qb,simprocAttr,h2,Zs];exact .mk ((Ext.refl H).push _).next ⟨hg [15,56],(Ext.refl H).push _⟩
  | false=>
   simp only[Qb,simprocAttr,h2];cases h3:m==3 with
   | true=>
    simp only[Qb,simprocAttr,h3,Zs];exact .mk ((Ext.refl H).push _).next ⟨hg [15,58],(Ext.refl H).push _⟩
   | false=>
    simp only[Qb,simprocAttr,h3,Zs];exact .mk (Lb _) ⟨.inl ⟨rfl,rfl,rfl⟩,.refl _⟩
def Qo0 (w r x b:Int):Int:=w * 8+r * 4+x * 2+b
def QAC:List (Int×Int×Int×Int):=([0,1]:List Int).flatMap λw=>([0,1]:List Int).flatMap λr=>([0,1]:List Int).flatMap λx=>([0,1]:List Int).map λb=>(w,r,x,b)
theorem QyV:(QAC.all λp=>isW (.int .i64 (Qo0 p.1 p.2.1 p.2.2.1 p.2.2.2)) ((run prog noK 200 5 10).fn Qlo [.int .i64 p.1,.int .i64 p.2.1,.int .i64 p.2.2.1,.int .i64 p.2.2.2] (H0 prog)))=true:=by kernel_rfl
theorem QyW (w r x b:Int) (hw:0<=w∧w<2) (hr:0<=r∧r<2) (hx:0<=x∧x<2) (hb:0<=b∧b<2) (H:Qa):Qg prog Qlo [.int .i64 w,.int .i64 r,.int .i64 x,.int .i64 b] H λu H'=>u=.int .i64 (Qo0 w r x b)∧H'=H:=by
 have m2:∀n:Int,0<=n∧n<2->n∈([0,1]:List Int):=λn hn=>by
  simp only[LK,Ns,NN];omega
 have hm:(w,r,x,b)∈QAC:=by
  unfold QAC;rw[NF];refine⟨w,m2 w hw,NF.2 ⟨r,m2 r hr,NF.2 ⟨x,m2 x hx,N4.2 ⟨b,m2 b hb,rfl⟩⟩⟩⟩
 exact Qt3 (by kernel_rfl) rfl rfl (Li.1 QyV _ hm) H
def QkQ (f:Fm) (l:List Ar) (s:Int):Int:=if 0<=QM f.slots s then Kc ((l[(QM f.slots s).toNat]?.getD WM).r) else 0
theorem Qxf (x:Int):∀ (l:List Int) (k:Nat),QaB l x k<k+l.length
 | [],k=>by show(-1:Int)<_;simp;omega
 | y::l,k=>by
  unfold QaB;split
  ·simp;omega
  ·have:=Qxf x l (k+1);simp at this ⊢;omega
theorem Qt6 (l:List Int) (x:Int):QM l x<l.length:=by
 have:=Qxf x l 0;simpa[QM] using this
theorem Qe3 {l:List Ar} {i:Nat} {a:Ar} (h:l[i]? = some a):((Qo l).drop (i * 11+1)).take 2=[.int .i64 a.r.c,.int .i64 a.r.n]:=by
 have h1:=Xd l i a h;have h2:(((Qo l).drop (i * 11)).take 11).drop 1=a.cells.drop 1:=by rw[h1]
 rw[<- Rc];have h3:((((Qo l).drop (i * 11)).drop 1).take 2)=((((Qo l).drop (i * 11)).take 11).drop 1).take 2:=by
  rw[List.drop_take,DE];rfl
 rw[h3,h2];rfl
theorem Qil (x:Lf) (op:Int) (va:Value) (l:List Ar) (s:Int) (H:Qa) (hx:x.At H) (hv:Q0 H va l) (hl:l.length<=1000) (hn:x.f.slots.length=l.length):Qg prog Vq [.agg x.cells.toArray,.agg #[.int .i64 op,va],.int .i64 s] H λu H'=>u=.int .i64 (QkQ x.f l s)∧Ext H H':=by
 refine QoQ λhw=>?_;have ex:(Value.agg x.cells.toArray).cells.toList=x.cells:=rfl;have e10:x.cells.take 10=x.cells:=rfl;have l10:10<=x.cells.length:=Lb _;obtain⟨a0,cap,rfl,h1⟩:=hv;have hxx:Ext H (H.push (.cells x.cells Qf false)):=(Ext.refl H).push _;simp only[QgQ,ex,Qba,simprocAttr];generalize hH1:Qa.push H _=H1;have g1:H1.get H.next=some (.cells x.cells Qf false):=by rw[<- hH1,Qd,Lc rfl]
 have hx1:Ext H H1:=by rw[<- hH1];exact hxx
 have hn1:H1.next=H.next+1:=by rw[<- hH1];rfl
 have hw1:H1.Wf:=by rw[<- hH1];exact hw.push _
 clear hH1 hxx;simp only[Qb,simprocAttr];generalize hH2:Qa.push H1 _=H2;have hx2:Ext H H2:=by rw[<- hH2];exact hx1.push _
 have g2:H2.get H.next=some (.cells x.cells Qf false):=by rw[<- hH2,Qd,Le (by omega)];exact g1
 have g2i:H2.get H1.next=some (.cells [.int .i64 op,.slice a0 l.length cap] Qc false):=by rw[<- hH2,Qd,Lc rfl]
 have hn2:H2.next=H1.next+1:=by rw[<- hH2];rfl
 clear hH2;have nz:¬H.next=H1.next:=by omega
 simp only[Qb,simprocAttr,nz,LN,g1,Lw,e10];refine⟨l10,?_⟩;refine(Q6 x s H2 (hx.ext hw hx2)).thenW ?_;rintro _ _ hn3 hw3 ⟨rfl,k,rfl⟩;simp only[Qy]at hn3;have hx3:=hx2.up hn3;have g3i:(H2.up k).get H1.next=some (.cells [.int .i64 op,.slice a0 l.length cap] Qc false):=by rw[Z9];exact g2i
 generalize H2.up k=H3 at *;have hlt:=Qt6 x.f.slots s;simp only[Qb,simprocAttr];unfold QkQ;refine Qi (λh=>?_) (λh=>?_)
 ·have h0:0<=QM x.f.slots s:=Lg h;rw[Lc h0];obtain⟨i,hi⟩:∃i:Nat,QM x.f.slots s=i:=⟨(QM x.f.slots s).toNat,by omega⟩;rw[hi]at hlt ⊢;have hil:i<l.length:=by omega
  obtain⟨a,ha⟩:∃a,l[i]? = some a:=⟨_,La hil⟩;obtain⟨b,e,ro,rfl,hgb0⟩:=h1 (by omega);have hgb:H3.get b=some (.cells (Qo l) e ro):=by rw[hx3.get b (hw.lt hgb0)];exact hgb0
  have hrg:=Qe3 ha;have hle:i * 11+1+2<=(Qo l).length:=by rw[QW];omega
  have d1:(0:Int)<=i∧(i:Int)<l.length:=by omega
  have d3:(i:Int).toNat=i:=by omega
  have hgd:(l[i]?.getD WM).r=a.r:=by rw[ha];rfl
  have q:=QbO a.r H3;simp only[Rg.cells]at q;simp only[Qb,simprocAttr,g3i,d1,d3,hgb,hrg,hgd];refine⟨hle,?_⟩;refine q.thenW ?_;rintro _ _ hn4 hw4 ⟨rfl,k4,rfl⟩;simp only[Qy]at hn4;simp only[Qb,simprocAttr,QfH];exact .mk (hx3.up hn4).next ⟨rfl,hx3.up hn4⟩
 ·rw[Le (by have:=Ll h;omega)];simp only[Qb,simprocAttr,QfH];exact .mk hx3.next ⟨rfl,hx3⟩
def Qim (l:List Ar):Bool:=l.any λa=>a.k==1&&Qr8 a.r
def Qo1 (l:List Ar):Bool:=l.any λa=>a.k==1&&Qxa a.r
def chF (bits:Int) (l:List Ar):List Int:=if(decide (0<bits)||Qim l)=true then(if Qo1 l=true then[] else[bits]) else if Qo1 l=true then[-1] else[-1,0]
theorem QlO (op bits:Int) (va:Value) (l:List Ar) (H:Qa) (hv:Q0 H va l) (hl:l.length<=1000):Qg prog Va [.agg #[.int .i64 op,va],.int .i64 bits] H λv H'=>Gx 1 3 H H' v (chF bits l).length (ints (chF bits l))∧Ext H H':=by
 refine QkF λhw=>?_;obtain⟨a0,cap,rfl,h1⟩:=hv;simp only[QcI,Qb,simprocAttr,QU];generalize hH1:Qa.push H _=H1;have hx1:Ext H H1:=by rw[<- hH1];exact(Ext.refl H).push _
 have hw1:H1.Wf:=by rw[<- hH1];exact hw.push _
 clear hH1;refine QB (λm A' H'=>∃i:Nat,i<=l.length∧m=l.length - i∧H'.Wf∧Ext H H'∧A' 1=.int .i64 bits∧A' 5=.bool (decide (0<bits)||Qim (l.take i))∧A' 6=.bool (Qo1 (l.take i))∧A' 12=.slice a0 l.length cap∧A' 13=.int .i64 l.length∧A' 14=.int .i64 i) l.length ?_ ?_
 ·refine⟨0,L7 _,by omega,hw1,hx1,?_,?_,?_,?_,?_,?_⟩
  all_goals simp only[Ql,simprocAttr]
  all_goals simp[Qim,Qo1]
 ·rintro m A' H' ⟨i,hi,rfl,hw',hx,r1,r5,r6,r12,r13,r14⟩;simp only[QaA,Qb,simprocAttr,r13,r14];refine Qi (λh2=>?_) (λh2=>?_)
  ·have h2:i<l.length:=by have:=Lg h2;omega
   obtain⟨a,ha⟩:∃a,l[i]? = some a:=⟨_,La h2⟩;obtain⟨b,e,ro,rfl,hgb0⟩:=h1 (by omega);have hgb:H'.get b=some (.cells (Qo l) e ro):=by rw[hx.get b (hw.lt hgb0)];exact hgb0
   have htk:=Xd l i a ha;have hle:i * 11+11<=(Qo l).length:=by rw[QW];omega
   have d1:(0:Int)<=i∧(i:Int)<l.length:=by omega
   have d3:(i:Int).toNat=i:=by omega
   have ei:IntKind.i64.wrap ((i:Int)+1)=((i+1:Nat):Int):=by rw[w64 (by unfold I64;omega)];omega
   have htl:l.take (i+1)=l.take i++[a]:=by rw[Nv,ha];rfl
   have hN:Qim (l.take (i+1))=(Qim (l.take i)||(a.k==1&&Qr8 a.r)):=by unfold Qim;rw[htl,Rz];simp
   have hB:Qo1 (l.take (i+1))=(Qo1 (l.take i)||(a.k==1&&Qxa a.r)):=by unfold Qo1;rw[htl,Rz];simp
   have q1:=Qt2 a.r;have q2:=QvZ a.r;obtain⟨ak,⟨rc,rn⟩,⟨⟨bc,bn⟩,⟨ic,nn⟩,sc,d,sz⟩,n⟩:=a;simp only[Rg.cells]at q1 q2;simp only[Ar.cells]at htk;simp only at hN hB;generalize Qim (l.take i)=N at *;generalize Qo1 (l.take i)=B at *;simp only[Qaz,Qb,simprocAttr,r5,r6,r12,r14,d1,d3,hgb,htk];refine⟨hle,?_⟩;generalize hH2:(Qa.push H' _).set _ _=H2;have hx2:Ext H H2:=by rw[<- hH2];exact(hx.push _).set (by have:=hx.next;omega) _
   have hw2:H2.Wf:=by rw[<- hH2];exact(hw'.push _).set (b0:=.cells [.int .i64 0,.int .i64 0,.int .i64 0,.int .i64 0,.int .i64 0,.int .i64 0,.int .i64 0,.int .i64 0,.int .i64 0,.int .i64 0,.int .i64 0] Qh false) (by rw[Qd,Lc rfl]) _
   have g2:H2.get H'.next=some (.cells [.int .i64 ak,.int .i64 rc,.int .i64 rn,.int .i64 bc,.int .i64 bn,.int .i64 ic,.int .i64 nn,.int .i64 sc,.int .i64 d,.int .i64 sz,.int .i64 n] Qh false):=by rw[<- hH2,Qn,Lc rfl]
   clear hH2
   -- the end of a round
   have hend:∀ (A2:Env) (H3:Qa),Ext H H3->H3.Wf->A2 1=.int .i64 bits->A2 5=.bool (decide (0<bits)||Qim (l.take (i+1)))->A2 6=.bool (Qo1 (l.take (i+1)))->A2 12=.slice (some ⟨b,0,none⟩) l.length cap->A2 13=.int .i64 l.length->A2 14=.int .i64 ((i+1:Nat):Int)->QwU (λm A' H'=>∃i:Nat,i<=l.length∧m=l.length - i∧H'.Wf∧Ext H H'∧A' 1=.int .i64 bits∧A' 5=.bool (decide (0<bits)||Qim (l.take i))∧A' 6=.bool (Qo1 (l.take i))∧A' 12=.slice (some ⟨b,0,none⟩) l.length cap∧A' 13=.int .i64 l.length∧A' 14=.int .i64 i) (l.length - i) A2 H3:=
    λA2 H3 e1 e2 p1 p5 p6 p12 p13 p14=>⟨l.length - (i+1),by omega,i+1,by omega,rfl,e2,e1,p1,p5,p6,p12,p13,p14⟩
   rw[hN,hB]at hend;cases hk:ak==1 with
   | false=>
    rw[hk,NG,NI,NG,NI]at hend;simp only[Qb,simprocAttr,r14,ei];refine hend _ H2 hx2 hw2 ?_ ?_ ?_ ?_ ?_ ?_
    all_goals simp only[Ql,simprocAttr,r1,r5,r6,r12,r13]
   | true=>
    rw[hk,LJ,LJ,<- FP]at hend;obtain⟨N',eN⟩:∃N',N'=(decide (0<bits)||N):=⟨_,rfl⟩;rw[<- eN]at hend r5;cases N' with
    | true=>
     rw[N1]at hend;cases B with
     | true=>
      rw[N1]at hend;simp only[Ys,Qb,simprocAttr,r5,r6,r14,ei];refine hend _ H2 hx2 hw2 ?_ ?_ ?_ ?_ ?_ ?_
      all_goals simp only[Ql,simprocAttr,r1,r12,r13]
     | false=>
      rw[Nt]at hend;simp only[Ys,Qb,simprocAttr,r5,r6,r14,ei,g2];refine(q2 H2).thenW ?_;rintro _ _ hn4 hw4 ⟨rfl,k4,rfl⟩;simp only[Qy]at hn4;simp only[Qb,simprocAttr,r14,ei];refine hend _ _ (hx2.up hn4) hw4 ?_ ?_ ?_ ?_ ?_ ?_
      all_goals simp only[Ql,simprocAttr,r1,r12,r13]
    | false=>
     rw[Nt]at hend;simp only[Ys,Qb,simprocAttr,r5,r6,r14,ei,g2];refine(q1 H2).thenW ?_;rintro _ _ hn3 hw3 ⟨rfl,k3,rfl⟩;simp only[Qy]at hn3;have hx3:=hx2.up hn3;have g3:=g2;rw[<- Z9 H2 k3]at g3;generalize H2.up k3=H3 at *;cases B with
     | true=>
      rw[N1]at hend;simp only[Qb,simprocAttr,r6,r14,ei];refine hend _ H3 hx3 hw3 ?_ ?_ ?_ ?_ ?_ ?_
      all_goals simp only[Ql,simprocAttr,r1,r12,r13]
     | false=>
      rw[Nt]at hend;simp only[Qb,simprocAttr,r6,r14,ei,g3];refine(q2 H3).thenW ?_;rintro _ _ hn4 hw4 ⟨rfl,k4,rfl⟩;simp only[Qy]at hn4;simp only[Qb,simprocAttr,r14,ei];refine hend _ _ (hx3.up hn4) hw4 ?_ ?_ ?_ ?_ ?_ ?_
      all_goals simp only[Ql,simprocAttr,r1,r12,r13]
  ·have h2:i=l.length:=by have:=Ll h2;omega
   subst h2;rw[Nr]at r5 r6;have hb1:∀z:Int,Gx 1 3 H (H'.push (.cells [.int .i64 z] 3 false)) (.slice (some ⟨H'.next,0,none⟩) 1 1) 1 (ints [z]):=λz=>.inr ⟨_,_,rfl,hx.next,by rw[Qd,Lc rfl];rfl,rfl,.inl rfl⟩;have hb2:Gx 1 3 H (H'.push (.cells [.int .i64 (-1),.int .i64 0] 3 false)) (.slice (some ⟨H'.next,0,none⟩) 2 2) 2 (ints [-1,0]):=.inr ⟨_,_,rfl,hx.next,by rw[Qd,Lc rfl];rfl,rfl,.inl rfl⟩;unfold chF;generalize (decide (0<bits)||Qim l)=N at *;generalize Qo1 l=B at *;cases N<;>cases B<;>simp only[Qay,Qax,Qb,simprocAttr,r1,r5,r6,Qjd,N3,LN,LV]
   ·exact .mk (hx.push _).next ⟨hb2,hx.push _⟩
   ·exact .mk (hx.push _).next ⟨hb1 (-1),hx.push _⟩
   ·exact .mk (hx.push _).next ⟨hb1 bits,hx.push _⟩
   ·exact .mk hx.next ⟨.inl ⟨rfl,rfl,rfl⟩,hx⟩
structure FOk (f:Fm):Prop where
 pre:0<=f.pre∧f.pre<=5
 map:0<=f.map∧f.map<=3
 w:f.vex=false->f.w=0∨f.w=1
 vx:f.vex=true->f.map≠0∧(f.pre=0∨f.pre=1∨f.pre=2∨f.pre=4)∧(-1<=f.w∧f.w<=1)∧(f.l=0∨f.l=1)
def Qp8 (f:Fm) (l:List Ar) (s:Int):Int:=if 0<=QM f.slots s then((l[(QM f.slots s).toNat]?.getD WM).r).n else 0
def hB (f:Fm) (l:List Ar) (h:Int):Int:=if 0<=QM f.slots 4 then QkQ f l 4 else h
def Qt7 (w:Int):Int:=if 0>w then 0 else w
def vxF (f:Fm) (l:List Ar) (x h:Int):Vx:=⟨QkQ f l 1,x,hB f l h,f.map,Qt7 f.w,Qp8 f l 3,f.l,f.pre⟩
def Qe4 (f:Fm) (l:List Ar) (x h:Int):List (List Int):=
 if f.vex=true then Qv1 (vxF f l x h) (f.w==-1)
 else(chF (Qo0 f.w (QkQ f l 1) x (hB f l h)) l).map λn=>Qd6 f.pre n++Qe2 f.map
theorem Qnx (f:Fm) (l:List Ar) (s:Int):0<=QkQ f l s∧QkQ f l s<2:=by
 unfold QkQ;split
 ·exact QkO _
 ·omega
section
variable {x:Lf} {op:Int} {va:Value} {l:List Ar} {H:Qa}
abbrev KH (H:Qa) (W:List (List Int)):Env->Qa->Prop:=Rt prog QoM H λv H'=>Gl Xe H H' v W∧Ext H H'
structure HdF (H H':Qa) (x:Lf) (op:Int) (va:Value) (A:Env):Prop where
 xt:Ext H H'
 w:H'.Wf
 g3:H'.get H.next=some (.cells x.cells Qf false)
 g4:H'.get (H.next+1)=some (.cells [.int .i64 op,va] Qc false)
 lt:H.next+2<=H'.next
 r3:A 3=.pointer (some ⟨H.next,0,none⟩)
 r4:A 4=.pointer (some ⟨H.next+1,0,none⟩)
theorem HdF.go {H' H'':Qa} {A B:Env} (h:HdF H H' x op va A) (hx:Ext H' H'') (hw:H''.Wf) (e3:B 3=A 3) (e4:B 4=A 4):HdF H H'' x op va B:=
 ⟨h.xt.trans hx,hw,by rw[hx.get _ (by have:=h.lt;omega)];exact h.g3,by rw[hx.get _ (by have:=h.lt;omega)];exact h.g4,by have:=h.lt;have:=hx.next;omega,e3.trans h.r3,e4.trans h.r4⟩
theorem QGo (hf:FOk x.f) (hv:x.f.vex=false) (hw:H.Wf) (hx:x.At H) (ha:Q0 H va l) (hva:∀n,H.next<=n->Qm n 6 (.agg #[.int .i64 op,va])=true) (hl:l.length<=1000) {r xx b:Int} (hr:0<=r∧r<2) (hxx:0<=xx∧xx<2) (hb:0<=b∧b<2) {W:List (List Int)} (eW:W=(chF (Qo0 x.f.w r xx b) l).map λn=>Qd6 x.f.pre n++Qe2 x.f.map) {A:Env} {H1:Qa} (hF:HdF H H1 x op va A) (r7:A 7=.int .i64 r) (r8:A 8=.int .i64 xx) (r9:A 9=.int .i64 b):
  Qs prog KO ⟨KH H W,YO⟩ (KH H W) A H1:=by
 obtain⟨a0,cap,rfl,ha1⟩:=id ha;have hF0:=hF;obtain⟨hx1,hw1,g3,g4,hlt,r3,r4⟩:=hF;have e7:x.cells[7]? = some (.int .i64 x.f.w):=rfl;have hwv:=hf.w hv;simp only[KO,Qb,simprocAttr,r3,r4,r7,r8,r9,g3,g4,e7];have hnx:=hx1.next;refine⟨hva _ hnx,?_⟩;refine(QyW x.f.w r xx b (by omega) hr hxx hb H1).thenW ?_;rintro _ H1 _ _ ⟨rfl,rfl⟩;simp only[Qb,simprocAttr];refine⟨λ_ _=>rfl,?_⟩;refine(QlO op (Qo0 x.f.w r xx b) _ l H1 (ha.ext hw hx1) hl).thenW ?_;rintro v2 H2 _ hw2 ⟨hg2,hx2⟩;have hbn:0<=Qo0 x.f.w r xx b∧Qo0 x.f.w r xx b<=15:=by unfold Qo0;omega
 have hch:∀n∈chF (Qo0 x.f.w r xx b) l,-1<=n∧n<=15:=by
  intro n hn;unfold chF at hn;split at hn
  ·split at hn
   ·cases hn
   ·simp at hn;omega
  ·split at hn
   ·simp at hn;omega
   ·simp at hn;omega
 have hcl:(chF (Qo0 x.f.w r xx b) l).length<=2:=by
  unfold chF;split
  ·split<;>simp
  ·split<;>simp
 generalize chF (Qo0 x.f.w r xx b) l=C at *;have hsl:=hg2.sl;obtain⟨av,cv,rfl,hav⟩:=hsl;simp only[Qb,simprocAttr,QU];have e3:x.cells[3]? = some (.int .i64 x.f.pre):=rfl;have e4:x.cells[4]? = some (.int .i64 x.f.map):=rfl;have hF2:∀B:Env,B 3=A 3->B 4=A 4->HdF H H2 x op (.slice a0 l.length cap) B:=λB h3 h4=>hF0.go hx2 hw2 h3 h4;have hx12:=hx1.trans hx2;have hn12:=hx12.next;refine QB (λm A' H'=>∃ (i:Nat) (v:Value),i<=C.length∧m=C.length - i∧Ext H2 H'∧Gl Xe H2 H' v ((C.take i).map λn=>Qd6 x.f.pre n++Qe2 x.f.map)∧H'.Wf∧A' 3=.pointer (some ⟨H.next,0,none⟩)∧A' 14=v∧A' 77=.slice av C.length cv∧A' 78=.int .i64 C.length∧A' 79=.int .i64 i) C.length ?_ ?_
 ·refine⟨0,.slice none 0 0,L7 _,by omega,.refl _,Gl.nil (by decide) _ _,hw2,?_,?_,?_,?_,?_⟩
  all_goals simp only[Ql,simprocAttr,r3]
  all_goals rfl
 ·rintro m A' H' ⟨i,v,hi,rfl,hxa,hla,hwa,q3,q14,q77,q78,q79⟩;simp only[QcH,Qb,simprocAttr,q78,q79];refine Qi (λh2=>?_) (λh2=>?_)
  ·have h2:i<C.length:=by have:=Lg h2;omega
   obtain⟨n,hn⟩:∃n,C[i]? = some n:=⟨_,La h2⟩;have hnb:=hch n (Ln hn);obtain⟨b',e',ro',rfl,hgb0⟩:=hav (by omega);have hgb:H'.get b'=some (.cells (ints C) e' ro'):=by rw[hxa.get b' (hw2.lt hgb0)];exact hgb0
   have hcell:(ints C)[i]? = some (.int .i64 n):=by unfold ints;rw[LD,hn];rfl
   have d1:(0:Int)<=i∧(i:Int)<C.length:=by omega
   have d3:(i:Int).toNat=i:=by omega
   have ei:IntKind.i64.wrap ((i:Int)+1)=((i+1:Nat):Int):=by rw[w64 (by unfold I64;omega)];omega
   have ga3:H'.get H.next=some (.cells x.cells Qf false):=by rw[(hx2.trans hxa).get _ (by omega)];exact g3
   simp only[QcG,Qb,simprocAttr,q3,q14,q77,q79,d1,d3,hgb,hcell,ga3,e3];refine(QyT x.f.pre n hf.pre hnb H').thenW ?_;rintro _ H3 _ hw3 ⟨v3,rfl,hg3',hx3⟩;have gb3:H3.get H.next=some (.cells x.cells Qf false):=by rw[hx3.get _ (hwa.lt ga3)];exact ga3
   simp only[Qb,simprocAttr,LO,L8,q3,q14,gb3,e4];refine(Qm8 x.f.map H3).thenW ?_;rintro v4 H4 _ hw4 ⟨hg4',hx4⟩;have hle5:(Qe2 x.f.map).length<=2:=by unfold Qe2;repeat' (split<;>try simp)
   have hle6:(Qd6 x.f.pre n).length<=4:=by
    unfold Qd6 QEn;simp only[Lh];have h1:(if x.f.pre % 2=1 then([102]:List Int) else[]).length<=1:=by split<;>simp
    have h2:(if x.f.pre / 2 % 2=1 then([242]:List Int) else[]).length<=1:=by split<;>simp
    have h3:(if x.f.pre / 4 % 2=1 then([243]:List Int) else[]).length<=1:=by split<;>simp
    have h4:(if 0<=n then([64+n]:List Int) else[]).length<=1:=by split<;>simp
    omega
   simp only[Qb,simprocAttr];refine Qdf (hg3'.go hw3 hx4) (hx3.trans hx4) hw4 hg4'.src (QcP _) (by rw[JC,NH]) (by omega) (by omega) ?_;intro v5 H5 hg5 hk5;obtain⟨a5,c5,rfl⟩:=hg5.slc;simp only[Qb,simprocAttr];have hx6:=(Ext.refl H5).push (.cells [.slice a5 ((Qd6 x.f.pre n).length+(Qe2 x.f.map).length) c5] Xe false);have hxa6:=hk5.x.trans hx6;have hnb5:=hxa.next;have hg5':Gx 1 5 H2 (H5.push (.cells [.slice a5 ((Qd6 x.f.pre n).length+(Qe2 x.f.map).length) c5] Xe false)) (.slice a5 ((Qd6 x.f.pre n).length+(Qe2 x.f.map).length) c5) (Qd6 x.f.pre n++Qe2 x.f.map).length (bys (Qd6 x.f.pre n++Qe2 x.f.map)):=by
    rw[Lh,QaT];exact(hg5.go hk5.w hx6).down hnb5
   have hct:((C.take i).map λn=>Qd6 x.f.pre n++Qe2 x.f.map).length<=2:=by rw[Nn,Sb];omega
   refine Qsb (hla.go hwa hxa6) (hxa.trans hxa6) (hk5.w.push _) hg5' (Qnw H5 _) (by omega) (by omega) ?_;intro v7 H7 hv7 hk7;simp only[Qb,simprocAttr,q79,ei];refine⟨C.length - (i+1),by omega,i+1,v7,by omega,rfl,hk7.x,?_,hk7.w,?_,?_,?_,?_,?_⟩
   ·have:(C.take (i+1)).map (λn=>Qd6 x.f.pre n++Qe2 x.f.map)=(C.take i).map (λn=>Qd6 x.f.pre n++Qe2 x.f.map)++[Qd6 x.f.pre n++Qe2 x.f.map]:=by
     rw[Nv,hn,N6];rfl
    rw[this];exact hv7
   all_goals simp only[Ql,simprocAttr,q3,q77,q78]
  ·have h2:i=C.length:=by have:=Ll h2;omega
   subst h2;rw[Nr]at hla;simp only[Qb,simprocAttr,q14,Qd1];have hxf:=hx12.trans hxa;exact .mk hxf.next ⟨by rw[eW];exact hla.down hn12,hxf⟩
theorem QmN {l:List Ar} {i:Nat} {a:Ar} (h:l[i]? = some a):(Qo l)[i * 11+1+1]? = some (.int .i64 a.r.n):=by
 have h1:=Qe3 h;have:=congrArg (·[1]?) h1;simp only[Nl,Nk]at this;simpa using this
theorem QGp (hw:H.Wf) (hx:x.At H) (ha:Q0 H va l) (hl:l.length<=1000) (hn:x.f.slots.length=l.length) {r xx b:Int} {y:Vx} (hy:y.Ok) (ey:y=⟨r,xx,b,x.f.map,Qt7 x.f.w,Qp8 x.f l 3,x.f.l,x.f.pre⟩) {W:List (List Int)} (eW:W=Qv1 y (x.f.w==-1)) {A:Env} {H1:Qa} (hF:HdF H H1 x op va A) (r7:A 7=.int .i64 r) (r8:A 8=.int .i64 xx) (r9:A 9=.int .i64 b) (ks:Kp) (hks:ks=⟨KH H W,YO⟩) (k:Env->Qa->Prop):
  Qs prog KR ks k A H1:=by
 subst hks;obtain⟨a0,cap,rfl,ha1⟩:=id ha;obtain⟨hx1,hw1,g3,g4,hlt,r3,r4⟩:=hF;have e3:x.cells[3]? = some (.int .i64 x.f.pre):=rfl;have e4:x.cells[4]? = some (.int .i64 x.f.map):=rfl;have e7:x.cells[7]? = some (.int .i64 x.f.w):=rfl;have e9:x.cells[9]? = some (.int .i64 x.f.l):=rfl;have e10:x.cells.take 10=x.cells:=rfl;have l10:10<=x.cells.length:=Lb _;have hidx:=Qt6 x.f.slots 3;simp only[KR,Qb,simprocAttr,r3,r4,r7,r8,r9,g3,e3,e4,e7,e9];rw[QHD (ik:=.i64) (a:=x.f.w) (b:=0) (by simp only[Ql,simprocAttr]) (by simp only[Ql,simprocAttr])];simp only[Qb,simprocAttr,r3,r4,r7,r8,r9,g3,e3,e4,e7,e9];generalize hH2:(Qa.push H1 _).set _ _=H2;have hx2:Ext H1 H2:=by rw[<- hH2];exact((Ext.refl H1).push _).set (Lb _) _
 have hw2:H2.Wf:=by rw[<- hH2];exact(hw1.push _).set (b0:=.cells [.int .i64 0,.int .i64 0,.int .i64 0,.int .i64 0,.int .i64 0,.int .i64 0,.int .i64 0,.int .i64 0] Wh false) (by rw[Qd,Lc rfl]) _
 have g2:H2.get H1.next=some (.cells [.int .i64 r,.int .i64 xx,.int .i64 b,.int .i64 x.f.map,.int .i64 (Qt7 x.f.w),.int .i64 0,.int .i64 x.f.l,.int .i64 x.f.pre] Wh false):=by rw[<- hH2,Qn,Lc rfl];rfl
 have g23:H2.get H.next=some (.cells x.cells Qf false):=by rw[hx2.get _ (by omega)];exact g3
 clear hH2;have nz:¬H.next=H1.next:=by omega
 simp only[Qb,simprocAttr,nz,LN,Lw,e10];refine⟨l10,?_⟩;refine(Q6 x 3 H2 (hx.ext hw (hx1.trans hx2))).thenW ?_;rintro _ _ hn3 hw3 ⟨rfl,k3,rfl⟩;simp only[Qy]at hn3;have hx3:=(hx1.trans hx2).up hn3;have hlt2:=hw2.lt g2;have g3v:=g2;have g33:=g23;rw[<- Z9 H2 k3]at g3v g33;have g34:(H2.up k3).get (H.next+1)=some (.cells [.int .i64 op,.slice a0 l.length cap] Qc false):=by rw[Z9,hx2.get _ (by omega)];exact g4
 have hlt3:H1.next<(H2.up k3).next:=by rw[Qy];omega
 generalize H2.up k3=H3 at *
 -- the end: the VEX stands in its block
 have hend:∀ (A2:Env) (H4:Qa),Ext H H4->H4.Wf->H4.get H1.next=some (.cells y.cells Wh false)->H4.get H.next=some (.cells x.cells Qf false)->A2 3=.pointer (some ⟨H.next,0,none⟩)->A2 10=.pointer (some ⟨H1.next,0,none⟩)->Qs prog KQ ⟨KH H W,YO⟩ k A2 H4:=by
  intro A2 H4 hx4 hw4 gv gf p3 p10;have qa:=QyU hy (x.f.w==-1) H4;have ev8:y.cells.take 8=y.cells:=rfl;have lv8:8<=y.cells.length:=Lb _;simp only[KQ,Qb,simprocAttr,p3,p10,gv,gf,Lw,ev8,e7];refine⟨lv8,?_⟩;refine qa.thenW ?_;rintro _ H5 _ hw5 ⟨v,rfl,hv,hx5⟩;simp only[Qb,simprocAttr,LO,L8,Qd1];have hx6:=hx4.trans hx5;exact .mk hx6.next ⟨by rw[eW];exact hv.down hx4.next,hx6⟩
 simp only[Qb,simprocAttr];refine Qi (λh=>?_) (λh=>?_)
 ·have h0:0<=QM x.f.slots 3:=Lg h;have er:Qp8 x.f l 3=((l[(QM x.f.slots 3).toNat]?.getD WM).r).n:=by unfold Qp8;rw[Lc h0]
  obtain⟨i,hi⟩:∃i:Nat,QM x.f.slots 3=i:=⟨(QM x.f.slots 3).toNat,by omega⟩;rw[hi]at hidx er ⊢;have hil:i<l.length:=by omega
  obtain⟨a,hai⟩:∃a,l[i]? = some a:=⟨_,La hil⟩;obtain⟨b',e,ro,rfl,hgb0⟩:=ha1 (by omega);have hgb:H3.get b'=some (.cells (Qo l) e ro):=by rw[hx3.get b' (hw.lt hgb0)];exact hgb0
  have hrg:=QmN hai;have d1:(0:Int)<=i∧(i:Int)<l.length:=by omega
  have d3:(i:Int).toNat=i:=by omega
  have er2:Qp8 x.f l 3=a.r.n:=by rw[er,d3,hai];rfl
  have ec:y.cells=[.int .i64 r,.int .i64 xx,.int .i64 b,.int .i64 x.f.map,.int .i64 (Qt7 x.f.w),.int .i64 a.r.n,.int .i64 x.f.l,.int .i64 x.f.pre]:=by rw[ey,er2];rfl
  simp only[Qb,simprocAttr,r3,r4,g34,d1,d3,hgb,hrg,g3v];refine hend _ _ (hx3.set (by omega) _) (hw3.set g3v _) ?_ ?_ ?_ ?_
  ·rw[Qn,Lc rfl,ec]
  ·rw[Qn,Le nz];exact g33
  all_goals simp only[Ql,simprocAttr,r3]
 ·have h0:¬0<=QM x.f.slots 3:=Ll h;have er:Qp8 x.f l 3=0:=by unfold Qp8;rw[Le h0]
  have ec:y.cells=[.int .i64 r,.int .i64 xx,.int .i64 b,.int .i64 x.f.map,.int .i64 (Qt7 x.f.w),.int .i64 0,.int .i64 x.f.l,.int .i64 x.f.pre]:=by rw[ey,er];rfl
  simp only[Qb,simprocAttr];refine hend _ H3 hx3 hw3 (by rw[ec];exact g3v) g33 ?_ ?_
  all_goals simp only[Ql,simprocAttr,r3]
end
theorem Qo2 {x:Lf} {op:Int} {va:Value} {l:List Ar} (hf:FOk x.f) (H:Qa) (hx:x.At H) (ha:Q0 H va l) (hva:∀n,H.next<=n->Qm n 6 (.agg #[.int .i64 op,va])=true) (hl:l.length<=1000) (hn:x.f.slots.length=l.length) {lx lh:Int} (hlx:0<=lx∧lx<2) (hlh:0<=lh∧lh<2) (hy:x.f.vex=true->(vxF x.f l lx lh).Ok) {sa:Option Addr} {sn sc:Nat}:
  Qg prog Qbc [.agg x.cells.toArray,.agg #[.int .i64 op,va],.agg #[.slice sa sn sc,.int .i64 lx,.int .i64 lh]] H λv H'=>Gl Xe H H' v (Qe4 x.f l lx lh)∧Ext H H':=by
 refine Qm5 λhw=>?_;have ex:(Value.agg x.cells.toArray).cells.toList=x.cells:=rfl;have e10:x.cells.take 10=x.cells:=rfl;have e8:x.cells[8]? = some (.bool x.f.vex):=rfl;have l10:10<=x.cells.length:=Lb _;obtain⟨W,eW⟩:∃W,W=Qe4 x.f l lx lh:=⟨_,rfl⟩;rw[<- eW];obtain⟨a0,cap,rfl⟩:=Q7 ha;simp only[QfF,ex,Qba,simprocAttr];generalize hH1:Qa.push H (.cells x.cells Qf false)=H1;have g1:H1.get H.next=some (.cells x.cells Qf false):=by rw[<- hH1,Qd,Lc rfl]
 have hx1:Ext H H1:=by rw[<- hH1];exact(Ext.refl H).push _
 have hn1:H1.next=H.next+1:=by rw[<- hH1];rfl
 have hw1:H1.Wf:=by rw[<- hH1];exact hw.push _
 clear hH1;simp only[Qb,simprocAttr,hn1];generalize hH2:Qa.push (Qa.push H1 _) _=H2;have hx2:Ext H H2:=by rw[<- hH2];exact(hx1.push _).push _
 have hw2:H2.Wf:=by rw[<- hH2];exact(hw1.push _).push _
 have g23:H2.get H.next=some (.cells x.cells Qf false):=by rw[<- hH2,Qd,Le (by rw[Qe];omega),Qd,Le (by omega)];exact g1
 have g24:H2.get (H.next+1)=some (.cells [.int .i64 op,.slice a0 l.length cap] Qc false):=by rw[<- hH2,Qd,Le (by rw[Qe];omega),Qd,Lc (by omega)]
 have g25:H2.get (H.next+2)=some (.cells [.slice sa sn sc,.int .i64 lx,.int .i64 lh] Qq false):=by rw[<- hH2,Qd,Lc (by rw[Qe];omega)]
 have hn2:H2.next=H.next+3:=by rw[<- hH2,Qe,Qe,hn1]
 clear hH2;have nz:¬H.next=H.next+1+1:=by omega
 have nz2:¬H.next+1=H.next+1+1:=by omega
 have hb1:=Qnx x.f l 1;have hb4:=Qnx x.f l 4;simp only[Qb,simprocAttr,nz,nz2,LN,g1,g23,g24,g25,Lw,e10];refine⟨l10,⟨by omega,by omega⟩,?_⟩;refine(Qil x op _ l 1 H2 (hx.ext hw hx2) (ha.ext hw hx2) hl hn).thenW ?_;rintro _ H3 hn3 hw3 ⟨rfl,hx3⟩;have hx13:=hx2.trans hx3;have g33:=(hx3.get H.next (by omega)).trans g23;have g34:=(hx3.get (H.next+1) (by omega)).trans g24;have g35:=(hx3.get (H.next+2) (by omega)).trans g25;have hx3e:=hx3.eqB;simp only[Qb,simprocAttr,g33,g34,g35,Lw,e10];refine⟨hx3e,by simp[Qm,Ab.plain],by simp[Qm,Ab.plain],l10,?_⟩;refine(Q6 x 4 H3 (hx.ext hw hx13)).thenW ?_;rintro _ _ hn4 hw4 ⟨rfl,k4,rfl⟩;simp only[Qy]at hn4;have hx4:=hx13.up hn4;have g43:=g33;have g44:=g34;rw[<- Z9 H3 k4]at g43 g44;have hn4':H.next+3<=(H3.up k4).next:=by rw[Qy];have:=hx3.next;omega
 generalize H3.up k4=H4 at *
 -- the last part,with the bit that the opcode's register may give
 have hend:∀ (A:Env) (H5:Qa) (b:Int),Ext H4 H5->H5.Wf->b=hB x.f l lh->A 3=.pointer (some ⟨H.next,0,none⟩)->A 4=.pointer (some ⟨H.next+1,0,none⟩)->A 7=.int .i64 (QkQ x.f l 1)->A 8=.int .i64 lx->A 9=.int .i64 b->Qs prog KU ⟨KH H W,YO⟩ (KH H W) A H5:=by
  intro A H5 b hx5 hw5 eb p3 p4 p7 p8 p9;subst eb;have hF:HdF H H5 x op (.slice a0 l.length cap) A:=⟨hx4.trans hx5,hw5,by rw[hx5.get _ (by omega)];exact g43,by rw[hx5.get _ (by omega)];exact g44,by have:=hx5.next;omega,p3,p4⟩;have hbb:0<=hB x.f l lh∧hB x.f l lh<2:=by unfold hB;split;exact hb4;exact hlh
  simp only[KU,Qb,simprocAttr,p3,hF.g3,e8];cases hv:x.f.vex with
  | true=>
   simp only[Qba,simprocAttr];refine QGp (y:=vxF x.f l lx lh) hw hx ha hl hn (hy hv) rfl (by rw[eW];unfold Qe4;rw[Lc hv]) (hF.go (.refl _) hw5 ?_ ?_) ?_ ?_ ?_ _ rfl _
   all_goals simp only[Ql,simprocAttr,p7,p8,p9]
  | false=>
   simp only[Qba,simprocAttr];refine QGo hf hv hw hx ha hva hl hb1 hlx hbb (by rw[eW];unfold Qe4;rw[Le (by simp[hv])]) (hF.go (.refl _) hw5 ?_ ?_) ?_ ?_ ?_
   all_goals simp only[Ql,simprocAttr,p7,p8,p9]
 simp only[Qb,simprocAttr];refine Qi (λh=>?_) (λh=>?_)
 ·have h0:0<=QM x.f.slots 4:=Lg h;simp only[Qb,simprocAttr,g43,g44,Lw,e10];refine⟨l10,?_⟩;refine(Qil x op _ l 4 H4 (hx.ext hw hx4) (ha.ext hw hx4) hl hn).thenW ?_;rintro _ H5 hn5 hw5 ⟨rfl,hx5⟩;simp only[Qa9,JH,JX,Qhk,QwQ];refine hend _ H5 _ hx5 hw5 (by unfold hB;rw[Lc h0]) ?_ ?_ ?_ ?_ ?_
  all_goals simp only[Ql,simprocAttr]
 ·have h0:¬0<=QM x.f.slots 4:=Ll h;simp only[QiE,Qn2];refine hend _ H4 _ (.refl _) hw4 (by unfold hB;rw[Le h0]) ?_ ?_ ?_ ?_ ?_
  all_goals simp only[Ql,simprocAttr]
theorem Z0 (f:Fn) (a b:Array Value):(Value.func f a b).cells.toList=[.func f a b]:=Nu rfl rfl
theorem Y1 (f:Fn) (a b:Array Value):(Value.func f a b).oneCell'=true:=Nu rfl rfl
theorem Qhw {l:Nat} {args:List Value} {H:Qa} {k k':Value->Qa->Prop} (h:YQ prog l args H k) (hk:∀v H',H.next<=H'.next->H'.Wf->k v H'->k' v H'):YQ prog l args H k':=by
 intro hw;obtain⟨v,H',h1,h2,h3,h4⟩:=h hw;exact⟨v,H',h1,h2,h3,hk v H' h2 h3 h4⟩
structure CK (Own:Qa->Nat->Prop) (H H':Qa):Prop where
 next:H.next<=H'.next
 w:H'.Wf
 keep:∀id,id<H.next->¬Own H id->H'.get id=H.get id
 own:∀id,Own H' id->Own H id∨H.next<=id
theorem CK.trans {Own:Qa->Nat->Prop} {H H' H'':Qa} (h:CK Own H H') (h':CK Own H' H''):CK Own H H'':=by
 have n1:=h.next;have n2:=h'.next;refine⟨by omega,h'.w,λid h1 h2=>?_,λid h1=>?_⟩
 ·rw[h'.keep id (by omega) (λh3=>by rcases h.own id h3 with h4 | h4;exact h2 h4;omega),h.keep id h1 h2]
 ·rcases h'.own id h1 with h2 | h2
  ·exact h.own id h2
  ·exact .inr (by omega)
structure Cns {α:Type} (base:Nat) (l:Nat) (items:List α) (It:Qa->Qa->α->Value->Prop) (R:Nat->Qa->Prop) (Own:Qa->Nat->Prop):Prop where
 ext:∀j H H',R j H->H.Wf->Ext H H'->R j H'∧∀id,Own H' id->Own H id
 low:∀j H id,R j H->Own H id->id<H.next
 go:∀j w H0 H v,items[j]? = some w->R j H->R j H0->H0.Wf->It H0 H w v->base<=H0.next->Ext H0 H->(∀id,Own H id->Own H0 id)->YQ prog l [v] H λu H'=>u=.bool true∧R (j+1) H'∧CK Own H H'
theorem Cns.ck {α:Type} {base l:Nat} {items:List α} {It:Qa->Qa->α->Value->Prop} {R:Nat->Qa->Prop} {Own:Qa->Nat->Prop} (h:Cns base l items It R Own) {j:Nat} {H H':Qa} (hR:R j H) (hw:H.Wf) (hx:Ext H H') (hw':H'.Wf):CK Own H H':=
 ⟨hx.next,hw',λid hid _=>hx.get id hid,λid hid=>.inl ((h.ext j H H' hR hw hx).2 id hid)⟩
def QEr (md:Nat) (m:Mm):Bool:=if md=0 then(m.d==0)&&!(Xp m.b==5) else if md=1 then Qw8 m.d 8 else true
def Qjn (md:Nat) (m:Mm):List Int:=if md=0 then[] else if md=1 then(Vk m.d 1).1 else(Vk m.d 4).1
def Jc (mid rm:Int) (sib:List Int) (m:Mm) (md:Nat):List Ld:=if QEr md m=true then[⟨[QR md mid rm]++sib++Qjn md m,Kc m.i,Kc m.b⟩] else[]
def Zu (mid rm:Int) (sib:List Int) (m:Mm):List Ld:=(List.range 3).flatMap (Jc mid rm sib m)
def QkU:List Value:=[.func (.func Zm) #[] #[],.func (.func Zn) #[] #[],.func (.func Zo) #[] #[],.func (.func Zp) #[] #[],.func (.func Zq) #[] #[],.func (.func Zr) #[] #[]]
theorem Qnb (H:Qa):Qg prog V8 [] H λu H'=>u=.slice (some ⟨H.next,0,none⟩) 3 3∧H'=H.push (.cells QkU WJ false):=by
 refine QlM λhw=>?_;simp only[Qd5,Qb,simprocAttr,Z0,Y1,Nat.reduceMul,QkL];exact .mk (by rw[Qe];omega) ⟨rfl,rfl⟩
theorem QEs (d lo:Int) (H:Qa):Qg prog Zm [.int .i64 d,.int .i64 lo] H λu H'=>u=.bool ((d==0)&&!(lo==5))∧H'=H:=by
 refine Qje λhw=>?_;simp only[QbI,Qb,simprocAttr];cases h:d==0<;>simp only[Qb,simprocAttr,h,QhH]
 all_goals exact .mk (Lb _) ⟨rfl,rfl⟩
theorem QEt (d lo:Int) (H:Qa):Qg prog Zo [.int .i64 d,.int .i64 lo] H λu H'=>u=.bool (Qw8 d 8)∧H'=H:=by
 refine Qjg λhw=>?_;simp only[QbK,Qb,simprocAttr];refine(Qr6 d 8 H).thenW ?_;rintro _ H _ _ ⟨rfl,rfl⟩;simp only[Qb,simprocAttr,QhJ];exact .mk (Lb _) ⟨rfl,rfl⟩
theorem QEu (d lo:Int) (H:Qa):Qg prog Zq [.int .i64 d,.int .i64 lo] H λu H'=>u=.bool true∧H'=H:=by
 refine Qji λhw=>?_;simp only[QbM,Qb,simprocAttr,QhL];exact .mk (Lb _) ⟨rfl,rfl⟩
theorem QEv (d:Int) (H:Qa):Qg prog Zn [.int .i64 d] H λv H'=>Gx 1 5 H H' v 0 []∧Ext H H':=by
 refine Qjf λhw=>?_;simp only[QbJ,Qb,simprocAttr,QhI];exact .mk (Lb _) ⟨.inl ⟨rfl,rfl,rfl⟩,.refl _⟩
theorem QEw (d:Int) (hd:I64 d) (H:Qa):Qg prog Zp [.int .i64 d] H λv H'=>Gx 1 5 H H' v (Vk d 1).1.length (bys (Vk d 1).1)∧Ext H H':=by
 refine Qjh λhw=>?_;simp only[QbL,Qb,simprocAttr];refine(QcQ d 1 hd H).thenW ?_;rintro v H1 _ _ ⟨hv,hx⟩;simp only[Qb,simprocAttr,QhK];exact .mk hx.next ⟨hv,hx⟩
theorem QEx (d:Int) (hd:I64 d) (H:Qa):Qg prog Zr [.int .i64 d] H λv H'=>Gx 1 5 H H' v (Vk d 4).1.length (bys (Vk d 4).1)∧Ext H H':=by
 refine Qjj λhw=>?_;simp only[QbN,Qb,simprocAttr];refine(QcQ d 4 hd H).thenW ?_;rintro v H1 _ _ ⟨hv,hx⟩;simp only[Qb,simprocAttr,QhM];exact .mk hx.next ⟨hv,hx⟩
theorem QEy (md:Nat) (h:md<3) (m:Mm) (hd:I64 m.d):∃f g:FuncId,(QkU.drop (md * 2)).take 2=[.func (.func f) #[] #[],.func (.func g) #[] #[]]∧(∀H,Qg prog f [.int .i64 m.d,.int .i64 (Xp m.b)] H λu H'=>u=.bool (QEr md m)∧H'=H)∧(∀H,Qg prog g [.int .i64 m.d] H λv H'=>Gx 1 5 H H' v (Qjn md m).length (bys (Qjn md m))∧Ext H H'):=by
 rcases md with _ | _ | _ | md
 ·exact⟨_,_,rfl,QEs m.d (Xp m.b),QEv m.d⟩
 ·exact⟨_,_,rfl,QEt m.d (Xp m.b),QEw m.d hd⟩
 ·exact⟨_,_,rfl,QEu m.d (Xp m.b),QEx m.d hd⟩
 ·omega
theorem Qub (md:Nat) (m:Mm):(Qjn md m).length<=8:=by
 unfold Qjn;split
 ·simp
 ·split
  ·exact QgZ _ _ (by decide)
  ·exact QgZ _ _ (by decide)
theorem Qg7 (mid rm:Int) (sib:List Int) (m:Mm) (md:Nat):(List.range (md+1)).flatMap (Jc mid rm sib m)=(List.range md).flatMap (Jc mid rm sib m)++Jc mid rm sib m md:=by
 rw[R0,Bm];simp
theorem Qo8 {base l:Nat} {items:List Ld} {R:Nat->Qa->Prop} {Own:Qa->Nat->Prop} (hc:Cns base l items LdV R Own) (mid rm:Int) (hmid:0<=mid∧mid<8) (hrm:0<=rm∧rm<8) {sib:List Int} (hsl:sib.length<=8) {sv:Value} (m:Mm) (hd:I64 m.d) (j0:Nat) {Hs H:Qa} (hbase:base<=H.next) (hR:R j0 H) (hs:Gx 1 5 Hs H sv sib.length (bys sib)) (hso:∀id,inB sv id->¬Own H id)
  (hit:∀i w,(Zu mid rm sib m)[i]? = some w->items[j0+i]? = some w):
  Qg prog WI [.func (.yield l) #[] #[],.int .i64 mid,.int .i64 rm,sv,.agg m.cells.toArray] H λu H'=>u=.bool true∧R (j0+(Zu mid rm sib m).length) H'∧CK Own H H':=by
 refine Qd4 λhw=>?_;have qx:=QEy;have hbs:sv=sv:=rfl;obtain⟨bc,bn⟩:∃bc:Value,bc=.agg m.cells.toArray:=⟨_,rfl⟩;have ex:(Value.agg m.cells.toArray).cells.toList=m.cells:=rfl;simp only[Kb,ex,Qba,simprocAttr];have hx1:=(Ext.refl H).push (.cells m.cells Qx false);have hw1:=hw.push (.cells m.cells Qx false);have hg1:(H.push (.cells m.cells Qx false)).get H.next=some (.cells m.cells Qx false):=by rw[Qd,Lc rfl]
 generalize H.push (.cells m.cells Qx false)=H1 at *;refine(Qnb H1).thenW ?_;rintro _ Hb hnb hwb ⟨rfl,hHb⟩;have hxb:Ext H1 Hb:=by rw[hHb];exact(Ext.refl H1).push _
 have hgb:Hb.get H1.next=some (.cells QkU WJ false):=by rw[hHb,Qd,Lc rfl]
 have hg1b:Hb.get H.next=some (.cells m.cells Qx false):=by rw[hxb.get _ (hw1.lt hg1)];exact hg1
 clear hHb;have hxab:=hx1.trans hxb;obtain⟨hRb,hOb⟩:=hc.ext _ _ _ hR hw hxab;have hlow:=hc.low j0 H;have hsb:=hs.go hw hxab;simp only[Qba,simprocAttr,QU];refine QB (λk A' H'=>∃md:Nat,md<=3∧k=3 - md∧R (j0+((List.range md).flatMap (Jc mid rm sib m)).length) H'∧CK Own Hb H'∧A' 0=.func (.yield l) #[] #[]∧A' 1=.int .i64 mid∧A' 2=.int .i64 rm∧A' 3=sv∧A' 9=.pointer (some ⟨H.next,0,none⟩)∧A' 14=.slice (some ⟨H1.next,0,none⟩) 3 3∧A' 15=.int .i64 3∧A' 16=.int .i64 md) 3 ?_ ?_
 ·refine⟨0,by omega,rfl,hRb,hc.ck hRb hwb (.refl _) hwb,?_,?_,?_,?_,?_,?_,?_,?_⟩
  all_goals simp only[Ql,simprocAttr]
  all_goals rfl
 ·rintro k A' Ha ⟨md,hmd,rfl,hRa,hka,r0,r1,r2,r3,r9,r14,r15,r16⟩;have hwa:=hka.w;have hna:=hka.next;have ho1:¬Own Hb H.next:=λh=>by have:=hlow _ hR (hOb _ h);omega
  have ho2:¬Own Hb H1.next:=λh=>by have:=hlow _ hR (hOb _ h);have:=hx1.next;omega
  have ga:Ha.get H.next=some (.cells m.cells Qx false):=by rw[hka.keep _ (hwb.lt hg1b) ho1];exact hg1b
  have gx:Ha.get H1.next=some (.cells QkU WJ false):=by rw[hka.keep _ (hwb.lt hgb) ho2];exact hgb
  simp only[Z4,Qb,simprocAttr,r15,r16];refine Qi (λh2=>?_) (λh2=>?_)
  ·have h2:md<3:=by have:=Lg h2;omega
   obtain⟨f,g,hfg,qf,qg⟩:=qx md h2 m hd;have d1:(0:Int)<=md∧(md:Int)<(3:Nat):=by omega
   have d3:(md:Int).toNat=md:=by omega
   have ei:IntKind.i64.wrap ((md:Int)+1)=((md+1:Nat):Int):=by rw[w64 (by unfold I64;omega)];omega
   have hle:md * 2+2<=QkU.length:=by show md * 2+2<=6;omega
   simp only[Z3,sxA,sxB,Nat.reduceBEq,Nat.reduceEqDiff,reduceCtorEq,mxA,mxB,Nat.reduceAdd,reduceIte,Nat.reduceLeDiff,splice,r0,r1,r2,r3,r9,r14,r15,r16,d1,d3,gx,hfg,Z0,Y1];have hltb:=hwb.lt hg1b;have nz:¬H.next=Ha.next:=by omega
   have ga':=ga;simp only[Mm.cells]at ga';refine⟨hle,by simp[Qm,Ab.plain],?_⟩;simp only[Qb,simprocAttr,r9,nz,LN,ga'];generalize hH3:(Ha.push _).set Ha.next _=H3;have hx3:Ext Ha H3:=by rw[<- hH3];exact((Ext.refl Ha).push _).set (Lb _) _
   have hw3:H3.Wf:=by rw[<- hH3];exact(hwa.push _).set (b0:=.cells [.nilFunc,.nilFunc] WJ false) (by rw[Qd,Lc rfl]) _
   have g3e:H3.get Ha.next=some (.cells [.func (.func f) #[] #[],.func (.func g) #[] #[]] WJ false):=by rw[<- hH3,Qn,Lc rfl]
   clear hH3;have hlt3:=hw3.lt g3e;refine⟨by simp[Qm,Ab.plain],?_⟩;refine(Vl m.b H3).thenW ?_;rintro _ _ hn4 hw4 ⟨rfl,k,rfl⟩;simp only[Qy]at hn4;have hx4:=hx3.up hn4;simp only[Qb,simprocAttr,VC];refine⟨((Ext.refl H3).up hn4).eqB,?_⟩;have g4e:(H3.up k).get Ha.next=some (.cells [.func (.func f) #[] #[],.func (.func g) #[] #[]] WJ false):=by rw[Z9];exact g3e
   generalize H3.up k=H4 at *;refine(qf H4).thenW ?_;rintro _ H4 _ _ ⟨rfl,rfl⟩;obtain⟨hR4,hO4⟩:=hc.ext _ _ _ hRa hwa hx4;have hk4:CK Own Hb H4:=hka.trans (hc.ck hRa hwa hx4 hw4);cases hm:QEr md m with
   | false=>
    simp only[Qb,simprocAttr,LM,r16,ei];have hl0:Jc mid rm sib m md=[]:=by unfold Jc;rw[Le (by simp[hm])]
    refine⟨3 - (md+1),by omega,md+1,by omega,rfl,?_,hk4,?_,?_,?_,?_,?_,?_,?_,?_⟩
    ·rw[Qg7,hl0,Na];exact hR4
    all_goals simp only[Ql,simprocAttr,r0,r1,r2,r3,r9,r14,r15]
   | true=>
    simp only[Z2,Qb,simprocAttr,L8,r0,r1,r2,r3,r9,r14,r15,r16];refine(Yd md mid rm (by omega) hmid hrm H4).thenW ?_;rintro _ H4 _ _ ⟨rfl,rfl⟩;simp only[Qb,simprocAttr,r0,r1,r2,r3,r9,r14,r15,r16];have hsa:Gx 1 5 Hs Ha sv sib.length (bys sib):=hsb.ext λid hid=>hka.keep id (by have:=hsb.low hwb hid;omega) (λh=>hso id hid (hOb id h));have hs4:=hsa.go hwa hx4;have hx5:=(Ext.refl H4).push (.cells [.int .u8 (QR md mid rm)] 5 false);have hw5:=hw4.push (.cells [.int .u8 (QR md mid rm)] 5 false);have hg5:Gx 1 5 H4 (H4.push (.cells [.int .u8 (QR md mid rm)] 5 false)) (.slice (some ⟨H4.next,0,none⟩) 1 1) 1 (bys [QR md mid rm]):=.inr ⟨_,_,rfl,Lb _,by rw[Qd,Lc rfl];rfl,rfl,.inl rfl⟩;have hs5:=hs4.go hw4 hx5;generalize H4.push _=H5 at *;have hll:=Qub md m;refine Qdf hg5 hx5 hw5 hs5.src (QcP _) (by rw[JC,NH]) (by omega) (by omega) ?_;intro v6 H6 hg6 hk6;have g6e:H6.get Ha.next=some (.cells [.func (.func f) #[] #[],.func (.func g) #[] #[]] WJ false):=by rw[hk6.x.get _ (hw4.lt g4e)];exact g4e
    have hx46:=hx4.trans hk6.x;have g6m:H6.get H.next=some (.cells m.cells Qx false):=by rw[hx46.get _ (by omega)];exact ga
    simp only[Mm.cells]at g6m;simp only[Qb,simprocAttr,g6e,g6m,VC,r0,r1,r2,r3,r9,r14,r15,r16];refine(qg H6).thenW ?_;rintro v7 H7 hn7 hw7 ⟨hg7,hx7⟩;simp only[Qb,simprocAttr];refine Qdf (hg6.go hk6.w hx7) (hk6.x.trans hx7) hw7 hg7.src (QcP _) (by rw[JC,NH]) (by omega) (by omega) ?_;intro v8 H8 hg8 hk8;obtain⟨a8,c8,rfl⟩:=hg8.slc;have hx48:=hx4.trans hk8.x;have g8m:H8.get H.next=some (.cells m.cells Qx false):=by rw[hx48.get _ (by omega)];exact ga
    simp only[Mm.cells]at g8m;have hw8:=hk8.w;simp only[Qb,simprocAttr,g8m,r0,r9];have hle8:=hx48.next;refine⟨by omega,?_⟩;refine(QbO m.i H8).thenW ?_;rintro _ _ hn9 hw9 ⟨rfl,k9,rfl⟩;simp only[Qy]at hn9;have hx9:=hx48.up hn9;have g9m:(H8.up k9).get H.next=some (.cells m.cells Qx false):=by rw[hx9.get _ (by omega)];exact ga
    simp only[Mm.cells]at g9m;have heq9:=((Ext.refl H8).up hn9).eqB;have hg9:=hg8.go hw8 ((Ext.refl H8).up hn9);generalize H8.up k9=H9 at *;simp only[Qb,simprocAttr,g9m,r0,r9];refine⟨heq9,by simp[Qm,Ab.plain],?_⟩;refine(QbO m.b H9).thenW ?_;rintro _ _ hn10 hw10 ⟨rfl,k10,rfl⟩;simp only[Qy]at hn10;have hx10:=hx9.up hn10;have hg10:=hg9.go hw9 ((Ext.refl H9).up hn10);obtain⟨hR10,hO10⟩:=hc.ext _ _ _ hRa hwa hx10;generalize H9.up k10=H10 at *;simp only[Qb,simprocAttr,r0,ZT];have hone:Jc mid rm sib m md=[⟨[QR md mid rm]++sib++Qjn md m,Kc m.i,Kc m.b⟩]:=by unfold Jc;rw[Lc hm]
    have hi0:items[j0+((List.range md).flatMap (Jc mid rm sib m)).length]? = some ⟨[QR md mid rm]++sib++Qjn md m,Kc m.i,Kc m.b⟩:=by
     refine hit _ _ ?_;unfold Zu;have h3:List.range 3=List.range (md+1)++(List.range 3).drop (md+1):=by
      rcases md with _ | _ | _ | md
      ·rfl
      ·rfl
      ·rfl
      ·omega
     rw[h3,Bm,Qg7,hone,LQ,LR (Lb _),BJ];rfl
    have hIt:LdV Ha H10 ⟨[QR md mid rm]++sib++Qjn md m,Kc m.i,Kc m.b⟩ (.agg #[.slice a8 (1+sib.length+(Qjn md m).length) c8,.int .i64 (Kc m.i),.int .i64 (Kc m.b)]):=by
     have e1:([QR md mid rm]++sib++Qjn md m).length=1+sib.length+(Qjn md m).length:=by simp only[Lh,Lo,L9]
     have e2:bys ([QR md mid rm]++sib++Qjn md m)=bys [QR md mid rm]++bys sib++bys (Qjn md m):=by rw[QaT,QaT]
     refine⟨_,rfl,?_⟩;show Gx 1 5 Ha H10 _ ([QR md mid rm]++sib++Qjn md m).length (bys ([QR md mid rm]++sib++Qjn md m));rw[e1,e2];exact hg10.down hx4.next
    refine Qhw (hc.go _ _ Ha H10 _ hi0 hR10 hRa hwa hIt (by have:=hxab.next;omega) hx10 hO10) ?_;rintro _ H11 hn11 hw11 ⟨rfl,hR11,hk11⟩;simp only[Qb,simprocAttr,L8,r16,ei];refine⟨3 - (md+1),by omega,md+1,by omega,rfl,?_,?_,?_,?_,?_,?_,?_,?_,?_,?_⟩
    ·rw[Qg7,hone,Lh];exact hR11
    ·exact(hka.trans (hc.ck hRa hwa hx10 hw10)).trans hk11
    all_goals simp only[Ql,simprocAttr,r0,r1,r2,r3,r9,r14,r15]
  ·have h2:md=3:=by have:=Ll h2;omega
   subst h2;simp only[Qb,simprocAttr,Qde];have hkk:CK Own H Ha:=(hc.ck hR hw hxab hwb).trans hka;exact .mk hkk.next ⟨rfl,hRa,hkk⟩
def Qiq (mid:Int) (m:Mm):List Ld:=
 if(m.b.c==8)=true then[⟨[QR 0 mid 5]++(Vk m.d 4).1,0,0⟩]
 else if isR m.b 0 0=true then[Qe1 mid m.i m.sc m.d]
 else if isR m.i 0 0=false then Zu mid 4 [QR (Vm m.sc) (Xp m.i) (Xp m.b)] m
 else(if(Xp m.b==4)=true then[] else Zu mid (Xp m.b) [] m)++(Zu mid 4 [QR 0 4 (Xp m.b)] m++(if(m.b.n==4)=true then[] else[Qe1 mid m.b 1 m.d]))
theorem Qpb (H:Qa) (b:Int):Gx 1 5 H (H.push (.cells [.int .u8 b] 5 false)) (.slice (some ⟨H.next,0,none⟩) 1 1) 1 (bys [b]):=.inr ⟨_,_,rfl,Lb _,by rw[Qd,Lc rfl];rfl,rfl,.inl rfl⟩
section
variable {base l:Nat} {R:Nat->Qa->Prop} {Own:Qa->Nat->Prop} {mid:Int} {m:Mm} {H:Qa} {bm bi:Nat}
theorem Qqg (hc:Cns base l (Qiq mid m) LdV R Own) (hbase:base<=H.next) (hmid:0<=mid∧mid<8) (hd:I64 m.d) (hf:isR m.i 0 0=false->Wx m.sc=true) (hR:R 0 H) (gm:H.get bm=some (.cells m.cells Qx false)) (gi:H.get bi=some (.cells [.int .i64 mid] 3 false)) (om:¬Own H bm) (oi:¬Own H bi):
  Qg prog ZB [.func (.yield l) #[] #[],.pointer (some ⟨bm,0,none⟩),.pointer (some ⟨bi,0,none⟩)] H λu H'=>R (Qiq mid m).length H'∧CK Own H H':=by
 refine Qm6 λhw=>?_;have hlow:=Qr7 m.b;have hlowi:=Qr7 m.i;have hsc:=Qt4 m.sc;have hlm:=hw.lt gm;have hli:=hw.lt gi;have ql:=Vl m.b;have qli:=Vl m.i;have he1:(m.b.c==0&&m.b.n==0)=isR m.b 0 0:=rfl;have he2:(m.i.c==0&&m.i.n==0)=isR m.i 0 0:=rfl;have gm':=gm;simp only[Mm.cells]at gm';simp only[Rg.cells]at ql qli;simp only[QfI,Qb,simprocAttr,gm'];refine(ql H).thenW ?_;rintro _ _ hn1 hw1 ⟨rfl,k1,rfl⟩;simp only[Qy]at hn1;have nz:¬bm=k1:=by omega
 simp only[Qb,simprocAttr,nz,LN,gm'];generalize hH2:((H.up k1).push _).set k1 _=H2;have hx2:Ext H H2:=by rw[<- hH2];exact(((Ext.refl H).up hn1).push _).set (by omega) _
 have hw2:H2.Wf:=by rw[<- hH2];exact(hw1.push _).set (b0:=.cells [.int .i64 0,.int .i64 0] QL false) (by rw[Qd,Lc (by rw[Qy])]) _
 have hk2:k1<H2.next:=by rw[<- hH2,QE,Qe,Qy];omega
 have g2z:H2.get k1=some (.cells [.int .i64 0,.int .i64 0] QL false):=by rw[<- hH2,Qn,Lc rfl]
 have g2m:H2.get bm=some (.cells m.cells Qx false):=by rw[hx2.get _ hlm];exact gm
 have g2i:H2.get bi=some (.cells [.int .i64 mid] 3 false):=by rw[hx2.get _ hli];exact gi
 clear hH2;obtain⟨hR2,hO2⟩:=hc.ext _ _ _ hR hw hx2;have hck2:=hc.ck hR hw hx2 hw2;have o2m:¬Own H2 bm:=λh=>om (hO2 _ h);have o2i:¬Own H2 bi:=λh=>oi (hO2 _ h);have o2z:¬Own H2 k1:=λh=>by have:=hc.low _ _ _ hR (hO2 _ h);omega
 obtain⟨W,eW⟩:∃W,W=Qiq mid m:=⟨_,rfl⟩;rw[<- eW]at hc ⊢;unfold Qiq at eW;have g2m':=g2m;simp only[Mm.cells]at g2m';cases h8:m.b.c==8 with
 | true=>
  rw[h8,Lc rfl]at eW;simp only[Qb,simprocAttr,g2i];refine⟨by omega,?_⟩;refine(Yd 0 mid 5 (by decide) hmid (by decide) H2).thenW ?_;rintro _ H2 _ _ ⟨rfl,rfl⟩;have hx3:=(Ext.refl H2).push (.cells [.int .u8 (QR 0 mid 5)] 5 false);have hw3:=hw2.push (.cells [.int .u8 (QR 0 mid 5)] 5 false);have hg3:=Qpb H2 (QR 0 mid 5);have g3m:(H2.push (.cells [.int .u8 (QR 0 mid 5)] 5 false)).get bm=some (.cells m.cells Qx false):=by rw[hx3.get _ (by have:=hw2.lt g2m;omega)];exact g2m
  have nb:¬bm=H2.next:=by have:=hw2.lt g2m;omega
  simp only[Mm.cells]at g3m;simp only[Qb,simprocAttr,nb,LN,g2m'];generalize H2.push _=H3 at *;refine⟨λ_ _=>rfl,by simp[Qm,Ab.plain],?_⟩;refine(QcQ m.d 4 hd H3).thenW ?_;rintro v4 H4 _ hw4 ⟨hg4,hx4⟩;have hpl:=QgZ m.d 4 (by decide);simp only[Qb,simprocAttr];refine⟨hx4.eqB,?_⟩;refine Qdf (hg3.go hw3 hx4) (hx3.trans hx4) hw4 hg4.src (QcP _) (by rw[JC,NH]) (by omega) (by omega) ?_;intro v5 H5 hg5 hk5;obtain⟨a5,c5,rfl⟩:=hg5.slc;obtain⟨hR5,hO5⟩:=hc.ext _ _ _ hR2 hw2 hk5.x;have hck5:=hck2.trans (hc.ck hR2 hw2 hk5.x hk5.w);simp only[Qb,simprocAttr,ZT];refine Qhw (hc.go 0 ⟨[QR 0 mid 5]++(Vk m.d 4).1,0,0⟩ H2 H5 _ (by rw[eW];rfl) hR5 hR2 hw2 ⟨_,rfl,?_⟩ (by have:=hx2.next;omega) hk5.x hO5) ?_
  ·show Gx 1 5 H2 H5 _ ([QR 0 mid 5]++(Vk m.d 4).1).length (bys ([QR 0 mid 5]++(Vk m.d 4).1));rw[QaT,Lh];exact hg5
  rintro _ H6 hn6 hw6 ⟨rfl,hR6,hk6⟩;have hk7:=hck5.trans hk6;simp only[Qb,simprocAttr,YF];exact .mk hk7.next ⟨by rw[eW];exact hR6,hk7⟩
 | false=>
  rw[h8,Le (by simp)]at eW;simp only[QcO,Qb,simprocAttr,g2m',g2z,Qz,Ls,he1];cases hb0:isR m.b 0 0 with
  | true=>
   rw[hb0,Lc rfl]at eW;simp only[Qb,simprocAttr,g2m',g2i];refine(Qik mid m.i m.sc m.d hmid hf hd H2).thenW ?_;rintro v3 H3 _ hw3 ⟨hv3,hx3⟩;obtain⟨hR3,hO3⟩:=hc.ext _ _ _ hR2 hw2 hx3;have hck3:=hck2.trans (hc.ck hR2 hw2 hx3 hw3);simp only[Qb,simprocAttr,ZT];refine Qhw (hc.go 0 _ H2 H3 _ (by rw[eW];rfl) hR3 hR2 hw2 hv3 (by have:=hx2.next;omega) hx3 hO3) ?_;rintro _ H6 hn6 hw6 ⟨rfl,hR6,hk6⟩;have hk7:=hck3.trans hk6;simp only[Qb,simprocAttr,YF];exact .mk hk7.next ⟨by rw[eW];exact hR6,hk7⟩
  | false=>
   rw[hb0,Le (by simp)]at eW;simp only[QcN,Qb,simprocAttr,g2m',g2z,Qz,Lq,he2];cases hi0:isR m.i 0 0 with
   | false=>
    rw[hi0,Lc rfl]at eW;simp only[QcK,Qb,simprocAttr,g2m',LM];refine⟨by omega,?_⟩;refine(Qij m.sc (hf hi0) H2).thenW ?_;rintro _ H2 _ _ ⟨rfl,rfl⟩;simp only[Qb,simprocAttr,g2m'];refine⟨λ_ _=>rfl,by simp[Qm,Ab.plain],?_⟩;refine(qli H2).thenW ?_;rintro _ _ hn3 hw3 ⟨rfl,k3,rfl⟩;simp only[Qy]at hn3;have hx3:=(Ext.refl H2).up hn3;have g3m:(H2.up k3).get bm=some (.cells m.cells Qx false):=by rw[Z9];exact g2m
    have g3i:(H2.up k3).get bi=some (.cells [.int .i64 mid] 3 false):=by rw[Z9];exact g2i
    simp only[Mm.cells]at g3m;obtain⟨hR3,hO3⟩:=hc.ext _ _ _ hR2 hw2 hx3;have hck3:=hck2.trans (hc.ck hR2 hw2 hx3 hw3);generalize H2.up k3=H3 at *;simp only[Qb,simprocAttr];refine(Yd _ _ _ hsc hlowi hlow H3).thenW ?_;rintro _ H3 _ _ ⟨rfl,rfl⟩;simp only[Qb,simprocAttr,g3i];have hl3:=hw3.lt g3m;have nb3:¬bm=H3.next:=by omega
    simp only[Qb,simprocAttr,nb3,LN,g3m];have hx4:=(Ext.refl H3).push (.cells [.int .u8 (QR (Vm m.sc) (Xp m.i) (Xp m.b))] 5 false);have hw4:=hw3.push (.cells [.int .u8 (QR (Vm m.sc) (Xp m.i) (Xp m.b))] 5 false);have hg4:=Qpb H3 (QR (Vm m.sc) (Xp m.i) (Xp m.b));generalize H3.push _=H4 at *;obtain⟨hR4,hO4⟩:=hc.ext _ _ _ hR3 hw3 hx4;have hck4:=hck3.trans (hc.ck hR3 hw3 hx4 hw4);refine(Qo8 hc mid 4 hmid (by decide) (sib:=[QR (Vm m.sc) (Xp m.i) (Xp m.b)]) (by simp) m hd 0 (by have:=hx2.next;have:=hx3.next;have:=hx4.next;omega) hR4 hg4 (λid ⟨o,n,c,e⟩ h=>by cases e;have:=hc.low _ _ _ hR3 (hO4 _ h);omega) (λi w h=>by rw[eW,LP];exact h)).thenW ?_;rintro _ H6 hn6 hw6 ⟨rfl,hR6,hk6⟩;have hk7:=hck4.trans hk6;simp only[Qb,simprocAttr,YF];exact .mk hk7.next ⟨by rw[eW];rw[LP]at hR6;exact hR6,hk7⟩
   | true=>
    rw[hi0,Le (by simp)]at eW
    -- the last two ways,behind what is told
    have hthree:∀ (pre:List Ld) (Hx:Qa) (A:Env),W=pre++(Zu mid 4 [QR 0 4 (Xp m.b)] m++(if(m.b.n==4)=true then[] else[Qe1 mid m.b 1 m.d]))->R pre.length Hx->CK Own H2 Hx->A 0=.func (.yield l) #[] #[]->A 1=.pointer (some ⟨bm,0,none⟩)->A 2=.pointer (some ⟨bi,0,none⟩)->A 5=.int .i64 (Xp m.b)->
      Qs prog KX ⟨Rt prog QbH H λu H'=>R W.length H'∧CK Own H H',exK 0 (Rt prog QbH H λu H'=>R W.length H'∧CK Own H H') YO⟩ (Rt prog QbH H λu H'=>R W.length H'∧CK Own H H') A Hx:=by
     intro pre Hx A eW2 hRx hkx r0 r1 r2 r5;have hwx:=hkx.w;have gxm:Hx.get bm=some (.cells m.cells Qx false):=by rw[hkx.keep _ (hw2.lt g2m) o2m];exact g2m
     have gxi:Hx.get bi=some (.cells [.int .i64 mid] 3 false):=by rw[hkx.keep _ (hw2.lt g2i) o2i];exact g2i
     have gxm':=gxm;simp only[Mm.cells]at gxm';have hlx:=hwx.lt gxm;have hlxi:=hwx.lt gxi;simp only[KX,Qb,simprocAttr,r0,r1,r2,r5,gxi];refine⟨by simp[Qm,Ab.plain],by omega,?_⟩;refine(Yd 0 4 _ (by decide) (by decide) hlow Hx).thenW ?_;rintro _ Hx _ _ ⟨rfl,rfl⟩;have nbx:¬bm=Hx.next:=by omega
     simp only[Qb,simprocAttr,nbx,LN,r0,r1,r2,r5,gxm'];have hx4:=(Ext.refl Hx).push (.cells [.int .u8 (QR 0 4 (Xp m.b))] 5 false);have hw4:=hwx.push (.cells [.int .u8 (QR 0 4 (Xp m.b))] 5 false);have hg4:=Qpb Hx (QR 0 4 (Xp m.b));obtain⟨hR4,hO4⟩:=hc.ext _ _ _ hRx hwx hx4;have hck4:=(hck2.trans hkx).trans (hc.ck hRx hwx hx4 hw4);refine⟨λ_ _=>rfl,by simp[Qm,Ab.plain],?_⟩;generalize Hx.push _=H4 at *;have hsp:∀i w,(Zu mid 4 [QR 0 4 (Xp m.b)] m)[i]? = some w->W[pre.length+i]? = some w:=λi w h=>by
      have hi:=(Lk.1 h).1;rw[eW2,LR (Ro _ _),NL,LY hi];exact h
     refine(Qo8 hc mid 4 hmid (by decide) (sib:=[QR 0 4 (Xp m.b)]) (by simp) m hd pre.length (by have:=hx2.next;have:=hkx.next;have:=hx4.next;omega) hR4 hg4 (λid ⟨o,n,c,e⟩ h=>by cases e;have:=hc.low _ _ _ hRx (hO4 _ h);omega) hsp).thenW ?_;rintro _ H6 hn6 hw6 ⟨rfl,hR6,hk6⟩;have hk7:=hck4.trans hk6;have hkx6:=(hkx.trans (hc.ck hRx hwx hx4 hw4)).trans hk6;have g6m:H6.get bm=some (.cells m.cells Qx false):=by rw[hkx6.keep _ (hw2.lt g2m) o2m];exact g2m
     have g6i:H6.get bi=some (.cells [.int .i64 mid] 3 false):=by rw[hkx6.keep _ (hw2.lt g2i) o2i];exact g2i
     simp only[Mm.cells]at g6m;simp only[QcL,Qb,simprocAttr,L8,r0,r1,r2,g6m];cases h4:m.b.n==4 with
     | true=>
      rw[h4,Lc rfl,Na]at eW2;simp only[Qb,simprocAttr,L8,YF];exact .mk hk7.next ⟨by rw[eW2,Lh];exact hR6,hk7⟩
     | false=>
      rw[h4,Le (by simp)]at eW2;simp only[Qb,simprocAttr,LM,r0,r1,r2,g6m,g6i];refine(Qik mid m.b 1 m.d hmid (λ_=>rfl) hd H6).thenW ?_;rintro v8 H8 _ hw8 ⟨hv8,hx8⟩;obtain⟨hR8,hO8⟩:=hc.ext _ _ _ hR6 hw6 hx8;have hck8:=hk7.trans (hc.ck hR6 hw6 hx8 hw8);simp only[Qb,simprocAttr,r0,ZT];have hiw:W[pre.length+(Zu mid 4 [QR 0 4 (Xp m.b)] m).length]? = some (Qe1 mid m.b 1 m.d):=by
       rw[eW2,LR (Ro _ _),NL,LR (Lb _),BJ];rfl
      refine Qhw (hc.go _ _ H6 H8 _ hiw hR8 hR6 hw6 hv8 (by have:=hk7.next;omega) hx8 hO8) ?_;rintro _ H9 hn9 hw9 ⟨rfl,hR9,hk9⟩;have hk10:=hck8.trans hk9;simp only[Qb,simprocAttr,YF];refine .mk hk10.next ⟨?_,hk10⟩;have:W.length=pre.length+(Zu mid 4 [QR 0 4 (Xp m.b)] m).length+1:=by rw[eW2];simp only[Lh,Lo,L9];omega
      rw[this];exact hR9
    simp only[QcM,Qb,simprocAttr,L8,g2m',g2i];cases h4:Xp m.b==4 with
    | true=>
     rw[h4,Lc rfl]at eW;simp only[Qb,simprocAttr,L8];refine hthree [] H2 _ eW hR2 (hc.ck hR2 hw2 (.refl _) hw2) ?_ ?_ ?_ ?_
     all_goals simp only[Ql,simprocAttr]
    | false=>
     rw[h4,Le (by simp)]at eW;simp only[Qb,simprocAttr,LM,g2m',g2i];refine(Qo8 hc mid (Xp m.b) hmid hlow (sib:=[]) (by simp) m hd 0 (by have:=hx2.next;omega) hR2 (Hs:=H2) (.inl ⟨rfl,rfl,rfl⟩) (λid ⟨o,n,c,e⟩=>by cases e) (λi w h=>by
      have hi:=(Lk.1 h).1;rw[eW,LP,LY hi];exact h)).thenW ?_
     rintro _ H6 hn6 hw6 ⟨rfl,hR6,hk6⟩;simp only[Qb,simprocAttr,L8];rw[LP]at hR6;refine hthree _ H6 _ eW hR6 hk6 ?_ ?_ ?_ ?_
     all_goals simp only[Ql,simprocAttr]
end
def ldC (ss:List Value) (ws:List Ld):List Value:=(ss.zip ws).flatMap λp=>[p.1,.int .i64 p.2.x,.int .i64 p.2.h]
theorem Qsj:∀ (ss:List Value) (ws:List Ld),ss.length=ws.length->(ldC ss ws).length=ws.length * 3
 | [],[],_=>rfl
 | s::ss,w::ws,h=>by
  have:=Qsj ss ws (by simpa using h);unfold ldC at *;simp only[BF,Ba,Lh,Lo,L9,this];omega
theorem QAG (ss:List Value) (ws:List Ld) (h:ss.length=ws.length) (s:Value) (w:Ld):ldC (ss++[s]) (ws++[w])=ldC ss ws++[s,.int .i64 w.x,.int .i64 w.h]:=by
 unfold ldC;rw[List.zip_append h,Bm];rfl
structure XP (e:TypeId) (H0 H:Qa) (v:Value) (ws:List Ld):Prop where
 it:∃ss:List Value,ss.length=ws.length∧Gx 3 e H0 H v ws.length (ldC ss ws)∧∀ (j:Nat) s w,ss[j]? = some s->ws[j]? = some w->Gx 1 5 H0 H s w.b.length (bys w.b)
theorem XP.nil (e:TypeId) (H0 H:Qa):XP e H0 H (.slice none 0 0) []:=⟨[],rfl,.inl ⟨rfl,rfl,rfl⟩,λj s w h=>by simp at h⟩
theorem XP.go {e:TypeId} {H0 H H':Qa} {v:Value} {ws:List Ld} (h:XP e H0 H v ws) (hw:H.Wf) (hx:Ext H H'):XP e H0 H' v ws:=by
 obtain⟨ss,h1,h2,h3⟩:=h.it;exact⟨ss,h1,h2.go hw hx,λj s w hs hw'=>(h3 j s w hs hw').go hw hx⟩
theorem XP.slc {e:TypeId} {H0 H:Qa} {v:Value} {ws:List Ld} (h:XP e H0 H v ws):∃a c,v=.slice a ws.length c:=by
 obtain⟨ss,h1,h2,h3⟩:=h.it;exact h2.slc
theorem XP.down {e:TypeId} {H0 H1 H:Qa} {v:Value} {ws:List Ld} (h:XP e H1 H v ws) (hx:H0.next<=H1.next):XP e H0 H v ws:=by
 obtain⟨ss,h1,h2,h3⟩:=h.it;exact⟨ss,h1,h2.down hx,λj s w hs hw'=>(h3 j s w hs hw').down hx⟩
theorem XP.keep {e:TypeId} {H0 H H':Qa} {v:Value} {ws:List Ld} (h:XP e H0 H v ws) (hk:∀id,H0.next<=id->(inB v id∨∃cs,H.get id=some (.cells cs 5 false))->H'.get id=H.get id):XP e H0 H' v ws:=by
 obtain⟨ss,h1,h2,h3⟩:=h.it;refine⟨ss,h1,?_,λj s w hs hw'=>?_⟩
 ·rcases h2 with h2 | ⟨b,c,rfl,q2,q3,q4⟩
  ·exact .inl h2
  ·exact .inr ⟨b,c,rfl,q2,by rw[hk b q2 (.inl ⟨_,_,_,rfl⟩)];exact q3,q4⟩
 ·rcases h3 j s w hs hw' with h2 | ⟨b,c,rfl,q2,q3,q4⟩
  ·exact .inl h2
  ·exact .inr ⟨b,c,rfl,q2,by rw[hk b q2 (.inr ⟨_,q3⟩)];exact q3,q4⟩
theorem Qxk {e bytes:Nat} (he:e≠5) {H0 H:Qa} {v s:Value} {w:Ld} {ws:List Ld} {ss:List Value} {k:Value->Qa->Prop} {x:Value} (h1:ss.length=ws.length) (h2:Gx 3 e H0 H v ws.length (ldC ss ws)) (h3:∀ (j:Nat) s w,ss[j]? = some s->ws[j]? = some w->Gx 1 5 H0 H s w.b.length (bys w.b)) (hx:Ext H0 H) (hw:H.Wf) (hs:Gx 1 5 H0 H s w.b.length (bys w.b)) (hsrc:ZQ 3 x H=some (1,[s,.int .i64 w.x,.int .i64 w.h])) (hb:(ws.length+1) * bytes<=140737488355328) (hn:ws.length+1<=9223372036854775807)
  (h:∀v' H',(ss++[s]).length=(ws++[w]).length->Gx 3 e H0 H' v' (ws++[w]).length (ldC (ss++[s]) (ws++[w]))->(∀ (j:Nat) s' w',(ss++[s])[j]? = some s'->(ws++[w])[j]? = some w'->Gx 1 5 H0 H' s' w'.b.length (bys w'.b))->GK v v' H0 H H'->k v' H'):Qeu e 3 bytes v x H k:=by
 have hone:([s,.int .i64 w.x,.int .i64 w.h]:List Value).all (·.oneCell')=true:=by
  obtain⟨a,c,rfl⟩:=hs.slc;rfl
 refine Qdf h2 hx hw hsrc hone rfl hb hn ?_;intro v' H' hg hk;refine h v' H' (by simp[h1]) ?_ (λj s' w' hs' hw'=>?_) hk
 ·rw[QAG _ _ h1,Lh];exact hg
 ·have hnot:∀id c',H.get id=some (.cells c' 5 false)->¬inB v id:=λid c' hc hi=>by
   obtain⟨o,n',c,rfl⟩:=hi;rcases h2 with⟨h,_,_⟩ | ⟨b,c,h,q2,q3,q4⟩
   ·cases h
   ·cases h;rw[q3]at hc;cases hc;exact he rfl
  have key:∀ {s:Value} {bs:List Int},Gx 1 5 H0 H s bs.length (bys bs)->Gx 1 5 H0 H' s bs.length (bys bs):=λhq=>by
   rcases hq with h2 | ⟨b,c,rfl,q2,q3,q4⟩
   ·exact .inl h2
   ·exact .inr ⟨b,c,rfl,q2,by rw[hk.keep b (hw.lt q3) (hnot b _ q3)];exact q3,q4⟩
  rcases Dj j ss.length with hj | hj | hj
  ·rw[LY hj]at hs';rw[LY (by omega)]at hw';exact key (h3 j s' w' hs' hw')
  ·rw[LR (by omega)]at hs' hw';rw[hj,BJ]at hs';rw[hj,h1,BJ]at hw';cases hs';cases hw';exact key hs
  ·have:=(Lk.1 hs').1;simp at this;omega
theorem QEz {e bytes:Nat} (he:e≠5) {H0 H:Qa} {v s:Value} {w:Ld} {ws:List Ld} {k:Value->Qa->Prop} {x:Value} (hl:XP e H0 H v ws) (hx:Ext H0 H) (hw:H.Wf) (hs:Gx 1 5 H0 H s w.b.length (bys w.b)) (hsrc:ZQ 3 x H=some (1,[s,.int .i64 w.x,.int .i64 w.h])) (hb:(ws.length+1) * bytes<=140737488355328) (hn:ws.length+1<=9223372036854775807)
  (h:∀v' H',XP e H0 H' v' (ws++[w])->GK v v' H0 H H'->k v' H'):Qeu e 3 bytes v x H k:=by
 obtain⟨ss,h1,h2,h3⟩:=hl.it;exact Qxk he h1 h2 h3 hx hw hs hsrc hb hn λv' H' a b c d=>h v' H' ⟨_,a,b,c⟩ d
def Inc (ss:List Value) (U:Nat):Prop:=ss.Pairwise (λs s'=>∀a b,inB s a->inB s' b->a<b)∧∀s∈ss,∀a,inB s a->a<U
theorem Inc.mono {ss:List Value} {U U':Nat} (h:Inc ss U) (hu:U<=U'):Inc ss U':=⟨h.1,λs hs a ha=>N5 (h.2 s hs a ha) hu⟩
theorem Inc.snoc {ss:List Value} {U U':Nat} (h:Inc ss U) (hu:U<=U') {s:Value} (hs:∀a,inB s a->U<=a∧a<U'):Inc (ss++[s]) U':=by
 refine⟨List.pairwise_append.2 ⟨h.1,Bw _ _,λx hx y hy a b ha hb=>?_⟩,λx hx a ha=>?_⟩
 ·cases Sa.1 hy;have:=h.2 x hx a ha;have:=(hs b hb).1;omega
 ·rcases LI.1 hx with hx | hx
  ·have:=h.2 x hx a ha;omega
  ·cases Sa.1 hx;exact(hs a ha).2
structure LsU (e:TypeId) (H0 H:Qa) (v:Value) (ws:List Ld) (U:Nat):Prop where
 it:∃ss:List Value,ss.length=ws.length∧Gx 3 e H0 H v ws.length (ldC ss ws)∧(∀ (j:Nat) s w,ss[j]? = some s->ws[j]? = some w->Gx 1 5 H0 H s w.b.length (bys w.b))∧Inc ss U
section
variable {e:TypeId} {H0 H H' H1:Qa} {v:Value} {ws:List Ld} {U U':Nat}
theorem LsU.ls (h:LsU e H0 H v ws U):XP e H0 H v ws:=by
 obtain⟨ss,h1,h2,h3,_⟩:=h.it;exact⟨ss,h1,h2,h3⟩
theorem LsU.nil (e:TypeId) (H0 H:Qa) (U:Nat):LsU e H0 H (.slice none 0 0) [] U:=⟨[],rfl,.inl ⟨rfl,rfl,rfl⟩,λj s w h=>by simp at h,List.Pairwise.nil,λs h=>by cases h⟩
theorem LsU.mono (h:LsU e H0 H v ws U) (hu:U<=U'):LsU e H0 H v ws U':=by
 obtain⟨ss,h1,h2,h3,h4⟩:=h.it;exact⟨ss,h1,h2,h3,h4.mono hu⟩
theorem LsU.of (h:LsU e H0 H v ws U) (hg:∀ {size e v n cs},Gx size e H0 H v n cs->Gx size e H1 H' v n cs):LsU e H1 H' v ws U:=by
 obtain⟨ss,h1,h2,h3,h4⟩:=h.it;exact⟨ss,h1,hg h2,λj s w a b=>hg (h3 j s w a b),h4⟩
theorem LsU.go (h:LsU e H0 H v ws U) (hw:H.Wf) (hx:Ext H H'):LsU e H0 H' v ws U:=h.of λg=>g.go hw hx
theorem LsU.down (h:LsU e H1 H v ws U) (hx:H0.next<=H1.next):LsU e H0 H v ws U:=h.of λg=>g.down hx
end
theorem Qxl {e bytes:Nat} (he:e≠5) {H0 H:Qa} {v s:Value} {w:Ld} {ws:List Ld} {U U':Nat} {k:Value->Qa->Prop} {x:Value} (hl:LsU e H0 H v ws U) (hu:U<=U') (hsu:∀a,inB s a->U<=a∧a<U') (hx:Ext H0 H) (hw:H.Wf) (hs:Gx 1 5 H0 H s w.b.length (bys w.b)) (hsrc:ZQ 3 x H=some (1,[s,.int .i64 w.x,.int .i64 w.h])) (hb:(ws.length+1) * bytes<=140737488355328) (hn:ws.length+1<=9223372036854775807)
  (h:∀v' H',LsU e H0 H' v' (ws++[w]) U'->GK v v' H0 H H'->k v' H'):Qeu e 3 bytes v x H k:=by
 obtain⟨ss,h1,h2,h3,h4⟩:=hl.it;exact Qxk he h1 h2 h3 hx hw hs hsrc hb hn λv' H' a b c d=>h v' H' ⟨_,a,b,c,h4.snoc hu hsu⟩ d
def clR (e:TypeId) (Hb:Qa) (cB lB:Nat) (eC:TypeId) (bl:Blk) (W:List Ld) (j:Nat) (H':Qa):Prop:=
 H'.get lB=some bl∧Hb.next<=H'.next∧(∀id,id<Hb.next->id≠cB->id≠lB->H'.get id=Hb.get id)∧∃v,H'.get cB=some (.cells [v] eC false)∧XP e Hb H' v (W.take j)∧∀id,inB v id->id<H'.next∧Hb.next<=id
def clO (cB lB:Nat) (eC:TypeId) (H:Qa) (id:Nat):Prop:=id=cB∨id=lB∨∃v,H.get cB=some (.cells [v] eC false)∧inB v id
theorem QCE {e:TypeId} {Hb:Qa} {cB lB:Nat} (hc:cB<Hb.next) (hl:lB<Hb.next) {eC:TypeId} {bl:Blk} {W:List Ld} {j:Nat} {H1 H2:Qa} (h:clR e Hb cB lB eC bl W j H1) (hw:H1.Wf) (hx:Ext H1 H2):clR e Hb cB lB eC bl W j H2∧∀id,clO cB lB eC H2 id->clO cB lB eC H1 id:=by
 obtain⟨h1,h2,h3,v,h5,h6,h7⟩:=h;have hn:=hx.next;have e5:=hx.get cB (by omega);refine⟨⟨by rw[hx.get lB (by omega)];exact h1,by omega,λid a b c=>by rw[hx.get id (by omega)];exact h3 id a b c,v,by rw[e5];exact h5,h6.go hw hx,λid hi=>?_⟩,λid hi=>?_⟩
 ·have:=h7 id hi;exact⟨by omega,this.2⟩
 ·rcases hi with h | h | ⟨v',h,hi⟩
  ·exact .inl h
  ·exact .inr (.inl h)
  ·exact .inr (.inr ⟨v',by rw[<- e5];exact h,hi⟩)
theorem QCF {e:TypeId} {Hb:Qa} {cB lB:Nat} (hc:cB<Hb.next) (hl:lB<Hb.next) {eC:TypeId} {bl:Blk} {W:List Ld} {j:Nat} {H1:Qa} (h:clR e Hb cB lB eC bl W j H1) {id:Nat} (hi:clO cB lB eC H1 id):id<H1.next:=by
 obtain⟨h1,h2,h3,v,h5,h6,h7⟩:=h;rcases hi with rfl | rfl | ⟨v',h,hi⟩
 ·omega
 ·omega
 ·rw[h5]at h;cases h;exact(h7 id hi).1
theorem Quc (f:FuncId) (hf:entered prog f=true) (ys:List Value) (W:List Ld) (hW:W.length<=1000) (H:Qa)
  (hgo:∀ (l:Nat) (R:Nat->Qa->Prop) (Own:Qa->Nat->Prop) (H':Qa),Cns H'.next l W LdV R Own->R 0 H'->Ext H H'->(∀id,id<H.next->¬Own H' id)->Qg prog f ([.func (.yield l) #[] #[]]++ys) H' λu H2=>R W.length H2∧CK Own H' H2):
  Qg prog Wn [.slice none 0 0,.func (.func f) #[] ys.toArray] H λv H'=>XP Qq H H' v W∧Ext H H':=by
 refine ZZ λhw=>?_;simp only[Xf,Qb,simprocAttr];generalize hH1:H.push _=H1;obtain⟨eC,g0⟩:∃eC,H1.get H.next=some (.cells [.slice none 0 0] eC false):=⟨_,by rw[<- hH1,Qd,Lc rfl]⟩;have hx1:Ext H H1:=by rw[<- hH1];exact(Ext.refl H).push _
 have hw1:H1.Wf:=by rw[<- hH1];exact hw.push _
 have hn1:H1.next=H.next+1:=by rw[<- hH1];rfl
 clear hH1;simp only[Ql,simprocAttr,Kn];rw[Qgi f [] ys];intro L hY;refine⟨hf,?_⟩;have hxb:Ext H (H1.push (L none)):=hx1.push _;have hnb:(H1.push (L none)).next=H.next+2:=by rw[Qe,hn1]
 have gb0:(H1.push (L none)).get H.next=some (.cells [.slice none 0 0] eC false):=by rw[Qd,Le (by omega)];exact g0
 have gbl:(H1.push (L none)).get H1.next=some (L none):=by rw[Qd,Lc rfl]
 have hwb:=hw1.push (L none);generalize H1.push (L none)=Hb at *;have hc0:H.next<Hb.next:=by omega
 have hl0:H1.next<Hb.next:=by omega
 refine(hgo H1.next (clR Qq Hb H.next H1.next eC (L none) W) (clO H.next H1.next eC) Hb ⟨?_,?_,?_⟩ ?_ hxb ?_).thenW ?_
 ·exact λj Ha Hc h hwa hx=>QCE hc0 hl0 h hwa hx
 ·exact λj Ha id h hi=>QCF hc0 hl0 h hi
 ·rintro j w H0' H1' v0 hj hR _ _ ⟨s,rfl,hs⟩ hb0 hx0 hO hw1';obtain⟨h1,h2,h3,v,h5,h6,h7⟩:=hR;refine hY H1.next _ H1' _ h1 rfl ?_ hw1';have hj':=(Lk.1 hj).1;have hsb:Gx 1 5 Hb H1' s w.b.length (bys w.b):=hs.down hb0
  -- the loop's QsP is taken away while its body runs
  have kk:∀id,id≠H1.next->(H1'.kill H1.next).get id=H1'.get id:=λid hid=>by rw[Wd,Le hid]
  have hnk:(H1'.kill H1.next).next=H1'.next:=rfl;have hwk:(H1'.kill H1.next).Wf:=hw1'.kill _;have k5:=(kk H.next (by omega)).trans h5;have k6:XP Qq Hb (H1'.kill H1.next) v (W.take j):=h6.keep λid hid _=>kk id (by omega);have ks:Gx 1 5 Hb (H1'.kill H1.next) s w.b.length (bys w.b):=hsb.ext λid hid=>kk id (by have:=hsb.low hw1' hid;omega);have k3:∀id,id<Hb.next->id≠H.next->id≠H1.next->(H1'.kill H1.next).get id=Hb.get id:=λid a b c=>(kk id c).trans (h3 id a b c);generalize hHk:H1'.kill H1.next=Hk at *;obtain⟨a,c,rfl⟩:=ks.slc;obtain⟨av,cv,rfl⟩:=k6.slc;have nz:¬H.next=Hk.next:=by omega
  simp only[Qew,Qhn,Qb,simprocAttr,nz,LN,k5];generalize hH5:Qa.push (Qa.set (Qa.push Hk _) _ _) _=H5;have hx5:Ext Hk H5:=by rw[<- hH5];exact(((Ext.refl Hk).push _).set (Lb _) _).push _
  have hw5:H5.Wf:=by rw[<- hH5];exact((hwk.push _).set (b0:=.cells [.slice none 0 0,.int .i64 0,.int .i64 0] Qq false) (by rw[Qd,Lc rfl]) _).push _
  have g5:H5.get (Hk.next+1)=some (.cells [.slice a w.b.length c,.int .i64 w.x,.int .i64 w.h] Qq false):=by rw[<- hH5,Qd,Lc (by rw[QE,Qe])]
  have hn5:H5.next=Hk.next+2:=by rw[<- hH5,Qe,QE,Qe]
  clear hH5;have hsrc:ZQ 3 (.slice (some ⟨Hk.next+1,0,none⟩) 1 1) H5=some (1,[.slice a w.b.length c,.int .i64 w.x,.int .i64 w.h]):=by
   rw[Qb5 g5 (by decide) (by simp)];rfl
  have hlt:(W.take j).length<=1000:=by rw[Sb];omega
  -- what was there when the loop began may have changed at its variable and its QsP alone;the rest of the list is new
  have hxx:∃Hz:Qa,Ext Hz H5∧Hz.next=Hb.next:=⟨⟨Hb.next,H5.tr⟩,⟨by show Hb.next<=H5.next;omega,λid _=>rfl⟩,rfl⟩;obtain⟨Hz,hxz,hnz⟩:=hxx;have hlz:XP Qq Hz H5 (.slice av (W.take j).length cv) (W.take j):=(k6.go hwk hx5).down (by omega);have hsz:Gx 1 5 Hz H5 (.slice a w.b.length c) w.b.length (bys w.b):=(ks.go hwk hx5).down (by omega);refine QEz (by decide) hlz hxz hw5 hsz hsrc (by omega) (by omega) ?_;intro v' H6 hl6 hk6;obtain⟨a',c',rfl⟩:=hl6.slc;have htk:W.take (j+1)=W.take j++[w]:=by rw[Nv,hj];rfl
  rw[<- htk]at hl6 hk6 ⊢;have h65:∀id,id<Hb.next->H6.get id=H5.get id:=λid hid=>(hk6.x.get id (by omega)).trans (hxz.get id (by omega)).symm;have k6c:H6.get H.next=some (.cells [.slice av (W.take j).length cv] eC false):=by rw[h65 _ (by omega),hx5.get _ (by omega)];exact k5
  have hnk6:=hk6.next;simp only[Qb,simprocAttr,Qev,k6c];refine⟨by omega,⟨by rw[Qn,Lc rfl],by rw[QE,QE];omega,λid p q r=>?_,.slice a' (W.take (j+1)).length c',?_,?_,λid hi=>?_⟩,⟨by rw[QE,QE];omega,?_,λid p q=>?_,λid hi=>?_⟩⟩
  ·rw[Qn,Le r,Qn,Le q,h65 _ (by omega),hx5.get _ (by omega)];exact k3 id p q r
  ·rw[Qn,Le (by omega),Qn,Lc rfl]
  ·refine XP.keep (H0:=Hb) (H:=H6) (hl6.down (by omega)) λid hid _=>?_;rw[Qn,Le (by omega),Qn,Le (by omega)]
  ·obtain⟨ss,_,hg,_⟩:=hl6.it;have:=hg.low hk6.w hi;rw[QE,QE];exact⟨this.2,by omega⟩
  ·intro id hid;rw[QE,QE]at hid;rw[Qn,Le (by omega),Qn,Le (by omega)];exact hk6.w id hid
  ·have q1:id≠H.next:=λh=>q (.inl h);have q2:id≠H1.next:=λh=>q (.inr (.inl h));have q3:¬inB (.slice av (W.take j).length cv) id:=λh=>q (.inr (.inr ⟨_,h5,h⟩));rw[Qn,Le q2,Qn,Le q1,hk6.keep id (by omega) q3,hx5.get _ (by omega),kk id q2]
  ·rcases hi with h | h | ⟨v'',h,hi⟩
   ·exact .inl (.inl h)
   ·exact .inl (.inr (.inl h))
   ·rw[Qn,Le (by omega),Qn,Lc rfl]at h;cases h;rcases hk6.new id hi with h | h
    ·exact .inl (.inr (.inr ⟨_,h5,h⟩))
    ·exact .inr (by omega)
 ·exact⟨gbl,Lb _,λ_ _ _ _=>rfl,_,gb0,XP.nil _ _ _,λid ⟨o,n,c,h⟩=>by cases h⟩
 ·rintro id hid (h | h | ⟨v',h,hi⟩)
  ·omega
  ·omega
  ·rw[gb0]at h;cases h;obtain⟨o,n,c,h⟩:=hi;cases h
 ·rintro u H2 hn2 hw2 ⟨⟨h1,h2,h3,v,h5,h6,h7⟩,hck⟩;refine⟨none,h1,?_⟩;have kk:∀id,id≠H1.next->(H2.kill H1.next).get id=H2.get id:=λid hid=>by rw[Wd,Le hid]
  have hnk:(H2.kill H1.next).next=H2.next:=rfl;have k5:=(kk H.next (by omega)).trans h5;rw[Nr]at h6;have k6:XP Qq Hb (H2.kill H1.next) v W:=h6.keep λid hid _=>kk id (by omega);have hxf:Ext H (H2.kill H1.next):=⟨by rw[hnk];omega,λid hid=>by rw[kk id (by omega),h3 id (by omega) (by omega) (by omega)];exact hxb.get id hid⟩;generalize H2.kill H1.next=H3 at *;simp only[Qb,simprocAttr,Qhm,k5,ZN];exact .mk hxf.next ⟨k6.down (by omega),hxf⟩
theorem QyZ (f:FuncId) (hf:entered prog f=true) (ys:List Value) (W:List Ld) (hW:W.length<=1000) (H:Qa)
  (hgo:∀ (l:Nat) (R:Nat->Qa->Prop) (Own:Qa->Nat->Prop) (H':Qa),Cns H'.next l W LdV R Own->R 0 H'->Ext H H'->(∀id,id<H.next->¬Own H' id)->Qg prog f ([.func (.yield l) #[] #[]]++ys) H' λu H2=>R W.length H2∧CK Own H' H2):
  Qg prog XL [.func (.func f) #[] ys.toArray] H λv H'=>XP Qq H H' v W∧Ext H H':=by
 refine QbG λhw=>?_;simp only[ZL,Qb,simprocAttr];refine(Quc f hf ys W hW H hgo).thenW ?_;rintro v H1 _ _ ⟨hv,hx⟩;simp only[Qb,simprocAttr,QaS];exact .mk hx.next ⟨hv,hx⟩
def Qnc (mid:Int) (a:Ar):List Ld×Int:=
 if(decide (mid<0)||decide (mid>7))=true then([],5)
 else if(Wv a==0)=false then([],Wv a)
 else if(a.k==1)=true then([⟨[QR 3 mid (Xp a.r)],0,Kc a.r⟩],0)
 else if(a.k==2)=true then(Qiq mid (Wp a.m),0)
 else([],2)
theorem Qjo (mid rm:Int) (sib:List Int) (m:Mm):(Zu mid rm sib m).length<=3:=by
 have h:∀md,(Jc mid rm sib m md).length<=1:=λmd=>by unfold Jc;split<;>simp
 have e:Zu mid rm sib m=Jc mid rm sib m 0++(Jc mid rm sib m 1++(Jc mid rm sib m 2++[])):=rfl;have h0:=h 0;have h1:=h 1;have h2:=h 2;rw[e];simp only[Lh,L9];omega
theorem Qud (mid:Int) (m:Mm):(Qiq mid m).length<=8:=by
 unfold Qiq;split
 ·simp
 ·split
  ·simp
  ·split
   ·have:=Qjo mid 4 [QR (Vm m.sc) (Xp m.i) (Xp m.b)] m;omega
   ·have h1:=Qjo mid (Xp m.b) [] m;have h2:=Qjo mid 4 [QR 0 4 (Xp m.b)] m;simp only[Lh];split<;>split<;>simp<;>omega
theorem Qsk (mid:Int) (m:Mm) (H:Qa):Qg prog QeI [.int .i64 mid,.agg m.cells.toArray] H λu H'=>∃bm bi,u=.func (.func ZB) #[] #[.pointer (some ⟨bm,0,none⟩),.pointer (some ⟨bi,0,none⟩)]∧Ext H H'∧H.next<=bm∧H.next<=bi∧H'.get bm=some (.cells m.cells Qx false)∧H'.get bi=some (.cells [.int .i64 mid] 3 false):=by
 refine Qp0 λhw=>?_;have ex:(Value.agg m.cells.toArray).cells.toList=m.cells:=rfl;simp only[Qid,ex,Qb,simprocAttr,QoP];have hx:Ext H ((H.push (.cells [.int .i64 mid] 3 false)).push (.cells m.cells Qx false)):=((Ext.refl H).push _).push _;exact .mk hx.next ⟨_,_,rfl,hx,by omega,Lb _,by rw[Qd,Lc (by rw[Qe])],by rw[Qd,Le (by rw[Qe];omega),Qd,Lc rfl]⟩
theorem QAH {m:Mm} (h:QC m=0):-2147483648<=m.d∧m.d<=2147483647:=by
 unfold QC at h;split at h
 ·simp at h
 ·rename_i h1;simp at h1;omega
theorem Qq2 {m:Mm} (h:QC m=0) (hi:isR m.i 0 0=false):Wx m.sc=true:=by
 unfold QC at h;split at h
 ·simp at h
 ·split at h
  ·simp at h
  ·split at h
   ·simp at h
   ·split at h
    ·simp at h
    ·split at h
     ·rename_i h5;rw[h5]at hi;cases hi
     ·split at h
      ·simp at h
      ·rename_i h6;cases e:Wx m.sc with
       | true=>rfl
       | false=>simp[e]at h6
theorem QAI (m:Mm):(Wp m).d=m.d:=by unfold Wp;split<;>(try rfl);split<;>(try rfl);split<;>rfl
theorem Qy0 {m:Mm} (h:QC m=0) (hi:isR (Wp m).i 0 0=false):Wx (Wp m).sc=true:=by
 unfold Wp at hi ⊢;split
 ·rename_i h1;rw[Lc h1]at hi;exact Qq2 h hi
 ·rename_i h1;rw[Le h1]at hi;split
  ·rename_i h2;rw[Lc h2]at hi;cases hi
  ·rename_i h2;rw[Le h2]at hi;have hi0:isR m.i 0 0=false:=by
    cases e:isR m.i 0 0 with
    | false=>rfl
    | true=>simp[e]at h1
   have:=Qq2 h hi0;split<;>exact this
theorem Que (mid:Int) (a:Ar) (H:Qa):Qg prog Qgm [.int .i64 mid,.agg a.cells.toArray] H λu H'=>∃v,u=.tuple #[v,.int .i64 (Qnc mid a).2]∧XP Qq H H' v (Qnc mid a).1∧Ext H H':=by
 refine QrY λhw=>?_;have q1:=JB a;have q2:=Vl a.r;have q3:=QbO a.r;have q4:=QmD a.m;have hce:Qj1 a.m=if QC a.m=0 then(Wp a.m,0) else(QdK,QC a.m):=rfl
 have hck:∀h:(a.k==2)=true,Wv a=QC a.m:=λh=>by
  have:a.k=2:=by simpa using h
  simp[Wv,this]
 have hlr:=Qr7 a.r;obtain⟨w,ew⟩:∃w,w=Qnc mid a:=⟨_,rfl⟩;rw[<- ew];unfold Qnc at ew;have ex:(Value.agg a.cells.toArray).cells.toList=a.cells:=rfl;have hx1:=(Ext.refl H).push (.cells a.cells Qh false);have hw1:=hw.push (.cells a.cells Qh false);have hg1:(H.push (.cells a.cells Qh false)).get H.next=some (.cells a.cells Qh false):=by rw[Qd,Lc rfl]
 have hn1:(H.push (.cells a.cells Qh false)).next=H.next+1:=rfl;have ac:=hg1;have e11:a.cells.take 11=a.cells:=rfl;simp only[QkC,ex,Qba,simprocAttr];generalize H.push (.cells a.cells Qh false)=H1 at *;have hbad:∀ (A:Env),w=([],5)->A 4=.slice none 0 0->A 5=.int .i64 5->Rt prog QgJ H (λu H'=>∃v,u=.tuple #[v,.int .i64 w.2]∧XP Qq H H' v w.1∧Ext H H') A H1:=by
  intro A e r4 r5;subst e;simp only[Ju,r4,r5];exact .mk hx1.next ⟨_,rfl,XP.nil _ _ _,hx1⟩
 have hgood:(decide (mid<0)||decide (mid>7))=false->∀ (A:Env),A 0=.int .i64 mid->A 3=.pointer (some ⟨H.next,0,none⟩)->Qs prog QbE ⟨Rt prog QgJ H (λu H'=>∃v,u=.tuple #[v,.int .i64 w.2]∧XP Qq H H' v w.1∧Ext H H'),YO⟩ (Rt prog QgJ H (λu H'=>∃v,u=.tuple #[v,.int .i64 w.2]∧XP Qq H H' v w.1∧Ext H H')) A H1:=by
  intro hm A r0 r3;have hmid:0<=mid∧mid<8:=by simp at hm;omega
  rw[hm,Le (by simp)]at ew;simp only[QbE,Qb,simprocAttr,r0,r3,hg1,Lw,e11];refine⟨Lb _,?_⟩;refine(q1 H1).thenW ?_;rintro _ _ hn2 hw2 ⟨rfl,k,rfl⟩;simp only[Qy]at hn2;have hx2:=hx1.up hn2;have hg2:(H1.up k).get H.next=some (.cells a.cells Qh false):=by rw[Z9];exact hg1
  generalize H1.up k=H2 at *;simp only[Qb,simprocAttr];cases he:Wv a==0 with
  | false=>
   rw[he,Lc rfl]at ew;subst ew;simp only[Qb,simprocAttr,LM,Ju];exact .mk hx2.next ⟨_,rfl,XP.nil _ _ _,hx2⟩
  | true=>
   rw[he,Le (by simp)]at ew;have he0:Wv a=0:=by simpa using he
   obtain⟨k',⟨rc,rn⟩,⟨⟨bc,bn⟩,⟨ic,nn⟩,sc,d,sz⟩,n⟩:=a;simp only[Ar.cells,Rg.cells,Mm.cells]at hg2 q2 q3 q4;simp only[QgN,Qb,simprocAttr,L8,r0,r3,hg2];simp only at ew hlr hce hck;refine Qi (λh=>?_) (λh=>?_)
   ·rw[h,Lc rfl]at ew;simp only[QgK,Qb,simprocAttr,r0,r3,hg2];refine(q2 H2).thenW ?_;rintro _ _ hn3 hw3 ⟨rfl,k3,rfl⟩;simp only[Qy]at hn3;have hx3:=hx2.up hn3;have hg3:=hg2;rw[<- Z9 H2 k3]at hg3;generalize H2.up k3=H3 at *;simp only[Qb,simprocAttr];refine(Yd 3 mid _ (by decide) hmid hlr H3).thenW ?_;rintro _ H3 _ _ ⟨rfl,rfl⟩;have hx4:=hx3.push (.cells [.int .u8 (QR 3 mid (Xp ⟨rc,rn⟩))] 5 false);have hw4:=hw3.push (.cells [.int .u8 (QR 3 mid (Xp ⟨rc,rn⟩))] 5 false);have hg4:=Qpb H3 (QR 3 mid (Xp ⟨rc,rn⟩));have hl3:=hw3.lt hg3;have nz:¬H.next=H3.next:=by omega
    simp only[Qb,simprocAttr,nz,LN,hg3,r3];generalize H3.push _=H4 at *;refine(q3 H4).thenW ?_;rintro _ _ hn5 hw5 ⟨rfl,k5,rfl⟩;simp only[Qy]at hn5;have hx5:=hx4.up hn5;have hg5:=hg4.go hw4 ((Ext.refl H4).up hn5);generalize H4.up k5=H5 at *;simp only[Qb,simprocAttr,Ju];have hle2:=hx2.next;have hx6:=hx5.push (.cells [.slice (some ⟨H3.next,0,none⟩) 1 1,.int .i64 0,.int .i64 (Kc ⟨rc,rn⟩)] Qq false);have hle3:=hx3.next;refine .mk hx6.next ⟨_,by rw[ew],⟨[.slice (some ⟨H3.next,0,none⟩) 1 1],by rw[ew];rfl,?_,?_⟩,hx6⟩
    ·rw[ew];exact .inr ⟨_,_,rfl,by have:=hx5.next;omega,by rw[Qd,Lc rfl];rfl,rfl,.inl rfl⟩
    ·intro j s w' hs hw';rw[ew]at hw';rcases j with _ | j
     ·cases hs;cases hw';exact(hg5.go hw5 ((Ext.refl H5).push _)).down (by omega)
     ·simp at hs
   ·rw[h,Le (by simp)]at ew;simp only[QgM,Qb,simprocAttr,r0,r3];refine Qi (λh2=>?_) (λh2=>?_)
    ·rw[h2,Lc rfl]at ew;simp only[QgL,Qb,simprocAttr,r0,r3,hg2];have hm0:=(hck h2).symm.trans he0;rw[Lc hm0]at hce;rw[hce]at q4;refine(q4 H2).thenW ?_;rintro _ _ hn3 hw3 ⟨rfl,k3,rfl⟩;simp only[Qy]at hn3;have hx3:=hx2.up hn3;generalize H2.up k3=H3 at *;generalize hcm:Wp ⟨⟨bc,bn⟩,⟨ic,nn⟩,sc,d,sz⟩=m at *;have hmd:I64 m.d:=by
      have h5:=QAH hm0;have h6:=QAI ⟨⟨bc,bn⟩,⟨ic,nn⟩,sc,d,sz⟩;rw[hcm]at h6;rw[h6];unfold I64;omega
     have hms:isR m.i 0 0=false->Wx m.sc=true:=by
      have h6:=@Qy0 ⟨⟨bc,bn⟩,⟨ic,nn⟩,sc,d,sz⟩ hm0;rw[hcm]at h6;exact h6
     simp only[Mm.cells,Qb,simprocAttr,LO,L8,r0];generalize hH4:Qa.set (Qa.push H3 _) _ _=H4;have hx4:Ext H H4:=by rw[<- hH4];exact(hx3.push _).set (by have:=hx3.next;omega) _
     clear hH4;have qw:=Qsk mid m H4;simp only[Mm.cells]at qw;refine qw.thenW ?_;rintro _ H5 _ hw5 ⟨bm,bi,rfl,hx5,o1,o2,g1,g2⟩;have l1:=hw5.lt g1;have l2:=hw5.lt g2;have hwl:=Qud mid m;simp only[Qb,simprocAttr];refine(QyZ ZB (by kernel_rfl) [.pointer (some ⟨bm,0,none⟩),.pointer (some ⟨bi,0,none⟩)] (Qiq mid m) (by omega) H5 ?_).thenW ?_
     ·intro l R Own H' hcns hR hx hno;exact Qqg hcns (Lb _) hmid hmd hms hR (by rw[hx.get _ l1];exact g1) (by rw[hx.get _ l2];exact g2) (hno _ l1) (hno _ l2)
     ·rintro v H6 _ _ ⟨hv,hx6⟩;have hx7:=(hx4.trans hx5).trans hx6;simp only[Qb,simprocAttr,Ju];exact .mk hx7.next ⟨v,by rw[ew],by rw[ew];exact hv.down (hx4.trans hx5).next,hx7⟩
    ·rw[h2,Le (by simp)]at ew;subst ew;simp only[Qb,simprocAttr,Ju];exact .mk hx2.next ⟨_,rfl,XP.nil _ _ _,hx2⟩
 cases h1:decide (mid<0) with
 | true=>
  rw[h1,N1,Lc rfl]at ew;simp only[Qb,simprocAttr];refine hbad _ ew ?_ ?_
  all_goals simp only[Ql,simprocAttr]
 | false=>
  cases h2:decide (mid>7) with
  | true=>
   rw[h1,h2,Bd,Lc rfl]at ew;simp only[Qb,simprocAttr,h2];refine hbad _ ew ?_ ?_
   all_goals simp only[Ql,simprocAttr]
  | false=>
   simp only[Qb,simprocAttr,h2];refine hgood (by rw[h1,h2];rfl) _ ?_ ?_
   all_goals simp only[Ql,simprocAttr]
end Go.Proofs.YtiepokkmhhginaaGreatDoor.code
