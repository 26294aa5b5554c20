/- Rows in memory of their own, full or grown. -/
import Derived.Test.YtgepgbbjfhggfaaGreatDoorLibA
import Derived.Test.YtgepgbbjfhggfaaGreatDoorAbD
import Derived.Test.YtgepgbbjfhggfaaGreatDoorC5Dec
import Derived.Test.YtgepgbbjfhggfaaGreatDoorLibI
set_option linter.unusedVariables false
set_option linter.unusedSimpArgs false
set_option maxRecDepth 100000
set_option maxHeartbeats 4000000
set_option maxHeartbeats 2000000
noncomputable section
namespace Go.Proofs.YtgepgbbjfhggfaaGreatDoor.code
open Go.Ab
def bys (l:List Int):List Value:=l.map (Value.int .u8)
theorem Xd (l:List Int):(bys l).length=l.length:=Nn ..
theorem Je (l m:List Int):bys (l++m)=bys l++bys m:=N6 ..
theorem ZJ (l:List Int):(bys l).all (·.oneCell')=true:=by
 rw[Li];intro v hv;obtain⟨z,_,rfl⟩:=N4.1 hv;rfl
def inB (v:Value)(id:Nat):Prop:=∃o n c,v=.slice (some ⟨id,o,none⟩) n c
def Gx (size:Nat)(e:TypeId)(H0 H:Qa)(v:Value)(n:Nat)(cs:List Value):Prop:=(v=.slice none 0 0∧n=0∧cs=[])∨∃b cap,v=.slice (some ⟨b,0,none⟩) n cap∧H0.next<=b∧H.get b=some (.cells cs e false)∧cs.length=n * size∧(cap=n∨cap=UNK+size∧0<n)
theorem Gx.ext {size:Nat}{e:TypeId}{H0 H H':Qa}{v:Value}{n:Nat}{cs:List Value}(h:Gx size e H0 H v n cs)(hk:∀id,inB v id->H'.get id=H.get id):Gx size e H0 H' v n cs:=by
 rcases h with h | ⟨b,c,rfl,h2,h3,h4⟩
 ·exact .inl h
 ·exact .inr ⟨b,c,rfl,h2,by rw[hk b ⟨_,_,_,rfl⟩];exact h3,h4⟩
theorem Gx.go {size:Nat}{e:TypeId}{H0 H H':Qa}{v:Value}{n:Nat}{cs:List Value}(h:Gx size e H0 H v n cs)(hw:H.Wf)(hx:Ext H H'):Gx size e H0 H' v n cs:=by
 rcases h with h | ⟨b,c,rfl,h2,h3,h4⟩
 ·exact .inl h
 ·exact .inr ⟨b,c,rfl,h2,by rw[hx.get b (hw.lt h3)];exact h3,h4⟩
theorem Gx.low {size:Nat}{e:TypeId}{H0 H:Qa}{v:Value}{n:Nat}{cs:List Value}(h:Gx size e H0 H v n cs)(hw:H.Wf){id:Nat}(hi:inB v id):H0.next<=id∧id<H.next:=by
 obtain⟨o,n',c,rfl⟩:=hi;rcases h with⟨h,_,_⟩ | ⟨b,c,h,h2,h3,h4⟩
 ·cases h
 ·cases h;exact⟨h2,hw.lt h3⟩
theorem Gx.sl {size:Nat}{e:TypeId}{H0 H:Qa}{v:Value}{n:Nat}{cs:List Value}(h:Gx size e H0 H v n cs):Qdw H v n cs:=by
 rcases h with⟨rfl,rfl,rfl⟩ | ⟨b,c,rfl,h2,h3,h4⟩
 ·exact⟨none,0,rfl,λh=>absurd h (NX 0)⟩
 ·exact⟨_,_,rfl,λ_=>⟨b,e,false,rfl,h3⟩⟩
theorem Gx.slc {size:Nat}{e:TypeId}{H0 H:Qa}{v:Value}{n:Nat}{cs:List Value}(h:Gx size e H0 H v n cs):∃a c,v=.slice a n c:=by
 rcases h with⟨rfl,rfl,rfl⟩ | ⟨b,c,rfl,_⟩
 ·exact⟨_,_,rfl⟩
 ·exact⟨_,_,rfl⟩
theorem Gx.down {size:Nat}{e:TypeId}{H0 H1 H:Qa}{v:Value}{n:Nat}{cs:List Value}(h:Gx size e H1 H v n cs)(hx:H0.next<=H1.next):Gx size e H0 H v n cs:=by
 rcases h with h | ⟨b,c,rfl,h2,h3,h4⟩
 ·exact .inl h
 ·exact .inr ⟨b,c,rfl,by omega,h3,h4⟩
theorem Gx.src {size:Nat}{e:TypeId}{H0 H:Qa}{v:Value}{n:Nat}{cs:List Value}(h:Gx size e H0 H v n cs):J4 size v H=some (n,cs):=by
 rcases h with⟨rfl,rfl,rfl⟩ | ⟨b,c,rfl,h2,h3,h4,_⟩
 ·simp[J4]
 ·by_cases hn:n=0
  ·subst hn;have:cs=[]:=N2.1 (by omega);subst this;simp[J4]
  ·rw[JI h3 hn (by omega),Lw,LF (by omega)]
structure GK (v v':Value) (H0 H H':Qa):Prop where
 x:Ext H0 H'
 w:H'.Wf
 keep:∀id,id<H.next->¬inB v id->H'.get id=H.get id
 next:H.next<=H'.next
 new:∀id,inB v' id->inB v id∨H.next<=id
theorem Zp {size:Nat}{e bytes:Nat}{H0 H:Qa}{v x:Value}{n m:Nat}{cs ms:List Value}{k:Value->Qa->Prop}(hs:Gx size e H0 H v n cs)(hx:Ext H0 H)(hw:H.Wf)(hsrc:J4 size x H=some (m,ms))(hone:ms.all (·.oneCell')=true)(hml:ms.length=m * size)(hb:(n+m) * bytes<=140737488355328)(hn:n+m<=9223372036854775807)
  (h:∀v' H',Gx size e H0 H' v' (n+m) (cs++ms)->GK v v' H0 H H'->k v' H'):Qdr e size bytes v x H k:=by
 have hnn:=hx.next
 by_cases hm:m=0
 ·subst hm;have hms:ms=[]:=N2.1 (by omega);subst hms;have hr:ZF e size bytes v x H=some (v,H):=by
   unfold ZF;rw[hsrc];rcases hs with⟨rfl,rfl,rfl⟩ | ⟨b,c,rfl,h2,h3,h4,h5⟩
   ·rfl
   ·simp only[BI,N3];rw[Lc];rcases h5 with rfl | ⟨rfl,_⟩
    ·first | exact .inl (Lb _) | exact .inl (by omega) | simp
    ·first | exact .inl (by omega) | simp
  unfold Qdr;rw[hr,QM];rw[N9,Na]at h;exact h v H hs ⟨hx,hw,λ_ _ _=>rfl,Lb _,λid hi=>.inl hi⟩
 ·rcases hs with⟨rfl,rfl,rfl⟩ | ⟨b,c,rfl,h2,h3,h4,h5⟩
  ·refine QnT hsrc hone hm (by rw[LP]at hb;exact hb) (by omega) (h _ _ (.inr ⟨H.next,_,by rw[LP],hnn,by rw[Qd,Lc rfl,LH],by rw[LH,LP];exact hml,.inr ⟨rfl,by omega⟩⟩) ⟨hx.push _,hw.push _,λid hid _=>by rw[Qd,Le (by omega)],by rw[Qc];omega,?_⟩);rintro id ⟨o,n',c,he⟩;cases he;exact .inr (Lb _)
  ·have hbl:=hw.lt h3;rcases Nq c UNK with hc | hc
   ·have hcn:c=n:=by rcases h5 with h | h;exact h;omega
    subst hcn;have e1:(cs.drop 0).take (c * size)++ms=cs++ms:=by rw[Lw,LF (by omega)]
    refine Qlo hsrc hone hm h3 (by omega) hb hn hc (by omega) (h _ _ (.inr ⟨H.next,_,rfl,hnn,by rw[Qd,Lc rfl,e1],by rw[Lh,h4,hml,Ry],.inr ⟨rfl,by omega⟩⟩) ⟨hx.push _,hw.push _,λid hid _=>by rw[Qd,Le (by omega)],by rw[Qc];omega,?_⟩);rintro id ⟨o,n',c,he⟩;cases he;exact .inr (Lb _)
   ·refine QnS rfl hsrc hone hm h3 (by rw[LP];omega) hb hn hc (h _ _ (.inr ⟨H.next,_,rfl,hnn,?_,by rw[Lh,h4,hml,Ry],.inr ⟨rfl,by omega⟩⟩) ⟨?_,?_,?_,by rw[Qc,Qdm];omega,?_⟩)
    ·rw[Qd,Qdm,Lc rfl,Lw]
    ·refine⟨by rw[Qc,Qdm];omega,λid hid=>?_⟩;rw[Qd,Qdm,Le (by omega),WS,Le (by omega)];exact hx.get id hid
    ·exact(hw.kill b).push _
    ·intro id hid hnb;have hne:¬id=b:=λh=>hnb ⟨_,_,_,by rw[h]⟩;rw[Qd,Qdm,Le (by omega),WS,Le hne]
    ·rintro id ⟨o,n',c,he⟩;cases he;exact .inr (Lb _)
theorem Qvu {size:Nat}{e bytes:Nat}{H0 H:Qa}{v x:Value}{n m:Nat}{cs ms:List Value}{k:Value->Qa->Prop}(hs:Gx size e H0 H v n cs)(hfull:∃a,v=.slice a n n)(hw:H.Wf)(hsrc:J4 size x H=some (m,ms))(hone:ms.all (·.oneCell')=true)(hm:m≠0)(hml:ms.length=m * size)(hb:(n+m) * bytes<=140737488355328)(hn:n+m<=9223372036854775807)(hu:n<UNK)
  (h:∀v' H',Gx size e H H' v' (n+m) (cs++ms)->Ext H H'->H'.Wf->(∃b,v'=.slice (some ⟨b,0,none⟩) (n+m) (UNK+size))->k v' H'):Qdr e size bytes v x H k:=by
 rcases hs with⟨rfl,rfl,rfl⟩ | ⟨b,c,rfl,h2,h3,h4,h5⟩
 ·refine QnT hsrc hone hm (by rw[LP]at hb;exact hb) (by omega) (h _ _ (.inr ⟨H.next,_,by rw[LP],Lb _,by rw[Qd,Lc rfl,LH],by rw[LH,LP];exact hml,.inr ⟨rfl,by omega⟩⟩) ((Ext.refl H).push _) (hw.push _) ⟨_,by rw[LP]⟩)
 ·obtain⟨a,ha⟩:=hfull;cases ha;have e1:(cs.drop 0).take (n * size)++ms=cs++ms:=by rw[Lw,LF (by omega)]
  exact Qlo hsrc hone hm h3 (by omega) hb hn hu (by omega) (h _ _ (.inr ⟨H.next,_,rfl,Lb _,by rw[Qd,Lc rfl,e1],by rw[Lh,h4,hml,Ry],.inr ⟨rfl,by omega⟩⟩) ((Ext.refl H).push _) (hw.push _) ⟨_,rfl⟩)
theorem QFh {size:Nat}{e:TypeId}{H0 H:Qa}{v:Value}{n:Nat}{cs:List Value}(h:Gx size e H0 H v n cs)(hu:n<UNK):∃a,Qaz size v none (some (n:Int)) (some (n:Int))=some (.slice a n n)∧Gx size e H0 H (.slice a n n) n cs:=by
 rcases h with⟨rfl,rfl,rfl⟩ | ⟨b,c,rfl,h2,h3,h4,h5⟩
 ·exact⟨none,rfl,.inl ⟨rfl,rfl,rfl⟩⟩
 ·refine⟨some ⟨b,0,none⟩,?_,.inr ⟨b,n,rfl,h2,h3,h4,.inl rfl⟩⟩;unfold Qaz;simp only[Br,NB];rcases Nq c UNK with hc | hc
  ·rw[Le (by omega),Lc (by omega),show(n:Int).toNat - (0:Int).toNat=n by omega]
   by_cases hn:n=0
   ·subst hn;rfl
   ·rw[Le (by omega),show 0+(0:Int).toNat * size=0 by simp]
  ·rw[Lc hc,Lc (by omega),show(n:Int).toNat - (0:Int).toNat=n by omega,show 0+(0:Int).toNat * size=0 by simp]
def QHg (H:Qa)(v:Value)(bs:List Int):Prop:=∃a cap,v=.slice a bs.length cap∧(0<bs.length->∃b o e ro cs,a=some ⟨b,o,none⟩∧H.get b=some (.cells cs e ro)∧∀j,j<bs.length->cs[o+j]? = some (.int .u8 (bs.getD j 0)))
theorem QHg.ext {H H':Qa}{v:Value}{bs:List Int}(hw:H.Wf)(he:Ext H H')(h:QHg H v bs):QHg H' v bs:=by
 obtain⟨a,cap,rfl,h1⟩:=h;refine⟨a,cap,rfl,λhn=>?_⟩;obtain⟨b,o,e,ro,cs,rfl,hb,hc⟩:=h1 hn;exact⟨b,o,e,ro,cs,rfl,by rw[he.get b (hw.lt hb)];exact hb,hc⟩
def Qnb (n:Int):Bool:=(n==1)||(n==2)||(n==4)||(n==8)
theorem QtO (n:Int)(H:Qa):Qe prog 348 [.int .i64 n] H λu H'=>u=.bool (Qnb n)∧H'=H:=by
 refine Qsq λhw=>?_;simp(disch:=(first | omega | (simp only[hnP];try omega))) only[Qkq,Qk,simprocAttr,QiZ]
 repeat' (first
   | (refine Qp (λh=>?_) (λh=>?_)<;>(try simp only[Lr,Lu]at h)<;>simp(disch:=(first | omega | (simp only[hnP];try omega))) only[Qk,simprocAttr,QiZ,h])
   | fail)
 all_goals refine .mk (Lb _) ⟨?_,rfl⟩
 all_goals (simp only[Qnb];simp_all)
def Yf (n:Int):Bool:=decide (1<=n)&&decide (n<=64)
theorem VJ (n:Int)(H:Qa):Qe prog 378 [.int .i64 n] H λu H'=>u=.bool (Yf n)∧H'=H:=by
 refine QpJ λhw=>?_;simp(disch:=(first | omega | (simp only[hnP];try omega))) only[Qg9,Qk,simprocAttr,QfO]
 repeat' (first
   | (refine Qp (λh=>?_) (λh=>?_)<;>(try simp only[Lr,Lu]at h)<;>simp(disch:=(first | omega | (simp only[hnP];try omega))) only[Qk,simprocAttr,QfO,h])
   | fail)
 all_goals refine .mk (Lb _) ⟨?_,rfl⟩
 all_goals (simp only[Yf];simp_all<;>omega)
def QfU (n bits:Int):Int:=if Yf bits=false then 0 else(IntKind.i64.wrap (IntKind.u64.wrap (IntKind.u64.wrap n * 2 ^ (min (64 - bits).toNat 64)))).fdiv (2 ^ (min (64 - bits).toNat 64))
theorem QoI (n bits:Int)(H:Qa):Qe prog 379 [.int .i64 n,.int .i64 bits] H λu H'=>u=.int .i64 (QfU n bits)∧H'=H:=by
 refine QtI λhw=>?_;simp only[Qmf,Qb,simprocAttr];refine(VJ bits H).thenW ?_;rintro _ H _ hw ⟨rfl,rfl⟩;simp only[Qb,simprocAttr];cases q:Yf bits with
 | false=>
  simp only[Qb,simprocAttr,Qks];exact .mk (Lb _) ⟨by rw[QfU,Lc q],rfl⟩
 | true=>
  have hb:1<=bits∧bits<=64:=by simpa[Yf] using q
  have e:IntKind.i64.wrap (64 - bits)=64 - bits:=w64 (by unfold I64;omega);have h0:0<=64 - bits:=by omega
  have b1:IntKind.u64.bits=64:=rfl;have b2:IntKind.i64.bits=64:=rfl;simp only[Qb,simprocAttr,e,h0,b1,b2,Qks];exact .mk (Lb _) ⟨by rw[QfU,Le (by simp[q])],rfl⟩
def Qzo (n bits:Int):Int:=if Yf bits=false then 0 else IntKind.i64.wrap ((IntKind.u64.wrap (IntKind.u64.wrap n * 2 ^ (min (64 - bits).toNat 64))).fdiv (2 ^ (min (64 - bits).toNat 64)))
theorem Qxm (n bits:Int)(H:Qa):Qe prog 380 [.int .i64 n,.int .i64 bits] H λu H'=>u=.int .i64 (Qzo n bits)∧H'=H:=by
 refine Qvx λhw=>?_;simp only[QoC,Qb,simprocAttr];refine(VJ bits H).thenW ?_;rintro _ H _ hw ⟨rfl,rfl⟩;simp only[Qb,simprocAttr];cases q:Yf bits with
 | false=>
  simp only[Qb,simprocAttr,Qmg];exact .mk (Lb _) ⟨by rw[Qzo,Lc q],rfl⟩
 | true=>
  have hb:1<=bits∧bits<=64:=by simpa[Yf] using q
  have e:IntKind.i64.wrap (64 - bits)=64 - bits:=w64 (by unfold I64;omega);have h0:0<=64 - bits:=by omega
  have b1:IntKind.u64.bits=64:=rfl;have b2:IntKind.i64.bits=64:=rfl;simp only[Qb,simprocAttr,e,h0,b1,b2,Qmg];exact .mk (Lb _) ⟨by rw[Qzo,Le (by simp[q])],rfl⟩
def QbX (n bits:Int):Bool:=Yf bits&&(QfU n bits==n||Qzo n bits==n)
theorem QvC (n bits:Int)(H:Qa):Qe prog 349 [.int .i64 n,.int .i64 bits] H λu H'=>u=.bool (QbX n bits)∧H'=H:=by
 refine QtF λhw=>?_;have q1:=λH=>VJ bits H;have q2:=λH=>QoI n bits H;have q3:=λH=>Qxm n bits H;unfold QbX;simp only[Qmc,Qb,simprocAttr];refine(q1 H).thenW ?_;rintro _ H _ hw ⟨rfl,rfl⟩;cases Yf bits with
 | false=>
  simp only[Qb,simprocAttr,QeK];exact .mk (Lb _) ⟨rfl,rfl⟩
 | true=>
  simp only[Qb,simprocAttr];refine(q2 H).thenW ?_;rintro _ H _ hw ⟨rfl,rfl⟩;simp only[Qb,simprocAttr];cases QfU n bits==n with
  | true=>
   simp only[Qb,simprocAttr,QeK];exact .mk (Lb _) ⟨rfl,rfl⟩
  | false=>
   simp only[Qb,simprocAttr];refine(q3 H).thenW ?_;rintro _ H _ hw ⟨rfl,rfl⟩;simp only[Qb,simprocAttr,QeK];exact .mk (Lb _) ⟨rfl,rfl⟩
def QoJ (n bits:Int):Bool:=Yf bits&&(QfU n bits==n)
theorem QvD (n bits:Int)(H:Qa):Qe prog 417 [.int .i64 n,.int .i64 bits] H λu H'=>u=.bool (QoJ n bits)∧H'=H:=by
 refine QtN λhw=>?_;have q1:=λH=>VJ bits H;have q2:=λH=>QoI n bits H;unfold QoJ;simp only[Qmi,Qb,simprocAttr];refine(q1 H).thenW ?_;rintro _ H _ hw ⟨rfl,rfl⟩;cases Yf bits with
 | false=>
  simp only[Qb,simprocAttr,Qkz];exact .mk (Lb _) ⟨rfl,rfl⟩
 | true=>
  simp only[Qb,simprocAttr];refine(q2 H).thenW ?_;rintro _ H _ hw ⟨rfl,rfl⟩;simp only[Qb,simprocAttr,Qkz];exact .mk (Lb _) ⟨rfl,rfl⟩
def QoK (n:Int)(i:Nat):Int:=IntKind.u8.wrap ((IntKind.u64.wrap n).fdiv (2 ^ (min (8 * i) 64)))
def Qe5 (n:Int)(sz:Nat):List Int:=(List.range sz).map (QoK n)
def Kq (n sz:Int):List Int×Int:=if Qnb sz=false then([],2) else if QbX n (8 * sz)=false then([],5) else(Qe5 n sz.toNat,0)
theorem QqH (n sz:Int)(hn:I64 n)(H:Qa):Qe prog 249 [.int .i64 n,.int .i64 sz] H λu H'=>∃v,u=.tuple #[v,.int .i64 (Kq n sz).2]∧Gx 1 5 H H' v (Kq n sz).1.length (bys (Kq n sz).1)∧Ext H H':=by
 refine Qvv λhw=>?_;unfold Kq;simp only[Qox,Qb,simprocAttr];refine(QtO sz H).thenW ?_;rintro _ H _ hw ⟨rfl,rfl⟩;cases h1:Qnb sz with
 | false=>
  simp only[Qb,simprocAttr,LM,Qf7];exact .mk (Lb _) ⟨_,rfl,.inl ⟨rfl,rfl,rfl⟩,.refl _⟩
 | true=>
  obtain⟨s,hs,hs8,hs1⟩:∃s:Nat,sz=s∧s<=8∧1<=s:=by
   have:sz=1∨sz=2∨sz=4∨sz=8:=by simpa[Qnb,or_assoc] using h1
   exact⟨sz.toNat,by omega,by omega,by omega⟩
  subst hs;have w8:IntKind.i64.wrap (8 * (s:Int))=8 * (s:Int):=w64 (by unfold I64;omega);simp only[Qb,simprocAttr,L8,w8];refine(QvC n (8 * (s:Int)) H).thenW ?_;rintro _ H _ hw ⟨rfl,rfl⟩;cases h2:QbX n (8 * (s:Int)) with
  | false=>
   simp only[Qb,simprocAttr,LM,Qf7];exact .mk (Lb _) ⟨_,rfl,.inl ⟨rfl,rfl,rfl⟩,.refl _⟩
  | true=>
   simp only[Qb,simprocAttr,L8,LN,reduceCtorEq,LG];refine⟨⟨by omega,by omega,by omega,by omega⟩,?_⟩;refine Qo (λm A' H'=>∃i:Nat,i<=s∧m=s - i∧H'.Wf∧Ext H H'∧H'.get H.next=some (.cells (bys (Qe5 n i)++List.replicate (s - i) (.int .u8 0)) 5 false)∧A' 0=.int .i64 n∧A' 1=.int .i64 s∧A' 6=.slice (some ⟨H.next,0,none⟩) s s∧A' 18=.int .i64 s∧A' 19=.int .i64 i) s ?_ ?_
   ·refine⟨0,L7 _,by omega,hw.push _,(Ext.refl H).push _,?_,?_,?_,?_,?_,?_⟩
    ·rw[Qd,Lc rfl];have h8:Ze [Value.int .u8 0].toArray s=List.replicate s (.int .u8 0):=by
      unfold Ze;rw[Fv];refine⟨by simp,λb hb=>?_⟩;obtain⟨i,_,rfl⟩:=N4.1 hb;show([Value.int .u8 0].toArray)[i % 1]! = _;rw[Nat.mod_one];rfl
     exact congrArg (λc=>some (Blk.cells c 5 false)) h8
    all_goals simp only[Qg,simprocAttr]
    all_goals rfl
   ·rintro m A' H' ⟨i,hi,rfl,hw',hx,hg,r0,r1,r6,r18,r19⟩;simp only[Qb,simprocAttr,r18,r19];refine Qf (λh3=>?_) (λh3=>?_)
    ·have h3:i<s:=by have:=Lg h3;omega
     have d1:(0:Int)<=i∧(i:Int)<s:=by omega
     have d3:(i:Int).toNat=i:=by omega
     have ei:IntKind.i64.wrap ((i:Int)+1)=((i+1:Nat):Int):=by rw[w64 (by unfold I64;omega)];omega
     have e8:IntKind.i64.wrap (8 * (i:Int))=((8 * i:Nat):Int):=by rw[w64 (by unfold I64;omega)];omega
     simp only[Qb,simprocAttr,r0,r6,r19,d1,d3,ei,e8,hg];have hl1:(bys (Qe5 n i)).length=i:=by rw[Xd];simp[Qe5]
     have hsp:splice (bys (Qe5 n i)++List.replicate (s - i) (.int .u8 0)) i [.int .u8 (QoK n i)]=bys (Qe5 n (i+1))++List.replicate (s - (i+1)) (.int .u8 0):=by
      have e1:Qe5 n (i+1)=Qe5 n i++[QoK n i]:=by simp[Qe5,R0]
      have e2:s - i=(s - (i+1))+1:=by omega
      unfold splice;rw[e1,Je,e2,List.replicate_succ,NO (by omega),LF (by omega),B3,hl1];have hl2:(Qe5 n i).length=i:=by simp[Qe5]
      simp[bys,hl2]
     refine⟨by omega,by rw[Lh,hl1,List.length_replicate];omega,s - (i+1),by omega,i+1,by omega,rfl,?_,?_,?_,?_,?_,?_,?_,?_⟩
     ·exact hw'.set hg _
     ·exact hx.set (Lb _) _
     ·have h64:min (((8 * i:Nat):Int)).toNat IntKind.u64.bits=min (8 * i) 64:=rfl;rw[Qq,Lc rfl,<- hsp];unfold QoK splice;rw[h64];rfl
     all_goals simp only[Qg,simprocAttr,r0,r1,r6,r18]
    ·have h3:i=s:=by have:=Ll h3;omega
     subst h3;simp only[Qb,simprocAttr,r6,Qf7];rw[BJ,List.replicate_zero,Na]at hg;have hl:(Qe5 n i).length=i:=by simp[Qe5]
     exact .mk hx.next ⟨_,rfl,.inr ⟨H.next,i,by rw[hl],Lb _,hg,by rw[Xd,NH],.inl (by rw[hl])⟩,hx⟩
def Wg (r:Rg):Int:=if XF r=true then r.n % 8 else 0
def We (r:Rg):Int:=if XF r=true then r.n / 8 else 0
theorem QDo {r:Rg}(h:XF r=true):0<=r.n∧r.n<16:=by
 unfold XF Qjp at h;have h:=Lg h;split at h
 ·simp at h;omega
 ·split at h
  ·simp at h;omega
  ·split at h<;>simp at h<;>omega
theorem Jp (r:Rg):0<=Wg r∧Wg r<8:=by
 unfold Wg;split<;>omega
theorem Qia (r:Rg):0<=We r∧We r<2:=by
 unfold We;split
 ·rename_i h;have:=QDo h;omega
 ·omega
theorem QcB (r:Rg)(H:Qa):Qe prog 250 [.agg r.cells.toArray] H λu H'=>u=.int .i64 (Wg r)∧∃k,H'=H.up k:=by
 refine Qzl λhw=>?_;have q:=V9 r;have hv:=@QDo r;unfold Wg;obtain⟨v,ev⟩:∃v,XF r=v:=⟨_,rfl⟩;rw[ev]at q hv ⊢;obtain⟨c,n⟩:=r;simp only[Rg.cells]at q;simp only[Rg.cells,Qsp,Qb,simprocAttr];refine(q _).thenW ?_;rintro _ _ hn hw2 ⟨rfl,k,rfl⟩;simp only[Qc,Ql]at hn;cases v with
 | false=>
  simp only[Qb,simprocAttr,LM,QqC];exact .ext hw (((Ext.refl H).push _).up (by rw[Qc];exact hn)) ⟨by simp,_,rfl⟩
 | true=>
  have hb:=hv rfl;simp only[sxA,sxB,Nat.reduceBEq,Nat.reduceEqDiff,reduceCtorEq,mxA,mxB,Nat.reduceAdd,reduceIte,Nat.reduceLeDiff,splice,L8,QqC];have e:n.tmod 8=n % 8:=BM hb.1;exact⟨by decide,.ext hw (((Ext.refl H).push _).up (by rw[Qc];exact hn)) ⟨by rw[e],_,rfl⟩⟩
theorem QeT (r:Rg)(H:Qa):Qe prog 351 [.agg r.cells.toArray] H λu H'=>u=.int .i64 (We r)∧∃k,H'=H.up k:=by
 refine Qxi λhw=>?_;have q:=V9 r;have hv:=@QDo r;unfold We;obtain⟨v,ev⟩:∃v,XF r=v:=⟨_,rfl⟩;rw[ev]at q hv ⊢;obtain⟨c,n⟩:=r;simp only[Rg.cells]at q;simp only[Rg.cells,QqD,Qb,simprocAttr];refine(q _).thenW ?_;rintro _ _ hn hw2 ⟨rfl,k,rfl⟩;simp only[Qc,Ql]at hn;cases v with
 | false=>
  simp only[Qb,simprocAttr,LM,Qoz];exact .ext hw (((Ext.refl H).push _).up (by rw[Qc];exact hn)) ⟨by simp,_,rfl⟩
 | true=>
  have hb:=hv rfl;simp only[sxA,sxB,Nat.reduceBEq,Nat.reduceEqDiff,reduceCtorEq,mxA,mxB,Nat.reduceAdd,reduceIte,Nat.reduceLeDiff,splice,L8,Qoz];have e:IntKind.i64.wrap (n.tdiv 8)=n / 8:=by
   rw[Int.tdiv_eq_ediv_of_nonneg hb.1];have hb':0<=n∧n<16:=hb;exact w64 (show I64 (n / 8) by unfold I64;omega)
  exact⟨by decide,.ext hw (((Ext.refl H).push _).up (by rw[Qc];exact hn)) ⟨by rw[e],_,rfl⟩⟩
def Qnc (r:Rg):Bool:=(r.c==1)&&decide (4<=r.n)&&decide (r.n<=7)
def Qsy (r:Rg):Bool:=(r.c==2)&&XF r
theorem Qxn (r:Rg)(H:Qa):Qe prog 391 [.agg r.cells.toArray] H λu H'=>u=.bool (Qnc r)∧∃k,H'=H.up k:=by
 refine QvB λhw=>?_;obtain⟨c,n⟩:=r;unfold Qnc;simp only[Rg.cells,QoF,Qb,simprocAttr];cases h:c==1<;>cases h2:decide (4<=n)<;>simp only[Qb,simprocAttr,h,h2,QtM]
 all_goals exact .ext hw ((Ext.refl H).push _) ⟨by simp,_,rfl⟩
theorem Qzp (r:Rg)(H:Qa):Qe prog 392 [.agg r.cells.toArray] H λu H'=>u=.bool (Qsy r)∧∃k,H'=H.up k:=by
 refine Qxl λhw=>?_;have q:=V9 r;unfold Qsy;obtain⟨v,ev⟩:∃v,XF r=v:=⟨_,rfl⟩;rw[ev]at q ⊢;obtain⟨c,n⟩:=r;simp only[Rg.cells]at q;simp only[Rg.cells,QqG,Qb,simprocAttr];cases h:c==2 with
 | false=>
  simp only[Qb,simprocAttr,h,QoG];exact .ext hw ((Ext.refl H).push _) ⟨rfl,_,rfl⟩
 | true=>
  simp only[Qb,simprocAttr,h];refine(q _).thenW ?_;rintro _ _ hn hw2 ⟨rfl,k,rfl⟩;simp only[Qc,Ql]at hn;simp only[Qb,simprocAttr,QoG];exact .ext hw (((Ext.refl H).push _).up (by rw[Qc];exact hn)) ⟨rfl,_,rfl⟩
def Qz (h m l:Int):Int:=h * 64+m * 8+l
theorem QDp:∀h:Fin 4,∀m:Fin 8,∀l:Fin 8,IntKind.u8.wrap (IntKind.i64.wrap (BitVec.ofInt IntKind.i64.bits (IntKind.i64.wrap (BitVec.ofInt IntKind.i64.bits (IntKind.i64.wrap ((h:Nat) * 2 ^ min ((6:Int)).toNat IntKind.i64.bits)) ||| BitVec.ofInt IntKind.i64.bits (IntKind.i64.wrap ((m:Nat) * 2 ^ min ((3:Int)).toNat IntKind.i64.bits))).toNat) ||| BitVec.ofInt IntKind.i64.bits ((l:Nat):Int)).toNat)=Qz (h:Nat) (m:Nat) (l:Nat):=by decide +kernel
theorem ZM (h m l:Int)(hh:0<=h∧h<4)(hm:0<=m∧m<8)(hl:0<=l∧l<8)(H:Qa):Qe prog 350 [.int .i64 h,.int .i64 m,.int .i64 l] H λu H'=>u=.int .u8 (Qz h m l)∧H'=H:=by
 refine QtG λhw=>?_;simp only[Qmd,sxA,sxB,Nat.reduceBEq,Nat.reduceEqDiff,reduceCtorEq,mxA,mxB,Nat.reduceAdd,reduceIte,Nat.reduceLeDiff,splice,Qsr];have e:=QDp ⟨h.toNat,by omega⟩ ⟨m.toNat,by omega⟩ ⟨l.toNat,by omega⟩;simp only[Bi hh.1,Bi hm.1,Bi hl.1]at e;refine⟨by decide,by decide,.mk (Lb _) ⟨?_,rfl⟩⟩;rw[<- e]
theorem QfV (n sz:Int)(hn:I64 n)(H:Qa):Qe prog 383 [.int .i64 n,.int .i64 sz] H λv H'=>Gx 1 5 H H' v (Kq n sz).1.length (bys (Kq n sz).1)∧Ext H H':=by
 refine Qvy λhw=>?_;simp only[QoD,Qb,simprocAttr];refine(QqH n sz hn H).thenW ?_;rintro _ H1 _ hw1 ⟨v,rfl,hv,hx⟩;simp only[Qb,simprocAttr,QtJ];exact .mk hx.next ⟨hv,hx⟩
def noK:CallF:=λ_ _ _=>none
theorem QDq:CallOk prog noK:=λ_ _ _ _ _ h=>by cases h
def isW (u:Value):Option (Value×Qa)->Bool
 | some (v,_)=>Qgv 6 u v
 | none=>false
theorem Qsz {F G k:Nat}{f:FuncId}{args:List Value}{u:Value}(he:entered prog f=true)(ha:args.all Ab.plain=true)(hu:Ab.plain u=true)(h:isW u ((run prog noK F G k).fn f args (H0 prog))=true)(H:Qa):Qe prog f args H λv H'=>v=u∧H'=H:=by
 unfold isW at h;split at h
 ·rename_i v H1 hr;have hd:=((Qpm QDq k).fn f args _ _ H1 hr).does he;have e:u=v:=Qfg 6 _ _ h;subst e;exact Qtq he (QDl hd ha hu H)
 ·cases h
def Wp (n:Int):Int:=if n=2 then 1 else if n=4 then 2 else if n=8 then 3 else 0
theorem Qc3 (n:Int):0<=Wp n∧Wp n<4:=by unfold Wp;repeat' (split<;>try omega)
theorem Qzq:(([1,2,4,8]:List Int).all λn=>isW (.int .i64 (Wp n)) ((run prog noK 100 5 10).fn 385 [.int .i64 n] (H0 prog)))=true:=by kernel_rfl
theorem Qmj (n:Int)(hn:XD n=true)(H:Qa):Qe prog 385 [.int .i64 n] H λu H'=>u=.int .i64 (Wp n)∧H'=H:=by
 have hm:n∈([1,2,4,8]:List Int):=by
  unfold XD at hn;simp only[Nw,L0]at hn;simp only[LK,Ns,NN];omega
 exact Qsz (by kernel_rfl) rfl rfl (Li.1 Qzq n hm) H
structure Ld where
 b:List Int
 x:Int
 h:Int
 deriving DecidableEq
def LdV (H0 H:Qa)(w:Ld)(v:Value):Prop:=∃s,v=.agg #[s,.int .i64 w.x,.int .i64 w.h]∧Gx 1 5 H0 H s w.b.length (bys w.b)
theorem QkA (n sz:Int)(h:sz<=8):(Kq n sz).1.length<=8:=by
 unfold Kq;split
 ·simp
 ·split
  ·simp
  ·simp[Qe5];omega
def Qa4 (mid:Int)(ix:Rg)(f d:Int):Ld:=⟨[Qz 0 mid 4,bif isR ix 0 0 then Qz 0 4 5 else Qz (Wp f) (Wg ix) 5]++(Kq d 4).1,We ix,0⟩
theorem Qmk (mid:Int)(ix:Rg)(f d:Int)(hm:0<=mid∧mid<8)(hf:isR ix 0 0=false->XD f=true)(hd:I64 d)(H:Qa):
  Qe prog 384 [.int .i64 mid,.agg ix.cells.toArray,.int .i64 f,.int .i64 d] H λv H'=>LdV H H' (Qa4 mid ix f d) v∧Ext H H':=by
 refine Qsv λhw=>?_;have hl:=Jp ix;have hsc:=Qc3 f;have q1:=QcB ix;have q2:=QeT ix;have hpl:=QkA d 4 (by decide);have he:(ix.c==0&&ix.n==0)=isR ix 0 0:=rfl;have j45:Qz 0 4 5=37:=rfl;obtain⟨w,ew⟩:∃w,w=Qa4 mid ix f d:=⟨_,rfl⟩;rw[<- ew];unfold Qa4 at ew;obtain⟨lo,elo⟩:∃lo,Wg ix=lo:=⟨_,rfl⟩;obtain⟨hi,ehi⟩:∃hi,We ix=hi:=⟨_,rfl⟩;rw[elo]at q1 hl ew;rw[ehi]at q2 ew;clear elo ehi;obtain⟨c,n⟩:=ix;simp only[Rg.cells]at q1 q2;simp only[Rg.cells,Qkt,Qb,simprocAttr];generalize hH1:Qa.push (Qa.push H _) _=H1;have hx1:Ext H H1:=by rw[<- hH1];exact((Ext.refl H).push _).push _
 have hw1:H1.Wf:=by rw[<- hH1];exact(hw.push _).push _
 have g0:H1.get H.next=some (.cells [.int .i64 c,.int .i64 n] 54 false):=by rw[<- hH1,Qd,Le (by rw[Qc];omega),Qd,Lc rfl]
 have g1:H1.get (H.next+1)=some (.cells [.slice none 0 0,.int .i64 0,.int .i64 0] 120 false):=by rw[<- hH1,Qd,Lc (by rw[Qc])]
 have hn1:H1.next=H.next+2:=by rw[<- hH1];rfl
 clear hH1;refine(ZM 0 4 5 (by decide) (by decide) (by decide) H1).thenW ?_;rintro _ H1 _ _ ⟨rfl,rfl⟩
 -- the end,of any byte of SIB
 have hend:∀ (sib:Int) (A:Env) (H2:Qa),Ext H1 H2->H2.Wf->w=⟨[Qz 0 mid 4,sib]++(Kq d 4).1,hi,0⟩->A 0=.int .i64 mid->A 3=.int .i64 d->A 5=.pointer (some ⟨H.next,0,none⟩)->A 8=.pointer (some ⟨H.next+1,0,none⟩)->A 9=.int .u8 sib->
   Qm prog (.seq (.ops [Om 20 (t 0),Ow 21 (.call 350 [(Ci 0),(t 20),(Ci 4)]),Om 22 (t 9),Ow 23 (.bslice 5 1 2 [.int .u8 0,.int .u8 0] [(0,(t 21)),(1,(t 22))]),Om 24 (t 3),Ow 25 (.call 383 [(t 24),(Ci 4)]),Ow 26 (.app 5 1 1 (t 23) (t 25)),Om 10 (t 26)]) (.seq (.ops [Om 27 (t 10),Ow 28 (.ld true 2 (t 5)),Ow 29 (.call 351 [(t 28)]),Ow 30 (.build [.slice none 0 0,.int .i64 0,.int .i64 0] [(0,1,(t 27)),(1,1,(t 29))]),Ov (.st 3 (t 8) (t 30))]) .ret)) ⟨Rt prog Tryz.f384 H λv H'=>LdV H H' w v∧Ext H H',WJ⟩ (Rt prog Tryz.f384 H λv H'=>LdV H H' w v∧Ext H H') A H2:=by
  intro sib A H2 hx2 hw2 e r0 r3 r5 r8 r9;simp only[Qb,simprocAttr,r0,r3,r5,r8,r9];refine(ZM 0 mid 4 (by decide) hm (by decide) H2).thenW ?_;rintro _ H2 _ _ ⟨rfl,rfl⟩;simp only[Qb,simprocAttr,r0,r3,r5,r8,r9];have hx3:=(Ext.refl H2).push (.cells [.int .u8 (Qz 0 mid 4),.int .u8 sib] 5 false);have hw3:=hw2.push (.cells [.int .u8 (Qz 0 mid 4),.int .u8 sib] 5 false);have hs3:Gx 1 5 H2 (H2.push (.cells [.int .u8 (Qz 0 mid 4),.int .u8 sib] 5 false)) (.slice (some ⟨H2.next,0,none⟩) 2 2) 2 (bys [Qz 0 mid 4,sib]):=.inr ⟨_,_,rfl,Lb _,by rw[Qd,Lc rfl];rfl,rfl,.inl rfl⟩;generalize H2.push _=H3 at *;refine(QfV d 4 hd H3).thenW ?_;rintro v4 H4 _ hw4 ⟨hv4,hx4⟩;simp only[Qb,simprocAttr];refine Zp (hs3.go hw3 hx4) (hx3.trans hx4) hw4 hv4.src (ZJ _) (by rw[Xd,NH]) (by omega) (by omega) ?_;intro v5 H5 hg5 hk5;have k0:H5.get H.next=some (.cells [.int .i64 c,.int .i64 n] 54 false):=by rw[(hx2.trans hk5.x).get _ (by omega)];exact g0
  simp only[Qb,simprocAttr,r5,k0];refine(q2 H5).thenW ?_;rintro _ _ hn6 hw6 ⟨rfl,k,rfl⟩;simp only[Ql]at hn6;have hx6:=(hx2.trans hk5.x).up hn6;have k1:H5.get (H.next+1)=some (.cells [.slice none 0 0,.int .i64 0,.int .i64 0] 120 false):=by rw[(hx2.trans hk5.x).get _ (by omega)];exact g1
  obtain⟨a5,c5,rfl⟩:=hg5.slc;simp only[Qb,simprocAttr,r8,k1,Qq7];have hx7:=hx1.trans hx6;have hx8:=hx7.set (i:=H.next+1) (by omega) (.cells [.slice a5 (2+(Kq d 4).1.length) c5,.int .i64 hi,.int .i64 0] 120 false);refine .mk hx8.next ⟨⟨_,by rw[e],?_⟩,hx8⟩;have hl9:w.b.length=2+(Kq d 4).1.length:=by rw[e];simp only[Lh,Lo,L9]
  have hb9:bys w.b=bys [Qz 0 mid 4,sib]++bys (Kq d 4).1:=by rw[e,Je]
  have hle:=hx1.next;have hle2:=hx2.next;rw[hl9,hb9];refine(hg5.down (H0:=H) (by omega)).ext λid hid=>?_;have hlo:=hg5.low hk5.w hid;rw[Qq,Le (by omega),Y0]
 simp only[Qb,simprocAttr,g0,Qr,Lq,he];cases hz:isR ⟨c,n⟩ 0 0 with
 | true=>
  rw[hz,Lq]at ew;simp only[L8,QhQ,Qem];refine hend 37 _ H1 (.refl _) hw1 ?_ ?_ ?_ ?_ ?_ ?_
  ·rw[ew,j45]
  all_goals simp only[Qg,simprocAttr,j45]
 | false=>
  rw[hz,Ls]at ew;simp only[LM,QnK,Qb,simprocAttr];refine⟨by omega,?_⟩;refine(Qmj f (hf hz) H1).thenW ?_;rintro _ H1 _ _ ⟨rfl,rfl⟩;simp only[Qb,simprocAttr,g0];refine⟨λ_ _=>rfl,by simp[Qh,Ab.plain],?_⟩;refine(q1 H1).thenW ?_;rintro _ _ hn3 hw3 ⟨rfl,k,rfl⟩;simp only[Ql]at hn3;simp only[Qb,simprocAttr];refine(ZM (Wp f) lo 5 hsc hl (by decide) _).thenW ?_;rintro _ _ _ hw4 ⟨rfl,rfl⟩;simp only[J6,Yk,YJ,Zb,Qj4];refine hend _ _ (H1.up k) ((Ext.refl H1).up hn3) hw3 ew ?_ ?_ ?_ ?_ ?_
  all_goals simp only[Qg,simprocAttr]
def QFi (pre:Int):List Int:=(if pre % 2=1 then[102] else[])++((if pre / 2 % 2=1 then[242] else[])++(if pre / 4 % 2=1 then[243] else[]))
def JT (pre rx:Int):List Int:=QFi pre++(if 0<=rx then[64+rx] else[])
def QIw:Option (Value×Qa)->Nat
 | some (.tuple xs,_)=>match xs.toList with | .slice (some a) _ _::_=>a.block | _=>0
 | _=>0
def Qxo (bs:List Int)(e:Int):Value:=.tuple #[bif bs.isEmpty then .slice none 0 0 else .slice (some ⟨prog.globals.size,0,none⟩) bs.length (UNK+1),.int .i64 e]
def Qxp (r:Option (Value×Qa))(bs:List Int):List Row:=bif bs.isEmpty then[] else[⟨QIw r,bys bs,5,false⟩]
def Qzr (f:FuncId)(args:List Value):Option (Value×Qa):=(run prog noK 2000 5 20).fn f args (JR prog.globals.size [])
theorem QoL {f:FuncId}{args:List Value}{bs:List Int}{e:Int}(he:entered prog f=true)(ha:args.all ZB=true)(h:QqA prog.globals.size (Qxo bs e) (Qxp (Qzr f args) bs) (Qzr f args)=true)(H:Qa):Qe prog f args H λu H'=>∃v,u=.tuple #[v,.int .i64 e]∧Gx 1 5 H H' v bs.length (bys bs)∧Ext H H':=by
 have hd:=QDk QDq (tabs:=[]) he ha rfl h H rfl;intro hw;cases hb:bs.isEmpty with
 | true=>
  have hbs:bs=[]:=DF.1 hb;subst hbs;exact⟨_,_,.inl ⟨he,hd⟩,Lb _,hw,.slice none 0 0,rfl,.inl ⟨rfl,rfl,rfl⟩,.refl _⟩
 | false=>
  have hx:Ext H (H.push (.cells (bys bs) 5 false)):=(Ext.refl H).push _;refine⟨.tuple #[.slice (some ⟨H.next,0,none⟩) bs.length (UNK+1),.int .i64 e],H.push (.cells (bys bs) 5 false),.inl ⟨he,?_⟩,hx.next,hw.push _,_,rfl,.inr ⟨_,_,rfl,Lb _,by rw[Qd,Lc rfl],by rw[Xd,NH],.inr ⟨rfl,by cases bs with | nil=>cases hb | cons=>simp⟩⟩,hx⟩
  by_cases hG:prog.globals.size<=H.next
  ·have e1:shV prog.globals.size (H.next - prog.globals.size) 6 (Qxo bs e)=.tuple #[.slice (some ⟨H.next,0,none⟩) bs.length (UNK+1),.int .i64 e]:=by
    have hs:shN prog.globals.size (H.next - prog.globals.size) prog.globals.size=H.next:=by
     unfold shN;have:Nat.blt prog.globals.size prog.globals.size=false:=by
      cases hq:Nat.blt prog.globals.size prog.globals.size with
      | false=>rfl
      | true=>rw[B5]at hq;omega
     rw[this,Ls];omega
    unfold Qxo;rw[hb,Ls];show Value.tuple #[.slice (some ⟨shN prog.globals.size (H.next - prog.globals.size) prog.globals.size,0,none⟩) bs.length (UNK+1),.int .i64 e]=_;rw[hs]
   have e2:Qtw prog.globals.size (Qxp (Qzr f args) bs) H=H.push (.cells (bys bs) 5 false):=by
    have e3:(bys bs).map (shV prog.globals.size (H.next - prog.globals.size) 6)=bys bs:=by
     unfold bys;rw[Ht];rfl
    unfold Qxp;rw[hb,Ls];show H.push (.cells ((bys bs).map (shV prog.globals.size (H.next - prog.globals.size) 6)) 5 false)=_;rw[e3]
   rw[e1,e2]at hd;exact hd
  ·intro ρ w args' hs _;exfalso;obtain⟨i,hi,_⟩:=hs.glob H.next (by omega);rw[hs.none_next]at hi;cases hi
def Qlr:List (Int×Int):=([0,1,2,3,4,5]:List Int).flatMap λp=>((List.range 17).map fun(k:Nat)=>(p,(k:Int) - 1))
theorem QDr:(Qlr.all λp=>QqA prog.globals.size (Qxo (JT p.1 p.2) 0) (Qxp (Qzr 360 [.int .i64 p.1,.int .i64 p.2]) (JT p.1 p.2)) (Qzr 360 [.int .i64 p.1,.int .i64 p.2]))=true:=by kernel_rfl
theorem QBU (pre rx:Int)(hp:0<=pre∧pre<=5)(hr:-1<=rx∧rx<=15)(H:Qa):Qe prog 360 [.int .i64 pre,.int .i64 rx] H λu H'=>∃v,u=.tuple #[v,.int .i64 0]∧Gx 1 5 H H' v (JT pre rx).length (bys (JT pre rx))∧Ext H H':=by
 have hm:(pre,rx)∈Qlr:=by
  unfold Qlr;rw[NF];refine⟨pre,?_,N4.2 ⟨(rx+1).toNat,LU.2 (by omega),?_⟩⟩
  ·simp only[LK,Ns,NN];omega
  ·have:((rx+1).toNat:Int) - 1=rx:=by omega
   rw[this]
 exact QoL (by kernel_rfl) rfl (Li.1 QDr _ hm) H
def QGv (n:Int)(p:Int×Int):Int:=IntKind.i64.wrap (BitVec.ofInt IntKind.i64.bits (IntKind.i64.wrap (n * 2 ^ (min p.2.toNat IntKind.i64.bits))) ||| BitVec.ofInt IntKind.i64.bits p.1).toNat
def QsA (ps:List (Int×Int)):Int:=ps.foldl QGv 0
def prs (ps:List (Int×Int)):List Value:=ps.flatMap λp=>[.int .i64 p.1,.int .i64 p.2]
theorem QAG:∀ps:List (Int×Int),(prs ps).length=ps.length * 2
 | []=>rfl
 | p::ps=>by
  have:=QAG ps;unfold prs at *;rw[Ba,Lh,this];simp;omega
theorem QDs:∀ (ps:List (Int×Int)) (i:Nat) (p:Int×Int),ps[i]? = some p->((prs ps).drop (i * 2)).take 2=[.int .i64 p.1,.int .i64 p.2]
 | [],i,p,h=>by simp at h
 | q::ps,0,p,h=>by simp at h;subst h;rfl
 | q::ps,i+1,p,h=>by
  have:=QDs ps i p (by simpa using h);have e:prs (q::ps)=[.int .i64 q.1,.int .i64 q.2]++prs ps:=rfl;rw[e,show(i+1) * 2=2+i * 2 by omega,<- Rc];exact this
theorem Quy (ps:List (Int×Int))(hp:∀p∈ps,0<=p.2)(hl:ps.length<=100){b cap:Nat}{e:TypeId}{ro:Bool}(H:Qa)(hg:H.get b=some (.cells (prs ps) e ro)):Qe prog 388 [.slice (some ⟨b,0,none⟩) ps.length cap] H λu H'=>u=.int .i64 (QsA ps)∧Ext H H':=by
 refine Qzn λhw=>?_;have hlt:=hw.lt hg;simp only[Qsw,Qb,simprocAttr,Wj];refine Qo (λm A' H'=>∃i:Nat,i<=ps.length∧m=ps.length - i∧H'.Wf∧Ext H H'∧A' 3=.int .i64 (QsA (ps.take i))∧A' 6=.slice (some ⟨b,0,none⟩) ps.length cap∧A' 7=.int .i64 ps.length∧A' 8=.int .i64 i) ps.length ?_ ?_
 ·refine⟨0,L7 _,by omega,hw,.refl _,?_,?_,?_,?_⟩
  all_goals simp only[Qg,simprocAttr]
  all_goals rfl
 ·rintro m A' H' ⟨i,hi,rfl,hw',hx,r3,r6,r7,r8⟩;simp only[Qb,simprocAttr,r7,r8];refine Qf (λh2=>?_) (λh2=>?_)
  ·have h2:i<ps.length:=by have:=Lg h2;omega
   obtain⟨p,hpi⟩:∃p,ps[i]? = some p:=⟨_,La h2⟩;have h0:=hp p (Ln hpi);have d1:(0:Int)<=i∧(i:Int)<ps.length:=by omega
   have d3:(i:Int).toNat=i:=by omega
   have ei:IntKind.i64.wrap ((i:Int)+1)=((i+1:Nat):Int):=by rw[w64 (by unfold I64;omega)];omega
   have hle:i * 2+2<=(prs ps).length:=by rw[QAG];omega
   have hgb:H'.get b=some (.cells (prs ps) e ro):=by rw[hx.get _ hlt];exact hg
   have htk:=QDs ps i p hpi;have htl:QsA (ps.take (i+1))=QGv (QsA (ps.take i)) p:=by
    unfold QsA;rw[Nv,hpi,List.foldl_append];rfl
   simp only[Qb,simprocAttr,r3,r6,r8,d1,d3,hgb,htk,h0];refine⟨hle,?_⟩;refine⟨ps.length - (i+1),by omega,i+1,by omega,rfl,?_,((hx.push _).set (by have:=hx.next;omega) _),?_,?_,?_,?_⟩
   ·exact(hw'.push _).set (b0:=.cells [.int .i64 0,.int .i64 0] 294 false) (by rw[Qd,Lc rfl]) _
   ·rw[htl];simp only[Qg,simprocAttr];rfl
   all_goals simp only[Qg,simprocAttr,r6,r7,r8,ei]
  ·have h2:i=ps.length:=by have:=Ll h2;omega
   subst h2;rw[Nr]at r3;simp only[Qb,simprocAttr,r3,Qxj];exact .mk hx.next ⟨rfl,hx⟩
structure Vx where
 r:Int
 x:Int
 b:Int
 mp:Int
 w:Int
 v:Int
 l:Int
 pre:Int
def Vx.cells (y:Vx):List Value:=[.int .i64 y.r,.int .i64 y.x,.int .i64 y.b,.int .i64 y.mp,.int .i64 y.w,.int .i64 y.v,.int .i64 y.l,.int .i64 y.pre]
structure Vx.Ok (y:Vx):Prop where
 r:0<=y.r∧y.r<2
 x:0<=y.x∧y.x<2
 b:0<=y.b∧y.b<2
 mp:1<=y.mp∧y.mp<4
 w:0<=y.w∧y.w<2
 v:0<=y.v∧y.v<16
 l:0<=y.l∧y.l<2
 pre:y.pre=0∨y.pre=1∨y.pre=2∨y.pre=4
def K1 (n:Int):Int:=if n=1 then 1 else if n=4 then 2 else if n=2 then 3 else 0
theorem Qrv (n:Int):0<=K1 n∧K1 n<4:=by unfold K1;repeat' (split<;>try omega)
theorem QoM (n:Int)(H:Qa):Qe prog 389 [.int .i64 n] H λu H'=>u=.int .i64 (K1 n)∧H'=H:=by
 refine QtL λhw=>?_;simp only[Qmh,Qb,simprocAttr];unfold K1
 repeat' (first
  | (refine Qf (λh=>?_) (λh=>?_)<;>(try simp only[L0,LC,Da]at h)<;>simp only[KG,simprocAttr,h,Qsx,N3,LN])
  | fail)
 all_goals exact .mk (Lb _) ⟨rfl,rfl⟩
def vb2 (y:Vx):Int:=(1 - y.r) * 128+(15 - y.v) * 8+y.l * 4+K1 y.pre
def vbm (y:Vx):Int:=(1 - y.r) * 128+(1 - y.x) * 64+(1 - y.b) * 32+y.mp
def vbn (y:Vx):Int:=y.w * 128+(15 - y.v) * 8+y.l * 4+K1 y.pre
def Vk (y:Vx):List Int:=[196,vbm y,vbn y]
theorem QFj:∀r:Fin 2,∀v:Fin 16,∀l:Fin 2,∀p:Fin 4,IntKind.u8.wrap (IntKind.i64.wrap (BitVec.ofInt IntKind.i64.bits (QsA [((r:Nat),1),((v:Nat),4),((l:Nat),1),((p:Nat),2)]) ^^^ BitVec.ofInt IntKind.i64.bits 248).toNat)=(1 - (r:Nat):Int) * 128+(15 - (v:Nat):Int) * 8+(l:Nat) * 4+(p:Nat):=by decide +kernel
theorem QFk:∀r:Fin 2,∀v:Fin 16,∀l:Fin 2,∀p:Fin 4,IntKind.u8.wrap (IntKind.i64.wrap (BitVec.ofInt IntKind.i64.bits (QsA [((r:Nat),1),((v:Nat),4),((l:Nat),1),((p:Nat),2)]) ^^^ BitVec.ofInt IntKind.i64.bits 120).toNat)=((r:Nat):Int) * 128+(15 - (v:Nat):Int) * 8+(l:Nat) * 4+(p:Nat):=by decide +kernel
theorem QFl:∀r:Fin 2,∀x:Fin 2,∀b:Fin 2,∀m:Fin 4,IntKind.u8.wrap (IntKind.i64.wrap (BitVec.ofInt IntKind.i64.bits (QsA [((r:Nat),1),((x:Nat),1),((b:Nat),1),((m:Nat),5)]) ^^^ BitVec.ofInt IntKind.i64.bits 224).toNat)=(1 - (r:Nat):Int) * 128+(1 - (x:Nat):Int) * 64+(1 - (b:Nat):Int) * 32+(m:Nat):=by decide +kernel
theorem QHh {y:Vx}(h:y.Ok):IntKind.u8.wrap (IntKind.i64.wrap (BitVec.ofInt IntKind.i64.bits (QsA [(y.r,1),(y.v,4),(y.l,1),(K1 y.pre,2)]) ^^^ BitVec.ofInt IntKind.i64.bits 248).toNat)=vb2 y:=by
 have hp:=Qrv y.pre;have hr:=h.r;have hv:=h.v;have hl:=h.l;have e:=QFj ⟨y.r.toNat,by omega⟩ ⟨y.v.toNat,by omega⟩ ⟨y.l.toNat,by omega⟩ ⟨(K1 y.pre).toNat,by omega⟩;simp only[Bi hr.1,Bi hv.1,Bi hl.1,Bi hp.1]at e;exact e
theorem QHi {y:Vx}(h:y.Ok):IntKind.u8.wrap (IntKind.i64.wrap (BitVec.ofInt IntKind.i64.bits (QsA [(y.w,1),(y.v,4),(y.l,1),(K1 y.pre,2)]) ^^^ BitVec.ofInt IntKind.i64.bits 120).toNat)=vbn y:=by
 have hp:=Qrv y.pre;have hr:=h.w;have hv:=h.v;have hl:=h.l;have e:=QFk ⟨y.w.toNat,by omega⟩ ⟨y.v.toNat,by omega⟩ ⟨y.l.toNat,by omega⟩ ⟨(K1 y.pre).toNat,by omega⟩;simp only[Bi hr.1,Bi hv.1,Bi hl.1,Bi hp.1]at e;exact e
theorem QHj {y:Vx}(h:y.Ok):IntKind.u8.wrap (IntKind.i64.wrap (BitVec.ofInt IntKind.i64.bits (QsA [(y.r,1),(y.x,1),(y.b,1),(y.mp,5)]) ^^^ BitVec.ofInt IntKind.i64.bits 224).toNat)=vbm y:=by
 have hr:=h.r;have hx:=h.x;have hb:=h.b;have hm:=h.mp;have hm0:0<=y.mp:=by omega
 have e:=QFl ⟨y.r.toNat,by omega⟩ ⟨y.x.toNat,by omega⟩ ⟨y.b.toNat,by omega⟩ ⟨y.mp.toNat,by omega⟩;simp only[Bi hr.1,Bi hx.1,Bi hb.1,Bi hm0]at e;exact e
theorem QsB {y:Vx}(h:y.Ok)(H:Qa):Qe prog 390 [.agg y.cells.toArray] H λv H'=>Gx 1 5 H H' v 3 (bys (Vk y))∧Ext H H'∧∃a,v=.slice a 3 3:=by
 refine Qxk λhw=>?_;have em:=QHj h;have en:=QHi h;unfold Vk;generalize vbm y=zm at *;generalize vbn y=zn at *;have hlay:=fun(ps:List (Int×Int)) hp hl (b cap:Nat) e ro (H:Qa)=>Quy (cap:=cap) (b:=b) (e:=e) (ro:=ro) ps hp hl H;obtain⟨r,x,b,mp,w,v,l,pre⟩:=y;simp only at em en;simp only[Vx.cells,QqF,Qb,simprocAttr,Nat.reduceMul];generalize hH1:Qa.push (Qa.push H _) _=H1;have hx1:Ext H H1:=by rw[<- hH1];exact((Ext.refl H).push _).push _
 have g1:H1.get (H.next+1)=some (.cells (prs [(r,1),(x,1),(b,1),(mp,5)]) 294 false):=by rw[<- hH1,Qd,Lc (by rw[Qc])];rfl
 have g0:H1.get H.next=some (.cells [.int .i64 r,.int .i64 x,.int .i64 b,.int .i64 mp,.int .i64 w,.int .i64 v,.int .i64 l,.int .i64 pre] 146 false):=by rw[<- hH1,Qd,Le (by rw[Qc];omega),Qd,Lc rfl]
 have hn1:H1.next=H.next+2:=by rw[<- hH1];rfl
 clear hH1;refine(hlay [(r,1),(x,1),(b,1),(mp,5)] (by simp) (by simp) _ _ _ _ H1 g1).thenW ?_;rintro _ H2 _ hw2 ⟨rfl,hx2⟩;have k0:=(hx2.get H.next (by omega)).trans g0;simp only[Qb,simprocAttr,k0];refine⟨by simp[Qh,Ab.plain],by simp[Qh,Ab.plain],by simp[Qh,Ab.plain],?_⟩;refine(QoM pre H2).thenW ?_;rintro _ H2 _ _ ⟨rfl,rfl⟩;simp only[Qb,simprocAttr,Nat.reduceMul];refine⟨λ_ _=>rfl,?_⟩;generalize hH3:Qa.push H2 _=H3;have hx3:Ext H2 H3:=by rw[<- hH3];exact(Ext.refl H2).push _
 have g3:H3.get H2.next=some (.cells (prs [(w,1),(v,4),(l,1),(K1 pre,2)]) 294 false):=by rw[<- hH3,Qd,Lc rfl];rfl
 clear hH3;refine(hlay [(w,1),(v,4),(l,1),(K1 pre,2)] (by simp) (by simp) _ _ _ _ H3 g3).thenW ?_;rintro _ H4 _ hw4 ⟨rfl,hx4⟩;simp only[Qb,simprocAttr,em,en,QvA];have hx5:=(((hx1.trans hx2).trans hx3).trans hx4);have hx6:=hx5.push (.cells [.int .u8 196,.int .u8 zm,.int .u8 zn] 5 false);exact .mk hx6.next ⟨.inr ⟨_,_,rfl,hx5.next,by rw[Qd,Lc rfl];rfl,rfl,.inl rfl⟩,hx6,_,rfl⟩
theorem Qxq {y:Vx}(h:y.Ok)(H:Qa):Qe prog 387 [.agg y.cells.toArray] H λu H'=>u=.int .i64 0∧Ext H H':=by
 refine Qvz λhw=>?_;have hh:=h;obtain⟨h1,h2,h3,h4,h5,h6,h7,h8⟩:=h;obtain⟨r,x,b,mp,w,v,l,pre⟩:=y;simp only at h1 h2 h3 h4 h5 h6 h7 h8;simp only[Vx.cells,QoE,Qb,simprocAttr,Wj];generalize hH1:Qa.push (Qa.push H _) _=H1;have hx1:Ext H H1:=by rw[<- hH1];exact((Ext.refl H).push _).push _
 have g1:H1.get (H.next+1)=some (.cells (ints [r,x,b,w,l]) 3 false):=by rw[<- hH1,Qd,Lc (by rw[Qc])];rfl
 have g0:H1.get H.next=some (.cells [.int .i64 r,.int .i64 x,.int .i64 b,.int .i64 mp,.int .i64 w,.int .i64 v,.int .i64 l,.int .i64 pre] 146 false):=by rw[<- hH1,Qd,Le (by rw[Qc];omega),Qd,Lc rfl]
 clear hH1;refine Qo (λm A' H'=>∃i:Nat,i<=5∧m=5 - i∧H'=H1∧A' 1=.pointer (some ⟨H.next,0,none⟩)∧A' 15=.slice (some ⟨H.next+1,0,none⟩) 5 5∧A' 16=.int .i64 5∧A' 17=.int .i64 i) 5 ?_ ?_
 ·refine⟨0,by omega,rfl,rfl,?_,?_,?_,?_⟩
  all_goals simp only[Qg,simprocAttr]
  all_goals rfl
 ·rintro m A' H' ⟨i,hi,rfl,rfl,r1,r15,r16,r17⟩;simp only[Qky,Qb,simprocAttr,r16,r17];refine Qf (λh2=>?_) (λh2=>?_)
  ·have h2:i<5:=by have:=Lg h2;omega
   obtain⟨z,hz,hz2⟩:∃z,(ints [r,x,b,w,l])[i]? = some (.int .i64 z)∧0<=z∧z<2:=by
    rcases i with _ | _ | _ | _ | _ | i
    ·exact⟨r,rfl,h1⟩
    ·exact⟨x,rfl,by assumption⟩
    ·exact⟨b,rfl,h3⟩
    ·exact⟨w,rfl,h5⟩
    ·exact⟨l,rfl,h7⟩
    ·omega
   have d1:(0:Int)<=i∧(i:Int)<(5:Nat):=by omega
   have d3:(i:Int).toNat=i:=by omega
   have ei:IntKind.i64.wrap ((i:Int)+1)=((i+1:Nat):Int):=by rw[w64 (by unfold I64;omega)];omega
   simp only[Qkx,sxA,sxB,Nat.reduceBEq,Nat.reduceEqDiff,reduceCtorEq,mxA,mxB,Nat.reduceAdd,reduceIte,Nat.reduceLeDiff,splice,r15,r17,d1,d3,g1,hz];rcases(show z=0∨z=1 by omega) with rfl | rfl
   ·simp only[Qb,simprocAttr,LO,L8,r17,ei];refine⟨5 - (i+1),by omega,i+1,by omega,rfl,rfl,?_,?_,?_,?_⟩
    all_goals simp only[Qg,simprocAttr,r1,r15,r16]
   ·have e10:((1:Int)==0)=false:=rfl;simp only[Qb,simprocAttr,e10,LO,LM,L8,r17,ei];refine⟨5 - (i+1),by omega,i+1,by omega,rfl,rfl,?_,?_,?_,?_⟩
    all_goals simp only[Qg,simprocAttr,r1,r15,r16]
  ·have e1:decide (mp<1)=false:=Lj (by omega);have e2:decide (3<mp)=false:=Lj (by omega);have e3:decide (v<0)=false:=Lj (by omega);have e4:decide (15<v)=false:=Lj (by omega);simp only[Qkw,Qb,simprocAttr,r1,g0,e1,e2,e3,e4,B4];rcases h8 with rfl | rfl | rfl | rfl
   all_goals simp only[Qkv,Qku,Qb,simprocAttr,r1,g0,LO,Int.reduceBEq,QtK]
   all_goals exact .mk hx1.next ⟨rfl,hx1⟩
structure Zq (e:TypeId) (H0 H:Qa) (v:Value) (bss:List (List Int)):Prop where
 ne:e≠5
 it:∃ss:List Value,ss.length=bss.length∧Gx 1 e H0 H v bss.length ss∧∀ (j:Nat) s bs,ss[j]? = some s->bss[j]? = some bs->Gx 1 5 H0 H s bs.length (bys bs)
theorem Zq.nil {e:TypeId}(he:e≠5)(H0 H:Qa):Zq e H0 H (.slice none 0 0) []:=⟨he,[],rfl,.inl ⟨rfl,rfl,rfl⟩,λj s w h=>by simp at h⟩
theorem Zq.go {e:TypeId}{H0 H H':Qa}{v:Value}{ws:List (List Int)}(h:Zq e H0 H v ws)(hw:H.Wf)(hx:Ext H H'):Zq e H0 H' v ws:=by
 obtain⟨ss,h1,h2,h3⟩:=h.it;exact⟨h.ne,ss,h1,h2.go hw hx,λj s w hs hw'=>(h3 j s w hs hw').go hw hx⟩
theorem Zq.down {e:TypeId}{H0 H1 H:Qa}{v:Value}{ws:List (List Int)}(h:Zq e H1 H v ws)(hx:H0.next<=H1.next):Zq e H0 H v ws:=by
 obtain⟨ss,h1,h2,h3⟩:=h.it;exact⟨h.ne,ss,h1,h2.down hx,λj s w hs hw'=>(h3 j s w hs hw').down hx⟩
theorem Zq.slc {e:TypeId}{H0 H:Qa}{v:Value}{ws:List (List Int)}(h:Zq e H0 H v ws):∃a c,v=.slice a ws.length c:=by
 obtain⟨ss,h1,h2,h3⟩:=h.it;exact h2.slc
theorem QkB {e bytes:Nat}{H0 H:Qa}{v s x:Value}{bs:List Int}{ws:List (List Int)}{k:Value->Qa->Prop}(hl:Zq e H0 H v ws)(hx:Ext H0 H)(hw:H.Wf)(hs:Gx 1 5 H0 H s bs.length (bys bs))(hsrc:J4 1 x H=some (1,[s]))(hb:(ws.length+1) * bytes<=140737488355328)(hn:ws.length+1<=9223372036854775807)
  (h:∀v' H',Zq e H0 H' v' (ws++[bs])->GK v v' H0 H H'->k v' H'):Qdr e 1 bytes v x H k:=by
 obtain⟨ss,h1,h2,h3⟩:=hl.it;have hone:([s]:List Value).all (·.oneCell')=true:=by
  obtain⟨a,c,rfl⟩:=hs.slc;rfl
 refine Zp h2 hx hw hsrc hone rfl hb hn ?_;intro v' H' hg hk;refine h v' H' ⟨hl.ne,ss++[s],by simp[h1],?_,λj s' w' hs' hw'=>?_⟩ hk
 ·rw[Lh];exact hg
 ·have hnot:∀id c',H.get id=some (.cells c' 5 false)->¬inB v id:=λid c' hc hi=>by
   obtain⟨o,n',c,rfl⟩:=hi;rcases h2 with⟨h,_,_⟩ | ⟨b,c,h,q2,q3,q4⟩
   ·cases h
   ·cases h;rw[q3]at hc;cases hc;exact hl.ne rfl
  have key:∀ {s:Value} {bs:List Int},Gx 1 5 H0 H s bs.length (bys bs)->Gx 1 5 H0 H' s bs.length (bys bs):=λhq=>by
   rcases hq with h2 | ⟨b,c,rfl,q2,q3,q4⟩
   ·exact .inl h2
   ·exact .inr ⟨b,c,rfl,q2,by rw[hk.keep b (hw.lt q3) (hnot b _ q3)];exact q3,q4⟩
  rcases Dj j ss.length with hj | hj | hj
  ·rw[LY hj]at hs';rw[LY (by omega)]at hw';exact key (h3 j s' w' hs' hw')
  ·rw[LR (by omega)]at hs' hw';rw[hj,BJ]at hs';rw[hj,h1,BJ]at hw';cases hs';cases hw';exact key hs
  ·have:=(Lk.1 hs').1;simp at this;omega
def Qq8 (y:Vx)(any:Bool):List (List Int):=
 (if(y.x=0∧y.b=0∧(any=true∨y.w=0))∧y.mp=1 then[[197,vb2 y]] else[])++([Vk (bif any then {y with w:=0} else y)]++(bif any then[Vk {y with w:=1}] else[]))
theorem Vx.Ok.setW {y:Vx}(h:y.Ok)(n:Int)(hn:0<=n∧n<2):Vx.Ok {y with w:=n}:=⟨h.r,h.x,h.b,h.mp,hn,h.v,h.l,h.pre⟩
section
variable {H:Qa} {W:List (List Int)}
abbrev KV (H:Qa)(W:List (List Int)):Env->Qa->Prop:=Rt prog Tryz.f357 H λu H'=>∃v,u=.tuple #[v,.int .i64 0]∧Zq 27 H H' v W∧Ext H H'
theorem QfW (H:Qa)(s:Value):J4 1 (.slice (some ⟨H.next,0,none⟩) 1 1) (H.push (.cells [s] 27 false))=some (1,[s]):=QnR (by rw[Qd,Lc rfl])
theorem Zq.keep {e:TypeId}{H0 H H':Qa}{v:Value}{ws:List (List Int)}(h:Zq e H0 H v ws)(hk:∀id,H0.next<=id->H'.get id=H.get id):Zq e H0 H' v ws:=by
 obtain⟨ss,h1,h2,h3⟩:=h.it;have key:∀ {e:TypeId} {v:Value} {n:Nat} {cs:List Value},Gx 1 e H0 H v n cs->Gx 1 e H0 H' v n cs:=λhq=>by
  rcases hq with h2 | ⟨b,c,rfl,q2,q3,q4⟩
  ·exact .inl h2
  ·exact .inr ⟨b,c,rfl,q2,by rw[hk b q2];exact q3,q4⟩
 exact⟨h.ne,ss,h1,key h2,λj s w a b=>key (h3 j s w a b)⟩
theorem QIx {y:Vx}(h:y.Ok)(any:Bool){ws:List (List Int)}(hl:ws.length<=5){v:Value}{A:Env}{Hb H1:Qa}(hnb:Hb.next=H.next+1)(hv:Zq 27 Hb H1 v ws)(hxb:Ext Hb H1)(hx:Ext H H1)(hw:H1.Wf)(hg:H1.get H.next=some (.cells y.cells 146 false))(r1:A 1=.bool any)(r2:A 2=.pointer (some ⟨H.next,0,none⟩))(r7:A 7=v)(eW:W=ws++([Vk y]++(bif any then[Vk {y with w:=1}] else[]))):
  Qm prog Qa1 ⟨KV H W,WJ⟩ (KV H W) A H1:=by
 have hnx:=hxb.next;have q1:=QsB h;have q2:=QsB (h.setW 1 (by decide));obtain⟨y1,ey1⟩:∃y1,y1=Vk y:=⟨_,rfl⟩;obtain⟨y2,ey2⟩:∃y2,y2=Vk {y with w:=1}:=⟨_,rfl⟩;have ly1:y1.length=3:=by rw[ey1];rfl
 have ly2:y2.length=3:=by rw[ey2];rfl
 rw[<- ey1]at q1 eW;rw[<- ey2]at q2 eW;clear ey1 ey2;obtain⟨r,x,b,mp,w,vv,l,pre⟩:=y;simp only[Vx.cells]at hg q1 q2;simp only[Qa1,Qb,simprocAttr,r1,r2,r7,hg];refine(q1 H1).thenW ?_;rintro s2 H2 hn2 hw2 ⟨hs2,hx2,a2,rfl⟩
 replace hs2:Gx 1 5 H1 H2 (.slice a2 3 3) y1.length (bys y1):=by rw[ly1];exact hs2
 simp only[Qb,simprocAttr];refine QkB (H0:=Hb) (bs:=y1) ((hv.go hw hx2).go hw2 ((Ext.refl H2).push _)) ((hxb.trans hx2).push _) (hw2.push _) ((hs2.go hw2 ((Ext.refl H2).push _)).down (by omega)) (QfW H2 _) (by omega) (by omega) ?_;intro v4 H4 hv4 hk4;have hg4:H4.get H.next=some (.cells [.int .i64 r,.int .i64 x,.int .i64 b,.int .i64 mp,.int .i64 w,.int .i64 vv,.int .i64 l,.int .i64 pre] 146 false):=by rw[(hk4.x).get _ (by omega),<- hxb.get _ (by omega)];exact hg
 have hx4:Ext H H4:=⟨by have:=hk4.x.next;omega,λid hid=>by rw[hk4.x.get id (by omega),<- hxb.get id (by omega)];exact hx.get id hid⟩;cases any with
 | false=>
  rw[Ls,Na]at eW;simp only[Qb,simprocAttr,r1,QqE];exact .mk hx4.next ⟨v4,rfl,by rw[eW];exact hv4.down (by omega),hx4⟩
 | true=>
  rw[Lq]at eW;simp only[Qb,simprocAttr,r1,r2,hg4];generalize hH5:Qa.set H4 _ _=H5;have hx5:Ext H H5:=by rw[<- hH5];exact hx4.set (Lb _) _
  have hw5:H5.Wf:=by rw[<- hH5];exact hk4.w.set hg4 _
  have k5:∀id,Hb.next<=id->H5.get id=H4.get id:=λid hid=>by rw[<- hH5,Qq,Le (by omega)]
  have hv5:=hv4.keep k5;have hn5:H5.next=H4.next:=by rw[<- hH5];rfl
  have hn4:=hk4.x.next;clear hH5;refine(q2 H5).thenW ?_;rintro s6 H6 hn6 hw6 ⟨hs6,hx6,a6,rfl⟩
  replace hs6:Gx 1 5 H5 H6 (.slice a6 3 3) y2.length (bys y2):=by rw[ly2];exact hs6
  simp only[Qb,simprocAttr];have hz:∃Hz:Qa,Ext Hz H5∧Hz.next=Hb.next:=⟨⟨Hb.next,H5.tr⟩,⟨by show Hb.next<=H5.next;omega,λid _=>rfl⟩,rfl⟩;obtain⟨Hz,hxz,hnz⟩:=hz;refine QkB (H0:=Hz) (bs:=y2) (((hv5.go hw5 hx6).go hw6 ((Ext.refl H6).push _)).down (by omega)) ((hxz.trans hx6).push _) (hw6.push _) ((hs6.go hw6 ((Ext.refl H6).push _)).down (by omega)) (QfW H6 _) (by rw[Lh,Bb];omega) (by rw[Lh,Bb];omega) ?_;intro v7 H7 hv7 hk7;have hx7:Ext H H7:=⟨by have:=hk7.x.next;omega,λid hid=>by rw[hk7.x.get id (by omega),<- hxz.get id (by omega)];exact hx5.get id hid⟩;simp only[Qb,simprocAttr,QqE];exact .mk hx7.next ⟨v7,rfl,by rw[eW,<- LQ];exact hv7.down (by omega),hx7⟩
theorem QIy {y:Vx}(h:y.Ok)(any:Bool){A:Env}{Hb H1:Qa}(hnb:Hb.next=H.next+1)(hxb:Ext Hb H1)(hx:Ext H H1)(hw:H1.Wf)(hg:H1.get H.next=some (.cells y.cells 146 false))(r1:A 1=.bool any)(r2:A 2=.pointer (some ⟨H.next,0,none⟩))(eW:W=(if(y.x=0∧y.b=0∧y.w=0)∧y.mp=1 then[[197,vb2 y]] else[])++([Vk y]++(bif any then[Vk {y with w:=1}] else[]))):
  Qm prog Qh8 ⟨KV H W,WJ⟩ (KV H W) A H1:=by
 have hnx:=hxb.next;have hg0:=hg;have eb:=QHh h;have hlay:=fun(ps:List (Int×Int)) hp hl (b cap:Nat) e ro (H:Qa)=>Quy (cap:=cap) (b:=b) (e:=e) (ro:=ro) ps hp hl H;have h1:=λA=>QIx (H:=H) (W:=W) (A:=A) h any (ws:=[]) (by simp) hnb (Zq.nil (e:=27) (by decide) Hb H1) hxb hx hw hg;have hne:∀A,A 1=.bool any->A 2=.pointer (some ⟨H.next,0,none⟩)->A 7=.slice none 0 0->¬ ((y.x=0∧y.b=0∧y.w=0)∧y.mp=1)->Qm prog Qa1 ⟨KV H W,WJ⟩ (KV H W) A H1:=λA a1 a2 a7 hno=>h1 A a1 a2 a7 (by rw[eW,Le hno]);obtain⟨z2,ez2⟩:∃z2,z2=vb2 y:=⟨_,rfl⟩;have hyes:(y.x=0∧y.b=0∧y.w=0)∧y.mp=1->∀ (A:Env) (H4:Qa) (v4:Value),Zq 27 Hb H4 v4 [[197,z2]]->Ext Hb H4->Ext H H4->H4.Wf->A 1=.bool any->A 2=.pointer (some ⟨H.next,0,none⟩)->A 7=v4->Qm prog Qa1 ⟨KV H W,WJ⟩ (KV H W) A H4:=by
  intro hy A H4 v4 hv4 hx4b hx4 hw4 a1 a2 a7;refine QIx h any (ws:=[[197,z2]]) (by simp) hnb hv4 hx4b hx4 hw4 (by rw[hx4b.get _ (by omega),<- hxb.get _ (by omega)];exact hg0) a1 a2 a7 (by rw[eW,Lc hy,ez2])
 rw[<- ez2]at eb;clear ez2 eW h1 hg0 h;obtain⟨r,x,b,mp,w,v,l,pre⟩:=y;simp only[Vx.cells]at hg;simp only at hyes hne eb;simp only[Qh8,Qb,simprocAttr,r1,r2,hg];cases ex:x==0 with
 | false=>
  have hx0:¬x=0:=by simpa using ex
  simp only[Qb,simprocAttr,ex];refine hne _ ?_ ?_ ?_ (λh=>hx0 h.1.1)
  all_goals simp only[Qg,simprocAttr,r1,r2]
 | true=>
  have hx0:x=0:=by simpa using ex
  simp only[Qb,simprocAttr,r2,hg];cases e2:b==0 with
  | false=>
   have hb0:¬b=0:=by simpa using e2
   simp only[Qb,simprocAttr,e2];refine hne _ ?_ ?_ ?_ (λh=>hb0 h.1.2.1)
   all_goals simp only[Qg,simprocAttr,r1,r2]
  | true=>
   have hb0:b=0:=by simpa using e2
   simp only[Qb,simprocAttr,r2,hg];cases e3:w==0 with
   | false=>
    have hw0:¬w=0:=by simpa using e3
    simp only[Qb,simprocAttr,e3];refine hne _ ?_ ?_ ?_ (λh=>hw0 h.1.2.2)
    all_goals simp only[Qg,simprocAttr,r1,r2]
   | true=>
    have hw0:w=0:=by simpa using e3
    simp only[Qb,simprocAttr,r2,hg];cases e4:mp==1 with
    | false=>
     have hm0:¬mp=1:=by simpa using e4
     simp only[Qb,simprocAttr,e4];refine hne _ ?_ ?_ ?_ (λh=>hm0 h.2)
     all_goals simp only[Qg,simprocAttr,r1,r2]
    | true=>
     have hm0:mp=1:=by simpa using e4
     simp only[QoA,Qb,simprocAttr,e4,r2,hg];refine⟨by simp[Qh,Ab.plain],by simp[Qh,Ab.plain],by simp[Qh,Ab.plain],?_⟩;refine(QoM pre H1).thenW ?_;rintro _ H1 _ _ ⟨rfl,rfl⟩;simp only[Qb,simprocAttr,Nat.reduceMul];refine⟨λ_ _=>rfl,?_⟩;generalize hH3:Qa.push H1 _=H3;have hx3:Ext H1 H3:=by rw[<- hH3];exact(Ext.refl H1).push _
     have g3:H3.get H1.next=some (.cells (prs [(r,1),(v,4),(l,1),(K1 pre,2)]) 294 false):=by rw[<- hH3,Qd,Lc rfl];rfl
     clear hH3;refine(hlay [(r,1),(v,4),(l,1),(K1 pre,2)] (by simp) (by simp) _ _ _ _ H3 g3).thenW ?_;rintro _ H4 _ hw4 ⟨rfl,hx4⟩;simp only[Qb,simprocAttr,eb];have hx14:=hx3.trans hx4;have hx5:=(Ext.refl H4).push (.cells [.int .u8 197,.int .u8 z2] 5 false);have hw5:=hw4.push (.cells [.int .u8 197,.int .u8 z2] 5 false);have hg5:Gx 1 5 H4 (H4.push (.cells [.int .u8 197,.int .u8 z2] 5 false)) (.slice (some ⟨H4.next,0,none⟩) 2 2) 2 (bys [197,z2]):=.inr ⟨_,_,rfl,Lb _,by rw[Qd,Lc rfl];rfl,rfl,.inl rfl⟩;have hn14:=hx14.next;have hn5:(H4.push (.cells [.int .u8 197,.int .u8 z2] 5 false)).next=H4.next+1:=rfl;generalize H4.push (.cells [.int .u8 197,.int .u8 z2] 5 false)=H5 at *;have hx15:=hx14.trans hx5;have hx6:=(Ext.refl H5).push (.cells [.slice (some ⟨H4.next,0,none⟩) 2 2] 27 false);refine QkB (H0:=Hb) (bs:=[197,z2]) (Zq.nil (e:=27) (by decide) Hb _) ((hxb.trans hx15).trans hx6) (hw5.push _) ((hg5.go hw5 hx6).down (by omega)) (by rw[<- hn5];exact QfW H5 _) (by simp) (by simp) ?_;intro v7 H7 hv7 hk7;have hx7:Ext H H7:=⟨by have:=hk7.x.next;omega,λid hid=>by rw[hk7.x.get id (by omega),<- hxb.get id (by omega)];exact hx.get id hid⟩;simp only[J6,Yk,YJ,Zb,Qj4];refine hyes ⟨⟨hx0,hb0,hw0⟩,hm0⟩ _ H7 v7 hv7 hk7.x hx7 hk7.w ?_ ?_ ?_
     all_goals simp only[Qg,simprocAttr,r1,r2]
end
theorem QAH (y:Vx)(any:Bool)(y':Vx)(h:y'=bif any then {y with w:=0} else y):Qq8 y any=(if(y'.x=0∧y'.b=0∧y'.w=0)∧y'.mp=1 then[[197,vb2 y']] else[])++([Vk y']++(bif any then[Vk {y' with w:=1}] else[])):=by
 subst h;unfold Qq8;cases any with
 | true=>simp only[Lq,true_or,Hr,vb2]
 | false=>simp only[Ls,LV,false_or]
theorem QBV {y:Vx}(h:y.Ok)(any:Bool)(H:Qa):Qe prog 357 [.agg y.cells.toArray,.bool any] H λu H'=>∃v,u=.tuple #[v,.int .i64 0]∧Zq 27 H H' v (Qq8 y any)∧Ext H H':=by
 refine Qzm λhw=>?_;obtain⟨y',ey⟩:∃y':Vx,y'=bif any then {y with w:=0} else y:=⟨_,rfl⟩
 have hy':y'.Ok:=by rw[ey];cases any with | true=>exact h.setW 0 (by decide) | false=>exact h
 have eL:=QAH y any y' ey;have ec:y'.cells=bif any then[.int .i64 y.r,.int .i64 y.x,.int .i64 y.b,.int .i64 y.mp,.int .i64 0,.int .i64 y.v,.int .i64 y.l,.int .i64 y.pre] else y.cells:=by rw[ey];cases any<;>rfl
 have qc:=Qxq h;have hx1:=(Ext.refl H).push (.cells y.cells 146 false);have hw1:=hw.push (.cells y.cells 146 false);have hg1:(H.push (.cells y.cells 146 false)).get H.next=some (.cells y.cells 146 false):=by rw[Qd,Lc rfl]
 have hn1:(H.push (.cells y.cells 146 false)).next=H.next+1:=rfl;obtain⟨W,eW⟩:∃W,W=Qq8 y any:=⟨_,rfl⟩;rw[<- eW]at eL ⊢;clear eW ey h;obtain⟨r,x,b,mp,w,v,l,pre⟩:=y;simp only[Vx.cells]at hx1 hw1 hg1 hn1 qc ec;simp only[Vx.cells,Qsu,Qb,simprocAttr];generalize H.push _=H1 at *;refine(qc H1).thenW ?_;rintro _ H2 hn2 hw2 ⟨rfl,hx2⟩;have hg2:=(hx2.get H.next (by omega)).trans hg1;have hx12:=hx1.trans hx2;simp only[Qb,simprocAttr,LO,L8];cases any with
 | true=>
  rw[Lq]at ec;simp only[Qh9,Qb,simprocAttr,hg2];generalize hH3:Qa.set H2 _ _=H3;have hx3:Ext H H3:=by rw[<- hH3];exact hx12.set (Lb _) _
  have hw3:H3.Wf:=by rw[<- hH3];exact hw2.set hg2 _
  have hg3:H3.get H.next=some (.cells y'.cells 146 false):=by rw[<- hH3,Qq,Lc rfl];exact congrArg (λc=>some (Blk.cells c 146 false)) ec.symm
  have hn3:H3.next=H2.next:=by rw[<- hH3];rfl
  clear hH3;refine QIy (H:=H) (Hb:=⟨H.next+1,H3.tr⟩) hy' true rfl ⟨by show H.next+1<=H3.next;omega,λid _=>rfl⟩ hx3 hw3 hg3 ?_ ?_ eL
  all_goals simp only[Qg,simprocAttr]
 | false=>
  rw[Ls]at ec;simp only[Qh9,Qb,simprocAttr];refine QIy (H:=H) (Hb:=⟨H.next+1,H2.tr⟩) hy' false rfl ⟨by show H.next+1<=H2.next;omega,λid _=>rfl⟩ hx12 hw2 (by rw[hg2];exact congrArg (λc=>some (Blk.cells c 146 false)) ec.symm) ?_ ?_ eL
  all_goals simp only[Qg,simprocAttr]
def Kr (m:Int):List Int:=if(m==1)=true then[15] else if(m==2)=true then[15,56] else if(m==3)=true then[15,58] else[]
theorem Qra (m:Int)(H:Qa):Qe prog 361 [.int .i64 m] H λv H'=>Gx 1 5 H H' v (Kr m).length (bys (Kr m))∧Ext H H':=by
 refine QpI λhw=>?_;have hg:∀bs:List Int,Gx 1 5 H (H.push (.cells (bys bs) 5 false)) (.slice (some ⟨H.next,0,none⟩) bs.length bs.length) bs.length (bys bs):=λbs=>.inr ⟨_,_,rfl,Lb _,by rw[Qd,Lc rfl],by rw[Xd,NH],.inl rfl⟩;simp only[Qg8,Qb,simprocAttr];unfold Kr;cases h1:m==1 with
 | true=>
  simp only[Qb,simprocAttr,h1,Kv];exact .mk ((Ext.refl H).push _).next ⟨hg [15],(Ext.refl H).push _⟩
 | false=>
  simp only[Qb,simprocAttr,h1];cases h2:m==2 with
  | true=>
   simp only[Qb,simprocAttr,h2,Kv];exact .mk ((Ext.refl H).push _).next ⟨hg [15,56],(Ext.refl H).push _⟩
  | false=>
   simp only[Qb,simprocAttr,h2];cases h3:m==3 with
   | true=>
    simp only[Qb,simprocAttr,h3,Kv];exact .mk ((Ext.refl H).push _).next ⟨hg [15,58],(Ext.refl H).push _⟩
   | false=>
    simp only[Qb,simprocAttr,h3,Kv];exact .mk (Lb _) ⟨.inl ⟨rfl,rfl,rfl⟩,.refl _⟩
def Qd7 (w r x b:Int):Int:=w * 8+r * 4+x * 2+b
def Quz:List (Int×Int×Int×Int):=([0,1]:List Int).flatMap λw=>([0,1]:List Int).flatMap λr=>([0,1]:List Int).flatMap λx=>([0,1]:List Int).map λb=>(w,r,x,b)
theorem QBX:(Quz.all λp=>isW (.int .i64 (Qd7 p.1 p.2.1 p.2.2.1 p.2.2.2)) ((run prog noK 200 5 10).fn 359 [.int .i64 p.1,.int .i64 p.2.1,.int .i64 p.2.2.1,.int .i64 p.2.2.2] (H0 prog)))=true:=by kernel_rfl
theorem QBY (w r x b:Int)(hw:0<=w∧w<2)(hr:0<=r∧r<2)(hx:0<=x∧x<2)(hb:0<=b∧b<2)(H:Qa):Qe prog 359 [.int .i64 w,.int .i64 r,.int .i64 x,.int .i64 b] H λu H'=>u=.int .i64 (Qd7 w r x b)∧H'=H:=by
 have m2:∀n:Int,0<=n∧n<2->n∈([0,1]:List Int):=λn hn=>by
  simp only[LK,Ns,NN];omega
 have hm:(w,r,x,b)∈Quz:=by
  unfold Quz;rw[NF];refine⟨w,m2 w hw,NF.2 ⟨r,m2 r hr,NF.2 ⟨x,m2 x hx,N4.2 ⟨b,m2 b hb,rfl⟩⟩⟩⟩
 exact Qsz (by kernel_rfl) rfl rfl (Li.1 QBX _ hm) H
def Qi2 (f:Fm)(l:List Ar)(s:Int):Int:=if 0<=Qn f.slots s then We ((l[(Qn f.slots s).toNat]?.getD Wc).r) else 0
theorem QAI (x:Int):∀ (l:List Int) (k:Nat),QdK l x k<k+l.length
 | [],k=>by show(-1:Int)<_;simp;omega
 | y::l,k=>by
  unfold QdK;split
  ·simp;omega
  ·have:=QAI x l (k+1);simp at this ⊢;omega
theorem QpL (l:List Int)(x:Int):Qn l x<l.length:=by
 have:=QAI x l 0;simpa[Qn] using this
theorem QeU {l:List Ar}{i:Nat}{a:Ar}(h:l[i]? = some a):((Qi l).drop (i * 11+1)).take 2=[.int .i64 a.r.c,.int .i64 a.r.n]:=by
 have h1:=WI l i a h;have h2:(((Qi l).drop (i * 11)).take 11).drop 1=a.cells.drop 1:=by rw[h1]
 rw[<- Rc];have h3:((((Qi l).drop (i * 11)).drop 1).take 2)=((((Qi l).drop (i * 11)).take 11).drop 1).take 2:=by
  rw[List.drop_take,DE];rfl
 rw[h3,h2];rfl
theorem Qml (x:Lf)(op:Int)(va:Value)(l:List Ar)(s:Int)(H:Qa)(hx:x.At H)(hv:Qv H va l)(hl:l.length<=1000)(hn:x.f.slots.length=l.length):Qe prog 356 [.agg x.cells.toArray,.agg #[.int .i64 op,va],.int .i64 s] H λu H'=>u=.int .i64 (Qi2 x.f l s)∧Ext H H':=by
 refine Qst λhw=>?_;have ex:(Value.agg x.cells.toArray).cells.toList=x.cells:=rfl;have e10:x.cells.take 10=x.cells:=rfl;have l10:10<=x.cells.length:=Lb _;obtain⟨a0,cap,rfl,h1⟩:=hv;have hxx:Ext H (H.push (.cells x.cells 45 false)):=(Ext.refl H).push _;simp only[Qkr,ex,KG,simprocAttr];generalize hH1:Qa.push H _=H1;have g1:H1.get H.next=some (.cells x.cells 45 false):=by rw[<- hH1,Qd,Lc rfl]
 have hx1:Ext H H1:=by rw[<- hH1];exact hxx
 have hn1:H1.next=H.next+1:=by rw[<- hH1];rfl
 have hw1:H1.Wf:=by rw[<- hH1];exact hw.push _
 clear hH1 hxx;simp only[Qb,simprocAttr];generalize hH2:Qa.push H1 _=H2;have hx2:Ext H H2:=by rw[<- hH2];exact hx1.push _
 have g2:H2.get H.next=some (.cells x.cells 45 false):=by rw[<- hH2,Qd,Le (by omega)];exact g1
 have g2i:H2.get H1.next=some (.cells [.int .i64 op,.slice a0 l.length cap] 24 false):=by rw[<- hH2,Qd,Lc rfl]
 have hn2:H2.next=H1.next+1:=by rw[<- hH2];rfl
 clear hH2;have nz:¬H.next=H1.next:=by omega
 simp only[Qb,simprocAttr,nz,LN,g1,Lw,e10];refine⟨l10,?_⟩;refine(Wt x s H2 (hx.ext hw hx2)).thenW ?_;rintro _ _ hn3 hw3 ⟨rfl,k,rfl⟩;simp only[Ql]at hn3;have hx3:=hx2.up hn3;have g3i:(H2.up k).get H1.next=some (.cells [.int .i64 op,.slice a0 l.length cap] 24 false):=by rw[Y0];exact g2i
 generalize H2.up k=H3 at *;have hlt:=QpL x.f.slots s;simp only[Qb,simprocAttr];unfold Qi2;refine Qf (λh=>?_) (λh=>?_)
 ·have h0:0<=Qn x.f.slots s:=Lg h;rw[Lc h0];obtain⟨i,hi⟩:∃i:Nat,Qn x.f.slots s=i:=⟨(Qn x.f.slots s).toNat,by omega⟩;rw[hi]at hlt ⊢;have hil:i<l.length:=by omega
  obtain⟨a,ha⟩:∃a,l[i]? = some a:=⟨_,La hil⟩;obtain⟨b,e,ro,rfl,hgb0⟩:=h1 (by omega);have hgb:H3.get b=some (.cells (Qi l) e ro):=by rw[hx3.get b (hw.lt hgb0)];exact hgb0
  have hrg:=QeU ha;have hle:i * 11+1+2<=(Qi l).length:=by rw[QJ];omega
  have d1:(0:Int)<=i∧(i:Int)<l.length:=by omega
  have d3:(i:Int).toNat=i:=by omega
  have hgd:(l[i]?.getD Wc).r=a.r:=by rw[ha];rfl
  have q:=QeT a.r H3;simp only[Rg.cells]at q;simp only[Qb,simprocAttr,g3i,d1,d3,hgb,hrg,hgd];refine⟨hle,?_⟩;refine q.thenW ?_;rintro _ _ hn4 hw4 ⟨rfl,k4,rfl⟩;simp only[Ql]at hn4;simp only[Qb,simprocAttr,Qi0];exact .mk (hx3.up hn4).next ⟨rfl,hx3.up hn4⟩
 ·rw[Le (by have:=Ll h;omega)];simp only[Qb,simprocAttr,Qi0];exact .mk hx3.next ⟨rfl,hx3⟩
def Qa5 (l:List Ar):Bool:=l.any λa=>a.k==1&&Qnc a.r
def Qhc (l:List Ar):Bool:=l.any λa=>a.k==1&&Qsy a.r
def chF (bits:Int)(l:List Ar):List Int:=if(decide (0<bits)||Qa5 l)=true then(if Qhc l=true then[] else[bits]) else if Qhc l=true then[-1] else[-1,0]
theorem QpM (op bits:Int)(va:Value)(l:List Ar)(H:Qa)(hv:Qv H va l)(hl:l.length<=1000):Qe prog 358 [.agg #[.int .i64 op,va],.int .i64 bits] H λv H'=>Gx 1 3 H H' v (chF bits l).length (ints (chF bits l))∧Ext H H':=by
 refine QoB λhw=>?_;obtain⟨a0,cap,rfl,h1⟩:=hv;simp only[QfN,Qb,simprocAttr,Wj];generalize hH1:Qa.push H _=H1;have hx1:Ext H H1:=by rw[<- hH1];exact(Ext.refl H).push _
 have hw1:H1.Wf:=by rw[<- hH1];exact hw.push _
 clear hH1;refine Qo (λm A' H'=>∃i:Nat,i<=l.length∧m=l.length - i∧H'.Wf∧Ext H H'∧A' 1=.int .i64 bits∧A' 5=.bool (decide (0<bits)||Qa5 (l.take i))∧A' 6=.bool (Qhc (l.take i))∧A' 12=.slice a0 l.length cap∧A' 13=.int .i64 l.length∧A' 14=.int .i64 i) l.length ?_ ?_
 ·refine⟨0,L7 _,by omega,hw1,hx1,?_,?_,?_,?_,?_,?_⟩
  all_goals simp only[Qg,simprocAttr]
  all_goals simp[Qa5,Qhc]
 ·rintro m A' H' ⟨i,hi,rfl,hw',hx,r1,r5,r6,r12,r13,r14⟩;simp only[QdQ,Qb,simprocAttr,r13,r14];refine Qf (λh2=>?_) (λh2=>?_)
  ·have h2:i<l.length:=by have:=Lg h2;omega
   obtain⟨a,ha⟩:∃a,l[i]? = some a:=⟨_,La h2⟩;obtain⟨b,e,ro,rfl,hgb0⟩:=h1 (by omega);have hgb:H'.get b=some (.cells (Qi l) e ro):=by rw[hx.get b (hw.lt hgb0)];exact hgb0
   have htk:=WI l i a ha;have hle:i * 11+11<=(Qi l).length:=by rw[QJ];omega
   have d1:(0:Int)<=i∧(i:Int)<l.length:=by omega
   have d3:(i:Int).toNat=i:=by omega
   have ei:IntKind.i64.wrap ((i:Int)+1)=((i+1:Nat):Int):=by rw[w64 (by unfold I64;omega)];omega
   have htl:l.take (i+1)=l.take i++[a]:=by rw[Nv,ha];rfl
   have hN:Qa5 (l.take (i+1))=(Qa5 (l.take i)||(a.k==1&&Qnc a.r)):=by unfold Qa5;rw[htl,Rz];simp
   have hB:Qhc (l.take (i+1))=(Qhc (l.take i)||(a.k==1&&Qsy a.r)):=by unfold Qhc;rw[htl,Rz];simp
   have q1:=Qxn a.r;have q2:=Qzp a.r;obtain⟨ak,⟨rc,rn⟩,⟨⟨bc,bn⟩,⟨ic,nn⟩,sc,d,sz⟩,n⟩:=a;simp only[Rg.cells]at q1 q2;simp only[Ar.cells]at htk;simp only at hN hB;generalize Qa5 (l.take i)=N at *;generalize Qhc (l.take i)=B at *;simp only[QdP,Qb,simprocAttr,r5,r6,r12,r14,d1,d3,hgb,htk];refine⟨hle,?_⟩;generalize hH2:(Qa.push H' _).set _ _=H2;have hx2:Ext H H2:=by rw[<- hH2];exact(hx.push _).set (by have:=hx.next;omega) _
   have hw2:H2.Wf:=by rw[<- hH2];exact(hw'.push _).set (b0:=.cells [.int .i64 0,.int .i64 0,.int .i64 0,.int .i64 0,.int .i64 0,.int .i64 0,.int .i64 0,.int .i64 0,.int .i64 0,.int .i64 0,.int .i64 0] 58 false) (by rw[Qd,Lc rfl]) _
   have g2:H2.get H'.next=some (.cells [.int .i64 ak,.int .i64 rc,.int .i64 rn,.int .i64 bc,.int .i64 bn,.int .i64 ic,.int .i64 nn,.int .i64 sc,.int .i64 d,.int .i64 sz,.int .i64 n] 58 false):=by rw[<- hH2,Qq,Lc rfl]
   clear hH2
   -- the end of a round
   have hend:∀ (A2:Env) (H3:Qa),Ext H H3->H3.Wf->A2 1=.int .i64 bits->A2 5=.bool (decide (0<bits)||Qa5 (l.take (i+1)))->A2 6=.bool (Qhc (l.take (i+1)))->A2 12=.slice (some ⟨b,0,none⟩) l.length cap->A2 13=.int .i64 l.length->A2 14=.int .i64 ((i+1:Nat):Int)->Qqt (λm A' H'=>∃i:Nat,i<=l.length∧m=l.length - i∧H'.Wf∧Ext H H'∧A' 1=.int .i64 bits∧A' 5=.bool (decide (0<bits)||Qa5 (l.take i))∧A' 6=.bool (Qhc (l.take i))∧A' 12=.slice (some ⟨b,0,none⟩) l.length cap∧A' 13=.int .i64 l.length∧A' 14=.int .i64 i) (l.length - i) A2 H3:=
    λA2 H3 e1 e2 p1 p5 p6 p12 p13 p14=>⟨l.length - (i+1),by omega,i+1,by omega,rfl,e2,e1,p1,p5,p6,p12,p13,p14⟩
   rw[hN,hB]at hend;cases hk:ak==1 with
   | false=>
    rw[hk,NG,NI,NG,NI]at hend;simp only[Qb,simprocAttr,r14,ei];refine hend _ H2 hx2 hw2 ?_ ?_ ?_ ?_ ?_ ?_
    all_goals simp only[Qg,simprocAttr,r1,r5,r6,r12,r13]
   | true=>
    rw[hk,LJ,LJ,<- FP]at hend;obtain⟨N',eN⟩:∃N',N'=(decide (0<bits)||N):=⟨_,rfl⟩;rw[<- eN]at hend r5;cases N' with
    | true=>
     rw[N1]at hend;cases B with
     | true=>
      rw[N1]at hend;simp only[Jf,Qb,simprocAttr,r5,r6,r14,ei];refine hend _ H2 hx2 hw2 ?_ ?_ ?_ ?_ ?_ ?_
      all_goals simp only[Qg,simprocAttr,r1,r12,r13]
     | false=>
      rw[Nt]at hend;simp only[Jf,Qb,simprocAttr,r5,r6,r14,ei,g2];refine(q2 H2).thenW ?_;rintro _ _ hn4 hw4 ⟨rfl,k4,rfl⟩;simp only[Ql]at hn4;simp only[Qb,simprocAttr,r14,ei];refine hend _ _ (hx2.up hn4) hw4 ?_ ?_ ?_ ?_ ?_ ?_
      all_goals simp only[Qg,simprocAttr,r1,r12,r13]
    | false=>
     rw[Nt]at hend;simp only[Jf,Qb,simprocAttr,r5,r6,r14,ei,g2];refine(q1 H2).thenW ?_;rintro _ _ hn3 hw3 ⟨rfl,k3,rfl⟩;simp only[Ql]at hn3;have hx3:=hx2.up hn3;have g3:=g2;rw[<- Y0 H2 k3]at g3;generalize H2.up k3=H3 at *;cases B with
     | true=>
      rw[N1]at hend;simp only[Qb,simprocAttr,r6,r14,ei];refine hend _ H3 hx3 hw3 ?_ ?_ ?_ ?_ ?_ ?_
      all_goals simp only[Qg,simprocAttr,r1,r12,r13]
     | false=>
      rw[Nt]at hend;simp only[Qb,simprocAttr,r6,r14,ei,g3];refine(q2 H3).thenW ?_;rintro _ _ hn4 hw4 ⟨rfl,k4,rfl⟩;simp only[Ql]at hn4;simp only[Qb,simprocAttr,r14,ei];refine hend _ _ (hx3.up hn4) hw4 ?_ ?_ ?_ ?_ ?_ ?_
      all_goals simp only[Qg,simprocAttr,r1,r12,r13]
  ·have h2:i=l.length:=by have:=Ll h2;omega
   subst h2;rw[Nr]at r5 r6;have hb1:∀z:Int,Gx 1 3 H (H'.push (.cells [.int .i64 z] 3 false)) (.slice (some ⟨H'.next,0,none⟩) 1 1) 1 (ints [z]):=λz=>.inr ⟨_,_,rfl,hx.next,by rw[Qd,Lc rfl];rfl,rfl,.inl rfl⟩;have hb2:Gx 1 3 H (H'.push (.cells [.int .i64 (-1),.int .i64 0] 3 false)) (.slice (some ⟨H'.next,0,none⟩) 2 2) 2 (ints [-1,0]):=.inr ⟨_,_,rfl,hx.next,by rw[Qd,Lc rfl];rfl,rfl,.inl rfl⟩;unfold chF;generalize (decide (0<bits)||Qa5 l)=N at *;generalize Qhc l=B at *;cases N<;>cases B<;>simp only[QdO,QdN,Qb,simprocAttr,r1,r5,r6,Qm4,N3,LN,LV]
   ·exact .mk (hx.push _).next ⟨hb2,hx.push _⟩
   ·exact .mk (hx.push _).next ⟨hb1 (-1),hx.push _⟩
   ·exact .mk (hx.push _).next ⟨hb1 bits,hx.push _⟩
   ·exact .mk hx.next ⟨.inl ⟨rfl,rfl,rfl⟩,hx⟩
structure FOk (f:Fm):Prop where
 pre:0<=f.pre∧f.pre<=5
 map:0<=f.map∧f.map<=3
 w:f.vex=false->f.w=0∨f.w=1
 vx:f.vex=true->f.map≠0∧(f.pre=0∨f.pre=1∨f.pre=2∨f.pre=4)∧(-1<=f.w∧f.w<=1)∧(f.l=0∨f.l=1)
def QoQ (f:Fm)(l:List Ar)(s:Int):Int:=if 0<=Qn f.slots s then((l[(Qn f.slots s).toNat]?.getD Wc).r).n else 0
def hB (f:Fm)(l:List Ar)(h:Int):Int:=if 0<=Qn f.slots 4 then Qi2 f l 4 else h
def QvK (w:Int):Int:=if 0>w then 0 else w
def vxF (f:Fm)(l:List Ar)(x h:Int):Vx:=⟨Qi2 f l 1,x,hB f l h,f.map,QvK f.w,QoQ f l 3,f.l,f.pre⟩
def QeZ (f:Fm)(l:List Ar)(x h:Int):List (List Int):=
 if f.vex=true then Qq8 (vxF f l x h) (f.w==-1)
 else(chF (Qd7 f.w (Qi2 f l 1) x (hB f l h)) l).map λn=>JT f.pre n++Kr f.map
theorem QoR (f:Fm)(l:List Ar)(s:Int):0<=Qi2 f l s∧Qi2 f l s<2:=by
 unfold Qi2;split
 ·exact Qia _
 ·omega
section
variable {x:Lf} {op:Int} {va:Value} {l:List Ar} {H:Qa}
abbrev KH (H:Qa)(W:List (List Int)):Env->Qa->Prop:=Rt prog Tryz.f254 H λv H'=>Zq 27 H H' v W∧Ext H H'
structure HdF (H H':Qa) (x:Lf) (op:Int) (va:Value) (A:Env):Prop where
 xt:Ext H H'
 w:H'.Wf
 g3:H'.get H.next=some (.cells x.cells 45 false)
 g4:H'.get (H.next+1)=some (.cells [.int .i64 op,va] 24 false)
 lt:H.next+2<=H'.next
 r3:A 3=.pointer (some ⟨H.next,0,none⟩)
 r4:A 4=.pointer (some ⟨H.next+1,0,none⟩)
theorem HdF.go {H' H'':Qa}{A B:Env}(h:HdF H H' x op va A)(hx:Ext H' H'')(hw:H''.Wf)(e3:B 3=A 3)(e4:B 4=A 4):HdF H H'' x op va B:=
 ⟨h.xt.trans hx,hw,by rw[hx.get _ (by have:=h.lt;omega)];exact h.g3,by rw[hx.get _ (by have:=h.lt;omega)];exact h.g4,by have:=h.lt;have:=hx.next;omega,e3.trans h.r3,e4.trans h.r4⟩
theorem QJK (hf:FOk x.f)(hv:x.f.vex=false)(hw:H.Wf)(hx:x.At H)(ha:Qv H va l)(hva:∀n,H.next<=n->Qh n 6 (.agg #[.int .i64 op,va])=true)(hl:l.length<=1000){r xx b:Int}(hr:0<=r∧r<2)(hxx:0<=xx∧xx<2)(hb:0<=b∧b<2){W:List (List Int)}(eW:W=(chF (Qd7 x.f.w r xx b) l).map λn=>JT x.f.pre n++Kr x.f.map){A:Env}{H1:Qa}(hF:HdF H H1 x op va A)(r7:A 7=.int .i64 r)(r8:A 8=.int .i64 xx)(r9:A 9=.int .i64 b):
  Qm prog QaX ⟨KH H W,WJ⟩ (KH H W) A H1:=by
 obtain⟨a0,cap,rfl,ha1⟩:=id ha;have hF0:=hF;obtain⟨hx1,hw1,g3,g4,hlt,r3,r4⟩:=hF;have e7:x.cells[7]? = some (.int .i64 x.f.w):=rfl;have hwv:=hf.w hv;simp only[QaX,Qb,simprocAttr,r3,r4,r7,r8,r9,g3,g4,e7];have hnx:=hx1.next;refine⟨hva _ hnx,?_⟩;refine(QBY x.f.w r xx b (by omega) hr hxx hb H1).thenW ?_;rintro _ H1 _ _ ⟨rfl,rfl⟩;simp only[Qb,simprocAttr];refine⟨λ_ _=>rfl,?_⟩;refine(QpM op (Qd7 x.f.w r xx b) _ l H1 (ha.ext hw hx1) hl).thenW ?_;rintro v2 H2 _ hw2 ⟨hg2,hx2⟩;have hbn:0<=Qd7 x.f.w r xx b∧Qd7 x.f.w r xx b<=15:=by unfold Qd7;omega
 have hch:∀n∈chF (Qd7 x.f.w r xx b) l,-1<=n∧n<=15:=by
  intro n hn;unfold chF at hn;split at hn
  ·split at hn
   ·cases hn
   ·simp at hn;omega
  ·split at hn
   ·simp at hn;omega
   ·simp at hn;omega
 have hcl:(chF (Qd7 x.f.w r xx b) l).length<=2:=by
  unfold chF;split
  ·split<;>simp
  ·split<;>simp
 generalize chF (Qd7 x.f.w r xx b) l=C at *;have hsl:=hg2.sl;obtain⟨av,cv,rfl,hav⟩:=hsl;simp only[Qb,simprocAttr,Wj];have e3:x.cells[3]? = some (.int .i64 x.f.pre):=rfl;have e4:x.cells[4]? = some (.int .i64 x.f.map):=rfl;have hF2:∀B:Env,B 3=A 3->B 4=A 4->HdF H H2 x op (.slice a0 l.length cap) B:=λB h3 h4=>hF0.go hx2 hw2 h3 h4;have hx12:=hx1.trans hx2;have hn12:=hx12.next;refine Qo (λm A' H'=>∃ (i:Nat) (v:Value),i<=C.length∧m=C.length - i∧Ext H2 H'∧Zq 27 H2 H' v ((C.take i).map λn=>JT x.f.pre n++Kr x.f.map)∧H'.Wf∧A' 3=.pointer (some ⟨H.next,0,none⟩)∧A' 14=v∧A' 77=.slice av C.length cv∧A' 78=.int .i64 C.length∧A' 79=.int .i64 i) C.length ?_ ?_
 ·refine⟨0,.slice none 0 0,L7 _,by omega,.refl _,Zq.nil (by decide) _ _,hw2,?_,?_,?_,?_,?_⟩
  all_goals simp only[Qg,simprocAttr,r3]
  all_goals rfl
 ·rintro m A' H' ⟨i,v,hi,rfl,hxa,hla,hwa,q3,q14,q77,q78,q79⟩;simp only[QfM,Qb,simprocAttr,q78,q79];refine Qf (λh2=>?_) (λh2=>?_)
  ·have h2:i<C.length:=by have:=Lg h2;omega
   obtain⟨n,hn⟩:∃n,C[i]? = some n:=⟨_,La h2⟩;have hnb:=hch n (Ln hn);obtain⟨b',e',ro',rfl,hgb0⟩:=hav (by omega);have hgb:H'.get b'=some (.cells (ints C) e' ro'):=by rw[hxa.get b' (hw2.lt hgb0)];exact hgb0
   have hcell:(ints C)[i]? = some (.int .i64 n):=by unfold ints;rw[LD,hn];rfl
   have d1:(0:Int)<=i∧(i:Int)<C.length:=by omega
   have d3:(i:Int).toNat=i:=by omega
   have ei:IntKind.i64.wrap ((i:Int)+1)=((i+1:Nat):Int):=by rw[w64 (by unfold I64;omega)];omega
   have ga3:H'.get H.next=some (.cells x.cells 45 false):=by rw[(hx2.trans hxa).get _ (by omega)];exact g3
   simp only[QfL,Qb,simprocAttr,q3,q14,q77,q79,d1,d3,hgb,hcell,ga3,e3];refine(QBU x.f.pre n hf.pre hnb H').thenW ?_;rintro _ H3 _ hw3 ⟨v3,rfl,hg3',hx3⟩;have gb3:H3.get H.next=some (.cells x.cells 45 false):=by rw[hx3.get _ (hwa.lt ga3)];exact ga3
   simp only[Qb,simprocAttr,LO,L8,q3,q14,gb3,e4];refine(Qra x.f.map H3).thenW ?_;rintro v4 H4 _ hw4 ⟨hg4',hx4⟩;have hle5:(Kr x.f.map).length<=2:=by unfold Kr;repeat' (split<;>try simp)
   have hle6:(JT x.f.pre n).length<=4:=by
    unfold JT QFi;simp only[Lh];have h1:(if x.f.pre % 2=1 then([102]:List Int) else[]).length<=1:=by split<;>simp
    have h2:(if x.f.pre / 2 % 2=1 then([242]:List Int) else[]).length<=1:=by split<;>simp
    have h3:(if x.f.pre / 4 % 2=1 then([243]:List Int) else[]).length<=1:=by split<;>simp
    have h4:(if 0<=n then([64+n]:List Int) else[]).length<=1:=by split<;>simp
    omega
   simp only[Qb,simprocAttr];refine Zp (hg3'.go hw3 hx4) (hx3.trans hx4) hw4 hg4'.src (ZJ _) (by rw[Xd,NH]) (by omega) (by omega) ?_;intro v5 H5 hg5 hk5;obtain⟨a5,c5,rfl⟩:=hg5.slc;simp only[Qb,simprocAttr];have hx6:=(Ext.refl H5).push (.cells [.slice a5 ((JT x.f.pre n).length+(Kr x.f.map).length) c5] 27 false);have hxa6:=hk5.x.trans hx6;have hnb5:=hxa.next;have hg5':Gx 1 5 H2 (H5.push (.cells [.slice a5 ((JT x.f.pre n).length+(Kr x.f.map).length) c5] 27 false)) (.slice a5 ((JT x.f.pre n).length+(Kr x.f.map).length) c5) (JT x.f.pre n++Kr x.f.map).length (bys (JT x.f.pre n++Kr x.f.map)):=by
    rw[Lh,Je];exact(hg5.go hk5.w hx6).down hnb5
   have hct:((C.take i).map λn=>JT x.f.pre n++Kr x.f.map).length<=2:=by rw[Nn,Sb];omega
   refine QkB (hla.go hwa hxa6) (hxa.trans hxa6) (hk5.w.push _) hg5' (QfW H5 _) (by omega) (by omega) ?_;intro v7 H7 hv7 hk7;simp only[Qb,simprocAttr,q79,ei];refine⟨C.length - (i+1),by omega,i+1,v7,by omega,rfl,hk7.x,?_,hk7.w,?_,?_,?_,?_,?_⟩
   ·have:(C.take (i+1)).map (λn=>JT x.f.pre n++Kr x.f.map)=(C.take i).map (λn=>JT x.f.pre n++Kr x.f.map)++[JT x.f.pre n++Kr x.f.map]:=by
     rw[Nv,hn,N6];rfl
    rw[this];exact hv7
   all_goals simp only[Qg,simprocAttr,q3,q77,q78]
  ·have h2:i=C.length:=by have:=Ll h2;omega
   subst h2;rw[Nr]at hla;simp only[Qb,simprocAttr,q14,Qg7];have hxf:=hx12.trans hxa;exact .mk hxf.next ⟨by rw[eW];exact hla.down hn12,hxf⟩
theorem QkX {l:List Ar}{i:Nat}{a:Ar}(h:l[i]? = some a):(Qi l)[i * 11+1+1]? = some (.int .i64 a.r.n):=by
 have h1:=QeU h;have:=congrArg (·[1]?) h1;simp only[Nl,Nk]at this;simpa using this
theorem QJL (hw:H.Wf)(hx:x.At H)(ha:Qv H va l)(hl:l.length<=1000)(hn:x.f.slots.length=l.length){r xx b:Int}{y:Vx}(hy:y.Ok)(ey:y=⟨r,xx,b,x.f.map,QvK x.f.w,QoQ x.f l 3,x.f.l,x.f.pre⟩){W:List (List Int)}(eW:W=Qq8 y (x.f.w==-1)){A:Env}{H1:Qa}(hF:HdF H H1 x op va A)(r7:A 7=.int .i64 r)(r8:A 8=.int .i64 xx)(r9:A 9=.int .i64 b)(ks:Kp)(hks:ks=⟨KH H W,WJ⟩)(k:Env->Qa->Prop):
  Qm prog QaZ ks k A H1:=by
 subst hks;obtain⟨a0,cap,rfl,ha1⟩:=id ha;obtain⟨hx1,hw1,g3,g4,hlt,r3,r4⟩:=hF;have e3:x.cells[3]? = some (.int .i64 x.f.pre):=rfl;have e4:x.cells[4]? = some (.int .i64 x.f.map):=rfl;have e7:x.cells[7]? = some (.int .i64 x.f.w):=rfl;have e9:x.cells[9]? = some (.int .i64 x.f.l):=rfl;have e10:x.cells.take 10=x.cells:=rfl;have l10:10<=x.cells.length:=Lb _;have hidx:=QpL x.f.slots 3;simp only[QaZ,Qb,simprocAttr,r3,r4,r7,r8,r9,g3,e3,e4,e7,e9];rw[QJ7 (ik:=.i64) (a:=x.f.w) (b:=0) (by simp only[Qg,simprocAttr]) (by simp only[Qg,simprocAttr])];simp only[Qb,simprocAttr,r3,r4,r7,r8,r9,g3,e3,e4,e7,e9];generalize hH2:(Qa.push H1 _).set _ _=H2;have hx2:Ext H1 H2:=by rw[<- hH2];exact((Ext.refl H1).push _).set (Lb _) _
 have hw2:H2.Wf:=by rw[<- hH2];exact(hw1.push _).set (b0:=.cells [.int .i64 0,.int .i64 0,.int .i64 0,.int .i64 0,.int .i64 0,.int .i64 0,.int .i64 0,.int .i64 0] 146 false) (by rw[Qd,Lc rfl]) _
 have g2:H2.get H1.next=some (.cells [.int .i64 r,.int .i64 xx,.int .i64 b,.int .i64 x.f.map,.int .i64 (QvK x.f.w),.int .i64 0,.int .i64 x.f.l,.int .i64 x.f.pre] 146 false):=by rw[<- hH2,Qq,Lc rfl];rfl
 have g23:H2.get H.next=some (.cells x.cells 45 false):=by rw[hx2.get _ (by omega)];exact g3
 clear hH2;have nz:¬H.next=H1.next:=by omega
 simp only[Qb,simprocAttr,nz,LN,Lw,e10];refine⟨l10,?_⟩;refine(Wt x 3 H2 (hx.ext hw (hx1.trans hx2))).thenW ?_;rintro _ _ hn3 hw3 ⟨rfl,k3,rfl⟩;simp only[Ql]at hn3;have hx3:=(hx1.trans hx2).up hn3;have hlt2:=hw2.lt g2;have g3v:=g2;have g33:=g23;rw[<- Y0 H2 k3]at g3v g33;have g34:(H2.up k3).get (H.next+1)=some (.cells [.int .i64 op,.slice a0 l.length cap] 24 false):=by rw[Y0,hx2.get _ (by omega)];exact g4
 have hlt3:H1.next<(H2.up k3).next:=by rw[Ql];omega
 generalize H2.up k3=H3 at *
 -- the end: the VEX stands in its block
 have hend:∀ (A2:Env) (H4:Qa),Ext H H4->H4.Wf->H4.get H1.next=some (.cells y.cells 146 false)->H4.get H.next=some (.cells x.cells 45 false)->A2 3=.pointer (some ⟨H.next,0,none⟩)->A2 10=.pointer (some ⟨H1.next,0,none⟩)->Qm prog QaY ⟨KH H W,WJ⟩ k A2 H4:=by
  intro A2 H4 hx4 hw4 gv gf p3 p10;have qa:=QBV hy (x.f.w==-1) H4;have ev8:y.cells.take 8=y.cells:=rfl;have lv8:8<=y.cells.length:=Lb _;simp only[QaY,Qb,simprocAttr,p3,p10,gv,gf,Lw,ev8,e7];refine⟨lv8,?_⟩;refine qa.thenW ?_;rintro _ H5 _ hw5 ⟨v,rfl,hv,hx5⟩;simp only[Qb,simprocAttr,LO,L8,Qg7];have hx6:=hx4.trans hx5;exact .mk hx6.next ⟨by rw[eW];exact hv.down hx4.next,hx6⟩
 simp only[Qb,simprocAttr];refine Qf (λh=>?_) (λh=>?_)
 ·have h0:0<=Qn x.f.slots 3:=Lg h;have er:QoQ x.f l 3=((l[(Qn x.f.slots 3).toNat]?.getD Wc).r).n:=by unfold QoQ;rw[Lc h0]
  obtain⟨i,hi⟩:∃i:Nat,Qn x.f.slots 3=i:=⟨(Qn x.f.slots 3).toNat,by omega⟩;rw[hi]at hidx er ⊢;have hil:i<l.length:=by omega
  obtain⟨a,hai⟩:∃a,l[i]? = some a:=⟨_,La hil⟩;obtain⟨b',e,ro,rfl,hgb0⟩:=ha1 (by omega);have hgb:H3.get b'=some (.cells (Qi l) e ro):=by rw[hx3.get b' (hw.lt hgb0)];exact hgb0
  have hrg:=QkX hai;have d1:(0:Int)<=i∧(i:Int)<l.length:=by omega
  have d3:(i:Int).toNat=i:=by omega
  have er2:QoQ x.f l 3=a.r.n:=by rw[er,d3,hai];rfl
  have ec:y.cells=[.int .i64 r,.int .i64 xx,.int .i64 b,.int .i64 x.f.map,.int .i64 (QvK x.f.w),.int .i64 a.r.n,.int .i64 x.f.l,.int .i64 x.f.pre]:=by rw[ey,er2];rfl
  simp only[Qb,simprocAttr,r3,r4,g34,d1,d3,hgb,hrg,g3v];refine hend _ _ (hx3.set (by omega) _) (hw3.set g3v _) ?_ ?_ ?_ ?_
  ·rw[Qq,Lc rfl,ec]
  ·rw[Qq,Le nz];exact g33
  all_goals simp only[Qg,simprocAttr,r3]
 ·have h0:¬0<=Qn x.f.slots 3:=Ll h;have er:QoQ x.f l 3=0:=by unfold QoQ;rw[Le h0]
  have ec:y.cells=[.int .i64 r,.int .i64 xx,.int .i64 b,.int .i64 x.f.map,.int .i64 (QvK x.f.w),.int .i64 0,.int .i64 x.f.l,.int .i64 x.f.pre]:=by rw[ey,er];rfl
  simp only[Qb,simprocAttr];refine hend _ H3 hx3 hw3 (by rw[ec];exact g3v) g33 ?_ ?_
  all_goals simp only[Qg,simprocAttr,r3]
end
theorem QsK {x:Lf}{op:Int}{va:Value}{l:List Ar}(hf:FOk x.f)(H:Qa)(hx:x.At H)(ha:Qv H va l)(hva:∀n,H.next<=n->Qh n 6 (.agg #[.int .i64 op,va])=true)(hl:l.length<=1000)(hn:x.f.slots.length=l.length){lx lh:Int}(hlx:0<=lx∧lx<2)(hlh:0<=lh∧lh<2)(hy:x.f.vex=true->(vxF x.f l lx lh).Ok){sa:Option Addr}{sn sc:Nat}:
  Qe prog 254 [.agg x.cells.toArray,.agg #[.int .i64 op,va],.agg #[.slice sa sn sc,.int .i64 lx,.int .i64 lh]] H λv H'=>Zq 27 H H' v (QeZ x.f l lx lh)∧Ext H H':=by
 refine Qq5 λhw=>?_;have ex:(Value.agg x.cells.toArray).cells.toList=x.cells:=rfl;have e10:x.cells.take 10=x.cells:=rfl;have e8:x.cells[8]? = some (.bool x.f.vex):=rfl;have l10:10<=x.cells.length:=Lb _;obtain⟨W,eW⟩:∃W,W=QeZ x.f l lx lh:=⟨_,rfl⟩;rw[<- eW];obtain⟨a0,cap,rfl⟩:=Qu ha;simp only[QiY,ex,KG,simprocAttr];generalize hH1:Qa.push H (.cells x.cells 45 false)=H1;have g1:H1.get H.next=some (.cells x.cells 45 false):=by rw[<- hH1,Qd,Lc rfl]
 have hx1:Ext H H1:=by rw[<- hH1];exact(Ext.refl H).push _
 have hn1:H1.next=H.next+1:=by rw[<- hH1];rfl
 have hw1:H1.Wf:=by rw[<- hH1];exact hw.push _
 clear hH1;simp only[Qb,simprocAttr,hn1];generalize hH2:Qa.push (Qa.push H1 _) _=H2;have hx2:Ext H H2:=by rw[<- hH2];exact(hx1.push _).push _
 have hw2:H2.Wf:=by rw[<- hH2];exact(hw1.push _).push _
 have g23:H2.get H.next=some (.cells x.cells 45 false):=by rw[<- hH2,Qd,Le (by rw[Qc];omega),Qd,Le (by omega)];exact g1
 have g24:H2.get (H.next+1)=some (.cells [.int .i64 op,.slice a0 l.length cap] 24 false):=by rw[<- hH2,Qd,Le (by rw[Qc];omega),Qd,Lc (by omega)]
 have g25:H2.get (H.next+2)=some (.cells [.slice sa sn sc,.int .i64 lx,.int .i64 lh] 120 false):=by rw[<- hH2,Qd,Lc (by rw[Qc];omega)]
 have hn2:H2.next=H.next+3:=by rw[<- hH2,Qc,Qc,hn1]
 clear hH2;have nz:¬H.next=H.next+1+1:=by omega
 have nz2:¬H.next+1=H.next+1+1:=by omega
 have hb1:=QoR x.f l 1;have hb4:=QoR x.f l 4;simp only[Qb,simprocAttr,nz,nz2,LN,g1,g23,g24,g25,Lw,e10];refine⟨l10,⟨by omega,by omega⟩,?_⟩;refine(Qml x op _ l 1 H2 (hx.ext hw hx2) (ha.ext hw hx2) hl hn).thenW ?_;rintro _ H3 hn3 hw3 ⟨rfl,hx3⟩;have hx13:=hx2.trans hx3;have g33:=(hx3.get H.next (by omega)).trans g23;have g34:=(hx3.get (H.next+1) (by omega)).trans g24;have g35:=(hx3.get (H.next+2) (by omega)).trans g25;have hx3e:=hx3.eqB;simp only[Qb,simprocAttr,g33,g34,g35,Lw,e10];refine⟨hx3e,by simp[Qh,Ab.plain],by simp[Qh,Ab.plain],l10,?_⟩;refine(Wt x 4 H3 (hx.ext hw hx13)).thenW ?_;rintro _ _ hn4 hw4 ⟨rfl,k4,rfl⟩;simp only[Ql]at hn4;have hx4:=hx13.up hn4;have g43:=g33;have g44:=g34;rw[<- Y0 H3 k4]at g43 g44;have hn4':H.next+3<=(H3.up k4).next:=by rw[Ql];have:=hx3.next;omega
 generalize H3.up k4=H4 at *
 -- the last part,with the bit that the opcode's register may give
 have hend:∀ (A:Env) (H5:Qa) (b:Int),Ext H4 H5->H5.Wf->b=hB x.f l lh->A 3=.pointer (some ⟨H.next,0,none⟩)->A 4=.pointer (some ⟨H.next+1,0,none⟩)->A 7=.int .i64 (Qi2 x.f l 1)->A 8=.int .i64 lx->A 9=.int .i64 b->Qm prog Qa0 ⟨KH H W,WJ⟩ (KH H W) A H5:=by
  intro A H5 b hx5 hw5 eb p3 p4 p7 p8 p9;subst eb;have hF:HdF H H5 x op (.slice a0 l.length cap) A:=⟨hx4.trans hx5,hw5,by rw[hx5.get _ (by omega)];exact g43,by rw[hx5.get _ (by omega)];exact g44,by have:=hx5.next;omega,p3,p4⟩;have hbb:0<=hB x.f l lh∧hB x.f l lh<2:=by unfold hB;split;exact hb4;exact hlh
  simp only[Qa0,Qb,simprocAttr,p3,hF.g3,e8];cases hv:x.f.vex with
  | true=>
   simp only[KG,simprocAttr];refine QJL (y:=vxF x.f l lx lh) hw hx ha hl hn (hy hv) rfl (by rw[eW];unfold QeZ;rw[Lc hv]) (hF.go (.refl _) hw5 ?_ ?_) ?_ ?_ ?_ _ rfl _
   all_goals simp only[Qg,simprocAttr,p7,p8,p9]
  | false=>
   simp only[KG,simprocAttr];refine QJK hf hv hw hx ha hva hl hb1 hlx hbb (by rw[eW];unfold QeZ;rw[Le (by simp[hv])]) (hF.go (.refl _) hw5 ?_ ?_) ?_ ?_ ?_
   all_goals simp only[Qg,simprocAttr,p7,p8,p9]
 simp only[Qb,simprocAttr];refine Qf (λh=>?_) (λh=>?_)
 ·have h0:0<=Qn x.f.slots 4:=Lg h;simp only[Qb,simprocAttr,g43,g44,Lw,e10];refine⟨l10,?_⟩;refine(Qml x op _ l 4 H4 (hx.ext hw hx4) (ha.ext hw hx4) hl hn).thenW ?_;rintro _ H5 hn5 hw5 ⟨rfl,hx5⟩;simp only[J6,Yk,YJ,Zb,Qj4];refine hend _ H5 _ hx5 hw5 (by unfold hB;rw[Lc h0]) ?_ ?_ ?_ ?_ ?_
  all_goals simp only[Qg,simprocAttr]
 ·have h0:¬0<=Qn x.f.slots 4:=Ll h;simp only[QhQ,Qem];refine hend _ H4 _ (.refl _) hw4 (by unfold hB;rw[Le h0]) ?_ ?_ ?_ ?_ ?_
  all_goals simp only[Qg,simprocAttr]
theorem Gr (f:Fn)(a b:Array Value):(Value.func f a b).cells.toList=[.func f a b]:=Nu rfl rfl
theorem J3 (f:Fn)(a b:Array Value):(Value.func f a b).oneCell'=true:=Nu rfl rfl
theorem Qlu {l:Nat}{args:List Value}{H:Qa}{k k':Value->Qa->Prop}(h:YQ prog l args H k)(hk:∀v H',H.next<=H'.next->H'.Wf->k v H'->k' v H'):YQ prog l args H k':=by
 intro hw;obtain⟨v,H',h1,h2,h3,h4⟩:=h hw;exact⟨v,H',h1,h2,h3,hk v H' h2 h3 h4⟩
structure CK (Own:Qa->Nat->Prop) (H H':Qa):Prop where
 next:H.next<=H'.next
 w:H'.Wf
 keep:∀id,id<H.next->¬Own H id->H'.get id=H.get id
 own:∀id,Own H' id->Own H id∨H.next<=id
theorem CK.trans {Own:Qa->Nat->Prop}{H H' H'':Qa}(h:CK Own H H')(h':CK Own H' H''):CK Own H H'':=by
 have n1:=h.next;have n2:=h'.next;refine⟨by omega,h'.w,λid h1 h2=>?_,λid h1=>?_⟩
 ·rw[h'.keep id (by omega) (λh3=>by rcases h.own id h3 with h4 | h4;exact h2 h4;omega),h.keep id h1 h2]
 ·rcases h'.own id h1 with h2 | h2
  ·exact h.own id h2
  ·exact .inr (by omega)
structure Cns {α:Type} (base:Nat) (l:Nat) (items:List α) (It:Qa->Qa->α->Value->Prop) (R:Nat->Qa->Prop) (Own:Qa->Nat->Prop):Prop where
 ext:∀j H H',R j H->H.Wf->Ext H H'->R j H'∧∀id,Own H' id->Own H id
 low:∀j H id,R j H->Own H id->id<H.next
 go:∀j w H0 H v,items[j]? = some w->R j H->R j H0->H0.Wf->It H0 H w v->base<=H0.next->Ext H0 H->(∀id,Own H id->Own H0 id)->YQ prog l [v] H λu H'=>u=.bool true∧R (j+1) H'∧CK Own H H'
theorem Cns.ck {α:Type}{base l:Nat}{items:List α}{It:Qa->Qa->α->Value->Prop}{R:Nat->Qa->Prop}{Own:Qa->Nat->Prop}(h:Cns base l items It R Own){j:Nat}{H H':Qa}(hR:R j H)(hw:H.Wf)(hx:Ext H H')(hw':H'.Wf):CK Own H H':=
 ⟨hx.next,hw',λid hid _=>hx.get id hid,λid hid=>.inl ((h.ext j H H' hR hw hx).2 id hid)⟩
def QFp (md:Nat)(m:Mm):Bool:=if md=0 then(m.d==0)&&!(Wg m.b==5) else if md=1 then QoJ m.d 8 else true
def QkY (md:Nat)(m:Mm):List Int:=if md=0 then[] else if md=1 then(Kq m.d 1).1 else(Kq m.d 4).1
def Zw (mid rm:Int)(sib:List Int)(m:Mm)(md:Nat):List Ld:=if QFp md m=true then[⟨[Qz md mid rm]++sib++QkY md m,We m.i,We m.b⟩] else[]
def YV (mid rm:Int)(sib:List Int)(m:Mm):List Ld:=(List.range 3).flatMap (Zw mid rm sib m)
def QoS:List Value:=[.func (.func 414) #[] #[],.func (.func 415) #[] #[],.func (.func 416) #[] #[],.func (.func 418) #[] #[],.func (.func 419) #[] #[],.func (.func 420) #[] #[]]
theorem Qrd (H:Qa):Qe prog 403 [] H λu H'=>u=.slice (some ⟨H.next,0,none⟩) 3 3∧H'=H.push (.cells QoS 320 false):=by
 refine QpK λhw=>?_;simp only[Qhb,Qb,simprocAttr,Gr,J3,Nat.reduceMul,QoH];exact .mk (by rw[Qc];omega) ⟨rfl,rfl⟩
theorem QHl (d lo:Int)(H:Qa):Qe prog 414 [.int .i64 d,.int .i64 lo] H λu H'=>u=.bool ((d==0)&&!(lo==5))∧H'=H:=by
 refine Qm5 λhw=>?_;simp only[QeN,Qb,simprocAttr];cases h:d==0<;>simp only[Qb,simprocAttr,h,QlF]
 all_goals exact .mk (Lb _) ⟨rfl,rfl⟩
theorem QHm (d lo:Int)(H:Qa):Qe prog 416 [.int .i64 d,.int .i64 lo] H λu H'=>u=.bool (QoJ d 8)∧H'=H:=by
 refine Qm7 λhw=>?_;simp only[QeP,Qb,simprocAttr];refine(QvD d 8 H).thenW ?_;rintro _ H _ _ ⟨rfl,rfl⟩;simp only[Qb,simprocAttr,QlH];exact .mk (Lb _) ⟨rfl,rfl⟩
theorem QHn (d lo:Int)(H:Qa):Qe prog 419 [.int .i64 d,.int .i64 lo] H λu H'=>u=.bool true∧H'=H:=by
 refine Qm9 λhw=>?_;simp only[QeR,Qb,simprocAttr,QlJ];exact .mk (Lb _) ⟨rfl,rfl⟩
theorem QHo (d:Int)(H:Qa):Qe prog 415 [.int .i64 d] H λv H'=>Gx 1 5 H H' v 0 []∧Ext H H':=by
 refine Qm6 λhw=>?_;simp only[QeO,Qb,simprocAttr,QlG];exact .mk (Lb _) ⟨.inl ⟨rfl,rfl,rfl⟩,.refl _⟩
theorem QHp (d:Int)(hd:I64 d)(H:Qa):Qe prog 418 [.int .i64 d] H λv H'=>Gx 1 5 H H' v (Kq d 1).1.length (bys (Kq d 1).1)∧Ext H H':=by
 refine Qm8 λhw=>?_;simp only[QeQ,Qb,simprocAttr];refine(QfV d 1 hd H).thenW ?_;rintro v H1 _ _ ⟨hv,hx⟩;simp only[Qb,simprocAttr,QlI];exact .mk hx.next ⟨hv,hx⟩
theorem QHq (d:Int)(hd:I64 d)(H:Qa):Qe prog 420 [.int .i64 d] H λv H'=>Gx 1 5 H H' v (Kq d 4).1.length (bys (Kq d 4).1)∧Ext H H':=by
 refine Qna λhw=>?_;simp only[QeS,Qb,simprocAttr];refine(QfV d 4 hd H).thenW ?_;rintro v H1 _ _ ⟨hv,hx⟩;simp only[Qb,simprocAttr,QlK];exact .mk hx.next ⟨hv,hx⟩
theorem QHr (md:Nat)(h:md<3)(m:Mm)(hd:I64 m.d):∃f g:FuncId,(QoS.drop (md * 2)).take 2=[.func (.func f) #[] #[],.func (.func g) #[] #[]]∧(∀H,Qe prog f [.int .i64 m.d,.int .i64 (Wg m.b)] H λu H'=>u=.bool (QFp md m)∧H'=H)∧(∀H,Qe prog g [.int .i64 m.d] H λv H'=>Gx 1 5 H H' v (QkY md m).length (bys (QkY md m))∧Ext H H'):=by
 rcases md with _ | _ | _ | md
 ·exact⟨_,_,rfl,QHl m.d (Wg m.b),QHo m.d⟩
 ·exact⟨_,_,rfl,QHm m.d (Wg m.b),QHp m.d hd⟩
 ·exact⟨_,_,rfl,QHn m.d (Wg m.b),QHq m.d hd⟩
 ·omega
theorem Qxy (md:Nat)(m:Mm):(QkY md m).length<=8:=by
 unfold QkY;split
 ·simp
 ·split
  ·exact QkA _ _ (by decide)
  ·exact QkA _ _ (by decide)
theorem QkZ (mid rm:Int)(sib:List Int)(m:Mm)(md:Nat):(List.range (md+1)).flatMap (Zw mid rm sib m)=(List.range md).flatMap (Zw mid rm sib m)++Zw mid rm sib m md:=by
 rw[R0,Bm];simp
theorem QsL {base l:Nat}{items:List Ld}{R:Nat->Qa->Prop}{Own:Qa->Nat->Prop}(hc:Cns base l items LdV R Own)(mid rm:Int)(hmid:0<=mid∧mid<8)(hrm:0<=rm∧rm<8){sib:List Int}(hsl:sib.length<=8){sv:Value}(m:Mm)(hd:I64 m.d)(j0:Nat){Hs H:Qa}(hbase:base<=H.next)(hR:R j0 H)(hs:Gx 1 5 Hs H sv sib.length (bys sib))(hso:∀id,inB sv id->¬Own H id)
  (hit:∀i w,(YV mid rm sib m)[i]? = some w->items[j0+i]? = some w):
  Qe prog 386 [.func (.yield l) #[] #[],.int .i64 mid,.int .i64 rm,sv,.agg m.cells.toArray] H λu H'=>u=.bool true∧R (j0+(YV mid rm sib m).length) H'∧CK Own H H':=by
 refine Qha λhw=>?_;have qx:=QHr;have hbs:sv=sv:=rfl;obtain⟨bc,bn⟩:∃bc:Value,bc=.agg m.cells.toArray:=⟨_,rfl⟩;have ex:(Value.agg m.cells.toArray).cells.toList=m.cells:=rfl;simp only[Qab,ex,KG,simprocAttr];have hx1:=(Ext.refl H).push (.cells m.cells 56 false);have hw1:=hw.push (.cells m.cells 56 false);have hg1:(H.push (.cells m.cells 56 false)).get H.next=some (.cells m.cells 56 false):=by rw[Qd,Lc rfl]
 generalize H.push (.cells m.cells 56 false)=H1 at *;refine(Qrd H1).thenW ?_;rintro _ Hb hnb hwb ⟨rfl,hHb⟩;have hxb:Ext H1 Hb:=by rw[hHb];exact(Ext.refl H1).push _
 have hgb:Hb.get H1.next=some (.cells QoS 320 false):=by rw[hHb,Qd,Lc rfl]
 have hg1b:Hb.get H.next=some (.cells m.cells 56 false):=by rw[hxb.get _ (hw1.lt hg1)];exact hg1
 clear hHb;have hxab:=hx1.trans hxb;obtain⟨hRb,hOb⟩:=hc.ext _ _ _ hR hw hxab;have hlow:=hc.low j0 H;have hsb:=hs.go hw hxab;simp only[KG,simprocAttr,Wj];refine Qo (λk A' H'=>∃md:Nat,md<=3∧k=3 - md∧R (j0+((List.range md).flatMap (Zw mid rm sib m)).length) H'∧CK Own Hb H'∧A' 0=.func (.yield l) #[] #[]∧A' 1=.int .i64 mid∧A' 2=.int .i64 rm∧A' 3=sv∧A' 9=.pointer (some ⟨H.next,0,none⟩)∧A' 14=.slice (some ⟨H1.next,0,none⟩) 3 3∧A' 15=.int .i64 3∧A' 16=.int .i64 md) 3 ?_ ?_
 ·refine⟨0,by omega,rfl,hRb,hc.ck hRb hwb (.refl _) hwb,?_,?_,?_,?_,?_,?_,?_,?_⟩
  all_goals simp only[Qg,simprocAttr]
  all_goals rfl
 ·rintro k A' Ha ⟨md,hmd,rfl,hRa,hka,r0,r1,r2,r3,r9,r14,r15,r16⟩;have hwa:=hka.w;have hna:=hka.next;have ho1:¬Own Hb H.next:=λh=>by have:=hlow _ hR (hOb _ h);omega
  have ho2:¬Own Hb H1.next:=λh=>by have:=hlow _ hR (hOb _ h);have:=hx1.next;omega
  have ga:Ha.get H.next=some (.cells m.cells 56 false):=by rw[hka.keep _ (hwb.lt hg1b) ho1];exact hg1b
  have gx:Ha.get H1.next=some (.cells QoS 320 false):=by rw[hka.keep _ (hwb.lt hgb) ho2];exact hgb
  simp only[Gw,Qb,simprocAttr,r15,r16];refine Qf (λh2=>?_) (λh2=>?_)
  ·have h2:md<3:=by have:=Lg h2;omega
   obtain⟨f,g,hfg,qf,qg⟩:=qx md h2 m hd;have d1:(0:Int)<=md∧(md:Int)<(3:Nat):=by omega
   have d3:(md:Int).toNat=md:=by omega
   have ei:IntKind.i64.wrap ((md:Int)+1)=((md+1:Nat):Int):=by rw[w64 (by unfold I64;omega)];omega
   have hle:md * 2+2<=QoS.length:=by show md * 2+2<=6;omega
   simp only[Gu,sxA,sxB,Nat.reduceBEq,Nat.reduceEqDiff,reduceCtorEq,mxA,mxB,Nat.reduceAdd,reduceIte,Nat.reduceLeDiff,splice,r0,r1,r2,r3,r9,r14,r15,r16,d1,d3,gx,hfg,Gr,J3];have hltb:=hwb.lt hg1b;have nz:¬H.next=Ha.next:=by omega
   have ga':=ga;simp only[Mm.cells]at ga';refine⟨hle,by simp[Qh,Ab.plain],?_⟩;simp only[Qb,simprocAttr,r9,nz,LN,ga'];generalize hH3:(Ha.push _).set Ha.next _=H3;have hx3:Ext Ha H3:=by rw[<- hH3];exact((Ext.refl Ha).push _).set (Lb _) _
   have hw3:H3.Wf:=by rw[<- hH3];exact(hwa.push _).set (b0:=.cells [.nilFunc,.nilFunc] 320 false) (by rw[Qd,Lc rfl]) _
   have g3e:H3.get Ha.next=some (.cells [.func (.func f) #[] #[],.func (.func g) #[] #[]] 320 false):=by rw[<- hH3,Qq,Lc rfl]
   clear hH3;have hlt3:=hw3.lt g3e;refine⟨by simp[Qh,Ab.plain],?_⟩;refine(QcB m.b H3).thenW ?_;rintro _ _ hn4 hw4 ⟨rfl,k,rfl⟩;simp only[Ql]at hn4;have hx4:=hx3.up hn4;simp only[Qb,simprocAttr,QcW];refine⟨((Ext.refl H3).up hn4).eqB,?_⟩;have g4e:(H3.up k).get Ha.next=some (.cells [.func (.func f) #[] #[],.func (.func g) #[] #[]] 320 false):=by rw[Y0];exact g3e
   generalize H3.up k=H4 at *;refine(qf H4).thenW ?_;rintro _ H4 _ _ ⟨rfl,rfl⟩;obtain⟨hR4,hO4⟩:=hc.ext _ _ _ hRa hwa hx4;have hk4:CK Own Hb H4:=hka.trans (hc.ck hRa hwa hx4 hw4);cases hm:QFp md m with
   | false=>
    simp only[Qb,simprocAttr,LM,r16,ei];have hl0:Zw mid rm sib m md=[]:=by unfold Zw;rw[Le (by simp[hm])]
    refine⟨3 - (md+1),by omega,md+1,by omega,rfl,?_,hk4,?_,?_,?_,?_,?_,?_,?_,?_⟩
    ·rw[QkZ,hl0,Na];exact hR4
    all_goals simp only[Qg,simprocAttr,r0,r1,r2,r3,r9,r14,r15]
   | true=>
    simp only[Gt,Qb,simprocAttr,L8,r0,r1,r2,r3,r9,r14,r15,r16];refine(ZM md mid rm (by omega) hmid hrm H4).thenW ?_;rintro _ H4 _ _ ⟨rfl,rfl⟩;simp only[Qb,simprocAttr,r0,r1,r2,r3,r9,r14,r15,r16];have hsa:Gx 1 5 Hs Ha sv sib.length (bys sib):=hsb.ext λid hid=>hka.keep id (by have:=hsb.low hwb hid;omega) (λh=>hso id hid (hOb id h));have hs4:=hsa.go hwa hx4;have hx5:=(Ext.refl H4).push (.cells [.int .u8 (Qz md mid rm)] 5 false);have hw5:=hw4.push (.cells [.int .u8 (Qz md mid rm)] 5 false);have hg5:Gx 1 5 H4 (H4.push (.cells [.int .u8 (Qz md mid rm)] 5 false)) (.slice (some ⟨H4.next,0,none⟩) 1 1) 1 (bys [Qz md mid rm]):=.inr ⟨_,_,rfl,Lb _,by rw[Qd,Lc rfl];rfl,rfl,.inl rfl⟩;have hs5:=hs4.go hw4 hx5;generalize H4.push _=H5 at *;have hll:=Qxy md m;refine Zp hg5 hx5 hw5 hs5.src (ZJ _) (by rw[Xd,NH]) (by omega) (by omega) ?_;intro v6 H6 hg6 hk6;have g6e:H6.get Ha.next=some (.cells [.func (.func f) #[] #[],.func (.func g) #[] #[]] 320 false):=by rw[hk6.x.get _ (hw4.lt g4e)];exact g4e
    have hx46:=hx4.trans hk6.x;have g6m:H6.get H.next=some (.cells m.cells 56 false):=by rw[hx46.get _ (by omega)];exact ga
    simp only[Mm.cells]at g6m;simp only[Qb,simprocAttr,g6e,g6m,QcW,r0,r1,r2,r3,r9,r14,r15,r16];refine(qg H6).thenW ?_;rintro v7 H7 hn7 hw7 ⟨hg7,hx7⟩;simp only[Qb,simprocAttr];refine Zp (hg6.go hk6.w hx7) (hk6.x.trans hx7) hw7 hg7.src (ZJ _) (by rw[Xd,NH]) (by omega) (by omega) ?_;intro v8 H8 hg8 hk8;obtain⟨a8,c8,rfl⟩:=hg8.slc;have hx48:=hx4.trans hk8.x;have g8m:H8.get H.next=some (.cells m.cells 56 false):=by rw[hx48.get _ (by omega)];exact ga
    simp only[Mm.cells]at g8m;have hw8:=hk8.w;simp only[Qb,simprocAttr,g8m,r0,r9];have hle8:=hx48.next;refine⟨by omega,?_⟩;refine(QeT m.i H8).thenW ?_;rintro _ _ hn9 hw9 ⟨rfl,k9,rfl⟩;simp only[Ql]at hn9;have hx9:=hx48.up hn9;have g9m:(H8.up k9).get H.next=some (.cells m.cells 56 false):=by rw[hx9.get _ (by omega)];exact ga
    simp only[Mm.cells]at g9m;have heq9:=((Ext.refl H8).up hn9).eqB;have hg9:=hg8.go hw8 ((Ext.refl H8).up hn9);generalize H8.up k9=H9 at *;simp only[Qb,simprocAttr,g9m,r0,r9];refine⟨heq9,by simp[Qh,Ab.plain],?_⟩;refine(QeT m.b H9).thenW ?_;rintro _ _ hn10 hw10 ⟨rfl,k10,rfl⟩;simp only[Ql]at hn10;have hx10:=hx9.up hn10;have hg10:=hg9.go hw9 ((Ext.refl H9).up hn10);obtain⟨hR10,hO10⟩:=hc.ext _ _ _ hRa hwa hx10;generalize H9.up k10=H10 at *;simp only[Qb,simprocAttr,r0,Qed];have hone:Zw mid rm sib m md=[⟨[Qz md mid rm]++sib++QkY md m,We m.i,We m.b⟩]:=by unfold Zw;rw[Lc hm]
    have hi0:items[j0+((List.range md).flatMap (Zw mid rm sib m)).length]? = some ⟨[Qz md mid rm]++sib++QkY md m,We m.i,We m.b⟩:=by
     refine hit _ _ ?_;unfold YV;have h3:List.range 3=List.range (md+1)++(List.range 3).drop (md+1):=by
      rcases md with _ | _ | _ | md
      ·rfl
      ·rfl
      ·rfl
      ·omega
     rw[h3,Bm,QkZ,hone,LQ,LR (Lb _),BJ];rfl
    have hIt:LdV Ha H10 ⟨[Qz md mid rm]++sib++QkY md m,We m.i,We m.b⟩ (.agg #[.slice a8 (1+sib.length+(QkY md m).length) c8,.int .i64 (We m.i),.int .i64 (We m.b)]):=by
     have e1:([Qz md mid rm]++sib++QkY md m).length=1+sib.length+(QkY md m).length:=by simp only[Lh,Lo,L9]
     have e2:bys ([Qz md mid rm]++sib++QkY md m)=bys [Qz md mid rm]++bys sib++bys (QkY md m):=by rw[Je,Je]
     refine⟨_,rfl,?_⟩;show Gx 1 5 Ha H10 _ ([Qz md mid rm]++sib++QkY md m).length (bys ([Qz md mid rm]++sib++QkY md m));rw[e1,e2];exact hg10.down hx4.next
    refine Qlu (hc.go _ _ Ha H10 _ hi0 hR10 hRa hwa hIt (by have:=hxab.next;omega) hx10 hO10) ?_;rintro _ H11 hn11 hw11 ⟨rfl,hR11,hk11⟩;simp only[Qb,simprocAttr,L8,r16,ei];refine⟨3 - (md+1),by omega,md+1,by omega,rfl,?_,?_,?_,?_,?_,?_,?_,?_,?_,?_⟩
    ·rw[QkZ,hone,Lh];exact hR11
    ·exact(hka.trans (hc.ck hRa hwa hx10 hw10)).trans hk11
    all_goals simp only[Qg,simprocAttr,r0,r1,r2,r3,r9,r14,r15]
  ·have h2:md=3:=by have:=Ll h2;omega
   subst h2;simp only[Qb,simprocAttr,Qf9];have hkk:CK Own H Ha:=(hc.ck hR hw hxab hwb).trans hka;exact .mk hkk.next ⟨rfl,hRa,hkk⟩
def QdV (mid:Int)(m:Mm):List Ld:=
 if(m.b.c==8)=true then[⟨[Qz 0 mid 5]++(Kq m.d 4).1,0,0⟩]
 else if isR m.b 0 0=true then[Qa4 mid m.i m.sc m.d]
 else if isR m.i 0 0=false then YV mid 4 [Qz (Wp m.sc) (Wg m.i) (Wg m.b)] m
 else(if(Wg m.b==4)=true then[] else YV mid (Wg m.b) [] m)++(YV mid 4 [Qz 0 4 (Wg m.b)] m++(if(m.b.n==4)=true then[] else[Qa4 mid m.b 1 m.d]))
theorem QsM (H:Qa)(b:Int):Gx 1 5 H (H.push (.cells [.int .u8 b] 5 false)) (.slice (some ⟨H.next,0,none⟩) 1 1) 1 (bys [b]):=.inr ⟨_,_,rfl,Lb _,by rw[Qd,Lc rfl];rfl,rfl,.inl rfl⟩
section
variable {base l:Nat} {R:Nat->Qa->Prop} {Own:Qa->Nat->Prop} {mid:Int} {m:Mm} {H:Qa} {bm bi:Nat}
theorem QtV (hc:Cns base l (QdV mid m) LdV R Own)(hbase:base<=H.next)(hmid:0<=mid∧mid<8)(hd:I64 m.d)(hf:isR m.i 0 0=false->XD m.sc=true)(hR:R 0 H)(gm:H.get bm=some (.cells m.cells 56 false))(gi:H.get bi=some (.cells [.int .i64 mid] 3 false))(om:¬Own H bm)(oi:¬Own H bi):
  Qe prog 382 [.func (.yield l) #[] #[],.pointer (some ⟨bm,0,none⟩),.pointer (some ⟨bi,0,none⟩)] H λu H'=>R (QdV mid m).length H'∧CK Own H H':=by
 refine Qq6 λhw=>?_;have hlow:=Jp m.b;have hlowi:=Jp m.i;have hsc:=Qc3 m.sc;have hlm:=hw.lt gm;have hli:=hw.lt gi;have ql:=QcB m.b;have qli:=QcB m.i;have he1:(m.b.c==0&&m.b.n==0)=isR m.b 0 0:=rfl;have he2:(m.i.c==0&&m.i.n==0)=isR m.i 0 0:=rfl;have gm':=gm;simp only[Mm.cells]at gm';simp only[Rg.cells]at ql qli;simp only[Qi1,Qb,simprocAttr,gm'];refine(ql H).thenW ?_;rintro _ _ hn1 hw1 ⟨rfl,k1,rfl⟩;simp only[Ql]at hn1;have nz:¬bm=k1:=by omega
 simp only[Qb,simprocAttr,nz,LN,gm'];generalize hH2:((H.up k1).push _).set k1 _=H2;have hx2:Ext H H2:=by rw[<- hH2];exact(((Ext.refl H).up hn1).push _).set (by omega) _
 have hw2:H2.Wf:=by rw[<- hH2];exact(hw1.push _).set (b0:=.cells [.int .i64 0,.int .i64 0] 54 false) (by rw[Qd,Lc (by rw[Ql])]) _
 have hk2:k1<H2.next:=by rw[<- hH2,Qt,Qc,Ql];omega
 have g2z:H2.get k1=some (.cells [.int .i64 0,.int .i64 0] 54 false):=by rw[<- hH2,Qq,Lc rfl]
 have g2m:H2.get bm=some (.cells m.cells 56 false):=by rw[hx2.get _ hlm];exact gm
 have g2i:H2.get bi=some (.cells [.int .i64 mid] 3 false):=by rw[hx2.get _ hli];exact gi
 clear hH2;obtain⟨hR2,hO2⟩:=hc.ext _ _ _ hR hw hx2;have hck2:=hc.ck hR hw hx2 hw2;have o2m:¬Own H2 bm:=λh=>om (hO2 _ h);have o2i:¬Own H2 bi:=λh=>oi (hO2 _ h);have o2z:¬Own H2 k1:=λh=>by have:=hc.low _ _ _ hR (hO2 _ h);omega
 obtain⟨W,eW⟩:∃W,W=QdV mid m:=⟨_,rfl⟩;rw[<- eW]at hc ⊢;unfold QdV at eW;have g2m':=g2m;simp only[Mm.cells]at g2m';cases h8:m.b.c==8 with
 | true=>
  rw[h8,Lc rfl]at eW;simp only[Qb,simprocAttr,g2i];refine⟨by omega,?_⟩;refine(ZM 0 mid 5 (by decide) hmid (by decide) H2).thenW ?_;rintro _ H2 _ _ ⟨rfl,rfl⟩;have hx3:=(Ext.refl H2).push (.cells [.int .u8 (Qz 0 mid 5)] 5 false);have hw3:=hw2.push (.cells [.int .u8 (Qz 0 mid 5)] 5 false);have hg3:=QsM H2 (Qz 0 mid 5);have g3m:(H2.push (.cells [.int .u8 (Qz 0 mid 5)] 5 false)).get bm=some (.cells m.cells 56 false):=by rw[hx3.get _ (by have:=hw2.lt g2m;omega)];exact g2m
  have nb:¬bm=H2.next:=by have:=hw2.lt g2m;omega
  simp only[Mm.cells]at g3m;simp only[Qb,simprocAttr,nb,LN,g2m'];generalize H2.push _=H3 at *;refine⟨λ_ _=>rfl,by simp[Qh,Ab.plain],?_⟩;refine(QfV m.d 4 hd H3).thenW ?_;rintro v4 H4 _ hw4 ⟨hg4,hx4⟩;have hpl:=QkA m.d 4 (by decide);simp only[Qb,simprocAttr];refine⟨hx4.eqB,?_⟩;refine Zp (hg3.go hw3 hx4) (hx3.trans hx4) hw4 hg4.src (ZJ _) (by rw[Xd,NH]) (by omega) (by omega) ?_;intro v5 H5 hg5 hk5;obtain⟨a5,c5,rfl⟩:=hg5.slc;obtain⟨hR5,hO5⟩:=hc.ext _ _ _ hR2 hw2 hk5.x;have hck5:=hck2.trans (hc.ck hR2 hw2 hk5.x hk5.w);simp only[Qb,simprocAttr,Qed];refine Qlu (hc.go 0 ⟨[Qz 0 mid 5]++(Kq m.d 4).1,0,0⟩ H2 H5 _ (by rw[eW];rfl) hR5 hR2 hw2 ⟨_,rfl,?_⟩ (by have:=hx2.next;omega) hk5.x hO5) ?_
  ·show Gx 1 5 H2 H5 _ ([Qz 0 mid 5]++(Kq m.d 4).1).length (bys ([Qz 0 mid 5]++(Kq m.d 4).1));rw[Je,Lh];exact hg5
  rintro _ H6 hn6 hw6 ⟨rfl,hR6,hk6⟩;have hk7:=hck5.trans hk6;simp only[Qb,simprocAttr,Jo];exact .mk hk7.next ⟨by rw[eW];exact hR6,hk7⟩
 | false=>
  rw[h8,Le (by simp)]at eW;simp only[QfT,Qb,simprocAttr,g2m',g2z,Qr,Ls,he1];cases hb0:isR m.b 0 0 with
  | true=>
   rw[hb0,Lc rfl]at eW;simp only[Qb,simprocAttr,g2m',g2i];refine(Qmk mid m.i m.sc m.d hmid hf hd H2).thenW ?_;rintro v3 H3 _ hw3 ⟨hv3,hx3⟩;obtain⟨hR3,hO3⟩:=hc.ext _ _ _ hR2 hw2 hx3;have hck3:=hck2.trans (hc.ck hR2 hw2 hx3 hw3);simp only[Qb,simprocAttr,Qed];refine Qlu (hc.go 0 _ H2 H3 _ (by rw[eW];rfl) hR3 hR2 hw2 hv3 (by have:=hx2.next;omega) hx3 hO3) ?_;rintro _ H6 hn6 hw6 ⟨rfl,hR6,hk6⟩;have hk7:=hck3.trans hk6;simp only[Qb,simprocAttr,Jo];exact .mk hk7.next ⟨by rw[eW];exact hR6,hk7⟩
  | false=>
   rw[hb0,Le (by simp)]at eW;simp only[QfS,Qb,simprocAttr,g2m',g2z,Qr,Lq,he2];cases hi0:isR m.i 0 0 with
   | false=>
    rw[hi0,Lc rfl]at eW;simp only[QfP,Qb,simprocAttr,g2m',LM];refine⟨by omega,?_⟩;refine(Qmj m.sc (hf hi0) H2).thenW ?_;rintro _ H2 _ _ ⟨rfl,rfl⟩;simp only[Qb,simprocAttr,g2m'];refine⟨λ_ _=>rfl,by simp[Qh,Ab.plain],?_⟩;refine(qli H2).thenW ?_;rintro _ _ hn3 hw3 ⟨rfl,k3,rfl⟩;simp only[Ql]at hn3;have hx3:=(Ext.refl H2).up hn3;have g3m:(H2.up k3).get bm=some (.cells m.cells 56 false):=by rw[Y0];exact g2m
    have g3i:(H2.up k3).get bi=some (.cells [.int .i64 mid] 3 false):=by rw[Y0];exact g2i
    simp only[Mm.cells]at g3m;obtain⟨hR3,hO3⟩:=hc.ext _ _ _ hR2 hw2 hx3;have hck3:=hck2.trans (hc.ck hR2 hw2 hx3 hw3);generalize H2.up k3=H3 at *;simp only[Qb,simprocAttr];refine(ZM _ _ _ hsc hlowi hlow H3).thenW ?_;rintro _ H3 _ _ ⟨rfl,rfl⟩;simp only[Qb,simprocAttr,g3i];have hl3:=hw3.lt g3m;have nb3:¬bm=H3.next:=by omega
    simp only[Qb,simprocAttr,nb3,LN,g3m];have hx4:=(Ext.refl H3).push (.cells [.int .u8 (Qz (Wp m.sc) (Wg m.i) (Wg m.b))] 5 false);have hw4:=hw3.push (.cells [.int .u8 (Qz (Wp m.sc) (Wg m.i) (Wg m.b))] 5 false);have hg4:=QsM H3 (Qz (Wp m.sc) (Wg m.i) (Wg m.b));generalize H3.push _=H4 at *;obtain⟨hR4,hO4⟩:=hc.ext _ _ _ hR3 hw3 hx4;have hck4:=hck3.trans (hc.ck hR3 hw3 hx4 hw4);refine(QsL hc mid 4 hmid (by decide) (sib:=[Qz (Wp m.sc) (Wg m.i) (Wg m.b)]) (by simp) m hd 0 (by have:=hx2.next;have:=hx3.next;have:=hx4.next;omega) hR4 hg4 (λid ⟨o,n,c,e⟩ h=>by cases e;have:=hc.low _ _ _ hR3 (hO4 _ h);omega) (λi w h=>by rw[eW,LP];exact h)).thenW ?_;rintro _ H6 hn6 hw6 ⟨rfl,hR6,hk6⟩;have hk7:=hck4.trans hk6;simp only[Qb,simprocAttr,Jo];exact .mk hk7.next ⟨by rw[eW];rw[LP]at hR6;exact hR6,hk7⟩
   | true=>
    rw[hi0,Le (by simp)]at eW
    -- the last two ways,behind what is told
    have hthree:∀ (pre:List Ld) (Hx:Qa) (A:Env),W=pre++(YV mid 4 [Qz 0 4 (Wg m.b)] m++(if(m.b.n==4)=true then[] else[Qa4 mid m.b 1 m.d]))->R pre.length Hx->CK Own H2 Hx->A 0=.func (.yield l) #[] #[]->A 1=.pointer (some ⟨bm,0,none⟩)->A 2=.pointer (some ⟨bi,0,none⟩)->A 5=.int .i64 (Wg m.b)->
      Qm prog Qa2 ⟨Rt prog Tryz.f382 H λu H'=>R W.length H'∧CK Own H H',exK 0 (Rt prog Tryz.f382 H λu H'=>R W.length H'∧CK Own H H') WJ⟩ (Rt prog Tryz.f382 H λu H'=>R W.length H'∧CK Own H H') A Hx:=by
     intro pre Hx A eW2 hRx hkx r0 r1 r2 r5;have hwx:=hkx.w;have gxm:Hx.get bm=some (.cells m.cells 56 false):=by rw[hkx.keep _ (hw2.lt g2m) o2m];exact g2m
     have gxi:Hx.get bi=some (.cells [.int .i64 mid] 3 false):=by rw[hkx.keep _ (hw2.lt g2i) o2i];exact g2i
     have gxm':=gxm;simp only[Mm.cells]at gxm';have hlx:=hwx.lt gxm;have hlxi:=hwx.lt gxi;simp only[Qa2,Qb,simprocAttr,r0,r1,r2,r5,gxi];refine⟨by simp[Qh,Ab.plain],by omega,?_⟩;refine(ZM 0 4 _ (by decide) (by decide) hlow Hx).thenW ?_;rintro _ Hx _ _ ⟨rfl,rfl⟩;have nbx:¬bm=Hx.next:=by omega
     simp only[Qb,simprocAttr,nbx,LN,r0,r1,r2,r5,gxm'];have hx4:=(Ext.refl Hx).push (.cells [.int .u8 (Qz 0 4 (Wg m.b))] 5 false);have hw4:=hwx.push (.cells [.int .u8 (Qz 0 4 (Wg m.b))] 5 false);have hg4:=QsM Hx (Qz 0 4 (Wg m.b));obtain⟨hR4,hO4⟩:=hc.ext _ _ _ hRx hwx hx4;have hck4:=(hck2.trans hkx).trans (hc.ck hRx hwx hx4 hw4);refine⟨λ_ _=>rfl,by simp[Qh,Ab.plain],?_⟩;generalize Hx.push _=H4 at *;have hsp:∀i w,(YV mid 4 [Qz 0 4 (Wg m.b)] m)[i]? = some w->W[pre.length+i]? = some w:=λi w h=>by
      have hi:=(Lk.1 h).1;rw[eW2,LR (Ro _ _),NL,LY hi];exact h
     refine(QsL hc mid 4 hmid (by decide) (sib:=[Qz 0 4 (Wg m.b)]) (by simp) m hd pre.length (by have:=hx2.next;have:=hkx.next;have:=hx4.next;omega) hR4 hg4 (λid ⟨o,n,c,e⟩ h=>by cases e;have:=hc.low _ _ _ hRx (hO4 _ h);omega) hsp).thenW ?_;rintro _ H6 hn6 hw6 ⟨rfl,hR6,hk6⟩;have hk7:=hck4.trans hk6;have hkx6:=(hkx.trans (hc.ck hRx hwx hx4 hw4)).trans hk6;have g6m:H6.get bm=some (.cells m.cells 56 false):=by rw[hkx6.keep _ (hw2.lt g2m) o2m];exact g2m
     have g6i:H6.get bi=some (.cells [.int .i64 mid] 3 false):=by rw[hkx6.keep _ (hw2.lt g2i) o2i];exact g2i
     simp only[Mm.cells]at g6m;simp only[QfQ,Qb,simprocAttr,L8,r0,r1,r2,g6m];cases h4:m.b.n==4 with
     | true=>
      rw[h4,Lc rfl,Na]at eW2;simp only[Qb,simprocAttr,L8,Jo];exact .mk hk7.next ⟨by rw[eW2,Lh];exact hR6,hk7⟩
     | false=>
      rw[h4,Le (by simp)]at eW2;simp only[Qb,simprocAttr,LM,r0,r1,r2,g6m,g6i];refine(Qmk mid m.b 1 m.d hmid (λ_=>rfl) hd H6).thenW ?_;rintro v8 H8 _ hw8 ⟨hv8,hx8⟩;obtain⟨hR8,hO8⟩:=hc.ext _ _ _ hR6 hw6 hx8;have hck8:=hk7.trans (hc.ck hR6 hw6 hx8 hw8);simp only[Qb,simprocAttr,r0,Qed];have hiw:W[pre.length+(YV mid 4 [Qz 0 4 (Wg m.b)] m).length]? = some (Qa4 mid m.b 1 m.d):=by
       rw[eW2,LR (Ro _ _),NL,LR (Lb _),BJ];rfl
      refine Qlu (hc.go _ _ H6 H8 _ hiw hR8 hR6 hw6 hv8 (by have:=hk7.next;omega) hx8 hO8) ?_;rintro _ H9 hn9 hw9 ⟨rfl,hR9,hk9⟩;have hk10:=hck8.trans hk9;simp only[Qb,simprocAttr,Jo];refine .mk hk10.next ⟨?_,hk10⟩;have:W.length=pre.length+(YV mid 4 [Qz 0 4 (Wg m.b)] m).length+1:=by rw[eW2];simp only[Lh,Lo,L9];omega
      rw[this];exact hR9
    simp only[QfR,Qb,simprocAttr,L8,g2m',g2i];cases h4:Wg m.b==4 with
    | true=>
     rw[h4,Lc rfl]at eW;simp only[Qb,simprocAttr,L8];refine hthree [] H2 _ eW hR2 (hc.ck hR2 hw2 (.refl _) hw2) ?_ ?_ ?_ ?_
     all_goals simp only[Qg,simprocAttr]
    | false=>
     rw[h4,Le (by simp)]at eW;simp only[Qb,simprocAttr,LM,g2m',g2i];refine(QsL hc mid (Wg m.b) hmid hlow (sib:=[]) (by simp) m hd 0 (by have:=hx2.next;omega) hR2 (Hs:=H2) (.inl ⟨rfl,rfl,rfl⟩) (λid ⟨o,n,c,e⟩=>by cases e) (λi w h=>by
      have hi:=(Lk.1 h).1;rw[eW,LP,LY hi];exact h)).thenW ?_
     rintro _ H6 hn6 hw6 ⟨rfl,hR6,hk6⟩;simp only[Qb,simprocAttr,L8];rw[LP]at hR6;refine hthree _ H6 _ eW hR6 hk6 ?_ ?_ ?_ ?_
     all_goals simp only[Qg,simprocAttr]
end
def ldC (ss:List Value)(ws:List Ld):List Value:=(ss.zip ws).flatMap λp=>[p.1,.int .i64 p.2.x,.int .i64 p.2.h]
theorem Qf0:∀ (ss:List Value) (ws:List Ld),ss.length=ws.length->(ldC ss ws).length=ws.length * 3
 | [],[],_=>rfl
 | s::ss,w::ws,h=>by
  have:=Qf0 ss ws (by simpa using h);unfold ldC at *;simp only[BF,Ba,Lh,Lo,L9,this];omega
theorem QDw (ss:List Value)(ws:List Ld)(h:ss.length=ws.length)(s:Value)(w:Ld):ldC (ss++[s]) (ws++[w])=ldC ss ws++[s,.int .i64 w.x,.int .i64 w.h]:=by
 unfold ldC;rw[List.zip_append h,Bm];rfl
structure Q7 (e:TypeId) (H0 H:Qa) (v:Value) (ws:List Ld):Prop where
 it:∃ss:List Value,ss.length=ws.length∧Gx 3 e H0 H v ws.length (ldC ss ws)∧∀ (j:Nat) s w,ss[j]? = some s->ws[j]? = some w->Gx 1 5 H0 H s w.b.length (bys w.b)
theorem Q7.nil (e:TypeId)(H0 H:Qa):Q7 e H0 H (.slice none 0 0) []:=⟨[],rfl,.inl ⟨rfl,rfl,rfl⟩,λj s w h=>by simp at h⟩
theorem Q7.go {e:TypeId}{H0 H H':Qa}{v:Value}{ws:List Ld}(h:Q7 e H0 H v ws)(hw:H.Wf)(hx:Ext H H'):Q7 e H0 H' v ws:=by
 obtain⟨ss,h1,h2,h3⟩:=h.it;exact⟨ss,h1,h2.go hw hx,λj s w hs hw'=>(h3 j s w hs hw').go hw hx⟩
theorem Q7.slc {e:TypeId}{H0 H:Qa}{v:Value}{ws:List Ld}(h:Q7 e H0 H v ws):∃a c,v=.slice a ws.length c:=by
 obtain⟨ss,h1,h2,h3⟩:=h.it;exact h2.slc
theorem Q7.down {e:TypeId}{H0 H1 H:Qa}{v:Value}{ws:List Ld}(h:Q7 e H1 H v ws)(hx:H0.next<=H1.next):Q7 e H0 H v ws:=by
 obtain⟨ss,h1,h2,h3⟩:=h.it;exact⟨ss,h1,h2.down hx,λj s w hs hw'=>(h3 j s w hs hw').down hx⟩
theorem Q7.keep {e:TypeId}{H0 H H':Qa}{v:Value}{ws:List Ld}(h:Q7 e H0 H v ws)(hk:∀id,H0.next<=id->(inB v id∨∃cs,H.get id=some (.cells cs 5 false))->H'.get id=H.get id):Q7 e H0 H' v ws:=by
 obtain⟨ss,h1,h2,h3⟩:=h.it;refine⟨ss,h1,?_,λj s w hs hw'=>?_⟩
 ·rcases h2 with h2 | ⟨b,c,rfl,q2,q3,q4⟩
  ·exact .inl h2
  ·exact .inr ⟨b,c,rfl,q2,by rw[hk b q2 (.inl ⟨_,_,_,rfl⟩)];exact q3,q4⟩
 ·rcases h3 j s w hs hw' with h2 | ⟨b,c,rfl,q2,q3,q4⟩
  ·exact .inl h2
  ·exact .inr ⟨b,c,rfl,q2,by rw[hk b q2 (.inr ⟨_,q3⟩)];exact q3,q4⟩
theorem QAM {e bytes:Nat}(he:e≠5){H0 H:Qa}{v s:Value}{w:Ld}{ws:List Ld}{ss:List Value}{k:Value->Qa->Prop}{x:Value}(h1:ss.length=ws.length)(h2:Gx 3 e H0 H v ws.length (ldC ss ws))(h3:∀ (j:Nat) s w,ss[j]? = some s->ws[j]? = some w->Gx 1 5 H0 H s w.b.length (bys w.b))(hx:Ext H0 H)(hw:H.Wf)(hs:Gx 1 5 H0 H s w.b.length (bys w.b))(hsrc:J4 3 x H=some (1,[s,.int .i64 w.x,.int .i64 w.h]))(hb:(ws.length+1) * bytes<=140737488355328)(hn:ws.length+1<=9223372036854775807)
  (h:∀v' H',(ss++[s]).length=(ws++[w]).length->Gx 3 e H0 H' v' (ws++[w]).length (ldC (ss++[s]) (ws++[w]))->(∀ (j:Nat) s' w',(ss++[s])[j]? = some s'->(ws++[w])[j]? = some w'->Gx 1 5 H0 H' s' w'.b.length (bys w'.b))->GK v v' H0 H H'->k v' H'):Qdr e 3 bytes v x H k:=by
 have hone:([s,.int .i64 w.x,.int .i64 w.h]:List Value).all (·.oneCell')=true:=by
  obtain⟨a,c,rfl⟩:=hs.slc;rfl
 refine Zp h2 hx hw hsrc hone rfl hb hn ?_;intro v' H' hg hk;refine h v' H' (by simp[h1]) ?_ (λj s' w' hs' hw'=>?_) hk
 ·rw[QDw _ _ h1,Lh];exact hg
 ·have hnot:∀id c',H.get id=some (.cells c' 5 false)->¬inB v id:=λid c' hc hi=>by
   obtain⟨o,n',c,rfl⟩:=hi;rcases h2 with⟨h,_,_⟩ | ⟨b,c,h,q2,q3,q4⟩
   ·cases h
   ·cases h;rw[q3]at hc;cases hc;exact he rfl
  have key:∀ {s:Value} {bs:List Int},Gx 1 5 H0 H s bs.length (bys bs)->Gx 1 5 H0 H' s bs.length (bys bs):=λhq=>by
   rcases hq with h2 | ⟨b,c,rfl,q2,q3,q4⟩
   ·exact .inl h2
   ·exact .inr ⟨b,c,rfl,q2,by rw[hk.keep b (hw.lt q3) (hnot b _ q3)];exact q3,q4⟩
  rcases Dj j ss.length with hj | hj | hj
  ·rw[LY hj]at hs';rw[LY (by omega)]at hw';exact key (h3 j s' w' hs' hw')
  ·rw[LR (by omega)]at hs' hw';rw[hj,BJ]at hs';rw[hj,h1,BJ]at hw';cases hs';cases hw';exact key hs
  ·have:=(Lk.1 hs').1;simp at this;omega
theorem QvM {e bytes:Nat}(he:e≠5){H0 H:Qa}{v s:Value}{w:Ld}{ws:List Ld}{k:Value->Qa->Prop}{x:Value}(hl:Q7 e H0 H v ws)(hx:Ext H0 H)(hw:H.Wf)(hs:Gx 1 5 H0 H s w.b.length (bys w.b))(hsrc:J4 3 x H=some (1,[s,.int .i64 w.x,.int .i64 w.h]))(hb:(ws.length+1) * bytes<=140737488355328)(hn:ws.length+1<=9223372036854775807)
  (h:∀v' H',Q7 e H0 H' v' (ws++[w])->GK v v' H0 H H'->k v' H'):Qdr e 3 bytes v x H k:=by
 obtain⟨ss,h1,h2,h3⟩:=hl.it;exact QAM he h1 h2 h3 hx hw hs hsrc hb hn λv' H' a b c d=>h v' H' ⟨_,a,b,c⟩ d
def Inc (ss:List Value)(U:Nat):Prop:=ss.Pairwise (λs s'=>∀a b,inB s a->inB s' b->a<b)∧∀s∈ss,∀a,inB s a->a<U
theorem Inc.mono {ss:List Value}{U U':Nat}(h:Inc ss U)(hu:U<=U'):Inc ss U':=⟨h.1,λs hs a ha=>N5 (h.2 s hs a ha) hu⟩
theorem Inc.snoc {ss:List Value}{U U':Nat}(h:Inc ss U)(hu:U<=U'){s:Value}(hs:∀a,inB s a->U<=a∧a<U'):Inc (ss++[s]) U':=by
 refine⟨List.pairwise_append.2 ⟨h.1,Bw _ _,λx hx y hy a b ha hb=>?_⟩,λx hx a ha=>?_⟩
 ·cases Sa.1 hy;have:=h.2 x hx a ha;have:=(hs b hb).1;omega
 ·rcases LI.1 hx with hx | hx
  ·have:=h.2 x hx a ha;omega
  ·cases Sa.1 hx;exact(hs a ha).2
structure LsU (e:TypeId) (H0 H:Qa) (v:Value) (ws:List Ld) (U:Nat):Prop where
 it:∃ss:List Value,ss.length=ws.length∧Gx 3 e H0 H v ws.length (ldC ss ws)∧(∀ (j:Nat) s w,ss[j]? = some s->ws[j]? = some w->Gx 1 5 H0 H s w.b.length (bys w.b))∧Inc ss U
section
variable {e:TypeId} {H0 H H' H1:Qa} {v:Value} {ws:List Ld} {U U':Nat}
theorem LsU.ls (h:LsU e H0 H v ws U):Q7 e H0 H v ws:=by
 obtain⟨ss,h1,h2,h3,_⟩:=h.it;exact⟨ss,h1,h2,h3⟩
theorem LsU.nil (e:TypeId)(H0 H:Qa)(U:Nat):LsU e H0 H (.slice none 0 0) [] U:=⟨[],rfl,.inl ⟨rfl,rfl,rfl⟩,λj s w h=>by simp at h,List.Pairwise.nil,λs h=>by cases h⟩
theorem LsU.mono (h:LsU e H0 H v ws U)(hu:U<=U'):LsU e H0 H v ws U':=by
 obtain⟨ss,h1,h2,h3,h4⟩:=h.it;exact⟨ss,h1,h2,h3,h4.mono hu⟩
theorem LsU.of (h:LsU e H0 H v ws U)(hg:∀ {size e v n cs},Gx size e H0 H v n cs->Gx size e H1 H' v n cs):LsU e H1 H' v ws U:=by
 obtain⟨ss,h1,h2,h3,h4⟩:=h.it;exact⟨ss,h1,hg h2,λj s w a b=>hg (h3 j s w a b),h4⟩
theorem LsU.go (h:LsU e H0 H v ws U)(hw:H.Wf)(hx:Ext H H'):LsU e H0 H' v ws U:=h.of λg=>g.go hw hx
theorem LsU.down (h:LsU e H1 H v ws U)(hx:H0.next<=H1.next):LsU e H0 H v ws U:=h.of λg=>g.down hx
end
theorem QAN {e bytes:Nat}(he:e≠5){H0 H:Qa}{v s:Value}{w:Ld}{ws:List Ld}{U U':Nat}{k:Value->Qa->Prop}{x:Value}(hl:LsU e H0 H v ws U)(hu:U<=U')(hsu:∀a,inB s a->U<=a∧a<U')(hx:Ext H0 H)(hw:H.Wf)(hs:Gx 1 5 H0 H s w.b.length (bys w.b))(hsrc:J4 3 x H=some (1,[s,.int .i64 w.x,.int .i64 w.h]))(hb:(ws.length+1) * bytes<=140737488355328)(hn:ws.length+1<=9223372036854775807)
  (h:∀v' H',LsU e H0 H' v' (ws++[w]) U'->GK v v' H0 H H'->k v' H'):Qdr e 3 bytes v x H k:=by
 obtain⟨ss,h1,h2,h3,h4⟩:=hl.it;exact QAM he h1 h2 h3 hx hw hs hsrc hb hn λv' H' a b c d=>h v' H' ⟨_,a,b,c,h4.snoc hu hsu⟩ d
def clR (e:TypeId)(Hb:Qa)(cB lB:Nat)(eC:TypeId)(bl:Blk)(W:List Ld)(j:Nat)(H':Qa):Prop:=
 H'.get lB=some bl∧Hb.next<=H'.next∧(∀id,id<Hb.next->id≠cB->id≠lB->H'.get id=Hb.get id)∧∃v,H'.get cB=some (.cells [v] eC false)∧Q7 e Hb H' v (W.take j)∧∀id,inB v id->id<H'.next∧Hb.next<=id
def clO (cB lB:Nat)(eC:TypeId)(H:Qa)(id:Nat):Prop:=id=cB∨id=lB∨∃v,H.get cB=some (.cells [v] eC false)∧inB v id
theorem QFq {e:TypeId}{Hb:Qa}{cB lB:Nat}(hc:cB<Hb.next)(hl:lB<Hb.next){eC:TypeId}{bl:Blk}{W:List Ld}{j:Nat}{H1 H2:Qa}(h:clR e Hb cB lB eC bl W j H1)(hw:H1.Wf)(hx:Ext H1 H2):clR e Hb cB lB eC bl W j H2∧∀id,clO cB lB eC H2 id->clO cB lB eC H1 id:=by
 obtain⟨h1,h2,h3,v,h5,h6,h7⟩:=h;have hn:=hx.next;have e5:=hx.get cB (by omega);refine⟨⟨by rw[hx.get lB (by omega)];exact h1,by omega,λid a b c=>by rw[hx.get id (by omega)];exact h3 id a b c,v,by rw[e5];exact h5,h6.go hw hx,λid hi=>?_⟩,λid hi=>?_⟩
 ·have:=h7 id hi;exact⟨by omega,this.2⟩
 ·rcases hi with h | h | ⟨v',h,hi⟩
  ·exact .inl h
  ·exact .inr (.inl h)
  ·exact .inr (.inr ⟨v',by rw[<- e5];exact h,hi⟩)
theorem QFr {e:TypeId}{Hb:Qa}{cB lB:Nat}(hc:cB<Hb.next)(hl:lB<Hb.next){eC:TypeId}{bl:Blk}{W:List Ld}{j:Nat}{H1:Qa}(h:clR e Hb cB lB eC bl W j H1){id:Nat}(hi:clO cB lB eC H1 id):id<H1.next:=by
 obtain⟨h1,h2,h3,v,h5,h6,h7⟩:=h;rcases hi with rfl | rfl | ⟨v',h,hi⟩
 ·omega
 ·omega
 ·rw[h5]at h;cases h;exact(h7 id hi).1
theorem Qxz (f:FuncId)(hf:entered prog f=true)(ys:List Value)(W:List Ld)(hW:W.length<=1000)(H:Qa)
  (hgo:∀ (l:Nat) (R:Nat->Qa->Prop) (Own:Qa->Nat->Prop) (H':Qa),Cns H'.next l W LdV R Own->R 0 H'->Ext H H'->(∀id,id<H.next->¬Own H' id)->Qe prog f ([.func (.yield l) #[] #[]]++ys) H' λu H2=>R W.length H2∧CK Own H' H2):
  Qe prog 381 [.slice none 0 0,.func (.func f) #[] ys.toArray] H λv H'=>Q7 120 H H' v W∧Ext H H':=by
 refine Gp λhw=>?_;simp only[YM,Qb,simprocAttr];generalize hH1:H.push _=H1;obtain⟨eC,g0⟩:∃eC,H1.get H.next=some (.cells [.slice none 0 0] eC false):=⟨_,by rw[<- hH1,Qd,Lc rfl]⟩;have hx1:Ext H H1:=by rw[<- hH1];exact(Ext.refl H).push _
 have hw1:H1.Wf:=by rw[<- hH1];exact hw.push _
 have hn1:H1.next=H.next+1:=by rw[<- hH1];rfl
 clear hH1;simp only[Qg,simprocAttr,QhS];rw[Qr7 f [] ys];intro L hY;refine⟨hf,?_⟩;have hxb:Ext H (H1.push (L none)):=hx1.push _;have hnb:(H1.push (L none)).next=H.next+2:=by rw[Qc,hn1]
 have gb0:(H1.push (L none)).get H.next=some (.cells [.slice none 0 0] eC false):=by rw[Qd,Le (by omega)];exact g0
 have gbl:(H1.push (L none)).get H1.next=some (L none):=by rw[Qd,Lc rfl]
 have hwb:=hw1.push (L none);generalize H1.push (L none)=Hb at *;have hc0:H.next<Hb.next:=by omega
 have hl0:H1.next<Hb.next:=by omega
 refine(hgo H1.next (clR 120 Hb H.next H1.next eC (L none) W) (clO H.next H1.next eC) Hb ⟨?_,?_,?_⟩ ?_ hxb ?_).thenW ?_
 ·exact λj Ha Hc h hwa hx=>QFq hc0 hl0 h hwa hx
 ·exact λj Ha id h hi=>QFr hc0 hl0 h hi
 ·rintro j w H0' H1' v0 hj hR _ _ ⟨s,rfl,hs⟩ hb0 hx0 hO hw1';obtain⟨h1,h2,h3,v,h5,h6,h7⟩:=hR;refine hY H1.next _ H1' _ h1 rfl ?_ hw1';have hj':=(Lk.1 hj).1;have hsb:Gx 1 5 Hb H1' s w.b.length (bys w.b):=hs.down hb0
  -- the loop's Qwx is taken away while its body runs
  have kk:∀id,id≠H1.next->(H1'.kill H1.next).get id=H1'.get id:=λid hid=>by rw[WS,Le hid]
  have hnk:(H1'.kill H1.next).next=H1'.next:=rfl;have hwk:(H1'.kill H1.next).Wf:=hw1'.kill _;have k5:=(kk H.next (by omega)).trans h5;have k6:Q7 120 Hb (H1'.kill H1.next) v (W.take j):=h6.keep λid hid _=>kk id (by omega);have ks:Gx 1 5 Hb (H1'.kill H1.next) s w.b.length (bys w.b):=hsb.ext λid hid=>kk id (by have:=hsb.low hw1' hid;omega);have k3:∀id,id<Hb.next->id≠H.next->id≠H1.next->(H1'.kill H1.next).get id=Hb.get id:=λid a b c=>(kk id c).trans (h3 id a b c);generalize hHk:H1'.kill H1.next=Hk at *;obtain⟨a,c,rfl⟩:=ks.slc;obtain⟨av,cv,rfl⟩:=k6.slc;have nz:¬H.next=Hk.next:=by omega
  simp only[QmI,Qpp,Qb,simprocAttr,nz,LN,k5];generalize hH5:Qa.push (Qa.set (Qa.push Hk _) _ _) _=H5;have hx5:Ext Hk H5:=by rw[<- hH5];exact(((Ext.refl Hk).push _).set (Lb _) _).push _
  have hw5:H5.Wf:=by rw[<- hH5];exact((hwk.push _).set (b0:=.cells [.slice none 0 0,.int .i64 0,.int .i64 0] 120 false) (by rw[Qd,Lc rfl]) _).push _
  have g5:H5.get (Hk.next+1)=some (.cells [.slice a w.b.length c,.int .i64 w.x,.int .i64 w.h] 120 false):=by rw[<- hH5,Qd,Lc (by rw[Qt,Qc])]
  have hn5:H5.next=Hk.next+2:=by rw[<- hH5,Qc,Qt,Qc]
  clear hH5;have hsrc:J4 3 (.slice (some ⟨Hk.next+1,0,none⟩) 1 1) H5=some (1,[.slice a w.b.length c,.int .i64 w.x,.int .i64 w.h]):=by
   rw[JI g5 (by decide) (by simp)];rfl
  have hlt:(W.take j).length<=1000:=by rw[Sb];omega
  -- what was there when the loop began may have changed at its variable and its Qwx alone;the rest of the list is new
  have hxx:∃Hz:Qa,Ext Hz H5∧Hz.next=Hb.next:=⟨⟨Hb.next,H5.tr⟩,⟨by show Hb.next<=H5.next;omega,λid _=>rfl⟩,rfl⟩;obtain⟨Hz,hxz,hnz⟩:=hxx;have hlz:Q7 120 Hz H5 (.slice av (W.take j).length cv) (W.take j):=(k6.go hwk hx5).down (by omega);have hsz:Gx 1 5 Hz H5 (.slice a w.b.length c) w.b.length (bys w.b):=(ks.go hwk hx5).down (by omega);refine QvM (by decide) hlz hxz hw5 hsz hsrc (by omega) (by omega) ?_;intro v' H6 hl6 hk6;obtain⟨a',c',rfl⟩:=hl6.slc;have htk:W.take (j+1)=W.take j++[w]:=by rw[Nv,hj];rfl
  rw[<- htk]at hl6 hk6 ⊢;have h65:∀id,id<Hb.next->H6.get id=H5.get id:=λid hid=>(hk6.x.get id (by omega)).trans (hxz.get id (by omega)).symm;have k6c:H6.get H.next=some (.cells [.slice av (W.take j).length cv] eC false):=by rw[h65 _ (by omega),hx5.get _ (by omega)];exact k5
  have hnk6:=hk6.next;simp only[Qb,simprocAttr,QmH,k6c];refine⟨by omega,⟨by rw[Qq,Lc rfl],by rw[Qt,Qt];omega,λid p q r=>?_,.slice a' (W.take (j+1)).length c',?_,?_,λid hi=>?_⟩,⟨by rw[Qt,Qt];omega,?_,λid p q=>?_,λid hi=>?_⟩⟩
  ·rw[Qq,Le r,Qq,Le q,h65 _ (by omega),hx5.get _ (by omega)];exact k3 id p q r
  ·rw[Qq,Le (by omega),Qq,Lc rfl]
  ·refine Q7.keep (H0:=Hb) (H:=H6) (hl6.down (by omega)) λid hid _=>?_;rw[Qq,Le (by omega),Qq,Le (by omega)]
  ·obtain⟨ss,_,hg,_⟩:=hl6.it;have:=hg.low hk6.w hi;rw[Qt,Qt];exact⟨this.2,by omega⟩
  ·intro id hid;rw[Qt,Qt]at hid;rw[Qq,Le (by omega),Qq,Le (by omega)];exact hk6.w id hid
  ·have q1:id≠H.next:=λh=>q (.inl h);have q2:id≠H1.next:=λh=>q (.inr (.inl h));have q3:¬inB (.slice av (W.take j).length cv) id:=λh=>q (.inr (.inr ⟨_,h5,h⟩));rw[Qq,Le q2,Qq,Le q1,hk6.keep id (by omega) q3,hx5.get _ (by omega),kk id q2]
  ·rcases hi with h | h | ⟨v'',h,hi⟩
   ·exact .inl (.inl h)
   ·exact .inl (.inr (.inl h))
   ·rw[Qq,Le (by omega),Qq,Lc rfl]at h;cases h;rcases hk6.new id hi with h | h
    ·exact .inl (.inr (.inr ⟨_,h5,h⟩))
    ·exact .inr (by omega)
 ·exact⟨gbl,Lb _,λ_ _ _ _=>rfl,_,gb0,Q7.nil _ _ _,λid ⟨o,n,c,h⟩=>by cases h⟩
 ·rintro id hid (h | h | ⟨v',h,hi⟩)
  ·omega
  ·omega
  ·rw[gb0]at h;cases h;obtain⟨o,n,c,h⟩:=hi;cases h
 ·rintro u H2 hn2 hw2 ⟨⟨h1,h2,h3,v,h5,h6,h7⟩,hck⟩;refine⟨none,h1,?_⟩;have kk:∀id,id≠H1.next->(H2.kill H1.next).get id=H2.get id:=λid hid=>by rw[WS,Le hid]
  have hnk:(H2.kill H1.next).next=H2.next:=rfl;have k5:=(kk H.next (by omega)).trans h5;rw[Nr]at h6;have k6:Q7 120 Hb (H2.kill H1.next) v W:=h6.keep λid hid _=>kk id (by omega);have hxf:Ext H (H2.kill H1.next):=⟨by rw[hnk];omega,λid hid=>by rw[kk id (by omega),h3 id (by omega) (by omega) (by omega)];exact hxb.get id hid⟩;generalize H2.kill H1.next=H3 at *;simp only[Qb,simprocAttr,Qpo,k5,KZ];exact .mk hxf.next ⟨k6.down (by omega),hxf⟩
theorem QB3 (f:FuncId)(hf:entered prog f=true)(ys:List Value)(W:List Ld)(hW:W.length<=1000)(H:Qa)
  (hgo:∀ (l:Nat) (R:Nat->Qa->Prop) (Own:Qa->Nat->Prop) (H':Qa),Cns H'.next l W LdV R Own->R 0 H'->Ext H H'->(∀id,id<H.next->¬Own H' id)->Qe prog f ([.func (.yield l) #[] #[]]++ys) H' λu H2=>R W.length H2∧CK Own H' H2):
  Qe prog 352 [.func (.func f) #[] ys.toArray] H λv H'=>Q7 120 H H' v W∧Ext H H':=by
 refine QeL λhw=>?_;simp only[KX,Qb,simprocAttr];refine(Qxz f hf ys W hW H hgo).thenW ?_;rintro v H1 _ _ ⟨hv,hx⟩;simp only[Qb,simprocAttr,Qd6];exact .mk hx.next ⟨hv,hx⟩
def QcE (mid:Int)(a:Ar):List Ld×Int:=
 if(decide (mid<0)||decide (mid>7))=true then([],5)
 else if(Wn a==0)=false then([],Wn a)
 else if(a.k==1)=true then([⟨[Qz 3 mid (Wg a.r)],0,We a.r⟩],0)
 else if(a.k==2)=true then(QdV mid (Y4 a.m),0)
 else([],2)
theorem Qng (mid rm:Int)(sib:List Int)(m:Mm):(YV mid rm sib m).length<=3:=by
 have h:∀md,(Zw mid rm sib m md).length<=1:=λmd=>by unfold Zw;split<;>simp
 have e:YV mid rm sib m=Zw mid rm sib m 0++(Zw mid rm sib m 1++(Zw mid rm sib m 2++[])):=rfl;have h0:=h 0;have h1:=h 1;have h2:=h 2;rw[e];simp only[Lh,L9];omega
theorem QsN (mid:Int)(m:Mm):(QdV mid m).length<=8:=by
 unfold QdV;split
 ·simp
 ·split
  ·simp
  ·split
   ·have:=Qng mid 4 [Qz (Wp m.sc) (Wg m.i) (Wg m.b)] m;omega
   ·have h1:=Qng mid (Wg m.b) [] m;have h2:=Qng mid 4 [Qz 0 4 (Wg m.b)] m;simp only[Lh];split<;>split<;>simp<;>omega
theorem QvN (mid:Int)(m:Mm)(H:Qa):Qe prog 353 [.int .i64 mid,.agg m.cells.toArray] H λu H'=>∃bm bi,u=.func (.func 382) #[] #[.pointer (some ⟨bm,0,none⟩),.pointer (some ⟨bi,0,none⟩)]∧Ext H H'∧H.next<=bm∧H.next<=bi∧H'.get bm=some (.cells m.cells 56 false)∧H'.get bi=some (.cells [.int .i64 mid] 3 false):=by
 refine QtH λhw=>?_;have ex:(Value.agg m.cells.toArray).cells.toList=m.cells:=rfl;simp only[Qme,ex,Qb,simprocAttr,Qss];have hx:Ext H ((H.push (.cells [.int .i64 mid] 3 false)).push (.cells m.cells 56 false)):=((Ext.refl H).push _).push _;exact .mk hx.next ⟨_,_,rfl,hx,by omega,Lb _,by rw[Qd,Lc (by rw[Qc])],by rw[Qd,Le (by rw[Qc];omega),Qd,Lc rfl]⟩
theorem QxA {m:Mm}(h:Qw m=0):-2147483648<=m.d∧m.d<=2147483647:=by
 unfold Qw at h;split at h
 ·simp at h
 ·rename_i h1;simp at h1;omega
theorem QuD {m:Mm}(h:Qw m=0)(hi:isR m.i 0 0=false):XD m.sc=true:=by
 unfold Qw at h;split at h
 ·simp at h
 ·split at h
  ·simp at h
  ·split at h
   ·simp at h
   ·split at h
    ·simp at h
    ·split at h
     ·rename_i h5;rw[h5]at hi;cases hi
     ·split at h
      ·simp at h
      ·rename_i h6;cases e:XD m.sc with
       | true=>rfl
       | false=>simp[e]at h6
theorem QxB (m:Mm):(Y4 m).d=m.d:=by unfold Y4;split<;>(try rfl);split<;>(try rfl);split<;>rfl
theorem QB4 {m:Mm}(h:Qw m=0)(hi:isR (Y4 m).i 0 0=false):XD (Y4 m).sc=true:=by
 unfold Y4 at hi ⊢;split
 ·rename_i h1;rw[Lc h1]at hi;exact QuD h hi
 ·rename_i h1;rw[Le h1]at hi;split
  ·rename_i h2;rw[Lc h2]at hi;cases hi
  ·rename_i h2;rw[Le h2]at hi;have hi0:isR m.i 0 0=false:=by
    cases e:isR m.i 0 0 with
    | false=>rfl
    | true=>simp[e]at h1
   have:=QuD h hi0;split<;>exact this
theorem QxC (mid:Int)(a:Ar)(H:Qa):Qe prog 251 [.int .i64 mid,.agg a.cells.toArray] H λu H'=>∃v,u=.tuple #[v,.int .i64 (QcE mid a).2]∧Q7 120 H H' v (QcE mid a).1∧Ext H H':=by
 refine Qvw λhw=>?_;have q1:=VK a;have q2:=QcB a.r;have q3:=QeT a.r;have q4:=QqJ a.m;have hce:Qa3 a.m=if Qw a.m=0 then(Y4 a.m,0) else(J7,Qw a.m):=rfl
 have hck:∀h:(a.k==2)=true,Wn a=Qw a.m:=λh=>by
  have:a.k=2:=by simpa using h
  simp[Wn,this]
 have hlr:=Jp a.r;obtain⟨w,ew⟩:∃w,w=QcE mid a:=⟨_,rfl⟩;rw[<- ew];unfold QcE at ew;have ex:(Value.agg a.cells.toArray).cells.toList=a.cells:=rfl;have hx1:=(Ext.refl H).push (.cells a.cells 58 false);have hw1:=hw.push (.cells a.cells 58 false);have hg1:(H.push (.cells a.cells 58 false)).get H.next=some (.cells a.cells 58 false):=by rw[Qd,Lc rfl]
 have hn1:(H.push (.cells a.cells 58 false)).next=H.next+1:=rfl;have ac:=hg1;have e11:a.cells.take 11=a.cells:=rfl;simp only[Qoy,ex,KG,simprocAttr];generalize H.push (.cells a.cells 58 false)=H1 at *;have hbad:∀ (A:Env),w=([],5)->A 4=.slice none 0 0->A 5=.int .i64 5->Rt prog Tryz.f251 H (λu H'=>∃v,u=.tuple #[v,.int .i64 w.2]∧Q7 120 H H' v w.1∧Ext H H') A H1:=by
  intro A e r4 r5;subst e;simp only[Vi,r4,r5];exact .mk hx1.next ⟨_,rfl,Q7.nil _ _ _,hx1⟩
 have hgood:(decide (mid<0)||decide (mid>7))=false->∀ (A:Env),A 0=.int .i64 mid->A 3=.pointer (some ⟨H.next,0,none⟩)->Qm prog QeJ ⟨Rt prog Tryz.f251 H (λu H'=>∃v,u=.tuple #[v,.int .i64 w.2]∧Q7 120 H H' v w.1∧Ext H H'),WJ⟩ (Rt prog Tryz.f251 H (λu H'=>∃v,u=.tuple #[v,.int .i64 w.2]∧Q7 120 H H' v w.1∧Ext H H')) A H1:=by
  intro hm A r0 r3;have hmid:0<=mid∧mid<8:=by simp at hm;omega
  rw[hm,Le (by simp)]at ew;simp only[QeJ,Qb,simprocAttr,r0,r3,hg1,Lw,e11];refine⟨Lb _,?_⟩;refine(q1 H1).thenW ?_;rintro _ _ hn2 hw2 ⟨rfl,k,rfl⟩;simp only[Ql]at hn2;have hx2:=hx1.up hn2;have hg2:(H1.up k).get H.next=some (.cells a.cells 58 false):=by rw[Y0];exact hg1
  generalize H1.up k=H2 at *;simp only[Qb,simprocAttr];cases he:Wn a==0 with
  | false=>
   rw[he,Lc rfl]at ew;subst ew;simp only[Qb,simprocAttr,LM,Vi];exact .mk hx2.next ⟨_,rfl,Q7.nil _ _ _,hx2⟩
  | true=>
   rw[he,Le (by simp)]at ew;have he0:Wn a=0:=by simpa using he
   obtain⟨k',⟨rc,rn⟩,⟨⟨bc,bn⟩,⟨ic,nn⟩,sc,d,sz⟩,n⟩:=a;simp only[Ar.cells,Rg.cells,Mm.cells]at hg2 q2 q3 q4;simp only[Qko,Qb,simprocAttr,L8,r0,r3,hg2];simp only at ew hlr hce hck;refine Qf (λh=>?_) (λh=>?_)
   ·rw[h,Lc rfl]at ew;simp only[Qkl,Qb,simprocAttr,r0,r3,hg2];refine(q2 H2).thenW ?_;rintro _ _ hn3 hw3 ⟨rfl,k3,rfl⟩;simp only[Ql]at hn3;have hx3:=hx2.up hn3;have hg3:=hg2;rw[<- Y0 H2 k3]at hg3;generalize H2.up k3=H3 at *;simp only[Qb,simprocAttr];refine(ZM 3 mid _ (by decide) hmid hlr H3).thenW ?_;rintro _ H3 _ _ ⟨rfl,rfl⟩;have hx4:=hx3.push (.cells [.int .u8 (Qz 3 mid (Wg ⟨rc,rn⟩))] 5 false);have hw4:=hw3.push (.cells [.int .u8 (Qz 3 mid (Wg ⟨rc,rn⟩))] 5 false);have hg4:=QsM H3 (Qz 3 mid (Wg ⟨rc,rn⟩));have hl3:=hw3.lt hg3;have nz:¬H.next=H3.next:=by omega
    simp only[Qb,simprocAttr,nz,LN,hg3,r3];generalize H3.push _=H4 at *;refine(q3 H4).thenW ?_;rintro _ _ hn5 hw5 ⟨rfl,k5,rfl⟩;simp only[Ql]at hn5;have hx5:=hx4.up hn5;have hg5:=hg4.go hw4 ((Ext.refl H4).up hn5);generalize H4.up k5=H5 at *;simp only[Qb,simprocAttr,Vi];have hle2:=hx2.next;have hx6:=hx5.push (.cells [.slice (some ⟨H3.next,0,none⟩) 1 1,.int .i64 0,.int .i64 (We ⟨rc,rn⟩)] 120 false);have hle3:=hx3.next;refine .mk hx6.next ⟨_,by rw[ew],⟨[.slice (some ⟨H3.next,0,none⟩) 1 1],by rw[ew];rfl,?_,?_⟩,hx6⟩
    ·rw[ew];exact .inr ⟨_,_,rfl,by have:=hx5.next;omega,by rw[Qd,Lc rfl];rfl,rfl,.inl rfl⟩
    ·intro j s w' hs hw';rw[ew]at hw';rcases j with _ | j
     ·cases hs;cases hw';exact(hg5.go hw5 ((Ext.refl H5).push _)).down (by omega)
     ·simp at hs
   ·rw[h,Le (by simp)]at ew;simp only[Qkn,Qb,simprocAttr,r0,r3];refine Qf (λh2=>?_) (λh2=>?_)
    ·rw[h2,Lc rfl]at ew;simp only[Qkm,Qb,simprocAttr,r0,r3,hg2];have hm0:=(hck h2).symm.trans he0;rw[Lc hm0]at hce;rw[hce]at q4;refine(q4 H2).thenW ?_;rintro _ _ hn3 hw3 ⟨rfl,k3,rfl⟩;simp only[Ql]at hn3;have hx3:=hx2.up hn3;generalize H2.up k3=H3 at *;generalize hcm:Y4 ⟨⟨bc,bn⟩,⟨ic,nn⟩,sc,d,sz⟩=m at *;have hmd:I64 m.d:=by
      have h5:=QxA hm0;have h6:=QxB ⟨⟨bc,bn⟩,⟨ic,nn⟩,sc,d,sz⟩;rw[hcm]at h6;rw[h6];unfold I64;omega
     have hms:isR m.i 0 0=false->XD m.sc=true:=by
      have h6:=@QB4 ⟨⟨bc,bn⟩,⟨ic,nn⟩,sc,d,sz⟩ hm0;rw[hcm]at h6;exact h6
     simp only[Mm.cells,Qb,simprocAttr,LO,L8,r0];generalize hH4:Qa.set (Qa.push H3 _) _ _=H4;have hx4:Ext H H4:=by rw[<- hH4];exact(hx3.push _).set (by have:=hx3.next;omega) _
     clear hH4;have qw:=QvN mid m H4;simp only[Mm.cells]at qw;refine qw.thenW ?_;rintro _ H5 _ hw5 ⟨bm,bi,rfl,hx5,o1,o2,g1,g2⟩;have l1:=hw5.lt g1;have l2:=hw5.lt g2;have hwl:=QsN mid m;simp only[Qb,simprocAttr];refine(QB3 382 (by kernel_rfl) [.pointer (some ⟨bm,0,none⟩),.pointer (some ⟨bi,0,none⟩)] (QdV mid m) (by omega) H5 ?_).thenW ?_
     ·intro l R Own H' hcns hR hx hno;exact QtV hcns (Lb _) hmid hmd hms hR (by rw[hx.get _ l1];exact g1) (by rw[hx.get _ l2];exact g2) (hno _ l1) (hno _ l2)
     ·rintro v H6 _ _ ⟨hv,hx6⟩;have hx7:=(hx4.trans hx5).trans hx6;simp only[Qb,simprocAttr,Vi];exact .mk hx7.next ⟨v,by rw[ew],by rw[ew];exact hv.down (hx4.trans hx5).next,hx7⟩
    ·rw[h2,Le (by simp)]at ew;subst ew;simp only[Qb,simprocAttr,Vi];exact .mk hx2.next ⟨_,rfl,Q7.nil _ _ _,hx2⟩
 cases h1:decide (mid<0) with
 | true=>
  rw[h1,N1,Lc rfl]at ew;simp only[Qb,simprocAttr];refine hbad _ ew ?_ ?_
  all_goals simp only[Qg,simprocAttr]
 | false=>
  cases h2:decide (mid>7) with
  | true=>
   rw[h1,h2,Bd,Lc rfl]at ew;simp only[Qb,simprocAttr,h2];refine hbad _ ew ?_ ?_
   all_goals simp only[Qg,simprocAttr]
  | false=>
   simp only[Qb,simprocAttr,h2];refine hgood (by rw[h1,h2];rfl) _ ?_ ?_
   all_goals simp only[Qg,simprocAttr]
end Go.Proofs.YtgepgbbjfhggfaaGreatDoor.code
