/- Rows in memory of their own, full or grown. -/
import Derived.Test.YtgepgbbjfhggfaaGreatDoorLibA
import Derived.Test.YtgepgbbjfhggfaaGreatDoorAbD
import Derived.Test.YtgepgbbjfhggfaaGreatDoorC5Dec
import Derived.Test.YtgepgbbjfhggfaaGreatDoorLibI
set_option linter.unusedVariables false
set_option linter.unusedSimpArgs false
set_option maxRecDepth 100000
set_option maxHeartbeats 4000000
set_option maxHeartbeats 2000000
noncomputable section
namespace Go.Proofs.YtgepgbbjfhggfaaGreatDoor.code
open Go.Ab
def bys (l:List Int):List Value:=l.map (Value.int .u8)
theorem Xe (l:List Int):(bys l).length=l.length:=Nn ..
theorem Jg (l m:List Int):bys (l++m)=bys l++bys m:=N6 ..
theorem ZK (l:List Int):(bys l).all (·.oneCell')=true:=by
 rw[Li];intro v q;obtain⟨z,_,rfl⟩:=N4.1 q;rfl
def inB (v:Value)(id:Nat):Prop:=∃o n c,v=.slice (some ⟨id,o,none⟩) n c
def Gx (size:Nat)(e:TypeId)(H0 H:Qa)(v:Value)(n:Nat)(cs:List Value):Prop:=(v=.slice none 0 0∧n=0∧cs=[])∨∃b cap,v=.slice (some ⟨b,0,none⟩) n cap∧H0.next<=b∧H.get b=some (.cells cs e false)∧cs.length=n * size∧(cap=n∨cap=UNK+size∧0<n)
theorem Gx.ext {size:Nat}{e:TypeId}{H0 H H':Qa}{v:Value}{n:Nat}{cs:List Value}(h:Gx size e H0 H v n cs)(ac:∀id,inB v id->H'.get id=H.get id):Gx size e H0 H' v n cs:=by
 rcases h with h | ⟨b,c,rfl,q,aa,ab⟩
 ·exact .inl h
 ·exact .inr ⟨b,c,rfl,q,by rw[ac b ⟨_,_,_,rfl⟩];exact aa,ab⟩
theorem Gx.go {size:Nat}{e:TypeId}{H0 H H':Qa}{v:Value}{n:Nat}{cs:List Value}(h:Gx size e H0 H v n cs)(ac:H.Wf)(ad:Ext H H'):Gx size e H0 H' v n cs:=by
 rcases h with h | ⟨b,c,rfl,aa,q,ab⟩
 ·exact .inl h
 ·exact .inr ⟨b,c,rfl,aa,by rw[ad.get b (ac.lt q)];exact q,ab⟩
theorem Gx.low {size:Nat}{e:TypeId}{H0 H:Qa}{v:Value}{n:Nat}{cs:List Value}(h:Gx size e H0 H v n cs)(ab:H.Wf){id:Nat}(hi:inB v id):H0.next<=id∧id<H.next:=by
 obtain⟨o,ad,c,rfl⟩:=hi;rcases h with⟨h,_,_⟩ | ⟨b,c,h,q,aa,ac⟩
 ·cases h
 ·cases h;exact⟨q,ab.lt aa⟩
theorem Gx.sl {size:Nat}{e:TypeId}{H0 H:Qa}{v:Value}{n:Nat}{cs:List Value}(h:Gx size e H0 H v n cs):QdA H v n cs:=by
 rcases h with⟨rfl,rfl,rfl⟩ | ⟨b,c,rfl,aa,q,ab⟩
 ·exact⟨none,0,rfl,λh=>absurd h (NX 0)⟩
 ·exact⟨_,_,rfl,λ_=>⟨b,e,false,rfl,q⟩⟩
theorem Gx.slc {size:Nat}{e:TypeId}{H0 H:Qa}{v:Value}{n:Nat}{cs:List Value}(h:Gx size e H0 H v n cs):∃a c,v=.slice a n c:=by
 rcases h with⟨rfl,rfl,rfl⟩ | ⟨b,c,rfl,_⟩
 ·exact⟨_,_,rfl⟩
 ·exact⟨_,_,rfl⟩
theorem Gx.down {size:Nat}{e:TypeId}{H0 H1 H:Qa}{v:Value}{n:Nat}{cs:List Value}(h:Gx size e H1 H v n cs)(ac:H0.next<=H1.next):Gx size e H0 H v n cs:=by
 rcases h with h | ⟨b,c,rfl,ab,q,aa⟩
 ·exact .inl h
 ·exact .inr ⟨b,c,rfl,by omega,q,aa⟩
theorem Gx.src {size:Nat}{e:TypeId}{H0 H:Qa}{v:Value}{n:Nat}{cs:List Value}(h:Gx size e H0 H v n cs):Zt size v H=some (n,cs):=by
 rcases h with⟨rfl,rfl,rfl⟩ | ⟨b,c,rfl,ab,aa,ac,_⟩
 ·simp[Zt]
 ·by_cases q:n=0
  ·subst q;have:cs=[]:=N2.1 (by omega);subst this;simp[Zt]
  ·rw[Y5 aa q (by omega),Lw,LF (by omega)]
structure GK (v v':Value) (H0 H H':Qa):Prop where
 x:Ext H0 H'
 w:H'.Wf
 keep:∀id,id<H.next->¬inB v id->H'.get id=H.get id
 next:H.next<=H'.next
 new:∀id,inB v' id->inB v id∨H.next<=id
theorem Y8 {size:Nat}{e bytes:Nat}{H0 H:Qa}{v x:Value}{n m:Nat}{cs ms:List Value}{k:Value->Qa->Prop}(an:Gx size e H0 H v n cs)(ab:Ext H0 H)(aa:H.Wf)(ag:Zt size x H=some (m,ms))(am:ms.all (·.oneCell')=true)(ak:ms.length=m * size)(hb:(n+m) * bytes<=140737488355328)(aq:n+m<=9223372036854775807)
  (h:∀ao H',Gx size e H0 H' ao (n+m) (cs++ms)->GK v ao H0 H H'->k ao H'):QbP e size bytes v x H k:=by
 have al:=ab.next
 by_cases ae:m=0
 ·subst ae;have aw:ms=[]:=N2.1 (by omega);subst aw;have az:Y4 e size bytes v x H=some (v,H):=by
   unfold Y4;rw[ag];rcases an with⟨rfl,rfl,rfl⟩ | ⟨b,c,rfl,au,ac,ah,ai⟩
   ·rfl
   ·simp only[BI,N3];rw[Lc];rcases ai with rfl | ⟨rfl,_⟩
    ·first | exact .inl (Lb _) | exact .inl (by omega) | simp
    ·first | exact .inl (by omega) | simp
  unfold QbP;rw[az,QJ];rw[N9,Na]at h;exact h v H an ⟨ab,aa,λ_ _ _=>rfl,Lb _,λid hi=>.inl hi⟩
 ·rcases an with⟨rfl,rfl,rfl⟩ | ⟨b,c,rfl,au,ac,ah,ai⟩
  ·refine Qn1 ag am ae (by rw[LP]at hb;exact hb) (by omega) (h _ _ (.inr ⟨H.next,_,by rw[LP],al,by rw[Qc,Lc rfl,LH],by rw[LH,LP];exact ak,.inr ⟨rfl,by omega⟩⟩) ⟨ab.push _,aa.push _,λid ad _=>by rw[Qc,Le (by omega)],by rw[Qd];omega,?_⟩);rintro id ⟨o,ar,c,q⟩;cases q;exact .inr (Lb _)
  ·have aA:=aa.lt ac;rcases Nq c UNK with aj | aj
   ·have av:c=n:=by rcases ai with h | h;exact h;omega
    subst av;have e1:(cs.drop 0).take (c * size)++ms=cs++ms:=by rw[Lw,LF (by omega)]
    refine Qlw ag am ae ac (by omega) hb aq aj (by omega) (h _ _ (.inr ⟨H.next,_,rfl,al,by rw[Qc,Lc rfl,e1],by rw[Lh,ah,ak,Ry],.inr ⟨rfl,by omega⟩⟩) ⟨ab.push _,aa.push _,λid ad _=>by rw[Qc,Le (by omega)],by rw[Qd];omega,?_⟩);rintro id ⟨o,ar,c,q⟩;cases q;exact .inr (Lb _)
   ·refine Qn0 rfl ag am ae ac (by rw[LP];omega) hb aq aj (h _ _ (.inr ⟨H.next,_,rfl,al,?_,by rw[Lh,ah,ak,Ry],.inr ⟨rfl,by omega⟩⟩) ⟨?_,?_,?_,by rw[Qd,Qdr];omega,?_⟩)
    ·rw[Qc,Qdr,Lc rfl,Lw]
    ·refine⟨by rw[Qd,Qdr];omega,λid ad=>?_⟩;rw[Qc,Qdr,Le (by omega),WV,Le (by omega)];exact ab.get id ad
    ·exact(aa.kill b).push _
    ·intro id ad ax;have ay:¬id=b:=λh=>ax ⟨_,_,_,by rw[h]⟩;rw[Qc,Qdr,Le (by omega),WV,Le ay]
    ·rintro id ⟨o,ar,c,q⟩;cases q;exact .inr (Lb _)
theorem Qsz {size:Nat}{e bytes:Nat}{H0 H:Qa}{v x:Value}{n m:Nat}{cs ms:List Value}{k:Value->Qa->Prop}(al:Gx size e H0 H v n cs)(aj:∃a,v=.slice a n n)(ae:H.Wf)(ad:Zt size x H=some (m,ms))(ac:ms.all (·.oneCell')=true)(aa:m≠0)(ab:ms.length=m * size)(hb:(n+m) * bytes<=140737488355328)(ak:n+m<=9223372036854775807)(am:n<UNK)
  (h:∀q H',Gx size e H H' q (n+m) (cs++ms)->Ext H H'->H'.Wf->(∃b,q=.slice (some ⟨b,0,none⟩) (n+m) (UNK+size))->k q H'):QbP e size bytes v x H k:=by
 rcases al with⟨rfl,rfl,rfl⟩ | ⟨b,c,rfl,an,ag,ah,ao⟩
 ·refine Qn1 ad ac aa (by rw[LP]at hb;exact hb) (by omega) (h _ _ (.inr ⟨H.next,_,by rw[LP],Lb _,by rw[Qc,Lc rfl,LH],by rw[LH,LP];exact ab,.inr ⟨rfl,by omega⟩⟩) ((Ext.refl H).push _) (ae.push _) ⟨_,by rw[LP]⟩)
 ·obtain⟨a,ai⟩:=aj;cases ai;have e1:(cs.drop 0).take (n * size)++ms=cs++ms:=by rw[Lw,LF (by omega)]
  exact Qlw ad ac aa ag (by omega) hb ak am (by omega) (h _ _ (.inr ⟨H.next,_,rfl,Lb _,by rw[Qc,Lc rfl,e1],by rw[Lh,ah,ab,Ry],.inr ⟨rfl,by omega⟩⟩) ((Ext.refl H).push _) (ae.push _) ⟨_,rfl⟩)
theorem QFC {size:Nat}{e:TypeId}{H0 H:Qa}{v:Value}{n:Nat}{cs:List Value}(h:Gx size e H0 H v n cs)(ag:n<UNK):∃a,QaC size v none (some (n:Int)) (some (n:Int))=some (.slice a n n)∧Gx size e H0 H (.slice a n n) n cs:=by
 rcases h with⟨rfl,rfl,rfl⟩ | ⟨b,c,rfl,aa,ab,ac,ae⟩
 ·exact⟨none,rfl,.inl ⟨rfl,rfl,rfl⟩⟩
 ·refine⟨some ⟨b,0,none⟩,?_,.inr ⟨b,n,rfl,aa,ab,ac,.inl rfl⟩⟩;unfold QaC;simp only[Br,NB];rcases Nq c UNK with q | q
  ·rw[Le (by omega),Lc (by omega),show(n:Int).toNat - (0:Int).toNat=n by omega]
   by_cases ad:n=0
   ·subst ad;rfl
   ·rw[Le (by omega),show 0+(0:Int).toNat * size=0 by simp]
  ·rw[Lc q,Lc (by omega),show(n:Int).toNat - (0:Int).toNat=n by omega,show 0+(0:Int).toNat * size=0 by simp]
def QHE (H:Qa)(v:Value)(bs:List Int):Prop:=∃a cap,v=.slice a bs.length cap∧(0<bs.length->∃b o e ro cs,a=some ⟨b,o,none⟩∧H.get b=some (.cells cs e ro)∧∀j,j<bs.length->cs[o+j]? = some (.int .u8 (bs.getD j 0)))
theorem QHE.ext {H H':Qa}{v:Value}{bs:List Int}(ad:H.Wf)(ab:Ext H H')(h:QHE H v bs):QHE H' v bs:=by
 obtain⟨a,cap,rfl,q⟩:=h;refine⟨a,cap,rfl,λac=>?_⟩;obtain⟨b,o,e,ro,cs,rfl,hb,aa⟩:=q ac;exact⟨b,o,e,ro,cs,rfl,by rw[ab.get b (ad.lt hb)];exact hb,aa⟩
def Qnj (n:Int):Bool:=(n==1)||(n==2)||(n==4)||(n==8)
theorem Qt3 (n:Int)(H:Qa):Qe prog 348 [.int .i64 n] H λu H'=>u=.bool (Qnj n)∧H'=H:=by
 refine QsF λq=>?_;simp(disch:=(first | omega | (simp only[hnP];try omega))) only[Qkw,Qk,simprocAttr,Qja]
 repeat' (first
   | (refine Qq (λh=>?_) (λh=>?_)<;>(try simp only[Lr,Lu]at h)<;>simp(disch:=(first | omega | (simp only[hnP];try omega))) only[Qk,simprocAttr,Qja,h])
   | fail)
 all_goals refine .mk (Lb _) ⟨?_,rfl⟩
 all_goals (simp only[Qnj];simp_all)
def Yh (n:Int):Bool:=decide (1<=n)&&decide (n<=64)
theorem VQ (n:Int)(H:Qa):Qe prog 378 [.int .i64 n] H λu H'=>u=.bool (Yh n)∧H'=H:=by
 refine QpU λq=>?_;simp(disch:=(first | omega | (simp only[hnP];try omega))) only[Qhg,Qk,simprocAttr,QfU]
 repeat' (first
   | (refine Qq (λh=>?_) (λh=>?_)<;>(try simp only[Lr,Lu]at h)<;>simp(disch:=(first | omega | (simp only[hnP];try omega))) only[Qk,simprocAttr,QfU,h])
   | fail)
 all_goals refine .mk (Lb _) ⟨?_,rfl⟩
 all_goals (simp only[Yh];simp_all<;>omega)
def Qf0 (n bits:Int):Int:=if Yh bits=false then 0 else(IntKind.i64.wrap (IntKind.u64.wrap (IntKind.u64.wrap n * 2 ^ (min (64 - bits).toNat 64)))).fdiv (2 ^ (min (64 - bits).toNat 64))
theorem QoS (n bits:Int)(H:Qa):Qe prog 379 [.int .i64 n,.int .i64 bits] H λu H'=>u=.int .i64 (Qf0 n bits)∧H'=H:=by
 refine QtX λad=>?_;simp only[Qmn,Qb,simprocAttr];refine(VQ bits H).thenW ?_;rintro _ H _ ad ⟨rfl,rfl⟩;simp only[Qb,simprocAttr];cases q:Yh bits with
 | false=>
  simp only[Qb,simprocAttr,Qky];exact .mk (Lb _) ⟨by rw[Qf0,Lc q],rfl⟩
 | true=>
  have hb:1<=bits∧bits<=64:=by simpa[Yh] using q
  have e:IntKind.i64.wrap (64 - bits)=64 - bits:=w64 (by unfold I64;omega);have ac:0<=64 - bits:=by omega
  have aa:IntKind.u64.bits=64:=rfl;have ab:IntKind.i64.bits=64:=rfl;simp only[Qb,simprocAttr,e,ac,aa,ab,Qky];exact .mk (Lb _) ⟨by rw[Qf0,Le (by simp[q])],rfl⟩
def QzD (n bits:Int):Int:=if Yh bits=false then 0 else IntKind.i64.wrap ((IntKind.u64.wrap (IntKind.u64.wrap n * 2 ^ (min (64 - bits).toNat 64))).fdiv (2 ^ (min (64 - bits).toNat 64)))
theorem QxC (n bits:Int)(H:Qa):Qe prog 380 [.int .i64 n,.int .i64 bits] H λu H'=>u=.int .i64 (QzD n bits)∧H'=H:=by
 refine QvQ λad=>?_;simp only[QoM,Qb,simprocAttr];refine(VQ bits H).thenW ?_;rintro _ H _ ad ⟨rfl,rfl⟩;simp only[Qb,simprocAttr];cases q:Yh bits with
 | false=>
  simp only[Qb,simprocAttr,Qmo];exact .mk (Lb _) ⟨by rw[QzD,Lc q],rfl⟩
 | true=>
  have hb:1<=bits∧bits<=64:=by simpa[Yh] using q
  have e:IntKind.i64.wrap (64 - bits)=64 - bits:=w64 (by unfold I64;omega);have ac:0<=64 - bits:=by omega
  have aa:IntKind.u64.bits=64:=rfl;have ab:IntKind.i64.bits=64:=rfl;simp only[Qb,simprocAttr,e,ac,aa,ab,Qmo];exact .mk (Lb _) ⟨by rw[QzD,Le (by simp[q])],rfl⟩
def Qb1 (n bits:Int):Bool:=Yh bits&&(Qf0 n bits==n||QzD n bits==n)
theorem QvV (n bits:Int)(H:Qa):Qe prog 349 [.int .i64 n,.int .i64 bits] H λu H'=>u=.bool (Qb1 n bits)∧H'=H:=by
 refine QtU λq=>?_;have aa:=λH=>VQ bits H;have ab:=λH=>QoS n bits H;have ac:=λH=>QxC n bits H;unfold Qb1;simp only[Qmk,Qb,simprocAttr];refine(aa H).thenW ?_;rintro _ H _ q ⟨rfl,rfl⟩;cases Yh bits with
 | false=>
  simp only[Qb,simprocAttr,QeN];exact .mk (Lb _) ⟨rfl,rfl⟩
 | true=>
  simp only[Qb,simprocAttr];refine(ab H).thenW ?_;rintro _ H _ q ⟨rfl,rfl⟩;simp only[Qb,simprocAttr];cases Qf0 n bits==n with
  | true=>
   simp only[Qb,simprocAttr,QeN];exact .mk (Lb _) ⟨rfl,rfl⟩
  | false=>
   simp only[Qb,simprocAttr];refine(ac H).thenW ?_;rintro _ H _ q ⟨rfl,rfl⟩;simp only[Qb,simprocAttr,QeN];exact .mk (Lb _) ⟨rfl,rfl⟩
def QoT (n bits:Int):Bool:=Yh bits&&(Qf0 n bits==n)
theorem QvW (n bits:Int)(H:Qa):Qe prog 417 [.int .i64 n,.int .i64 bits] H λu H'=>u=.bool (QoT n bits)∧H'=H:=by
 refine Qt2 λq=>?_;have aa:=λH=>VQ bits H;have ab:=λH=>QoS n bits H;unfold QoT;simp only[Qmq,Qb,simprocAttr];refine(aa H).thenW ?_;rintro _ H _ q ⟨rfl,rfl⟩;cases Yh bits with
 | false=>
  simp only[Qb,simprocAttr,QkF];exact .mk (Lb _) ⟨rfl,rfl⟩
 | true=>
  simp only[Qb,simprocAttr];refine(ab H).thenW ?_;rintro _ H _ q ⟨rfl,rfl⟩;simp only[Qb,simprocAttr,QkF];exact .mk (Lb _) ⟨rfl,rfl⟩
def QoU (n:Int)(i:Nat):Int:=IntKind.u8.wrap ((IntKind.u64.wrap n).fdiv (2 ^ (min (8 * i) 64)))
def Qfa (n:Int)(sz:Nat):List Int:=(List.range sz).map (QoU n)
def Ku (n sz:Int):List Int×Int:=if Qnj sz=false then([],2) else if Qb1 n (8 * sz)=false then([],5) else(Qfa n sz.toNat,0)
theorem QqT (n sz:Int)(ax:I64 n)(H:Qa):Qe prog 249 [.int .i64 n,.int .i64 sz] H λu H'=>∃v,u=.tuple #[v,.int .i64 (Ku n sz).2]∧Gx 1 5 H H' v (Ku n sz).1.length (bys (Ku n sz).1)∧Ext H H':=by
 refine QvO λab=>?_;unfold Ku;simp only[QoH,Qb,simprocAttr];refine(Qt3 sz H).thenW ?_;rintro _ H _ ab ⟨rfl,rfl⟩;cases al:Qnj sz with
 | false=>
  simp only[Qb,simprocAttr,LM,Qgd];exact .mk (Lb _) ⟨_,rfl,.inl ⟨rfl,rfl,rfl⟩,.refl _⟩
 | true=>
  obtain⟨s,aq,az,ay⟩:∃s:Nat,sz=s∧s<=8∧1<=s:=by
   have:sz=1∨sz=2∨sz=4∨sz=8:=by simpa[Qnj,or_assoc] using al
   exact⟨sz.toNat,by omega,by omega,by omega⟩
  subst aq;have av:IntKind.i64.wrap (8 * (s:Int))=8 * (s:Int):=w64 (by unfold I64;omega);simp only[Qb,simprocAttr,L8,av];refine(QvV n (8 * (s:Int)) H).thenW ?_;rintro _ H _ ab ⟨rfl,rfl⟩;cases aw:Qb1 n (8 * (s:Int)) with
  | false=>
   simp only[Qb,simprocAttr,LM,Qgd];exact .mk (Lb _) ⟨_,rfl,.inl ⟨rfl,rfl,rfl⟩,.refl _⟩
  | true=>
   simp only[Qb,simprocAttr,L8,LN,reduceCtorEq,LG];refine⟨⟨by omega,by omega,by omega,by omega⟩,?_⟩;refine Qo (λm A' H'=>∃i:Nat,i<=s∧m=s - i∧H'.Wf∧Ext H H'∧H'.get H.next=some (.cells (bys (Qfa n i)++List.replicate (s - i) (.int .u8 0)) 5 false)∧A' 0=.int .i64 n∧A' 1=.int .i64 s∧A' 6=.slice (some ⟨H.next,0,none⟩) s s∧A' 18=.int .i64 s∧A' 19=.int .i64 i) s ?_ ?_
   ·refine⟨0,L7 _,by omega,ab.push _,(Ext.refl H).push _,?_,?_,?_,?_,?_,?_⟩
    ·rw[Qc,Lc rfl];have an:YM [Value.int .u8 0].toArray s=List.replicate s (.int .u8 0):=by
      unfold YM;rw[Fv];refine⟨by simp,λb hb=>?_⟩;obtain⟨i,_,rfl⟩:=N4.1 hb;show([Value.int .u8 0].toArray)[i % 1]! = _;rw[Nat.mod_one];rfl
     exact congrArg (λc=>some (Blk.cells c 5 false)) an
    all_goals simp only[Qg,simprocAttr]
    all_goals rfl
   ·rintro m A' H' ⟨i,hi,rfl,au,ac,aa,ah,r1,ad,ai,aj⟩;simp only[Qb,simprocAttr,ai,aj];refine Qf (λq=>?_) (λq=>?_)
    ·have q:i<s:=by have:=Lg q;omega
     have d1:(0:Int)<=i∧(i:Int)<s:=by omega
     have d3:(i:Int).toNat=i:=by omega
     have ei:IntKind.i64.wrap ((i:Int)+1)=((i+1:Nat):Int):=by rw[w64 (by unfold I64;omega)];omega
     have ak:IntKind.i64.wrap (8 * (i:Int))=((8 * i:Nat):Int):=by rw[w64 (by unfold I64;omega)];omega
     simp only[Qb,simprocAttr,ah,ad,aj,d1,d3,ei,ak,aa];have ag:(bys (Qfa n i)).length=i:=by rw[Xe];simp[Qfa]
     have ar:splice (bys (Qfa n i)++List.replicate (s - i) (.int .u8 0)) i [.int .u8 (QoU n i)]=bys (Qfa n (i+1))++List.replicate (s - (i+1)) (.int .u8 0):=by
      have e1:Qfa n (i+1)=Qfa n i++[QoU n i]:=by simp[Qfa,R0]
      have e2:s - i=(s - (i+1))+1:=by omega
      unfold splice;rw[e1,Jg,e2,List.replicate_succ,NO (by omega),LF (by omega),B3,ag];have ao:(Qfa n i).length=i:=by simp[Qfa]
      simp[bys,ao]
     refine⟨by omega,by rw[Lh,ag,List.length_replicate];omega,s - (i+1),by omega,i+1,by omega,rfl,?_,?_,?_,?_,?_,?_,?_,?_⟩
     ·exact au.set aa _
     ·exact ac.set (Lb _) _
     ·have am:min (((8 * i:Nat):Int)).toNat IntKind.u64.bits=min (8 * i) 64:=rfl;rw[Qn,Lc rfl,<- ar];unfold QoU splice;rw[am];rfl
     all_goals simp only[Qg,simprocAttr,ah,r1,ad,ai]
    ·have q:i=s:=by have:=Ll q;omega
     subst q;simp only[Qb,simprocAttr,ad,Qgd];rw[BJ,List.replicate_zero,Na]at aa;have ae:(Qfa n i).length=i:=by simp[Qfa]
     exact .mk ac.next ⟨_,rfl,.inr ⟨H.next,i,by rw[ae],Lb _,aa,by rw[Xe,NH],.inl (by rw[ae])⟩,ac⟩
def Wj (r:Rg):Int:=if XG r=true then r.n % 8 else 0
def Wi (r:Rg):Int:=if XG r=true then r.n / 8 else 0
theorem QDJ {r:Rg}(h:XG r=true):0<=r.n∧r.n<16:=by
 unfold XG Qjz at h;have h:=Lg h;split at h
 ·simp at h;omega
 ·split at h
  ·simp at h;omega
  ·split at h<;>simp at h<;>omega
theorem Jr (r:Rg):0<=Wj r∧Wj r<8:=by
 unfold Wj;split<;>omega
theorem Qih (r:Rg):0<=Wi r∧Wi r<2:=by
 unfold Wi;split
 ·rename_i h;have:=QDJ h;omega
 ·omega
theorem QcJ (r:Rg)(H:Qa):Qe prog 250 [.agg r.cells.toArray] H λu H'=>u=.int .i64 (Wj r)∧∃k,H'=H.up k:=by
 refine QzA λac=>?_;have q:=Qad r;have ab:=@QDJ r;unfold Wj;obtain⟨v,ev⟩:∃v,XG r=v:=⟨_,rfl⟩;rw[ev]at q ab ⊢;obtain⟨c,n⟩:=r;simp only[Rg.cells]at q;simp only[Rg.cells,QsE,Qb,simprocAttr];refine(q _).thenW ?_;rintro _ _ aa ad ⟨rfl,k,rfl⟩;simp only[Qd,Ql]at aa;cases v with
 | false=>
  simp only[Qb,simprocAttr,LM,QqO];exact .ext ac (((Ext.refl H).push _).up (by rw[Qd];exact aa)) ⟨by simp,_,rfl⟩
 | true=>
  have hb:=ab rfl;simp only[sxA,sxB,Nat.reduceBEq,Nat.reduceEqDiff,reduceCtorEq,mxA,mxB,Nat.reduceAdd,reduceIte,Nat.reduceLeDiff,splice,L8,QqO];have e:n.tmod 8=n % 8:=BM hb.1;exact⟨by decide,.ext ac (((Ext.refl H).push _).up (by rw[Qd];exact aa)) ⟨by rw[e],_,rfl⟩⟩
theorem QeW (r:Rg)(H:Qa):Qe prog 351 [.agg r.cells.toArray] H λu H'=>u=.int .i64 (Wi r)∧∃k,H'=H.up k:=by
 refine Qxy λac=>?_;have q:=Qad r;have ab:=@QDJ r;unfold Wi;obtain⟨v,ev⟩:∃v,XG r=v:=⟨_,rfl⟩;rw[ev]at q ab ⊢;obtain⟨c,n⟩:=r;simp only[Rg.cells]at q;simp only[Rg.cells,QqP,Qb,simprocAttr];refine(q _).thenW ?_;rintro _ _ aa ae ⟨rfl,k,rfl⟩;simp only[Qd,Ql]at aa;cases v with
 | false=>
  simp only[Qb,simprocAttr,LM,QoJ];exact .ext ac (((Ext.refl H).push _).up (by rw[Qd];exact aa)) ⟨by simp,_,rfl⟩
 | true=>
  have hb:=ab rfl;simp only[sxA,sxB,Nat.reduceBEq,Nat.reduceEqDiff,reduceCtorEq,mxA,mxB,Nat.reduceAdd,reduceIte,Nat.reduceLeDiff,splice,L8,QoJ];have e:IntKind.i64.wrap (n.tdiv 8)=n / 8:=by
   rw[Int.tdiv_eq_ediv_of_nonneg hb.1];have ad:0<=n∧n<16:=hb;exact w64 (show I64 (n / 8) by unfold I64;omega)
  exact⟨by decide,.ext ac (((Ext.refl H).push _).up (by rw[Qd];exact aa)) ⟨by rw[e],_,rfl⟩⟩
def Qnk (r:Rg):Bool:=(r.c==1)&&decide (4<=r.n)&&decide (r.n<=7)
def QsN (r:Rg):Bool:=(r.c==2)&&XG r
theorem QxD (r:Rg)(H:Qa):Qe prog 391 [.agg r.cells.toArray] H λu H'=>u=.bool (Qnk r)∧∃k,H'=H.up k:=by
 refine QvU λaa=>?_;obtain⟨c,n⟩:=r;unfold Qnk;simp only[Rg.cells,QoP,Qb,simprocAttr];cases h:c==1<;>cases q:decide (4<=n)<;>simp only[Qb,simprocAttr,h,q,Qt1]
 all_goals exact .ext aa ((Ext.refl H).push _) ⟨by simp,_,rfl⟩
theorem QzE (r:Rg)(H:Qa):Qe prog 392 [.agg r.cells.toArray] H λu H'=>u=.bool (QsN r)∧∃k,H'=H.up k:=by
 refine QxB λab=>?_;have q:=Qad r;unfold QsN;obtain⟨v,ev⟩:∃v,XG r=v:=⟨_,rfl⟩;rw[ev]at q ⊢;obtain⟨c,n⟩:=r;simp only[Rg.cells]at q;simp only[Rg.cells,QqS,Qb,simprocAttr];cases h:c==2 with
 | false=>
  simp only[Qb,simprocAttr,h,QoQ];exact .ext ab ((Ext.refl H).push _) ⟨rfl,_,rfl⟩
 | true=>
  simp only[Qb,simprocAttr,h];refine(q _).thenW ?_;rintro _ _ aa ac ⟨rfl,k,rfl⟩;simp only[Qd,Ql]at aa;simp only[Qb,simprocAttr,QoQ];exact .ext ab (((Ext.refl H).push _).up (by rw[Qd];exact aa)) ⟨rfl,_,rfl⟩
def QA (h m l:Int):Int:=h * 64+m * 8+l
theorem QDK:∀h:Fin 4,∀m:Fin 8,∀l:Fin 8,IntKind.u8.wrap (IntKind.i64.wrap (BitVec.ofInt IntKind.i64.bits (IntKind.i64.wrap (BitVec.ofInt IntKind.i64.bits (IntKind.i64.wrap ((h:Nat) * 2 ^ min ((6:Int)).toNat IntKind.i64.bits)) ||| BitVec.ofInt IntKind.i64.bits (IntKind.i64.wrap ((m:Nat) * 2 ^ min ((3:Int)).toNat IntKind.i64.bits))).toNat) ||| BitVec.ofInt IntKind.i64.bits ((l:Nat):Int)).toNat)=QA (h:Nat) (m:Nat) (l:Nat):=by decide +kernel
theorem ZN (h m l:Int)(q:0<=h∧h<4)(ab:0<=m∧m<8)(aa:0<=l∧l<8)(H:Qa):Qe prog 350 [.int .i64 h,.int .i64 m,.int .i64 l] H λu H'=>u=.int .u8 (QA h m l)∧H'=H:=by
 refine QtV λac=>?_;simp only[Qml,sxA,sxB,Nat.reduceBEq,Nat.reduceEqDiff,reduceCtorEq,mxA,mxB,Nat.reduceAdd,reduceIte,Nat.reduceLeDiff,splice,QsG];have e:=QDK ⟨h.toNat,by omega⟩ ⟨m.toNat,by omega⟩ ⟨l.toNat,by omega⟩;simp only[Bi q.1,Bi ab.1,Bi aa.1]at e;refine⟨by decide,by decide,.mk (Lb _) ⟨?_,rfl⟩⟩;rw[<- e]
theorem Qf1 (n sz:Int)(aa:I64 n)(H:Qa):Qe prog 383 [.int .i64 n,.int .i64 sz] H λv H'=>Gx 1 5 H H' v (Ku n sz).1.length (bys (Ku n sz).1)∧Ext H H':=by
 refine QvR λac=>?_;simp only[QoN,Qb,simprocAttr];refine(QqT n sz aa H).thenW ?_;rintro _ H1 _ ad ⟨v,rfl,ab,q⟩;simp only[Qb,simprocAttr,QtY];exact .mk q.next ⟨ab,q⟩
def noK:CallF:=λ_ _ _=>none
theorem QDL:CallOk prog noK:=λ_ _ _ _ _ h=>by cases h
def isW (u:Value):Option (Value×Qa)->Bool
 | some (v,_)=>QgC 6 u v
 | none=>false
theorem QsO {F G k:Nat}{f:FuncId}{args:List Value}{u:Value}(q:entered prog f=true)(aa:args.all Ab.plain=true)(ad:Ab.plain u=true)(h:isW u ((run prog noK F G k).fn f args (H0 prog))=true)(H:Qa):Qe prog f args H λv H'=>v=u∧H'=H:=by
 unfold isW at h;split at h
 ·rename_i v H1 ac;have ab:=((Qpx QDL k).fn f args _ _ H1 ac).does q;have e:u=v:=Qfm 6 _ _ h;subst e;exact QtF q (QDG ab aa ad H)
 ·cases h
def Ws (n:Int):Int:=if n=2 then 1 else if n=4 then 2 else if n=8 then 3 else 0
theorem Qda (n:Int):0<=Ws n∧Ws n<4:=by unfold Ws;repeat' (split<;>try omega)
theorem QzF:(([1,2,4,8]:List Int).all λn=>isW (.int .i64 (Ws n)) ((run prog noK 100 5 10).fn 385 [.int .i64 n] (H0 prog)))=true:=by kernel_rfl
theorem Qmr (n:Int)(q:XE n=true)(H:Qa):Qe prog 385 [.int .i64 n] H λu H'=>u=.int .i64 (Ws n)∧H'=H:=by
 have aa:n∈([1,2,4,8]:List Int):=by
  unfold XE at q;simp only[Nw,L0]at q;simp only[LK,Ns,NN];omega
 exact QsO (by kernel_rfl) rfl rfl (Li.1 QzF n aa) H
structure Ld where
 b:List Int
 x:Int
 h:Int
 deriving DecidableEq
def LdV (H0 H:Qa)(w:Ld)(v:Value):Prop:=∃s,v=.agg #[s,.int .i64 w.x,.int .i64 w.h]∧Gx 1 5 H0 H s w.b.length (bys w.b)
theorem QkG (n sz:Int)(h:sz<=8):(Ku n sz).1.length<=8:=by
 unfold Ku;split
 ·simp
 ·split
  ·simp
  ·simp[Qfa];omega
def Qa6 (mid:Int)(q:Rg)(f d:Int):Ld:=⟨[QA 0 mid 4,bif isR q 0 0 then QA 0 4 5 else QA (Ws f) (Wj q) 5]++(Ku d 4).1,Wi q,0⟩
theorem Qms (mid:Int)(q:Rg)(f d:Int)(aJ:0<=mid∧mid<8)(aG:isR q 0 0=false->XE f=true)(aE:I64 d)(H:Qa):
  Qe prog 384 [.int .i64 mid,.agg q.cells.toArray,.int .i64 f,.int .i64 d] H λv H'=>LdV H H' (Qa6 mid q f d) v∧Ext H H':=by
 refine QsK λaN=>?_;have aq:=Jr q;have aL:=Qda f;have aj:=QcJ q;have ak:=QeW q;have aY:=QkG d 4 (by decide);have aF:(q.c==0&&q.n==0)=isR q 0 0:=rfl;have az:QA 0 4 5=37:=rfl;obtain⟨w,aa⟩:∃w,w=Qa6 mid q f d:=⟨_,rfl⟩;rw[<- aa];unfold Qa6 at aa;obtain⟨ai,an⟩:∃ai,Wj q=ai:=⟨_,rfl⟩;obtain⟨hi,am⟩:∃hi,Wi q=hi:=⟨_,rfl⟩;rw[an]at aj aq aa;rw[am]at ak aa;clear an am;obtain⟨c,n⟩:=q;simp only[Rg.cells]at aj ak;simp only[Rg.cells,Qkz,Qb,simprocAttr];generalize ab:Qa.push (Qa.push H _) _=H1;have aw:Ext H H1:=by rw[<- ab];exact((Ext.refl H).push _).push _
 have aO:H1.Wf:=by rw[<- ab];exact(aN.push _).push _
 have g0:H1.get H.next=some (.cells [.int .i64 c,.int .i64 n] 54 false):=by rw[<- ab,Qc,Le (by rw[Qd];omega),Qc,Lc rfl]
 have g1:H1.get (H.next+1)=some (.cells [.slice none 0 0,.int .i64 0,.int .i64 0] 120 false):=by rw[<- ab,Qc,Lc (by rw[Qd])]
 have aX:H1.next=H.next+2:=by rw[<- ab];rfl
 clear ab;refine(ZN 0 4 5 (by decide) (by decide) (by decide) H1).thenW ?_;rintro _ H1 _ _ ⟨rfl,rfl⟩
 -- the end,of any byte of SIB
 have ao:∀ (sib:Int) (A:Env) (H2:Qa),Ext H1 H2->H2.Wf->w=⟨[QA 0 mid 4,sib]++(Ku d 4).1,hi,0⟩->A 0=.int .i64 mid->A 3=.int .i64 d->A 5=.pointer (some ⟨H.next,0,none⟩)->A 8=.pointer (some ⟨H.next+1,0,none⟩)->A 9=.int .u8 sib->
   Qm prog (.seq (.ops [Om 20 (t 0),Ow 21 (.call 350 [(Ci 0),(t 20),(Ci 4)]),Om 22 (t 9),Ow 23 (.bslice 5 1 2 [.int .u8 0,.int .u8 0] [(0,(t 21)),(1,(t 22))]),Om 24 (t 3),Ow 25 (.call 383 [(t 24),(Ci 4)]),Ow 26 (.app 5 1 1 (t 23) (t 25)),Om 10 (t 26)]) (.seq (.ops [Om 27 (t 10),Ow 28 (.ld true 2 (t 5)),Ow 29 (.call 351 [(t 28)]),Ow 30 (.build [.slice none 0 0,.int .i64 0,.int .i64 0] [(0,1,(t 27)),(1,1,(t 29))]),Ov (.st 3 (t 8) (t 30))]) .ret)) ⟨Rt prog Tryz.f384 H λv H'=>LdV H H' w v∧Ext H H',WL⟩ (Rt prog Tryz.f384 H λv H'=>LdV H H' w v∧Ext H H') A H2:=by
  intro sib A H2 ad aP e aA r3 r5 al aB;simp only[Qb,simprocAttr,aA,r3,r5,al,aB];refine(ZN 0 mid 4 (by decide) aJ (by decide) H2).thenW ?_;rintro _ H2 _ _ ⟨rfl,rfl⟩;simp only[Qb,simprocAttr,aA,r3,r5,al,aB];have aQ:=(Ext.refl H2).push (.cells [.int .u8 (QA 0 mid 4),.int .u8 sib] 5 false);have ag:=aP.push (.cells [.int .u8 (QA 0 mid 4),.int .u8 sib] 5 false);have aK:Gx 1 5 H2 (H2.push (.cells [.int .u8 (QA 0 mid 4),.int .u8 sib] 5 false)) (.slice (some ⟨H2.next,0,none⟩) 2 2) 2 (bys [QA 0 mid 4,sib]):=.inr ⟨_,_,rfl,Lb _,by rw[Qc,Lc rfl];rfl,rfl,.inl rfl⟩;generalize H2.push _=H3 at *;refine(Qf1 d 4 aE H3).thenW ?_;rintro ba H4 _ av ⟨aM,ax⟩;simp only[Qb,simprocAttr];refine Y8 (aK.go ag ax) (aQ.trans ax) av aM.src (ZK _) (by rw[Xe,NH]) (by omega) (by omega) ?_;intro bb H5 ae ac;have aT:H5.get H.next=some (.cells [.int .i64 c,.int .i64 n] 54 false):=by rw[(ad.trans ac.x).get _ (by omega)];exact g0
  simp only[Qb,simprocAttr,r5,aT];refine(ak H5).thenW ?_;rintro _ _ au aZ ⟨rfl,k,rfl⟩;simp only[Ql]at au;have aR:=(ad.trans ac.x).up au;have k1:H5.get (H.next+1)=some (.cells [.slice none 0 0,.int .i64 0,.int .i64 0] 120 false):=by rw[(ad.trans ac.x).get _ (by omega)];exact g1
  obtain⟨a5,aC,rfl⟩:=ae.slc;simp only[Qb,simprocAttr,al,k1,Qrj];have aS:=aw.trans aR;have ay:=aS.set (i:=H.next+1) (by omega) (.cells [.slice a5 (2+(Ku d 4).1.length) aC,.int .i64 hi,.int .i64 0] 120 false);refine .mk ay.next ⟨⟨_,by rw[e],?_⟩,ay⟩;have aI:w.b.length=2+(Ku d 4).1.length:=by rw[e];simp only[Lh,Lo,L9]
  have aD:bys w.b=bys [QA 0 mid 4,sib]++bys (Ku d 4).1:=by rw[e,Jg]
  have aU:=aw.next;have aV:=ad.next;rw[aI,aD];refine(ae.down (H0:=H) (by omega)).ext λid aH=>?_;have aW:=ae.low ac.w aH;rw[Qn,Le (by omega),Zk]
 simp only[Qb,simprocAttr,g0,Qs,Lq,aF];cases ah:isR ⟨c,n⟩ 0 0 with
 | true=>
  rw[ah,Lq]at aa;simp only[L8,QhX,Qep];refine ao 37 _ H1 (.refl _) aO ?_ ?_ ?_ ?_ ?_ ?_
  ·rw[aa,az]
  all_goals simp only[Qg,simprocAttr,az]
 | false=>
  rw[ah,Ls]at aa;simp only[LM,QnS,Qb,simprocAttr];refine⟨by omega,?_⟩;refine(Qmr f (aG ah) H1).thenW ?_;rintro _ H1 _ _ ⟨rfl,rfl⟩;simp only[Qb,simprocAttr,g0];refine⟨λ_ _=>rfl,by simp[Qi,Ab.plain],?_⟩;refine(aj H1).thenW ?_;rintro _ _ ar ag ⟨rfl,k,rfl⟩;simp only[Ql]at ar;simp only[Qb,simprocAttr];refine(ZN (Ws f) ai 5 aL aq (by decide) _).thenW ?_;rintro _ _ _ av ⟨rfl,rfl⟩;simp only[Ka,Ym,YN,Zg,Qkb];refine ao _ _ (H1.up k) ((Ext.refl H1).up ar) ag aa ?_ ?_ ?_ ?_ ?_
  all_goals simp only[Qg,simprocAttr]
def QFD (pre:Int):List Int:=(if pre % 2=1 then[102] else[])++((if pre / 2 % 2=1 then[242] else[])++(if pre / 4 % 2=1 then[243] else[]))
def JW (pre q:Int):List Int:=QFD pre++(if 0<=q then[64+q] else[])
def QIV:Option (Value×Qa)->Nat
 | some (.tuple xs,_)=>match xs.toList with | .slice (some a) _ _::_=>a.block | _=>0
 | _=>0
def QxE (bs:List Int)(e:Int):Value:=.tuple #[bif bs.isEmpty then .slice none 0 0 else .slice (some ⟨prog.globals.size,0,none⟩) bs.length (UNK+1),.int .i64 e]
def QxF (r:Option (Value×Qa))(bs:List Int):List Row:=bif bs.isEmpty then[] else[⟨QIV r,bys bs,5,false⟩]
def QzG (f:FuncId)(args:List Value):Option (Value×Qa):=(run prog noK 2000 5 20).fn f args (JU prog.globals.size [])
theorem QoV {f:FuncId}{args:List Value}{bs:List Int}{e:Int}(ab:entered prog f=true)(ae:args.all ZC=true)(h:QqM prog.globals.size (QxE bs e) (QxF (QzG f args) bs) (QzG f args)=true)(H:Qa):Qe prog f args H λu H'=>∃v,u=.tuple #[v,.int .i64 e]∧Gx 1 5 H H' v bs.length (bys bs)∧Ext H H':=by
 have aa:=QDF QDL (tabs:=[]) ab ae rfl h H rfl;intro ac;cases hb:bs.isEmpty with
 | true=>
  have ag:bs=[]:=DF.1 hb;subst ag;exact⟨_,_,.inl ⟨ab,aa⟩,Lb _,ac,.slice none 0 0,rfl,.inl ⟨rfl,rfl,rfl⟩,.refl _⟩
 | false=>
  have ad:Ext H (H.push (.cells (bys bs) 5 false)):=(Ext.refl H).push _;refine⟨.tuple #[.slice (some ⟨H.next,0,none⟩) bs.length (UNK+1),.int .i64 e],H.push (.cells (bys bs) 5 false),.inl ⟨ab,?_⟩,ad.next,ac.push _,_,rfl,.inr ⟨_,_,rfl,Lb _,by rw[Qc,Lc rfl],by rw[Xe,NH],.inr ⟨rfl,by cases bs with | nil=>cases hb | cons=>simp⟩⟩,ad⟩
  by_cases ai:prog.globals.size<=H.next
  ·have e1:shV prog.globals.size (H.next - prog.globals.size) 6 (QxE bs e)=.tuple #[.slice (some ⟨H.next,0,none⟩) bs.length (UNK+1),.int .i64 e]:=by
    have q:shN prog.globals.size (H.next - prog.globals.size) prog.globals.size=H.next:=by
     unfold shN;have:Nat.blt prog.globals.size prog.globals.size=false:=by
      cases ah:Nat.blt prog.globals.size prog.globals.size with
      | false=>rfl
      | true=>rw[B5]at ah;omega
     rw[this,Ls];omega
    unfold QxE;rw[hb,Ls];show Value.tuple #[.slice (some ⟨shN prog.globals.size (H.next - prog.globals.size) prog.globals.size,0,none⟩) bs.length (UNK+1),.int .i64 e]=_;rw[q]
   have e2:QtM prog.globals.size (QxF (QzG f args) bs) H=H.push (.cells (bys bs) 5 false):=by
    have e3:(bys bs).map (shV prog.globals.size (H.next - prog.globals.size) 6)=bys bs:=by
     unfold bys;rw[Ht];rfl
    unfold QxF;rw[hb,Ls];show H.push (.cells ((bys bs).map (shV prog.globals.size (H.next - prog.globals.size) 6)) 5 false)=_;rw[e3]
   rw[e1,e2]at aa;exact aa
  ·intro ρ w args' q _;exfalso;obtain⟨i,hi,_⟩:=q.glob H.next (by omega);rw[q.none_next]at hi;cases hi
def Qlz:List (Int×Int):=([0,1,2,3,4,5]:List Int).flatMap λp=>((List.range 17).map fun(k:Nat)=>(p,(k:Int) - 1))
theorem QDM:(Qlz.all λp=>QqM prog.globals.size (QxE (JW p.1 p.2) 0) (QxF (QzG 360 [.int .i64 p.1,.int .i64 p.2]) (JW p.1 p.2)) (QzG 360 [.int .i64 p.1,.int .i64 p.2]))=true:=by kernel_rfl
theorem QCd (pre q:Int)(ab:0<=pre∧pre<=5)(ac:-1<=q∧q<=15)(H:Qa):Qe prog 360 [.int .i64 pre,.int .i64 q] H λu H'=>∃v,u=.tuple #[v,.int .i64 0]∧Gx 1 5 H H' v (JW pre q).length (bys (JW pre q))∧Ext H H':=by
 have aa:(pre,q)∈Qlz:=by
  unfold Qlz;rw[NF];refine⟨pre,?_,N4.2 ⟨(q+1).toNat,LU.2 (by omega),?_⟩⟩
  ·simp only[LK,Ns,NN];omega
  ·have:((q+1).toNat:Int) - 1=q:=by omega
   rw[this]
 exact QoV (by kernel_rfl) rfl (Li.1 QDM _ aa) H
def QGT (n:Int)(p:Int×Int):Int:=IntKind.i64.wrap (BitVec.ofInt IntKind.i64.bits (IntKind.i64.wrap (n * 2 ^ (min p.2.toNat IntKind.i64.bits))) ||| BitVec.ofInt IntKind.i64.bits p.1).toNat
def QsP (q:List (Int×Int)):Int:=q.foldl QGT 0
def prs (q:List (Int×Int)):List Value:=q.flatMap λp=>[.int .i64 p.1,.int .i64 p.2]
theorem QA1:∀q:List (Int×Int),(prs q).length=q.length * 2
 | []=>rfl
 | p::q=>by
  have:=QA1 q;unfold prs at *;rw[Ba,Lh,this];simp;omega
theorem QDN:∀ (aa:List (Int×Int)) (i:Nat) (p:Int×Int),aa[i]? = some p->((prs aa).drop (i * 2)).take 2=[.int .i64 p.1,.int .i64 p.2]
 | [],i,p,h=>by simp at h
 | q::aa,0,p,h=>by simp at h;subst h;rfl
 | q::aa,i+1,p,h=>by
  have:=QDN aa i p (by simpa using h);have e:prs (q::aa)=[.int .i64 q.1,.int .i64 q.2]++prs aa:=rfl;rw[e,show(i+1) * 2=2+i * 2 by omega,<- Rc];exact this
theorem QuN (q:List (Int×Int))(an:∀p∈q,0<=p.2)(au:q.length<=100){b cap:Nat}{e:TypeId}{ro:Bool}(H:Qa)(ae:H.get b=some (.cells (prs q) e ro)):Qe prog 388 [.slice (some ⟨b,0,none⟩) q.length cap] H λu H'=>u=.int .i64 (QsP q)∧Ext H H':=by
 refine QzC λag=>?_;have am:=ag.lt ae;simp only[QsL,Qb,simprocAttr,QL];refine Qo (λm A' H'=>∃i:Nat,i<=q.length∧m=q.length - i∧H'.Wf∧Ext H H'∧A' 3=.int .i64 (QsP (q.take i))∧A' 6=.slice (some ⟨b,0,none⟩) q.length cap∧A' 7=.int .i64 q.length∧A' 8=.int .i64 i) q.length ?_ ?_
 ·refine⟨0,L7 _,by omega,ag,.refl _,?_,?_,?_,?_⟩
  all_goals simp only[Qg,simprocAttr]
  all_goals rfl
 ·rintro m A' H' ⟨i,hi,rfl,ar,ab,r3,ah,ai,ad⟩;simp only[Qb,simprocAttr,ai,ad];refine Qf (λaa=>?_) (λaa=>?_)
  ·have aa:i<q.length:=by have:=Lg aa;omega
   obtain⟨p,ac⟩:∃p,q[i]? = some p:=⟨_,La aa⟩;have aj:=an p (Ln ac);have d1:(0:Int)<=i∧(i:Int)<q.length:=by omega
   have d3:(i:Int).toNat=i:=by omega
   have ei:IntKind.i64.wrap ((i:Int)+1)=((i+1:Nat):Int):=by rw[w64 (by unfold I64;omega)];omega
   have al:i * 2+2<=(prs q).length:=by rw[QA1];omega
   have ak:H'.get b=some (.cells (prs q) e ro):=by rw[ab.get _ am];exact ae
   have ao:=QDN q i p ac;have aq:QsP (q.take (i+1))=QGT (QsP (q.take i)) p:=by
    unfold QsP;rw[Nv,ac,List.foldl_append];rfl
   simp only[Qb,simprocAttr,r3,ah,ad,d1,d3,ak,ao,aj];refine⟨al,?_⟩;refine⟨q.length - (i+1),by omega,i+1,by omega,rfl,?_,((ab.push _).set (by have:=ab.next;omega) _),?_,?_,?_,?_⟩
   ·exact(ar.push _).set (b0:=.cells [.int .i64 0,.int .i64 0] 294 false) (by rw[Qc,Lc rfl]) _
   ·rw[aq];simp only[Qg,simprocAttr];rfl
   all_goals simp only[Qg,simprocAttr,ah,ai,ad,ei]
  ·have aa:i=q.length:=by have:=Ll aa;omega
   subst aa;rw[Nr]at r3;simp only[Qb,simprocAttr,r3,Qxz];exact .mk ab.next ⟨rfl,ab⟩
structure Vx where
 r:Int
 x:Int
 b:Int
 mp:Int
 w:Int
 v:Int
 l:Int
 pre:Int
def Vx.cells (y:Vx):List Value:=[.int .i64 y.r,.int .i64 y.x,.int .i64 y.b,.int .i64 y.mp,.int .i64 y.w,.int .i64 y.v,.int .i64 y.l,.int .i64 y.pre]
structure Vx.Ok (y:Vx):Prop where
 r:0<=y.r∧y.r<2
 x:0<=y.x∧y.x<2
 b:0<=y.b∧y.b<2
 mp:1<=y.mp∧y.mp<4
 w:0<=y.w∧y.w<2
 v:0<=y.v∧y.v<16
 l:0<=y.l∧y.l<2
 pre:y.pre=0∨y.pre=1∨y.pre=2∨y.pre=4
def K3 (n:Int):Int:=if n=1 then 1 else if n=4 then 2 else if n=2 then 3 else 0
theorem QrK (n:Int):0<=K3 n∧K3 n<4:=by unfold K3;repeat' (split<;>try omega)
theorem QoW (n:Int)(H:Qa):Qe prog 389 [.int .i64 n] H λu H'=>u=.int .i64 (K3 n)∧H'=H:=by
 refine Qt0 λq=>?_;simp only[Qmp,Qb,simprocAttr];unfold K3
 repeat' (first
  | (refine Qf (λh=>?_) (λh=>?_)<;>(try simp only[L0,LC,Da]at h)<;>simp only[JL,simprocAttr,h,QsM,N3,LN])
  | fail)
 all_goals exact .mk (Lb _) ⟨rfl,rfl⟩
def vb2 (y:Vx):Int:=(1 - y.r) * 128+(15 - y.v) * 8+y.l * 4+K3 y.pre
def vbm (y:Vx):Int:=(1 - y.r) * 128+(1 - y.x) * 64+(1 - y.b) * 32+y.mp
def vbn (y:Vx):Int:=y.w * 128+(15 - y.v) * 8+y.l * 4+K3 y.pre
def Vk (y:Vx):List Int:=[196,vbm y,vbn y]
theorem QFE:∀r:Fin 2,∀v:Fin 16,∀l:Fin 2,∀p:Fin 4,IntKind.u8.wrap (IntKind.i64.wrap (BitVec.ofInt IntKind.i64.bits (QsP [((r:Nat),1),((v:Nat),4),((l:Nat),1),((p:Nat),2)]) ^^^ BitVec.ofInt IntKind.i64.bits 248).toNat)=(1 - (r:Nat):Int) * 128+(15 - (v:Nat):Int) * 8+(l:Nat) * 4+(p:Nat):=by decide +kernel
theorem QFF:∀r:Fin 2,∀v:Fin 16,∀l:Fin 2,∀p:Fin 4,IntKind.u8.wrap (IntKind.i64.wrap (BitVec.ofInt IntKind.i64.bits (QsP [((r:Nat),1),((v:Nat),4),((l:Nat),1),((p:Nat),2)]) ^^^ BitVec.ofInt IntKind.i64.bits 120).toNat)=((r:Nat):Int) * 128+(15 - (v:Nat):Int) * 8+(l:Nat) * 4+(p:Nat):=by decide +kernel
theorem QFG:∀r:Fin 2,∀x:Fin 2,∀b:Fin 2,∀m:Fin 4,IntKind.u8.wrap (IntKind.i64.wrap (BitVec.ofInt IntKind.i64.bits (QsP [((r:Nat),1),((x:Nat),1),((b:Nat),1),((m:Nat),5)]) ^^^ BitVec.ofInt IntKind.i64.bits 224).toNat)=(1 - (r:Nat):Int) * 128+(1 - (x:Nat):Int) * 64+(1 - (b:Nat):Int) * 32+(m:Nat):=by decide +kernel
theorem QHF {y:Vx}(h:y.Ok):IntKind.u8.wrap (IntKind.i64.wrap (BitVec.ofInt IntKind.i64.bits (QsP [(y.r,1),(y.v,4),(y.l,1),(K3 y.pre,2)]) ^^^ BitVec.ofInt IntKind.i64.bits 248).toNat)=vb2 y:=by
 have aa:=QrK y.pre;have ab:=h.r;have ac:=h.v;have q:=h.l;have e:=QFE ⟨y.r.toNat,by omega⟩ ⟨y.v.toNat,by omega⟩ ⟨y.l.toNat,by omega⟩ ⟨(K3 y.pre).toNat,by omega⟩;simp only[Bi ab.1,Bi ac.1,Bi q.1,Bi aa.1]at e;exact e
theorem QHG {y:Vx}(h:y.Ok):IntKind.u8.wrap (IntKind.i64.wrap (BitVec.ofInt IntKind.i64.bits (QsP [(y.w,1),(y.v,4),(y.l,1),(K3 y.pre,2)]) ^^^ BitVec.ofInt IntKind.i64.bits 120).toNat)=vbn y:=by
 have aa:=QrK y.pre;have ab:=h.w;have ac:=h.v;have q:=h.l;have e:=QFF ⟨y.w.toNat,by omega⟩ ⟨y.v.toNat,by omega⟩ ⟨y.l.toNat,by omega⟩ ⟨(K3 y.pre).toNat,by omega⟩;simp only[Bi ab.1,Bi ac.1,Bi q.1,Bi aa.1]at e;exact e
theorem QHH {y:Vx}(h:y.Ok):IntKind.u8.wrap (IntKind.i64.wrap (BitVec.ofInt IntKind.i64.bits (QsP [(y.r,1),(y.x,1),(y.b,1),(y.mp,5)]) ^^^ BitVec.ofInt IntKind.i64.bits 224).toNat)=vbm y:=by
 have aa:=h.r;have ab:=h.x;have hb:=h.b;have ac:=h.mp;have q:0<=y.mp:=by omega
 have e:=QFG ⟨y.r.toNat,by omega⟩ ⟨y.x.toNat,by omega⟩ ⟨y.b.toNat,by omega⟩ ⟨y.mp.toNat,by omega⟩;simp only[Bi aa.1,Bi ab.1,Bi hb.1,Bi q]at e;exact e
theorem QsQ {y:Vx}(h:y.Ok)(H:Qa):Qe prog 390 [.agg y.cells.toArray] H λv H'=>Gx 1 5 H H' v 3 (bys (Vk y))∧Ext H H'∧∃a,v=.slice a 3 3:=by
 refine QxA λao=>?_;have ab:=QHH h;have ac:=QHG h;unfold Vk;generalize vbm y=zm at *;generalize vbn y=zn at *;have ad:=fun(am:List (Int×Int)) hp hl (b cap:Nat) e ro (H:Qa)=>QuN (cap:=cap) (b:=b) (e:=e) (ro:=ro) am hp hl H;obtain⟨r,x,b,mp,w,v,l,pre⟩:=y;simp only at ab ac;simp only[Vx.cells,QqR,Qb,simprocAttr,Nat.reduceMul];generalize q:Qa.push (Qa.push H _) _=H1;have ai:Ext H H1:=by rw[<- q];exact((Ext.refl H).push _).push _
 have g1:H1.get (H.next+1)=some (.cells (prs [(r,1),(x,1),(b,1),(mp,5)]) 294 false):=by rw[<- q,Qc,Lc (by rw[Qd])];rfl
 have g0:H1.get H.next=some (.cells [.int .i64 r,.int .i64 x,.int .i64 b,.int .i64 mp,.int .i64 w,.int .i64 v,.int .i64 l,.int .i64 pre] 146 false):=by rw[<- q,Qc,Le (by rw[Qd];omega),Qc,Lc rfl]
 have an:H1.next=H.next+2:=by rw[<- q];rfl
 clear q;refine(ad [(r,1),(x,1),(b,1),(mp,5)] (by simp) (by simp) _ _ _ _ H1 g1).thenW ?_;rintro _ H2 _ aq ⟨rfl,ae⟩;have al:=(ae.get H.next (by omega)).trans g0;simp only[Qb,simprocAttr,al];refine⟨by simp[Qi,Ab.plain],by simp[Qi,Ab.plain],by simp[Qi,Ab.plain],?_⟩;refine(QoW pre H2).thenW ?_;rintro _ H2 _ _ ⟨rfl,rfl⟩;simp only[Qb,simprocAttr,Nat.reduceMul];refine⟨λ_ _=>rfl,?_⟩;generalize aa:Qa.push H2 _=H3;have aj:Ext H2 H3:=by rw[<- aa];exact(Ext.refl H2).push _
 have g3:H3.get H2.next=some (.cells (prs [(w,1),(v,4),(l,1),(K3 pre,2)]) 294 false):=by rw[<- aa,Qc,Lc rfl];rfl
 clear aa;refine(ad [(w,1),(v,4),(l,1),(K3 pre,2)] (by simp) (by simp) _ _ _ _ H3 g3).thenW ?_;rintro _ H4 _ ar ⟨rfl,ak⟩;simp only[Qb,simprocAttr,ab,ac,QvT];have ag:=(((ai.trans ae).trans aj).trans ak);have ah:=ag.push (.cells [.int .u8 196,.int .u8 zm,.int .u8 zn] 5 false);exact .mk ah.next ⟨.inr ⟨_,_,rfl,ag.next,by rw[Qc,Lc rfl];rfl,rfl,.inl rfl⟩,ah,_,rfl⟩
theorem QxG {y:Vx}(h:y.Ok)(H:Qa):Qe prog 387 [.agg y.cells.toArray] H λu H'=>u=.int .i64 0∧Ext H H':=by
 refine QvS λar=>?_;have aq:=h;obtain⟨ae,q,ag,am,ah,an,ai,aj⟩:=h;obtain⟨r,x,b,mp,w,v,l,pre⟩:=y;simp only at ae q ag am ah an ai aj;simp only[Vx.cells,QoO,Qb,simprocAttr,QL];generalize aa:Qa.push (Qa.push H _) _=H1;have ak:Ext H H1:=by rw[<- aa];exact((Ext.refl H).push _).push _
 have g1:H1.get (H.next+1)=some (.cells (ints [r,x,b,w,l]) 3 false):=by rw[<- aa,Qc,Lc (by rw[Qd])];rfl
 have g0:H1.get H.next=some (.cells [.int .i64 r,.int .i64 x,.int .i64 b,.int .i64 mp,.int .i64 w,.int .i64 v,.int .i64 l,.int .i64 pre] 146 false):=by rw[<- aa,Qc,Le (by rw[Qd];omega),Qc,Lc rfl]
 clear aa;refine Qo (λm A' H'=>∃i:Nat,i<=5∧m=5 - i∧H'=H1∧A' 1=.pointer (some ⟨H.next,0,none⟩)∧A' 15=.slice (some ⟨H.next+1,0,none⟩) 5 5∧A' 16=.int .i64 5∧A' 17=.int .i64 i) 5 ?_ ?_
 ·refine⟨0,by omega,rfl,rfl,?_,?_,?_,?_⟩
  all_goals simp only[Qg,simprocAttr]
  all_goals rfl
 ·rintro m A' H' ⟨i,hi,rfl,rfl,r1,ac,ad,ab⟩;simp only[QkE,Qb,simprocAttr,ad,ab];refine Qf (λq=>?_) (λq=>?_)
  ·have q:i<5:=by have:=Lg q;omega
   obtain⟨z,ao,au⟩:∃z,(ints [r,x,b,w,l])[i]? = some (.int .i64 z)∧0<=z∧z<2:=by
    rcases i with _ | _ | _ | _ | _ | i
    ·exact⟨r,rfl,ae⟩
    ·exact⟨x,rfl,by assumption⟩
    ·exact⟨b,rfl,ag⟩
    ·exact⟨w,rfl,ah⟩
    ·exact⟨l,rfl,ai⟩
    ·omega
   have d1:(0:Int)<=i∧(i:Int)<(5:Nat):=by omega
   have d3:(i:Int).toNat=i:=by omega
   have ei:IntKind.i64.wrap ((i:Int)+1)=((i+1:Nat):Int):=by rw[w64 (by unfold I64;omega)];omega
   simp only[QkD,sxA,sxB,Nat.reduceBEq,Nat.reduceEqDiff,reduceCtorEq,mxA,mxB,Nat.reduceAdd,reduceIte,Nat.reduceLeDiff,splice,ac,ab,d1,d3,g1,ao];rcases(show z=0∨z=1 by omega) with rfl | rfl
   ·simp only[Qb,simprocAttr,LO,L8,ab,ei];refine⟨5 - (i+1),by omega,i+1,by omega,rfl,rfl,?_,?_,?_,?_⟩
    all_goals simp only[Qg,simprocAttr,r1,ac,ad]
   ·have al:((1:Int)==0)=false:=rfl;simp only[Qb,simprocAttr,al,LO,LM,L8,ab,ei];refine⟨5 - (i+1),by omega,i+1,by omega,rfl,rfl,?_,?_,?_,?_⟩
    all_goals simp only[Qg,simprocAttr,r1,ac,ad]
  ·have e1:decide (mp<1)=false:=Lj (by omega);have e2:decide (3<mp)=false:=Lj (by omega);have e3:decide (v<0)=false:=Lj (by omega);have e4:decide (15<v)=false:=Lj (by omega);simp only[QkC,Qb,simprocAttr,r1,g0,e1,e2,e3,e4,B4];rcases aj with rfl | rfl | rfl | rfl
   all_goals simp only[QkB,QkA,Qb,simprocAttr,r1,g0,LO,Int.reduceBEq,QtZ]
   all_goals exact .mk ak.next ⟨rfl,ak⟩
structure Zu (e:TypeId) (H0 H:Qa) (v:Value) (bss:List (List Int)):Prop where
 ne:e≠5
 it:∃ss:List Value,ss.length=bss.length∧Gx 1 e H0 H v bss.length ss∧∀ (j:Nat) s bs,ss[j]? = some s->bss[j]? = some bs->Gx 1 5 H0 H s bs.length (bys bs)
theorem Zu.nil {e:TypeId}(q:e≠5)(H0 H:Qa):Zu e H0 H (.slice none 0 0) []:=⟨q,[],rfl,.inl ⟨rfl,rfl,rfl⟩,λj s w h=>by simp at h⟩
theorem Zu.go {e:TypeId}{H0 H H':Qa}{v:Value}{ws:List (List Int)}(h:Zu e H0 H v ws)(q:H.Wf)(aa:Ext H H'):Zu e H0 H' v ws:=by
 obtain⟨ss,ab,ac,ad⟩:=h.it;exact⟨h.ne,ss,ab,ac.go q aa,λj s w ae ag=>(ad j s w ae ag).go q aa⟩
theorem Zu.down {e:TypeId}{H0 H1 H:Qa}{v:Value}{ws:List (List Int)}(h:Zu e H1 H v ws)(q:H0.next<=H1.next):Zu e H0 H v ws:=by
 obtain⟨ss,aa,ab,ac⟩:=h.it;exact⟨h.ne,ss,aa,ab.down q,λj s w ad ae=>(ac j s w ad ae).down q⟩
theorem Zu.slc {e:TypeId}{H0 H:Qa}{v:Value}{ws:List (List Int)}(h:Zu e H0 H v ws):∃a c,v=.slice a ws.length c:=by
 obtain⟨ss,aa,q,ab⟩:=h.it;exact q.slc
theorem QkH {e bytes:Nat}{H0 H:Qa}{v s x:Value}{bs:List Int}{ws:List (List Int)}{k:Value->Qa->Prop}(ag:Zu e H0 H v ws)(ay:Ext H0 H)(al:H.Wf)(ak:Gx 1 5 H0 H s bs.length (bys bs))(ax:Zt 1 x H=some (1,[s]))(hb:(ws.length+1) * bytes<=140737488355328)(ar:ws.length+1<=9223372036854775807)
  (h:∀ad H',Zu e H0 H' ad (ws++[bs])->GK v ad H0 H H'->k ad H'):QbP e 1 bytes v x H k:=by
 obtain⟨ss,ah,ae,ao⟩:=ag.it;have av:([s]:List Value).all (·.oneCell')=true:=by
  obtain⟨a,c,rfl⟩:=ak.slc;rfl
 refine Y8 ae ay al ax av rfl hb ar ?_;intro ad H' aq aj;refine h ad H' ⟨ag.ne,ss++[s],by simp[ah],?_,λj az w' q ab=>?_⟩ aj
 ·rw[Lh];exact aq
 ·have au:∀id c',H.get id=some (.cells c' 5 false)->¬inB v id:=λid c' ai hi=>by
   obtain⟨o,aA,c,rfl⟩:=hi;rcases ae with⟨h,_,_⟩ | ⟨b,c,h,am,ac,an⟩
   ·cases h
   ·cases h;rw[ac]at ai;cases ai;exact ag.ne rfl
  have key:∀ {s:Value} {bs:List Int},Gx 1 5 H0 H s bs.length (bys bs)->Gx 1 5 H0 H' s bs.length (bys bs):=λaw=>by
   rcases aw with ae | ⟨b,c,rfl,am,ac,an⟩
   ·exact .inl ae
   ·exact .inr ⟨b,c,rfl,am,by rw[aj.keep b (al.lt ac) (au b _ ac)];exact ac,an⟩
  rcases Dj j ss.length with aa | aa | aa
  ·rw[LY aa]at q;rw[LY (by omega)]at ab;exact key (ao j az w' q ab)
  ·rw[LR (by omega)]at q ab;rw[aa,BJ]at q;rw[aa,ah,BJ]at ab;cases q;cases ab;exact key ak
  ·have:=(Lk.1 q).1;simp at this;omega
def Qrk (y:Vx)(any:Bool):List (List Int):=
 (if(y.x=0∧y.b=0∧(any=true∨y.w=0))∧y.mp=1 then[[197,vb2 y]] else[])++([Vk (bif any then {y with w:=0} else y)]++(bif any then[Vk {y with w:=1}] else[]))
theorem Vx.Ok.setW {y:Vx}(h:y.Ok)(n:Int)(q:0<=n∧n<2):Vx.Ok {y with w:=n}:=⟨h.r,h.x,h.b,h.mp,q,h.v,h.l,h.pre⟩
section
variable {H:Qa} {W:List (List Int)}
abbrev KV (H:Qa)(W:List (List Int)):Env->Qa->Prop:=Rt prog Tryz.f357 H λu H'=>∃v,u=.tuple #[v,.int .i64 0]∧Zu 27 H H' v W∧Ext H H'
theorem Qf2 (H:Qa)(s:Value):Zt 1 (.slice (some ⟨H.next,0,none⟩) 1 1) (H.push (.cells [s] 27 false))=some (1,[s]):=QnZ (by rw[Qc,Lc rfl])
theorem Zu.keep {e:TypeId}{H0 H H':Qa}{v:Value}{ws:List (List Int)}(h:Zu e H0 H v ws)(ad:∀id,H0.next<=id->H'.get id=H.get id):Zu e H0 H' v ws:=by
 obtain⟨ss,ab,q,ac⟩:=h.it;have key:∀ {e:TypeId} {v:Value} {n:Nat} {cs:List Value},Gx 1 e H0 H v n cs->Gx 1 e H0 H' v n cs:=λae=>by
  rcases ae with q | ⟨b,c,rfl,aa,ag,ah⟩
  ·exact .inl q
  ·exact .inr ⟨b,c,rfl,aa,by rw[ad b aa];exact ag,ah⟩
 exact⟨h.ne,ss,ab,key q,λj s w a b=>key (ac j s w a b)⟩
theorem QIW {y:Vx}(h:y.Ok)(any:Bool){ws:List (List Int)}(aP:ws.length<=5){v:Value}{A:Env}{Hb H1:Qa}(aU:Hb.next=H.next+1)(aB:Zu 27 Hb H1 v ws)(ag:Ext Hb H1)(aG:Ext H H1)(aE:H1.Wf)(aj:H1.get H.next=some (.cells y.cells 146 false))(r1:A 1=.bool any)(r2:A 2=.pointer (some ⟨H.next,0,none⟩))(aL:A 7=v)(q:W=ws++([Vk y]++(bif any then[Vk {y with w:=1}] else[]))):
  Qm prog Qa3 ⟨KV H W,WL⟩ (KV H W) A H1:=by
 have aV:=ag.next;have aq:=QsQ h;have ar:=QsQ (h.setW 1 (by decide));obtain⟨aa,ah⟩:∃aa,aa=Vk y:=⟨_,rfl⟩;obtain⟨ab,ai⟩:∃ab,ab=Vk {y with w:=1}:=⟨_,rfl⟩;have aJ:aa.length=3:=by rw[ah];rfl
 have aK:ab.length=3:=by rw[ai];rfl
 rw[<- ah]at aq q;rw[<- ai]at ar q;clear ah ai;obtain⟨r,x,b,mp,w,aO,l,pre⟩:=y;simp only[Vx.cells]at aj aq ar;simp only[Qa3,Qb,simprocAttr,r1,r2,aL,aj];refine(aq H1).thenW ?_;rintro aX H2 aQ am ⟨ak,ax,a2,rfl⟩
 replace ak:Gx 1 5 H1 H2 (.slice a2 3 3) aa.length (bys aa):=by rw[aJ];exact ak
 simp only[Qb,simprocAttr];refine QkH (H0:=Hb) (bs:=aa) ((aB.go aE ax).go am ((Ext.refl H2).push _)) ((ag.trans ax).push _) (am.push _) ((ak.go am ((Ext.refl H2).push _)).down (by omega)) (Qf2 H2 _) (by omega) (by omega) ?_;intro aM H4 aw ad;have au:H4.get H.next=some (.cells [.int .i64 r,.int .i64 x,.int .i64 b,.int .i64 mp,.int .i64 w,.int .i64 aO,.int .i64 l,.int .i64 pre] 146 false):=by rw[(ad.x).get _ (by omega),<- ag.get _ (by omega)];exact aj
 have ao:Ext H H4:=⟨by have:=ad.x.next;omega,λid ae=>by rw[ad.x.get id (by omega),<- ag.get id (by omega)];exact aG.get id ae⟩;cases any with
 | false=>
  rw[Ls,Na]at q;simp only[Qb,simprocAttr,r1,QqQ];exact .mk ao.next ⟨aM,rfl,by rw[q];exact aw.down (by omega),ao⟩
 | true=>
  rw[Lq]at q;simp only[Qb,simprocAttr,r1,r2,au];generalize ac:Qa.set H4 _ _=H5;have aH:Ext H H5:=by rw[<- ac];exact ao.set (Lb _) _
  have aF:H5.Wf:=by rw[<- ac];exact ad.w.set au _
  have k5:∀id,Hb.next<=id->H5.get id=H4.get id:=λid ae=>by rw[<- ac,Qn,Le (by omega)]
  have aC:=aw.keep k5;have aS:H5.next=H4.next:=by rw[<- ac];rfl
  have aR:=ad.x.next;clear ac;refine(ar H5).thenW ?_;rintro aY H6 aT an ⟨al,ay,a6,rfl⟩
  replace al:Gx 1 5 H5 H6 (.slice a6 3 3) ab.length (bys ab):=by rw[aK];exact al
  simp only[Qb,simprocAttr];have aI:∃Hz:Qa,Ext Hz H5∧Hz.next=Hb.next:=⟨⟨Hb.next,H5.tr⟩,⟨by show Hb.next<=H5.next;omega,λid _=>rfl⟩,rfl⟩;obtain⟨Hz,aA,aW⟩:=aI;refine QkH (H0:=Hz) (bs:=ab) (((aC.go aF ay).go an ((Ext.refl H6).push _)).down (by omega)) ((aA.trans ay).push _) (an.push _) ((al.go an ((Ext.refl H6).push _)).down (by omega)) (Qf2 H6 _) (by rw[Lh,Bb];omega) (by rw[Lh,Bb];omega) ?_;intro aN H7 aD av;have az:Ext H H7:=⟨by have:=av.x.next;omega,λid ae=>by rw[av.x.get id (by omega),<- aA.get id (by omega)];exact aH.get id ae⟩;simp only[Qb,simprocAttr,QqQ];exact .mk az.next ⟨aN,rfl,by rw[q,<- LQ];exact aD.down (by omega),az⟩
theorem QIX {y:Vx}(h:y.Ok)(any:Bool){A:Env}{Hb H1:Qa}(aw:Hb.next=H.next+1)(ac:Ext Hb H1)(ay:Ext H H1)(aK:H1.Wf)(aa:H1.get H.next=some (.cells y.cells 146 false))(r1:A 1=.bool any)(r2:A 2=.pointer (some ⟨H.next,0,none⟩))(ae:W=(if(y.x=0∧y.b=0∧y.w=0)∧y.mp=1 then[[197,vb2 y]] else[])++([Vk y]++(bif any then[Vk {y with w:=1}] else[]))):
  Qm prog Qif ⟨KV H W,WL⟩ (KV H W) A H1:=by
 have aT:=ac.next;have av:=aa;have ag:=QHF h;have aF:=fun(aQ:List (Int×Int)) hp hl (b cap:Nat) e ro (H:Qa)=>QuN (cap:=cap) (b:=b) (e:=e) (ro:=ro) aQ hp hl H;have au:=λA=>QIW (H:=H) (W:=W) (A:=A) h any (ws:=[]) (by simp) aw (Zu.nil (e:=27) (by decide) Hb H1) ac ay aK aa;have ab:∀A,A 1=.bool any->A 2=.pointer (some ⟨H.next,0,none⟩)->A 7=.slice none 0 0->¬ ((y.x=0∧y.b=0∧y.w=0)∧y.mp=1)->Qm prog Qa3 ⟨KV H W,WL⟩ (KV H W) A H1:=λA a1 a2 a7 aH=>au A a1 a2 a7 (by rw[ae,Le aH]);obtain⟨q,ai⟩:∃q,q=vb2 y:=⟨_,rfl⟩;have aC:(y.x=0∧y.b=0∧y.w=0)∧y.mp=1->∀ (A:Env) (H4:Qa) (ar:Value),Zu 27 Hb H4 ar [[197,q]]->Ext Hb H4->Ext H H4->H4.Wf->A 1=.bool any->A 2=.pointer (some ⟨H.next,0,none⟩)->A 7=ar->Qm prog Qa3 ⟨KV H W,WL⟩ (KV H W) A H4:=by
  intro aP A H4 ar aI aA aq an a1 a2 a7;refine QIW h any (ws:=[[197,q]]) (by simp) aw aI aA aq an (by rw[aA.get _ (by omega),<- ac.get _ (by omega)];exact av) a1 a2 a7 (by rw[ae,Lc aP,ai])
 rw[<- ai]at ag;clear ai ae au av h;obtain⟨r,x,b,mp,w,v,l,pre⟩:=y;simp only[Vx.cells]at aa;simp only at aC ab ag;simp only[Qif,Qb,simprocAttr,r1,r2,aa];cases ah:x==0 with
 | false=>
  have ao:¬x=0:=by simpa using ah
  simp only[Qb,simprocAttr,ah];refine ab _ ?_ ?_ ?_ (λh=>ao h.1.1)
  all_goals simp only[Qg,simprocAttr,r1,r2]
 | true=>
  have ao:x=0:=by simpa using ah
  simp only[Qb,simprocAttr,r2,aa];cases e2:b==0 with
  | false=>
   have ak:¬b=0:=by simpa using e2
   simp only[Qb,simprocAttr,e2];refine ab _ ?_ ?_ ?_ (λh=>ak h.1.2.1)
   all_goals simp only[Qg,simprocAttr,r1,r2]
  | true=>
   have ak:b=0:=by simpa using e2
   simp only[Qb,simprocAttr,r2,aa];cases e3:w==0 with
   | false=>
    have am:¬w=0:=by simpa using e3
    simp only[Qb,simprocAttr,e3];refine ab _ ?_ ?_ ?_ (λh=>am h.1.2.2)
    all_goals simp only[Qg,simprocAttr,r1,r2]
   | true=>
    have am:w=0:=by simpa using e3
    simp only[Qb,simprocAttr,r2,aa];cases e4:mp==1 with
    | false=>
     have al:¬mp=1:=by simpa using e4
     simp only[Qb,simprocAttr,e4];refine ab _ ?_ ?_ ?_ (λh=>al h.2)
     all_goals simp only[Qg,simprocAttr,r1,r2]
    | true=>
     have al:mp=1:=by simpa using e4
     simp only[QoK,Qb,simprocAttr,e4,r2,aa];refine⟨by simp[Qi,Ab.plain],by simp[Qi,Ab.plain],by simp[Qi,Ab.plain],?_⟩;refine(QoW pre H1).thenW ?_;rintro _ H1 _ _ ⟨rfl,rfl⟩;simp only[Qb,simprocAttr,Nat.reduceMul];refine⟨λ_ _=>rfl,?_⟩;generalize aj:Qa.push H1 _=H3;have aM:Ext H1 H3:=by rw[<- aj];exact(Ext.refl H1).push _
     have g3:H3.get H1.next=some (.cells (prs [(r,1),(v,4),(l,1),(K3 pre,2)]) 294 false):=by rw[<- aj,Qc,Lc rfl];rfl
     clear aj;refine(aF [(r,1),(v,4),(l,1),(K3 pre,2)] (by simp) (by simp) _ _ _ _ H3 g3).thenW ?_;rintro _ H4 _ an ⟨rfl,aq⟩;simp only[Qb,simprocAttr,ag];have az:=aM.trans aq;have aN:=(Ext.refl H4).push (.cells [.int .u8 197,.int .u8 q] 5 false);have ax:=an.push (.cells [.int .u8 197,.int .u8 q] 5 false);have aD:Gx 1 5 H4 (H4.push (.cells [.int .u8 197,.int .u8 q] 5 false)) (.slice (some ⟨H4.next,0,none⟩) 2 2) 2 (bys [197,q]):=.inr ⟨_,_,rfl,Lb _,by rw[Qc,Lc rfl];rfl,rfl,.inl rfl⟩;have aS:=az.next;have aG:(H4.push (.cells [.int .u8 197,.int .u8 q] 5 false)).next=H4.next+1:=rfl;generalize H4.push (.cells [.int .u8 197,.int .u8 q] 5 false)=H5 at *;have aL:=az.trans aN;have aB:=(Ext.refl H5).push (.cells [.slice (some ⟨H4.next,0,none⟩) 2 2] 27 false);refine QkH (H0:=Hb) (bs:=[197,q]) (Zu.nil (e:=27) (by decide) Hb _) ((ac.trans aL).trans aB) (ax.push _) ((aD.go ax aB).down (by omega)) (by rw[<- aG];exact Qf2 H5 _) (by simp) (by simp) ?_;intro aR H7 aJ ad;have aO:Ext H H7:=⟨by have:=ad.x.next;omega,λid aE=>by rw[ad.x.get id (by omega),<- ac.get id (by omega)];exact ay.get id aE⟩;simp only[Ka,Ym,YN,Zg,Qkb];refine aC ⟨⟨ao,ak,am⟩,al⟩ _ H7 aR aJ ad.x aO ad.w ?_ ?_ ?_
     all_goals simp only[Qg,simprocAttr,r1,r2]
end
theorem QA2 (y:Vx)(any:Bool)(q:Vx)(h:q=bif any then {y with w:=0} else y):Qrk y any=(if(q.x=0∧q.b=0∧q.w=0)∧q.mp=1 then[[197,vb2 q]] else[])++([Vk q]++(bif any then[Vk {q with w:=1}] else[])):=by
 subst h;unfold Qrk;cases any with
 | true=>simp only[Lq,true_or,Hr,vb2]
 | false=>simp only[Ls,LV,false_or]
theorem QCe {y:Vx}(h:y.Ok)(any:Bool)(H:Qa):Qe prog 357 [.agg y.cells.toArray,.bool any] H λu H'=>∃v,u=.tuple #[v,.int .i64 0]∧Zu 27 H H' v (Qrk y any)∧Ext H H':=by
 refine QzB λaq=>?_;obtain⟨q,ac⟩:∃q:Vx,q=bif any then {y with w:=0} else y:=⟨_,rfl⟩
 have al:q.Ok:=by rw[ac];cases any with | true=>exact h.setW 0 (by decide) | false=>exact h
 have eL:=QA2 y any q ac;have aa:q.cells=bif any then[.int .i64 y.r,.int .i64 y.x,.int .i64 y.b,.int .i64 y.mp,.int .i64 0,.int .i64 y.v,.int .i64 y.l,.int .i64 y.pre] else y.cells:=by rw[ac];cases any<;>rfl
 have am:=QxG h;have ai:=(Ext.refl H).push (.cells y.cells 146 false);have ar:=aq.push (.cells y.cells 146 false);have ag:(H.push (.cells y.cells 146 false)).get H.next=some (.cells y.cells 146 false):=by rw[Qc,Lc rfl]
 have ao:(H.push (.cells y.cells 146 false)).next=H.next+1:=rfl;obtain⟨W,ae⟩:∃W,W=Qrk y any:=⟨_,rfl⟩;rw[<- ae]at eL ⊢;clear ae ac h;obtain⟨r,x,b,mp,w,v,l,pre⟩:=y;simp only[Vx.cells]at ai ar ag ao am aa;simp only[Vx.cells,QsJ,Qb,simprocAttr];generalize H.push _=H1 at *;refine(am H1).thenW ?_;rintro _ H2 aw ah ⟨rfl,ak⟩;have ad:=(ak.get H.next (by omega)).trans ag;have aj:=ai.trans ak;simp only[Qb,simprocAttr,LO,L8];cases any with
 | true=>
  rw[Lq]at aa;simp only[Qig,Qb,simprocAttr,ad];generalize ab:Qa.set H2 _ _=H3;have av:Ext H H3:=by rw[<- ab];exact aj.set (Lb _) _
  have au:H3.Wf:=by rw[<- ab];exact ah.set ad _
  have an:H3.get H.next=some (.cells q.cells 146 false):=by rw[<- ab,Qn,Lc rfl];exact congrArg (λc=>some (Blk.cells c 146 false)) aa.symm
  have ax:H3.next=H2.next:=by rw[<- ab];rfl
  clear ab;refine QIX (H:=H) (Hb:=⟨H.next+1,H3.tr⟩) al true rfl ⟨by show H.next+1<=H3.next;omega,λid _=>rfl⟩ av au an ?_ ?_ eL
  all_goals simp only[Qg,simprocAttr]
 | false=>
  rw[Ls]at aa;simp only[Qig,Qb,simprocAttr];refine QIX (H:=H) (Hb:=⟨H.next+1,H2.tr⟩) al false rfl ⟨by show H.next+1<=H2.next;omega,λid _=>rfl⟩ aj ah (by rw[ad];exact congrArg (λc=>some (Blk.cells c 146 false)) aa.symm) ?_ ?_ eL
  all_goals simp only[Qg,simprocAttr]
def Kv (m:Int):List Int:=if(m==1)=true then[15] else if(m==2)=true then[15,56] else if(m==3)=true then[15,58] else[]
theorem Qrm (m:Int)(H:Qa):Qe prog 361 [.int .i64 m] H λv H'=>Gx 1 5 H H' v (Kv m).length (bys (Kv m))∧Ext H H':=by
 refine QpT λad=>?_;have q:∀bs:List Int,Gx 1 5 H (H.push (.cells (bys bs) 5 false)) (.slice (some ⟨H.next,0,none⟩) bs.length bs.length) bs.length (bys bs):=λbs=>.inr ⟨_,_,rfl,Lb _,by rw[Qc,Lc rfl],by rw[Xe,NH],.inl rfl⟩;simp only[Qhf,Qb,simprocAttr];unfold Kv;cases aa:m==1 with
 | true=>
  simp only[Qb,simprocAttr,aa,Kz];exact .mk ((Ext.refl H).push _).next ⟨q [15],(Ext.refl H).push _⟩
 | false=>
  simp only[Qb,simprocAttr,aa];cases ab:m==2 with
  | true=>
   simp only[Qb,simprocAttr,ab,Kz];exact .mk ((Ext.refl H).push _).next ⟨q [15,56],(Ext.refl H).push _⟩
  | false=>
   simp only[Qb,simprocAttr,ab];cases ac:m==3 with
   | true=>
    simp only[Qb,simprocAttr,ac,Kz];exact .mk ((Ext.refl H).push _).next ⟨q [15,58],(Ext.refl H).push _⟩
   | false=>
    simp only[Qb,simprocAttr,ac,Kz];exact .mk (Lb _) ⟨.inl ⟨rfl,rfl,rfl⟩,.refl _⟩
def Qea (w r x b:Int):Int:=w * 8+r * 4+x * 2+b
def QuO:List (Int×Int×Int×Int):=([0,1]:List Int).flatMap λw=>([0,1]:List Int).flatMap λr=>([0,1]:List Int).flatMap λx=>([0,1]:List Int).map λb=>(w,r,x,b)
theorem QCg:(QuO.all λp=>isW (.int .i64 (Qea p.1 p.2.1 p.2.2.1 p.2.2.2)) ((run prog noK 200 5 10).fn 359 [.int .i64 p.1,.int .i64 p.2.1,.int .i64 p.2.2.1,.int .i64 p.2.2.2] (H0 prog)))=true:=by kernel_rfl
theorem QCh (w r x b:Int)(ac:0<=w∧w<2)(ab:0<=r∧r<2)(ad:0<=x∧x<2)(hb:0<=b∧b<2)(H:Qa):Qe prog 359 [.int .i64 w,.int .i64 r,.int .i64 x,.int .i64 b] H λu H'=>u=.int .i64 (Qea w r x b)∧H'=H:=by
 have q:∀n:Int,0<=n∧n<2->n∈([0,1]:List Int):=λn ae=>by
  simp only[LK,Ns,NN];omega
 have aa:(w,r,x,b)∈QuO:=by
  unfold QuO;rw[NF];refine⟨w,q w ac,NF.2 ⟨r,q r ab,NF.2 ⟨x,q x ad,N4.2 ⟨b,q b hb,rfl⟩⟩⟩⟩
 exact QsO (by kernel_rfl) rfl rfl (Li.1 QCg _ aa) H
def Qjd (f:Fm)(l:List Ar)(s:Int):Int:=if 0<=Qp f.slots s then Wi ((l[(Qp f.slots s).toNat]?.getD Q7).r) else 0
theorem QA3 (x:Int):∀ (l:List Int) (k:Nat),QdO l x k<k+l.length
 | [],k=>by show(-1:Int)<_;simp;omega
 | y::l,k=>by
  unfold QdO;split
  ·simp;omega
  ·have:=QA3 x l (k+1);simp at this ⊢;omega
theorem QpW (l:List Int)(x:Int):Qp l x<l.length:=by
 have:=QA3 x l 0;simpa[Qp] using this
theorem QeX {l:List Ar}{i:Nat}{a:Ar}(h:l[i]? = some a):((Qh l).drop (i * 11+1)).take 2=[.int .i64 a.r.c,.int .i64 a.r.n]:=by
 have q:=We l i a h;have aa:(((Qh l).drop (i * 11)).take 11).drop 1=a.cells.drop 1:=by rw[q]
 rw[<- Rc];have ab:((((Qh l).drop (i * 11)).drop 1).take 2)=((((Qh l).drop (i * 11)).take 11).drop 1).take 2:=by
  rw[List.drop_take,DE];rfl
 rw[ab,aa];rfl
theorem Qmt (x:Lf)(op:Int)(va:Value)(l:List Ar)(s:Int)(H:Qa)(aB:x.At H)(aA:Qt H va l)(aF:l.length<=1000)(aG:x.f.slots.length=l.length):Qe prog 356 [.agg x.cells.toArray,.agg #[.int .i64 op,va],.int .i64 s] H λu H'=>u=.int .i64 (Qjd x.f l s)∧Ext H H':=by
 refine QsI λae=>?_;have am:(Value.agg x.cells.toArray).cells.toList=x.cells:=rfl;have al:x.cells.take 10=x.cells:=rfl;have aD:10<=x.cells.length:=Lb _;obtain⟨a0,cap,rfl,ar⟩:=aA;have ak:Ext H (H.push (.cells x.cells 45 false)):=(Ext.refl H).push _;simp only[Qkx,am,JL,simprocAttr];generalize aa:Qa.push H _=H1;have g1:H1.get H.next=some (.cells x.cells 45 false):=by rw[<- aa,Qc,Lc rfl]
 have aC:Ext H H1:=by rw[<- aa];exact ak
 have aH:H1.next=H.next+1:=by rw[<- aa];rfl
 have aJ:H1.Wf:=by rw[<- aa];exact ae.push _
 clear aa ak;simp only[Qb,simprocAttr];generalize ab:Qa.push H1 _=H2;have aj:Ext H H2:=by rw[<- ab];exact aC.push _
 have g2:H2.get H.next=some (.cells x.cells 45 false):=by rw[<- ab,Qc,Le (by omega)];exact g1
 have an:H2.get H1.next=some (.cells [.int .i64 op,.slice a0 l.length cap] 24 false):=by rw[<- ab,Qc,Lc rfl]
 have aI:H2.next=H1.next+1:=by rw[<- ab];rfl
 clear ab;have aE:¬H.next=H1.next:=by omega
 simp only[Qb,simprocAttr,aE,LN,g1,Lw,al];refine⟨aD,?_⟩;refine(Ww x s H2 (aB.ext ae aj)).thenW ?_;rintro _ _ ai aK ⟨rfl,k,rfl⟩;simp only[Ql]at ai;have ac:=aj.up ai;have ao:(H2.up k).get H1.next=some (.cells [.int .i64 op,.slice a0 l.length cap] 24 false):=by rw[Zk];exact an
 generalize H2.up k=H3 at *;have ay:=QpW x.f.slots s;simp only[Qb,simprocAttr];unfold Qjd;refine Qf (λh=>?_) (λh=>?_)
 ·have aq:0<=Qp x.f.slots s:=Lg h;rw[Lc aq];obtain⟨i,hi⟩:∃i:Nat,Qp x.f.slots s=i:=⟨(Qp x.f.slots s).toNat,by omega⟩;rw[hi]at ay ⊢;have aw:i<l.length:=by omega
  obtain⟨a,ag⟩:∃a,l[i]? = some a:=⟨_,La aw⟩;obtain⟨b,e,ro,rfl,ah⟩:=ar (by omega);have au:H3.get b=some (.cells (Qh l) e ro):=by rw[ac.get b (ae.lt ah)];exact ah
  have az:=QeX ag;have ax:i * 11+1+2<=(Qh l).length:=by rw[Qr];omega
  have d1:(0:Int)<=i∧(i:Int)<l.length:=by omega
  have d3:(i:Int).toNat=i:=by omega
  have av:(l[i]?.getD Q7).r=a.r:=by rw[ag];rfl
  have q:=QeW a.r H3;simp only[Rg.cells]at q;simp only[Qb,simprocAttr,ao,d1,d3,au,az,av];refine⟨ax,?_⟩;refine q.thenW ?_;rintro _ _ ad aL ⟨rfl,k4,rfl⟩;simp only[Ql]at ad;simp only[Qb,simprocAttr,Qjb];exact .mk (ac.up ad).next ⟨rfl,ac.up ad⟩
 ·rw[Le (by have:=Ll h;omega)];simp only[Qb,simprocAttr,Qjb];exact .mk ac.next ⟨rfl,ac⟩
def Qa7 (l:List Ar):Bool:=l.any λa=>a.k==1&&Qnk a.r
def Qhj (l:List Ar):Bool:=l.any λa=>a.k==1&&QsN a.r
def chF (bits:Int)(l:List Ar):List Int:=if(decide (0<bits)||Qa7 l)=true then(if Qhj l=true then[] else[bits]) else if Qhj l=true then[-1] else[-1,0]
theorem QpX (op bits:Int)(va:Value)(l:List Ar)(H:Qa)(aK:Qt H va l)(aZ:l.length<=1000):Qe prog 358 [.agg #[.int .i64 op,va],.int .i64 bits] H λv H'=>Gx 1 3 H H' v (chF bits l).length (ints (chF bits l))∧Ext H H':=by
 refine QoL λaz=>?_;obtain⟨a0,cap,rfl,aG⟩:=aK;simp only[QfT,Qb,simprocAttr,QL];generalize ak:Qa.push H _=H1;have aO:Ext H H1:=by rw[<- ak];exact(Ext.refl H).push _
 have aM:H1.Wf:=by rw[<- ak];exact az.push _
 clear ak;refine Qo (λm A' H'=>∃i:Nat,i<=l.length∧m=l.length - i∧H'.Wf∧Ext H H'∧A' 1=.int .i64 bits∧A' 5=.bool (decide (0<bits)||Qa7 (l.take i))∧A' 6=.bool (Qhj (l.take i))∧A' 12=.slice a0 l.length cap∧A' 13=.int .i64 l.length∧A' 14=.int .i64 i) l.length ?_ ?_
 ·refine⟨0,L7 _,by omega,aM,aO,?_,?_,?_,?_,?_,?_⟩
  all_goals simp only[Qg,simprocAttr]
  all_goals simp[Qa7,Qhj]
 ·rintro m A' H' ⟨i,hi,rfl,aL,aa,r1,r5,ac,ae,ag,ab⟩;simp only[QdU,Qb,simprocAttr,ag,ab];refine Qf (λad=>?_) (λad=>?_)
  ·have ad:i<l.length:=by have:=Lg ad;omega
   obtain⟨a,aq⟩:∃a,l[i]? = some a:=⟨_,La ad⟩;obtain⟨b,e,ro,rfl,au⟩:=aG (by omega);have aI:H'.get b=some (.cells (Qh l) e ro):=by rw[aa.get b (az.lt au)];exact au
   have ax:=We l i a aq;have aJ:i * 11+11<=(Qh l).length:=by rw[Qr];omega
   have d1:(0:Int)<=i∧(i:Int)<l.length:=by omega
   have d3:(i:Int).toNat=i:=by omega
   have ei:IntKind.i64.wrap ((i:Int)+1)=((i+1:Nat):Int):=by rw[w64 (by unfold I64;omega)];omega
   have ay:l.take (i+1)=l.take i++[a]:=by rw[Nv,aq];rfl
   have ao:Qa7 (l.take (i+1))=(Qa7 (l.take i)||(a.k==1&&Qnk a.r)):=by unfold Qa7;rw[ay,Rz];simp
   have hB:Qhj (l.take (i+1))=(Qhj (l.take i)||(a.k==1&&QsN a.r)):=by unfold Qhj;rw[ay,Rz];simp
   have aC:=QxD a.r;have am:=QzE a.r;obtain⟨an,⟨aX,aY⟩,⟨⟨aD,aE⟩,⟨aP,aQ⟩,sc,d,sz⟩,n⟩:=a;simp only[Rg.cells]at aC am;simp only[Ar.cells]at ax;simp only at ao hB;generalize Qa7 (l.take i)=N at *;generalize Qhj (l.take i)=B at *;simp only[QdT,Qb,simprocAttr,r5,ac,ae,ab,d1,d3,aI,ax];refine⟨aJ,?_⟩;generalize ai:(Qa.push H' _).set _ _=H2;have aj:Ext H H2:=by rw[<- ai];exact(aa.push _).set (by have:=aa.next;omega) _
   have aA:H2.Wf:=by rw[<- ai];exact(aL.push _).set (b0:=.cells [.int .i64 0,.int .i64 0,.int .i64 0,.int .i64 0,.int .i64 0,.int .i64 0,.int .i64 0,.int .i64 0,.int .i64 0,.int .i64 0,.int .i64 0] 58 false) (by rw[Qc,Lc rfl]) _
   have g2:H2.get H'.next=some (.cells [.int .i64 an,.int .i64 aX,.int .i64 aY,.int .i64 aD,.int .i64 aE,.int .i64 aP,.int .i64 aQ,.int .i64 sc,.int .i64 d,.int .i64 sz,.int .i64 n] 58 false):=by rw[<- ai,Qn,Lc rfl]
   clear ai
   -- the end of a round
   have q:∀ (A2:Env) (H3:Qa),Ext H H3->H3.Wf->A2 1=.int .i64 bits->A2 5=.bool (decide (0<bits)||Qa7 (l.take (i+1)))->A2 6=.bool (Qhj (l.take (i+1)))->A2 12=.slice (some ⟨b,0,none⟩) l.length cap->A2 13=.int .i64 l.length->A2 14=.int .i64 ((i+1:Nat):Int)->Qsl (λm A' H'=>∃i:Nat,i<=l.length∧m=l.length - i∧H'.Wf∧Ext H H'∧A' 1=.int .i64 bits∧A' 5=.bool (decide (0<bits)||Qa7 (l.take i))∧A' 6=.bool (Qhj (l.take i))∧A' 12=.slice (some ⟨b,0,none⟩) l.length cap∧A' 13=.int .i64 l.length∧A' 14=.int .i64 i) (l.length - i) A2 H3:=
    λA2 H3 e1 e2 aR aV aW aS aT aU=>⟨l.length - (i+1),by omega,i+1,by omega,rfl,e2,e1,aR,aV,aW,aS,aT,aU⟩
   rw[ao,hB]at q;cases av:an==1 with
   | false=>
    rw[av,NG,NI,NG,NI]at q;simp only[Qb,simprocAttr,ab,ei];refine q _ H2 aj aA ?_ ?_ ?_ ?_ ?_ ?_
    all_goals simp only[Qg,simprocAttr,r1,r5,ac,ae,ag]
   | true=>
    rw[av,LJ,LJ,<- FP]at q;obtain⟨N',aF⟩:∃N',N'=(decide (0<bits)||N):=⟨_,rfl⟩;rw[<- aF]at q r5;cases N' with
    | true=>
     rw[N1]at q;cases B with
     | true=>
      rw[N1]at q;simp only[Jh,Qb,simprocAttr,r5,ac,ab,ei];refine q _ H2 aj aA ?_ ?_ ?_ ?_ ?_ ?_
      all_goals simp only[Qg,simprocAttr,r1,ae,ag]
     | false=>
      rw[Nt]at q;simp only[Jh,Qb,simprocAttr,r5,ac,ab,ei,g2];refine(am H2).thenW ?_;rintro _ _ ah al ⟨rfl,k4,rfl⟩;simp only[Ql]at ah;simp only[Qb,simprocAttr,ab,ei];refine q _ _ (aj.up ah) al ?_ ?_ ?_ ?_ ?_ ?_
      all_goals simp only[Qg,simprocAttr,r1,ae,ag]
    | false=>
     rw[Nt]at q;simp only[Jh,Qb,simprocAttr,r5,ac,ab,ei,g2];refine(aC H2).thenW ?_;rintro _ _ aw aN ⟨rfl,k3,rfl⟩;simp only[Ql]at aw;have aB:=aj.up aw;have g3:=g2;rw[<- Zk H2 k3]at g3;generalize H2.up k3=H3 at *;cases B with
     | true=>
      rw[N1]at q;simp only[Qb,simprocAttr,ac,ab,ei];refine q _ H3 aB aN ?_ ?_ ?_ ?_ ?_ ?_
      all_goals simp only[Qg,simprocAttr,r1,ae,ag]
     | false=>
      rw[Nt]at q;simp only[Qb,simprocAttr,ac,ab,ei,g3];refine(am H3).thenW ?_;rintro _ _ ah al ⟨rfl,k4,rfl⟩;simp only[Ql]at ah;simp only[Qb,simprocAttr,ab,ei];refine q _ _ (aB.up ah) al ?_ ?_ ?_ ?_ ?_ ?_
      all_goals simp only[Qg,simprocAttr,r1,ae,ag]
  ·have ad:i=l.length:=by have:=Ll ad;omega
   subst ad;rw[Nr]at r5 ac;have ar:∀z:Int,Gx 1 3 H (H'.push (.cells [.int .i64 z] 3 false)) (.slice (some ⟨H'.next,0,none⟩) 1 1) 1 (ints [z]):=λz=>.inr ⟨_,_,rfl,aa.next,by rw[Qc,Lc rfl];rfl,rfl,.inl rfl⟩;have aH:Gx 1 3 H (H'.push (.cells [.int .i64 (-1),.int .i64 0] 3 false)) (.slice (some ⟨H'.next,0,none⟩) 2 2) 2 (ints [-1,0]):=.inr ⟨_,_,rfl,aa.next,by rw[Qc,Lc rfl];rfl,rfl,.inl rfl⟩;unfold chF;generalize (decide (0<bits)||Qa7 l)=N at *;generalize Qhj l=B at *;cases N<;>cases B<;>simp only[QdS,QdR,Qb,simprocAttr,r1,r5,ac,Qnc,N3,LN,LV]
   ·exact .mk (aa.push _).next ⟨aH,aa.push _⟩
   ·exact .mk (aa.push _).next ⟨ar (-1),aa.push _⟩
   ·exact .mk (aa.push _).next ⟨ar bits,aa.push _⟩
   ·exact .mk aa.next ⟨.inl ⟨rfl,rfl,rfl⟩,aa⟩
structure FOk (f:Fm):Prop where
 pre:0<=f.pre∧f.pre<=5
 map:0<=f.map∧f.map<=3
 w:f.vex=false->f.w=0∨f.w=1
 vx:f.vex=true->f.map≠0∧(f.pre=0∨f.pre=1∨f.pre=2∨f.pre=4)∧(-1<=f.w∧f.w<=1)∧(f.l=0∨f.l=1)
def Qo0 (f:Fm)(l:List Ar)(s:Int):Int:=if 0<=Qp f.slots s then((l[(Qp f.slots s).toNat]?.getD Q7).r).n else 0
def hB (f:Fm)(l:List Ar)(h:Int):Int:=if 0<=Qp f.slots 4 then Qjd f l 4 else h
def Qv3 (w:Int):Int:=if 0>w then 0 else w
def vxF (f:Fm)(l:List Ar)(x h:Int):Vx:=⟨Qjd f l 1,x,hB f l h,f.map,Qv3 f.w,Qo0 f l 3,f.l,f.pre⟩
def Qe1 (f:Fm)(l:List Ar)(x h:Int):List (List Int):=
 if f.vex=true then Qrk (vxF f l x h) (f.w==-1)
 else(chF (Qea f.w (Qjd f l 1) x (hB f l h)) l).map λn=>JW f.pre n++Kv f.map
theorem Qo1 (f:Fm)(l:List Ar)(s:Int):0<=Qjd f l s∧Qjd f l s<2:=by
 unfold Qjd;split
 ·exact Qih _
 ·omega
section
variable {x:Lf} {op:Int} {va:Value} {l:List Ar} {H:Qa}
abbrev KH (H:Qa)(W:List (List Int)):Env->Qa->Prop:=Rt prog Tryz.f254 H λv H'=>Zu 27 H H' v W∧Ext H H'
structure HdF (H H':Qa) (x:Lf) (op:Int) (va:Value) (A:Env):Prop where
 xt:Ext H H'
 w:H'.Wf
 g3:H'.get H.next=some (.cells x.cells 45 false)
 g4:H'.get (H.next+1)=some (.cells [.int .i64 op,va] 24 false)
 lt:H.next+2<=H'.next
 r3:A 3=.pointer (some ⟨H.next,0,none⟩)
 r4:A 4=.pointer (some ⟨H.next+1,0,none⟩)
theorem HdF.go {H' H'':Qa}{A B:Env}(h:HdF H H' x op va A)(q:Ext H' H'')(aa:H''.Wf)(e3:B 3=A 3)(e4:B 4=A 4):HdF H H'' x op va B:=
 ⟨h.xt.trans q,aa,by rw[q.get _ (by have:=h.lt;omega)];exact h.g3,by rw[q.get _ (by have:=h.lt;omega)];exact h.g4,by have:=h.lt;have:=q.next;omega,e3.trans h.r3,e4.trans h.r4⟩
theorem QJ8 (av:FOk x.f)(bd:x.f.vex=false)(bi:H.Wf)(b7:x.At H)(au:Qt H va l)(bh:∀n,H.next<=n->Qi n 6 (.agg #[.int .i64 op,va])=true)(aW:l.length<=1000){r aa b:Int}(bb:0<=r∧r<2)(bm:0<=aa∧aa<2)(hb:0<=b∧b<2){W:List (List Int)}(aL:W=(chF (Qea x.f.w r aa b) l).map λn=>JW x.f.pre n++Kv x.f.map){A:Env}{H1:Qa}(ar:HdF H H1 x op va A)(bn:A 7=.int .i64 r)(bo:A 8=.int .i64 aa)(bp:A 9=.int .i64 b):
  Qm prog QaZ ⟨KH H W,WL⟩ (KH H W) A H1:=by
 obtain⟨a0,cap,rfl,bw⟩:=id au;have aN:=ar;obtain⟨aj,b5,g3,g4,b4,r3,r4⟩:=ar;have aK:x.cells[7]? = some (.int .i64 x.f.w):=rfl;have b6:=av.w bd;simp only[QaZ,Qb,simprocAttr,r3,r4,bn,bo,bp,g3,g4,aK];have ba:=aj.next;refine⟨bh _ ba,?_⟩;refine(QCh x.f.w r aa b (by omega) bb bm hb H1).thenW ?_;rintro _ H1 _ _ ⟨rfl,rfl⟩;simp only[Qb,simprocAttr];refine⟨λ_ _=>rfl,?_⟩;refine(QpX op (Qea x.f.w r aa b) _ l H1 (au.ext bi aj) aW).thenW ?_;rintro b8 H2 _ ai ⟨aR,ak⟩;have bx:0<=Qea x.f.w r aa b∧Qea x.f.w r aa b<=15:=by unfold Qea;omega
 have aQ:∀n∈chF (Qea x.f.w r aa b) l,-1<=n∧n<=15:=by
  intro n q;unfold chF at q;split at q
  ·split at q
   ·cases q
   ·simp at q;omega
  ·split at q
   ·simp at q;omega
   ·simp at q;omega
 have bz:(chF (Qea x.f.w r aa b) l).length<=2:=by
  unfold chF;split
  ·split<;>simp
  ·split<;>simp
 generalize chF (Qea x.f.w r aa b) l=C at *;have bc:=aR.sl;obtain⟨aI,aJ,rfl,aO⟩:=bc;simp only[Qb,simprocAttr,QL];have e3:x.cells[3]? = some (.int .i64 x.f.pre):=rfl;have e4:x.cells[4]? = some (.int .i64 x.f.map):=rfl;have bv:∀B:Env,B 3=A 3->B 4=A 4->HdF H H2 x op (.slice a0 l.length cap) B:=λB ao aq=>aN.go ak ai ao aq;have aA:=aj.trans ak;have aX:=aA.next;refine Qo (λm A' H'=>∃ (i:Nat) (v:Value),i<=C.length∧m=C.length - i∧Ext H2 H'∧Zu 27 H2 H' v ((C.take i).map λn=>JW x.f.pre n++Kv x.f.map)∧H'.Wf∧A' 3=.pointer (some ⟨H.next,0,none⟩)∧A' 14=v∧A' 77=.slice aI C.length aJ∧A' 78=.int .i64 C.length∧A' 79=.int .i64 i) C.length ?_ ?_
 ·refine⟨0,.slice none 0 0,L7 _,by omega,.refl _,Zu.nil (by decide) _ _,ai,?_,?_,?_,?_,?_⟩
  all_goals simp only[Qg,simprocAttr,r3]
  all_goals rfl
 ·rintro m A' H' ⟨i,v,hi,rfl,ac,ah,az,am,al,aG,aH,an⟩;simp only[QfS,Qb,simprocAttr,aH,an];refine Qf (λab=>?_) (λab=>?_)
  ·have ab:i<C.length:=by have:=Lg ab;omega
   obtain⟨n,q⟩:∃n,C[i]? = some n:=⟨_,La ab⟩;have aY:=aQ n (Ln q);obtain⟨b',e',bq,rfl,ax⟩:=aO (by omega);have aV:H'.get b'=some (.cells (ints C) e' bq):=by rw[ac.get b' (ai.lt ax)];exact ax
   have aP:(ints C)[i]? = some (.int .i64 n):=by unfold ints;rw[LD,q];rfl
   have d1:(0:Int)<=i∧(i:Int)<C.length:=by omega
   have d3:(i:Int).toNat=i:=by omega
   have ei:IntKind.i64.wrap ((i:Int)+1)=((i+1:Nat):Int):=by rw[w64 (by unfold I64;omega)];omega
   have ae:H'.get H.next=some (.cells x.cells 45 false):=by rw[(ak.trans ac).get _ (by omega)];exact g3
   simp only[QfR,Qb,simprocAttr,am,al,aG,an,d1,d3,aV,aP,ae,e3];refine(QCd x.f.pre n av.pre aY H').thenW ?_;rintro _ H3 _ bj ⟨b9,rfl,aS,aB⟩;have aM:H3.get H.next=some (.cells x.cells 45 false):=by rw[aB.get _ (az.lt ae)];exact ae
   simp only[Qb,simprocAttr,LO,L8,am,al,aM,e4];refine(Qrm x.f.map H3).thenW ?_;rintro bA H4 _ bk ⟨aT,aC⟩;have b2:(Kv x.f.map).length<=2:=by unfold Kv;repeat' (split<;>try simp)
   have b3:(JW x.f.pre n).length<=4:=by
    unfold JW QFD;simp only[Lh];have bu:(if x.f.pre % 2=1 then([102]:List Int) else[]).length<=1:=by split<;>simp
    have ab:(if x.f.pre / 2 % 2=1 then([242]:List Int) else[]).length<=1:=by split<;>simp
    have ao:(if x.f.pre / 4 % 2=1 then([243]:List Int) else[]).length<=1:=by split<;>simp
    have aq:(if 0<=n then([64+n]:List Int) else[]).length<=1:=by split<;>simp
    omega
   simp only[Qb,simprocAttr];refine Y8 (aS.go bj aC) (aB.trans aC) bk aT.src (ZK _) (by rw[Xe,NH]) (by omega) (by omega) ?_;intro bB H5 aw ag;obtain⟨a5,ad,rfl⟩:=aw.slc;simp only[Qb,simprocAttr];have aD:=(Ext.refl H5).push (.cells [.slice a5 ((JW x.f.pre n).length+(Kv x.f.map).length) ad] 27 false);have aE:=ag.x.trans aD;have aZ:=ac.next;have aU:Gx 1 5 H2 (H5.push (.cells [.slice a5 ((JW x.f.pre n).length+(Kv x.f.map).length) ad] 27 false)) (.slice a5 ((JW x.f.pre n).length+(Kv x.f.map).length) ad) (JW x.f.pre n++Kv x.f.map).length (bys (JW x.f.pre n++Kv x.f.map)):=by
    rw[Lh,Jg];exact(aw.go ag.w aD).down aZ
   have b1:((C.take i).map λn=>JW x.f.pre n++Kv x.f.map).length<=2:=by rw[Nn,Sb];omega
   refine QkH (ah.go az aE) (ac.trans aE) (ag.w.push _) aU (Qf2 H5 _) (by omega) (by omega) ?_;intro br H7 bg ay;simp only[Qb,simprocAttr,an,ei];refine⟨C.length - (i+1),by omega,i+1,br,by omega,rfl,ay.x,?_,ay.w,?_,?_,?_,?_,?_⟩
   ·have:(C.take (i+1)).map (λn=>JW x.f.pre n++Kv x.f.map)=(C.take i).map (λn=>JW x.f.pre n++Kv x.f.map)++[JW x.f.pre n++Kv x.f.map]:=by
     rw[Nv,q,N6];rfl
    rw[this];exact bg
   all_goals simp only[Qg,simprocAttr,am,aG,aH]
  ·have ab:i=C.length:=by have:=Ll ab;omega
   subst ab;rw[Nr]at ah;simp only[Qb,simprocAttr,al,Qhe];have aF:=aA.trans ac;exact .mk aF.next ⟨by rw[aL];exact ah.down aX,aF⟩
theorem Qk3 {l:List Ar}{i:Nat}{a:Ar}(h:l[i]? = some a):(Qh l)[i * 11+1+1]? = some (.int .i64 a.r.n):=by
 have q:=QeX h;have:=congrArg (·[1]?) q;simp only[Nl,Nk]at this;simpa using this
theorem QJ9 (ar:H.Wf)(aV:x.At H)(aL:Qt H va l)(bd:l.length<=1000)(bj:x.f.slots.length=l.length){r q b:Int}{y:Vx}(aX:y.Ok)(al:y=⟨r,q,b,x.f.map,Qv3 x.f.w,Qo0 x.f l 3,x.f.l,x.f.pre⟩){W:List (List Int)}(aD:W=Qrk y (x.f.w==-1)){A:Env}{H1:Qa}(aK:HdF H H1 x op va A)(az:A 7=.int .i64 r)(aA:A 8=.int .i64 q)(aB:A 9=.int .i64 b)(ks:Kp)(aQ:ks=⟨KH H W,WL⟩)(k:Env->Qa->Prop):
  Qm prog Qa1 ks k A H1:=by
 subst aQ;obtain⟨a0,cap,rfl,aM⟩:=id aL;obtain⟨av,aT,g3,g4,bg,r3,r4⟩:=aK;have e3:x.cells[3]? = some (.int .i64 x.f.pre):=rfl;have e4:x.cells[4]? = some (.int .i64 x.f.map):=rfl;have ae:x.cells[7]? = some (.int .i64 x.f.w):=rfl;have ak:x.cells[9]? = some (.int .i64 x.f.l):=rfl;have aC:x.cells.take 10=x.cells:=rfl;have aY:10<=x.cells.length:=Lb _;have aO:=QpW x.f.slots 3;simp only[Qa1,Qb,simprocAttr,r3,r4,az,aA,aB,g3,e3,e4,ae,ak];rw[QAY (ik:=.i64) (a:=x.f.w) (b:=0) (by simp only[Qg,simprocAttr]) (by simp only[Qg,simprocAttr])];simp only[Qb,simprocAttr,r3,r4,az,aA,aB,g3,e3,e4,ae,ak];generalize ac:(Qa.push H1 _).set _ _=H2;have ad:Ext H1 H2:=by rw[<- ac];exact((Ext.refl H1).push _).set (Lb _) _
 have aU:H2.Wf:=by rw[<- ac];exact(aT.push _).set (b0:=.cells [.int .i64 0,.int .i64 0,.int .i64 0,.int .i64 0,.int .i64 0,.int .i64 0,.int .i64 0,.int .i64 0] 146 false) (by rw[Qc,Lc rfl]) _
 have g2:H2.get H1.next=some (.cells [.int .i64 r,.int .i64 q,.int .i64 b,.int .i64 x.f.map,.int .i64 (Qv3 x.f.w),.int .i64 0,.int .i64 x.f.l,.int .i64 x.f.pre] 146 false):=by rw[<- ac,Qn,Lc rfl];rfl
 have aG:H2.get H.next=some (.cells x.cells 45 false):=by rw[ad.get _ (by omega)];exact g3
 clear ac;have ay:¬H.next=H1.next:=by omega
 simp only[Qb,simprocAttr,ay,LN,Lw,aC];refine⟨aY,?_⟩;refine(Ww x 3 H2 (aV.ext ar (av.trans ad))).thenW ?_;rintro _ _ aq au ⟨rfl,k3,rfl⟩;simp only[Ql]at aq;have aj:=(av.trans ad).up aq;have bh:=aU.lt g2;have ab:=g2;have ah:=aG;rw[<- Zk H2 k3]at ab ah;have aH:(H2.up k3).get (H.next+1)=some (.cells [.int .i64 op,.slice a0 l.length cap] 24 false):=by rw[Zk,ad.get _ (by omega)];exact g4
 have bi:H1.next<(H2.up k3).next:=by rw[Ql];omega
 generalize H2.up k3=H3 at *
 -- the end: the VEX stands in its block
 have an:∀ (A2:Env) (H4:Qa),Ext H H4->H4.Wf->H4.get H1.next=some (.cells y.cells 146 false)->H4.get H.next=some (.cells x.cells 45 false)->A2 3=.pointer (some ⟨H.next,0,none⟩)->A2 10=.pointer (some ⟨H1.next,0,none⟩)->Qm prog Qa0 ⟨KH H W,WL⟩ k A2 H4:=by
  intro A2 H4 aw bk aJ aI bb ba;have bc:=QCe aX (x.f.w==-1) H4;have aF:y.cells.take 8=y.cells:=rfl;have aZ:8<=y.cells.length:=Lb _;simp only[Qa0,Qb,simprocAttr,bb,ba,aJ,aI,Lw,aF,ae];refine⟨aZ,?_⟩;refine bc.thenW ?_;rintro _ H5 _ bm ⟨v,rfl,aS,aW⟩;simp only[Qb,simprocAttr,LO,L8,Qhe];have ax:=aw.trans aW;exact .mk ax.next ⟨by rw[aD];exact aS.down aw.next,ax⟩
 simp only[Qb,simprocAttr];refine Qf (λh=>?_) (λh=>?_)
 ·have ai:0<=Qp x.f.slots 3:=Lg h;have aa:Qo0 x.f l 3=((l[(Qp x.f.slots 3).toNat]?.getD Q7).r).n:=by unfold Qo0;rw[Lc ai]
  obtain⟨i,hi⟩:∃i:Nat,Qp x.f.slots 3=i:=⟨(Qp x.f.slots 3).toNat,by omega⟩;rw[hi]at aO aa ⊢;have aP:i<l.length:=by omega
  obtain⟨a,am⟩:∃a,l[i]? = some a:=⟨_,La aP⟩;obtain⟨b',e,ro,rfl,ao⟩:=aM (by omega);have aN:H3.get b'=some (.cells (Qh l) e ro):=by rw[aj.get b' (ar.lt ao)];exact ao
  have aR:=Qk3 am;have d1:(0:Int)<=i∧(i:Int)<l.length:=by omega
  have d3:(i:Int).toNat=i:=by omega
  have aE:Qo0 x.f l 3=a.r.n:=by rw[aa,d3,am];rfl
  have ag:y.cells=[.int .i64 r,.int .i64 q,.int .i64 b,.int .i64 x.f.map,.int .i64 (Qv3 x.f.w),.int .i64 a.r.n,.int .i64 x.f.l,.int .i64 x.f.pre]:=by rw[al,aE];rfl
  simp only[Qb,simprocAttr,r3,r4,aH,d1,d3,aN,aR,ab];refine an _ _ (aj.set (by omega) _) (au.set ab _) ?_ ?_ ?_ ?_
  ·rw[Qn,Lc rfl,ag]
  ·rw[Qn,Le ay];exact ah
  all_goals simp only[Qg,simprocAttr,r3]
 ·have ai:¬0<=Qp x.f.slots 3:=Ll h;have aa:Qo0 x.f l 3=0:=by unfold Qo0;rw[Le ai]
  have ag:y.cells=[.int .i64 r,.int .i64 q,.int .i64 b,.int .i64 x.f.map,.int .i64 (Qv3 x.f.w),.int .i64 0,.int .i64 x.f.l,.int .i64 x.f.pre]:=by rw[al,aa];rfl
  simp only[Qb,simprocAttr];refine an _ H3 aj au (by rw[ag];exact ab) ah ?_ ?_
  all_goals simp only[Qg,simprocAttr,r3]
end
theorem QsZ {x:Lf}{op:Int}{va:Value}{l:List Ar}(aV:FOk x.f)(H:Qa)(aj:x.At H)(ah:Qt H va l)(aY:∀n,H.next<=n->Qi n 6 (.agg #[.int .i64 op,va])=true)(ak:l.length<=1000)(av:x.f.slots.length=l.length){aa q:Int}(aX:0<=aa∧aa<2)(aW:0<=q∧q<2)(bd:x.f.vex=true->(vxF x.f l aa q).Ok){aM:Option Addr}{aN sc:Nat}:
  Qe prog 254 [.agg x.cells.toArray,.agg #[.int .i64 op,va],.agg #[.slice aM aN sc,.int .i64 aa,.int .i64 q]] H λv H'=>Zu 27 H H' v (Qe1 x.f l aa q)∧Ext H H':=by
 refine Qrh λab=>?_;have aQ:(Value.agg x.cells.toArray).cells.toList=x.cells:=rfl;have am:x.cells.take 10=x.cells:=rfl;have aO:x.cells[8]? = some (.bool x.f.vex):=rfl;have ay:10<=x.cells.length:=Lb _;obtain⟨W,an⟩:∃W,W=Qe1 x.f l aa q:=⟨_,rfl⟩;rw[<- an];obtain⟨a0,cap,rfl⟩:=Qu ah;simp only[Qi9,aQ,JL,simprocAttr];generalize ag:Qa.push H (.cells x.cells 45 false)=H1;have g1:H1.get H.next=some (.cells x.cells 45 false):=by rw[<- ag,Qc,Lc rfl]
 have bb:Ext H H1:=by rw[<- ag];exact(Ext.refl H).push _
 have aF:H1.next=H.next+1:=by rw[<- ag];rfl
 have aZ:H1.Wf:=by rw[<- ag];exact ab.push _
 clear ag;simp only[Qb,simprocAttr,aF];generalize ac:Qa.push (Qa.push H1 _) _=H2;have aw:Ext H H2:=by rw[<- ac];exact(bb.push _).push _
 have bo:H2.Wf:=by rw[<- ac];exact(aZ.push _).push _
 have az:H2.get H.next=some (.cells x.cells 45 false):=by rw[<- ac,Qc,Le (by rw[Qd];omega),Qc,Le (by omega)];exact g1
 have aA:H2.get (H.next+1)=some (.cells [.int .i64 op,.slice a0 l.length cap] 24 false):=by rw[<- ac,Qc,Le (by rw[Qd];omega),Qc,Lc (by omega)]
 have aB:H2.get (H.next+2)=some (.cells [.slice aM aN sc,.int .i64 aa,.int .i64 q] 120 false):=by rw[<- ac,Qc,Lc (by rw[Qd];omega)]
 have bj:H2.next=H.next+3:=by rw[<- ac,Qd,Qd,aF]
 clear ac;have bg:¬H.next=H.next+1+1:=by omega
 have bh:¬H.next+1=H.next+1+1:=by omega
 have aS:=Qo1 x.f l 1;have aT:=Qo1 x.f l 4;simp only[Qb,simprocAttr,bg,bh,LN,g1,az,aA,aB,Lw,am];refine⟨ay,⟨by omega,by omega⟩,?_⟩;refine(Qmt x op _ l 1 H2 (aj.ext ab aw) (ah.ext ab aw) ak av).thenW ?_;rintro _ H3 bk bp ⟨rfl,ad⟩;have aH:=aw.trans ad;have aC:=(ad.get H.next (by omega)).trans az;have aD:=(ad.get (H.next+1) (by omega)).trans aA;have aR:=(ad.get (H.next+2) (by omega)).trans aB;have bc:=ad.eqB;simp only[Qb,simprocAttr,aC,aD,aR,Lw,am];refine⟨bc,by simp[Qi,Ab.plain],by simp[Qi,Ab.plain],ay,?_⟩;refine(Ww x 4 H3 (aj.ext ab aH)).thenW ?_;rintro _ _ aG ba ⟨rfl,k4,rfl⟩;simp only[Ql]at aG;have ax:=aH.up aG;have ao:=aC;have aq:=aD;rw[<- Zk H3 k4]at ao aq;have bm:H.next+3<=(H3.up k4).next:=by rw[Ql];have:=ad.next;omega
 generalize H3.up k4=H4 at *
 -- the last part,with the bit that the opcode's register may give
 have aE:∀ (A:Env) (H5:Qa) (b:Int),Ext H4 H5->H5.Wf->b=hB x.f l q->A 3=.pointer (some ⟨H.next,0,none⟩)->A 4=.pointer (some ⟨H.next+1,0,none⟩)->A 7=.int .i64 (Qjd x.f l 1)->A 8=.int .i64 aa->A 9=.int .i64 b->Qm prog Qa2 ⟨KH H W,WL⟩ (KH H W) A H5:=by
  intro A H5 b ae ai aP aI bi aJ aK aL;subst aP;have au:HdF H H5 x op (.slice a0 l.length cap) A:=⟨ax.trans ae,ai,by rw[ae.get _ (by omega)];exact ao,by rw[ae.get _ (by omega)];exact aq,by have:=ae.next;omega,aI,bi⟩;have aU:0<=hB x.f l q∧hB x.f l q<2:=by unfold hB;split;exact aT;exact aW
  simp only[Qa2,Qb,simprocAttr,aI,au.g3,aO];cases al:x.f.vex with
  | true=>
   simp only[JL,simprocAttr];refine QJ9 (y:=vxF x.f l aa q) ab aj ah ak av (bd al) rfl (by rw[an];unfold Qe1;rw[Lc al]) (au.go (.refl _) ai ?_ ?_) ?_ ?_ ?_ _ rfl _
   all_goals simp only[Qg,simprocAttr,aJ,aK,aL]
  | false=>
   simp only[JL,simprocAttr];refine QJ8 aV al ab aj ah aY ak aS aX aU (by rw[an];unfold Qe1;rw[Le (by simp[al])]) (au.go (.refl _) ai ?_ ?_) ?_ ?_ ?_
   all_goals simp only[Qg,simprocAttr,aJ,aK,aL]
 simp only[Qb,simprocAttr];refine Qf (λh=>?_) (λh=>?_)
 ·have ar:0<=Qp x.f.slots 4:=Lg h;simp only[Qb,simprocAttr,ao,aq,Lw,am];refine⟨ay,?_⟩;refine(Qmt x op _ l 4 H4 (aj.ext ab ax) (ah.ext ab ax) ak av).thenW ?_;rintro _ H5 bn ai ⟨rfl,ae⟩;simp only[Ka,Ym,YN,Zg,Qkb];refine aE _ H5 _ ae ai (by unfold hB;rw[Lc ar]) ?_ ?_ ?_ ?_ ?_
  all_goals simp only[Qg,simprocAttr]
 ·have ar:¬0<=Qp x.f.slots 4:=Ll h;simp only[QhX,Qep];refine aE _ H4 _ (.refl _) ba (by unfold hB;rw[Le ar]) ?_ ?_ ?_ ?_ ?_
  all_goals simp only[Qg,simprocAttr]
theorem Gu (f:Fn)(a b:Array Value):(Value.func f a b).cells.toList=[.func f a b]:=Nu rfl rfl
theorem J7 (f:Fn)(a b:Array Value):(Value.func f a b).oneCell'=true:=Nu rfl rfl
theorem QlC {l:Nat}{args:List Value}{H:Qa}{k ab:Value->Qa->Prop}(h:YQ prog l args H k)(ae:∀v H',H.next<=H'.next->H'.Wf->k v H'->ab v H'):YQ prog l args H ab:=by
 intro ag;obtain⟨v,H',ac,q,aa,ad⟩:=h ag;exact⟨v,H',ac,q,aa,ae v H' q aa ad⟩
structure CK (Own:Qa->Nat->Prop) (H H':Qa):Prop where
 next:H.next<=H'.next
 w:H'.Wf
 keep:∀id,id<H.next->¬Own H id->H'.get id=H.get id
 own:∀id,Own H' id->Own H id∨H.next<=id
theorem CK.trans {Own:Qa->Nat->Prop}{H H' H'':Qa}(h:CK Own H H')(h':CK Own H' H''):CK Own H H'':=by
 have ad:=h.next;have ae:=h'.next;refine⟨by omega,h'.w,λid aa q=>?_,λid aa=>?_⟩
 ·rw[h'.keep id (by omega) (λac=>by rcases h.own id ac with ab | ab;exact q ab;omega),h.keep id aa q]
 ·rcases h'.own id aa with q | q
  ·exact h.own id q
  ·exact .inr (by omega)
structure Cns {α:Type} (base:Nat) (l:Nat) (items:List α) (It:Qa->Qa->α->Value->Prop) (R:Nat->Qa->Prop) (Own:Qa->Nat->Prop):Prop where
 ext:∀j H H',R j H->H.Wf->Ext H H'->R j H'∧∀id,Own H' id->Own H id
 low:∀j H id,R j H->Own H id->id<H.next
 go:∀j w H0 H v,items[j]? = some w->R j H->R j H0->H0.Wf->It H0 H w v->base<=H0.next->Ext H0 H->(∀id,Own H id->Own H0 id)->YQ prog l [v] H λu H'=>u=.bool true∧R (j+1) H'∧CK Own H H'
theorem Cns.ck {α:Type}{base l:Nat}{ae:List α}{It:Qa->Qa->α->Value->Prop}{R:Nat->Qa->Prop}{Own:Qa->Nat->Prop}(h:Cns base l ae It R Own){j:Nat}{H H':Qa}(ab:R j H)(ac:H.Wf)(aa:Ext H H')(ad:H'.Wf):CK Own H H':=
 ⟨aa.next,ad,λid q _=>aa.get id q,λid q=>.inl ((h.ext j H H' ab ac aa).2 id q)⟩
def QFK (q:Nat)(m:Mm):Bool:=if q=0 then(m.d==0)&&!(Wj m.b==5) else if q=1 then QoT m.d 8 else true
def Qk4 (q:Nat)(m:Mm):List Int:=if q=0 then[] else if q=1 then(Ku m.d 1).1 else(Ku m.d 4).1
def Zx (mid rm:Int)(sib:List Int)(m:Mm)(q:Nat):List Ld:=if QFK q m=true then[⟨[QA q mid rm]++sib++Qk4 q m,Wi m.i,Wi m.b⟩] else[]
def YY (mid rm:Int)(sib:List Int)(m:Mm):List Ld:=(List.range 3).flatMap (Zx mid rm sib m)
def Qo2:List Value:=[.func (.func 414) #[] #[],.func (.func 415) #[] #[],.func (.func 416) #[] #[],.func (.func 418) #[] #[],.func (.func 419) #[] #[],.func (.func 420) #[] #[]]
theorem Qrp (H:Qa):Qe prog 403 [] H λu H'=>u=.slice (some ⟨H.next,0,none⟩) 3 3∧H'=H.push (.cells Qo2 320 false):=by
 refine QpV λq=>?_;simp only[Qhi,Qb,simprocAttr,Gu,J7,Nat.reduceMul,QoR];exact .mk (by rw[Qd];omega) ⟨rfl,rfl⟩
theorem QHJ (d q:Int)(H:Qa):Qe prog 414 [.int .i64 d,.int .i64 q] H λu H'=>u=.bool ((d==0)&&!(q==5))∧H'=H:=by
 refine Qnd λaa=>?_;simp only[QeQ,Qb,simprocAttr];cases h:d==0<;>simp only[Qb,simprocAttr,h,QlN]
 all_goals exact .mk (Lb _) ⟨rfl,rfl⟩
theorem QHK (d q:Int)(H:Qa):Qe prog 416 [.int .i64 d,.int .i64 q] H λu H'=>u=.bool (QoT d 8)∧H'=H:=by
 refine Qnf λaa=>?_;simp only[QeS,Qb,simprocAttr];refine(QvW d 8 H).thenW ?_;rintro _ H _ _ ⟨rfl,rfl⟩;simp only[Qb,simprocAttr,QlP];exact .mk (Lb _) ⟨rfl,rfl⟩
theorem QHL (d q:Int)(H:Qa):Qe prog 419 [.int .i64 d,.int .i64 q] H λu H'=>u=.bool true∧H'=H:=by
 refine Qnh λaa=>?_;simp only[QeU,Qb,simprocAttr,QlR];exact .mk (Lb _) ⟨rfl,rfl⟩
theorem QHM (d:Int)(H:Qa):Qe prog 415 [.int .i64 d] H λv H'=>Gx 1 5 H H' v 0 []∧Ext H H':=by
 refine Qne λq=>?_;simp only[QeR,Qb,simprocAttr,QlO];exact .mk (Lb _) ⟨.inl ⟨rfl,rfl,rfl⟩,.refl _⟩
theorem QHN (d:Int)(aa:I64 d)(H:Qa):Qe prog 418 [.int .i64 d] H λv H'=>Gx 1 5 H H' v (Ku d 1).1.length (bys (Ku d 1).1)∧Ext H H':=by
 refine Qng λac=>?_;simp only[QeT,Qb,simprocAttr];refine(Qf1 d 1 aa H).thenW ?_;rintro v H1 _ _ ⟨ab,q⟩;simp only[Qb,simprocAttr,QlQ];exact .mk q.next ⟨ab,q⟩
theorem QHO (d:Int)(aa:I64 d)(H:Qa):Qe prog 420 [.int .i64 d] H λv H'=>Gx 1 5 H H' v (Ku d 4).1.length (bys (Ku d 4).1)∧Ext H H':=by
 refine Qni λac=>?_;simp only[QeV,Qb,simprocAttr];refine(Qf1 d 4 aa H).thenW ?_;rintro v H1 _ _ ⟨ab,q⟩;simp only[Qb,simprocAttr,QlS];exact .mk q.next ⟨ab,q⟩
theorem QHP (q:Nat)(h:q<3)(m:Mm)(aa:I64 m.d):∃f g:FuncId,(Qo2.drop (q * 2)).take 2=[.func (.func f) #[] #[],.func (.func g) #[] #[]]∧(∀H,Qe prog f [.int .i64 m.d,.int .i64 (Wj m.b)] H λu H'=>u=.bool (QFK q m)∧H'=H)∧(∀H,Qe prog g [.int .i64 m.d] H λv H'=>Gx 1 5 H H' v (Qk4 q m).length (bys (Qk4 q m))∧Ext H H'):=by
 rcases q with _ | _ | _ | q
 ·exact⟨_,_,rfl,QHJ m.d (Wj m.b),QHM m.d⟩
 ·exact⟨_,_,rfl,QHK m.d (Wj m.b),QHN m.d aa⟩
 ·exact⟨_,_,rfl,QHL m.d (Wj m.b),QHO m.d aa⟩
 ·omega
theorem QxO (q:Nat)(m:Mm):(Qk4 q m).length<=8:=by
 unfold Qk4;split
 ·simp
 ·split
  ·exact QkG _ _ (by decide)
  ·exact QkG _ _ (by decide)
theorem Qk5 (mid rm:Int)(sib:List Int)(m:Mm)(q:Nat):(List.range (q+1)).flatMap (Zx mid rm sib m)=(List.range q).flatMap (Zx mid rm sib m)++Zx mid rm sib m q:=by
 rw[R0,Bm];simp
theorem Qs0 {base l:Nat}{aG:List Ld}{R:Nat->Qa->Prop}{Own:Qa->Nat->Prop}(aa:Cns base l aG LdV R Own)(mid rm:Int)(b8:0<=mid∧mid<8)(bB:0<=rm∧rm<8){sib:List Int}(cj:sib.length<=8){sv:Value}(m:Mm)(bq:I64 m.d)(am:Nat){Hs H:Qa}(bW:base<=H.next)(ar:R am H)(bC:Gx 1 5 Hs H sv sib.length (bys sib))(bG:∀id,inB sv id->¬Own H id)
  (b3:∀i w,(YY mid rm sib m)[i]? = some w->aG[am+i]? = some w):
  Qe prog 386 [.func (.yield l) #[] #[],.int .i64 mid,.int .i64 rm,sv,.agg m.cells.toArray] H λu H'=>u=.bool true∧R (am+(YY mid rm sib m).length) H'∧CK Own H H':=by
 refine Qhh λaw=>?_;have bT:=QHP;have bX:sv=sv:=rfl;obtain⟨aH,bU⟩:∃aH:Value,aH=.agg m.cells.toArray:=⟨_,rfl⟩;have bh:(Value.agg m.cells.toArray).cells.toList=m.cells:=rfl;simp only[Qae,bh,JL,simprocAttr];have aZ:=(Ext.refl H).push (.cells m.cells 56 false);have bH:=aw.push (.cells m.cells 56 false);have aP:(H.push (.cells m.cells 56 false)).get H.next=some (.cells m.cells 56 false):=by rw[Qc,Lc rfl]
 generalize H.push (.cells m.cells 56 false)=H1 at *;refine(Qrp H1).thenW ?_;rintro _ Hb ci ah ⟨rfl,az⟩;have bd:Ext H1 Hb:=by rw[az];exact(Ext.refl H1).push _
 have aR:Hb.get H1.next=some (.cells Qo2 320 false):=by rw[az,Qc,Lc rfl]
 have aB:Hb.get H.next=some (.cells m.cells 56 false):=by rw[bd.get _ (bH.lt aP)];exact aP
 clear az;have ay:=aZ.trans bd;obtain⟨aO,aA⟩:=aa.ext _ _ _ ar aw ay;have aV:=aa.low am H;have aY:=bC.go aw ay;simp only[JL,simprocAttr,QL];refine Qo (λk A' H'=>∃q:Nat,q<=3∧k=3 - q∧R (am+((List.range q).flatMap (Zx mid rm sib m)).length) H'∧CK Own Hb H'∧A' 0=.func (.yield l) #[] #[]∧A' 1=.int .i64 mid∧A' 2=.int .i64 rm∧A' 3=sv∧A' 9=.pointer (some ⟨H.next,0,none⟩)∧A' 14=.slice (some ⟨H1.next,0,none⟩) 3 3∧A' 15=.int .i64 3∧A' 16=.int .i64 q) 3 ?_ ?_
 ·refine⟨0,by omega,rfl,aO,aa.ck aO ah (.refl _) ah,?_,?_,?_,?_,?_,?_,?_,?_⟩
  all_goals simp only[Qg,simprocAttr]
  all_goals rfl
 ·rintro k A' Ha ⟨q,ce,rfl,ak,ad,ab,r1,r2,r3,ac,an,ai,aj⟩;have ag:=ad.w;have ch:=ad.next;have b9:¬Own Hb H.next:=λh=>by have:=aV _ ar (aA _ h);omega
  have bA:¬Own Hb H1.next:=λh=>by have:=aV _ ar (aA _ h);have:=aZ.next;omega
  have ao:Ha.get H.next=some (.cells m.cells 56 false):=by rw[ad.keep _ (ah.lt aB) b9];exact aB
  have gx:Ha.get H1.next=some (.cells Qo2 320 false):=by rw[ad.keep _ (ah.lt aR) bA];exact aR
  simp only[GB,Qb,simprocAttr,ai,aj];refine Qf (λae=>?_) (λae=>?_)
  ·have ae:q<3:=by have:=Lg ae;omega
   obtain⟨f,g,bu,bR,bS⟩:=bT q ae m bq;have d1:(0:Int)<=q∧(q:Int)<(3:Nat):=by omega
   have d3:(q:Int).toNat=q:=by omega
   have ei:IntKind.i64.wrap ((q:Int)+1)=((q+1:Nat):Int):=by rw[w64 (by unfold I64;omega)];omega
   have b7:q * 2+2<=Qo2.length:=by show q * 2+2<=6;omega
   simp only[GA,sxA,sxB,Nat.reduceBEq,Nat.reduceEqDiff,reduceCtorEq,mxA,mxB,Nat.reduceAdd,reduceIte,Nat.reduceLeDiff,splice,ab,r1,r2,r3,ac,an,ai,aj,d1,d3,gx,bu,Gu,J7];have cc:=ah.lt aB;have bQ:¬H.next=Ha.next:=by omega
   have aN:=ao;simp only[Mm.cells]at aN;refine⟨b7,by simp[Qi,Ab.plain],?_⟩;simp only[Qb,simprocAttr,ac,bQ,LN,aN];generalize aq:(Ha.push _).set Ha.next _=H3;have bO:Ext Ha H3:=by rw[<- aq];exact((Ext.refl Ha).push _).set (Lb _) _
   have bJ:H3.Wf:=by rw[<- aq];exact(ag.push _).set (b0:=.cells [.nilFunc,.nilFunc] 320 false) (by rw[Qc,Lc rfl]) _
   have aI:H3.get Ha.next=some (.cells [.func (.func f) #[] #[],.func (.func g) #[] #[]] 320 false):=by rw[<- aq,Qn,Lc rfl]
   clear aq;have ca:=bJ.lt aI;refine⟨by simp[Qi,Ab.plain],?_⟩;refine(QcJ m.b H3).thenW ?_;rintro _ _ aD ax ⟨rfl,k,rfl⟩;simp only[Ql]at aD;have al:=bO.up aD;simp only[Qb,simprocAttr,Qc3];refine⟨((Ext.refl H3).up aD).eqB,?_⟩;have aJ:(H3.up k).get Ha.next=some (.cells [.func (.func f) #[] #[],.func (.func g) #[] #[]] 320 false):=by rw[Zk];exact aI
   generalize H3.up k=H4 at *;refine(bR H4).thenW ?_;rintro _ H4 _ _ ⟨rfl,rfl⟩;obtain⟨bp,bV⟩:=aa.ext _ _ _ ak ag al;have b5:CK Own Hb H4:=ad.trans (aa.ck ak ag al ax);cases aW:QFK q m with
   | false=>
    simp only[Qb,simprocAttr,LM,aj,ei];have b6:Zx mid rm sib m q=[]:=by unfold Zx;rw[Le (by simp[aW])]
    refine⟨3 - (q+1),by omega,q+1,by omega,rfl,?_,b5,?_,?_,?_,?_,?_,?_,?_,?_⟩
    ·rw[Qk5,b6,Na];exact bp
    all_goals simp only[Qg,simprocAttr,ab,r1,r2,r3,ac,an,ai]
   | true=>
    simp only[Gz,Qb,simprocAttr,L8,ab,r1,r2,r3,ac,an,ai,aj];refine(ZN q mid rm (by omega) b8 bB H4).thenW ?_;rintro _ H4 _ _ ⟨rfl,rfl⟩;simp only[Qb,simprocAttr,ab,r1,r2,r3,ac,an,ai,aj];have bF:Gx 1 5 Hs Ha sv sib.length (bys sib):=aY.ext λid aS=>ad.keep id (by have:=aY.low ah aS;omega) (λh=>bG id aS (aA id h));have bD:=bF.go ag al;have ba:=(Ext.refl H4).push (.cells [.int .u8 (QA q mid rm)] 5 false);have bK:=ax.push (.cells [.int .u8 (QA q mid rm)] 5 false);have bw:Gx 1 5 H4 (H4.push (.cells [.int .u8 (QA q mid rm)] 5 false)) (.slice (some ⟨H4.next,0,none⟩) 1 1) 1 (bys [QA q mid rm]):=.inr ⟨_,_,rfl,Lb _,by rw[Qc,Lc rfl];rfl,rfl,.inl rfl⟩;have bE:=bD.go ax ba;generalize H4.push _=H5 at *;have bZ:=QxO q m;refine Y8 bw ba bK bE.src (ZK _) (by rw[Xe,NH]) (by omega) (by omega) ?_;intro cm H6 bx au;have bi:H6.get Ha.next=some (.cells [.func (.func f) #[] #[],.func (.func g) #[] #[]] 320 false):=by rw[au.x.get _ (ax.lt aJ)];exact aJ
    have bP:=al.trans au.x;have aK:H6.get H.next=some (.cells m.cells 56 false):=by rw[bP.get _ (by omega)];exact ao
    simp only[Mm.cells]at aK;simp only[Qb,simprocAttr,bi,aK,Qc3,ab,r1,r2,r3,ac,an,ai,aj];refine(bS H6).thenW ?_;rintro cn H7 cg bL ⟨bz,bb⟩;simp only[Qb,simprocAttr];refine Y8 (bx.go au.w bb) (au.x.trans bb) bL bz.src (ZK _) (by rw[Xe,NH]) (by omega) (by omega) ?_;intro co H8 aQ aT;obtain⟨a8,bg,rfl⟩:=aQ.slc;have aF:=al.trans aT.x;have aL:H8.get H.next=some (.cells m.cells 56 false):=by rw[aF.get _ (by omega)];exact ao
    simp only[Mm.cells]at aL;have bM:=aT.w;simp only[Qb,simprocAttr,aL,ab,ac];have bY:=aF.next;refine⟨by omega,?_⟩;refine(QeW m.i H8).thenW ?_;rintro _ _ av bN ⟨rfl,k9,rfl⟩;simp only[Ql]at av;have bc:=aF.up av;have aM:(H8.up k9).get H.next=some (.cells m.cells 56 false):=by rw[bc.get _ (by omega)];exact ao
    simp only[Mm.cells]at aM;have br:=((Ext.refl H8).up av).eqB;have b1:=aQ.go bM ((Ext.refl H8).up av);generalize H8.up k9=H9 at *;simp only[Qb,simprocAttr,aM,ab,ac];refine⟨br,by simp[Qi,Ab.plain],?_⟩;refine(QeW m.b H9).thenW ?_;rintro _ _ aC bI ⟨rfl,k10,rfl⟩;simp only[Ql]at aC;have aE:=bc.up aC;have bv:=b1.go bN ((Ext.refl H9).up aC);obtain⟨bn,bm⟩:=aa.ext _ _ _ ak ag aE;generalize H9.up k10=H10 at *;simp only[Qb,simprocAttr,ab,Qeh];have aX:Zx mid rm sib m q=[⟨[QA q mid rm]++sib++Qk4 q m,Wi m.i,Wi m.b⟩]:=by unfold Zx;rw[Lc aW]
    have b2:aG[am+((List.range q).flatMap (Zx mid rm sib m)).length]? = some ⟨[QA q mid rm]++sib++Qk4 q m,Wi m.i,Wi m.b⟩:=by
     refine b3 _ _ ?_;unfold YY;have bj:List.range 3=List.range (q+1)++(List.range 3).drop (q+1):=by
      rcases q with _ | _ | _ | q
      ·rfl
      ·rfl
      ·rfl
      ·omega
     rw[bj,Bm,Qk5,aX,LQ,LR (Lb _),BJ];rfl
    have bk:LdV Ha H10 ⟨[QA q mid rm]++sib++Qk4 q m,Wi m.i,Wi m.b⟩ (.agg #[.slice a8 (1+sib.length+(Qk4 q m).length) bg,.int .i64 (Wi m.i),.int .i64 (Wi m.b)]):=by
     have e1:([QA q mid rm]++sib++Qk4 q m).length=1+sib.length+(Qk4 q m).length:=by simp only[Lh,Lo,L9]
     have e2:bys ([QA q mid rm]++sib++Qk4 q m)=bys [QA q mid rm]++bys sib++bys (Qk4 q m):=by rw[Jg,Jg]
     refine⟨_,rfl,?_⟩;show Gx 1 5 Ha H10 _ ([QA q mid rm]++sib++Qk4 q m).length (bys ([QA q mid rm]++sib++Qk4 q m));rw[e1,e2];exact bv.down al.next
    refine QlC (aa.go _ _ Ha H10 _ b2 bn ak ag bk (by have:=ay.next;omega) aE bm) ?_;rintro _ H11 cf cl ⟨rfl,bo,b4⟩;simp only[Qb,simprocAttr,L8,aj,ei];refine⟨3 - (q+1),by omega,q+1,by omega,rfl,?_,?_,?_,?_,?_,?_,?_,?_,?_,?_⟩
    ·rw[Qk5,aX,Lh];exact bo
    ·exact(ad.trans (aa.ck ak ag aE bI)).trans b4
    all_goals simp only[Qg,simprocAttr,ab,r1,r2,r3,ac,an,ai]
  ·have ae:q=3:=by have:=Ll ae;omega
   subst ae;simp only[Qb,simprocAttr,Qgf];have aU:CK Own H Ha:=(aa.ck ar aw ay ah).trans ad;exact .mk aU.next ⟨rfl,ak,aU⟩
def QdZ (mid:Int)(m:Mm):List Ld:=
 if(m.b.c==8)=true then[⟨[QA 0 mid 5]++(Ku m.d 4).1,0,0⟩]
 else if isR m.b 0 0=true then[Qa6 mid m.i m.sc m.d]
 else if isR m.i 0 0=false then YY mid 4 [QA (Ws m.sc) (Wj m.i) (Wj m.b)] m
 else(if(Wj m.b==4)=true then[] else YY mid (Wj m.b) [] m)++(YY mid 4 [QA 0 4 (Wj m.b)] m++(if(m.b.n==4)=true then[] else[Qa6 mid m.b 1 m.d]))
theorem Qs1 (H:Qa)(b:Int):Gx 1 5 H (H.push (.cells [.int .u8 b] 5 false)) (.slice (some ⟨H.next,0,none⟩) 1 1) 1 (bys [b]):=.inr ⟨_,_,rfl,Lb _,by rw[Qc,Lc rfl];rfl,rfl,.inl rfl⟩
section
variable {base l:Nat} {R:Nat->Qa->Prop} {Own:Qa->Nat->Prop} {mid:Int} {m:Mm} {H:Qa} {bm bi:Nat}
theorem Qua (q:Cns base l (QdZ mid m) LdV R Own)(bR:base<=H.next)(av:0<=mid∧mid<8)(ar:I64 m.d)(bd:isR m.i 0 0=false->XE m.sc=true)(aO:R 0 H)(aK:H.get bm=some (.cells m.cells 56 false))(aW:H.get bi=some (.cells [.int .i64 mid] 3 false))(bP:¬Own H bm)(bO:¬Own H bi):
  Qe prog 382 [.func (.yield l) #[] #[],.pointer (some ⟨bm,0,none⟩),.pointer (some ⟨bi,0,none⟩)] H λu H'=>R (QdZ mid m).length H'∧CK Own H H':=by
 refine Qri λaI=>?_;have aT:=Jr m.b;have bD:=Jr m.i;have bE:=Qda m.sc;have bC:=aI.lt aK;have bB:=aI.lt aW;have br:=QcJ m.b;have bu:=QcJ m.i;have b6:(m.b.c==0&&m.b.n==0)=isR m.b 0 0:=rfl;have b7:(m.i.c==0&&m.i.n==0)=isR m.i 0 0:=rfl;have aL:=aK;simp only[Mm.cells]at aL;simp only[Rg.cells]at br bu;simp only[Qjc,Qb,simprocAttr,aL];refine(br H).thenW ?_;rintro _ _ bk bI ⟨rfl,k1,rfl⟩;simp only[Ql]at bk;have bN:¬bm=k1:=by omega
 simp only[Qb,simprocAttr,bN,LN,aL];generalize aA:((H.up k1).push _).set k1 _=H2;have an:Ext H H2:=by rw[<- aA];exact(((Ext.refl H).up bk).push _).set (by omega) _
 have ab:H2.Wf:=by rw[<- aA];exact(bI.push _).set (b0:=.cells [.int .i64 0,.int .i64 0] 54 false) (by rw[Qc,Lc (by rw[Ql])]) _
 have bS:k1<H2.next:=by rw[<- aA,Qv,Qd,Ql];omega
 have aV:H2.get k1=some (.cells [.int .i64 0,.int .i64 0] 54 false):=by rw[<- aA,Qn,Lc rfl]
 have ak:H2.get bm=some (.cells m.cells 56 false):=by rw[an.get _ bC];exact aK
 have aj:H2.get bi=some (.cells [.int .i64 mid] 3 false):=by rw[an.get _ bB];exact aW
 clear aA;obtain⟨ag,aM⟩:=q.ext _ _ _ aO aI an;have aF:=q.ck aO aI an ab;have bq:¬Own H2 bm:=λh=>bP (aM _ h);have bp:¬Own H2 bi:=λh=>bO (aM _ h);have bZ:¬Own H2 k1:=λh=>by have:=q.low _ _ _ aO (aM _ h);omega
 obtain⟨W,aa⟩:∃W,W=QdZ mid m:=⟨_,rfl⟩;rw[<- aa]at q ⊢;unfold QdZ at aa;have al:=ak;simp only[Mm.cells]at al;cases ba:m.b.c==8 with
 | true=>
  rw[ba,Lc rfl]at aa;simp only[Qb,simprocAttr,aj];refine⟨by omega,?_⟩;refine(ZN 0 mid 5 (by decide) av (by decide) H2).thenW ?_;rintro _ H2 _ _ ⟨rfl,rfl⟩;have ai:=(Ext.refl H2).push (.cells [.int .u8 (QA 0 mid 5)] 5 false);have am:=ab.push (.cells [.int .u8 (QA 0 mid 5)] 5 false);have b8:=Qs1 H2 (QA 0 mid 5);have ay:(H2.push (.cells [.int .u8 (QA 0 mid 5)] 5 false)).get bm=some (.cells m.cells 56 false):=by rw[ai.get _ (by have:=ab.lt ak;omega)];exact ak
  have bK:¬bm=H2.next:=by have:=ab.lt ak;omega
  simp only[Mm.cells]at ay;simp only[Qb,simprocAttr,bK,LN,al];generalize H2.push _=H3 at *;refine⟨λ_ _=>rfl,by simp[Qi,Ab.plain],?_⟩;refine(Qf1 m.d 4 ar H3).thenW ?_;rintro cc H4 _ aw ⟨aC,ae⟩;have bX:=QkG m.d 4 (by decide);simp only[Qb,simprocAttr];refine⟨ae.eqB,?_⟩;refine Y8 (b8.go am ae) (ai.trans ae) aw aC.src (ZK _) (by rw[Xe,NH]) (by omega) (by omega) ?_;intro ce H5 bg aG;obtain⟨a5,bQ,rfl⟩:=bg.slc;obtain⟨b1,bx⟩:=q.ext _ _ _ ag ab aG.x;have b4:=aF.trans (q.ck ag ab aG.x aG.w);simp only[Qb,simprocAttr,Qeh];refine QlC (q.go 0 ⟨[QA 0 mid 5]++(Ku m.d 4).1,0,0⟩ H2 H5 _ (by rw[aa];rfl) b1 ag ab ⟨_,rfl,?_⟩ (by have:=an.next;omega) aG.x bx) ?_
  ·show Gx 1 5 H2 H5 _ ([QA 0 mid 5]++(Ku m.d 4).1).length (bys ([QA 0 mid 5]++(Ku m.d 4).1));rw[Jg,Lh];exact bg
  rintro _ H6 aH ao ⟨rfl,ac,ah⟩;have ad:=b4.trans ah;simp only[Qb,simprocAttr,Jq];exact .mk ad.next ⟨by rw[aa];exact ac,ad⟩
 | false=>
  rw[ba,Le (by simp)]at aa;simp only[QfZ,Qb,simprocAttr,al,aV,Qs,Ls,b6];cases bc:isR m.b 0 0 with
  | true=>
   rw[bc,Lc rfl]at aa;simp only[Qb,simprocAttr,al,aj];refine(Qms mid m.i m.sc m.d av bd ar H2).thenW ?_;rintro ca H3 _ am ⟨bG,ai⟩;obtain⟨aB,bb⟩:=q.ext _ _ _ ag ab ai;have aQ:=aF.trans (q.ck ag ab ai am);simp only[Qb,simprocAttr,Qeh];refine QlC (q.go 0 _ H2 H3 _ (by rw[aa];rfl) aB ag ab bG (by have:=an.next;omega) ai bb) ?_;rintro _ H6 aH ao ⟨rfl,ac,ah⟩;have ad:=aQ.trans ah;simp only[Qb,simprocAttr,Jq];exact .mk ad.next ⟨by rw[aa];exact ac,ad⟩
  | false=>
   rw[bc,Le (by simp)]at aa;simp only[QfY,Qb,simprocAttr,al,aV,Qs,Lq,b7];cases aS:isR m.i 0 0 with
   | false=>
    rw[aS,Lc rfl]at aa;simp only[QfV,Qb,simprocAttr,al,LM];refine⟨by omega,?_⟩;refine(Qmr m.sc (bd aS) H2).thenW ?_;rintro _ H2 _ _ ⟨rfl,rfl⟩;simp only[Qb,simprocAttr,al];refine⟨λ_ _=>rfl,by simp[Qi,Ab.plain],?_⟩;refine(bu H2).thenW ?_;rintro _ _ bn am ⟨rfl,k3,rfl⟩;simp only[Ql]at bn;have ai:=(Ext.refl H2).up bn;have ay:(H2.up k3).get bm=some (.cells m.cells 56 false):=by rw[Zk];exact ak
    have bv:(H2.up k3).get bi=some (.cells [.int .i64 mid] 3 false):=by rw[Zk];exact aj
    simp only[Mm.cells]at ay;obtain⟨aB,bb⟩:=q.ext _ _ _ ag ab ai;have aQ:=aF.trans (q.ck ag ab ai am);generalize H2.up k3=H3 at *;simp only[Qb,simprocAttr];refine(ZN _ _ _ bE bD aT H3).thenW ?_;rintro _ H3 _ _ ⟨rfl,rfl⟩;simp only[Qb,simprocAttr,bv];have bT:=am.lt ay;have bL:¬bm=H3.next:=by omega
    simp only[Qb,simprocAttr,bL,LN,ay];have ae:=(Ext.refl H3).push (.cells [.int .u8 (QA (Ws m.sc) (Wj m.i) (Wj m.b))] 5 false);have aw:=am.push (.cells [.int .u8 (QA (Ws m.sc) (Wj m.i) (Wj m.b))] 5 false);have aC:=Qs1 H3 (QA (Ws m.sc) (Wj m.i) (Wj m.b));generalize H3.push _=H4 at *;obtain⟨aP,aN⟩:=q.ext _ _ _ aB am ae;have aR:=aQ.trans (q.ck aB am ae aw);refine(Qs0 q mid 4 av (by decide) (sib:=[QA (Ws m.sc) (Wj m.i) (Wj m.b)]) (by simp) m ar 0 (by have:=an.next;have:=ai.next;have:=ae.next;omega) aP aC (λid ⟨o,n,c,e⟩ h=>by cases e;have:=q.low _ _ _ aB (aN _ h);omega) (λi w h=>by rw[aa,LP];exact h)).thenW ?_;rintro _ H6 aH ao ⟨rfl,ac,ah⟩;have ad:=aR.trans ah;simp only[Qb,simprocAttr,Jq];exact .mk ad.next ⟨by rw[aa];rw[LP]at ac;exact ac,ad⟩
   | true=>
    rw[aS,Le (by simp)]at aa
    -- the last two ways,behind what is told
    have bo:∀ (pre:List Ld) (Hx:Qa) (A:Env),W=pre++(YY mid 4 [QA 0 4 (Wj m.b)] m++(if(m.b.n==4)=true then[] else[Qa6 mid m.b 1 m.d]))->R pre.length Hx->CK Own H2 Hx->A 0=.func (.yield l) #[] #[]->A 1=.pointer (some ⟨bm,0,none⟩)->A 2=.pointer (some ⟨bi,0,none⟩)->A 5=.int .i64 (Wj m.b)->
      Qm prog Qa4 ⟨Rt prog Tryz.f382 H λu H'=>R W.length H'∧CK Own H H',exK 0 (Rt prog Tryz.f382 H λu H'=>R W.length H'∧CK Own H H') WL⟩ (Rt prog Tryz.f382 H λu H'=>R W.length H'∧CK Own H H') A Hx:=by
     intro pre Hx A aq aE au aD r1 r2 r5;have ax:=au.w;have aY:Hx.get bm=some (.cells m.cells 56 false):=by rw[au.keep _ (ab.lt ak) bq];exact ak
     have aX:Hx.get bi=some (.cells [.int .i64 mid] 3 false):=by rw[au.keep _ (ab.lt aj) bp];exact aj
     have aZ:=aY;simp only[Mm.cells]at aZ;have bU:=ax.lt aY;have bV:=ax.lt aX;simp only[Qa4,Qb,simprocAttr,aD,r1,r2,r5,aX];refine⟨by simp[Qi,Ab.plain],by omega,?_⟩;refine(ZN 0 4 _ (by decide) (by decide) aT Hx).thenW ?_;rintro _ Hx _ _ ⟨rfl,rfl⟩;have bM:¬bm=Hx.next:=by omega
     simp only[Qb,simprocAttr,bM,LN,aD,r1,r2,r5,aZ];have ae:=(Ext.refl Hx).push (.cells [.int .u8 (QA 0 4 (Wj m.b))] 5 false);have aw:=ax.push (.cells [.int .u8 (QA 0 4 (Wj m.b))] 5 false);have aC:=Qs1 Hx (QA 0 4 (Wj m.b));obtain⟨aP,aN⟩:=q.ext _ _ _ aE ax ae;have aR:=(aF.trans au).trans (q.ck aE ax ae aw);refine⟨λ_ _=>rfl,by simp[Qi,Ab.plain],?_⟩;generalize Hx.push _=H4 at *;have bF:∀i w,(YY mid 4 [QA 0 4 (Wj m.b)] m)[i]? = some w->W[pre.length+i]? = some w:=λi w h=>by
      have hi:=(Lk.1 h).1;rw[aq,LR (Ro _ _),NL,LY hi];exact h
     refine(Qs0 q mid 4 av (by decide) (sib:=[QA 0 4 (Wj m.b)]) (by simp) m ar pre.length (by have:=an.next;have:=au.next;have:=ae.next;omega) aP aC (λid ⟨o,n,c,e⟩ h=>by cases e;have:=q.low _ _ _ aE (aN _ h);omega) bF).thenW ?_;rintro _ H6 aH ao ⟨rfl,ac,ah⟩;have ad:=aR.trans ah;have bj:=(au.trans (q.ck aE ax ae aw)).trans ah;have aJ:H6.get bm=some (.cells m.cells 56 false):=by rw[bj.keep _ (ab.lt ak) bq];exact ak
     have bw:H6.get bi=some (.cells [.int .i64 mid] 3 false):=by rw[bj.keep _ (ab.lt aj) bp];exact aj
     simp only[Mm.cells]at aJ;simp only[QfW,Qb,simprocAttr,L8,aD,r1,r2,aJ];cases az:m.b.n==4 with
     | true=>
      rw[az,Lc rfl,Na]at aq;simp only[Qb,simprocAttr,L8,Jq];exact .mk ad.next ⟨by rw[aq,Lh];exact ac,ad⟩
     | false=>
      rw[az,Le (by simp)]at aq;simp only[Qb,simprocAttr,LM,aD,r1,r2,aJ,bw];refine(Qms mid m.b 1 m.d av (λ_=>rfl) ar H6).thenW ?_;rintro cf H8 _ bJ ⟨bH,aU⟩;obtain⟨b2,bz⟩:=q.ext _ _ _ ac ao aU;have b5:=ad.trans (q.ck ac ao aU bJ);simp only[Qb,simprocAttr,aD,Qeh];have b9:W[pre.length+(YY mid 4 [QA 0 4 (Wj m.b)] m).length]? = some (Qa6 mid m.b 1 m.d):=by
       rw[aq,LR (Ro _ _),NL,LR (Lb _),BJ];rfl
      refine QlC (q.go _ _ H6 H8 _ b9 b2 ac ao bH (by have:=ad.next;omega) aU bz) ?_;rintro _ H9 bW bY ⟨rfl,b3,bA⟩;have bh:=b5.trans bA;simp only[Qb,simprocAttr,Jq];refine .mk bh.next ⟨?_,bh⟩;have:W.length=pre.length+(YY mid 4 [QA 0 4 (Wj m.b)] m).length+1:=by rw[aq];simp only[Lh,Lo,L9];omega
      rw[this];exact b3
    simp only[QfX,Qb,simprocAttr,L8,al,aj];cases az:Wj m.b==4 with
    | true=>
     rw[az,Lc rfl]at aa;simp only[Qb,simprocAttr,L8];refine bo [] H2 _ aa ag (q.ck ag ab (.refl _) ab) ?_ ?_ ?_ ?_
     all_goals simp only[Qg,simprocAttr]
    | false=>
     rw[az,Le (by simp)]at aa;simp only[Qb,simprocAttr,LM,al,aj];refine(Qs0 q mid (Wj m.b) av aT (sib:=[]) (by simp) m ar 0 (by have:=an.next;omega) ag (Hs:=H2) (.inl ⟨rfl,rfl,rfl⟩) (λid ⟨o,n,c,e⟩=>by cases e) (λi w h=>by
      have hi:=(Lk.1 h).1;rw[aa,LP,LY hi];exact h)).thenW ?_
     rintro _ H6 aH ao ⟨rfl,ac,ah⟩;simp only[Qb,simprocAttr,L8];rw[LP]at ac;refine bo _ H6 _ aa ac ah ?_ ?_ ?_ ?_
     all_goals simp only[Qg,simprocAttr]
end
def ldC (ss:List Value)(ws:List Ld):List Value:=(ss.zip ws).flatMap λp=>[p.1,.int .i64 p.2.x,.int .i64 p.2.h]
theorem QiA:∀ (ss:List Value) (ws:List Ld),ss.length=ws.length->(ldC ss ws).length=ws.length * 3
 | [],[],_=>rfl
 | s::ss,w::ws,h=>by
  have:=QiA ss ws (by simpa using h);unfold ldC at *;simp only[BF,Ba,Lh,Lo,L9,this];omega
theorem QDR (ss:List Value)(ws:List Ld)(h:ss.length=ws.length)(s:Value)(w:Ld):ldC (ss++[s]) (ws++[w])=ldC ss ws++[s,.int .i64 w.x,.int .i64 w.h]:=by
 unfold ldC;rw[List.zip_append h,Bm];rfl
structure Wa (e:TypeId) (H0 H:Qa) (v:Value) (ws:List Ld):Prop where
 it:∃ss:List Value,ss.length=ws.length∧Gx 3 e H0 H v ws.length (ldC ss ws)∧∀ (j:Nat) s w,ss[j]? = some s->ws[j]? = some w->Gx 1 5 H0 H s w.b.length (bys w.b)
theorem Wa.nil (e:TypeId)(H0 H:Qa):Wa e H0 H (.slice none 0 0) []:=⟨[],rfl,.inl ⟨rfl,rfl,rfl⟩,λj s w h=>by simp at h⟩
theorem Wa.go {e:TypeId}{H0 H H':Qa}{v:Value}{ws:List Ld}(h:Wa e H0 H v ws)(q:H.Wf)(aa:Ext H H'):Wa e H0 H' v ws:=by
 obtain⟨ss,ab,ac,ad⟩:=h.it;exact⟨ss,ab,ac.go q aa,λj s w ae ag=>(ad j s w ae ag).go q aa⟩
theorem Wa.slc {e:TypeId}{H0 H:Qa}{v:Value}{ws:List Ld}(h:Wa e H0 H v ws):∃a c,v=.slice a ws.length c:=by
 obtain⟨ss,aa,q,ab⟩:=h.it;exact q.slc
theorem Wa.down {e:TypeId}{H0 H1 H:Qa}{v:Value}{ws:List Ld}(h:Wa e H1 H v ws)(q:H0.next<=H1.next):Wa e H0 H v ws:=by
 obtain⟨ss,aa,ab,ac⟩:=h.it;exact⟨ss,aa,ab.down q,λj s w ad ae=>(ac j s w ad ae).down q⟩
theorem Wa.keep {e:TypeId}{H0 H H':Qa}{v:Value}{ws:List Ld}(h:Wa e H0 H v ws)(ad:∀id,H0.next<=id->(inB v id∨∃cs,H.get id=some (.cells cs 5 false))->H'.get id=H.get id):Wa e H0 H' v ws:=by
 obtain⟨ss,ae,q,ag⟩:=h.it;refine⟨ss,ae,?_,λj s w ah ai=>?_⟩
 ·rcases q with q | ⟨b,c,rfl,aa,ab,ac⟩
  ·exact .inl q
  ·exact .inr ⟨b,c,rfl,aa,by rw[ad b aa (.inl ⟨_,_,_,rfl⟩)];exact ab,ac⟩
 ·rcases ag j s w ah ai with q | ⟨b,c,rfl,aa,ab,ac⟩
  ·exact .inl q
  ·exact .inr ⟨b,c,rfl,aa,by rw[ad b aa (.inr ⟨_,ab⟩)];exact ab,ac⟩
theorem QA7 {e bytes:Nat}(aq:e≠5){H0 H:Qa}{v s:Value}{w:Ld}{ws:List Ld}{ss:List Value}{k:Value->Qa->Prop}{x:Value}(ah:ss.length=ws.length)(ae:Gx 3 e H0 H v ws.length (ldC ss ws))(ao:∀ (j:Nat) s w,ss[j]? = some s->ws[j]? = some w->Gx 1 5 H0 H s w.b.length (bys w.b))(az:Ext H0 H)(al:H.Wf)(ak:Gx 1 5 H0 H s w.b.length (bys w.b))(ay:Zt 3 x H=some (1,[s,.int .i64 w.x,.int .i64 w.h]))(hb:(ws.length+1) * bytes<=140737488355328)(au:ws.length+1<=9223372036854775807)
  (h:∀ad H',(ss++[s]).length=(ws++[w]).length->Gx 3 e H0 H' ad (ws++[w]).length (ldC (ss++[s]) (ws++[w]))->(∀ (j:Nat) ag w',(ss++[s])[j]? = some ag->(ws++[w])[j]? = some w'->Gx 1 5 H0 H' ag w'.b.length (bys w'.b))->GK v ad H0 H H'->k ad H'):QbP e 3 bytes v x H k:=by
 have aw:([s,.int .i64 w.x,.int .i64 w.h]:List Value).all (·.oneCell')=true:=by
  obtain⟨a,c,rfl⟩:=ak.slc;rfl
 refine Y8 ae az al ay aw rfl hb au ?_;intro ad H' ar aj;refine h ad H' (by simp[ah]) ?_ (λj ag w' q ab=>?_) aj
 ·rw[QDR _ _ ah,Lh];exact ar
 ·have av:∀id c',H.get id=some (.cells c' 5 false)->¬inB v id:=λid c' ai hi=>by
   obtain⟨o,aA,c,rfl⟩:=hi;rcases ae with⟨h,_,_⟩ | ⟨b,c,h,am,ac,an⟩
   ·cases h
   ·cases h;rw[ac]at ai;cases ai;exact aq rfl
  have key:∀ {s:Value} {bs:List Int},Gx 1 5 H0 H s bs.length (bys bs)->Gx 1 5 H0 H' s bs.length (bys bs):=λax=>by
   rcases ax with ae | ⟨b,c,rfl,am,ac,an⟩
   ·exact .inl ae
   ·exact .inr ⟨b,c,rfl,am,by rw[aj.keep b (al.lt ac) (av b _ ac)];exact ac,an⟩
  rcases Dj j ss.length with aa | aa | aa
  ·rw[LY aa]at q;rw[LY (by omega)]at ab;exact key (ao j ag w' q ab)
  ·rw[LR (by omega)]at q ab;rw[aa,BJ]at q;rw[aa,ah,BJ]at ab;cases q;cases ab;exact key ak
  ·have:=(Lk.1 q).1;simp at this;omega
theorem Qv5 {e bytes:Nat}(ad:e≠5){H0 H:Qa}{v s:Value}{w:Ld}{ws:List Ld}{k:Value->Qa->Prop}{x:Value}(ae:Wa e H0 H v ws)(ak:Ext H0 H)(aj:H.Wf)(ah:Gx 1 5 H0 H s w.b.length (bys w.b))(ai:Zt 3 x H=some (1,[s,.int .i64 w.x,.int .i64 w.h]))(hb:(ws.length+1) * bytes<=140737488355328)(ag:ws.length+1<=9223372036854775807)
  (h:∀q H',Wa e H0 H' q (ws++[w])->GK v q H0 H H'->k q H'):QbP e 3 bytes v x H k:=by
 obtain⟨ss,aa,ab,ac⟩:=ae.it;exact QA7 ad aa ab ac ak aj ah ai hb ag λq H' a b c d=>h q H' ⟨_,a,b,c⟩ d
def Inc (ss:List Value)(U:Nat):Prop:=ss.Pairwise (λs q=>∀a b,inB s a->inB q b->a<b)∧∀s∈ss,∀a,inB s a->a<U
theorem Inc.mono {ss:List Value}{U U':Nat}(h:Inc ss U)(ab:U<=U'):Inc ss U':=⟨h.1,λs aa a q=>N5 (h.2 s aa a q) ab⟩
theorem Inc.snoc {ss:List Value}{U U':Nat}(h:Inc ss U)(ad:U<=U'){s:Value}(ab:∀a,inB s a->U<=a∧a<U'):Inc (ss++[s]) U':=by
 refine⟨List.pairwise_append.2 ⟨h.1,Bw _ _,λx q y ac a b aa hb=>?_⟩,λx q a aa=>?_⟩
 ·cases Sa.1 ac;have:=h.2 x q a aa;have:=(ab b hb).1;omega
 ·rcases LI.1 q with q | q
  ·have:=h.2 x q a aa;omega
  ·cases Sa.1 q;exact(ab a aa).2
structure LsU (e:TypeId) (H0 H:Qa) (v:Value) (ws:List Ld) (U:Nat):Prop where
 it:∃ss:List Value,ss.length=ws.length∧Gx 3 e H0 H v ws.length (ldC ss ws)∧(∀ (j:Nat) s w,ss[j]? = some s->ws[j]? = some w->Gx 1 5 H0 H s w.b.length (bys w.b))∧Inc ss U
section
variable {e:TypeId} {H0 H H' H1:Qa} {v:Value} {ws:List Ld} {U U':Nat}
theorem LsU.ls (h:LsU e H0 H v ws U):Wa e H0 H v ws:=by
 obtain⟨ss,q,aa,ab,_⟩:=h.it;exact⟨ss,q,aa,ab⟩
theorem LsU.nil (e:TypeId)(H0 H:Qa)(U:Nat):LsU e H0 H (.slice none 0 0) [] U:=⟨[],rfl,.inl ⟨rfl,rfl,rfl⟩,λj s w h=>by simp at h,List.Pairwise.nil,λs h=>by cases h⟩
theorem LsU.mono (h:LsU e H0 H v ws U)(ad:U<=U'):LsU e H0 H v ws U':=by
 obtain⟨ss,q,aa,ab,ac⟩:=h.it;exact⟨ss,q,aa,ab,ac.mono ad⟩
theorem LsU.of (h:LsU e H0 H v ws U)(q:∀ {size e v n cs},Gx size e H0 H v n cs->Gx size e H1 H' v n cs):LsU e H1 H' v ws U:=by
 obtain⟨ss,aa,ab,ac,ad⟩:=h.it;exact⟨ss,aa,q ab,λj s w a b=>q (ac j s w a b),ad⟩
theorem LsU.go (h:LsU e H0 H v ws U)(q:H.Wf)(aa:Ext H H'):LsU e H0 H' v ws U:=h.of λg=>g.go q aa
theorem LsU.down (h:LsU e H1 H v ws U)(q:H0.next<=H1.next):LsU e H0 H v ws U:=h.of λg=>g.down q
end
theorem QA8 {e bytes:Nat}(ae:e≠5){H0 H:Qa}{v s:Value}{w:Ld}{ws:List Ld}{U U':Nat}{k:Value->Qa->Prop}{x:Value}(ag:LsU e H0 H v ws U)(al:U<=U')(ak:∀a,inB s a->U<=a∧a<U')(an:Ext H0 H)(am:H.Wf)(ai:Gx 1 5 H0 H s w.b.length (bys w.b))(aj:Zt 3 x H=some (1,[s,.int .i64 w.x,.int .i64 w.h]))(hb:(ws.length+1) * bytes<=140737488355328)(ah:ws.length+1<=9223372036854775807)
  (h:∀q H',LsU e H0 H' q (ws++[w]) U'->GK v q H0 H H'->k q H'):QbP e 3 bytes v x H k:=by
 obtain⟨ss,aa,ab,ac,ad⟩:=ag.it;exact QA7 ae aa ab ac an am ai aj hb ah λq H' a b c d=>h q H' ⟨_,a,b,c,ad.snoc al ak⟩ d
def clR (e:TypeId)(Hb:Qa)(cB lB:Nat)(eC:TypeId)(bl:Blk)(W:List Ld)(j:Nat)(H':Qa):Prop:=
 H'.get lB=some bl∧Hb.next<=H'.next∧(∀id,id<Hb.next->id≠cB->id≠lB->H'.get id=Hb.get id)∧∃v,H'.get cB=some (.cells [v] eC false)∧Wa e Hb H' v (W.take j)∧∀id,inB v id->id<H'.next∧Hb.next<=id
def clO (cB lB:Nat)(eC:TypeId)(H:Qa)(id:Nat):Prop:=id=cB∨id=lB∨∃v,H.get cB=some (.cells [v] eC false)∧inB v id
theorem QFL {e:TypeId}{Hb:Qa}{cB lB:Nat}(ak:cB<Hb.next)(al:lB<Hb.next){eC:TypeId}{bl:Blk}{W:List Ld}{j:Nat}{H1 H2:Qa}(h:clR e Hb cB lB eC bl W j H1)(ah:H1.Wf)(q:Ext H1 H2):clR e Hb cB lB eC bl W j H2∧∀id,clO cB lB eC H2 id->clO cB lB eC H1 id:=by
 obtain⟨ab,aj,ac,v,ad,ae,ag⟩:=h;have am:=q.next;have aa:=q.get cB (by omega);refine⟨⟨by rw[q.get lB (by omega)];exact ab,by omega,λid a b c=>by rw[q.get id (by omega)];exact ac id a b c,v,by rw[aa];exact ad,ae.go ah q,λid hi=>?_⟩,λid hi=>?_⟩
 ·have:=ag id hi;exact⟨by omega,this.2⟩
 ·rcases hi with h | h | ⟨ai,h,hi⟩
  ·exact .inl h
  ·exact .inr (.inl h)
  ·exact .inr (.inr ⟨ai,by rw[<- aa];exact h,hi⟩)
theorem QFM {e:TypeId}{Hb:Qa}{cB lB:Nat}(ag:cB<Hb.next)(ah:lB<Hb.next){eC:TypeId}{bl:Blk}{W:List Ld}{j:Nat}{H1:Qa}(h:clR e Hb cB lB eC bl W j H1){id:Nat}(hi:clO cB lB eC H1 id):id<H1.next:=by
 obtain⟨ab,ac,ad,v,q,ae,aa⟩:=h;rcases hi with rfl | rfl | ⟨ai,h,hi⟩
 ·omega
 ·omega
 ·rw[q]at h;cases h;exact(aa id hi).1
theorem QxP (f:FuncId)(aM:entered prog f=true)(ys:List Value)(W:List Ld)(bm:W.length<=1000)(H:Qa)
  (aO:∀ (l:Nat) (R:Nat->Qa->Prop) (Own:Qa->Nat->Prop) (H':Qa),Cns H'.next l W LdV R Own->R 0 H'->Ext H H'->(∀id,id<H.next->¬Own H' id)->Qe prog f ([.func (.yield l) #[] #[]]++ys) H' λu H2=>R W.length H2∧CK Own H' H2):
  Qe prog 381 [.slice none 0 0,.func (.func f) #[] ys.toArray] H λv H'=>Wa 120 H H' v W∧Ext H H':=by
 refine Gr λaV=>?_;simp only[YS,Qb,simprocAttr];generalize ae:H.push _=H1;obtain⟨eC,g0⟩:∃eC,H1.get H.next=some (.cells [.slice none 0 0] eC false):=⟨_,by rw[<- ae,Qc,Lc rfl]⟩;have ba:Ext H H1:=by rw[<- ae];exact(Ext.refl H).push _
 have aW:H1.Wf:=by rw[<- ae];exact aV.push _
 have aQ:H1.next=H.next+1:=by rw[<- ae];rfl
 clear ae;simp only[Qg,simprocAttr,QhZ];rw[Qsm f [] ys];intro L aK;refine⟨aM,?_⟩;have aA:Ext H (H1.push (L none)):=ba.push _;have bu:(H1.push (L none)).next=H.next+2:=by rw[Qd,aQ]
 have ar:(H1.push (L none)).get H.next=some (.cells [.slice none 0 0] eC false):=by rw[Qc,Le (by omega)];exact g0
 have aG:(H1.push (L none)).get H1.next=some (L none):=by rw[Qc,Lc rfl]
 have bz:=aW.push (L none);generalize H1.push (L none)=Hb at *;have av:H.next<Hb.next:=by omega
 have ax:H1.next<Hb.next:=by omega
 refine(aO H1.next (clR 120 Hb H.next H1.next eC (L none) W) (clO H.next H1.next eC) Hb ⟨?_,?_,?_⟩ ?_ aA ?_).thenW ?_
 ·exact λj Ha Hc h aY aZ=>QFL av ax h aY aZ
 ·exact λj Ha id h hi=>QFM av ax h hi
 ·rintro j w H0' H1' b3 aw aJ _ _ ⟨s,rfl,aR⟩ aL b1 bk ao;obtain⟨am,aH,an,v,ad,ai,aI⟩:=aJ;refine aK H1.next _ H1' _ am rfl ?_ ao;have bo:=(Lk.1 aw).1;have az:Gx 1 5 Hb H1' s w.b.length (bys w.b):=aR.down aL
  -- the loop's QwO is taken away while its body runs
  have ab:∀id,id≠H1.next->(H1'.kill H1.next).get id=H1'.get id:=λid aa=>by rw[WV,Le aa]
  have ay:(H1'.kill H1.next).next=H1'.next:=rfl;have aq:(H1'.kill H1.next).Wf:=ao.kill _;have k5:=(ab H.next (by omega)).trans ad;have k6:Wa 120 Hb (H1'.kill H1.next) v (W.take j):=ai.keep λid aa _=>ab id (by omega);have ks:Gx 1 5 Hb (H1'.kill H1.next) s w.b.length (bys w.b):=az.ext λid aa=>ab id (by have:=az.low ao aa;omega);have k3:∀id,id<Hb.next->id≠H.next->id≠H1.next->(H1'.kill H1.next).get id=Hb.get id:=λid a b c=>(ab id c).trans (an id a b c);generalize bj:H1'.kill H1.next=Hk at *;obtain⟨a,c,rfl⟩:=ks.slc;obtain⟨ak,al,rfl⟩:=k6.slc;have bd:¬H.next=Hk.next:=by omega
  simp only[QmQ,QpA,Qb,simprocAttr,bd,LN,k5];generalize ag:Qa.push (Qa.set (Qa.push Hk _) _ _) _=H5;have ah:Ext Hk H5:=by rw[<- ag];exact(((Ext.refl Hk).push _).set (Lb _) _).push _
  have aX:H5.Wf:=by rw[<- ag];exact((aq.push _).set (b0:=.cells [.slice none 0 0,.int .i64 0,.int .i64 0] 120 false) (by rw[Qc,Lc rfl]) _).push _
  have aF:H5.get (Hk.next+1)=some (.cells [.slice a w.b.length c,.int .i64 w.x,.int .i64 w.h] 120 false):=by rw[<- ag,Qc,Lc (by rw[Qv,Qd])]
  have br:H5.next=Hk.next+2:=by rw[<- ag,Qd,Qv,Qd]
  clear ag;have aS:Zt 3 (.slice (some ⟨Hk.next+1,0,none⟩) 1 1) H5=some (1,[.slice a w.b.length c,.int .i64 w.x,.int .i64 w.h]):=by
   rw[Y5 aF (by decide) (by simp)];rfl
  have bp:(W.take j).length<=1000:=by rw[Sb];omega
  -- what was there when the loop began may have changed at its variable and its QwO alone;the rest of the list is new
  have bb:∃Hz:Qa,Ext Hz H5∧Hz.next=Hb.next:=⟨⟨Hb.next,H5.tr⟩,⟨by show Hb.next<=H5.next;omega,λid _=>rfl⟩,rfl⟩;obtain⟨Hz,aC,bw⟩:=bb;have aP:Wa 120 Hz H5 (.slice ak (W.take j).length al) (W.take j):=(k6.go aq ah).down (by omega);have aT:Gx 1 5 Hz H5 (.slice a w.b.length c) w.b.length (bys w.b):=(ks.go aq ah).down (by omega);refine Qv5 (by decide) aP aC aX aT aS (by omega) (by omega) ?_;intro bi H6 aj ac;obtain⟨aE,c',rfl⟩:=aj.slc;have aU:W.take (j+1)=W.take j++[w]:=by rw[Nv,aw];rfl
  rw[<- aU]at aj ac ⊢;have au:∀id,id<Hb.next->H6.get id=H5.get id:=λid aa=>(ac.x.get id (by omega)).trans (aC.get id (by omega)).symm;have bc:H6.get H.next=some (.cells [.slice ak (W.take j).length al] eC false):=by rw[au _ (by omega),ah.get _ (by omega)];exact k5
  have bv:=ac.next;simp only[Qb,simprocAttr,QmP,bc];refine⟨by omega,⟨by rw[Qn,Lc rfl],by rw[Qv,Qv];omega,λid p q r=>?_,.slice aE (W.take (j+1)).length c',?_,?_,λid hi=>?_⟩,⟨by rw[Qv,Qv];omega,?_,λid p q=>?_,λid hi=>?_⟩⟩
  ·rw[Qn,Le r,Qn,Le q,au _ (by omega),ah.get _ (by omega)];exact k3 id p q r
  ·rw[Qn,Le (by omega),Qn,Lc rfl]
  ·refine Wa.keep (H0:=Hb) (H:=H6) (aj.down (by omega)) λid aa _=>?_;rw[Qn,Le (by omega),Qn,Le (by omega)]
  ·obtain⟨ss,_,aN,_⟩:=aj.it;have:=aN.low ac.w hi;rw[Qv,Qv];exact⟨this.2,by omega⟩
  ·intro id aa;rw[Qv,Qv]at aa;rw[Qn,Le (by omega),Qn,Le (by omega)];exact ac.w id aa
  ·have bg:id≠H.next:=λh=>q (.inl h);have aD:id≠H1.next:=λh=>q (.inr (.inl h));have bh:¬inB (.slice ak (W.take j).length al) id:=λh=>q (.inr (.inr ⟨_,ad,h⟩));rw[Qn,Le aD,Qn,Le bg,ac.keep id (by omega) bh,ah.get _ (by omega),ab id aD]
  ·rcases hi with h | h | ⟨b2,h,hi⟩
   ·exact .inl (.inl h)
   ·exact .inl (.inr (.inl h))
   ·rw[Qn,Le (by omega),Qn,Lc rfl]at h;cases h;rcases ac.new id hi with h | h
    ·exact .inl (.inr (.inr ⟨_,ad,h⟩))
    ·exact .inr (by omega)
 ·exact⟨aG,Lb _,λ_ _ _ _=>rfl,_,ar,Wa.nil _ _ _,λid ⟨o,n,c,h⟩=>by cases h⟩
 ·rintro id aa (h | h | ⟨bi,h,hi⟩)
  ·omega
  ·omega
  ·rw[ar]at h;cases h;obtain⟨o,n,c,h⟩:=hi;cases h
 ·rintro u H2 bq bx ⟨⟨am,aH,an,v,ad,ai,aI⟩,bn⟩;refine⟨none,am,?_⟩;have ab:∀id,id≠H1.next->(H2.kill H1.next).get id=H2.get id:=λid aa=>by rw[WV,Le aa]
  have ay:(H2.kill H1.next).next=H2.next:=rfl;have k5:=(ab H.next (by omega)).trans ad;rw[Nr]at ai;have k6:Wa 120 Hb (H2.kill H1.next) v W:=ai.keep λid aa _=>ab id (by omega);have aB:Ext H (H2.kill H1.next):=⟨by rw[ay];omega,λid aa=>by rw[ab id (by omega),an id (by omega) (by omega) (by omega)];exact aA.get id aa⟩;generalize H2.kill H1.next=H3 at *;simp only[Qb,simprocAttr,Qpz,k5,K2];exact .mk aB.next ⟨k6.down (by omega),aB⟩
theorem QCm (f:FuncId)(ab:entered prog f=true)(ys:List Value)(W:List Ld)(aa:W.length<=1000)(H:Qa)
  (ac:∀ (l:Nat) (R:Nat->Qa->Prop) (Own:Qa->Nat->Prop) (H':Qa),Cns H'.next l W LdV R Own->R 0 H'->Ext H H'->(∀id,id<H.next->¬Own H' id)->Qe prog f ([.func (.yield l) #[] #[]]++ys) H' λu H2=>R W.length H2∧CK Own H' H2):
  Qe prog 352 [.func (.func f) #[] ys.toArray] H λv H'=>Wa 120 H H' v W∧Ext H H':=by
 refine QeO λae=>?_;simp only[KZ,Qb,simprocAttr];refine(QxP f ab ys W aa H ac).thenW ?_;rintro v H1 _ _ ⟨ad,q⟩;simp only[Qb,simprocAttr,Qd9];exact .mk q.next ⟨ad,q⟩
def QcM (mid:Int)(a:Ar):List Ld×Int:=
 if(decide (mid<0)||decide (mid>7))=true then([],5)
 else if(Wk a==0)=false then([],Wk a)
 else if(a.k==1)=true then([⟨[QA 3 mid (Wj a.r)],0,Wi a.r⟩],0)
 else if(a.k==2)=true then(QdZ mid (Y9 a.m),0)
 else([],2)
theorem Qnn (mid rm:Int)(sib:List Int)(m:Mm):(YY mid rm sib m).length<=3:=by
 have h:∀q,(Zx mid rm sib m q).length<=1:=λq=>by unfold Zx;split<;>simp
 have e:YY mid rm sib m=Zx mid rm sib m 0++(Zx mid rm sib m 1++(Zx mid rm sib m 2++[])):=rfl;have aa:=h 0;have ab:=h 1;have ac:=h 2;rw[e];simp only[Lh,L9];omega
theorem Qs2 (mid:Int)(m:Mm):(QdZ mid m).length<=8:=by
 unfold QdZ;split
 ·simp
 ·split
  ·simp
  ·split
   ·have:=Qnn mid 4 [QA (Ws m.sc) (Wj m.i) (Wj m.b)] m;omega
   ·have q:=Qnn mid (Wj m.b) [] m;have aa:=Qnn mid 4 [QA 0 4 (Wj m.b)] m;simp only[Lh];split<;>split<;>simp<;>omega
theorem Qv6 (mid:Int)(m:Mm)(H:Qa):Qe prog 353 [.int .i64 mid,.agg m.cells.toArray] H λu H'=>∃aa q,u=.func (.func 382) #[] #[.pointer (some ⟨aa,0,none⟩),.pointer (some ⟨q,0,none⟩)]∧Ext H H'∧H.next<=aa∧H.next<=q∧H'.get aa=some (.cells m.cells 56 false)∧H'.get q=some (.cells [.int .i64 mid] 3 false):=by
 refine QtW λad=>?_;have ac:(Value.agg m.cells.toArray).cells.toList=m.cells:=rfl;simp only[Qmm,ac,Qb,simprocAttr,QsH];have ab:Ext H ((H.push (.cells [.int .i64 mid] 3 false)).push (.cells m.cells 56 false)):=((Ext.refl H).push _).push _;exact .mk ab.next ⟨_,_,rfl,ab,by omega,Lb _,by rw[Qc,Lc (by rw[Qd])],by rw[Qc,Le (by rw[Qd];omega),Qc,Lc rfl]⟩
theorem QxQ {m:Mm}(h:Qx m=0):-2147483648<=m.d∧m.d<=2147483647:=by
 unfold Qx at h;split at h
 ·simp at h
 ·rename_i q;simp at q;omega
theorem QuR {m:Mm}(h:Qx m=0)(hi:isR m.i 0 0=false):XE m.sc=true:=by
 unfold Qx at h;split at h
 ·simp at h
 ·split at h
  ·simp at h
  ·split at h
   ·simp at h
   ·split at h
    ·simp at h
    ·split at h
     ·rename_i q;rw[q]at hi;cases hi
     ·split at h
      ·simp at h
      ·rename_i aa;cases e:XE m.sc with
       | true=>rfl
       | false=>simp[e]at aa
theorem QxR (m:Mm):(Y9 m).d=m.d:=by unfold Y9;split<;>(try rfl);split<;>(try rfl);split<;>rfl
theorem QCn {m:Mm}(h:Qx m=0)(hi:isR (Y9 m).i 0 0=false):XE (Y9 m).sc=true:=by
 unfold Y9 at hi ⊢;split
 ·rename_i q;rw[Lc q]at hi;exact QuR h hi
 ·rename_i q;rw[Le q]at hi;split
  ·rename_i aa;rw[Lc aa]at hi;cases hi
  ·rename_i aa;rw[Le aa]at hi;have ab:isR m.i 0 0=false:=by
    cases e:isR m.i 0 0 with
    | false=>rfl
    | true=>simp[e]at q
   have:=QuR h ab;split<;>exact this
theorem QxS (mid:Int)(a:Ar)(H:Qa):Qe prog 251 [.int .i64 mid,.agg a.cells.toArray] H λu H'=>∃v,u=.tuple #[v,.int .i64 (QcM mid a).2]∧Wa 120 H H' v (QcM mid a).1∧Ext H H':=by
 refine QvP λbn=>?_;have bq:=VR a;have aU:=QcJ a.r;have aV:=QeW a.r;have aE:=QqV a.m;have au:Qa5 a.m=if Qx a.m=0 then(Y9 a.m,0) else(Kb,Qx a.m):=rfl
 have aH:∀h:(a.k==2)=true,Wk a=Qx a.m:=λh=>by
  have:a.k=2:=by simpa using h
  simp[Wk,this]
 have aJ:=Jr a.r;obtain⟨w,q⟩:∃w,w=QcM mid a:=⟨_,rfl⟩;rw[<- q];unfold QcM at q;have ba:(Value.agg a.cells.toArray).cells.toList=a.cells:=rfl;have aB:=(Ext.refl H).push (.cells a.cells 58 false);have b1:=bn.push (.cells a.cells 58 false);have aw:(H.push (.cells a.cells 58 false)).get H.next=some (.cells a.cells 58 false):=by rw[Qc,Lc rfl]
 have bz:(H.push (.cells a.cells 58 false)).next=H.next+1:=rfl;have br:=aw;have aZ:a.cells.take 11=a.cells:=rfl;simp only[QoI,ba,JL,simprocAttr];generalize H.push (.cells a.cells 58 false)=H1 at *;have aG:∀ (A:Env),w=([],5)->A 4=.slice none 0 0->A 5=.int .i64 5->Rt prog Tryz.f251 H (λu H'=>∃v,u=.tuple #[v,.int .i64 w.2]∧Wa 120 H H' v w.1∧Ext H H') A H1:=by
  intro A e r4 r5;subst e;simp only[Vi,r4,r5];exact .mk aB.next ⟨_,rfl,Wa.nil _ _ _,aB⟩
 have bi:(decide (mid<0)||decide (mid>7))=false->∀ (A:Env),A 0=.int .i64 mid->A 3=.pointer (some ⟨H.next,0,none⟩)->Qm prog QeM ⟨Rt prog Tryz.f251 H (λu H'=>∃v,u=.tuple #[v,.int .i64 w.2]∧Wa 120 H H' v w.1∧Ext H H'),WL⟩ (Rt prog Tryz.f251 H (λu H'=>∃v,u=.tuple #[v,.int .i64 w.2]∧Wa 120 H H' v w.1∧Ext H H')) A H1:=by
  intro aK A ac r3;have aL:0<=mid∧mid<8:=by simp at aK;omega
  rw[aK,Le (by simp)]at q;simp only[QeM,Qb,simprocAttr,ac,r3,aw,Lw,aZ];refine⟨Lb _,?_⟩;refine(bq H1).thenW ?_;rintro _ _ aM b2 ⟨rfl,k,rfl⟩;simp only[Ql]at aM;have ab:=aB.up aM;have ae:(H1.up k).get H.next=some (.cells a.cells 58 false):=by rw[Zk];exact aw
  generalize H1.up k=H2 at *;simp only[Qb,simprocAttr];cases av:Wk a==0 with
  | false=>
   rw[av,Lc rfl]at q;subst q;simp only[Qb,simprocAttr,LM,Vi];exact .mk ab.next ⟨_,rfl,Wa.nil _ _ _,ab⟩
  | true=>
   rw[av,Le (by simp)]at q;have bd:Wk a=0:=by simpa using av
   obtain⟨b4,⟨am,an⟩,⟨⟨ao,aq⟩,⟨aC,aD⟩,sc,d,sz⟩,n⟩:=a;simp only[Ar.cells,Rg.cells,Mm.cells]at ae aU aV aE;simp only[Qku,Qb,simprocAttr,L8,ac,r3,ae];simp only at q aJ au aH;refine Qf (λh=>?_) (λh=>?_)
   ·rw[h,Lc rfl]at q;simp only[Qkr,Qb,simprocAttr,ac,r3,ae];refine(aU H2).thenW ?_;rintro _ _ ag aA ⟨rfl,k3,rfl⟩;simp only[Ql]at ag;have ah:=ab.up ag;have ax:=ae;rw[<- Zk H2 k3]at ax;generalize H2.up k3=H3 at *;simp only[Qb,simprocAttr];refine(ZN 3 mid _ (by decide) aL aJ H3).thenW ?_;rintro _ H3 _ _ ⟨rfl,rfl⟩;have ak:=ah.push (.cells [.int .u8 (QA 3 mid (Wj ⟨am,an⟩))] 5 false);have bo:=aA.push (.cells [.int .u8 (QA 3 mid (Wj ⟨am,an⟩))] 5 false);have bg:=Qs1 H3 (QA 3 mid (Wj ⟨am,an⟩));have bv:=aA.lt ax;have bp:¬H.next=H3.next:=by omega
    simp only[Qb,simprocAttr,bp,LN,ax,r3];generalize H3.push _=H4 at *;refine(aV H4).thenW ?_;rintro _ _ az aj ⟨rfl,k5,rfl⟩;simp only[Ql]at az;have ai:=ak.up az;have bh:=bg.go bo ((Ext.refl H4).up az);generalize H4.up k5=H5 at *;simp only[Qb,simprocAttr,Vi];have bw:=ab.next;have al:=ai.push (.cells [.slice (some ⟨H3.next,0,none⟩) 1 1,.int .i64 0,.int .i64 (Wi ⟨am,an⟩)] 120 false);have bx:=ah.next;refine .mk al.next ⟨_,by rw[q],⟨[.slice (some ⟨H3.next,0,none⟩) 1 1],by rw[q];rfl,?_,?_⟩,al⟩
    ·rw[q];exact .inr ⟨_,_,rfl,by have:=ai.next;omega,by rw[Qc,Lc rfl];rfl,rfl,.inl rfl⟩
    ·intro j s w' aO aP;rw[q]at aP;rcases j with _ | j
     ·cases aO;cases aP;exact(bh.go aj ((Ext.refl H5).push _)).down (by omega)
     ·simp at aO
   ·rw[h,Le (by simp)]at q;simp only[Qkt,Qb,simprocAttr,ac,r3];refine Qf (λaa=>?_) (λaa=>?_)
    ·rw[aa,Lc rfl]at q;simp only[Qks,Qb,simprocAttr,ac,r3,ae];have ay:=(aH aa).symm.trans bd;rw[Lc ay]at au;rw[au]at aE;refine(aE H2).thenW ?_;rintro _ _ ag aA ⟨rfl,k3,rfl⟩;simp only[Ql]at ag;have ah:=ab.up ag;generalize H2.up k3=H3 at *;generalize aI:Y9 ⟨⟨ao,aq⟩,⟨aC,aD⟩,sc,d,sz⟩=m at *;have bj:I64 m.d:=by
      have bu:=QxQ ay;have ad:=QxR ⟨⟨ao,aq⟩,⟨aC,aD⟩,sc,d,sz⟩;rw[aI]at ad;rw[ad];unfold I64;omega
     have bk:isR m.i 0 0=false->XE m.sc=true:=by
      have ad:=@QCn ⟨⟨ao,aq⟩,⟨aC,aD⟩,sc,d,sz⟩ ay;rw[aI]at ad;exact ad
     simp only[Mm.cells,Qb,simprocAttr,LO,L8,ac];generalize aF:Qa.set (Qa.push H3 _) _ _=H4;have ak:Ext H H4:=by rw[<- aF];exact(ah.push _).set (by have:=ah.next;omega) _
     clear aF;have aW:=Qv6 mid m H4;simp only[Mm.cells]at aW;refine aW.thenW ?_;rintro _ H5 _ aj ⟨aY,aX,rfl,ai,o1,o2,g1,g2⟩;have aS:=aj.lt g1;have aT:=aj.lt g2;have b3:=Qs2 mid m;simp only[Qb,simprocAttr];refine(QCm 382 (by kernel_rfl) [.pointer (some ⟨aY,0,none⟩),.pointer (some ⟨aX,0,none⟩)] (QdZ mid m) (by omega) H5 ?_).thenW ?_
     ·intro l R Own H' bc bb aQ aN;exact Qua bc (Lb _) aL bj bk bb (by rw[aQ.get _ aS];exact g1) (by rw[aQ.get _ aT];exact g2) (aN _ aS) (aN _ aT)
     ·rintro v H6 _ _ ⟨bm,al⟩;have aR:=(ak.trans ai).trans al;simp only[Qb,simprocAttr,Vi];exact .mk aR.next ⟨v,by rw[q],by rw[q];exact bm.down (ak.trans ai).next,aR⟩
    ·rw[aa,Le (by simp)]at q;subst q;simp only[Qb,simprocAttr,Vi];exact .mk ab.next ⟨_,rfl,Wa.nil _ _ _,ab⟩
 cases ar:decide (mid<0) with
 | true=>
  rw[ar,N1,Lc rfl]at q;simp only[Qb,simprocAttr];refine aG _ q ?_ ?_
  all_goals simp only[Qg,simprocAttr]
 | false=>
  cases aa:decide (mid>7) with
  | true=>
   rw[ar,aa,Bd,Lc rfl]at q;simp only[Qb,simprocAttr,aa];refine aG _ q ?_ ?_
   all_goals simp only[Qg,simprocAttr]
  | false=>
   simp only[Qb,simprocAttr,aa];refine bi (by rw[ar,aa];rfl) _ ?_ ?_
   all_goals simp only[Qg,simprocAttr]
end Go.Proofs.YtgepgbbjfhggfaaGreatDoor.code
