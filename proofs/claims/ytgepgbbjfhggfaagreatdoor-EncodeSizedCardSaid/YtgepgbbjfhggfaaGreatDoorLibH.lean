/- The document's small functions: registers, REX, the map's bytes. -/
import Derived.Test.YtgepgbbjfhggfaaGreatDoorLibG
import Derived.Test.YtgepgbbjfhggfaaGreatDoorLibB
import Derived.Test.YtgepgbbjfhggfaaGreatDoorC9Ref
import Derived.Test.YtgepgbbjfhggfaaGreatDoorLibA
import Derived.Test.YtgepgbbjfhggfaaGreatDoorLibC
import Derived.Test.YtgepgbbjfhggfaaGreatDoorLibN
set_option linter.unusedVariables false
set_option linter.unusedSimpArgs false
set_option maxRecDepth 100000
set_option maxHeartbeats 4000000
namespace Go.Proofs.YtgepgbbjfhggfaaGreatDoor.code
open Go.Ab
theorem Qej (r:Rg)(H:Qa):Qe prog 89 [.agg r.cells.toArray] H λu H'=>u=.int .i64 (Wj r)∧∃k,H'=H.up k:=by
 refine QkM λac=>?_;have q:=W7 r;have ab:=@QDJ r;unfold Wj;obtain⟨v,ev⟩:∃v,XG r=v:=⟨_,rfl⟩;rw[ev]at q ab ⊢;obtain⟨c,n⟩:=r;simp only[Rg.cells]at q;simp only[Rg.cells,Qde,Qb,simprocAttr];refine(q _).thenW ?_;rintro _ _ aa ad ⟨rfl,k,rfl⟩;simp only[Qd,Ql]at aa;cases v with
 | false=>
  simp only[Qb,simprocAttr,LM,Qca];exact .ext ac (((Ext.refl H).push _).up (by rw[Qd];exact aa)) ⟨by simp,_,rfl⟩
 | true=>
  have hb:=ab rfl;simp only[sxA,sxB,Nat.reduceBEq,Nat.reduceEqDiff,reduceCtorEq,mxA,mxB,Nat.reduceAdd,reduceIte,Nat.reduceLeDiff,splice,L8,Qca];have e:n.tmod 8=n % 8:=BM hb.1;exact⟨by decide,.ext ac (((Ext.refl H).push _).up (by rw[Qd];exact aa)) ⟨by rw[e],_,rfl⟩⟩
theorem QcK (r:Rg)(H:Qa):Qe prog 84 [.agg r.cells.toArray] H λu H'=>u=.int .i64 (Wi r)∧∃k,H'=H.up k:=by
 refine QjF λac=>?_;have q:=W7 r;have ab:=@QDJ r;unfold Wi;obtain⟨v,ev⟩:∃v,XG r=v:=⟨_,rfl⟩;rw[ev]at q ab ⊢;obtain⟨c,n⟩:=r;simp only[Rg.cells]at q;simp only[Rg.cells,Qb7,Qb,simprocAttr];refine(q _).thenW ?_;rintro _ _ aa ae ⟨rfl,k,rfl⟩;simp only[Qd,Ql]at aa;cases v with
 | false=>
  simp only[Qb,simprocAttr,LM,Qbj];exact .ext ac (((Ext.refl H).push _).up (by rw[Qd];exact aa)) ⟨by simp,_,rfl⟩
 | true=>
  have hb:=ab rfl;simp only[sxA,sxB,Nat.reduceBEq,Nat.reduceEqDiff,reduceCtorEq,mxA,mxB,Nat.reduceAdd,reduceIte,Nat.reduceLeDiff,splice,L8,Qbj];have e:IntKind.i64.wrap (n.tdiv 8)=n / 8:=by
   rw[Int.tdiv_eq_ediv_of_nonneg hb.1];have ad:0<=n∧n<16:=hb;exact w64 (show I64 (n / 8) by unfold I64;omega)
  exact⟨by decide,.ext ac (((Ext.refl H).push _).up (by rw[Qd];exact aa)) ⟨by rw[e],_,rfl⟩⟩
theorem QxI (r:Rg)(H:Qa):Qe prog 130 [.agg r.cells.toArray] H λu H'=>u=.bool (Qnk r)∧∃k,H'=H.up k:=by
 refine Qip λaa=>?_;obtain⟨c,n⟩:=r;unfold Qnk;simp only[Rg.cells,Qbv,Qb,simprocAttr];cases h:c==1<;>cases q:decide (4<=n)<;>simp only[Qb,simprocAttr,h,q,Qhn]
 all_goals exact .ext aa ((Ext.refl H).push _) ⟨by simp,_,rfl⟩
theorem QzI (r:Rg)(H:Qa):Qe prog 131 [.agg r.cells.toArray] H λu H'=>u=.bool (QsN r)∧∃k,H'=H.up k:=by
 refine QjK λab=>?_;have q:=W7 r;unfold QsN;obtain⟨v,ev⟩:∃v,XG r=v:=⟨_,rfl⟩;rw[ev]at q ⊢;obtain⟨c,n⟩:=r;simp only[Rg.cells]at q;simp only[Rg.cells,Qce,Qb,simprocAttr];cases h:c==2 with
 | false=>
  simp only[Qb,simprocAttr,h,Qbw];exact .ext ab ((Ext.refl H).push _) ⟨rfl,_,rfl⟩
 | true=>
  simp only[Qb,simprocAttr,h];refine(q _).thenW ?_;rintro _ _ aa ac ⟨rfl,k,rfl⟩;simp only[Qd,Ql]at aa;simp only[Qb,simprocAttr,Qbw];exact .ext ab (((Ext.refl H).push _).up (by rw[Qd];exact aa)) ⟨rfl,_,rfl⟩
theorem QDP:(Qlz.all λp=>QqM prog.globals.size (QxE (JW p.1 p.2) 0) (QxF (QzG 133 [.int .i64 p.1,.int .i64 p.2]) (JW p.1 p.2)) (QzG 133 [.int .i64 p.1,.int .i64 p.2]))=true:=by kernel_rfl
theorem QCi (pre q:Int)(ab:0<=pre∧pre<=5)(ac:-1<=q∧q<=15)(H:Qa):Qe prog 133 [.int .i64 pre,.int .i64 q] H λu H'=>∃v,u=.tuple #[v,.int .i64 0]∧Gx 1 5 H H' v (JW pre q).length (bys (JW pre q))∧Ext H H':=by
 have aa:(pre,q)∈Qlz:=by
  unfold Qlz;rw[NF];refine⟨pre,?_,N4.2 ⟨(q+1).toNat,LU.2 (by omega),?_⟩⟩
  ·simp only[LK,Ns,NN];omega
  ·have:((q+1).toNat:Int) - 1=q:=by omega
   rw[this]
 exact QoV (by kernel_rfl) rfl (Li.1 QDP _ aa) H
theorem QCj:(QuO.all λp=>isW (.int .i64 (Qea p.1 p.2.1 p.2.2.1 p.2.2.2)) ((run prog noK 200 5 10).fn 132 [.int .i64 p.1,.int .i64 p.2.1,.int .i64 p.2.2.1,.int .i64 p.2.2.2] (H0 prog)))=true:=by kernel_rfl
theorem QCk (w r x b:Int)(ac:0<=w∧w<2)(ab:0<=r∧r<2)(ad:0<=x∧x<2)(hb:0<=b∧b<2)(H:Qa):Qe prog 132 [.int .i64 w,.int .i64 r,.int .i64 x,.int .i64 b] H λu H'=>u=.int .i64 (Qea w r x b)∧H'=H:=by
 have q:∀n:Int,0<=n∧n<2->n∈([0,1]:List Int):=λn ae=>by
  simp only[LK,Ns,NN];omega
 have aa:(w,r,x,b)∈QuO:=by
  unfold QuO;rw[NF];refine⟨w,q w ac,NF.2 ⟨r,q r ab,NF.2 ⟨x,q x ad,N4.2 ⟨b,q b hb,rfl⟩⟩⟩⟩
 exact QsO (by kernel_rfl) rfl rfl (Li.1 QCj _ aa) H
theorem QvX (m:Int)(H:Qa):Qe prog 134 [.int .i64 m] H λv H'=>Gx 1 5 H H' v (Kv m).length (bys (Kv m))∧Ext H H':=by
 refine Qho λad=>?_;have q:∀bs:List Int,Gx 1 5 H (H.push (.cells (bys bs) 5 false)) (.slice (some ⟨H.next,0,none⟩) bs.length bs.length) bs.length (bys bs):=λbs=>.inr ⟨_,_,rfl,Lb _,by rw[Qc,Lc rfl],by rw[Xe,NH],.inl rfl⟩;simp only[Qau,Q6,Qb,simprocAttr];unfold Kv;cases aa:m==1 with
 | true=>
  simp only[Q6,Qb,simprocAttr,aa,YC];exact .mk ((Ext.refl H).push _).next ⟨q [15],(Ext.refl H).push _⟩
 | false=>
  simp only[Q6,Qb,simprocAttr,aa];cases ab:m==2 with
  | true=>
   simp only[Q6,Qb,simprocAttr,ab,YC];exact .mk ((Ext.refl H).push _).next ⟨q [15,56],(Ext.refl H).push _⟩
  | false=>
   simp only[Q6,Qb,simprocAttr,ab];cases ac:m==3 with
   | true=>
    simp only[Q6,Qb,simprocAttr,ac,YC];exact .mk ((Ext.refl H).push _).next ⟨q [15,58],(Ext.refl H).push _⟩
   | false=>
    simp only[Q6,Qb,simprocAttr,ac,YC];exact .mk (Lb _) ⟨.inl ⟨rfl,rfl,rfl⟩,.refl _⟩
theorem QCl (b:Bool)(H:Qa):Qe prog 126 [.bool b] H λu H'=>u=.int .i64 (if b=true then 1 else 0)∧H'=H:=by
 refine QkO λq=>?_;cases b<;>simp only[Qdg,Qb,simprocAttr,QjJ]<;>exact .mk (Lb _) ⟨rfl,rfl⟩
theorem XZ (n a b:Int)(H:Qa):Qe prog 256 [.int .i64 n,.int .i64 a,.int .i64 b] H λu H'=>u=.bool (decide (a<=n)&&decide (n<=b))∧H'=H:=by
 refine Qhp λq=>?_;simp only[Qav,Qb,simprocAttr];cases h:decide (a<=n)<;>simp only[Qb,simprocAttr,h,Qgg]<;>exact .mk (Lb _) ⟨rfl,rfl⟩
theorem XC (x:Lf)(k:Int)(H:Qa)(an:x.At H):Qe prog 124 [.agg x.cells.toArray,.int .i64 k] H λu H'=>u=.int .i64 (Qp x.f.slots k)∧∃m,H'=H.up m:=by
 refine Qjq λab=>?_;have aj:(Value.agg x.cells.toArray).cells.toList=x.cells:=rfl;simp only[QbS,aj,Qb,simprocAttr];have ac:Ext H (H.push (.cells x.cells 45 false)):=(Ext.refl H).push _;have ae:(H.push (.cells x.cells 45 false)).get H.next=some (.cells x.cells 45 false):=by rw[Qc,Lc rfl]
 have am:=ab.push (.cells x.cells 45 false);generalize H.push (.cells x.cells 45 false)=H1 at ac ae am;obtain⟨au,av,aq,q⟩:=an.ext ab ac;obtain⟨a2,ah,e2,al⟩:=q;have g2:x.cells[2]? = some (.slice a2 x.f.slots.length ah):=by rw[<- e2];rfl
 refine Qo (λm A' H'=>∃i:Nat,i<=x.f.slots.length∧m=x.f.slots.length - i∧H'=H1∧(∀j,j<i->¬k=x.f.slots.getD j 0)∧A' 1=.int .i64 k∧A' 2=.pointer (some ⟨H.next,0,none⟩)∧A' 5=.int .i64 i) x.f.slots.length ?_ ?_
 ·refine⟨0,L7 _,by omega,rfl,λj h=>by omega,?_,?_,?_⟩
  all_goals simp only[Qg,simprocAttr]
  try rfl
 ·rintro m A' H' ⟨i,hi,rfl,rfl,ad,r1,r2,r5⟩;simp only[Qb,simprocAttr,r1,r2,r5,ae,g2];refine Qf (λq=>?_) (λq=>?_)
  ·have q:i<x.f.slots.length:=by have:=Lg q;omega
   obtain⟨ao,e1,aw,rfl,ak⟩:=al (by omega);have ag:(0:Int)<=i∧(i:Int)<x.f.slots.length:=by omega
   have ai:(i:Int).toNat=i:=by omega
   have ei:IntKind.i64.wrap ((i:Int)+1)=((i+1:Nat):Int):=by rw[w64 (by unfold I64;omega)];omega
   have g1:=ZJ (l:=x.f.slots) (i:=i) (by omega);simp only[Qb,simprocAttr,r1,r2,r5,ae,g2,ag,ai,ak,g1];refine Qf (λaa=>?_) (λaa=>?_)
   ·have aa:k=x.f.slots.getD i 0:=by
     have:x.f.slots.getD i 0=k:=by simpa using aa
     exact this.symm
    simp only[Qb,simprocAttr,r5,QaF];exact .ext ab ac ⟨by rw[Qp,Qn9 k _ 0 i ad q aa,LP],_,rfl⟩
   ·have aa:¬k=x.f.slots.getD i 0:=λh=>by
     have:¬x.f.slots.getD i 0=k:=by simpa using aa
     exact this h.symm
    simp only[Qb,simprocAttr,r5,ei];refine⟨x.f.slots.length - (i+1),by omega,i+1,by omega,rfl,rfl,λj ar=>?_,?_,?_,?_⟩
    ·rcases Nq j i with h | h
     ·exact ad j h
     ·rw[show j=i by omega];exact aa
    all_goals simp only[Qg,simprocAttr,r1,r2]
  ·have q:i=x.f.slots.length:=by have:=Ll q;omega
   subst q;simp only[Qb,simprocAttr,QaF];exact .ext ab ac ⟨by rw[Qp,Qoa k _ 0 ad],_,rfl⟩
theorem Qnm {x:Lf}{H:Qa}(q:H.Wf)(aa:x.At H):∃H1,H.push (.cells x.cells 45 false)=H1∧H1.get H.next=some (.cells x.cells 45 false)∧Ext H H1∧H1.Wf∧x.At H1∧H1.next=H.next+1:=
 ⟨_,rfl,by rw[Qc,Lc rfl],(Ext.refl H).push _,q.push _,aa.ext q ((Ext.refl H).push _),rfl⟩
theorem Qay (x:Lf)(k:Int)(H:Qa)(ad:x.At H):Qe prog 265 [.agg x.cells.toArray,.int .i64 k] H λu H'=>u=.bool (decide (0<=Qp x.f.slots k))∧∃m,H'=H.up m:=by
 refine QkU λq=>?_;have ab:(Value.agg x.cells.toArray).cells.toList=x.cells:=rfl;have aa:x.cells.take 10=x.cells:=rfl;have ae:10<=x.cells.length:=Lb _;obtain⟨H1,e1,g1,ag,aj,a1,ai⟩:=Qnm q ad;simp only[Qdm,ab,Qb,simprocAttr,e1,g1,Lw,aa];refine⟨ae,?_⟩;refine(XC x k H1 a1).thenW ?_;rintro _ _ ac ah ⟨rfl,m,rfl⟩;simp only[Qb,simprocAttr,QjO];exact .ext q (ag.up ac) ⟨rfl,_,rfl⟩
theorem QxJ (x:Lf)(H:Qa)(ad:x.At H):Qe prog 127 [.agg x.cells.toArray] H λu H'=>u=.bool (decide (0<=Qp x.f.slots 2))∧∃m,H'=H.up m:=by
 refine Qio λq=>?_;have ab:(Value.agg x.cells.toArray).cells.toList=x.cells:=rfl;have aa:x.cells.take 10=x.cells:=rfl;have ae:10<=x.cells.length:=Lb _;obtain⟨H1,e1,g1,ag,aj,a1,ai⟩:=Qnm q ad;simp only[Qbp,ab,Qb,simprocAttr,e1,g1,Lw,aa];refine⟨ae,?_⟩;refine(Qay x 2 H1 a1).thenW ?_;rintro _ _ ac ah ⟨rfl,m,rfl⟩;simp only[Qb,simprocAttr,Qhm];exact .ext q (ag.up ac) ⟨rfl,_,rfl⟩
/-! ### Of numbers -/
theorem QxK (s:Int)(H:Qa):Qe prog 264 [.int .i64 s] H λu H'=>u=.int .i64 (tl0 s)∧H'=H:=by
 refine Qir λq=>?_;simp(disch:=(first | omega | (simp only[hnP];try omega))) only[QbB,YD,YE,YF,YG,Qk,simprocAttr,Jy]
 repeat' (first
   | (refine Qq (λh=>?_) (λh=>?_)<;>(try simp only[Lr,Lu]at h)<;>simp(disch:=(first | omega | (simp only[hnP];try omega))) only[YD,YE,YF,YG,Qk,simprocAttr,Jy,h])
   | (refine Qf (λh=>?_) (λh=>?_)<;>(try simp only[Lr,Lu]at h)<;>simp(disch:=(first | omega | (simp only[hnP];try omega))) only[YD,YE,YF,YG,Qk,simprocAttr,Jy,h])
   | (with_reducible refine⟨by simp[Qi,plain],by omega,?_⟩)
   | (with_reducible refine⟨by simp[Qi,plain],?_⟩)
   | fail)
 all_goals refine .mk (Lb _) ⟨?_,rfl⟩
 all_goals simp only[L0,LC,Da]at *
 all_goals (unfold tl0;simp_all)
theorem QzJ (x:Lf)(H:Qa)(aj:x.At H):Qe prog 125 [.agg x.cells.toArray] H λu H'=>u=.int .i64 (tlF x.f)∧∃m,H'=H.up m:=by
 refine QjI λab=>?_;have ar:(Value.agg x.cells.toArray).cells.toList=x.cells:=rfl;have ah:Ext H (H.push (.cells x.cells 45 false)):=(Ext.refl H).push _;have ac:(H.push (.cells x.cells 45 false)).get H.next=some (.cells x.cells 45 false):=by rw[Qc,Lc rfl]
 have aE:=ab.push (.cells x.cells 45 false);obtain⟨aF,aG,ai,aC⟩:=aj.ext ab ah;obtain⟨a1,ao,e1,az⟩:=ai;have ad:x.cells[1]? = some (.slice a1 x.f.shapes.length ao):=by rw[<- e1];rfl
 have ay:=XC x 5 _ (aj.ext ab ah);have ax:=λm (ae:(H.push (.cells x.cells 45 false)).next<=m)=>Qay x 7 _ (aj.ext ab (ah.up ae));have ag:tlF x.f=bif decide (0<=Qp x.f.slots 7) then tl1 x.f+1 else tl1 x.f:=rfl
 have aa:tl1 x.f=if(decide (0<=Qp x.f.slots 5)&&decide (Qp x.f.slots 5<x.f.shapes.length))=true then tl0 (x.f.shapes.getD (Qp x.f.slots 5).toNat 0) else 0:=rfl
 have aD:=QsS x.f;generalize tl1 x.f=n at *;generalize tlF x.f=r at *;generalize Qp x.f.slots 7=i7 at *;simp only[Qcc,ar,Qb,simprocAttr,QK,Wt,ad];generalize H.push (.cells x.cells 45 false)=H1 at *;have ak:∀ (A:Env) m,H1.next<=m->A 1=.pointer (some ⟨H.next,0,none⟩)->A 3=.int .i64 n->Qm prog Jx ⟨Rt prog Tryz.f125 H (λu H'=>u=.int .i64 r∧∃m,H'=H.up m),WL⟩ (Rt prog Tryz.f125 H (λu H'=>u=.int .i64 r∧∃m,H'=H.up m)) A (H1.up m):=by
  intro A m ae an a3;simp only[Jx,Qb,simprocAttr,an,a3,ac,QK,Wt];refine(ax m ae).thenW ?_;rintro _ _ q aw ⟨rfl,aH,rfl⟩;have am:=(ah.up ae).up q;have aq:IntKind.i64.wrap (n+1)=n+1:=w64 (by unfold I64;omega);cases z:decide (0<=i7) with
  | true=>
   rw[z]at ag;simp only[Qb,simprocAttr,z,a3,aq,Qbo];exact .ext ab am ⟨by rw[ag];rfl,_,rfl⟩
  | false=>
   rw[z]at ag;simp only[Qb,simprocAttr,z,a3,Qbo];exact .ext ab am ⟨by rw[ag];rfl,_,rfl⟩
 refine ay.thenW ?_;rintro _ _ q aw ⟨rfl,al,rfl⟩;simp only[Ql]at q;generalize Qp x.f.slots 5=i at *;simp only[Qb,simprocAttr,ac,ad];refine Qq (λh=>?_) (λh=>?_)<;>simp only[Qb,simprocAttr,ac,ad,h]
 ·have au:0<=i:=Lg h;refine Qf (λh'=>?_) (λh'=>?_)<;>simp only[Qb,simprocAttr,ac,ad]
  ·have ai:i<x.f.shapes.length:=Lg h';obtain⟨aA,aB,aI,rfl,av⟩:=az (by omega);have g1:=ZJ (l:=x.f.shapes) (i:=i.toNat) (by omega);rw[Lc (by rw[h,h'];rfl)]at aa;generalize x.f.shapes.getD i.toNat 0=s at *;simp only[au,ai,Qb,simprocAttr,ac,ad,av,g1];refine(QxK s _).thenW ?_;rintro _ _ _ _ ⟨rfl,rfl⟩;simp only[Qb,simprocAttr];refine ak _ al q ?_ ?_<;>simp only[Qg,simprocAttr,aa]
  ·rw[Le (by rw[h,h'];decide)]at aa;refine ak _ al q ?_ ?_<;>simp only[Qg,simprocAttr,aa]
 ·rw[Le (by rw[h];simp)]at aa;refine ak _ al q ?_ ?_<;>simp only[Qg,simprocAttr,aa]
theorem QzM (sl sh:Int)(H:Qa):Qe prog 362 [.int .i64 sl,.int .i64 sh] H λu H'=>u=.bool (Qf5 sh sl)∧H'=H:=by
 refine QjQ λaa=>?_;simp(disch:=(first | omega | (simp only[hnP];try omega))) only[Qck,Xx,Xy,Xz,XA,XB,Qk,simprocAttr,Zc]
 repeat' (first
   | (refine Qq (λh=>?_) (λh=>?_)<;>(try simp only[Lr,Lu]at h)<;>simp(disch:=(first | omega | (simp only[hnP];try omega))) only[Xx,Xy,Xz,XA,XB,Qk,simprocAttr,Zc,h])
   | (refine Qf (λh=>?_) (λh=>?_)<;>(try simp only[Lr,Lu]at h)<;>simp(disch:=(first | omega | (simp only[hnP];try omega))) only[Xx,Xy,Xz,XA,XB,Qk,simprocAttr,Zc,h])
   | (refine(XZ _ _ _ _).thenW ?_;rintro _ _ q ab ⟨rfl,rfl⟩;(try simp only[Qd,Ql,Qv]at q);simp(disch:=(first | omega | (simp only[hnP];try omega))) only[Xx,Xy,Xz,XA,XB,Qk,simprocAttr,Zc])
   | (with_reducible refine⟨by simp[Qi,plain],by omega,?_⟩)
   | (with_reducible refine⟨by simp[Qi,plain],?_⟩)
   | fail)
 all_goals refine .mk (Lb _) ⟨?_,rfl⟩
 all_goals simp only[L0,LC,Da]at *
 all_goals (unfold Qf5;simp_all<;>omega)
theorem QqX (n:Int)(H:Qa):Qe prog 366 [.int .i64 n] H λu H'=>u=.int .i64 (Ws n)∧H'=H:=by
 refine Qix λag=>?_;unfold Ws;simp only[QbI,Qb,simprocAttr];cases q:n==2 with
 | true=>
  simp only[Qb,simprocAttr,q,YX];exact .mk (Lb _) ⟨by rw[Lc (by simpa using q)],rfl⟩
 | false=>
  simp only[VH,Qb,simprocAttr,q];have ac:¬n=2:=by simpa using q
  cases aa:n==4 with
  | true=>
   simp only[Qb,simprocAttr,aa,YX];exact .mk (Lb _) ⟨by rw[Le ac,Lc (by simpa using aa)],rfl⟩
  | false=>
   have ad:¬n=4:=by simpa using aa
   simp only[Qb,simprocAttr,aa];cases ab:n==8 with
   | true=>
    simp only[Qb,simprocAttr,ab,YX];exact .mk (Lb _) ⟨by rw[Le ac,Le ad,Lc (by simpa using ab)],rfl⟩
   | false=>
    have ae:¬n=8:=by simpa using ab
    simp only[Qb,simprocAttr,ab,YX];exact .mk (Lb _) ⟨by rw[Le ac,Le ad,Le ae],rfl⟩
def JG (d:Int):List Int:=[IntKind.u8.wrap d,IntKind.u8.wrap (d.fdiv 256),IntKind.u8.wrap (d.fdiv 65536),IntKind.u8.wrap (d.fdiv 16777216)]
theorem Qk8 (H:Qa)(l:List Int):Gx 1 5 H (H.push (.cells (bys l) 5 false)) (.slice (some ⟨H.next,0,none⟩) l.length l.length) l.length (bys l):=.inr ⟨_,_,rfl,Lb _,by rw[Qc,Lc rfl],by rw[Xe,NH],.inl rfl⟩
theorem Qno (d:Int)(H:Qa):Qe prog 364 [.int .i64 d] H λv H'=>Gx 1 5 H H' v (JG d).length (bys (JG d))∧Ext H H':=by
 refine QjS λac=>?_;simp only[Qcl,sxA,sxB,Nat.reduceBEq,Nat.reduceEqDiff,reduceCtorEq,mxA,mxB,Nat.reduceAdd,reduceIte,Nat.reduceLeDiff,splice,Qiv];have ab:(2:Int) ^ (min ((8:Int)).toNat IntKind.i64.bits)=256:=by decide
 have q:(2:Int) ^ (min ((16:Int)).toNat IntKind.i64.bits)=65536:=by decide
 have aa:(2:Int) ^ (min ((24:Int)).toNat IntKind.i64.bits)=16777216:=by decide
 rw[ab,q,aa];refine⟨by decide,by decide,by decide,?_⟩;exact .mk ((Ext.refl H).push _).next ⟨Qk8 H (JG d),(Ext.refl H).push _⟩
def YZ (q mid rm sib:Int):List Int:=[QA q mid rm]++(if 0<=sib then[sib] else[])
theorem QcN (q mid rm sib:Int)(ar:0<=q∧q<4)(au:0<=mid∧mid<8)(av:0<=rm∧rm<8)(ai:-1<=sib∧sib<256)(H:Qa):Qe prog 266 [.int .i64 q,.int .i64 mid,.int .i64 rm,.int .i64 sib] H λv H'=>Gx 1 5 H H' v (YZ q mid rm sib).length (bys (YZ q mid rm sib))∧Ext H H':=by
 refine QjP λak=>?_;have am:IntKind.i64.wrap (64 * q)=64 * q:=w64 (by unfold I64;omega);have an:IntKind.i64.wrap (8 * mid)=8 * mid:=w64 (by unfold I64;omega);have ao:IntKind.i64.wrap (64 * q+8 * mid)=64 * q+8 * mid:=w64 (by unfold I64;omega);have ah:QA q mid rm=64 * q+8 * mid+rm:=by unfold QA;omega
 have aq:IntKind.i64.wrap (64 * q+8 * mid+rm)=QA q mid rm:=by rw[ah];exact w64 (by unfold I64;omega)
 have ag:∀z:Int,0<=z->z<256->IntKind.u8.wrap z=z:=λz a b=>by
  unfold IntKind.wrap;simp[IntKind.bits,IntKind.signed];omega
 unfold YZ;simp only[Qci,Qb,simprocAttr,am,an,ao,aq,ag (QA q mid rm) (by omega) (by omega)];have ab:=(Ext.refl H).push (.cells [.int .u8 (QA q mid rm)] 5 false);have g1:=Qk8 H [QA q mid rm];have ad:=ak.push (.cells [.int .u8 (QA q mid rm)] 5 false);cases aa:decide (0<=sib) with
 | false=>
  simp only[Qb,simprocAttr,aa,QbC];rw[Le (Ll aa)];exact .mk ab.next ⟨g1,ab⟩
 | true=>
  rw[Lc (Lg aa)];simp only[Qb,simprocAttr,aa,ag sib (Lg aa) ai.2];have ae:=(Ext.refl (H.push (.cells [.int .u8 (QA q mid rm)] 5 false))).push (.cells [.int .u8 sib] 5 false);have al:=ad.push (.cells [.int .u8 sib] 5 false);refine Y8 (H0:=H) (g1.go ad ae) (ab.trans ae) al (Qk8 _ [sib]).src rfl rfl (by simp) (by simp) λaw H' aj ac=>?_;simp only[Qb,simprocAttr,QbC];exact .mk ac.x.next ⟨aj,ac.x⟩
theorem Qv8 {H H1 H4:Qa}{lv s:Value}{ws:List Ld}{w:Ld}(ah:H1.Wf)(ae:Wa 120 H H1 lv ws)(ad:Ext H H1)(ac:Ext H1 H4)(ab:H4.Wf)(ag:Gx 1 5 H1 H4 s w.b.length (bys w.b))(aj:ws.length<=1000){k:Value->Qa->Prop}(h:∀q H',Wa 120 H H' q (ws++[w])->Ext H H'->H'.Wf->k q H'):
  QbP 120 3 40 lv (.slice (some ⟨H4.next,0,none⟩) 1 1) (H4.push (.cells [s,.int .i64 w.x,.int .i64 w.h] 120 false)) k:=by
 have aa:=(Ext.refl H4).push (.cells [s,.int .i64 w.x,.int .i64 w.h] 120 false);have ai:=ab.push (.cells [s,.int .i64 w.x,.int .i64 w.h] 120 false);refine Qv5 (by decide) (ae.go ah (ac.trans aa)) ((ad.trans ac).trans aa) ai ((ag.go ab aa).down ad.next) ?_ (by omega) (by omega) λq H' a b=>h q H' a b.x b.w;rw[Y5 (b:=H4.next) (by rw[Qc,Lc rfl]) (by decide) (by simp)];rfl
def th0 (mid rm sib d:Int)(sh:Bool)(x b:Int):List Ld:=if(sh&&(d==0))=true then[⟨YZ 0 mid rm sib,x,b⟩] else[]
def th1 (mid rm sib d x b:Int):List Ld:=if(decide (-128<=d)&&decide (d<=127))=true then[⟨YZ 1 mid rm sib++[IntKind.u8.wrap d],x,b⟩] else[]
def Qo3 (mid rm sib d:Int)(sh:Bool)(x b:Int):List Ld:=th0 mid rm sib d sh x b++(th1 mid rm sib d x b++[⟨YZ 2 mid rm sib++JG d,x,b⟩])
section
variable {mid rm sib d x b:Int} {sh:Bool} {H:Qa}
abbrev KTw (H:Qa)(W:List Ld):Env->Qa->Prop:=Rt prog Tryz.f367 H λv H'=>Wa 120 H H' v W∧Ext H H'
theorem QFN (ae:0<=mid∧mid<8)(ag:0<=rm∧rm<8)(ah:-1<=sib∧sib<256){ws W:List Ld}{lv:Value}{A:Env}{H1:Qa}(ai:H1.Wf)(aj:Ext H H1)(q:Wa 120 H H1 lv ws)(aw:ws.length<=2)(ad:W=ws++[⟨YZ 2 mid rm sib++JG d,x,b⟩])(al:A 0=.int .i64 mid)(r1:A 1=.int .i64 rm)(r2:A 2=.int .i64 sib)(r3:A 3=.int .i64 d)(r5:A 5=.int .i64 x)(ab:A 6=.int .i64 b)(am:A 15=lv):
  Qm prog YH ⟨KTw H W,WL⟩ (KTw H W) A H1:=by
 obtain⟨ax,ay,rfl⟩:=q.slc;simp only[YH,Qb,simprocAttr,al,r1,r2,r3,r5,ab,am];refine(QcN 2 mid rm sib (by decide) ae ag ah H1).thenW ?_;rintro aD H2 az an ⟨g2,aq⟩;obtain⟨a2,ar,rfl⟩:=g2.slc;simp only[Qb,simprocAttr,r3];refine(Qno d H2).thenW ?_;rintro aE H3 aA ao ⟨g3,ac⟩;obtain⟨a3,au,rfl⟩:=g3.slc;simp only[Qb,simprocAttr];have hb:(YZ 2 mid rm sib).length<=2:=by unfold YZ;split<;>simp
 refine Y8 (H0:=H1) (g2.go an ac) (aq.trans ac) ao g3.src (ZK _) (by rw[Xe,NH]) (by rw[show(JG d).length=4 from rfl];omega) (by rw[show(JG d).length=4 from rfl];omega) λaF H4 g4 k4=>?_;obtain⟨a4,av,rfl⟩:=g4.slc;simp only[Qb,simprocAttr,r5,ab];refine Qv8 (w:=⟨YZ 2 mid rm sib++JG d,x,b⟩) ai q aj k4.x k4.w (by rw[Lh,Jg];exact g4) (by omega) λaC H' ak aa aB=>?_;simp only[Qb,simprocAttr,Qhu];exact .mk aa.next ⟨by rw[ad];exact ak,aa⟩
theorem Qk9 (q:0<=mid∧mid<8)(aa:0<=rm∧rm<8)(ab:-1<=sib∧sib<256)(H:Qa):Qe prog 367 [.int .i64 mid,.int .i64 rm,.int .i64 sib,.int .i64 d,.bool sh,.int .i64 x,.int .i64 b] H λv H'=>Wa 120 H H' v (Qo3 mid rm sib d sh x b)∧Ext H H':=by
 refine Qiy λan=>?_;obtain⟨W,am⟩:∃W,W=Qo3 mid rm sib d sh x b:=⟨_,rfl⟩;rw[<- am]
 -- the second one,then the third
 have au:∀ {ws:List Ld} {lv:Value} (A:Env) (H1:Qa),H1.Wf->Ext H H1->Wa 120 H H1 lv ws->ws.length<=1->W=ws++(th1 mid rm sib d x b++[⟨YZ 2 mid rm sib++JG d,x,b⟩])->A 0=.int .i64 mid->A 1=.int .i64 rm->A 2=.int .i64 sib->A 3=.int .i64 d->A 5=.int .i64 x->A 6=.int .i64 b->A 15=lv->Qm prog Jb ⟨KTw H W,WL⟩ (KTw H W) A H1:=by
  intro ws lv A H1 ah ai ac aD e ad r1 r2 r3 r5 ae aj;obtain⟨aE,aF,rfl⟩:=ac.slc;have e1:th1 mid rm sib d x b=if(decide (-128<=d)&&decide (d<=127))=true then[⟨YZ 1 mid rm sib++[IntKind.u8.wrap d],x,b⟩] else[]:=rfl
  have aB:(decide (-128<=d)&&decide (d<=127))=false->Qm prog YH ⟨KTw H W,WL⟩ (KTw H W) A H1:=λc=>QFN q aa ab ah ai ac (by omega) (by rw[e,e1,Le (by rw[c];decide)];rfl) ad r1 r2 r3 r5 ae aj;simp only[Jb,Qb,simprocAttr,r3];cases c:decide (-128<=d)&&decide (d<=127) with
  | false=>
   cases ag:decide (-128<=d) with
   | false=>
    simp only[Qb,simprocAttr];refine QFN q aa ab ah ai ac (by omega) (by rw[e,e1,Le (by rw[c];decide)];rfl) ?_ ?_ ?_ ?_ ?_ ?_ ?_
    all_goals simp only[Qg,simprocAttr,ad,r1,r2,r3,r5,ae,aj]
   | true=>
    rw[ag,LJ]at c;simp only[Qb,simprocAttr,r3,c];refine QFN q aa ab ah ai ac (by omega) (by rw[e,e1,Le (by rw[ag,c];decide)];rfl) ?_ ?_ ?_ ?_ ?_ ?_ ?_
    all_goals simp only[Qg,simprocAttr,ad,r1,r2,r3,r5,ae,aj]
  | true=>
   rw[Lc c]at e1;rw[Lm]at c;simp only[VI,Qb,simprocAttr,c.1,c.2,ad,r1,r2,r3,aj];refine(QcN 1 mid rm sib (by decide) q aa ab H1).thenW ?_;rintro az H2 ax ak ⟨g2,av⟩;obtain⟨a2,al,rfl⟩:=g2.slc;simp only[Qb,simprocAttr,r3];have aw:=(Ext.refl H2).push (.cells (bys [IntKind.u8.wrap d]) 5 false);have aA:=ak.push (.cells (bys [IntKind.u8.wrap d]) 5 false);have hb:(YZ 1 mid rm sib).length<=2:=by unfold YZ;split<;>simp
   refine Y8 (H0:=H1) (g2.go ak aw) (av.trans aw) aA (Qk8 H2 [IntKind.u8.wrap d]).src (ZK _) (by rw[Xe,NH]) (by simp;omega) (by simp;omega) λaG H4 g4 k4=>?_;obtain⟨a4,aC,rfl⟩:=g4.slc;simp only[Qb,simprocAttr,r5,ae];refine Qv8 (w:=⟨YZ 1 mid rm sib++[IntKind.u8.wrap d],x,b⟩) ah ac ai k4.x k4.w (by rw[Lh,Jg];exact g4) (by omega) λay H' ao aq ar=>?_;simp only[Qb,simprocAttr];refine QFN q aa ab ar aq ao (by rw[Lh];simp;omega) (by rw[e,e1,LQ]) ?_ ?_ ?_ ?_ ?_ ?_ ?_
   all_goals simp only[Qg,simprocAttr,ad,r1,r2,r3,r5,ae]
 have e0:th0 mid rm sib d sh x b=if(sh&&(d==0))=true then[⟨YZ 0 mid rm sib,x,b⟩] else[]:=rfl
 simp only[QbJ,Qb,simprocAttr];cases c:sh&&(d==0) with
 | false=>
  have e:W=[]++(th1 mid rm sib d x b++[⟨YZ 2 mid rm sib++JG d,x,b⟩]):=by rw[am,Qo3,e0,Le (by rw[c];decide)]
  cases sh with
  | false=>
   simp only[Qb,simprocAttr];refine au _ H an (.refl _) (Wa.nil _ _ _) (by simp) e ?_ ?_ ?_ ?_ ?_ ?_ ?_
   all_goals simp only[Qg,simprocAttr]
  | true=>
   rw[LJ]at c;simp only[Qb,simprocAttr,c];refine au _ H an (.refl _) (Wa.nil _ _ _) (by simp) e ?_ ?_ ?_ ?_ ?_ ?_ ?_
   all_goals simp only[Qg,simprocAttr]
 | true=>
  rw[Lc c]at e0;rw[Lm]at c;obtain⟨ag,al⟩:=c;subst ag;simp only[Qb,simprocAttr,al];refine(QcN 0 mid rm sib (by decide) q aa ab H).thenW ?_;rintro az H2 ax ak ⟨g2,av⟩;obtain⟨a2,al,rfl⟩:=g2.slc;simp only[Qb,simprocAttr];refine Qv8 (w:=⟨YZ 0 mid rm sib,x,b⟩) an (Wa.nil _ _ _) (.refl _) av ak g2 (by simp) λay H' ao aq ar=>?_;simp only[Qb,simprocAttr];refine au _ H' ar aq ao (by simp) (by rw[am,Qo3,e0];rfl) ?_ ?_ ?_ ?_ ?_ ?_ ?_
  all_goals simp only[Qg,simprocAttr]
end
def Qmw (mid:Int)(q:Rg)(f d:Int):Ld:=⟨YZ 0 mid 4 (64 * Ws f+8 * (if q.c==0 then 4 else Wj q)+5)++JG d,Wi q,0⟩
theorem Qs4 (mid:Int)(aa:Rg)(f d:Int)(aG:0<=mid∧mid<8)(H:Qa):Qe prog 365 [.int .i64 mid,.agg aa.cells.toArray,.int .i64 f,.int .i64 d] H λv H'=>LdV H H' (Qmw mid aa f d) v∧Ext H H':=by
 refine QjT λaH=>?_;have ag:=Jr aa;have ba:=Qda f;have ai:=Qej aa;have aj:=QcK aa;obtain⟨w,q⟩:∃w,w=Qmw mid aa f d:=⟨_,rfl⟩;rw[<- q];unfold Qmw at q;obtain⟨ay,al⟩:∃ay,Wj aa=ay:=⟨_,rfl⟩;obtain⟨hi,ak⟩:∃hi,Wi aa=hi:=⟨_,rfl⟩;rw[al]at ai ag q;rw[ak]at aj q;clear al ak;obtain⟨c,n⟩:=aa;simp only[Rg.cells]at ai aj;simp only at q;simp only[Rg.cells,Qcn,Qb,simprocAttr];generalize ab:Qa.push (Qa.push H _) _=H1;have av:Ext H H1:=by rw[<- ab];exact((Ext.refl H).push _).push _
 have aI:H1.Wf:=by rw[<- ab];exact(aH.push _).push _
 have g0:H1.get H.next=some (.cells [.int .i64 c,.int .i64 n] 54 false):=by rw[<- ab,Qc,Le (by rw[Qd];omega),Qc,Lc rfl]
 have g1:H1.get (H.next+1)=some (.cells [.slice none 0 0,.int .i64 0,.int .i64 0] 120 false):=by rw[<- ab,Qc,Lc (by rw[Qd])]
 have aZ:H1.next=H.next+2:=by rw[<- ab];rfl
 clear ab;have ao:∀ (l:Int) (A:Env) (H2:Qa),Ext H1 H2->H2.Wf->0<=l∧l<8->w=⟨YZ 0 mid 4 (64 * Ws f+8 * l+5)++JG d,hi,0⟩->A 0=.int .i64 mid->A 2=.int .i64 f->A 3=.int .i64 d->A 5=.pointer (some ⟨H.next,0,none⟩)->A 8=.pointer (some ⟨H.next+1,0,none⟩)->A 9=.int .i64 l->Qm prog Jz ⟨Rt prog Tryz.f365 H λv H'=>LdV H H' w v∧Ext H H',WL⟩ (Rt prog Tryz.f365 H λv H'=>LdV H H' w v∧Ext H H') A H2:=by
  intro l A H2 aw bb ag e az r2 r3 r5 ad aA;have aN:IntKind.i64.wrap (64 * Ws f)=64 * Ws f:=w64 (by unfold I64;omega);have aO:IntKind.i64.wrap (8 * l)=8 * l:=w64 (by unfold I64;omega);have aP:IntKind.i64.wrap (64 * Ws f+8 * l)=64 * Ws f+8 * l:=w64 (by unfold I64;omega);have aR:IntKind.i64.wrap (64 * Ws f+8 * l+5)=64 * Ws f+8 * l+5:=w64 (by unfold I64;omega);simp only[Jz,Qb,simprocAttr,az,r2,r3,r5,ad,aA];refine(QqX f H2).thenW ?_;rintro _ H2 _ _ ⟨rfl,rfl⟩;simp only[Qb,simprocAttr,az,r2,r3,r5,ad,aA,aN,aO,aP,aR];refine(QcN 0 mid 4 _ (by decide) aG (by decide) (by omega) H2).thenW ?_;rintro bh H3 bd aQ ⟨an,aT⟩;obtain⟨a2,aU,rfl⟩:=an.slc;simp only[Qb,simprocAttr,r3];refine(Qno d H3).thenW ?_;rintro bi H4 bg aS ⟨am,aB⟩;obtain⟨a3,aV,rfl⟩:=am.slc;simp only[Qb,simprocAttr];have hb:(YZ 0 mid 4 (64 * Ws f+8 * l+5)).length<=2:=by unfold YZ;split<;>simp
  refine Y8 (H0:=H2) (an.go aQ aB) (aT.trans aB) aS am.src (ZK _) (by rw[Xe,NH]) (by rw[show(JG d).length=4 from rfl];omega) (by rw[show(JG d).length=4 from rfl];omega) λbj H5 ae aq=>?_;obtain⟨a5,aC,rfl⟩:=ae.slc;have ah:=aw.trans aq.x;have aM:H5.get H.next=some (.cells [.int .i64 c,.int .i64 n] 54 false):=by rw[ah.get _ (by omega)];exact g0
  simp only[Qb,simprocAttr,r5,ad,aM,Lw,List.take];refine(aj H5).thenW ?_;rintro _ _ au bc ⟨rfl,k,rfl⟩;simp only[Ql]at au;have aK:=ah.up au;have k1:H5.get (H.next+1)=some (.cells [.slice none 0 0,.int .i64 0,.int .i64 0] 120 false):=by rw[ah.get _ (by omega)];exact g1
  simp only[Qb,simprocAttr,ad,k1,Qiw];have aL:=av.trans aK;have ax:=aL.set (i:=H.next+1) (by omega) (.cells [.slice a5 ((YZ 0 mid 4 (64 * Ws f+8 * l+5)).length+(JG d).length) aC,.int .i64 hi,.int .i64 0] 120 false);refine .mk ax.next ⟨⟨_,by rw[e],?_⟩,ax⟩;have aF:w.b.length=(YZ 0 mid 4 (64 * Ws f+8 * l+5)).length+(JG d).length:=by rw[e];simp only[Lh]
  have aD:bys w.b=bys (YZ 0 mid 4 (64 * Ws f+8 * l+5))++bys (JG d):=by rw[e,Jg]
  have aW:=av.next;have aX:=aw.next;rw[aF,aD];refine(ae.down (H0:=H) (by omega)).ext λid aE=>?_;have aY:=ae.low aq.w aE;rw[Qn,Le (by omega),Zk]
 cases ac:c==0 with
 | true=>
  rw[ac,Lc rfl]at q;simp only[Qb,simprocAttr,g0,ac];refine ao 4 _ H1 (.refl _) aI (by decide) q ?_ ?_ ?_ ?_ ?_ ?_
  all_goals simp only[Qg,simprocAttr]
 | false=>
  rw[ac,Le (by decide)]at q;simp only[Qb,simprocAttr,g0,ac,Lw,List.take];refine(ai H1).thenW ?_;rintro _ _ ar aJ ⟨rfl,k,rfl⟩;simp only[Ql]at ar;simp only[Qb,simprocAttr];refine ao _ _ (H1.up k) ((Ext.refl H1).up ar) aJ ag q ?_ ?_ ?_ ?_ ?_ ?_
  all_goals simp only[Qg,simprocAttr]
theorem QFO (ss q:List Value)(ws aa:List Ld)(h:ss.length=ws.length):ldC (ss++q) (ws++aa)=ldC ss ws++ldC q aa:=by
 unfold ldC;rw[List.zip_append h,Bm]
theorem QA9:∀ (ss:List Value) (ws:List Ld),(∀s∈ss,∃a n c,s=.slice a n c)->(ldC ss ws).all (·.oneCell')=true
 | [],_,_=>rfl
 | _::_,[],_=>rfl
 | s::ss,w::ws,h=>by
  obtain⟨a,n,c,rfl⟩:=h s (Ny ..);have:=QA9 ss ws λs q=>h s (NA _ q);unfold ldC at *;simp only[BF,Ba,Fo,this,Be];rfl
theorem QHQ {H H1 H2:Qa}{lv ar:Value}{ws ag:List Ld}(aB:H1.Wf)(ax:Wa 120 H H1 lv ws)(am:Ext H H1)(al:Ext H1 H2)(ak:H2.Wf)(aA:Wa 120 H1 H2 ar ag)(aD:ws.length<=1000)(aC:ag.length<=1000){k:Value->Qa->Prop}(h:∀ac H',Wa 120 H H' ac (ws++ag)->Ext H H'->H'.Wf->k ac H'):
  QbP 120 3 40 lv ar H2 k:=by
 obtain⟨ss,a1,a2,a3⟩:=(ax.go aB al).it;obtain⟨aq,ah,au,ai⟩:=aA.it;have q:∀s∈aq,∃a n c,s=.slice a n c:=λs q=>by
  obtain⟨j,ad,rfl⟩:=List.mem_iff_getElem.1 q;obtain⟨a,c,e⟩:=(ai j _ _ (La ad) (La (by omega))).slc;exact⟨a,_,c,e⟩
 refine Y8 (H0:=H) a2 (am.trans al) ak au.src (QA9 _ _ q) (QiA _ _ ah) (by omega) (by omega) λac H' aw ae=>h ac H' ⟨ss++aq,by simp[a1,ah],?_,λj s w q ab=>?_⟩ ae.x ae.w
 ·rw[QFO _ _ _ _ a1,Lh];exact aw
 ·have ay:∀id c',H2.get id=some (.cells c' 5 false)->¬inB lv id:=λid c' aj hi=>by
   obtain⟨o,aE,c,rfl⟩:=hi;rcases a2 with⟨h,_,_⟩ | ⟨b,c,h,an,aa,ao⟩
   ·cases h
   ·cases h;rw[aa]at aj;exact absurd (Blk.cells.inj (Ly aj)).2.1 (by decide)
  have key:∀ {s:Value} {bs:List Int},Gx 1 5 H H2 s bs.length (bys bs)->Gx 1 5 H H' s bs.length (bys bs):=λaz=>by
   rcases az with av | ⟨b,c,rfl,an,aa,ao⟩
   ·exact .inl av
   ·exact .inr ⟨b,c,rfl,an,by rw[ae.keep b (ak.lt aa) (ay b _ aa)];exact aa,ao⟩
  by_cases ad:j<ss.length
  ·rw[LY ad]at q;rw[LY (by omega)]at ab;exact key (a3 j s w q ab)
  ·rw[LR (by omega)]at q ab;rw[a1]at q;exact key ((ai _ s w q ab).down am.next)
def QxT (mid:Int)(m:Mm):List Ld:=
 if m.b.c==8 then[⟨YZ 0 mid 5 (-1)++JG m.d,0,0⟩]
 else if m.b.c==0 then[Qmw mid m.i m.sc m.d]
 else if !(m.i.c==0) then Qo3 mid 4 (64 * Ws m.sc+8 * Wj m.i+Wj m.b) m.d (!(Wj m.b==5)) (Wi m.i) (Wi m.b)
 else(if !(Wj m.b==4) then Qo3 mid (Wj m.b) (-1) m.d (!(Wj m.b==5)) 0 (Wi m.b) else[])++(Qo3 mid 4 (32+Wj m.b) m.d (!(Wj m.b==5)) 0 (Wi m.b)++(if !(m.b.n==4) then[Qmw mid m.b 1 m.d] else[]))
theorem QxU (mid rm sib d:Int)(sh:Bool)(x b:Int):(Qo3 mid rm sib d sh x b).length<=3:=by
 unfold Qo3 th0 th1;simp only[Lh,Lo,L9];split<;>split<;>simp
theorem QBa {H H1:Qa}{s:Value}{w:Ld}(ac:H1.Wf)(ae:Ext H H1)(ab:Gx 1 5 H H1 s w.b.length (bys w.b)):Wa 120 H (H1.push (.cells [s,.int .i64 w.x,.int .i64 w.h] 120 false)) (.slice (some ⟨H1.next,0,none⟩) 1 1) [w]:=by
 have ad:=(Ext.refl H1).push (.cells [s,.int .i64 w.x,.int .i64 w.h] 120 false);refine⟨[s],rfl,.inr ⟨_,_,rfl,?_,by rw[Qc,Lc rfl];rfl,rfl,.inl rfl⟩,λj ag w' q aa=>?_⟩
 ·exact ae.next
 ·have:j=0:=by
   have:=(Lk.1 q).1;simpa using this
  subst this;cases q;cases aa;exact ab.go ac ad
theorem QxV (mid:Int)(m:Mm)(an:0<=mid∧mid<8)(H:Qa):Qe prog 267 [.int .i64 mid,.agg m.cells.toArray] H λv H'=>Wa 120 H H' v (QxT mid m)∧Ext H H':=by
 refine Qis λbm=>?_;obtain⟨W,aa⟩:∃W,W=QxT mid m:=⟨_,rfl⟩;rw[<- aa];unfold QxT at aa;have aS:=Jr m.b;have aA:=Jr m.i;have bk:=Qda m.sc;have au:=Qej m.b;have ao:=QcK m.b;have aD:=Qej m.i;have aJ:=QcK m.i;have ba:=λH=>Qs4 mid m.i m.sc m.d an H;have bb:=λH=>Qs4 mid m.b 1 m.d an H;obtain⟨q,aR⟩:∃q,Wj m.b=q:=⟨_,rfl⟩;obtain⟨hi,aP⟩:∃hi,Wi m.b=hi:=⟨_,rfl⟩;obtain⟨ac,aQ⟩:∃ac,Wj m.i=ac:=⟨_,rfl⟩;obtain⟨aE,aO⟩:∃aE,Wi m.i=aE:=⟨_,rfl⟩;rw[aR]at au aS aa;rw[aP]at ao aa;rw[aQ]at aD aA aa;rw[aO]at aJ aa;clear aR aP aQ aO;obtain⟨⟨al,ae⟩,⟨aY,bu⟩,sc,d,sz⟩:=m;simp only[Rg.cells]at au ao aD aJ ba bb;simp only at aa bk;simp only[Mm.cells,QbD,Qb,simprocAttr];generalize ar:Qa.push H _=H1;have ab:Ext H H1:=by rw[<- ar];exact(Ext.refl H).push _
 have b6:H1.Wf:=by rw[<- ar];exact bm.push _
 have g1:H1.get H.next=some (.cells [.int .i64 al,.int .i64 ae,.int .i64 aY,.int .i64 bu,.int .i64 sc,.int .i64 d,.int .i64 sz] 56 false):=by rw[<- ar,Qc,Lc rfl]
 have b5:H1.next=H.next+1:=by rw[<- ar];rfl
 clear ar;have bq:IntKind.i64.wrap (32+q)=32+q:=w64 (by unfold I64;omega)
 -- the rest,where a base is there and no index
 have tl1:∀ (ws:List Ld) (lv:Value) (A:Env) (H2:Qa),H2.Wf->Ext H1 H2->Wa 120 H1 H2 lv ws->ws.length<=3->W=ws++(Qo3 mid 4 (32+q) d (!q==5) 0 hi++if(!ae==4)=true then[Qmw mid {c:=al,n:=ae} 1 d] else[])->A 0=.int .i64 mid->A 3=.pointer (some ⟨H.next,0,none⟩)->A 5=.int .i64 q->A 6=.int .i64 hi->A 8=lv->Qm prog Z9 ⟨Rt prog Tryz.f267 H λv H'=>Wa 120 H H' v W∧Ext H H',WL⟩ (Rt prog Tryz.f267 H λv H'=>Wa 120 H H' v W∧Ext H H') A H2:=by
  intro ws lv A H2 aB ag aA aF e ai r3 r5 aq bv;obtain⟨b9,bA,rfl⟩:=aA.slc;have bj:=ab.next;have k2:=(ag.get H.next (by omega)).trans g1;simp only[Z9,Qb,simprocAttr,ai,r3,r5,aq,bv,k2,bq];refine(Qk9 (mid:=mid) (rm:=4) (sib:=32+q) (d:=d) (x:=0) (b:=hi) (sh:=!q==5) an (by decide) (by omega) H2).thenW ?_;rintro av H3 aZ aw ⟨aC,aj⟩;obtain⟨a3,bd,rfl⟩:=aC.slc;simp only[Qb,simprocAttr];have b4:=QxU mid 4 (32+q) d (!q==5) 0 hi;refine QHQ aB aA ag aj aw aC (by omega) (by omega) λaK H4 aI ak aL=>?_;obtain⟨a4,bg,rfl⟩:=aI.slc;have k4:=(ak.get H.next (by omega)).trans g1;simp only[Qb,simprocAttr,r3,k4];cases c:ae==4 with
  | true=>
   rw[c,Le (by decide),Na]at e;simp only[Qb,simprocAttr,c,Xw];exact .mk (ab.trans ak).next ⟨by rw[e];exact aI.down ab.next,ab.trans ak⟩
  | false=>
   rw[c,Lc (by decide)]at e;simp only[Qb,simprocAttr,ai,r3,k4,c,Lw,List.take];refine(bb H4).thenW ?_;rintro bc H5 br aM ⟨⟨sv,rfl,am⟩,aN⟩;simp only[Qb,simprocAttr];refine Qv8 (w:=Qmw mid ⟨al,ae⟩ 1 d) aL aI ak aN aM am (by rw[Lh];omega) λbD H' au ao aD=>?_;simp only[Qb,simprocAttr,Xw];exact .mk (ab.trans ao).next ⟨by rw[e,<- LQ];exact au.down ab.next,ab.trans ao⟩
 have bw:∀ (A:Env) (H2:Qa),H2.Wf->Ext H1 H2->W=(if(!q==4)=true then Qo3 mid q (-1) d (!q==5) 0 hi else[])++(Qo3 mid 4 (32+q) d (!q==5) 0 hi++if(!ae==4)=true then[Qmw mid {c:=al,n:=ae} 1 d] else[])->A 0=.int .i64 mid->A 3=.pointer (some ⟨H.next,0,none⟩)->A 5=.int .i64 q->A 6=.int .i64 hi->Qm prog Ja ⟨Rt prog Tryz.f267 H λv H'=>Wa 120 H H' v W∧Ext H H',WL⟩ (Rt prog Tryz.f267 H λv H'=>Wa 120 H H' v W∧Ext H H') A H2:=by
  intro A H2 aB ag e ai r3 r5 aq;have bj:=ab.next;have k2:=(ag.get H.next (by omega)).trans g1;simp only[Ja,Qb,simprocAttr,ai,r3,r5,aq];cases c:q==4 with
  | true=>
   rw[c,Le (by decide)]at e;simp only[Qb,simprocAttr,c];refine tl1 [] _ _ H2 aB ag (Wa.nil _ _ _) (by simp) e ?_ ?_ ?_ ?_ rfl
   all_goals simp only[Qg,simprocAttr,ai,r3,r5,aq]
  | false=>
   rw[c,Lc (by decide)]at e;simp only[Qb,simprocAttr,ai,r3,r5,aq,k2,c];refine(Qk9 (mid:=mid) (rm:=q) (sib:=-1) (d:=d) (x:=0) (b:=hi) (sh:=!q==5) an aS (by decide) H2).thenW ?_;rintro av H3 aZ aw ⟨aC,aj⟩;simp only[Qb,simprocAttr];refine tl1 _ av _ H3 aw (ag.trans aj) (aC.down ag.next) (QxU ..) e ?_ ?_ ?_ ?_ ?_
   all_goals simp only[Qg,simprocAttr,ai,r3,r5,aq]
 refine⟨by omega,(au H1).thenW ?_⟩;rintro _ _ aF aB ⟨rfl,k2,rfl⟩;simp only[Ql]at aF;simp only[Qb,simprocAttr,g1,Lw,List.take];have aW:=(Ext.refl H1).up aF;refine⟨aW.eqB,by simp[Qi,Ab.plain],(ao (H1.up k2)).thenW ?_⟩;rintro _ _ aT bn ⟨rfl,k3,rfl⟩;simp only[Ql]at aT;have ad:=aW.up (m:=k3) aT;have k4:((H1.up k2).up k3).get H.next=_:=(ad.get H.next (by omega)).trans g1;generalize (H1.up k2).up k3=H2 at *;have b2:=ad.next;cases ay:al==8 with
 | true=>
  rw[ay,Lc rfl]at aa;simp only[Qb,simprocAttr,k4,ay];refine⟨by omega,(QcN 0 mid 5 (-1) (by decide) an (by decide) (by decide) H2).thenW ?_⟩;rintro av H3 aZ aw ⟨g3,aj⟩;obtain⟨a3,bd,rfl⟩:=g3.slc;have k5:=(aj.get H.next (by omega)).trans k4;simp only[Qb,simprocAttr,k5];refine⟨aj.eqB,by simp[Qi,Ab.plain],(Qno d H3).thenW ?_⟩;rintro aK H4 bB aL ⟨g4,ak⟩;obtain⟨a4,bg,rfl⟩:=g4.slc;simp only[Qb,simprocAttr];refine Y8 (H0:=H2) (g3.go aw ak) (aj.trans ak) aL g4.src (ZK _) (by rw[Xe,NH]) (by rw[show(YZ 0 mid 5 (-1)).length=1 from rfl,show(JG d).length=4 from rfl];omega) (by rw[show(YZ 0 mid 5 (-1)).length=1 from rfl,show(JG d).length=4 from rfl];omega) λbc H5 am k5=>?_;obtain⟨a5,bh,rfl⟩:=am.slc;have bi:Gx 1 5 H2 H5 (.slice a5 ((YZ 0 mid 5 (-1)).length+(JG d).length) bh) (YZ 0 mid 5 (-1)++JG d).length (bys (YZ 0 mid 5 (-1)++JG d)):=by rw[Lh,Jg];exact am
  have ah:=ad.trans k5.x;simp only[Qb,simprocAttr,Xw];refine .mk (((ab.trans ah).push _).next) ⟨?_,(ab.trans ah).push _⟩;rw[aa];exact QBa (w:=⟨YZ 0 mid 5 (-1)++JG d,0,0⟩) k5.w (ab.trans ah) (bi.down (ab.trans ad).next)
 | false=>
  rw[ay,Le (by decide)]at aa;simp only[VF,Qb,simprocAttr,k4,ay];cases ax:al==0 with
  | true=>
   rw[ax,Lc rfl]at aa;simp only[Qb,simprocAttr,k4,ax,Lw,List.take];refine(ba H2).thenW ?_;rintro bc H5 br aM ⟨⟨sv,rfl,am⟩,aN⟩;simp only[Qb,simprocAttr,Xw];have ah:=(ab.trans ad).trans aN;refine .mk ((ah.push _).next) ⟨?_,ah.push _⟩;rw[aa];exact QBa aM ah (am.down (ab.trans ad).next)
  | false=>
   rw[ax,Le (by decide)]at aa;simp only[VE,Qb,simprocAttr,k4,ax];cases az:aY==0 with
   | true=>
    rw[az,Le (by decide)]at aa;simp only[Qb,simprocAttr,az];refine bw _ H2 bn ad aa ?_ ?_ ?_ ?_
    all_goals simp only[Qg,simprocAttr]
   | false=>
    rw[az,Lc (by decide)]at aa;simp only[VD,Qb,simprocAttr,k4,az];have bx:IntKind.i64.wrap (64 * Ws sc)=64 * Ws sc:=w64 (by unfold I64;omega);have bz:IntKind.i64.wrap (8 * ac)=8 * ac:=w64 (by unfold I64;omega);have av:IntKind.i64.wrap (64 * Ws sc+8 * ac)=64 * Ws sc+8 * ac:=w64 (by unfold I64;omega);have aK:IntKind.i64.wrap (64 * Ws sc+8 * ac+q)=64 * Ws sc+8 * ac+q:=w64 (by unfold I64;omega);refine⟨by omega,(QqX sc H2).thenW ?_⟩;rintro _ H5 _ _ ⟨rfl,rfl⟩;simp only[Qb,simprocAttr,k4,bx,Lw,List.take,List.drop];refine⟨(Ext.refl _).eqB,by simp[Qi,Ab.plain],(aD _).thenW ?_⟩;rintro _ _ aU b7 ⟨rfl,k6,rfl⟩;simp only[Ql]at aU;have aH:=ad.up (m:=k6) aU;have k7:=(aH.get H.next (by omega)).trans g1;generalize Qa.up _ k6=H6 at *;have b3:=aH.next;simp only[Qb,simprocAttr,k7,bz,av,aK,Lw,List.take,List.drop];refine⟨by simp[Qi,Ab.plain],(aJ _).thenW ?_⟩;rintro _ _ aG b8 ⟨rfl,k8,rfl⟩;simp only[Ql]at aG;have aX:=aH.up (m:=k8) aG;have bo:=(Ext.refl H6).up (m:=k8) aG;generalize Qa.up _ k8=H8 at *;simp only[Qb,simprocAttr];refine⟨bo.eqB,(Qk9 (mid:=mid) (rm:=4) (sib:=64 * Ws sc+8 * ac+q) (d:=d) (x:=aE) (b:=hi) (sh:=!q==5) an (by decide) (by omega) H8).thenW ?_⟩;rintro bE H9 bC bF ⟨bp,b1⟩;simp only[Qb,simprocAttr,Xw];have aV:=(ab.trans aX).trans b1;exact .mk aV.next ⟨by rw[aa];exact bp.down (ab.trans aX).next,aV⟩
theorem QDS (n:Int):IntKind.u8.wrap n=n % 256:=by
 unfold IntKind.wrap;simp[IntKind.bits,IntKind.signed]
theorem Qla (n:Int):IntKind.u64.wrap n=n % 18446744073709551616:=by
 unfold IntKind.wrap;simp[IntKind.bits,IntKind.signed]
theorem QuS (n:Int):IntKind.i64.wrap n=if n % 18446744073709551616>=9223372036854775808 then n % 18446744073709551616 - 18446744073709551616 else n % 18446744073709551616:=by
 unfold IntKind.wrap;simp[IntKind.bits,IntKind.signed]
theorem QHR (d:Int)(ab:-2147483648<=d∧d<=2147483647):QoT d 8=(decide (-128<=d)&&decide (d<=127)):=by
 have e:(2:Int) ^ (min (64 - (8:Int)).toNat 64)=72057594037927936:=by decide
 have h:Qf0 d 8=(IntKind.i64.wrap (IntKind.u64.wrap (IntKind.u64.wrap d * 72057594037927936))) / 72057594037927936:=by
  unfold Qf0;rw[Le (by decide),e,Np _ (by decide)]
 have aa:Yh 8=true:=by decide
 unfold QoT;rw[h,aa,LJ,QuS,Qla,Qla]
 by_cases q:-128<=d∧d<=127
 ·rw[Lp q.1,Lp q.2,Bj,L0];split<;>omega
 ·have:(decide (-128<=d)&&decide (d<=127))=false:=by
   rw[BG,NY,NY];omega
  rw[this,LC];split<;>omega
theorem QDT (d:Int)(q:-2147483648<=d∧d<=2147483647):(Ku d 4).1=JG d:=by
 have e:(2:Int) ^ (min (64 - (32:Int)).toNat 64)=4294967296:=by decide
 have h:Qf0 d 32=d:=by
  unfold Qf0;rw[Le (by decide),e,Np _ (by decide),QuS,Qla,Qla];split<;>omega
 unfold Ku;rw[Le (by decide),Le (by rw[show(8:Int) * 4=32 from rfl];unfold Qb1;rw[h];simp[Yh])];show Qfa d 4=_;unfold Qfa JG QoU;rw[show List.range 4=[0,1,2,3] from rfl];simp only[List.map,QDS,Qla];rw[show(2:Int) ^ (min (8 * 0) 64)=1 from rfl,show(2:Int) ^ (min (8 * 1) 64)=256 from rfl,show(2:Int) ^ (min (8 * 2) 64)=65536 from rfl,show(2:Int) ^ (min (8 * 3) 64)=16777216 from rfl];simp only[Np _ (show(0:Int)<=1 by decide),Np _ (show(0:Int)<=256 by decide),Np _ (show(0:Int)<=65536 by decide),Np _ (show(0:Int)<=16777216 by decide)];congr 1
 ·omega
 congr 1
 ·omega
 congr 1
 ·omega
 congr 1;omega
theorem QI2 (d:Int)(q:QoT d 8=true):(Ku d 1).1=[IntKind.u8.wrap d]:=by
 unfold QoT at q;unfold Ku;rw[Le (by decide),Le (by rw[show(8:Int) * 1=8 from rfl];unfold Qb1;simp at q;simp[q])];show Qfa d 1=_;unfold Qfa QoU;rw[show List.range 1=[0] from rfl];simp only[List.map,QDS,Qla];rw[show(2:Int) ^ (min (8 * 0) 64)=1 from rfl,Np _ (show(0:Int)<=1 by decide)];congr 1;omega
theorem Qlb (mid rm sib:Int)(m:Mm)(aa:-2147483648<=m.d∧m.d<=2147483647):Qo3 mid rm sib m.d (!(Wj m.b==5)) (Wi m.i) (Wi m.b)=YY mid rm (if 0<=sib then[sib] else[]) m:=by
 have e:YY mid rm (if 0<=sib then[sib] else[]) m=Zx mid rm (if 0<=sib then[sib] else[]) m 0++(Zx mid rm (if 0<=sib then[sib] else[]) m 1++(Zx mid rm (if 0<=sib then[sib] else[]) m 2++[])):=rfl;rw[e,Na];unfold Qo3 th0 th1 YZ Zx QFK Qk4;rw[<- QHR m.d aa,<- QDT m.d aa];simp only[N3,Le (show ¬ (1:Nat)=0 by decide),Le (show ¬ (2:Nat)=0 by decide),Le (show ¬ (2:Nat)=1 by decide),Na];congr 1
 ·rw[Bool.and_comm];rfl
 congr 1
 by_cases q:QoT m.d 8=true
 ·rw[Lc q,Lc q,QI2 m.d q];rfl
 ·rw[Le q,Le q]
theorem QqY (mid:Int)(q:Rg)(f d:Int)(ad:-2147483648<=d∧d<=2147483647)(h:isR q 0 0=(q.c==0))(aa:isR q 0 0=true->Ws f=0):Qmw mid q f d=Qa6 mid q f d:=by
 unfold Qmw Qa6 YZ;rw[<- QDT d ad,h];have ae:=Jr q;have ag:=Qda f;cases ac:q.c==0 with
 | true=>
  rw[h]at aa;have ab:=aa ac;simp only[N3,Lq,ab];rfl
 | false=>
  simp only[Ls,Le RW];rw[Lc (by omega)];simp only[QA,Nm,LH];rw[show 64 * Ws f+8 * Wj q+5=Ws f * 64+Wj q * 8+5 by omega]
structure QHS (m:Mm):Prop where
 d:-2147483648<=m.d∧m.d<=2147483647
 b:isR m.b 0 0=(m.b.c==0)
 i:isR m.i 0 0=(m.i.c==0)
 s:isR m.i 0 0=true->m.sc=0
theorem QHT {r:Rg}(h:isR r 0 0=true∨isR r 8 0=true∨JF r=true):isR r 0 0=(r.c==0):=by
 obtain⟨c,n⟩:=r;unfold isR JF at *;simp only[Lm,L0]at h;rcases h with⟨q,aa⟩ | ⟨q,aa⟩ | ⟨q,aa⟩<;>subst q<;>simp_all
theorem QI3 {m:Mm}(h:Qx m=0):QHS m:=by
 refine⟨QxQ h,?_,?_,?_⟩
 all_goals
  unfold Qx at h;split at h
  ·simp at h
  split at h
  ·simp at h
  split at h
  ·simp at h
  split at h
  ·simp at h
  rename_i ab aa;have ab:=Bool.eq_false_iff.2 ab;have aa:=Bool.eq_false_iff.2 aa
 ·refine QHT ?_;cases ae:isR m.b 0 0<;>cases ag:isR m.b 8 0<;>cases ah:JF m.b<;>simp_all
 ·split at h
  ·rename_i ac;exact QHT (.inl ac)
  ·split at h
   ·simp at h
   ·rename_i ad;refine QHT (.inr (.inr ?_));cases q:JF m.i with
    | true=>rfl
    | false=>simp[q]at ad
 ·intro hi;rw[hi,LJ]at aa;simpa using aa
theorem QKa {m:Mm}(h:Qx m=0):QHS (Y9 m):=by
 have aa:=QI3 h;refine⟨by rw[QxR];exact aa.d,?_,?_,?_⟩
 all_goals
  unfold Y9;split
  ·first | exact aa.b | exact aa.i | exact aa.s
  split
  ·first | exact aa.i | rfl | exact λ_=>rfl
  split
  ·first | exact aa.i | exact aa.b | (rename_i ac ab ad;exact λq=>absurd q ab)
  ·first | exact aa.b | exact aa.i | exact aa.s
theorem QzP {mid:Int}{m:Mm}(h:QHS m):QxT mid m=QdZ mid m:=by
 have ag:=Jr m.b;have ah:=Jr m.i;have ai:=Qda m.sc;unfold QxT QdZ
 by_cases ab:(m.b.c==8)=true
 ·rw[Lc ab,Lc ab,QDT _ h.d];rfl
 ·rw[Le ab,Le ab,<- h.b]
  by_cases aa:isR m.b 0 0=true
  ·rw[Lc aa,Lc aa,QqY mid m.i m.sc m.d h.d h.i λq=>by rw[h.s q];rfl]
  ·rw[Le aa,Le aa,<- h.i];cases hi:isR m.i 0 0 with
   | false=>
    rw[Lc (show(!false)=true from rfl),Lc (show false=false from rfl),Qlb _ _ _ _ h.d,Lc (by omega)];unfold QA;rw[show 64 * Ws m.sc+8 * Wj m.i+Wj m.b=Ws m.sc * 64+Wj m.i * 8+Wj m.b by omega]
   | true=>
    have ac:Wi m.i=0:=by
     obtain⟨⟨ad,ae⟩,⟨aj,ak⟩,sc,d,sz⟩:=m;unfold isR at hi;simp only[Lm,L0]at hi;obtain⟨rfl,rfl⟩:=hi;exact rfl
    rw[Le (show ¬ (!true)=true by decide),Le (show ¬true=false by decide),QqY mid m.b 1 m.d h.d h.b λq=>absurd q aa];have e1:=Qlb mid (Wj m.b) (-1) m h.d;have e2:=Qlb mid 4 (32+Wj m.b) m h.d;rw[ac]at e1 e2;rw[e1,e2,Le (show ¬ (0:Int)<=-1 by decide),Lc (show(0:Int)<=32+Wj m.b by omega)];have e3:QA 0 4 (Wj m.b)=32+Wj m.b:=by unfold QA;omega
    rw[e3];congr 1
    ·cases Wj m.b==4<;>rfl
    congr 1;cases m.b.n==4<;>rfl
theorem QDU (mid:Int)(a:Ar):(QcM mid a).1.length<=8:=by
 have:=Qs2 mid (Y9 a.m);unfold QcM
 repeat' split
 all_goals first | exact this | simp
theorem QCo (mid:Int)(a:Ar)(H:Qa):Qe prog 128 [.int .i64 mid,.agg a.cells.toArray] H λu H'=>∃v,u=.tuple #[v,.int .i64 (QcM mid a).2]∧Wa 120 H H' v (QcM mid a).1∧Ext H H':=by
 refine QkP λaU=>?_;have bb:=Zs a;have aG:=Qej a.r;have aH:=QcK a.r;have an:=Qcq a.m;have ai:Qa5 a.m=if Qx a.m=0 then(Y9 a.m,0) else(Kb,Qx a.m):=rfl
 have au:∀h:(a.k==2)=true,Wk a=Qx a.m:=λh=>by
  have:a.k=2:=by simpa using h
  simp[Wk,this]
 have ax:=Jr a.r;obtain⟨w,q⟩:∃w,w=QcM mid a:=⟨_,rfl⟩;rw[<- q];unfold QcM at q;have aO:(Value.agg a.cells.toArray).cells.toList=a.cells:=rfl;have al:=(Ext.refl H).push (.cells a.cells 58 false);have bj:=aU.push (.cells a.cells 58 false);have av:(H.push (.cells a.cells 58 false)).get H.next=some (.cells a.cells 58 false):=by rw[Qc,Lc rfl]
 have bh:(H.push (.cells a.cells 58 false)).next=H.next+1:=rfl;have aN:a.cells.take 11=a.cells:=rfl;simp only[Qdh,aO,JL,simprocAttr];generalize H.push (.cells a.cells 58 false)=H1 at *;have ar:∀ (A:Env),w=([],5)->A 4=.slice none 0 0->A 5=.int .i64 5->Rt prog Tryz.f128 H (λu H'=>∃v,u=.tuple #[v,.int .i64 w.2]∧Wa 120 H H' v w.1∧Ext H H') A H1:=by
  intro A e r4 r5;subst e;simp only[Yi,r4,r5];exact .mk al.next ⟨_,rfl,Wa.nil _ _ _,al⟩
 have aR:(decide (mid<0)||decide (mid>7))=false->∀ (A:Env),A 0=.int .i64 mid->A 3=.pointer (some ⟨H.next,0,none⟩)->Qm prog J3 ⟨Rt prog Tryz.f128 H (λu H'=>∃v,u=.tuple #[v,.int .i64 w.2]∧Wa 120 H H' v w.1∧Ext H H'),WL⟩ (Rt prog Tryz.f128 H (λu H'=>∃v,u=.tuple #[v,.int .i64 w.2]∧Wa 120 H H' v w.1∧Ext H H')) A H1:=by
  intro ay A ad r3;have aA:0<=mid∧mid<8:=by simp at ay;omega
  rw[ay,Le (by simp)]at q;simp only[J3,Qb,simprocAttr,ad,r3,av,Lw,aN];refine⟨Lb _,?_⟩;refine(bb H1).thenW ?_;rintro _ _ aB bk ⟨rfl,k,rfl⟩;simp only[Ql]at aB;have ac:=al.up aB;have ae:(H1.up k).get H.next=some (.cells a.cells 58 false):=by rw[Zk];exact av
  have aS:H.next<(H1.up k).next:=by rw[Ql];omega
  generalize H1.up k=H2 at *;simp only[Qb,simprocAttr];cases aj:Wk a==0 with
  | false=>
   rw[aj,Lc rfl]at q;subst q;simp only[Qb,simprocAttr,LM,Yi];exact .mk ac.next ⟨_,rfl,Wa.nil _ _ _,ac⟩
  | true=>
   rw[aj,Le (by simp)]at q;have aP:Wk a=0:=by simpa using aj
   obtain⟨bm,⟨aJ,aK⟩,⟨⟨aL,aM⟩,⟨aZ,ba⟩,sc,d,sz⟩,n⟩:=a;simp only[Ar.cells,Rg.cells,Mm.cells]at ae aG aH an;simp only[Qbt,Qb,simprocAttr,L8,ad,r3,ae];simp only at q ax ai au;refine Qf (λh=>?_) (λh=>?_)
   ·rw[h,Lc rfl]at q;simp only[Qbq,Qb,simprocAttr,ad,r3,ae];refine⟨aS,(aG H2).thenW ?_⟩;rintro _ _ ab aV ⟨rfl,k3,rfl⟩;simp only[Ql]at ab;have ag:=ac.up ab;have aw:=ae;rw[<- Zk H2 k3]at aw;have aC:H.next<(H2.up k3).next:=by rw[Ql];omega
    have aY:=((Ext.refl H2).up ab).eqB;generalize H2.up k3=H3 at *;simp only[Qb,simprocAttr,r3];refine⟨aY,aC,(QcN 3 mid _ (-1) (by decide) aA ax (by decide) H3).thenW ?_⟩;rintro bo H4 bn bc ⟨g4,ao⟩;obtain⟨a4,bd,rfl⟩:=g4.slc;have k4:=(ao.get H.next aC).trans aw;have bi:H.next<H4.next:=by omega
    simp only[Qb,simprocAttr,r3,k4];refine⟨ao.eqB,by simp[Qi,Ab.plain],(aH H4).thenW ?_⟩;rintro _ _ ak aW ⟨rfl,k5,rfl⟩;simp only[Ql]at ak;have am:=(ag.trans ao).up ak;have aQ:=g4.go bc ((Ext.refl H4).up ak);generalize H4.up k5=H5 at *;simp only[Qb,simprocAttr,Yi];refine .mk (am.push _).next ⟨_,by rw[q],?_,am.push _⟩;rw[q];exact QBa (w:=⟨[QA 3 mid (Wj ⟨aJ,aK⟩)],0,Wi ⟨aJ,aK⟩⟩) aW am (aQ.down ag.next)
   ·rw[h,Le (by simp)]at q;simp only[Qbs,Qb,simprocAttr,ad,r3];refine Qf (λaa=>?_) (λaa=>?_)
    ·rw[aa,Lc rfl]at q;simp only[Qbr,Qb,simprocAttr,ad,r3,ae];have az:=(au aa).symm.trans aP;rw[Lc az]at ai;rw[ai]at an;refine(an H2).thenW ?_;rintro _ _ ab aV ⟨rfl,k3,rfl⟩;simp only[Ql]at ab;have ag:=ac.up ab;generalize H2.up k3=H3 at *;have aT:=QKa az;generalize bg:Y9 ⟨⟨aL,aM⟩,⟨aZ,ba⟩,sc,d,sz⟩=m at *;simp only[Mm.cells,Qb,simprocAttr,LO,L8,ad];generalize aq:Qa.set (Qa.push H3 _) _ _=H4;have aE:Ext H H4:=by rw[<- aq];exact(ag.push _).set (by have:=ag.next;omega) _
     clear aq;have aI:=QxV mid m aA H4;simp only[Mm.cells]at aI;refine aI.thenW ?_;rintro v H6 _ _ ⟨aD,aX⟩;have aF:=aE.trans aX;rw[QzP aT]at aD;simp only[Qb,simprocAttr,Yi];exact .mk aF.next ⟨v,by rw[q],by rw[q];exact aD.down aE.next,aF⟩
    ·rw[aa,Le (by simp)]at q;subst q;simp only[Qb,simprocAttr,Yi];exact .mk ac.next ⟨_,rfl,Wa.nil _ _ _,ac⟩
 cases ah:decide (mid<0) with
 | true=>
  rw[ah,N1,Lc rfl]at q;simp only[Qb,simprocAttr];refine ar _ q ?_ ?_
  all_goals simp only[Qg,simprocAttr]
 | false=>
  cases aa:decide (mid>7) with
  | true=>
   rw[ah,aa,Bd,Lc rfl]at q;simp only[Qb,simprocAttr,aa];refine ar _ q ?_ ?_
   all_goals simp only[Qg,simprocAttr]
  | false=>
   simp only[Qb,simprocAttr,aa];refine aR (by rw[ah,aa];rfl) _ ?_ ?_
   all_goals simp only[Qg,simprocAttr]
def arS (f:Fm)(l:List Ar)(s:Int):Ar:=if 0<=Qp f.slots s then l[(Qp f.slots s).toNat]?.getD Q7 else Q7
theorem Qlc {x:Lf}{op:Int}{va:Value}{l:List Ar}(s:Int)(H:Qa)(aw:x.At H)(ae:Qt H va l)(aE:l.length<=1000)(aF:x.f.slots.length=l.length):
  Qe prog 85 [.agg x.cells.toArray,.agg #[.int .i64 op,va],.int .i64 s] H λu H'=>u=.agg (arS x.f l s).cells.toArray∧Ext H H':=by
 refine QlU λad=>?_;have al:(Value.agg x.cells.toArray).cells.toList=x.cells:=rfl;have ak:x.cells.take 10=x.cells:=rfl;have ay:10<=x.cells.length:=Lb _;have au:=QpW x.f.slots s;obtain⟨r,q⟩:∃r,r=arS x.f l s:=⟨_,rfl⟩;rw[<- q];unfold arS at q;obtain⟨a0,cap,rfl⟩:=Qu ae;simp only[QdW,al,JL,simprocAttr];generalize aa:Qa.push (Qa.push (Qa.push H _) _) _=H1;have aj:Ext H H1:=by rw[<- aa];exact(((Ext.refl H).push _).push _).push _
 have aH:H1.Wf:=by rw[<- aa];exact((ad.push _).push _).push _
 have aG:H1.next=H.next+3:=by rw[<- aa];rfl
 have g0:H1.get H.next=some (.cells x.cells 45 false):=by rw[<- aa,Qc,Le (by simp only[Qd];omega),Qc,Le (by simp only[Qd];omega),Qc,Lc rfl]
 have g1:H1.get (H.next+1)=some (.cells [.int .i64 op,.slice a0 l.length cap] 24 false):=by rw[<- aa,Qc,Le (by simp only[Qd];omega),Qc,Lc (by simp only[Qd])];rfl
 have g2:H1.get (H.next+2)=some (.cells Q7.cells 58 false):=by rw[<- aa,Qc,Lc (by simp only[Qd])];rfl
 clear aa;have ax:=aw.ext ad aj;simp only[Qb,simprocAttr,g0,Lw,ak];refine⟨ay,?_⟩;refine(XC x s H1 ax).thenW ?_;rintro _ _ ai aI ⟨rfl,k,rfl⟩;simp only[Ql]at ai;have ab:=aj.up (m:=k) ai;have k1:(H1.up k).get (H.next+1)=_:=(Zk ..).trans g1;have k2:(H1.up k).get (H.next+2)=_:=(Zk ..).trans g2;generalize Qa.up H1 k=H2 at *;simp only[Qb,simprocAttr];cases ac:decide (Qp x.f.slots s<0) with
 | true=>
  rw[Le (by have:=Lg ac;omega)]at q;simp only[Qb,simprocAttr,ac,k2,Qdd];refine⟨Lb _,.mk ?_ ⟨by rw[q];rfl,?_⟩⟩
  ·exact(ab.set (i:=H.next+1+1) (by omega) _).next
  ·exact ab.set (by omega) _
 | false=>
  have am:0<=Qp x.f.slots s:=by have:=Ll ac;omega
  rw[Lc am]at q;obtain⟨i,hi⟩:∃i:Nat,Qp x.f.slots s=i:=⟨(Qp x.f.slots s).toNat,by omega⟩;rw[hi]at q ac au ⊢;obtain⟨a,ag⟩:∃a,l[i]? = some a:=⟨_,La (by omega)⟩;have d3:(i:Int).toNat=i:=by omega
  rw[d3,ag]at q;obtain⟨_,_,ao,an⟩:=id ae;cases ao;obtain⟨b,e,ro,rfl,ah⟩:=an (by omega);have aq:H2.get b=some (.cells (Qh l) e ro):=by rw[ab.get b (ad.lt ah)];exact ah
  have d1:(0:Int)<=i∧(i:Int)<l.length:=by omega
  have av:=We l i a ag;have ar:i * 11+11<=(Qh l).length:=by rw[Qr];omega
  simp only[Qb,simprocAttr,k1,d1,d3,aq,av];refine⟨ar,?_⟩;have q:r=a:=q;rw[q];obtain⟨aA,⟨az,aB⟩,⟨⟨aC,aD⟩,⟨aJ,aK⟩,sc,d,sz⟩,n⟩:=a;have k3:H2.get (H.next+1+1)=some (.cells Q7.cells 58 false):=k2;simp only[Qb,simprocAttr,k3,Ar.cells,Qdd];refine .mk ?_ ⟨rfl,?_⟩
  ·exact(ab.set (i:=H.next+1+1) (by omega) _).next
  ·exact ab.set (by omega) _
theorem Qv9 {v:Value}{bs:List Int}{H0:Qa}(H:Qa)(ak:Gx 1 5 H0 H v bs.length (bys bs))(aj:bs.length<=1000)(hb:∀c∈bs,0<=c∧c<256):
  Qe prog 90 [v] H λu H'=>u=.int .i64 (if bs.length=0 then -1 else if bs.getD 0 0 / 64=3 then -1 else if bs.getD 0 0 % 8=4 then(bs.length:Int) - 2 else(bs.length:Int) - 1)∧H'=H:=by
 refine Qhk λao=>?_;obtain⟨a,c,rfl,ah⟩:∃a c,v=.slice a bs.length c∧(0<bs.length->∃b,a=some ⟨b,0,none⟩∧H.get b=some (.cells (bys bs) 5 false)):=by
  rcases ak with⟨rfl,h,_⟩ | ⟨b,c,rfl,_,h,_,_⟩
  ·exact⟨none,0,by rw[h],λh'=>by omega⟩
  ·exact⟨_,c,rfl,λ_=>⟨b,rfl,h⟩⟩
 simp only[Qas,Qb,simprocAttr];rcases bs with _ | ⟨z,bs⟩
 ·have e0:(((0:Nat):Int)==0)=true:=rfl;simp only[L9,Qb,simprocAttr,e0,YB];exact .mk (Lb _) ⟨rfl,rfl⟩
 ·obtain⟨b,rfl,ai⟩:=ah (by simp);have ad:=hb z (Ny ..);have e1:(((bs.length+1:Nat):Int)==0)=false:=by rw[LC];omega
  have d1:(0:Int)<=0∧(0:Int)<((bs.length+1:Nat):Int):=by omega
  have d3:(0:Int).toNat=0:=rfl;have an:bs.length+1<=1000:=aj;have al:IntKind.i64.wrap (((bs.length+1:Nat):Int) - 2)=((bs.length+1:Nat):Int) - 2:=w64 (by unfold I64;omega);have am:IntKind.i64.wrap (((bs.length+1:Nat):Int) - 1)=((bs.length+1:Nat):Int) - 1:=w64 (by unfold I64;omega);have t1:z.tdiv 64=z / 64:=Int.tdiv_eq_ediv_of_nonneg ad.1;have t2:z.tmod 8=z % 8:=BM ad.1;have ae:∀z:Int,0<=z->z<256->IntKind.u8.wrap z=z:=λz a b=>by
   unfold IntKind.wrap;simp[IntKind.bits,IntKind.signed];omega
  have t3:=ae (z / 64) (by omega) (by omega);have t4:=ae (z % 8) (by omega) (by omega);have ag:(z::bs).getD 0 0=z:=rfl;have ac:H.get b=some (.cells (.int .u8 z::bys bs) 5 false):=ai;have q:((.int .u8 z::bys bs):List Value)[0]? = some (.int .u8 z):=rfl;rw[ag];simp only[Lo,Qb,simprocAttr,ac,q,e1,d1,d3,t1,t2,t3,t4]
  try refine⟨by decide,?_⟩
  cases aa:z / 64==3 with
  | true=>
   simp only[Qb,simprocAttr,YB];exact .mk (Lb _) ⟨by rw[Lc (by simpa using aa)],rfl⟩
  | false=>
   rw[Le (show ¬z / 64=3 by simpa using aa)];simp only[GC,Qb,simprocAttr,ac,q,d1,d3,t2,t4]
   try refine⟨by decide,?_⟩
   cases ab:z % 8==4 with
   | true=>
    simp only[Qb,simprocAttr,al,YB];exact .mk (Lb _) ⟨by rw[Lc (by simpa using ab)],rfl⟩
   | false=>
    simp only[Qb,simprocAttr,am,YB];exact .mk (Lb _) ⟨by rw[Le (by simpa using ab)],rfl⟩
def Qs9 (n:Int)(k:Nat):List Int:=(List.range k).map λj=>IntKind.u8.wrap (n.fdiv (2 ^ (min (8 * j) 64)))
theorem QCp (n:Int)(k:Nat):Qs9 n (k+1)=Qs9 n k++[IntKind.u8.wrap (n.fdiv (2 ^ (min (8 * k) 64)))]:=by
 unfold Qs9;rw[R0,N6];rfl
theorem Qo6 (n:Int)(k:Nat):(Qs9 n k).length=k:=by unfold Qs9;rw[Nn,BO]
def Qo7 (f:Fm)(op:Int)(l:List Ar):List Int:=(if 0<=Qp f.slots 5 then Qs9 (Qo4 f op l) (tlN f).toNat else[])++(if 0<=Qp f.slots 7 then[isB (l[(Qp f.slots 7).toNat]?.getD Q7).r.n] else[])
section
variable {x:Lf} {op:Int} {va:Value} {l:List Ar} {H:Qa}
abbrev KTr (H:Qa)(W:List Int):Env->Qa->Prop:=Rt prog Tryz.f86 H λv H'=>Gx 1 5 H H' v W.length (bys W)∧Ext H H'
theorem QGU {Hb:Qa}(aa:Ext H Hb)(ay:H.next+2<=Hb.next)(aw:H.Wf)(am:Qt H va l)(ax:l.length<=1000){W w:List Int}{s:Int}(az:s<l.length)(aA:w.length<=1000)(q:W=w++(if 0<=s then[isB (l[s.toNat]?.getD Q7).r.n] else[])){A:Env}{H1:Qa}{v:Value}(ac:Ext Hb H1)(ah:H1.Wf)(g3:Hb.get (H.next+1)=some (.cells [.int .i64 op,va] 24 false))(r3:A 3=.pointer (some ⟨H.next+1,0,none⟩))(r5:A 5=v)(aj:A 7=.int .i64 s)(ag:Gx 1 5 Hb H1 v w.length (bys w)):
  Qm prog YU ⟨KTr H W,WL⟩ (KTr H W) A H1:=by
 obtain⟨a0,cap,rfl,al⟩:=am;have g3:=(ac.get (H.next+1) (by omega)).trans g3;have ab:=aa.trans ac;simp only[YU,Qb,simprocAttr,aj,Ft];refine Qf (λh=>?_) (λh=>?_)
 ·have ak:0<=s:=Lg h;rw[Lc ak]at q;obtain⟨i,rfl⟩:∃i:Nat,s=i:=⟨s.toNat,by omega⟩;have aq:i<l.length:=by omega
  obtain⟨a,ad⟩:∃a,l[i]? = some a:=⟨_,La aq⟩;obtain⟨b,e,ro,rfl,ae⟩:=al (by omega);have an:H1.get b=some (.cells (Qh l) e ro):=by rw[ab.get b (aw.lt ae)];exact ae
  have au:=Qk3 ad;have d1:(0:Int)<=i∧(i:Int)<l.length:=by omega
  have d3:(i:Int).toNat=i:=by omega
  have ao:(l[(i:Int).toNat]?.getD Q7).r.n=a.r.n:=by rw[d3,ad];rfl
  rw[ao]at q;have ei:IntKind.u8.wrap (IntKind.i64.wrap (16 * a.r.n))=isB a.r.n:=rfl;simp only[Qal,Qb,simprocAttr,r3,r5,aj,g3,d1,d3,an,au,ei];refine Y8 (ms:=[.int .u8 (isB a.r.n)]) (m:=1) (ag.go ah ((Ext.refl H1).push _)) (ac.push _) (ah.push _) (QnZ (by rw[Qc,Lc rfl])) rfl rfl (by omega) (by omega) ?_;intro aB H2 av ar;simp only[Qb,simprocAttr,Qbk];have e2:W.length=w.length+1:=by rw[q,Lh,Bb]
  have e3:bys W=bys w++[.int .u8 (isB a.r.n)]:=by rw[q,bys,bys,N6];rfl
  have ai:=aa.trans ar.x;exact .mk ai.next ⟨by rw[e2,e3];exact av.down aa.next,ai⟩
 ·rw[Le (by have:=Ll h;omega),Na]at q;simp only[Qb,simprocAttr,r5,Qbk];exact .mk ab.next ⟨by rw[q];exact ag.down aa.next,ab⟩
theorem QGV {Hb:Qa}(al:Ext H Hb)(aB:H.next+2<=Hb.next)(aj:H.Wf)(aG:x.At H)(az:Qt H va l)(aA:l.length<=1000){W:List Int}{s N:Int}(es:s=Qp x.f.slots 7)(aC:s<l.length)(ab:W=Qs9 N (tlN x.f).toNat++(if 0<=s then[isB (l[s.toNat]?.getD Q7).r.n] else[])){A:Env}{H1:Qa}(ad:Ext Hb H1)(aL:H1.Wf)(g2:Hb.get H.next=some (.cells x.cells 45 false))(g3:Hb.get (H.next+1)=some (.cells [.int .i64 op,va] 24 false))(r2:A 2=.pointer (some ⟨H.next,0,none⟩))(r3:A 3=.pointer (some ⟨H.next+1,0,none⟩))(r5:A 5=.slice none 0 0)(ar:A 7=.int .i64 s)(aJ:A 8=.int .i64 N):
  Qm prog Jt ⟨KTr H W,WL⟩ (Qm prog YU ⟨KTr H W,WL⟩ (KTr H W)) A H1:=by
 have au:x.cells.take 10=x.cells:=rfl;have aI:10<=x.cells.length:=Lb _;have g4:=(ad.get H.next (by omega)).trans g2;have aD:0<=tlN x.f∧tlN x.f<=9:=by
  have:=QsS x.f;unfold tlN tlF
  by_cases h:0<=Qp x.f.slots 7
  ·rw[Lc h,Lp h,Lq];omega
  ·rw[Le h,Lj h,Ls];omega
 have ay:IntKind.i64.wrap (tlF x.f - (if decide (0<=s)=true then 1 else 0))=tlN x.f:=by
  have e1:tlF x.f - (if decide (0<=s)=true then 1 else 0)=tlN x.f:=by
   unfold tlN;rw[es]
   by_cases h:0<=Qp x.f.slots 7
   ·rw[Lc h,Lp h,Lc rfl]
   ·rw[Le h,Lj h,Le (by decide)];omega
  rw[e1];exact w64 (by unfold I64;omega)
 simp only[Jt,Qb,simprocAttr,r2,g4,Lw,au];refine⟨aI,?_⟩;refine(QzJ x H1 (aG.ext aj (al.trans ad))).thenW ?_;rintro _ _ ai aF ⟨rfl,k,rfl⟩;simp only[Ql]at ai;have aH:=ad.up (m:=k) ai;generalize Qa.up H1 k=H2 at *;simp only[Qb,simprocAttr,ar,Ft];refine(QCl _ H2).thenW ?_;rintro _ H2 _ _ ⟨rfl,rfl⟩;simp only[Qb,simprocAttr,ay];obtain⟨t,aw⟩:∃t:Nat,tlN x.f=t:=⟨(tlN x.f).toNat,by omega⟩;rw[aw]at aD ab ⊢;have ax:(t:Int).toNat=t:=by omega
 rw[ax]at ab;refine Qo (λm A' H'=>∃j:Nat,j<=t∧m=t - j∧Ext Hb H'∧H'.Wf∧Gx 1 5 Hb H' (A' 5) (Qs9 N j).length (bys (Qs9 N j))∧A' 3=.pointer (some ⟨H.next+1,0,none⟩)∧A' 7=.int .i64 s∧A' 8=.int .i64 N∧A' 11=.int .i64 t∧A' 12=.int .i64 j) t ?_ ?_
 ·refine⟨0,by omega,rfl,aH,aF,?_,?_,?_,?_,?_,?_⟩
  all_goals simp only[Qg,simprocAttr,r3,r5,ar,aJ]
  ·exact .inl ⟨rfl,rfl,rfl⟩
  all_goals rfl
 ·rintro m A' H' ⟨j,aK,rfl,ak,ac,aa,an,ao,aq,am,ae⟩;obtain⟨v,ag⟩:∃v,A' 5=v:=⟨_,rfl⟩;rw[ag]at aa;simp only[Qan,Qb,simprocAttr,am,ae];refine Qf (λq=>?_) (λq=>?_)
  ·have q:j<t:=by have:=Lg q;omega
   have e1:IntKind.i64.wrap (8 * (j:Int))=8 * (j:Int):=w64 (by unfold I64;omega);have e2:(0:Int)<=8 * (j:Int):=by omega
   have e3:(8 * (j:Int)).toNat=8 * j:=by omega
   have e4:IntKind.i64.wrap ((j:Int)+1)=((j+1:Nat):Int):=by rw[w64 (by unfold I64;omega)];omega
   have av:IntKind.i64.bits=64:=rfl;obtain⟨va,aN,rfl⟩:=aa.slc;simp only[Qam,Qb,simprocAttr,ag,aq,ae,e1,e2,e3,av];refine Y8 (ms:=[.int .u8 (IntKind.u8.wrap (N.fdiv (2 ^ (min (8 * j) 64))))]) (m:=1) (aa.go ac ((Ext.refl H').push _)) (ak.push _) (ac.push _) (QnZ (by rw[Qc,Lc rfl])) rfl rfl (by rw[Qo6];omega) (by rw[Qo6];omega) ?_;intro aM H3 aE ah;simp only[Qb,simprocAttr,ae,e4];refine⟨t - (j+1),by omega,j+1,by omega,rfl,ah.x,ah.w,?_,?_,?_,?_,?_,?_⟩
   all_goals simp only[Qg,simprocAttr,an,ao,aq,am]
   rw[QCp,Lh,Jg];exact aE
  ·have q:j=t:=by have:=Ll q;omega
   subst q;simp only[Qb,simprocAttr];exact QGU al aB aj az aA aC (by rw[Qo6];omega) ab ak ac g3 an ag ao aa
end
theorem QFT {x:Lf}{op:Int}{va:Value}{H:Qa}(q:H.Wf)(aa:x.At H):∃H1,(H.push (.cells x.cells 45 false)).push (.cells [.int .i64 op,va] 24 false)=H1∧H1.get H.next=some (.cells x.cells 45 false)∧H1.get (H.next+1)=some (.cells [.int .i64 op,va] 24 false)∧Ext H H1∧H1.Wf∧x.At H1∧H1.next=H.next+2:=
 ⟨_,rfl,by rw[Qc,Le (by rw[Qd];omega),Qc,Lc rfl],by rw[Qc,Lc (by rw[Qd])],((Ext.refl H).push _).push _,(q.push _).push _,aa.ext q (((Ext.refl H).push _).push _),rfl⟩
theorem QzQ {x:Lf}{op:Int}{va:Value}{l:List Ar}(H:Qa)(ai:x.At H)(ab:Qt H va l)(ah:l.length<=1000)(aB:∀a∈l,I64 a.n)(aR:x.f.slots.length=l.length):
  Qe prog 86 [.agg x.cells.toArray,.agg #[.int .i64 op,va]] H λv H'=>Gx 1 5 H H' v (Qo7 x.f op l).length (bys (Qo7 x.f op l))∧Ext H H':=by
 refine QjG λac=>?_;have ay:(Value.agg x.cells.toArray).cells.toList=x.cells:=rfl;have ak:x.cells.take 10=x.cells:=rfl;have av:10<=x.cells.length:=Lb _;have aI:=QpW x.f.slots 5;have aQ:=QpW x.f.slots 7;obtain⟨W,q⟩:∃W,W=Qo7 x.f op l:=⟨_,rfl⟩;rw[<- q];unfold Qo7 at q;have aP:=ab;obtain⟨a0,cap,rfl,aA⟩:=id ab;obtain⟨Hb,ax,g2,g3,ae,aK,ar,aT⟩:=QFT (op:=op) (va:=.slice a0 l.length cap) ac ai;simp only[Qb8,ay,Qb,simprocAttr,ax,g2,Lw,ak];refine⟨av,?_⟩;refine(XC x 5 Hb ar).thenW ?_;rintro _ _ am aU ⟨rfl,k,rfl⟩;simp only[Ql]at am;have aj:=(Ext.refl Hb).up (m:=k) am;generalize Qa.up Hb k=H2 at *;have k2:=(aj.get H.next (by omega)).trans g2;simp only[Qb,simprocAttr,k2,Lw,ak];refine⟨av,?_⟩;refine(XC x 7 H2 (ar.ext aK aj)).thenW ?_;rintro _ _ an aq ⟨rfl,au,rfl⟩;simp only[Ql]at an;have ad:=aj.up (m:=au) an;generalize Qa.up H2 au=H3 at *;have k3:=(ad.get (H.next+1) (by omega)).trans g3;simp only[Qb,simprocAttr,Ft];cases h:decide (0<=Qp x.f.slots 5) with
 | false=>
  rw[Le (Ll h),LH]at q;simp only[Qb,simprocAttr];refine QGU ae (by omega) ac ab (s:=Qp x.f.slots 7) (w:=[]) (v:=.slice none 0 0) ah (by omega) (by simp) (by rw[q];rfl) ad aq g3 ?_ ?_ ?_ (.inl ⟨rfl,rfl,rfl⟩)
  all_goals simp only[Qg,simprocAttr]
 | true=>
  have az:0<=Qp x.f.slots 5:=Lg h;rw[Lc az]at q;have aa:Qo4 x.f op l=if(l[(Qp x.f.slots 5).toNat]?.getD Q7).k=3 then(WR (l[(Qp x.f.slots 5).toNat]?.getD Q7).n (QW op l).1 (QW op l).2).1 else(l[(Qp x.f.slots 5).toNat]?.getD Q7).n:=rfl
  obtain⟨i,hi⟩:∃i:Nat,Qp x.f.slots 5=i:=⟨(Qp x.f.slots 5).toNat,by omega⟩;rw[hi]at aI aa ⊢;have aF:i<l.length:=by omega
  obtain⟨a,ag⟩:∃a,l[i]? = some a:=⟨_,La aF⟩;have d1:(0:Int)<=i∧(i:Int)<l.length:=by omega
  have d3:(i:Int).toNat=i:=by omega
  have aE:l[(i:Int).toNat]?.getD Q7=a:=by rw[d3,ag];rfl
  rw[aE]at aa;have aC:I64 a.n:=aB a (Ln ag);have aO:=Qf6 a.n (QW op l).1 (QW op l).2 aC;have aN:=λH2 (aM:Ext H H2)=>Qed op _ l H2 (ab.ext ac aM) ah;obtain⟨b,e,ro,rfl,al⟩:=aA (by omega);have aD:H3.get b=some (.cells (Qh l) e ro):=by rw[(ae.trans ad).get b (ac.lt al)];exact al
  have aG:(Qh l)[i * 11]? = some (.int .i64 a.k):=by
   have:=We l i a ag;have h:=congrArg (λz=>z[0]?) this;simpa[Ar.cells,Nl,Nk] using h
  have aH:(Qh l)[i * 11+10]? = some (.int .i64 a.n):=by
   have:=We l i a ag;have h:=congrArg (λz=>z[10]?) this;simpa[Ar.cells,Nl,Nk] using h
  obtain⟨N,aw⟩:∃N,N=Qo4 x.f op l:=⟨_,rfl⟩;rw[<- aw]at aa q;simp only[Qap,Qb,simprocAttr,k3,d1,d3,aD,aG,aH];cases c:a.k==3 with
  | false=>
   rw[Le (by simpa using c)]at aa;rw[aa]at q;simp only[Qb,simprocAttr,c];refine QGV ae (by omega) ac ai ab ah rfl (by omega) q ad aq g2 g3 ?_ ?_ ?_ ?_ ?_
   all_goals simp only[Qg,simprocAttr]
  | true=>
   rw[Lc (by simpa using c)]at aa;simp only[Qao,Qb,simprocAttr,c,k3,Lw,List.take];refine(aN H3 (ae.trans ad)).thenW ?_;rintro _ _ ao aJ ⟨rfl,k4,rfl⟩;simp only[Ql]at ao;have aL:=ad.up (m:=k4) ao;generalize Qa.up H3 k4=H4 at *;simp only[Qb,simprocAttr];refine(aO H4).thenW ?_;rintro _ H4 aS aV ⟨rfl,rfl⟩;rw[aa]at q;simp only[Qb,simprocAttr];refine QGV ae (by omega) ac ai ab ah rfl (by omega) q aL aJ g2 g3 ?_ ?_ ?_ ?_ ?_
   all_goals simp only[Qg,simprocAttr]
def QFU (f:Fm)(l:List Ar):Int:=if f.digit<0 then Wj (arS f l 1).r else f.digit
def Qo8 (f:Fm)(l:List Ar):List Ld:=if 0<=Qp f.slots 2 then(QcM (QFU f l) (arS f l 2)).1 else[⟨[],0,0⟩]
section
variable {x:Lf} {op:Int} {va:Value} {l:List Ar} {H:Qa}
abbrev KLd (H:Qa)(W:List Ld):Env->Qa->Prop:=Rt prog Tryz.f87 H λv H'=>Wa 120 H H' v W∧Ext H H'
theorem QGW {Hb:Qa}(an:Ext H Hb)(aq:H.next+2<=Hb.next)(ab:H.Wf)(al:x.At H)(ah:Qt H va l)(ai:l.length<=1000)(aj:x.f.slots.length=l.length){W:List Ld}{mid:Int}(ag:W=(QcM mid (arS x.f l 2)).1){A:Env}{H1:Qa}(aa:Ext Hb H1)(av:H1.Wf)(g2:Hb.get H.next=some (.cells x.cells 45 false))(g3:Hb.get (H.next+1)=some (.cells [.int .i64 op,va] 24 false))(r2:A 2=.pointer (some ⟨H.next,0,none⟩))(r3:A 3=.pointer (some ⟨H.next+1,0,none⟩))(r5:A 5=.int .i64 mid):
  Qm prog Ju ⟨KLd H W,WL⟩ (KLd H W) A H1:=by
 have ae:x.cells.take 10=x.cells:=rfl;have ao:10<=x.cells.length:=Lb _;have k2:=(aa.get H.next (by omega)).trans g2;have k3:=(aa.get (H.next+1) (by omega)).trans g3;have q:=an.trans aa;simp only[Ju,Qb,simprocAttr,r2,r3,r5,k2,k3,Lw,ae,List.take];refine⟨ao,?_⟩;refine(Qlc 2 H1 (al.ext ab q) (ah.ext ab q) ai aj).thenW ?_;rintro _ H2 ar aw ⟨rfl,ac⟩;simp only[Qb,simprocAttr,r5];refine(QCo mid (arS x.f l 2) H2).thenW ?_;rintro _ H3 au ax ⟨v,rfl,ak,am⟩;have ad:=(q.trans ac).trans am;simp only[Qb,simprocAttr,Qbl];exact .mk ad.next ⟨by rw[ag];exact ak.down (q.trans ac).next,ad⟩
end
theorem QzR {x:Lf}{op:Int}{va:Value}{l:List Ar}(H:Qa)(aj:x.At H)(ac:Qt H va l)(ah:l.length<=1000)(ai:x.f.slots.length=l.length):
  Qe prog 87 [.agg x.cells.toArray,.agg #[.int .i64 op,va]] H λv H'=>Wa 120 H H' v (Qo8 x.f l)∧Ext H H':=by
 refine QjH λae=>?_;have av:(Value.agg x.cells.toArray).cells.toList=x.cells:=rfl;have al:x.cells.take 10=x.cells:=rfl;have ar:10<=x.cells.length:=Lb _;have aA:x.cells[6]? = some (.int .i64 x.f.digit):=rfl;obtain⟨W,aa⟩:∃W,W=Qo8 x.f l:=⟨_,rfl⟩;rw[<- aa];unfold Qo8 QFU at aa;have aH:=ac;obtain⟨a0,cap,rfl⟩:=Qu ac;obtain⟨Hb,au,g2,g3,ag,ax,aq,aJ⟩:=QFT (op:=op) (va:=.slice a0 l.length cap) ae aj;simp only[Qb9,av,Qb,simprocAttr,au,g2,Lw,al];refine⟨ar,?_⟩;refine(QxJ x Hb aq).thenW ?_;rintro _ _ am ao ⟨rfl,k,rfl⟩;simp only[Ql]at am;have ab:=(Ext.refl Hb).up (m:=k) am;generalize Qa.up Hb k=H2 at *;have k2:=(ab.get H.next (by omega)).trans g2;have k3:=(ab.get (H.next+1) (by omega)).trans g3;simp only[Qb,simprocAttr];cases h:decide (0<=Qp x.f.slots 2) with
 | false=>
  rw[Le (Ll h)]at aa;simp only[Qb,simprocAttr,Qbl];have ak:=ag.trans ab;refine .mk (ak.push _).next ⟨?_,ak.push _⟩;rw[aa];exact QBa (w:=⟨[],0,0⟩) ao ak (.inl ⟨rfl,rfl,rfl⟩)
 | true=>
  rw[Lc (Lg h)]at aa;simp only[Qaq,Qb,simprocAttr,k2,aA];cases ad:decide (x.f.digit<0) with
  | false=>
   rw[Le (Ll ad)]at aa;simp only[Qb,simprocAttr,ad];refine QGW ag (by omega) ae aj ac ah ai aa ab ao g2 g3 ?_ ?_ ?_
   all_goals simp only[Qg,simprocAttr]
  | true=>
   rw[Lc (Lg ad)]at aa;simp only[Qb,simprocAttr,ad,k2,k3,Lw,al,List.take];refine⟨ar,?_⟩;refine(Qlc 1 H2 (aq.ext ax ab) (ac.ext ae (ag.trans ab)) ah ai).thenW ?_;rintro _ H3 aI aK ⟨rfl,ay⟩;have q:=Qej (arS x.f l 1).r;generalize aG:arS x.f l 1=a1 at *;obtain⟨aC,⟨aB,aD⟩,⟨⟨aE,aF⟩,⟨aL,aM⟩,sc,d,sz⟩,n⟩:=a1;simp only[Rg.cells]at q;simp only[Qb,simprocAttr,Ar.cells,Rg.cells,Mm.cells];refine(q H3).thenW ?_;rintro _ _ an aw ⟨rfl,k4,rfl⟩;simp only[Ql]at an;have az:=(ab.trans ay).up (m:=k4) an;generalize Qa.up H3 k4=H4 at *;simp only[Qb,simprocAttr];refine QGW ag (by omega) ae aj ac ah ai aa az aw g2 g3 ?_ ?_ ?_
   all_goals simp only[Qg,simprocAttr]
theorem QhF (n:Int)(aa:0<=n∧n<2)(H:Qa):Qe prog 368 [.int .i64 n] H λu H'=>u=.bool true∧H'=H:=by
 refine QkW λab=>?_;simp only[Qdo,Qb,simprocAttr];cases h:n==0 with
 | true=>
  simp only[Qb,simprocAttr,h,Qco];exact .mk (Lb _) ⟨rfl,rfl⟩
 | false=>
  have q:(n==1)=true:=by
   rw[LC]at h;rw[L0];omega
  simp only[Qb,simprocAttr,h,q,Qco];exact .mk (Lb _) ⟨rfl,rfl⟩
theorem QxX (n:Int)(H:Qa):Qe prog 269 [.int .i64 n] H λu H'=>u=.int .i64 (K3 n)∧H'=H:=by
 refine QlV λag=>?_;unfold K3;simp only[QdY,Qb,simprocAttr];cases q:n==1 with
 | true=>
  simp only[Qb,simprocAttr,q,ZO];exact .mk (Lb _) ⟨by rw[Lc (by simpa using q)],rfl⟩
 | false=>
  have ac:¬n=1:=by simpa using q
  simp only[Qcj,Qb,simprocAttr,q];cases ab:n==4 with
  | true=>
   simp only[Qb,simprocAttr,ab,ZO];exact .mk (Lb _) ⟨by rw[Le ac,Lc (by simpa using ab)],rfl⟩
  | false=>
   have ad:¬n=4:=by simpa using ab
   simp only[Qb,simprocAttr,ab];cases aa:n==2 with
   | true=>
    simp only[Qb,simprocAttr,aa,ZO];exact .mk (Lb _) ⟨by rw[Le ac,Le ad,Lc (by simpa using aa)],rfl⟩
   | false=>
    have ae:¬n=2:=by simpa using aa
    simp only[Qb,simprocAttr,aa,ZO];exact .mk (Lb _) ⟨by rw[Le ac,Le ad,Le ae],rfl⟩
theorem QxY {y:Vx}(h:y.Ok)(H:Qa):Qe prog 268 [.agg y.cells.toArray] H λu H'=>u=.int .i64 0∧Ext H H':=by
 refine Qit λaq=>?_;obtain⟨aa,ab,ac,ai,ad,aj,ae,ag⟩:=h;obtain⟨r,x,b,mp,w,v,l,pre⟩:=y;simp only at aa ab ac ai ad aj ae ag;have ak:=QhF r aa;have al:=QhF x ab;have am:=QhF b ac;have an:=QhF w ad;have ao:=QhF l ae;have e1:decide (mp<1)=false:=Lj (by omega);have e2:decide (3<mp)=false:=Lj (by omega);have e3:decide (v<0)=false:=Lj (by omega);have e4:decide (15<v)=false:=Lj (by omega);simp only[Vx.cells,QbF,Qb,simprocAttr];generalize q:Qa.push H _=H1;have ah:Ext H H1:=by rw[<- q];exact(Ext.refl H).push _
 have g0:H1.get H.next=some (.cells [.int .i64 r,.int .i64 x,.int .i64 b,.int .i64 mp,.int .i64 w,.int .i64 v,.int .i64 l,.int .i64 pre] 146 false):=by rw[<- q,Qc,Lc rfl]
 clear q;refine(ak H1).thenW ?_;rintro _ H1 _ _ ⟨rfl,rfl⟩;simp only[Qb,simprocAttr,g0];refine(al H1).thenW ?_;rintro _ H1 _ _ ⟨rfl,rfl⟩;simp only[Qb,simprocAttr,g0];refine(am H1).thenW ?_;rintro _ H1 _ _ ⟨rfl,rfl⟩;simp only[Qb,simprocAttr,g0];refine(an H1).thenW ?_;rintro _ H1 _ _ ⟨rfl,rfl⟩;simp only[Qb,simprocAttr,g0];refine(ao H1).thenW ?_;rintro _ H1 _ _ ⟨rfl,rfl⟩;simp only[Qb,simprocAttr,g0,e1,e2,e3,e4,B4];rcases ag with rfl | rfl | rfl | rfl
 all_goals simp only[VG,Qb,simprocAttr,g0,Int.reduceBEq,Qhs]
 all_goals exact .mk ah.next ⟨rfl,ah⟩
theorem QqZ {y:Vx}(h:y.Ok)(z:Int)(az:0<=z∧z<2)(H:Qa):Qe prog 270 [.agg y.cells.toArray,.int .i64 z] H λv H'=>Gx 1 5 H H' v 3 (bys (Vk {y with w:=z}))∧Ext H H'∧∃a,v=.slice a 3 3:=by
 refine Qiu λay=>?_;obtain⟨am,an,ao,aq,ar,au,av,aw⟩:=h;have ax:=QrK y.pre;have ab:=QxX y.pre;have ac:∀z:Int,0<=z->z<256->IntKind.u8.wrap z=z:=λz a b=>by
  unfold IntKind.wrap;simp[IntKind.bits,IntKind.signed];omega
 unfold Vk vbm vbn;generalize K3 y.pre=pp at *;obtain⟨r,x,b,mp,w,v,l,pre⟩:=y;simp only at am an ao aq ar au av aw ab;have a1:IntKind.i64.wrap (1 - r)=1 - r:=w64 (by unfold I64;omega);have a2:IntKind.i64.wrap (128 * (1 - r))=128 * (1 - r):=w64 (by unfold I64;omega);have a3:IntKind.i64.wrap (1 - x)=1 - x:=w64 (by unfold I64;omega);have a4:IntKind.i64.wrap (64 * (1 - x))=64 * (1 - x):=w64 (by unfold I64;omega);have a5:IntKind.i64.wrap (128 * (1 - r)+64 * (1 - x))=128 * (1 - r)+64 * (1 - x):=w64 (by unfold I64;omega);have a6:IntKind.i64.wrap (1 - b)=1 - b:=w64 (by unfold I64;omega);have a7:IntKind.i64.wrap (32 * (1 - b))=32 * (1 - b):=w64 (by unfold I64;omega);have a8:IntKind.i64.wrap (128 * (1 - r)+64 * (1 - x)+32 * (1 - b))=128 * (1 - r)+64 * (1 - x)+32 * (1 - b):=w64 (by unfold I64;omega);have a9:IntKind.i64.wrap (128 * (1 - r)+64 * (1 - x)+32 * (1 - b)+mp)=128 * (1 - r)+64 * (1 - x)+32 * (1 - b)+mp:=w64 (by unfold I64;omega);have b0:=ac (128 * (1 - r)+64 * (1 - x)+32 * (1 - b)+mp) (by omega) (by omega);have ad:IntKind.i64.wrap (128 * z)=128 * z:=w64 (by unfold I64;omega);have ae:IntKind.i64.wrap (15 - v)=15 - v:=w64 (by unfold I64;omega);have ag:IntKind.i64.wrap (8 * (15 - v))=8 * (15 - v):=w64 (by unfold I64;omega);have ah:IntKind.i64.wrap (128 * z+8 * (15 - v))=128 * z+8 * (15 - v):=w64 (by unfold I64;omega);have ai:IntKind.i64.wrap (4 * l)=4 * l:=w64 (by unfold I64;omega);have aj:IntKind.i64.wrap (128 * z+8 * (15 - v)+4 * l)=128 * z+8 * (15 - v)+4 * l:=w64 (by unfold I64;omega);have ak:IntKind.i64.wrap (128 * z+8 * (15 - v)+4 * l+pp)=128 * z+8 * (15 - v)+4 * l+pp:=w64 (by unfold I64;omega);have al:=ac (128 * z+8 * (15 - v)+4 * l+pp) (by omega) (by omega);simp only[Vx.cells,QbG,Qb,simprocAttr,a1,a2,a3,a4,a5,a6,a7,a8,a9,b0,ad,ae,ag,ah,ai,aj];have q:=(Ext.refl H).push (.cells [.int .i64 r,.int .i64 x,.int .i64 b,.int .i64 mp,.int .i64 w,.int .i64 v,.int .i64 l,.int .i64 pre] 146 false);generalize Qa.push H _=H1 at *;have bl:∀ (m:Nat) (n:Int),Qi m 6 (.int .i64 n)=true:=λm n=>by simp[Qi,Ab.plain]
 refine⟨bl _ _,bl _ _,bl _ _,bl _ _,bl _ _,bl _ _,(ab H1).thenW ?_⟩;rintro _ H1 _ _ ⟨rfl,rfl⟩;simp only[Qb,simprocAttr,ak,al];refine⟨λ_ _=>rfl,?_⟩;have aa:=q.push (.cells [.int .u8 196,.int .u8 (128 * (1 - r)+64 * (1 - x)+32 * (1 - b)+mp),.int .u8 (128 * z+8 * (15 - v)+4 * l+pp)] 5 false);simp only[Qb,simprocAttr,Qht];refine .mk aa.next ⟨.inr ⟨_,_,rfl,q.next,?_,rfl,.inl rfl⟩,aa,_,rfl⟩;rw[Qc,Lc rfl,Hu 128,Hu 64,Hu 32,Hu 128,Hu 8,Hu 4];rfl
section
variable {H:Qa} {W:List (List Int)}
abbrev KV2 (H:Qa)(W:List (List Int)):Env->Qa->Prop:=Rt prog Tryz.f129 H λu H'=>∃v,u=.tuple #[v,.int .i64 0]∧Zu 27 H H' v W∧Ext H H'
theorem QGX {y:Vx}(h:y.Ok)(any:Bool){ws:List (List Int)}(aK:ws.length<=5){v:Value}{A:Env}{Hb H1:Qa}(aO:Hb.next=H.next+1)(aA:Zu 27 Hb H1 v ws)(ad:Ext Hb H1)(aD:Ext H H1)(aC:H1.Wf)(ai:H1.get H.next=some (.cells y.cells 146 false))(r1:A 1=.bool any)(r2:A 2=.pointer (some ⟨H.next,0,none⟩))(aG:A 7=v)(aa:W=ws++([Vk y]++(bif any then[Vk {y with w:=1}] else[]))):
  Qm prog XX ⟨KV2 H W,WL⟩ (KV2 H W) A H1:=by
 have aP:=ad.next;have ae:=QqZ h y.w h.w;have aq:=QqZ h 1 (by decide);have ay:{y with w:=y.w}=y:=rfl;rw[ay]at ae;obtain⟨ab,ag⟩:∃ab,ab=Vk y:=⟨_,rfl⟩;obtain⟨ac,ah⟩:∃ac,ac=Vk {y with w:=1}:=⟨_,rfl⟩;have aE:ab.length=3:=by rw[ag];rfl
 have aF:ac.length=3:=by rw[ah];rfl
 rw[<- ag]at ae aa;rw[<- ah]at aq aa;clear ag ah;obtain⟨r,x,b,mp,w,aJ,l,pre⟩:=y;simp only[Vx.cells]at ai ae aq;simp only[XX,Qb,simprocAttr,r1,r2,aG,ai];refine(ae H1).thenW ?_;rintro aQ H2 aL am ⟨ak,av,a2,rfl⟩
 replace ak:Gx 1 5 H1 H2 (.slice a2 3 3) ab.length (bys ab):=by rw[aE];exact ak
 simp only[Qb,simprocAttr];refine QkH (H0:=Hb) (bs:=ab) ((aA.go aC av).go am ((Ext.refl H2).push _)) ((ad.trans av).push _) (am.push _) ((ak.go am ((Ext.refl H2).push _)).down (by omega)) (Qf2 H2 _) (by omega) (by omega) ?_;intro aH H4 au q;have az:H4.get H.next=some (.cells [.int .i64 r,.int .i64 x,.int .i64 b,.int .i64 mp,.int .i64 w,.int .i64 aJ,.int .i64 l,.int .i64 pre] 146 false):=by rw[(q.x).get _ (by omega),<- ad.get _ (by omega)];exact ai
 have ao:Ext H H4:=⟨by have:=q.x.next;omega,λid aj=>by rw[q.x.get id (by omega),<- ad.get id (by omega)];exact aD.get id aj⟩;cases any with
 | false=>
  rw[Ls,Na]at aa;simp only[Qb,simprocAttr,r1,Qcd];exact .mk ao.next ⟨aH,rfl,by rw[aa];exact au.down (by omega),ao⟩
 | true=>
  rw[Lq]at aa;simp only[Qb,simprocAttr,r1,r2,az];refine(aq H4).thenW ?_;rintro aR H6 aN an ⟨al,aw,a6,rfl⟩
  replace al:Gx 1 5 H4 H6 (.slice a6 3 3) ac.length (bys ac):=by rw[aF];exact al
  simp only[Qb,simprocAttr];have aM:=q.x.next;refine QkH (H0:=Hb) (bs:=ac) ((au.go q.w aw).go an ((Ext.refl H6).push _)) ((q.x.trans aw).push _) (an.push _) ((al.go an ((Ext.refl H6).push _)).down (by omega)) (Qf2 H6 _) (by rw[Lh,Bb];omega) (by rw[Lh,Bb];omega) ?_;intro aI H7 aB ar;have ax:Ext H H7:=⟨by have:=ar.x.next;omega,λid aj=>by rw[ar.x.get id (by omega),<- q.x.get id (by omega)];exact ao.get id aj⟩;simp only[Qb,simprocAttr,Qcd];exact .mk ax.next ⟨aI,rfl,by rw[aa,<- LQ];exact aB.down (by omega),ax⟩
theorem QGY {y:Vx}(h:y.Ok)(any:Bool){A:Env}{Hb H1:Qa}(au:Hb.next=H.next+1)(ac:Ext Hb H1)(ax:Ext H H1)(av:H1.Wf)(aa:H1.get H.next=some (.cells y.cells 146 false))(r1:A 1=.bool any)(r2:A 2=.pointer (some ⟨H.next,0,none⟩))(ae:W=(if(y.x=0∧y.b=0∧y.w=0)∧y.mp=1 then[[197,vb2 y]] else[])++([Vk y]++(bif any then[Vk {y with w:=1}] else[]))):
  Qm prog J4 ⟨KV2 H W,WL⟩ (KV2 H W) A H1:=by
 have bc:=ac.next;have ar:=aa;have ao:vb2 y=(1 - y.r) * 128+(15 - y.v) * 8+y.l * 4+K3 y.pre:=rfl;have aJ:=QrK y.pre;have aD:=h.r;have aE:=h.v;have aC:=h.l;have aq:=λA=>QGX (H:=H) (W:=W) (A:=A) h any (ws:=[]) (by simp) au (Zu.nil (e:=27) (by decide) Hb H1) ac ax av aa;have ab:∀A,A 1=.bool any->A 2=.pointer (some ⟨H.next,0,none⟩)->A 7=.slice none 0 0->¬ ((y.x=0∧y.b=0∧y.w=0)∧y.mp=1)->Qm prog XX ⟨KV2 H W,WL⟩ (KV2 H W) A H1:=λA a1 a2 a7 aI=>aq A a1 a2 a7 (by rw[ae,Le aI]);obtain⟨q,ah⟩:∃q,q=vb2 y:=⟨_,rfl⟩;have aB:(y.x=0∧y.b=0∧y.w=0)∧y.mp=1->∀ (A:Env) (H4:Qa) (an:Value),Zu 27 Hb H4 an [[197,q]]->Ext Hb H4->Ext H H4->H4.Wf->A 1=.bool any->A 2=.pointer (some ⟨H.next,0,none⟩)->A 7=an->Qm prog XX ⟨KV2 H W,WL⟩ (KV2 H W) A H4:=by
  intro aQ A H4 an aK az aN al a1 a2 a7;refine QGX h any (ws:=[[197,q]]) (by simp) au aK az aN al (by rw[az.get _ (by omega),<- ac.get _ (by omega)];exact ar) a1 a2 a7 (by rw[ae,Lc aQ,ah])
 rw[<- ah]at ao;clear ah ae aq ar h;obtain⟨r,x,b,mp,w,v,l,pre⟩:=y;simp only[Vx.cells]at aa;simp only at aB ab ao aJ aD aE aC;simp only[J4,Qb,simprocAttr,r1,r2,aa];cases ag:x==0 with
 | false=>
  have am:¬x=0:=by simpa using ag
  simp only[Qb,simprocAttr,ag];refine ab _ ?_ ?_ ?_ (λh=>am h.1.1)
  all_goals simp only[Qg,simprocAttr,r1,r2]
 | true=>
  have am:x=0:=by simpa using ag
  simp only[Qb,simprocAttr,r2,aa];cases e2:b==0 with
  | false=>
   have ai:¬b=0:=by simpa using e2
   simp only[Qb,simprocAttr,e2];refine ab _ ?_ ?_ ?_ (λh=>ai h.1.2.1)
   all_goals simp only[Qg,simprocAttr,r1,r2]
  | true=>
   have ai:b=0:=by simpa using e2
   simp only[Qb,simprocAttr,r2,aa];cases e3:w==0 with
   | false=>
    have ak:¬w=0:=by simpa using e3
    simp only[Qb,simprocAttr,e3];refine ab _ ?_ ?_ ?_ (λh=>ak h.1.2.2)
    all_goals simp only[Qg,simprocAttr,r1,r2]
   | true=>
    have ak:w=0:=by simpa using e3
    simp only[Qb,simprocAttr,r2,aa];cases e4:mp==1 with
    | false=>
     have aj:¬mp=1:=by simpa using e4
     simp only[Qb,simprocAttr,e4];refine ab _ ?_ ?_ ?_ (λh=>aj h.2)
     all_goals simp only[Qg,simprocAttr,r1,r2]
    | true=>
     have aj:mp=1:=by simpa using e4
     have aS:IntKind.i64.wrap (1 - r)=1 - r:=w64 (by unfold I64;omega);have aT:IntKind.i64.wrap (128 * (1 - r))=128 * (1 - r):=w64 (by unfold I64;omega);have aU:IntKind.i64.wrap (15 - v)=15 - v:=w64 (by unfold I64;omega);have aV:IntKind.i64.wrap (8 * (15 - v))=8 * (15 - v):=w64 (by unfold I64;omega);have aW:IntKind.i64.wrap (128 * (1 - r)+8 * (15 - v))=128 * (1 - r)+8 * (15 - v):=w64 (by unfold I64;omega);have aX:IntKind.i64.wrap (4 * l)=4 * l:=w64 (by unfold I64;omega);have aY:IntKind.i64.wrap (128 * (1 - r)+8 * (15 - v)+4 * l)=128 * (1 - r)+8 * (15 - v)+4 * l:=w64 (by unfold I64;omega);have aZ:IntKind.i64.wrap (128 * (1 - r)+8 * (15 - v)+4 * l+K3 pre)=128 * (1 - r)+8 * (15 - v)+4 * l+K3 pre:=w64 (by unfold I64;omega);have ba:IntKind.u8.wrap (128 * (1 - r)+8 * (15 - v)+4 * l+K3 pre)=q:=by
      unfold IntKind.wrap;simp[IntKind.bits,IntKind.signed];omega
     simp only[Qbu,Qb,simprocAttr,e4,r2,aa,aS,aT,aU,aV,aW,aX,aY];refine⟨by simp[Qi,Ab.plain],by simp[Qi,Ab.plain],by simp[Qi,Ab.plain],?_⟩;refine(QxX pre H1).thenW ?_;rintro _ H1 _ _ ⟨rfl,rfl⟩;simp only[Qb,simprocAttr];refine⟨λ_ _=>rfl,?_⟩;generalize K3 pre=pp at *;rw[aZ,ba];have ay:=Ext.refl H1;have al:=av;have aO:=(Ext.refl H1).push (.cells [.int .u8 197,.int .u8 q] 5 false);have aw:=al.push (.cells [.int .u8 197,.int .u8 q] 5 false);have aF:Gx 1 5 H1 (H1.push (.cells [.int .u8 197,.int .u8 q] 5 false)) (.slice (some ⟨H1.next,0,none⟩) 2 2) 2 (bys [197,q]):=.inr ⟨_,_,rfl,Lb _,by rw[Qc,Lc rfl];rfl,rfl,.inl rfl⟩;have bb:=ay.next;have aH:(H1.push (.cells [.int .u8 197,.int .u8 q] 5 false)).next=H1.next+1:=rfl;generalize H1.push (.cells [.int .u8 197,.int .u8 q] 5 false)=H5 at *;have aM:=ay.trans aO;have aA:=(Ext.refl H5).push (.cells [.slice (some ⟨H1.next,0,none⟩) 2 2] 27 false);refine QkH (H0:=Hb) (bs:=[197,q]) (Zu.nil (e:=27) (by decide) Hb _) ((ac.trans aM).trans aA) (aw.push _) ((aF.go aw aA).down (by omega)) (by rw[<- aH];exact Qf2 H5 _) (by simp) (by simp) ?_;intro aR H7 aL ad;have aP:Ext H H7:=⟨by have:=ad.x.next;omega,λid aG=>by rw[ad.x.get id (by omega),<- ac.get id (by omega)];exact ax.get id aG⟩;simp only[Ka,Ym,YN,Zg,Qkb];refine aB ⟨⟨am,ai,ak⟩,aj⟩ _ H7 aR aL ad.x aP ad.w ?_ ?_ ?_
     all_goals simp only[Qg,simprocAttr,r1,r2]
end
theorem QCq {y:Vx}(h:y.Ok)(any:Bool)(H:Qa):Qe prog 129 [.agg y.cells.toArray,.bool any] H λu H'=>∃v,u=.tuple #[v,.int .i64 0]∧Zu 27 H H' v (Qrk y any)∧Ext H H':=by
 refine QkQ λaq=>?_;obtain⟨q,ac⟩:∃q:Vx,q=bif any then {y with w:=0} else y:=⟨_,rfl⟩
 have al:q.Ok:=by rw[ac];cases any with | true=>exact h.setW 0 (by decide) | false=>exact h
 have eL:=QA2 y any q ac;have aa:q.cells=bif any then[.int .i64 y.r,.int .i64 y.x,.int .i64 y.b,.int .i64 y.mp,.int .i64 0,.int .i64 y.v,.int .i64 y.l,.int .i64 y.pre] else y.cells:=by rw[ac];cases any<;>rfl
 have am:=QxY h;have ai:=(Ext.refl H).push (.cells y.cells 146 false);have ar:=aq.push (.cells y.cells 146 false);have ag:(H.push (.cells y.cells 146 false)).get H.next=some (.cells y.cells 146 false):=by rw[Qc,Lc rfl]
 have ao:(H.push (.cells y.cells 146 false)).next=H.next+1:=rfl;obtain⟨W,ae⟩:∃W,W=Qrk y any:=⟨_,rfl⟩;rw[<- ae]at eL ⊢;clear ae ac h;obtain⟨r,x,b,mp,w,v,l,pre⟩:=y;simp only[Vx.cells]at ai ar ag ao am aa;simp only[Vx.cells,Qdi,Qb,simprocAttr];generalize H.push _=H1 at *;refine(am H1).thenW ?_;rintro _ H2 aw ah ⟨rfl,ak⟩;have ad:=(ak.get H.next (by omega)).trans ag;have aj:=ai.trans ak;simp only[Qb,simprocAttr,LO,L8];cases any with
 | true=>
  rw[Lq]at aa;simp only[J5,Qb,simprocAttr,ad];generalize ab:Qa.set H2 _ _=H3;have av:Ext H H3:=by rw[<- ab];exact aj.set (Lb _) _
  have au:H3.Wf:=by rw[<- ab];exact ah.set ad _
  have an:H3.get H.next=some (.cells q.cells 146 false):=by rw[<- ab,Qn,Lc rfl];exact congrArg (λc=>some (Blk.cells c 146 false)) aa.symm
  have ax:H3.next=H2.next:=by rw[<- ab];rfl
  clear ab;refine QGY (H:=H) (Hb:=⟨H.next+1,H3.tr⟩) al true rfl ⟨by show H.next+1<=H3.next;omega,λid _=>rfl⟩ av au an ?_ ?_ eL
  all_goals simp only[Qg,simprocAttr]
 | false=>
  rw[Ls]at aa;simp only[J5,Qb,simprocAttr];refine QGY (H:=H) (Hb:=⟨H.next+1,H2.tr⟩) al false rfl ⟨by show H.next+1<=H2.next;omega,λid _=>rfl⟩ aj ah (by rw[ad];exact congrArg (λc=>some (Blk.cells c 146 false)) aa.symm) ?_ ?_ eL
  all_goals simp only[Qg,simprocAttr]
def vxR (f:Fm)(l:List Ar)(r x b:Int):Vx:=⟨r,x,b,f.map,Qv3 f.w,Qo0 f l 3,f.l,f.pre⟩
def QcQ (f:Fm)(l:List Ar)(r x b:Int):List (List Int):=
 if f.vex=true then Qrk (vxR f l r x b) (f.w==-1)
 else(chF (Qea f.w r x b) l).map λn=>JW f.pre n++Kv f.map
theorem QFV (f:Fm)(l:List Ar)(s:Int):(arS f l s).r.n=Qo0 f l s:=by
 unfold arS Qo0;split<;>rfl
section
variable {x:Lf} {op:Int} {va:Value} {l:List Ar} {H:Qa} {r xx b:Int}
abbrev KHr (H:Qa)(W:List (List Int)):Env->Qa->Prop:=Rt prog Tryz.f88 H λv H'=>Zu 27 H H' v W∧Ext H H'
theorem QHV {Hb:Qa}(ac:Ext H Hb)(aF:H.next+2<=Hb.next)(ag:H.Wf)(aJ:Hb.Wf)(ar:x.At H)(am:Qt H va l)(an:l.length<=1000)(ao:x.f.slots.length=l.length)(aw:(vxR x.f l r xx b).Ok){W:List (List Int)}(al:W=Qrk (vxR x.f l r xx b) (x.f.w==-1)){A:Env}{k:Env->Qa->Prop}(g2:Hb.get H.next=some (.cells x.cells 45 false))(g3:Hb.get (H.next+1)=some (.cells [.int .i64 op,va] 24 false))(r2:A 2=.int .i64 r)(r3:A 3=.int .i64 xx)(r4:A 4=.int .i64 b)(r5:A 5=.pointer (some ⟨H.next,0,none⟩))(aj:A 6=.pointer (some ⟨H.next+1,0,none⟩)):
  Qm prog Zw ⟨KHr H W,WL⟩ k A Hb:=by
 have e3:x.cells[3]? = some (.int .i64 x.f.pre):=rfl;have e4:x.cells[4]? = some (.int .i64 x.f.map):=rfl;have aa:x.cells[7]? = some (.int .i64 x.f.w):=rfl;have ab:x.cells[9]? = some (.int .i64 x.f.l):=rfl;have ak:x.cells.take 10=x.cells:=rfl;have ax:10<=x.cells.length:=Lb _;simp only[Zw,Qb,simprocAttr,r2,r3,r4,r5,aj,g2,g3,e3,e4,aa,ab];rw[QAY (ik:=.i64) (a:=x.f.w) (b:=0) (by simp only[Qg,simprocAttr]) (by simp only[Qg,simprocAttr])];simp only[Qb,simprocAttr,r2,r3,r4,r5,aj,g2,g3,e3,e4,aa,ab,Lw,ak,List.take];have bl:∀ (m:Nat) (n:Int),Qi m 6 (.int .i64 n)=true:=λm n=>by simp[Qi,Ab.plain]
 refine⟨bl _ _,bl _ _,ax,⟨by omega,by omega⟩,(Qlc 3 Hb (ar.ext ag ac) (am.ext ag ac) an ao).thenW ?_⟩;rintro _ H2 aG aH ⟨rfl,q⟩;have ad:(arS x.f l 3).r.n=Qo0 x.f l 3:=QFV _ _ _;generalize aE:arS x.f l 3=a1 at *;obtain⟨aA,⟨az,aB⟩,⟨⟨aC,aD⟩,⟨aK,aL⟩,sc,d,sz⟩,n⟩:=a1;simp only at ad;have k2:=(q.get H.next (by omega)).trans g2;have ay:¬H.next=H2.next:=by have:=q.next;omega
 simp only[Qb,simprocAttr,Ar.cells,Rg.cells,Mm.cells,r5,k2,e3,aa,ab,ay,LN];refine⟨q.eqB,bl _ _,bl _ _,?_⟩;generalize ae:(Qa.push H2 _).set _ _=H3;have au:Ext H2 H3:=by rw[<- ae];exact((Ext.refl H2).push _).set (Lb _) _
 clear ae;have ah:=(ac.trans q).trans au;subst ad;refine(QCq aw (x.f.w==-1) H3).thenW ?_;rintro _ H5 _ aI ⟨v,rfl,aq,av⟩;simp only[Qb,simprocAttr,Jv];have ai:=ah.trans av;exact .mk ai.next ⟨by rw[al];exact aq.down ah.next,ai⟩
theorem QDX (aC:FOk x.f){Hb H1:Qa}(ax:Ext H Hb)(aU:H.next+2<=Hb.next){ns:List Int}(aZ:ns.length<=2)(aF:∀n∈ns,-1<=n∧n<=15)(ae:Ext Hb H1)(av:H1.Wf){v:Value}(ao:Gx 1 3 Hb H1 v ns.length (ints ns)){W:List (List Int)}(az:W=ns.map λn=>JW x.f.pre n++Kv x.f.map){A:Env}(g2:Hb.get H.next=some (.cells x.cells 45 false))(r5:A 5=.pointer (some ⟨H.next,0,none⟩))(aO:A 17=v):
  Qm prog Z5 ⟨KHr H W,WL⟩ (KHr H W) A H1:=by
 have e3:x.cells[3]? = some (.int .i64 x.f.pre):=rfl;have e4:x.cells[4]? = some (.int .i64 x.f.map):=rfl;have aV:=ae.next;obtain⟨va,ay,rfl⟩:=ao.slc;simp only[Z5,Qb,simprocAttr];refine Qo (λm A' H'=>∃j:Nat,j<=ns.length∧m=ns.length - j∧Ext H1 H'∧H'.Wf∧Zu 27 H1 H' (A' 18) ((ns.take j).map λn=>JW x.f.pre n++Kv x.f.map)∧A' 5=.pointer (some ⟨H.next,0,none⟩)∧A' 17=.slice va ns.length ay∧A' 19=.int .i64 j) ns.length ?_ ?_
 ·refine⟨0,by omega,rfl,.refl _,av,?_,?_,?_,?_⟩
  all_goals simp only[uxA,uxB,Nat.reduceBEq,r5,aO]
  ·exact Zu.nil (by decide) _ _
  ·rfl
 ·rintro m A' H' ⟨j,aR,rfl,aa,aJ,ab,aj,ai,ag⟩;simp only[Vt,Qb,simprocAttr,ai,ag];refine Qf (λq=>?_) (λq=>?_)
  ·have q:j<ns.length:=by have:=Lg q;omega
   obtain⟨b',c',aB,_,am,_,_⟩:∃b' c',Value.slice va ns.length ay=.slice (some ⟨b',0,none⟩) ns.length c'∧Hb.next<=b'∧H1.get b'=some (.cells (ints ns) 3 false)∧True∧True:=by
    rcases ao with⟨_,h,_⟩ | ⟨b',c',e,aM,aN,_,_⟩
    ·omega
    ·exact⟨b',c',e,aM,aN,trivial,trivial⟩
   cases aB;have aD:=(aa.get b' (av.lt am)).trans am;have gx:=ZJ (l:=ns) (i:=j) q;have aE:ns.getD j 0∈ns:=by rw[LX,La q,NB];exact Nb q
   have aA:(ns.take (j+1)).map (λn=>JW x.f.pre n++Kv x.f.map)=(ns.take j).map (λn=>JW x.f.pre n++Kv x.f.map)++[JW x.f.pre (ns.getD j 0)++Kv x.f.map]:=by
    rw[Nv,La q,RB,N6,LX,La q,NB];rfl
   have aG:=aF _ aE;generalize ns.getD j 0=z at *;have d1:(0:Int)<=j∧(j:Int)<ns.length:=by omega
   have d3:(j:Int).toNat=j:=by omega
   have e1:IntKind.i64.wrap ((j:Int)+1)=((j+1:Nat):Int):=by rw[w64 (by unfold I64;omega)];omega
   have k2:=((ae.trans aa).get H.next (by omega)).trans g2;obtain⟨ba,bb,al⟩:=ab.slc;simp only[Vs,Qb,simprocAttr,aj,ai,ag,k2,e3,d1,d3,aD,gx];refine(QCi x.f.pre z aC.pre aG H').thenW ?_;rintro _ H2 aX aK ⟨bc,rfl,aq,aw⟩;obtain⟨a2,aP,rfl⟩:=aq.slc;have k3:=(aw.get H.next (by have:=aa.next;omega)).trans k2;simp only[Qb,simprocAttr,aj,k3,e4];refine(QvX x.f.map H2).thenW ?_;rintro bd H3 aY aL ⟨ar,ac⟩;obtain⟨a3,aQ,rfl⟩:=ar.slc;simp only[Qb,simprocAttr];have aS:(JW x.f.pre z).length<=10:=by unfold JW QFD;split<;>(try split)<;>(try split)<;>(try split)<;>(try split)<;>(try split)<;>simp
   have aT:(Kv x.f.map).length<=10:=by unfold Kv;split<;>(try split)<;>(try split)<;>simp
   refine Y8 (H0:=H') (aq.go aK ac) (aw.trans ac) aL ar.src (ZK _) (by rw[Xe,NH]) (by omega) (by omega) λbg H4 au ad=>?_;obtain⟨a4,ak,rfl⟩:=au.slc;have aH:Gx 1 5 H' H4 (.slice a4 ((JW x.f.pre z).length+(Kv x.f.map).length) ak) (JW x.f.pre z++Kv x.f.map).length (bys (JW x.f.pre z++Kv x.f.map)):=by rw[Lh,Jg];exact au
   simp only[Qb,simprocAttr,ag,e1,al];rw[al]at ab;have ah:=(Ext.refl H4).push (.cells [.slice a4 ((JW x.f.pre z).length+(Kv x.f.map).length) ak] 27 false);have aW:((ns.take j).map λn=>JW x.f.pre n++Kv x.f.map).length<=2:=by rw[Nn,Sb];omega
   refine QkH (H0:=H1) (bs:=JW x.f.pre z++Kv x.f.map) (ab.go aJ (ad.x.trans ah)) ((aa.trans ad.x).trans ah) (ad.w.push _) ((aH.go ad.w ah).down aa.next) (Qf2 H4 _) (by omega) (by omega) λbh H5 aI an=>?_;simp only[Qb,simprocAttr,ag,e1];refine⟨ns.length - (j+1),by omega,j+1,by omega,rfl,an.x,an.w,?_,?_,?_,?_⟩
   all_goals simp only[Qg,simprocAttr,aj,ai]
   rw[aA];exact aI
  ·have q:j=ns.length:=by have:=Ll q;omega
   rw[q,Nr,<- az]at ab;have ac:=(ax.trans ae).trans aa;simp only[Qb,simprocAttr,Jv];exact .mk ac.next ⟨ab.down (ax.trans ae).next,ac⟩
theorem QJt (ag:FOk x.f){Hb H1:Qa}(ad:Ext H Hb)(ah:H.next+2<=Hb.next)(ac:Ext Hb H1)(ax:H1.Wf)(az:x.f.w=0∨x.f.w=1)(aw:0<=r∧r<2)(ay:0<=xx∧xx<2)(hb:0<=b∧b<2){need bar:Bool}{W:List (List Int)}(q:W=(if need=true then(if bar=true then[] else[Qea x.f.w r xx b]) else if bar=true then[-1] else[-1,0]).map λn=>JW x.f.pre n++Kv x.f.map){A:Env}(g2:Hb.get H.next=some (.cells x.cells 45 false))(r2:A 2=.int .i64 r)(r3:A 3=.int .i64 xx)(r4:A 4=.int .i64 b)(r5:A 5=.pointer (some ⟨H.next,0,none⟩))(aj:A 14=.bool need)(aa:A 15=.bool bar):
  Qm prog Yz ⟨KHr H W,WL⟩ (KHr H W) A H1:=by
 have av:x.cells[7]? = some (.int .i64 x.f.w):=rfl;have k2:=(ac.get H.next (by omega)).trans g2;have ai:∀ (ns:List Int) (H1:Qa),Ext Hb H1->Gx 1 3 Hb (H1.push (.cells (ints ns) 3 false)) (.slice (some ⟨H1.next,0,none⟩) ns.length ns.length) ns.length (ints ns):=λns H1 h=>.inr ⟨_,_,rfl,h.next,by rw[Qc,Lc rfl],by rw[Qxt,NH],.inl rfl⟩;have al:=ai [-1,0] H1 ac;have ab:=ac.push (.cells (ints [-1,0]) 3 false);have ae:=ax.push (.cells (ints [-1,0]) 3 false);have k3:=(ab.get H.next (by omega)).trans g2;have ak:=ai [-1] _ ab;have aq:=ab.push (.cells (ints [-1]) 3 false);have an:=ae.push (.cells (ints [-1]) 3 false);have am:=ai [Qea x.f.w r xx b] _ ab;have ar:=ab.push (.cells (ints [Qea x.f.w r xx b]) 3 false);have ao:=ae.push (.cells (ints [Qea x.f.w r xx b]) 3 false);have au:-1<=Qea x.f.w r xx b∧Qea x.f.w r xx b<=15:=by unfold Qea;omega
 simp only[ints,List.map,Lo,L9,LP,Nat.reduceAdd]at al ab ae k3 ak aq an am ar ao;cases need with
 | false=>
  rw[Le (by decide)]at q;simp only[Yz,Z7,Z6,Qb,simprocAttr,aj,aa];cases bar with
  | false=>
   rw[Le (by decide)]at q;simp only[Qb,simprocAttr,aa];refine QDX ag ad ah (ns:=[-1,0]) (by simp) (by simp) ab ae al q g2 ?_ ?_
   all_goals simp only[Qg,simprocAttr,r5]
   all_goals rfl
  | true=>
   rw[Lc rfl]at q;simp only[Qb,simprocAttr,aa];refine QDX ag ad ah (ns:=[-1]) (by simp) (by simp) aq an ak q g2 ?_ ?_
   all_goals simp only[Qg,simprocAttr,r5]
   all_goals rfl
 | true=>
  rw[Lc rfl]at q;simp only[Yz,Qb,simprocAttr,aj,aa];cases bar with
  | true=>
   rw[Lc rfl]at q;simp only[Qb,simprocAttr,aa,Jv];exact .mk (ad.trans ac).next ⟨by rw[q];exact Zu.nil (by decide) _ _,ad.trans ac⟩
  | false=>
   rw[Le (by decide)]at q;simp only[Z7,Qb,simprocAttr,r2,r3,r4,r5,aj,aa,k2,k3,av];refine(QCk x.f.w r xx b (by omega) aw ay hb _).thenW ?_;rintro _ H9 _ _ ⟨rfl,rfl⟩;simp only[Z6,Qb,simprocAttr,aa];refine QDX ag ad ah (ns:=[Qea x.f.w r xx b]) (by simp) (by simp only[Sa];rintro n rfl;exact au) ar ao am q g2 ?_ ?_
   all_goals simp only[Qg,simprocAttr,r5]
   all_goals rfl
theorem QHW (aA:FOk x.f)(aE:x.f.vex=false){Hb:Qa}(aF:Ext H Hb)(aP:H.next+2<=Hb.next)(aR:H.Wf)(aT:Hb.Wf)(aM:Qt H va l)(bn:l.length<=1000)(aQ:0<=r∧r<2)(aV:0<=xx∧xx<2)(hb:0<=b∧b<2){W:List (List Int)}(am:W=QcQ x.f l r xx b){A:Env}(g2:Hb.get H.next=some (.cells x.cells 45 false))(g3:Hb.get (H.next+1)=some (.cells [.int .i64 op,va] 24 false))(r2:A 2=.int .i64 r)(r3:A 3=.int .i64 xx)(r4:A 4=.int .i64 b)(r5:A 5=.pointer (some ⟨H.next,0,none⟩))(aX:A 6=.pointer (some ⟨H.next+1,0,none⟩)):
  Qm prog Zv ⟨KHr H W,WL⟩ (KHr H W) A Hb:=by
 have aH:x.cells[7]? = some (.int .i64 x.f.w):=rfl;have aU:=aA.w aE;unfold QcQ chF at am;rw[Le (by rw[aE];decide)]at am;have bi:IntKind.i64.wrap (x.f.w+r)=x.f.w+r:=w64 (by unfold I64;omega);have bj:IntKind.i64.wrap (x.f.w+r+xx)=x.f.w+r+xx:=w64 (by unfold I64;omega);have bk:IntKind.i64.wrap (x.f.w+r+xx+b)=x.f.w+r+xx+b:=w64 (by unfold I64;omega);have aJ:decide (0<x.f.w+r+xx+b)=decide (0<Qea x.f.w r xx b):=by
  unfold Qea;rw[Ni,Lv,Lv];omega
 rw[<- aJ]at am;obtain⟨a0,cap,rfl,aK⟩:=id aM;simp only[Zv,Qb,simprocAttr,r2,r3,r4,r5,g2,aH,bi,bj,bk];generalize decide (0<x.f.w+r+xx+b)=n0 at *;refine Qo (λm A' H'=>∃i:Nat,i<=l.length∧m=l.length - i∧H'.Wf∧Ext Hb H'∧A' 2=.int .i64 r∧A' 3=.int .i64 xx∧A' 4=.int .i64 b∧A' 5=.pointer (some ⟨H.next,0,none⟩)∧A' 6=.pointer (some ⟨H.next+1,0,none⟩)∧A' 14=.bool (n0||Qa7 (l.take i))∧A' 15=.bool (Qhj (l.take i))∧A' 16=.int .i64 i) l.length ?_ ?_
 ·refine⟨0,L7 _,by omega,aT,.refl _,?_,?_,?_,?_,?_,?_,?_,?_⟩
  all_goals simp only[Qg,simprocAttr,r2,r3,r4,r5,aX]
  all_goals simp[Qa7,Qhj]
 ·rintro m A' H' ⟨i,hi,rfl,aw,ag,ah,ai,aj,ak,ac,ab,aa,ad⟩;have k3:=(ag.get (H.next+1) (by omega)).trans g3;simp only[Vv,Qb,simprocAttr,ac,ad,k3];refine Qf (λae=>?_) (λae=>?_)
  ·have ae:i<l.length:=by have:=Lg ae;omega
   obtain⟨a,ar⟩:∃a,l[i]? = some a:=⟨_,La ae⟩;obtain⟨aq,e,ro,rfl,aB⟩:=aK (by omega);have an:H'.get aq=some (.cells (Qh l) e ro):=by rw[(aF.trans ag).get aq (aR.lt aB)];exact aB
   have aO:(Qh l)[i * 11]? = some (.int .i64 a.k):=by
    have:=We l i a ar;have h:=congrArg (λz=>z[0]?) this;simpa[Ar.cells,Nl,Nk] using h
   have av:=QeX ar;have au:i * 11+1+2<=(Qh l).length:=by rw[Qr];omega
   have d1:(0:Int)<=i∧(i:Int)<l.length:=by omega
   have d3:(i:Int).toNat=i:=by omega
   have ei:IntKind.i64.wrap ((i:Int)+1)=((i+1:Nat):Int):=by rw[w64 (by unfold I64;omega)];omega
   have aD:l.take (i+1)=l.take i++[a]:=by rw[Nv,ar];rfl
   have aL:Qa7 (l.take (i+1))=(Qa7 (l.take i)||(a.k==1&&Qnk a.r)):=by unfold Qa7;rw[aD,Rz];simp
   have hB:Qhj (l.take (i+1))=(Qhj (l.take i)||(a.k==1&&QsN a.r)):=by unfold Qhj;rw[aD,Rz];simp
   have aG:=QxI a.r;have az:=QzI a.r;simp only[Rg.cells]at aG az
   -- the end of a round
   have q:∀ (A2:Env) (H3:Qa),Ext Hb H3->H3.Wf->A2 2=.int .i64 r->A2 3=.int .i64 xx->A2 4=.int .i64 b->A2 5=.pointer (some ⟨H.next,0,none⟩)->A2 6=.pointer (some ⟨H.next+1,0,none⟩)->A2 14=.bool (n0||Qa7 (l.take (i+1)))->A2 15=.bool (Qhj (l.take (i+1)))->A2 16=.int .i64 ((i+1:Nat):Int)->Qsl (λm A' H'=>∃i:Nat,i<=l.length∧m=l.length - i∧H'.Wf∧Ext Hb H'∧A' 2=.int .i64 r∧A' 3=.int .i64 xx∧A' 4=.int .i64 b∧A' 5=.pointer (some ⟨H.next,0,none⟩)∧A' 6=.pointer (some ⟨H.next+1,0,none⟩)∧A' 14=.bool (n0||Qa7 (l.take i))∧A' 15=.bool (Qhj (l.take i))∧A' 16=.int .i64 i) (l.length - i) A2 H3:=
    λA2 H3 e1 e2 bb bc bd bg bh aY aZ ba=>⟨l.length - (i+1),by omega,i+1,by omega,rfl,e2,e1,bb,bc,bd,bg,bh,aY,aZ,ba⟩
   rw[aL,hB,<- FP]at q;generalize Qa7 (l.take i)=N at *;generalize Qhj (l.take i)=B at *;obtain⟨N',aI⟩:∃N',N'=(n0||N):=⟨_,rfl⟩;rw[<- aI]at q ab;simp only[Vu,Qb,simprocAttr,ac,ad,k3,d1,d3,an,aO];cases ao:a.k==1 with
   | false=>
    rw[ao,NG,NI,NG,NI]at q;simp only[Qb,simprocAttr,ao,ad,ei];refine q _ H' ag aw ?_ ?_ ?_ ?_ ?_ ?_ ?_ ?_
    all_goals simp only[Qg,simprocAttr,ah,ai,aj,ak,ac,ab,aa]
   | true=>
    rw[ao,LJ,LJ]at q;have bm:=d1;simp only[Qb,simprocAttr,ao];cases N' with
    | true=>
     rw[N1]at q;cases B with
     | true=>
      rw[N1]at q;simp only[YA,Qb,simprocAttr,ab,aa,ad,ei];refine q _ H' ag aw ?_ ?_ ?_ ?_ ?_ ?_ ?_ ?_
      all_goals simp only[Qg,simprocAttr,ah,ai,aj,ak,ac,ab,aa]
     | false=>
      rw[Nt]at q;simp only[YA,Qb,simprocAttr,ac,ab,aa,ad,ei,k3,d1,d3,an,av];refine⟨au,(az H').thenW ?_⟩;rintro _ _ al ax ⟨rfl,k4,rfl⟩;simp only[Ql]at al;simp only[Qb,simprocAttr,ad,ei];refine q _ _ (ag.up al) ax ?_ ?_ ?_ ?_ ?_ ?_ ?_ ?_
      all_goals simp only[Qg,simprocAttr,ah,ai,aj,ak,ac,ab,aa]
    | false=>
     rw[Nt]at q;simp only[YA,Qb,simprocAttr,ac,ab,aa,ad,ei,k3,d1,d3,an,av];refine⟨au,(aG H').thenW ?_⟩;rintro _ _ aC aS ⟨rfl,k5,rfl⟩;simp only[Ql]at aC;have ay:=ag.up (m:=k5) aC;have aW:=(ay.get (H.next+1) (by omega)).trans g3;have aN:(H'.up k5).get aq=some (.cells (Qh l) e ro):=by rw[Zk];exact an
     generalize H'.up k5=H3 at *;cases B with
     | true=>
      rw[N1]at q;simp only[Qb,simprocAttr,ac,aa,ad,ei];refine q _ H3 ay aS ?_ ?_ ?_ ?_ ?_ ?_ ?_ ?_
      all_goals simp only[Qg,simprocAttr,ah,ai,aj,ak,ac,ab,aa]
     | false=>
      rw[Nt]at q;simp only[Qb,simprocAttr,ac,aa,ad,ei,aW,d1,d3,aN,av];refine⟨au,(az H3).thenW ?_⟩;rintro _ _ al ax ⟨rfl,k4,rfl⟩;simp only[Ql]at al;simp only[Qb,simprocAttr,ad,ei];refine q _ _ (ay.up al) ax ?_ ?_ ?_ ?_ ?_ ?_ ?_ ?_
      all_goals simp only[Qg,simprocAttr,ah,ai,aj,ak,ac,ab,aa]
  ·have ae:i=l.length:=by have:=Ll ae;omega
   subst ae;rw[Nr]at ab aa;simp only[Qb,simprocAttr];exact QJt aA aF aP ag aw aU aQ aV hb (need:=n0||Qa7 l) (bar:=Qhj l) am g2 ah ai aj ak ab aa
end
theorem QxZ {x:Lf}{op:Int}{va:Value}{l:List Ar}{r q b:Int}(am:FOk x.f)(aq:x.f.vex=true->(vxR x.f l r q b).Ok)(ao:0<=r∧r<2)(ar:0<=q∧q<2)(hb:0<=b∧b<2)(H:Qa)(ah:x.At H)(ac:Qt H va l)(ae:l.length<=1000)(an:x.f.slots.length=l.length):
  Qe prog 88 [.agg x.cells.toArray,.agg #[.int .i64 op,va],.int .i64 r,.int .i64 q,.int .i64 b] H λv H'=>Zu 27 H H' v (QcQ x.f l r q b)∧Ext H H':=by
 refine Qim λad=>?_;have al:(Value.agg x.cells.toArray).cells.toList=x.cells:=rfl;have aj:x.cells[8]? = some (.bool x.f.vex):=rfl;obtain⟨W,ab⟩:∃W,W=QcQ x.f l r q b:=⟨_,rfl⟩;rw[<- ab];obtain⟨a0,cap,rfl⟩:=Qu ac;obtain⟨Hb,ak,g2,g3,ai,ag,av,au⟩:=QFT (op:=op) (va:=.slice a0 l.length cap) ad ah;simp only[Qbm,al,Qb,simprocAttr,ak,g2,aj];cases aa:x.f.vex with
 | true=>
  simp only[Qb,simprocAttr,aa];refine QHV ai (by omega) ad ag ah ac ae an (aq aa) (by rw[ab,QcQ,Lc aa]) g2 g3 ?_ ?_ ?_ ?_ ?_
  all_goals simp only[Qg,simprocAttr]
 | false=>
  simp only[Qb,simprocAttr,aa];refine QHW am aa ai (by omega) ad ag ac ae ao ar hb ab g2 g3 ?_ ?_ ?_ ?_ ?_
  all_goals simp only[Qg,simprocAttr]
structure Chk (f:Fm):Prop where
 op:Za f.op=true
 len:f.shapes.length<=4∧f.slots.length=f.shapes.length
 rng:(0<=f.pre∧f.pre<=5)∧(0<=f.map∧f.map<=3)∧(0<=f.code∧f.code<=255)∧(-1<=f.digit∧f.digit<=7)
 sl:∀i,i<f.slots.length->Qf5 (f.shapes.getD i 0) (f.slots.getD i 0)=true∧(f.slots.getD i 0=6∨Qp f.slots (f.slots.getD i 0)=i)
 vx:if f.vex=true then ¬f.map=0∧¬f.pre=3∧¬f.pre=5∧(-1<=f.w∧f.w<=1)∧(0<=f.l∧f.l<=1) else(0<=f.w∧f.w<=1)∧f.l=0∧Qp f.slots 3<0∧Qp f.slots 7<0
 fl:if 0<=Qp f.slots 4 then Qp f.slots 1<0∧Qp f.slots 2<0∧f.digit<0 else if 0<=Qp f.slots 2 then(0<=Qp f.slots 1↔f.digit<0) else Qp f.slots 1<0∧f.digit<0
 cd:(0<=Qp f.slots 4->f.code % 8=0∧¬ (f.map=0∧(f.code=64∨f.code=72)))∧(¬f.map=0∨(¬f.code=15∧¬ (64<=f.code∧f.code<=79)∧¬f.code=102∧¬f.code=196∧¬f.code=197∧¬f.code=242∧¬f.code=243))
section
variable {x:Lf}
theorem Qx0 (ah:Chk x.f)(H:Qa)(av:x.At H):Qe prog 257 [.agg x.cells.toArray] H λu H'=>u=.bool true∧Ext H H':=by
 refine Qiq λau=>?_;have aq:(Value.agg x.cells.toArray).cells.toList=x.cells:=rfl;have ao:x.cells.take 10=x.cells:=rfl;have ax:10<=x.cells.length:=Lb _;obtain⟨H1,e1,g1,aj,ab,a1,aM⟩:=Qnm au av;obtain⟨_,_,⟨ak,am,t1,aC⟩,⟨al,an,t2,aD⟩⟩:=id a1;have aF:x.cells[1]? = some (.slice ak x.f.shapes.length am):=by rw[<- t1];rfl
 have ac:x.cells[2]? = some (.slice al x.f.slots.length an):=by rw[<- t2];rfl
 obtain⟨aK,aL⟩:=ah.len;simp only[Qbx,aq,Qb,simprocAttr,e1];refine Qo (λm A' H'=>∃i:Nat,i<=x.f.slots.length∧m=x.f.slots.length - i∧H'.Wf∧Ext H1 H'∧A' 1=.pointer (some ⟨H.next,0,none⟩)∧A' 3=.int .i64 i) x.f.slots.length ?_ ?_
 ·refine⟨0,L7 _,by omega,ab,.refl _,?_,?_⟩
  all_goals simp only[Qg,simprocAttr]
  all_goals rfl
 ·rintro m A' H' ⟨i,hi,rfl,w',x',r1,r3⟩;have q:H'.get H.next=some (.cells x.cells 45 false):=by rw[x'.get _ (by omega)];exact g1
  simp only[VB,Qb,simprocAttr,r1,r3,q,ac];refine Qf (λaa=>?_) (λaa=>?_)
  ·have aa:i<x.f.slots.length:=by have:=Lg aa;omega
   obtain⟨az,e2,aB,rfl,k2⟩:=aD (by omega);obtain⟨ay,e3,aA,rfl,k1⟩:=aC (by omega);have k2:H'.get az=some (.cells (ints x.f.slots) e2 aB):=by rw[x'.get _ (ab.lt k2)];exact k2
   have k1:H'.get ay=some (.cells (ints x.f.shapes) e3 aA):=by rw[x'.get _ (ab.lt k1)];exact k1
   have d1:(0:Int)<=i∧(i:Int)<x.f.slots.length:=by omega
   have d2:(0:Int)<=i∧(i:Int)<x.f.shapes.length:=by omega
   have d3:(i:Int).toNat=i:=by omega
   have aw:=ZJ (l:=x.f.shapes) (i:=i) (by omega);have ae:=ZJ (l:=x.f.slots) (i:=i) (by omega);have ei:IntKind.i64.wrap ((i:Int)+1)=((i+1:Nat):Int):=by rw[w64 (by unfold I64;omega)];omega
   obtain⟨ai,ad⟩:=ah.sl i aa;simp only[VA,Qb,simprocAttr,r1,r3,q,aF,ac,d1,d2,d3,k1,k2,aw,ae];refine(QzM _ _ H').thenW ?_;rintro _ H' _ _ ⟨rfl,rfl⟩;have next:∀ (B:Env) (H2:Qa),Ext H' H2->H2.Wf->B 1=A' 1->B 3=.int .i64 ((i+1:Nat):Int)->∃m,m<x.f.slots.length - i∧∃j:Nat,j<=x.f.slots.length∧m=x.f.slots.length - j∧H2.Wf∧Ext H1 H2∧B 1=.pointer (some ⟨H.next,0,none⟩)∧B 3=.int .i64 j:=λB H2 aG aH aI aJ=>⟨_,by omega,i+1,by omega,rfl,aH,x'.trans aG,aI.trans r1,aJ⟩;cases ag:x.f.slots.getD i 0==6 with
   | true=>
    simp only[Qb,simprocAttr,ai,ag,r1,r3,q,ac,d1,d3,k2,ae,ei];refine next _ _ (.refl _) w' ?_ ?_<;>simp only[Qg,simprocAttr]
   | false=>
    simp only[Qb,simprocAttr,ai,ag,r1,r3,q,ac,d1,d3,k2,ae,Lw,ao];refine⟨ax,?_⟩;refine(XC x _ H' (a1.ext ab x')).thenW ?_;rintro _ _ ar aE ⟨rfl,m,rfl⟩;have ad:=ad.resolve_left (by simpa using ag);rw[ad];simp only[Qb,simprocAttr,r3,ei,LO];refine next _ _ ((Ext.refl H').up ar) aE ?_ ?_<;>simp only[Qg,simprocAttr]
  ·simp only[Qb,simprocAttr,Qhq];exact .mk (aj.trans x').next ⟨rfl,aj.trans x'⟩
theorem QzS {a n b:Int}(h:a<=n∧n<=b):(decide (a<=n)&&decide (n<=b))=true:=by simp[h.1,h.2]
theorem QCr (ao:Chk x.f)(H:Qa)(ar:x.At H):Qe prog 258 [.agg x.cells.toArray] H λu H'=>u=.bool true∧Ext H H':=by
 refine QkR λaq=>?_;have ak:(Value.agg x.cells.toArray).cells.toList=x.cells:=rfl;have ac:x.cells.take 10=x.cells:=rfl;have ai:10<=x.cells.length:=Lb _;obtain⟨H1,e1,g1,aa,au,a1,aw⟩:=Qnm aq ar;have al:x.cells[3]? = some (.int .i64 x.f.pre):=rfl;have am:x.cells[4]? = some (.int .i64 x.f.map):=rfl;have ad:x.cells[7]? = some (.int .i64 x.f.w):=rfl;have an:x.cells[8]? = some (.bool x.f.vex):=rfl;have ae:x.cells[9]? = some (.int .i64 x.f.l):=rfl;have q:=ao.vx;simp only[Qdj,ak,Qb,simprocAttr,e1,g1,an];cases c:x.f.vex with
 | true=>
  rw[Lc c]at q;obtain⟨k1,k2,k3,k4,k5⟩:=q;have k1:(x.f.map==0)=false:=by simpa using k1
  have k2:(x.f.pre==3)=false:=by simpa using k2
  have k3:(x.f.pre==5)=false:=by simpa using k3
  simp only[Qbz,Qb,simprocAttr,g1,al,am,ad,k1,k2,k3];refine(XZ _ _ _ H1).thenW ?_;rintro _ H1 _ _ ⟨rfl,rfl⟩;rw[QzS k4];simp only[Qb,simprocAttr,g1,ae];refine(XZ _ _ _ H1).thenW ?_;rintro _ H1 _ _ ⟨rfl,rfl⟩;rw[QzS k5];simp only[Qb,simprocAttr,Qcf];exact .mk aa.next ⟨rfl,aa⟩
 | false=>
  rw[Le (by rw[c];decide)]at q;obtain⟨k1,k2,k3,k4⟩:=q;have k3:decide (0<=Qp x.f.slots 3)=false:=by simp;omega
  have k4:decide (0<=Qp x.f.slots 7)=false:=by simp;omega
  have k2:(x.f.l==0)=true:=by simpa using k2
  simp only[Qby,Qb,simprocAttr,g1,ad];refine(XZ _ _ _ H1).thenW ?_;rintro _ H1 _ _ ⟨rfl,rfl⟩;rw[QzS k1];simp only[Qb,simprocAttr,g1,ae,k2,Lw,ac];refine⟨ai,?_⟩;refine(Qay x 3 H1 a1).thenW ?_;rintro _ _ ag ax ⟨rfl,m,rfl⟩;simp only[Ql]at ag;rw[k3];have ab:=(Ext.refl H1).up ag;have g2:(H1.up m).get H.next=some (.cells x.cells 45 false):=by rw[ab.get _ (by omega)];exact g1
  simp only[Qb,simprocAttr,g2,Lw,ac];refine⟨ai,?_⟩;refine(Qay x 7 _ (a1.ext au ab)).thenW ?_;rintro _ _ ah ay ⟨rfl,av,rfl⟩;simp only[Ql]at ah;rw[k4];simp only[Qb,simprocAttr,Qcf];have aj:=(aa.trans ab).up ah;exact .mk aj.next ⟨rfl,aj⟩
theorem QzT (an:Chk x.f)(H:Qa)(ay:x.At H):Qe prog 260 [.agg x.cells.toArray] H λu H'=>u=.bool true∧Ext H H':=by
 refine QjL λax=>?_;have av:(Value.agg x.cells.toArray).cells.toList=x.cells:=rfl;have au:x.cells.take 10=x.cells:=rfl;have az:10<=x.cells.length:=Lb _;obtain⟨H1,e1,g1,aA,aB,a1,ab⟩:=Qnm ax ay;have aa:x.cells[4]? = some (.int .i64 x.f.map):=rfl;have aw:x.cells[5]? = some (.int .i64 x.f.code):=rfl;obtain⟨k1,k2⟩:=an.cd;obtain⟨_,_,r5,_⟩:=an.rng;simp only[Qch,av,Qb,simprocAttr,e1,g1,aw,Lw,au];refine⟨az,?_⟩;refine(Qay x 4 H1 a1).thenW ?_;rintro _ _ ao aC ⟨rfl,m,rfl⟩;simp only[Ql]at ao;have ar:=(Ext.refl H1).up ao;have ac:=aA.trans ar;have g2:(H1.up m).get H.next=some (.cells x.cells 45 false):=by rw[ar.get _ (by omega)];exact g1
 have ak:∀ (B:Env),B 1=.pointer (some ⟨H.next,0,none⟩)->B 3=.int .i64 x.f.code->Qm prog YW ⟨Rt prog Tryz.f260 H λu H'=>u=.bool true∧Ext H H',WL⟩ (Rt prog Tryz.f260 H λu H'=>u=.bool true∧Ext H H') B (H1.up m):=by
  intro B al ad;cases q:x.f.map==0 with
  | false=>
   simp only[YW,Qb,simprocAttr,al,ad,g2,aa,q,QbA];exact .mk ac.next ⟨rfl,ac⟩
  | true=>
   have k2:=k2.resolve_left (by simpa using q);obtain⟨ab,aq,ae,ag,ah,ai,aj⟩:=k2;have ab:(x.f.code==15)=false:=by simpa using ab
   have aq:(decide (64<=x.f.code)&&decide (x.f.code<=79))=false:=by simp;omega
   have ae:(x.f.code==102)=false:=by simpa using ae
   have ag:(x.f.code==196)=false:=by simpa using ag
   have ah:(x.f.code==197)=false:=by simpa using ah
   have ai:(x.f.code==242)=false:=by simpa using ai
   have aj:(x.f.code==243)=false:=by simpa using aj
   simp only[YW,Qb,simprocAttr,al,ad,g2,aa,q,ab];refine(XZ _ _ _ _).thenW ?_;rintro _ _ _ _ ⟨rfl,rfl⟩;rw[aq];simp only[Qb,simprocAttr,ad,ae,ag,ah,ai,aj,QbA];exact .mk ac.next ⟨rfl,ac⟩
 cases c:decide (0<=Qp x.f.slots 4) with
 | false=>
  simp only[Qb,simprocAttr];refine ak _ ?_ ?_<;>simp only[Qg,simprocAttr]
 | true=>
  obtain⟨k3,k4⟩:=k1 (Lg c);have am:(x.f.code.tmod 8==0)=true:=by rw[BM (by omega),k3];rfl
  cases q:x.f.map==0 with
  | false=>
   simp only[sxA,sxB,Nat.reduceBEq,Nat.reduceEqDiff,reduceCtorEq,mxA,mxB,Nat.reduceAdd,reduceIte,Nat.reduceLeDiff,splice,am,g2,aa,q];refine⟨by decide,?_⟩;refine ak _ ?_ ?_<;>simp only[Qg,simprocAttr]
  | true=>
   have k4:(x.f.code==64)=false∧(x.f.code==72)=false:=by
    have:x.f.map=0:=by simpa using q
    constructor<;>simp<;>omega
   simp only[sxA,sxB,Nat.reduceBEq,Nat.reduceEqDiff,reduceCtorEq,mxA,mxB,Nat.reduceAdd,reduceIte,Nat.reduceLeDiff,splice,am,g2,aa,q,k4.1,k4.2];refine⟨by decide,?_⟩;refine ak _ ?_ ?_<;>simp only[Qg,simprocAttr]
theorem Qwd (aA:Chk x.f)(aB:x.Fr 0)(H:Qa)(aq:x.At H):Qe prog 259 [.agg x.cells.toArray] H λu H'=>u=.bool true∧Ext H H':=by
 refine Qhr λao=>?_;have ay:(Value.agg x.cells.toArray).cells.toList=x.cells:=rfl;have ah:x.cells.take 10=x.cells:=rfl;have aj:10<=x.cells.length:=Lb _;obtain⟨H1,e1,g1,au,ar,a1,aF⟩:=Qnm ao aq;have az:x.cells[6]? = some (.int .i64 x.f.digit):=rfl;have k:=aA.fl;have bl:=λm (aC:H1.next<=m)=>Qs8 ao aq aB m (N8 au.next aC);simp only[Qax,ay,Qb,simprocAttr,e1,g1,Lw,ah];refine⟨aj,⟨by omega,by omega,by omega⟩,?_⟩;refine(Qay x 1 H1 a1).thenW ?_;rintro _ _ ai aG ⟨rfl,m,rfl⟩;simp only[Ql]at ai;have ad:=(Ext.refl H1).up ai;have g2:(H1.up m).get H.next=some (.cells x.cells 45 false):=by rw[ad.get _ (by omega)];exact g1
 simp only[Qb,simprocAttr,g2,Lw,ah];refine⟨ad.eqB,aj,bl m ai,⟨by omega,by omega⟩,?_⟩;refine(Qay x 2 _ (a1.ext ar ad)).thenW ?_;rintro _ _ am aH ⟨rfl,ac,rfl⟩;simp only[Ql]at am;have av:=(Ext.refl (H1.up m)).up am;have ak:=ad.trans av;have g3:((H1.up m).up ac).get H.next=some (.cells x.cells 45 false):=by rw[ak.get _ (by omega)];exact g1
 simp only[Qb,simprocAttr,g3,Lw,ah];refine⟨av.eqB,aj,bl ac (by omega),by omega,?_⟩;refine(Qay x 4 _ (a1.ext ar ak)).thenW ?_;rintro _ _ an aI ⟨rfl,aE,rfl⟩;simp only[Ql]at an;have ax:=(Ext.refl ((H1.up m).up ac)).up an;have aw:=ak.trans ax;have g4:(((H1.up m).up ac).up aE).get H.next=some (.cells x.cells 45 false):=by rw[aw.get _ (by omega)];exact g1
 have aa:=au.trans aw;simp only[Qb,simprocAttr,g4,az];refine⟨ax.eqB,?_⟩;cases al:decide (0<=Qp x.f.slots 4) with
 | true=>
  rw[Lc (Lg al)]at k;have ae:decide (0<=Qp x.f.slots 1)=false:=by simp;omega
  have q:decide (0<=Qp x.f.slots 2)=false:=by simp;omega
  have ag:decide (0<=x.f.digit)=false:=by simp;omega
  simp only[Yf,Qb,simprocAttr,ae,q,ag,Z8];exact⟨by simp[Qi,Ab.plain],.mk aa.next ⟨rfl,aa⟩⟩
 | false=>
  rw[Le (Ll al)]at k;cases q:decide (0<=Qp x.f.slots 2) with
  | true=>
   rw[Lc (Lg q)]at k;have aD:(decide (0<=Qp x.f.slots 1)==decide (0<=x.f.digit))=false:=by
    by_cases ab:0<=Qp x.f.slots 1
    ·have:=k.1 ab;simp[ab];omega
    ·have:¬x.f.digit<0:=λh=>ab (k.2 h);simp[ab];omega
   simp only[Yf,Qb,simprocAttr,q,aD,Z8];exact⟨by simp[Qi,Ab.plain],.mk aa.next ⟨rfl,aa⟩⟩
  | false=>
   rw[Le (Ll q)]at k;have ae:decide (0<=Qp x.f.slots 1)=false:=by simp;omega
   have ag:decide (0<=x.f.digit)=false:=by simp;omega
   simp only[Yf,Qb,simprocAttr,ae,q,ag,Z8];exact⟨by simp[Qi,Ab.plain],.mk aa.next ⟨rfl,aa⟩⟩
theorem Qx1 (q:Chk x.f)(ax:x.Fr 0)(H:Qa)(aA:x.At H):Qe prog 121 [.agg x.cells.toArray] H λu H'=>u=.int .i64 0∧Ext H H':=by
 refine Qin λaz=>?_;have ao:(Value.agg x.cells.toArray).cells.toList=x.cells:=rfl;have ac:x.cells.take 10=x.cells:=rfl;have ad:10<=x.cells.length:=Lb _;obtain⟨H1,e1,g1,aF,ag,a1,aI⟩:=Qnm az aA;obtain⟨_,_,⟨ak,am,t1,aN⟩,⟨al,an,t2,aO⟩⟩:=id a1;have ai:x.cells[1]? = some (.slice ak x.f.shapes.length am):=by rw[<- t1];rfl
 have aj:x.cells[2]? = some (.slice al x.f.slots.length an):=by rw[<- t2];rfl
 have aq:x.cells[0]? = some (.int .i64 x.f.op):=rfl;have ar:x.cells[3]? = some (.int .i64 x.f.pre):=rfl;have au:x.cells[4]? = some (.int .i64 x.f.map):=rfl;have av:x.cells[5]? = some (.int .i64 x.f.code):=rfl;have aw:x.cells[6]? = some (.int .i64 x.f.digit):=rfl;obtain⟨aG,aH⟩:=q.len;obtain⟨r3,r4,r5,aE⟩:=q.rng;have ay:=q.op;have aB:decide ((x.f.shapes.length:Int)>4)=false:=by simp;omega
 have aC:decide ((x.f.slots.length:Int)>4)=false:=by simp;omega
 have aD:((x.f.shapes.length:Int)==x.f.slots.length)=true:=by simp;omega
 simp only[Qbn,ao,Qb,simprocAttr,e1,g1,aq];refine(QcX _ H1).thenW ?_;rintro _ H1 _ _ ⟨rfl,rfl⟩;rw[ay];simp only[Vz,Vy,Qb,simprocAttr,g1,ar,ai,aj,aB,aC];refine(XZ _ _ _ H1).thenW ?_;rintro _ H1 _ _ ⟨rfl,rfl⟩;rw[QzS r3];simp only[Qb,simprocAttr,g1,au];refine(XZ _ _ _ H1).thenW ?_;rintro _ H1 _ _ ⟨rfl,rfl⟩;rw[QzS r4];simp only[Qb,simprocAttr,g1,av];refine(XZ _ _ _ H1).thenW ?_;rintro _ H1 _ _ ⟨rfl,rfl⟩;rw[QzS r5];simp only[Qb,simprocAttr,g1,aw];refine(XZ _ _ _ H1).thenW ?_;rintro _ H1 _ _ ⟨rfl,rfl⟩;rw[QzS aE];simp only[Vw,Qb,simprocAttr,g1,ai,aj,aD,Lw,ac];refine⟨ad,?_⟩;refine(Qx0 q H1 a1).thenW ?_;rintro _ H2 aJ aP ⟨rfl,ah⟩;have g2:H2.get H.next=some (.cells x.cells 45 false):=by rw[ah.get _ (by omega)];exact g1
 simp only[Qb,simprocAttr,g2,Lw,ac];refine⟨ad,?_⟩;refine(QCr q H2 (a1.ext ag ah)).thenW ?_;rintro _ H3 aK aQ ⟨rfl,aa⟩;have aa:=ah.trans aa;have g3:H3.get H.next=some (.cells x.cells 45 false):=by rw[aa.get _ (by omega)];exact g1
 simp only[Qb,simprocAttr,g3,Lw,ac];refine⟨ad,?_⟩;refine(Qwd q ax H3 (a1.ext ag aa)).thenW ?_;rintro _ H4 aL aR ⟨rfl,ab⟩;have ab:=aa.trans ab;have g4:H4.get H.next=some (.cells x.cells 45 false):=by rw[ab.get _ (by omega)];exact g1
 simp only[Qb,simprocAttr,g4,Lw,ac];refine⟨ad,?_⟩;refine(QzT q H4 (a1.ext ag ab)).thenW ?_;rintro _ H5 aM aS ⟨rfl,ae⟩;have ae:=(aF.trans ab).trans ae;simp only[Qb,simprocAttr,Qhl];exact .mk ae.next ⟨rfl,ae⟩
end
theorem Qnp {a:Ar}{H:Qa}(q:H.Wf):∃H1,H.push (.cells a.cells 58 false)=H1∧H1.get H.next=some (.cells a.cells 58 false)∧Ext H H1∧H1.Wf∧H1.next=H.next+1:=
 ⟨_,rfl,by rw[Qc,Lc rfl],(Ext.refl H).push _,q.push _,rfl⟩
theorem QlD (a:Ar)(c:Int)(H:Qa):Qe prog 261 [.agg a.cells.toArray,.int .i64 c] H λu H'=>u=.bool ((a.k==1)&&(a.r.c==c))∧Ext H H':=by
 refine QkS λad=>?_;have aa:(Value.agg a.cells.toArray).cells.toList=a.cells:=rfl;obtain⟨H1,e1,g1,q,ag,ae⟩:=Qnp (a:=a) ad;have ab:a.cells[0]? = some (.int .i64 a.k):=rfl;have ac:a.cells[1]? = some (.int .i64 a.r.c):=rfl;simp only[Qdk,aa,Qb,simprocAttr,e1,g1,ab];cases k:a.k==1<;>simp only[Qb,simprocAttr,k,g1,ac,QjM]<;>exact .mk q.next ⟨rfl,q⟩
theorem Qp6 (a:Ar)(c:Int)(H:Qa):Qe prog 262 [.agg a.cells.toArray,.int .i64 c] H λu H'=>u=.bool ((a.k==2)&&(a.m.sz==c))∧Ext H H':=by
 refine QkT λad=>?_;have aa:(Value.agg a.cells.toArray).cells.toList=a.cells:=rfl;obtain⟨H1,e1,g1,q,ag,ae⟩:=Qnp (a:=a) ad;have ab:a.cells[0]? = some (.int .i64 a.k):=rfl;have ac:a.cells[9]? = some (.int .i64 a.m.sz):=rfl;simp only[Qdl,aa,Qb,simprocAttr,e1,g1,ab];cases k:a.k==2<;>simp only[Qb,simprocAttr,k,g1,ac,QjN]<;>exact .mk q.next ⟨rfl,q⟩
theorem QCs (a:Ar)(c n:Int)(H:Qa):Qe prog 363 [.agg a.cells.toArray,.int .i64 c,.int .i64 n] H λu H'=>u=.bool ((a.k==1)&&(a.r.c==c)&&(a.r.n==n))∧Ext H H':=by
 refine QkV λae=>?_;have ac:(Value.agg a.cells.toArray).cells.toList=a.cells:=rfl;have ab:a.cells.take 11=a.cells:=rfl;have ag:11<=a.cells.length:=Lb _;obtain⟨H1,e1,g1,ah,aj,ai⟩:=Qnp (a:=a) ae;have ad:a.cells[2]? = some (.int .i64 a.r.n):=rfl;simp only[Qdn,ac,Qb,simprocAttr,e1,g1,Lw,ab];refine⟨ag,?_⟩;refine(QlD a c H1).thenW ?_;rintro _ H2 _ ak ⟨rfl,q⟩;have g2:H2.get H.next=some (.cells a.cells 58 false):=by rw[q.get _ (by omega)];exact g1
 have aa:=ah.trans q;cases k:(a.k==1)&&(a.r.c==c)<;>simp only[Qb,simprocAttr,g2,ad,QjR]<;>exact .mk aa.next ⟨by simp,aa⟩
def shF (a:Ar)(s:Int):Bool:=ZR s.toNat ⟨a,0,0⟩
theorem Qud (a:Ar)(s:Int)(ad:15<=s∧s<=34)(H:Qa):Qe prog 263 [.agg a.cells.toArray,.int .i64 s] H λu H'=>u=.bool (shF a s)∧Ext H H':=by
 refine Qgh λal=>?_;have ai:(Value.agg a.cells.toArray).cells.toList=a.cells:=rfl;have ah:a.cells.take 11=a.cells:=rfl;have ae:11<=a.cells.length:=Lb _;obtain⟨H1,e1,g1,ag,ao,an⟩:=Qnp (a:=a) al;have aj:a.cells[0]? = some (.int .i64 a.k):=rfl;have ak:a.cells[10]? = some (.int .i64 a.n):=rfl;have ad:s=15∨s=16∨s=17∨s=18∨s=19∨s=20∨s=21∨s=22∨s=23∨s=24∨s=25∨s=26∨s=27∨s=28∨s=29∨s=30∨s=31∨s=32∨s=33∨s=34:=by omega
 have q:∀ {u:Value} {H':Qa} {b:Bool},u=.bool b->Ext H1 H'->b=shF a s->Ret H (λu H'=>u=.bool (shF a s)∧Ext H H') u H':=λ{u H' b} h1 aa h3=>.mk (ag.trans aa).next ⟨by rw[h1,h3],ag.trans aa⟩;rcases ad with rfl | rfl | rfl | rfl | rfl | rfl | rfl | rfl | rfl | rfl | rfl | rfl | rfl | rfl | rfl | rfl | rfl | rfl | rfl | rfl
 all_goals simp only[VC,K7,K8,K9,Ga,Gb,Gc,Gd,Ge,Gf,KA,KB,Int.reduceBEq,ai,Qb,simprocAttr,e1,g1,aj,Lw,ah]
 all_goals first
  | (refine⟨ae,?_⟩;refine(Qp6 a _ H1).thenW ?_;rintro _ H2 _ am ⟨rfl,ab⟩;simp only[Qb,simprocAttr,W3];exact q rfl ab rfl)
  | (refine⟨ae,?_⟩;refine(QCs a _ _ H1).thenW ?_;rintro _ H2 _ am ⟨rfl,ab⟩;simp only[Qb,simprocAttr,W3];exact q rfl ab rfl)
  | (simp only[Qb,simprocAttr,W3];exact q rfl (.refl _) rfl)
  | skip
 have ac:shF a 26=((a.k==4)&&decide (-128<=a.n)&&decide (a.n<=127)):=rfl;cases k:a.k==4 with
 | false=>
  simp only[Qb,simprocAttr,k,W3];exact q rfl (.refl _) (by rw[ac,k];rfl)
 | true=>
  simp only[Qb,simprocAttr,k,g1,ak];refine(XZ _ _ _ H1).thenW ?_;rintro _ H2 _ _ ⟨rfl,aa⟩;simp only[Qb,simprocAttr,W3];exact q rfl (by rw[aa];exact .refl _) (by rw[ac,k];rfl)
theorem Qta (a:Ar)(c:Int)(H:Qa):Qe prog 261 [.agg a.cells.toArray,.int .i64 c] H λu H'=>∃b,u=.bool b∧b=((a.k==1)&&(a.r.c==c))∧Ext H H':=(QlD a c H).mono λ_ _ h=>⟨_,h.1,rfl,h.2⟩
theorem QuV (a:Ar)(s:Int)(ac:1<=s∧s<=6)(H:Qa):Qe prog 122 [.agg a.cells.toArray,.int .i64 s] H λu H'=>∃b,u=.bool b∧b=shF a s∧Ext H H':=by
  refine Jw λah=>?_;have ag:(Value.agg a.cells.toArray).cells.toList=a.cells:=rfl;have ab:a.cells.take 11=a.cells:=rfl;have ad:11<=a.cells.length:=Lb _;obtain⟨H1,e1,g1,ae,al,ak⟩:=Qnp (a:=a) ah;have aa:∀ {u:Value} {H':Qa} {b:Bool},u=.bool b->Ext H1 H'->b=shF a s->Ret H (λu H'=>∃b,u=.bool b∧b=shF a s∧Ext H H') u H':=λ{u H' b} h1 h2 h3=>.mk (ae.trans h2).next ⟨b,h1,h3,ae.trans h2⟩;have ac:s=1∨s=2∨s=3∨s=4∨s=5∨s=6:=by omega
  rcases ac with rfl | rfl | rfl | rfl | rfl | rfl
  all_goals simp only[YV,X6,X7,X8,X9,Ya,Yb,Yc,Yd,Ye,XO,XP,XQ,XR,Int.reduceBEq,ag,Qb,simprocAttr,e1,g1,Lw,ab]
  all_goals refine⟨ad,?_⟩
  all_goals first
    | (refine(QlD a _ H1).thenW ?_;rintro _ H2 _ ai ⟨rfl,q⟩;simp only[Qb,simprocAttr,Q9];exact aa rfl q rfl)
    | (refine(Qta a _ H1).thenW ?_
       rintro _ H2 _ ai ⟨b,rfl,hb,q⟩;have g2:H2.get H.next=some (.cells a.cells 58 false):=by rw[q.get _ (by omega)];exact g1
       cases b with
       | true=>simp only[Qb,simprocAttr,Q9];exact aa rfl q (by simp only[shF,ZR,W4,Y3,Int.reduceToNat]at hb ⊢;rw[<- hb];rfl)
       | false=>
         simp only[Qb,simprocAttr,g2,Lw,ab];refine⟨ad,?_⟩;refine(QlD a _ H2).thenW ?_;rintro _ H3 _ am ⟨rfl,aj⟩;simp only[Qb,simprocAttr,Q9];exact aa rfl (q.trans aj) (by simp only[shF,ZR,W4,Y3,Int.reduceToNat]at hb ⊢;rw[<- hb];rfl))
theorem QzU (a:Ar)(s:Int)(ae:7<=s∧s<=14)(H:Qa):Qe prog 122 [.agg a.cells.toArray,.int .i64 s] H λu H'=>∃b,u=.bool b∧b=shF a s∧Ext H H':=by
  refine Jw λai=>?_;have ah:(Value.agg a.cells.toArray).cells.toList=a.cells:=rfl;have ab:a.cells.take 11=a.cells:=rfl;have ac:11<=a.cells.length:=Lb _;obtain⟨H1,e1,g1,ag,am,al⟩:=Qnp (a:=a) ai;have aa:∀ {u:Value} {H':Qa} {b:Bool},u=.bool b->Ext H1 H'->b=shF a s->Ret H (λu H'=>∃b,u=.bool b∧b=shF a s∧Ext H H') u H':=λ{u H' b} h1 h2 h3=>.mk (ag.trans h2).next ⟨b,h1,h3,ag.trans h2⟩;have ae:s=7∨s=8∨s=9∨s=10∨s=11∨s=12∨s=13∨s=14:=by omega
  rcases ae with rfl | rfl | rfl | rfl | rfl | rfl | rfl | rfl
  all_goals simp only[YV,X6,X7,X8,X9,Ya,Yb,Yc,Yd,Ye,XO,XP,XQ,XR,Int.reduceBEq,ah,Qb,simprocAttr,e1,g1,Lw,ab]
  all_goals refine⟨ac,?_⟩
  all_goals first
    | (refine(Qta a _ H1).thenW ?_
       rintro _ H2 _ aj ⟨b,rfl,hb,q⟩;have g2:H2.get H.next=some (.cells a.cells 58 false):=by rw[q.get _ (by omega)];exact g1
       cases b with
       | true=>simp only[Qb,simprocAttr,Q9];exact aa rfl q (by simp only[shF,ZR,W4,Y3,Int.reduceToNat]at hb ⊢;rw[<- hb];rfl)
       | false=>
         simp only[Qb,simprocAttr,g2,Lw,ab];refine⟨ac,?_⟩;refine(Qp6 a _ H2).thenW ?_;rintro _ H3 _ ak ⟨rfl,ad⟩;simp only[Qb,simprocAttr,Q9];exact aa rfl (q.trans ad) (by simp only[shF,ZR,W4,Y3,Int.reduceToNat]at hb ⊢;rw[<- hb];rfl))
    | (refine(QuV a _ (by decide) H1).thenW ?_
       rintro _ H2 _ aj ⟨b,rfl,hb,q⟩;have g2:H2.get H.next=some (.cells a.cells 58 false):=by rw[q.get _ (by omega)];exact g1
       cases b with
       | true=>simp only[Qb,simprocAttr,Q9];exact aa rfl q (by simp only[shF,ZR,W4,Y3,Int.reduceToNat]at hb ⊢;rw[<- hb];rfl)
       | false=>
         simp only[Qb,simprocAttr,g2,Lw,ab];refine⟨ac,?_⟩;refine(Qp6 a _ H2).thenW ?_;rintro _ H3 _ ak ⟨rfl,ad⟩;simp only[Qb,simprocAttr,Q9];exact aa rfl (q.trans ad) (by simp only[shF,ZR,W4,Y3,Int.reduceToNat]at hb ⊢;rw[<- hb];rfl))
theorem Qwe (a:Ar)(s:Int)(ae:1<=s∧s<=34)(H:Qa):Qe prog 122 [.agg a.cells.toArray,.int .i64 s] H λu H'=>∃b,u=.bool b∧b=shF a s∧Ext H H':=by
 by_cases ad:s<=6
 ·exact QuV a s ⟨ae.1,ad⟩ H
 ·by_cases ai:s<=14
  ·exact QzU a s (by omega) H
  ·refine Jw λag=>?_;have ac:(Value.agg a.cells.toArray).cells.toList=a.cells:=rfl;have ab:a.cells.take 11=a.cells:=rfl;have ah:11<=a.cells.length:=Lb _;obtain⟨H1,e1,g1,q,al,ak⟩:=Qnp (a:=a) ag;have ne:∀k:Int,k<=14->(s==k)=false:=λk aj=>by simp;omega
   simp only[YV,X6,X7,X8,X9,Ya,Yb,Yc,Yd,Ye,XO,XP,XQ,XR,ac,Qb,simprocAttr,e1,g1,ne 1 (by decide),ne 2 (by decide),ne 3 (by decide),ne 4 (by decide),ne 5 (by decide),ne 6 (by decide),ne 7 (by decide),ne 8 (by decide),ne 9 (by decide),ne 10 (by decide),ne 11 (by decide),ne 12 (by decide),ne 13 (by decide),ne 14 (by decide),Lw,ab];refine⟨ah,?_⟩;refine(Qud a s (by omega) H1).thenW ?_;rintro _ H2 _ am ⟨rfl,aa⟩;simp only[Qb,simprocAttr,Q9];exact .mk (q.trans aa).next ⟨_,rfl,rfl,q.trans aa⟩
def imF (n bits s:Int):Bool:=if s=20 then bits==8 else if s=22 then bits==16 else if s=23 then bits==32 else if s=25 then bits==64 else if s=21 then decide (bits>8)&&(decide (-128<=n)&&decide (n<=127)) else if s=24 then(bits==64)&&(decide (-2147483648<=n)&&decide (n<=2147483647)) else(s==33)&&(n==1)
theorem QCt (n bits s:Int)(H:Qa):Qe prog 123 [.int .i64 n,.int .i64 bits,.int .i64 s] H λu H'=>u=.bool (imF n bits s)∧H'=H:=by
 refine QkN λaa=>?_;simp(disch:=(first | omega | (simp only[hnP];try omega))) only[Qdf,XS,XT,XU,XV,XW,Qk,simprocAttr,Zr]
 repeat' (first
   | (refine Qq (λh=>?_) (λh=>?_)<;>(try simp only[Lr,Lu]at h)<;>simp(disch:=(first | omega | (simp only[hnP];try omega))) only[XS,XT,XU,XV,XW,Qk,simprocAttr,Zr,h])
   | (refine Qf (λh=>?_) (λh=>?_)<;>(try simp only[Lr,Lu]at h)<;>simp(disch:=(first | omega | (simp only[hnP];try omega))) only[XS,XT,XU,XV,XW,Qk,simprocAttr,Zr,h])
   | (refine(XZ _ _ _ _).thenW ?_;rintro _ _ q ab ⟨rfl,rfl⟩;(try simp only[Qd,Ql,Qv]at q);simp(disch:=(first | omega | (simp only[hnP];try omega))) only[XS,XT,XU,XV,XW,Qk,simprocAttr,Zr])
   | (with_reducible refine⟨by simp[Qi,plain],by omega,?_⟩)
   | (with_reducible refine⟨by simp[Qi,plain],?_⟩)
   | fail)
 all_goals refine .mk (Lb _) ⟨?_,rfl⟩
 all_goals simp only[L0,LC,Da]at *
 all_goals (unfold imF;simp_all<;>omega)
theorem QDY {a:Ar}(aa:a.k=3){n bits s:Int}(hb:0<bits)(q:1<=s∧s<=34):imF n bits s=ZR s.toNat ⟨a,bits,n⟩:=by
 have q:s=1∨s=2∨s=3∨s=4∨s=5∨s=6∨s=7∨s=8∨s=9∨s=10∨s=11∨s=12∨s=13∨s=14∨s=15∨s=16∨s=17∨s=18∨s=19∨s=20∨s=21∨s=22∨s=23∨s=24∨s=25∨s=26∨s=27∨s=28∨s=29∨s=30∨s=31∨s=32∨s=33∨s=34:=by omega
 rcases q with rfl | rfl | rfl | rfl | rfl | rfl | rfl | rfl | rfl | rfl | rfl | rfl | rfl | rfl | rfl | rfl | rfl | rfl | rfl | rfl | rfl | rfl | rfl | rfl | rfl | rfl | rfl | rfl | rfl | rfl | rfl | rfl | rfl | rfl
 all_goals simp[imF,ZR,W4,Y3,aa,hb,Bool.and_assoc]
theorem Qx2 {ab:Int×Bool}:∀ {l:List Ar},Qfb ab l=0->∀a∈l,a.k=3->(WR a.n ab.1 ab.2).2=0
 | [],_,_,h,_=>by cases h
 | b::l,h,a,aa,hk=>by
  unfold Qfb at h;rcases LK.1 aa with rfl | aa
  ·rw[Lc (by simpa using hk)]at h;split at h
   ·rename_i q;simpa using q
   ·exact h
  ·refine Qx2 ?_ a aa hk;split at h
   ·split at h
    ·exact h
    ·rename_i q;simp[h]at q
   ·exact h
theorem QHY {op:Int}{l:List Ar}(h:QO op l=0){a:Ar}(ab:a∈l)(ad:a.k=3):(WR a.n (QW op l).1 (QW op l).2).2=0∧0<(QW op l).1:=by
 rw[<- Qp5]at h;unfold QcP at h;have ac:Qfb (QW op l) l=0:=by
  split at h
  ·simp at h
  ·split at h
   ·simp at h
   ·split at h
    ·rename_i q;simp[h]at q
    ·split at h
     ·simp at h
     ·exact h
 have aa:=Qx2 ac a ab ad;refine⟨aa,?_⟩;unfold WR at aa;split at aa
 ·simp at aa
 ·rename_i q;simp only[Bool.not_eq_false,Nw,L0]at q;omega
def Qld (q:Int×Bool)(a:Ar)(s:Int):Bool:=if a.k=3 then imF (WR a.n q.1 q.2).1 q.1 s else shF a s
theorem QCu {op:Int}{l:List Ar}(h:QO op l=0){a:Ar}(ac:a∈l){s:Int}(ad:1<=s∧s<=34):Qld (QW op l) a s=Qdq (QW op l) a s:=by
 unfold Qld Qdq Qub
 by_cases q:a.k=3
 ·obtain⟨aa,ab⟩:=QHY h ac q;rw[Lc q,Lc q,aa,QDY q ab ad];simp[q]
 ·rw[Le q,Le q];simp[q,shF]
section
variable {x:Lf} {op:Int} {va:Value} {l:List Ar} {H:Qa}
abbrev KRf (H:Qa)(r:Bool):Env->Qa->Prop:=Rt prog Tryz.f83 H λv H'=>v=.bool r∧Ext H H'
theorem QKl (al:H.Wf)(bq:x.At H)(aq:Qt H va l)(bj:l.length<=1000)(bc:∀a∈l,I64 a.n)(bm:Qec x.f=0)(bD:x.f.shapes.length=l.length)(bg:QO op l=0){W:Bool}(an:W=(List.range l.length).all λi=>Qdq (QW op l) (l.getD i Q7) (x.f.shapes.getD i 0)){A:Env}{H1:Qa}(aC:FtF H H1 x op va A):
  Qm prog Js ⟨KRf H W,WL⟩ (KRf H W) A H1:=by
 obtain⟨br,bH,g2,g3,bF,r2,r3⟩:=id aC;obtain⟨a0,cap,rfl⟩:=Qu aq;obtain⟨aT,aW,t1,b7⟩:=id bq.2.2.1;have aS:x.cells[1]? = some (.slice aT x.f.shapes.length aW):=by rw[<- t1];rfl
 simp only[Js,Qb,simprocAttr,r2,r3,g2,g3,Lw,List.take];refine(Qed op _ l H1 (aq.ext al br) bj).thenW ?_;rintro _ _ aH bp ⟨rfl,k,rfl⟩;simp only[Ql]at aH;have bu:Ext H1 (H1.up k):=(Ext.refl H1).up aH;obtain⟨q,az⟩:∃q,q=QW op l:=⟨_,rfl⟩;rw[<- az]at an ⊢;simp only[Qb,simprocAttr];refine Qo (λm A' H'=>∃i:Nat,i<=l.length∧m=l.length - i∧FtF H H' x op (.slice a0 l.length cap) A'∧A' 5=.int .i64 q.1∧A' 6=.bool q.2∧A' 7=.int .i64 i∧∀j,j<i->Qdq q (l.getD j Q7) (x.f.shapes.getD j 0)=true) l.length ?_ ?_
 ·refine⟨0,L7 _,by omega,aC.go bu bp ?_ ?_,?_,?_,?_,λj h=>by omega⟩
  all_goals simp only[Qg,simprocAttr]
  all_goals rfl
 ·rintro m A' H' ⟨i,hi,rfl,ao,r5,aP,ae,aD⟩;obtain⟨am,bo,bA,aA,bE,aN,aO⟩:=id ao;have aK:([.int .i64 op,.slice a0 l.length cap]:List Value)[1]? = some (.slice a0 l.length cap):=rfl;simp only[Qak,Qb,simprocAttr,aO,ae,aA,aK];refine Qf (λab=>?_) (λab=>?_)
  ·have ab:i<l.length:=by have:=Lg ab;omega
   obtain⟨a,ar⟩:∃a,l[i]? = some a:=⟨_,La ab⟩;obtain⟨b8,b9,e0,aZ⟩:=aq;cases e0;obtain⟨b,e,ro,rfl,aF⟩:=aZ (by omega);have bi:H'.get b=some (.cells (Qh l) e ro):=by rw[am.get b (al.lt aF)];exact aF
   obtain⟨aM,e3,aQ,rfl,k1⟩:=b7 (by omega);have bI:H'.get aM=some (.cells (ints x.f.shapes) e3 aQ):=by rw[am.get _ (al.lt k1)];exact k1
   have aJ:=We l i a ar;have bk:i * 11+11<=(Qh l).length:=by rw[Qr];omega
   have d1:(0:Int)<=i∧(i:Int)<l.length:=by omega
   have d2:(0:Int)<=i∧(i:Int)<x.f.shapes.length:=by omega
   have d3:(i:Int).toNat=i:=by omega
   have aL:=ZJ (l:=x.f.shapes) (i:=i) (by omega);have aG:=Ln ar;have aE:l.getD i Q7=a:=by rw[LX,ar];rfl
   have bd:I64 a.n:=bc a aG;have aI:=QlB bm i (by omega);have ak:=QCu bg aG aI;rw[<- az]at ak;have ei:IntKind.i64.wrap ((i:Int)+1)=((i+1:Nat):Int):=by rw[w64 (by unfold I64;omega)];omega
   have ac:Qld q a (x.f.shapes.getD i 0)=false->W=false:=λh=>by rw[an];exact Ke ab (by rw[aE,<- ak];exact h)
   have ad:∀ (B:Env) (H5:Qa),Qld q a (x.f.shapes.getD i 0)=true->Ext H' H5->H5.Wf->B 2=A' 2->B 3=A' 3->B 5=A' 5->B 6=A' 6->B 7=.int .i64 ((i+1:Nat):Int)->∃m,m<l.length - i∧∃i:Nat,i<=l.length∧m=l.length - i∧FtF H H5 x op (.slice (some ⟨b,0,none⟩) l.length cap) B∧B 5=.int .i64 q.1∧B 6=.bool q.2∧B 7=.int .i64 i∧∀j,j<i->Qdq q (l.getD j Q7) (x.f.shapes.getD j 0)=true:=by
    intro B H5 bh e1 e2 bz b1 b2 b3 b4;refine⟨l.length - (i+1),by omega,i+1,by omega,rfl,ao.go e1 e2 bz b1,b2.trans r5,b3.trans aP,b4,λj bC=>?_⟩
    by_cases h:j=i
    ·rw[h,aE,<- ak];exact bh
    ·exact aD j (by omega)
   obtain⟨aa,ag⟩:∃aa,aa=a:=⟨_,rfl⟩;rw[<- ag]at ac ad ak;obtain⟨ay,⟨b5,b6⟩,⟨⟨aU,aV⟩,⟨bv,bx⟩,sc,d,sz⟩,n⟩:=a;have ai:aa.cells=[.int .i64 ay,.int .i64 b5,.int .i64 b6,.int .i64 aU,.int .i64 aV,.int .i64 bv,.int .i64 bx,.int .i64 sc,.int .i64 d,.int .i64 sz,.int .i64 n]:=by rw[ag];rfl
   simp only[Ar.cells]at aJ;simp only[Qaj,Qb,simprocAttr,aO,ae,aA,aK,d1,d3,bi,aJ];refine⟨bk,?_⟩;rw[<- ai];generalize aj:Qa.set (Qa.push H' _) _ _=H4;have aw:Ext H' H4:=by rw[<- aj];exact Ext.set ((Ext.refl H').push _) (by omega) _
   have g4:H4.get H'.next=some (.cells aa.cells 58 false):=by rw[<- aj,Qn,Lc rfl]
   have av:H4.Wf:=by rw[<- aj];exact(bo.push _).set (by rw[Qc,Lc rfl]) _
   have bG:H'.next<H4.next:=av.lt g4;clear aj;obtain⟨ah,bJ,aB,bB,bK,_,_⟩:=ao.go aw av (B:=A') rfl rfl;have k14:H4.get aM=some (.cells (ints x.f.shapes) e3 aQ):=by rw[ah.get _ (al.lt k1)];exact k1
   have bw:11<=aa.cells.length:=by rw[ai];exact Lb _
   have aX:aa.cells.take 11=aa.cells:=by rw[ai];rfl
   have aY:aa.cells[10]? = some (.int .i64 n):=by rw[ai];rfl
   cases c:ay==3 with
   | false=>
    have au:Qld q aa (x.f.shapes.getD i 0)=shF aa (x.f.shapes.getD i 0):=by rw[Qld,Le (by rw[ag];simpa using c)]
    rw[au]at ac ad;simp only[Qai,Qb,simprocAttr,c,aN,ae,g4,aB,aS,d2,d3,k14,aL,Lw,aX];refine⟨bw,?_⟩;refine(Qwe aa _ aI H4).thenW ?_;rintro _ H5 _ aR ⟨v,rfl,bn,ax⟩;rw[<- bn]at ac ad;cases v with
    | false=>
     simp only[Qb,simprocAttr,W0];exact .mk (ah.trans ax).next ⟨by rw[ac rfl],ah.trans ax⟩
    | true=>
     simp only[Qb,simprocAttr,ae,ei];refine ad _ H5 rfl (aw.trans ax) aR ?_ ?_ ?_ ?_ ?_
     all_goals simp only[Qg,simprocAttr]
   | true=>
    have au:Qld q aa (x.f.shapes.getD i 0)=imF (WR n q.1 q.2).1 q.1 (x.f.shapes.getD i 0):=by rw[Qld,Lc (by rw[ag];simpa using c),ag]
    rw[au]at ac ad;simp only[Qah,Qb,simprocAttr,c,r5,aP,g4,aY];refine(Qf6 n q.1 q.2 bd H4).thenW ?_;rintro _ H5 _ aR ⟨rfl,ba⟩;rw[ba];simp only[Qb,simprocAttr,aN,r5,ae,aB,aS,d2,d3,k14,aL];refine(QCt _ _ _ H4).thenW ?_;rintro _ H6 _ bL ⟨rfl,bb⟩;rw[bb];cases v:imF (WR n q.1 q.2).1 q.1 (x.f.shapes.getD i 0) with
    | false=>
     simp only[Qb,simprocAttr,W0];exact .mk ah.next ⟨by rw[ac v],ah⟩
    | true=>
     simp only[Qb,simprocAttr,ae,ei];refine ad _ H4 v aw av ?_ ?_ ?_ ?_ ?_
     all_goals simp only[Qg,simprocAttr]
  ·have ab:i=l.length:=by have:=Ll ab;omega
   subst ab;simp only[Qb,simprocAttr,W0];exact .mk am.next ⟨by rw[an,Gh aD],am⟩
end
theorem QzV {x:Lf}{op:Int}{va:Value}{l:List Ar}(aE:Chk x.f)(ay:Qec x.f=0)(H:Qa)(an:x.At H)(aF:x.Fr 0)(am:Qt H va l)(av:l.length<=1000)(au:∀a∈l,I64 a.n):
  Qe prog 83 [.agg x.cells.toArray,.agg #[.int .i64 op,va]] H λv H'=>v=.bool (QcO x.f op l)∧Ext H H':=by
 refine QjE λah=>?_;have aB:(Value.agg x.cells.toArray).cells.toList=x.cells:=rfl;have az:x.cells.take 10=x.cells:=rfl;have aO:x.cells[0]? = some (.int .i64 x.f.op):=rfl;have aM:10<=x.cells.length:=Lb _;obtain⟨a1,ac,e1⟩:=Qu an.2.2.1;have aP:x.cells[1]? = some (.slice a1 x.f.shapes.length ac):=by rw[<- e1];rfl
 obtain⟨W,ad⟩:∃W,W=QcO x.f op l:=⟨_,rfl⟩;rw[<- ad];obtain⟨a0,cap,rfl⟩:=Qu am;simp only[Qb6,aB,JL,simprocAttr];generalize ae:Qa.push H (.cells x.cells 45 false)=H1;have g1:H1.get H.next=some (.cells x.cells 45 false):=by rw[<- ae,Qc,Lc rfl]
 have aI:Ext H H1:=by rw[<- ae];exact(Ext.refl H).push _
 have aw:H1.next=H.next+1:=by rw[<- ae];rfl
 have aG:H1.Wf:=by rw[<- ae];exact ah.push _
 clear ae;simp only[Qb,simprocAttr,aw];generalize q:Qa.push H1 _=H2;have ai:Ext H H2:=by rw[<- q];exact(aI.push _)
 have aH:H2.Wf:=by rw[<- q];exact(aG.push _)
 have al:H2.get H.next=some (.cells x.cells 45 false):=by rw[<- q,Qc,Le (by omega)];exact g1
 have ag:H2.get (H.next+1)=some (.cells [.int .i64 op,.slice a0 l.length cap] 24 false):=by rw[<- q,Qc,Lc (by omega)]
 have aQ:H2.next=H.next+2:=by rw[<- q,Qd,aw]
 clear q;simp only[Qb,simprocAttr,g1,al,ag,Lw,az];have aD:∀A:Env,A 2=.pointer (some ⟨H.next,0,none⟩)->A 3=.pointer (some ⟨H.next+1,0,none⟩)->FtF H H2 x op (.slice a0 l.length cap) A:=λA e2 e3=>⟨ai,aH,al,ag,by omega,e2,e3⟩;refine⟨aM,?_⟩;refine(Qx1 aE aF H2 (an.ext ah ai)).thenW ?_;rintro _ H3 _ aR ⟨rfl,ao⟩;have aJ:=ai.trans ao;have aC:H3.get (H.next+1)=some (.cells [.int .i64 op,.slice a0 l.length cap] 24 false):=by rw[ao.get _ (by omega)];exact ag
 simp only[Qb,simprocAttr,LO,aC,Lw,List.take];refine(Qgk op _ l H3 (am.ext ah aJ) av au).thenW ?_;rintro _ _ ax aN ⟨rfl,k,rfl⟩;simp only[Ql]at ax;have aj:=ao.trans ((Ext.refl H3).up ax);have aa:=ai.trans aj;have aq:(H3.up k).get H.next=some (.cells x.cells 45 false):=by rw[aj.get _ (by omega)];exact al
 have ar:(H3.up k).get (H.next+1)=some (.cells [.int .i64 op,.slice a0 l.length cap] 24 false):=by rw[aj.get _ (by omega)];exact ag
 have aK:([.int .i64 op,.slice a0 l.length cap]:List Value)[0]? = some (.int .i64 op):=rfl;have aL:([.int .i64 op,.slice a0 l.length cap]:List Value)[1]? = some (.slice a0 l.length cap):=rfl;cases ab:QO op l==0 with
 | false=>
  simp only[Qb,simprocAttr,ab,W0];exact .mk aa.next ⟨by rw[ad,QcO,ab];simp,aa⟩
 | true=>
  simp only[Qb,simprocAttr,ab,aq,ar,aO,aK];cases ac:x.f.op==op with
  | false=>
   simp only[Qb,simprocAttr,W0];exact .mk aa.next ⟨by rw[ad,QcO,ac];rfl,aa⟩
  | true=>
   have aA:((x.f.shapes.length:Int)==(l.length:Int))=(x.f.shapes.length==l.length):=by
    rw[Ni,L0,L0];omega
   simp only[Qb,simprocAttr,aq,ar,aP,aL,aA];cases ak:x.f.shapes.length==l.length with
   | false=>
    simp only[Qb,simprocAttr,W0];exact .mk aa.next ⟨by rw[ad,QcO,ac,ak];rfl,aa⟩
   | true=>
    simp only[Qb,simprocAttr];refine QKl ah an am av au ay (L0.1 ak) (by simpa using ab) (by rw[ad,QcO,ac,ak,ab,ay];rfl) ((aD _ ?_ ?_).go aj aN rfl rfl)
    all_goals simp only[Qg,simprocAttr]
end Go.Proofs.YtgepgbbjfhggfaaGreatDoor.code
