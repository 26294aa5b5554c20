/- The document's small functions: registers, REX, the map's bytes. -/
import Derived.Test.YtgepgbbjfhggfaaGreatDoorLibG
import Derived.Test.YtgepgbbjfhggfaaGreatDoorLibB
import Derived.Test.YtgepgbbjfhggfaaGreatDoorC9Ref
import Derived.Test.YtgepgbbjfhggfaaGreatDoorLibA
import Derived.Test.YtgepgbbjfhggfaaGreatDoorLibC
import Derived.Test.YtgepgbbjfhggfaaGreatDoorLibN
set_option linter.unusedVariables false
set_option linter.unusedSimpArgs false
set_option maxRecDepth 100000
set_option maxHeartbeats 4000000
namespace Go.Proofs.YtgepgbbjfhggfaaGreatDoor.code
open Go.Ab
theorem Qef (r:Rg)(H:Qa):Qe prog 89 [.agg r.cells.toArray] H λu H'=>u=.int .i64 (Wg r)∧∃k,H'=H.up k:=by
 refine QkH λhw=>?_;have q:=W6 r;have hv:=@QDo r;unfold Wg;obtain⟨v,ev⟩:∃v,XF r=v:=⟨_,rfl⟩;rw[ev]at q hv ⊢;obtain⟨c,n⟩:=r;simp only[Rg.cells]at q;simp only[Rg.cells,Qc8,Qb,simprocAttr];refine(q _).thenW ?_;rintro _ _ hn hw2 ⟨rfl,k,rfl⟩;simp only[Qc,Ql]at hn;cases v with
 | false=>
  simp only[Qb,simprocAttr,LM,Qb5];exact .ext hw (((Ext.refl H).push _).up (by rw[Qc];exact hn)) ⟨by simp,_,rfl⟩
 | true=>
  have hb:=hv rfl;simp only[sxA,sxB,Nat.reduceBEq,Nat.reduceEqDiff,reduceCtorEq,mxA,mxB,Nat.reduceAdd,reduceIte,Nat.reduceLeDiff,splice,L8,Qb5];have e:n.tmod 8=n % 8:=BM hb.1;exact⟨by decide,.ext hw (((Ext.refl H).push _).up (by rw[Qc];exact hn)) ⟨by rw[e],_,rfl⟩⟩
theorem QcC (r:Rg)(H:Qa):Qe prog 84 [.agg r.cells.toArray] H λu H'=>u=.int .i64 (We r)∧∃k,H'=H.up k:=by
 refine Qjx λhw=>?_;have q:=W6 r;have hv:=@QDo r;unfold We;obtain⟨v,ev⟩:∃v,XF r=v:=⟨_,rfl⟩;rw[ev]at q hv ⊢;obtain⟨c,n⟩:=r;simp only[Rg.cells]at q;simp only[Rg.cells,Qb2,Qb,simprocAttr];refine(q _).thenW ?_;rintro _ _ hn hw2 ⟨rfl,k,rfl⟩;simp only[Qc,Ql]at hn;cases v with
 | false=>
  simp only[Qb,simprocAttr,LM,Qbh];exact .ext hw (((Ext.refl H).push _).up (by rw[Qc];exact hn)) ⟨by simp,_,rfl⟩
 | true=>
  have hb:=hv rfl;simp only[sxA,sxB,Nat.reduceBEq,Nat.reduceEqDiff,reduceCtorEq,mxA,mxB,Nat.reduceAdd,reduceIte,Nat.reduceLeDiff,splice,L8,Qbh];have e:IntKind.i64.wrap (n.tdiv 8)=n / 8:=by
   rw[Int.tdiv_eq_ediv_of_nonneg hb.1];have hb':0<=n∧n<16:=hb;exact w64 (show I64 (n / 8) by unfold I64;omega)
  exact⟨by decide,.ext hw (((Ext.refl H).push _).up (by rw[Qc];exact hn)) ⟨by rw[e],_,rfl⟩⟩
theorem Qxs (r:Rg)(H:Qa):Qe prog 130 [.agg r.cells.toArray] H λu H'=>u=.bool (Qnc r)∧∃k,H'=H.up k:=by
 refine Qig λhw=>?_;obtain⟨c,n⟩:=r;unfold Qnc;simp only[Rg.cells,Qbt,Qb,simprocAttr];cases h:c==1<;>cases h2:decide (4<=n)<;>simp only[Qb,simprocAttr,h,h2,Qhi]
 all_goals exact .ext hw ((Ext.refl H).push _) ⟨by simp,_,rfl⟩
theorem Qzt (r:Rg)(H:Qa):Qe prog 131 [.agg r.cells.toArray] H λu H'=>u=.bool (Qsy r)∧∃k,H'=H.up k:=by
 refine QjC λhw=>?_;have q:=W6 r;unfold Qsy;obtain⟨v,ev⟩:∃v,XF r=v:=⟨_,rfl⟩;rw[ev]at q ⊢;obtain⟨c,n⟩:=r;simp only[Rg.cells]at q;simp only[Rg.cells,Qb9,Qb,simprocAttr];cases h:c==2 with
 | false=>
  simp only[Qb,simprocAttr,h,Qbu];exact .ext hw ((Ext.refl H).push _) ⟨rfl,_,rfl⟩
 | true=>
  simp only[Qb,simprocAttr,h];refine(q _).thenW ?_;rintro _ _ hn hw2 ⟨rfl,k,rfl⟩;simp only[Qc,Ql]at hn;simp only[Qb,simprocAttr,Qbu];exact .ext hw (((Ext.refl H).push _).up (by rw[Qc];exact hn)) ⟨rfl,_,rfl⟩
theorem QDu:(Qlr.all λp=>QqA prog.globals.size (Qxo (JT p.1 p.2) 0) (Qxp (Qzr 133 [.int .i64 p.1,.int .i64 p.2]) (JT p.1 p.2)) (Qzr 133 [.int .i64 p.1,.int .i64 p.2]))=true:=by kernel_rfl
theorem QBZ (pre rx:Int)(hp:0<=pre∧pre<=5)(hr:-1<=rx∧rx<=15)(H:Qa):Qe prog 133 [.int .i64 pre,.int .i64 rx] H λu H'=>∃v,u=.tuple #[v,.int .i64 0]∧Gx 1 5 H H' v (JT pre rx).length (bys (JT pre rx))∧Ext H H':=by
 have hm:(pre,rx)∈Qlr:=by
  unfold Qlr;rw[NF];refine⟨pre,?_,N4.2 ⟨(rx+1).toNat,LU.2 (by omega),?_⟩⟩
  ·simp only[LK,Ns,NN];omega
  ·have:((rx+1).toNat:Int) - 1=rx:=by omega
   rw[this]
 exact QoL (by kernel_rfl) rfl (Li.1 QDu _ hm) H
theorem QB0:(Quz.all λp=>isW (.int .i64 (Qd7 p.1 p.2.1 p.2.2.1 p.2.2.2)) ((run prog noK 200 5 10).fn 132 [.int .i64 p.1,.int .i64 p.2.1,.int .i64 p.2.2.1,.int .i64 p.2.2.2] (H0 prog)))=true:=by kernel_rfl
theorem QB1 (w r x b:Int)(hw:0<=w∧w<2)(hr:0<=r∧r<2)(hx:0<=x∧x<2)(hb:0<=b∧b<2)(H:Qa):Qe prog 132 [.int .i64 w,.int .i64 r,.int .i64 x,.int .i64 b] H λu H'=>u=.int .i64 (Qd7 w r x b)∧H'=H:=by
 have m2:∀n:Int,0<=n∧n<2->n∈([0,1]:List Int):=λn hn=>by
  simp only[LK,Ns,NN];omega
 have hm:(w,r,x,b)∈Quz:=by
  unfold Quz;rw[NF];refine⟨w,m2 w hw,NF.2 ⟨r,m2 r hr,NF.2 ⟨x,m2 x hx,N4.2 ⟨b,m2 b hb,rfl⟩⟩⟩⟩
 exact Qsz (by kernel_rfl) rfl rfl (Li.1 QB0 _ hm) H
theorem QvE (m:Int)(H:Qa):Qe prog 134 [.int .i64 m] H λv H'=>Gx 1 5 H H' v (Kr m).length (bys (Kr m))∧Ext H H':=by
 refine Qhj λhw=>?_;have hg:∀bs:List Int,Gx 1 5 H (H.push (.cells (bys bs) 5 false)) (.slice (some ⟨H.next,0,none⟩) bs.length bs.length) bs.length (bys bs):=λbs=>.inr ⟨_,_,rfl,Lb _,by rw[Qd,Lc rfl],by rw[Xd,NH],.inl rfl⟩;simp only[Qas,Q4,Qb,simprocAttr];unfold Kr;cases h1:m==1 with
 | true=>
  simp only[Q4,Qb,simprocAttr,h1,Yy];exact .mk ((Ext.refl H).push _).next ⟨hg [15],(Ext.refl H).push _⟩
 | false=>
  simp only[Q4,Qb,simprocAttr,h1];cases h2:m==2 with
  | true=>
   simp only[Q4,Qb,simprocAttr,h2,Yy];exact .mk ((Ext.refl H).push _).next ⟨hg [15,56],(Ext.refl H).push _⟩
  | false=>
   simp only[Q4,Qb,simprocAttr,h2];cases h3:m==3 with
   | true=>
    simp only[Q4,Qb,simprocAttr,h3,Yy];exact .mk ((Ext.refl H).push _).next ⟨hg [15,58],(Ext.refl H).push _⟩
   | false=>
    simp only[Q4,Qb,simprocAttr,h3,Yy];exact .mk (Lb _) ⟨.inl ⟨rfl,rfl,rfl⟩,.refl _⟩
theorem QB2 (b:Bool)(H:Qa):Qe prog 126 [.bool b] H λu H'=>u=.int .i64 (if b=true then 1 else 0)∧H'=H:=by
 refine QkJ λhw=>?_;cases b<;>simp only[Qda,Qb,simprocAttr,QjB]<;>exact .mk (Lb _) ⟨rfl,rfl⟩
theorem XX (n a b:Int)(H:Qa):Qe prog 256 [.int .i64 n,.int .i64 a,.int .i64 b] H λu H'=>u=.bool (decide (a<=n)&&decide (n<=b))∧H'=H:=by
 refine Qhk λhw=>?_;simp only[Qat,Qb,simprocAttr];cases h:decide (a<=n)<;>simp only[Qb,simprocAttr,h,Qga]<;>exact .mk (Lb _) ⟨rfl,rfl⟩
theorem XB (x:Lf)(k:Int)(H:Qa)(hx:x.At H):Qe prog 124 [.agg x.cells.toArray,.int .i64 k] H λu H'=>u=.int .i64 (Qn x.f.slots k)∧∃m,H'=H.up m:=by
 refine Qjg λhw=>?_;have ec:(Value.agg x.cells.toArray).cells.toList=x.cells:=rfl;simp only[QbO,ec,Qb,simprocAttr];have hx0:Ext H (H.push (.cells x.cells 45 false)):=(Ext.refl H).push _;have hg0:(H.push (.cells x.cells 45 false)).get H.next=some (.cells x.cells 45 false):=by rw[Qd,Lc rfl]
 have hw0:=hw.push (.cells x.cells 45 false);generalize H.push (.cells x.cells 45 false)=H1 at hx0 hg0 hw0;obtain⟨l1,l2,h1,h2⟩:=hx.ext hw hx0;obtain⟨a2,c2,e2,hs2⟩:=h2;have g2:x.cells[2]? = some (.slice a2 x.f.slots.length c2):=by rw[<- e2];rfl
 refine Qo (λm A' H'=>∃i:Nat,i<=x.f.slots.length∧m=x.f.slots.length - i∧H'=H1∧(∀j,j<i->¬k=x.f.slots.getD j 0)∧A' 1=.int .i64 k∧A' 2=.pointer (some ⟨H.next,0,none⟩)∧A' 5=.int .i64 i) x.f.slots.length ?_ ?_
 ·refine⟨0,L7 _,by omega,rfl,λj h=>by omega,?_,?_,?_⟩
  all_goals simp only[Qg,simprocAttr]
  try rfl
 ·rintro m A' H' ⟨i,hi,rfl,rfl,hall,r1,r2,r5⟩;simp only[Qb,simprocAttr,r1,r2,r5,hg0,g2];refine Qf (λh2=>?_) (λh2=>?_)
  ·have h2:i<x.f.slots.length:=by have:=Lg h2;omega
   obtain⟨b1,e1,ro1,rfl,hb1⟩:=hs2 (by omega);have c1:(0:Int)<=i∧(i:Int)<x.f.slots.length:=by omega
   have c3:(i:Int).toNat=i:=by omega
   have ei:IntKind.i64.wrap ((i:Int)+1)=((i+1:Nat):Int):=by rw[w64 (by unfold I64;omega)];omega
   have g1:=Zh (l:=x.f.slots) (i:=i) (by omega);simp only[Qb,simprocAttr,r1,r2,r5,hg0,g2,c1,c3,hb1,g1];refine Qf (λh3=>?_) (λh3=>?_)
   ·have h3:k=x.f.slots.getD i 0:=by
     have:x.f.slots.getD i 0=k:=by simpa using h3
     exact this.symm
    simp only[Qb,simprocAttr,r5,QaD];exact .ext hw hx0 ⟨by rw[Qn,Qkc k _ 0 i hall h2 h3,LP],_,rfl⟩
   ·have h3:¬k=x.f.slots.getD i 0:=λh=>by
     have:¬x.f.slots.getD i 0=k:=by simpa using h3
     exact this h.symm
    simp only[Qb,simprocAttr,r5,ei];refine⟨x.f.slots.length - (i+1),by omega,i+1,by omega,rfl,rfl,λj hj=>?_,?_,?_,?_⟩
    ·rcases Nq j i with h | h
     ·exact hall j h
     ·rw[show j=i by omega];exact h3
    all_goals simp only[Qg,simprocAttr,r1,r2]
  ·have h2:i=x.f.slots.length:=by have:=Ll h2;omega
   subst h2;simp only[Qb,simprocAttr,QaD];exact .ext hw hx0 ⟨by rw[Qn,Qkd k _ 0 hall],_,rfl⟩
theorem Qne {x:Lf}{H:Qa}(hw:H.Wf)(hx:x.At H):∃H1,H.push (.cells x.cells 45 false)=H1∧H1.get H.next=some (.cells x.cells 45 false)∧Ext H H1∧H1.Wf∧x.At H1∧H1.next=H.next+1:=
 ⟨_,rfl,by rw[Qd,Lc rfl],(Ext.refl H).push _,hw.push _,hx.ext hw ((Ext.refl H).push _),rfl⟩
theorem Qaw (x:Lf)(k:Int)(H:Qa)(hx:x.At H):Qe prog 265 [.agg x.cells.toArray,.int .i64 k] H λu H'=>u=.bool (decide (0<=Qn x.f.slots k))∧∃m,H'=H.up m:=by
 refine QkP λhw=>?_;have ec:(Value.agg x.cells.toArray).cells.toList=x.cells:=rfl;have e10:x.cells.take 10=x.cells:=rfl;have l10:10<=x.cells.length:=Lb _;obtain⟨H1,e1,g1,x1,w1,a1,n1⟩:=Qne hw hx;simp only[Qdg,ec,Qb,simprocAttr,e1,g1,Lw,e10];refine⟨l10,?_⟩;refine(XB x k H1 a1).thenW ?_;rintro _ _ hn hw2 ⟨rfl,m,rfl⟩;simp only[Qb,simprocAttr,QjG];exact .ext hw (x1.up hn) ⟨rfl,_,rfl⟩
theorem Qxt (x:Lf)(H:Qa)(hx:x.At H):Qe prog 127 [.agg x.cells.toArray] H λu H'=>u=.bool (decide (0<=Qn x.f.slots 2))∧∃m,H'=H.up m:=by
 refine Qif λhw=>?_;have ec:(Value.agg x.cells.toArray).cells.toList=x.cells:=rfl;have e10:x.cells.take 10=x.cells:=rfl;have l10:10<=x.cells.length:=Lb _;obtain⟨H1,e1,g1,x1,w1,a1,n1⟩:=Qne hw hx;simp only[Qbn,ec,Qb,simprocAttr,e1,g1,Lw,e10];refine⟨l10,?_⟩;refine(Qaw x 2 H1 a1).thenW ?_;rintro _ _ hn hw2 ⟨rfl,m,rfl⟩;simp only[Qb,simprocAttr,Qhh];exact .ext hw (x1.up hn) ⟨rfl,_,rfl⟩
/-! ### Of numbers -/
theorem Qxu (s:Int)(H:Qa):Qe prog 264 [.int .i64 s] H λu H'=>u=.int .i64 (tl0 s)∧H'=H:=by
 refine Qii λhw=>?_;simp(disch:=(first | omega | (simp only[hnP];try omega))) only[Qbz,Yz,YA,YB,YC,Qk,simprocAttr,Jw]
 repeat' (first
   | (refine Qp (λh=>?_) (λh=>?_)<;>(try simp only[Lr,Lu]at h)<;>simp(disch:=(first | omega | (simp only[hnP];try omega))) only[Yz,YA,YB,YC,Qk,simprocAttr,Jw,h])
   | (refine Qf (λh=>?_) (λh=>?_)<;>(try simp only[Lr,Lu]at h)<;>simp(disch:=(first | omega | (simp only[hnP];try omega))) only[Yz,YA,YB,YC,Qk,simprocAttr,Jw,h])
   | (with_reducible refine⟨by simp[Qh,plain],by omega,?_⟩)
   | (with_reducible refine⟨by simp[Qh,plain],?_⟩)
   | fail)
 all_goals refine .mk (Lb _) ⟨?_,rfl⟩
 all_goals simp only[L0,LC,Da]at *
 all_goals (unfold tl0;simp_all)
theorem Qzu (x:Lf)(H:Qa)(hx:x.At H):Qe prog 125 [.agg x.cells.toArray] H λu H'=>u=.int .i64 (tlF x.f)∧∃m,H'=H.up m:=by
 refine QjA λhw=>?_;have ex:(Value.agg x.cells.toArray).cells.toList=x.cells:=rfl;have hx0:Ext H (H.push (.cells x.cells 45 false)):=(Ext.refl H).push _;have hg0:(H.push (.cells x.cells 45 false)).get H.next=some (.cells x.cells 45 false):=by rw[Qd,Lc rfl]
 have hw0:=hw.push (.cells x.cells 45 false);obtain⟨l1,l2,h1,h2⟩:=hx.ext hw hx0;obtain⟨a1,c1,e1,s1⟩:=h1;have x1:x.cells[1]? = some (.slice a1 x.f.shapes.length c1):=by rw[<- e1];rfl
 have qs:=XB x 5 _ (hx.ext hw hx0);have q7:=λm (hm:(H.push (.cells x.cells 45 false)).next<=m)=>Qaw x 7 _ (hx.ext hw (hx0.up hm));have hs:tlF x.f=bif decide (0<=Qn x.f.slots 7) then tl1 x.f+1 else tl1 x.f:=rfl
 have hs1:tl1 x.f=if(decide (0<=Qn x.f.slots 5)&&decide (Qn x.f.slots 5<x.f.shapes.length))=true then tl0 (x.f.shapes.getD (Qn x.f.slots 5).toNat 0) else 0:=rfl
 have hle:=QsD x.f;generalize tl1 x.f=n at *;generalize tlF x.f=r at *;generalize Qn x.f.slots 7=i7 at *;simp only[Qb7,ex,Qb,simprocAttr,QI,Wq,x1];generalize H.push (.cells x.cells 45 false)=H1 at *;have last:∀ (A:Env) m,H1.next<=m->A 1=.pointer (some ⟨H.next,0,none⟩)->A 3=.int .i64 n->Qm prog Jv ⟨Rt prog Tryz.f125 H (λu H'=>u=.int .i64 r∧∃m,H'=H.up m),WJ⟩ (Rt prog Tryz.f125 H (λu H'=>u=.int .i64 r∧∃m,H'=H.up m)) A (H1.up m):=by
  intro A m hm a1' a3;simp only[Jv,Qb,simprocAttr,a1',a3,hg0,QI,Wq];refine(q7 m hm).thenW ?_;rintro _ _ hn1 hw1 ⟨rfl,m2,rfl⟩;have hx2:=(hx0.up hm).up hn1;have en:IntKind.i64.wrap (n+1)=n+1:=w64 (by unfold I64;omega);cases z:decide (0<=i7) with
  | true=>
   rw[z]at hs;simp only[Qb,simprocAttr,z,a3,en,Qbm];exact .ext hw hx2 ⟨by rw[hs];rfl,_,rfl⟩
  | false=>
   rw[z]at hs;simp only[Qb,simprocAttr,z,a3,Qbm];exact .ext hw hx2 ⟨by rw[hs];rfl,_,rfl⟩
 refine qs.thenW ?_;rintro _ _ hn1 hw1 ⟨rfl,m1,rfl⟩;simp only[Ql]at hn1;generalize Qn x.f.slots 5=i at *;simp only[Qb,simprocAttr,hg0,x1];refine Qp (λh=>?_) (λh=>?_)<;>simp only[Qb,simprocAttr,hg0,x1,h]
 ·have h0:0<=i:=Lg h;refine Qf (λh'=>?_) (λh'=>?_)<;>simp only[Qb,simprocAttr,hg0,x1]
  ·have h1:i<x.f.shapes.length:=Lg h';obtain⟨b1,e1',ro1,rfl,hb1⟩:=s1 (by omega);have g1:=Zh (l:=x.f.shapes) (i:=i.toNat) (by omega);rw[Lc (by rw[h,h'];rfl)]at hs1;generalize x.f.shapes.getD i.toNat 0=s at *;simp only[h0,h1,Qb,simprocAttr,hg0,x1,hb1,g1];refine(Qxu s _).thenW ?_;rintro _ _ _ _ ⟨rfl,rfl⟩;simp only[Qb,simprocAttr];refine last _ m1 hn1 ?_ ?_<;>simp only[Qg,simprocAttr,hs1]
  ·rw[Le (by rw[h,h'];decide)]at hs1;refine last _ m1 hn1 ?_ ?_<;>simp only[Qg,simprocAttr,hs1]
 ·rw[Le (by rw[h];simp)]at hs1;refine last _ m1 hn1 ?_ ?_<;>simp only[Qg,simprocAttr,hs1]
theorem Qzx (sl sh:Int)(H:Qa):Qe prog 362 [.int .i64 sl,.int .i64 sh] H λu H'=>u=.bool (QfZ sh sl)∧H'=H:=by
 refine QjI λhw=>?_;simp(disch:=(first | omega | (simp only[hnP];try omega))) only[Qcf,Xw,Xx,Xy,Xz,XA,Qk,simprocAttr,Y7]
 repeat' (first
   | (refine Qp (λh=>?_) (λh=>?_)<;>(try simp only[Lr,Lu]at h)<;>simp(disch:=(first | omega | (simp only[hnP];try omega))) only[Xw,Xx,Xy,Xz,XA,Qk,simprocAttr,Y7,h])
   | (refine Qf (λh=>?_) (λh=>?_)<;>(try simp only[Lr,Lu]at h)<;>simp(disch:=(first | omega | (simp only[hnP];try omega))) only[Xw,Xx,Xy,Xz,XA,Qk,simprocAttr,Y7,h])
   | (refine(XX _ _ _ _).thenW ?_;rintro _ _ hn hw2 ⟨rfl,rfl⟩;(try simp only[Qc,Ql,Qt]at hn);simp(disch:=(first | omega | (simp only[hnP];try omega))) only[Xw,Xx,Xy,Xz,XA,Qk,simprocAttr,Y7])
   | (with_reducible refine⟨by simp[Qh,plain],by omega,?_⟩)
   | (with_reducible refine⟨by simp[Qh,plain],?_⟩)
   | fail)
 all_goals refine .mk (Lb _) ⟨?_,rfl⟩
 all_goals simp only[L0,LC,Da]at *
 all_goals (unfold QfZ;simp_all<;>omega)
theorem QqL (n:Int)(H:Qa):Qe prog 366 [.int .i64 n] H λu H'=>u=.int .i64 (Wp n)∧H'=H:=by
 refine Qio λhw=>?_;unfold Wp;simp only[QbG,Qb,simprocAttr];cases h2:n==2 with
 | true=>
  simp only[Qb,simprocAttr,h2,YU];exact .mk (Lb _) ⟨by rw[Lc (by simpa using h2)],rfl⟩
 | false=>
  simp only[VB,Qb,simprocAttr,h2];have n2:¬n=2:=by simpa using h2
  cases h4:n==4 with
  | true=>
   simp only[Qb,simprocAttr,h4,YU];exact .mk (Lb _) ⟨by rw[Le n2,Lc (by simpa using h4)],rfl⟩
  | false=>
   have n4:¬n=4:=by simpa using h4
   simp only[Qb,simprocAttr,h4];cases h8:n==8 with
   | true=>
    simp only[Qb,simprocAttr,h8,YU];exact .mk (Lb _) ⟨by rw[Le n2,Le n4,Lc (by simpa using h8)],rfl⟩
   | false=>
    have n8:¬n=8:=by simpa using h8
    simp only[Qb,simprocAttr,h8,YU];exact .mk (Lb _) ⟨by rw[Le n2,Le n4,Le n8],rfl⟩
def JD (d:Int):List Int:=[IntKind.u8.wrap d,IntKind.u8.wrap (d.fdiv 256),IntKind.u8.wrap (d.fdiv 65536),IntKind.u8.wrap (d.fdiv 16777216)]
theorem Qk2 (H:Qa)(l:List Int):Gx 1 5 H (H.push (.cells (bys l) 5 false)) (.slice (some ⟨H.next,0,none⟩) l.length l.length) l.length (bys l):=.inr ⟨_,_,rfl,Lb _,by rw[Qd,Lc rfl],by rw[Xd,NH],.inl rfl⟩
theorem Qnh (d:Int)(H:Qa):Qe prog 364 [.int .i64 d] H λv H'=>Gx 1 5 H H' v (JD d).length (bys (JD d))∧Ext H H':=by
 refine QjK λhw=>?_;simp only[Qcg,sxA,sxB,Nat.reduceBEq,Nat.reduceEqDiff,reduceCtorEq,mxA,mxB,Nat.reduceAdd,reduceIte,Nat.reduceLeDiff,splice,Qim];have e8:(2:Int) ^ (min ((8:Int)).toNat IntKind.i64.bits)=256:=by decide
 have e16:(2:Int) ^ (min ((16:Int)).toNat IntKind.i64.bits)=65536:=by decide
 have e24:(2:Int) ^ (min ((24:Int)).toNat IntKind.i64.bits)=16777216:=by decide
 rw[e8,e16,e24];refine⟨by decide,by decide,by decide,?_⟩;exact .mk ((Ext.refl H).push _).next ⟨Qk2 H (JD d),(Ext.refl H).push _⟩
def YW (md mid rm sib:Int):List Int:=[Qz md mid rm]++(if 0<=sib then[sib] else[])
theorem QcF (md mid rm sib:Int)(h1:0<=md∧md<4)(h2:0<=mid∧mid<8)(h3:0<=rm∧rm<8)(h4:-1<=sib∧sib<256)(H:Qa):Qe prog 266 [.int .i64 md,.int .i64 mid,.int .i64 rm,.int .i64 sib] H λv H'=>Gx 1 5 H H' v (YW md mid rm sib).length (bys (YW md mid rm sib))∧Ext H H':=by
 refine QjH λhw=>?_;have w1:IntKind.i64.wrap (64 * md)=64 * md:=w64 (by unfold I64;omega);have w2:IntKind.i64.wrap (8 * mid)=8 * mid:=w64 (by unfold I64;omega);have w3:IntKind.i64.wrap (64 * md+8 * mid)=64 * md+8 * mid:=w64 (by unfold I64;omega);have ej:Qz md mid rm=64 * md+8 * mid+rm:=by unfold Qz;omega
 have w4:IntKind.i64.wrap (64 * md+8 * mid+rm)=Qz md mid rm:=by rw[ej];exact w64 (by unfold I64;omega)
 have u8:∀z:Int,0<=z->z<256->IntKind.u8.wrap z=z:=λz a b=>by
  unfold IntKind.wrap;simp[IntKind.bits,IntKind.signed];omega
 unfold YW;simp only[Qcd,Qb,simprocAttr,w1,w2,w3,w4,u8 (Qz md mid rm) (by omega) (by omega)];have hx1:=(Ext.refl H).push (.cells [.int .u8 (Qz md mid rm)] 5 false);have g1:=Qk2 H [Qz md mid rm];have hw1:=hw.push (.cells [.int .u8 (Qz md mid rm)] 5 false);cases hs:decide (0<=sib) with
 | false=>
  simp only[Qb,simprocAttr,hs,QbA];rw[Le (Ll hs)];exact .mk hx1.next ⟨g1,hx1⟩
 | true=>
  rw[Lc (Lg hs)];simp only[Qb,simprocAttr,hs,u8 sib (Lg hs) h4.2];have hx2:=(Ext.refl (H.push (.cells [.int .u8 (Qz md mid rm)] 5 false))).push (.cells [.int .u8 sib] 5 false);have hw2:=hw1.push (.cells [.int .u8 sib] 5 false);refine Zp (H0:=H) (g1.go hw1 hx2) (hx1.trans hx2) hw2 (Qk2 _ [sib]).src rfl rfl (by simp) (by simp) λv' H' hg hk=>?_;simp only[Qb,simprocAttr,QbA];exact .mk hk.x.next ⟨hg,hk.x⟩
theorem QvP {H H1 H4:Qa}{lv s:Value}{ws:List Ld}{w:Ld}(hw1:H1.Wf)(hl:Q7 120 H H1 lv ws)(hx1:Ext H H1)(hx:Ext H1 H4)(hw4:H4.Wf)(hs:Gx 1 5 H1 H4 s w.b.length (bys w.b))(hn:ws.length<=1000){k:Value->Qa->Prop}(h:∀v' H',Q7 120 H H' v' (ws++[w])->Ext H H'->H'.Wf->k v' H'):
  Qdr 120 3 40 lv (.slice (some ⟨H4.next,0,none⟩) 1 1) (H4.push (.cells [s,.int .i64 w.x,.int .i64 w.h] 120 false)) k:=by
 have hx5:=(Ext.refl H4).push (.cells [s,.int .i64 w.x,.int .i64 w.h] 120 false);have hw5:=hw4.push (.cells [s,.int .i64 w.x,.int .i64 w.h] 120 false);refine QvM (by decide) (hl.go hw1 (hx.trans hx5)) ((hx1.trans hx).trans hx5) hw5 ((hs.go hw4 hx5).down hx1.next) ?_ (by omega) (by omega) λv' H' a b=>h v' H' a b.x b.w;rw[JI (b:=H4.next) (by rw[Qd,Lc rfl]) (by decide) (by simp)];rfl
def th0 (mid rm sib d:Int)(sh:Bool)(x b:Int):List Ld:=if(sh&&(d==0))=true then[⟨YW 0 mid rm sib,x,b⟩] else[]
def th1 (mid rm sib d x b:Int):List Ld:=if(decide (-128<=d)&&decide (d<=127))=true then[⟨YW 1 mid rm sib++[IntKind.u8.wrap d],x,b⟩] else[]
def QoT (mid rm sib d:Int)(sh:Bool)(x b:Int):List Ld:=th0 mid rm sib d sh x b++(th1 mid rm sib d x b++[⟨YW 2 mid rm sib++JD d,x,b⟩])
section
variable {mid rm sib d x b:Int} {sh:Bool} {H:Qa}
abbrev KTw (H:Qa)(W:List Ld):Env->Qa->Prop:=Rt prog Tryz.f367 H λv H'=>Q7 120 H H' v W∧Ext H H'
theorem QFs (h2:0<=mid∧mid<8)(h3:0<=rm∧rm<8)(h4:-1<=sib∧sib<256){ws W:List Ld}{lv:Value}{A:Env}{H1:Qa}(hw1:H1.Wf)(hx1:Ext H H1)(hl:Q7 120 H H1 lv ws)(hn:ws.length<=2)(eW:W=ws++[⟨YW 2 mid rm sib++JD d,x,b⟩])(r0:A 0=.int .i64 mid)(r1:A 1=.int .i64 rm)(r2:A 2=.int .i64 sib)(r3:A 3=.int .i64 d)(r5:A 5=.int .i64 x)(r6:A 6=.int .i64 b)(r15:A 15=lv):
  Qm prog YD ⟨KTw H W,WJ⟩ (KTw H W) A H1:=by
 obtain⟨la,lc,rfl⟩:=hl.slc;simp only[YD,Qb,simprocAttr,r0,r1,r2,r3,r5,r6,r15];refine(QcF 2 mid rm sib (by decide) h2 h3 h4 H1).thenW ?_;rintro v2 H2 n2 w2 ⟨g2,x2⟩;obtain⟨a2,c2,rfl⟩:=g2.slc;simp only[Qb,simprocAttr,r3];refine(Qnh d H2).thenW ?_;rintro v3 H3 n3 w3 ⟨g3,x3⟩;obtain⟨a3,c3,rfl⟩:=g3.slc;simp only[Qb,simprocAttr];have hb:(YW 2 mid rm sib).length<=2:=by unfold YW;split<;>simp
 refine Zp (H0:=H1) (g2.go w2 x3) (x2.trans x3) w3 g3.src (ZJ _) (by rw[Xd,NH]) (by rw[show(JD d).length=4 from rfl];omega) (by rw[show(JD d).length=4 from rfl];omega) λv4 H4 g4 k4=>?_;obtain⟨a4,c4,rfl⟩:=g4.slc;simp only[Qb,simprocAttr,r5,r6];refine QvP (w:=⟨YW 2 mid rm sib++JD d,x,b⟩) hw1 hl hx1 k4.x k4.w (by rw[Lh,Je];exact g4) (by omega) λv' H' q1 q2 q3=>?_;simp only[Qb,simprocAttr,Qhp];exact .mk q2.next ⟨by rw[eW];exact q1,q2⟩
theorem Qk3 (h2:0<=mid∧mid<8)(h3:0<=rm∧rm<8)(h4:-1<=sib∧sib<256)(H:Qa):Qe prog 367 [.int .i64 mid,.int .i64 rm,.int .i64 sib,.int .i64 d,.bool sh,.int .i64 x,.int .i64 b] H λv H'=>Q7 120 H H' v (QoT mid rm sib d sh x b)∧Ext H H':=by
 refine Qip λhw=>?_;obtain⟨W,eW⟩:∃W,W=QoT mid rm sib d sh x b:=⟨_,rfl⟩;rw[<- eW]
 -- the second one,then the third
 have sec:∀ {ws:List Ld} {lv:Value} (A:Env) (H1:Qa),H1.Wf->Ext H H1->Q7 120 H H1 lv ws->ws.length<=1->W=ws++(th1 mid rm sib d x b++[⟨YW 2 mid rm sib++JD d,x,b⟩])->A 0=.int .i64 mid->A 1=.int .i64 rm->A 2=.int .i64 sib->A 3=.int .i64 d->A 5=.int .i64 x->A 6=.int .i64 b->A 15=lv->Qm prog Z8 ⟨KTw H W,WJ⟩ (KTw H W) A H1:=by
  intro ws lv A H1 hw1 hx1 hl hn e r0 r1 r2 r3 r5 r6 r15;obtain⟨la,lc,rfl⟩:=hl.slc;have e1:th1 mid rm sib d x b=if(decide (-128<=d)&&decide (d<=127))=true then[⟨YW 1 mid rm sib++[IntKind.u8.wrap d],x,b⟩] else[]:=rfl
  have big:(decide (-128<=d)&&decide (d<=127))=false->Qm prog YD ⟨KTw H W,WJ⟩ (KTw H W) A H1:=λc=>QFs h2 h3 h4 hw1 hx1 hl (by omega) (by rw[e,e1,Le (by rw[c];decide)];rfl) r0 r1 r2 r3 r5 r6 r15;simp only[Z8,Qb,simprocAttr,r3];cases c:decide (-128<=d)&&decide (d<=127) with
  | false=>
   cases c1:decide (-128<=d) with
   | false=>
    simp only[Qb,simprocAttr];refine QFs h2 h3 h4 hw1 hx1 hl (by omega) (by rw[e,e1,Le (by rw[c];decide)];rfl) ?_ ?_ ?_ ?_ ?_ ?_ ?_
    all_goals simp only[Qg,simprocAttr,r0,r1,r2,r3,r5,r6,r15]
   | true=>
    rw[c1,LJ]at c;simp only[Qb,simprocAttr,r3,c];refine QFs h2 h3 h4 hw1 hx1 hl (by omega) (by rw[e,e1,Le (by rw[c1,c];decide)];rfl) ?_ ?_ ?_ ?_ ?_ ?_ ?_
    all_goals simp only[Qg,simprocAttr,r0,r1,r2,r3,r5,r6,r15]
  | true=>
   rw[Lc c]at e1;rw[Lm]at c;simp only[VC,Qb,simprocAttr,c.1,c.2,r0,r1,r2,r3,r15];refine(QcF 1 mid rm sib (by decide) h2 h3 h4 H1).thenW ?_;rintro v2 H2 n2 w2 ⟨g2,x2⟩;obtain⟨a2,c2,rfl⟩:=g2.slc;simp only[Qb,simprocAttr,r3];have x3:=(Ext.refl H2).push (.cells (bys [IntKind.u8.wrap d]) 5 false);have w3:=w2.push (.cells (bys [IntKind.u8.wrap d]) 5 false);have hb:(YW 1 mid rm sib).length<=2:=by unfold YW;split<;>simp
   refine Zp (H0:=H1) (g2.go w2 x3) (x2.trans x3) w3 (Qk2 H2 [IntKind.u8.wrap d]).src (ZJ _) (by rw[Xd,NH]) (by simp;omega) (by simp;omega) λv4 H4 g4 k4=>?_;obtain⟨a4,c4,rfl⟩:=g4.slc;simp only[Qb,simprocAttr,r5,r6];refine QvP (w:=⟨YW 1 mid rm sib++[IntKind.u8.wrap d],x,b⟩) hw1 hl hx1 k4.x k4.w (by rw[Lh,Je];exact g4) (by omega) λv' H' q1 q2 q3=>?_;simp only[Qb,simprocAttr];refine QFs h2 h3 h4 q3 q2 q1 (by rw[Lh];simp;omega) (by rw[e,e1,LQ]) ?_ ?_ ?_ ?_ ?_ ?_ ?_
   all_goals simp only[Qg,simprocAttr,r0,r1,r2,r3,r5,r6]
 have e0:th0 mid rm sib d sh x b=if(sh&&(d==0))=true then[⟨YW 0 mid rm sib,x,b⟩] else[]:=rfl
 simp only[QbH,Qb,simprocAttr];cases c:sh&&(d==0) with
 | false=>
  have e:W=[]++(th1 mid rm sib d x b++[⟨YW 2 mid rm sib++JD d,x,b⟩]):=by rw[eW,QoT,e0,Le (by rw[c];decide)]
  cases sh with
  | false=>
   simp only[Qb,simprocAttr];refine sec _ H hw (.refl _) (Q7.nil _ _ _) (by simp) e ?_ ?_ ?_ ?_ ?_ ?_ ?_
   all_goals simp only[Qg,simprocAttr]
  | true=>
   rw[LJ]at c;simp only[Qb,simprocAttr,c];refine sec _ H hw (.refl _) (Q7.nil _ _ _) (by simp) e ?_ ?_ ?_ ?_ ?_ ?_ ?_
   all_goals simp only[Qg,simprocAttr]
 | true=>
  rw[Lc c]at e0;rw[Lm]at c;obtain⟨c1,c2⟩:=c;subst c1;simp only[Qb,simprocAttr,c2];refine(QcF 0 mid rm sib (by decide) h2 h3 h4 H).thenW ?_;rintro v2 H2 n2 w2 ⟨g2,x2⟩;obtain⟨a2,c2,rfl⟩:=g2.slc;simp only[Qb,simprocAttr];refine QvP (w:=⟨YW 0 mid rm sib,x,b⟩) hw (Q7.nil _ _ _) (.refl _) x2 w2 g2 (by simp) λv' H' q1 q2 q3=>?_;simp only[Qb,simprocAttr];refine sec _ H' q3 q2 q1 (by simp) (by rw[eW,QoT,e0];rfl) ?_ ?_ ?_ ?_ ?_ ?_ ?_
  all_goals simp only[Qg,simprocAttr]
end
def Qmo (mid:Int)(ix:Rg)(f d:Int):Ld:=⟨YW 0 mid 4 (64 * Wp f+8 * (if ix.c==0 then 4 else Wg ix)+5)++JD d,We ix,0⟩
theorem QsP (mid:Int)(ix:Rg)(f d:Int)(hm:0<=mid∧mid<8)(H:Qa):Qe prog 365 [.int .i64 mid,.agg ix.cells.toArray,.int .i64 f,.int .i64 d] H λv H'=>LdV H H' (Qmo mid ix f d) v∧Ext H H':=by
 refine QjL λhw=>?_;have hl:=Jp ix;have hsc:=Qc3 f;have q1:=Qef ix;have q2:=QcC ix;obtain⟨w,ew⟩:∃w,w=Qmo mid ix f d:=⟨_,rfl⟩;rw[<- ew];unfold Qmo at ew;obtain⟨lo,elo⟩:∃lo,Wg ix=lo:=⟨_,rfl⟩;obtain⟨hi,ehi⟩:∃hi,We ix=hi:=⟨_,rfl⟩;rw[elo]at q1 hl ew;rw[ehi]at q2 ew;clear elo ehi;obtain⟨c,n⟩:=ix;simp only[Rg.cells]at q1 q2;simp only at ew;simp only[Rg.cells,Qci,Qb,simprocAttr];generalize hH1:Qa.push (Qa.push H _) _=H1;have hx1:Ext H H1:=by rw[<- hH1];exact((Ext.refl H).push _).push _
 have hw1:H1.Wf:=by rw[<- hH1];exact(hw.push _).push _
 have g0:H1.get H.next=some (.cells [.int .i64 c,.int .i64 n] 54 false):=by rw[<- hH1,Qd,Le (by rw[Qc];omega),Qd,Lc rfl]
 have g1:H1.get (H.next+1)=some (.cells [.slice none 0 0,.int .i64 0,.int .i64 0] 120 false):=by rw[<- hH1,Qd,Lc (by rw[Qc])]
 have hn1:H1.next=H.next+2:=by rw[<- hH1];rfl
 clear hH1;have hend:∀ (l:Int) (A:Env) (H2:Qa),Ext H1 H2->H2.Wf->0<=l∧l<8->w=⟨YW 0 mid 4 (64 * Wp f+8 * l+5)++JD d,hi,0⟩->A 0=.int .i64 mid->A 2=.int .i64 f->A 3=.int .i64 d->A 5=.pointer (some ⟨H.next,0,none⟩)->A 8=.pointer (some ⟨H.next+1,0,none⟩)->A 9=.int .i64 l->Qm prog Jx ⟨Rt prog Tryz.f365 H λv H'=>LdV H H' w v∧Ext H H',WJ⟩ (Rt prog Tryz.f365 H λv H'=>LdV H H' w v∧Ext H H') A H2:=by
  intro l A H2 hx2 hw2 hl e r0 r2 r3 r5 r8 r9;have w1:IntKind.i64.wrap (64 * Wp f)=64 * Wp f:=w64 (by unfold I64;omega);have w2:IntKind.i64.wrap (8 * l)=8 * l:=w64 (by unfold I64;omega);have w3:IntKind.i64.wrap (64 * Wp f+8 * l)=64 * Wp f+8 * l:=w64 (by unfold I64;omega);have w4:IntKind.i64.wrap (64 * Wp f+8 * l+5)=64 * Wp f+8 * l+5:=w64 (by unfold I64;omega);simp only[Jx,Qb,simprocAttr,r0,r2,r3,r5,r8,r9];refine(QqL f H2).thenW ?_;rintro _ H2 _ _ ⟨rfl,rfl⟩;simp only[Qb,simprocAttr,r0,r2,r3,r5,r8,r9,w1,w2,w3,w4];refine(QcF 0 mid 4 _ (by decide) hm (by decide) (by omega) H2).thenW ?_;rintro v2 H3 n3 w3' ⟨gh,x3⟩;obtain⟨a2,c2,rfl⟩:=gh.slc;simp only[Qb,simprocAttr,r3];refine(Qnh d H3).thenW ?_;rintro v3 H4 n4 w4' ⟨gf,x4⟩;obtain⟨a3,c3,rfl⟩:=gf.slc;simp only[Qb,simprocAttr];have hb:(YW 0 mid 4 (64 * Wp f+8 * l+5)).length<=2:=by unfold YW;split<;>simp
  refine Zp (H0:=H2) (gh.go w3' x4) (x3.trans x4) w4' gf.src (ZJ _) (by rw[Xd,NH]) (by rw[show(JD d).length=4 from rfl];omega) (by rw[show(JD d).length=4 from rfl];omega) λv5 H5 hg5 hk5=>?_;obtain⟨a5,c5,rfl⟩:=hg5.slc;have hx5:=hx2.trans hk5.x;have k0:H5.get H.next=some (.cells [.int .i64 c,.int .i64 n] 54 false):=by rw[hx5.get _ (by omega)];exact g0
  simp only[Qb,simprocAttr,r5,r8,k0,Lw,List.take];refine(q2 H5).thenW ?_;rintro _ _ hn6 hw6 ⟨rfl,k,rfl⟩;simp only[Ql]at hn6;have hx6:=hx5.up hn6;have k1:H5.get (H.next+1)=some (.cells [.slice none 0 0,.int .i64 0,.int .i64 0] 120 false):=by rw[hx5.get _ (by omega)];exact g1
  simp only[Qb,simprocAttr,r8,k1,Qin];have hx7:=hx1.trans hx6;have hx8:=hx7.set (i:=H.next+1) (by omega) (.cells [.slice a5 ((YW 0 mid 4 (64 * Wp f+8 * l+5)).length+(JD d).length) c5,.int .i64 hi,.int .i64 0] 120 false);refine .mk hx8.next ⟨⟨_,by rw[e],?_⟩,hx8⟩;have hl9:w.b.length=(YW 0 mid 4 (64 * Wp f+8 * l+5)).length+(JD d).length:=by rw[e];simp only[Lh]
  have hb9:bys w.b=bys (YW 0 mid 4 (64 * Wp f+8 * l+5))++bys (JD d):=by rw[e,Je]
  have hle:=hx1.next;have hle2:=hx2.next;rw[hl9,hb9];refine(hg5.down (H0:=H) (by omega)).ext λid hid=>?_;have hlo:=hg5.low hk5.w hid;rw[Qq,Le (by omega),Y0]
 cases hz:c==0 with
 | true=>
  rw[hz,Lc rfl]at ew;simp only[Qb,simprocAttr,g0,hz];refine hend 4 _ H1 (.refl _) hw1 (by decide) ew ?_ ?_ ?_ ?_ ?_ ?_
  all_goals simp only[Qg,simprocAttr]
 | false=>
  rw[hz,Le (by decide)]at ew;simp only[Qb,simprocAttr,g0,hz,Lw,List.take];refine(q1 H1).thenW ?_;rintro _ _ hn3 hw3 ⟨rfl,k,rfl⟩;simp only[Ql]at hn3;simp only[Qb,simprocAttr];refine hend _ _ (H1.up k) ((Ext.refl H1).up hn3) hw3 hl ew ?_ ?_ ?_ ?_ ?_ ?_
  all_goals simp only[Qg,simprocAttr]
theorem QFt (ss tt:List Value)(ws vs:List Ld)(h:ss.length=ws.length):ldC (ss++tt) (ws++vs)=ldC ss ws++ldC tt vs:=by
 unfold ldC;rw[List.zip_append h,Bm]
theorem QAO:∀ (ss:List Value) (ws:List Ld),(∀s∈ss,∃a n c,s=.slice a n c)->(ldC ss ws).all (·.oneCell')=true
 | [],_,_=>rfl
 | _::_,[],_=>rfl
 | s::ss,w::ws,h=>by
  obtain⟨a,n,c,rfl⟩:=h s (Ny ..);have:=QAO ss ws λs hs=>h s (NA _ hs);unfold ldC at *;simp only[BF,Ba,Fo,this,Be];rfl
theorem QHs {H H1 H2:Qa}{lv v2:Value}{ws vs:List Ld}(hw1:H1.Wf)(hl:Q7 120 H H1 lv ws)(hx1:Ext H H1)(hx:Ext H1 H2)(hw2:H2.Wf)(hv:Q7 120 H1 H2 v2 vs)(hn:ws.length<=1000)(hm:vs.length<=1000){k:Value->Qa->Prop}(h:∀v' H',Q7 120 H H' v' (ws++vs)->Ext H H'->H'.Wf->k v' H'):
  Qdr 120 3 40 lv v2 H2 k:=by
 obtain⟨ss,a1,a2,a3⟩:=(hl.go hw1 hx).it;obtain⟨tt,b1,b2,b3⟩:=hv.it;have hs:∀s∈tt,∃a n c,s=.slice a n c:=λs hs=>by
  obtain⟨j,hj,rfl⟩:=List.mem_iff_getElem.1 hs;obtain⟨a,c,e⟩:=(b3 j _ _ (La hj) (La (by omega))).slc;exact⟨a,_,c,e⟩
 refine Zp (H0:=H) a2 (hx1.trans hx) hw2 b2.src (QAO _ _ hs) (Qf0 _ _ b1) (by omega) (by omega) λv' H' hg hk=>h v' H' ⟨ss++tt,by simp[a1,b1],?_,λj s w hs hw=>?_⟩ hk.x hk.w
 ·rw[QFt _ _ _ _ a1,Lh];exact hg
 ·have hnot:∀id c',H2.get id=some (.cells c' 5 false)->¬inB lv id:=λid c' hc hi=>by
   obtain⟨o,n',c,rfl⟩:=hi;rcases a2 with⟨h,_,_⟩ | ⟨b,c,h,q2,q3,q4⟩
   ·cases h
   ·cases h;rw[q3]at hc;exact absurd (Blk.cells.inj (Ly hc)).2.1 (by decide)
  have key:∀ {s:Value} {bs:List Int},Gx 1 5 H H2 s bs.length (bys bs)->Gx 1 5 H H' s bs.length (bys bs):=λhq=>by
   rcases hq with h2 | ⟨b,c,rfl,q2,q3,q4⟩
   ·exact .inl h2
   ·exact .inr ⟨b,c,rfl,q2,by rw[hk.keep b (hw2.lt q3) (hnot b _ q3)];exact q3,q4⟩
  by_cases hj:j<ss.length
  ·rw[LY hj]at hs;rw[LY (by omega)]at hw;exact key (a3 j s w hs hw)
  ·rw[LR (by omega)]at hs hw;rw[a1]at hs;exact key ((b3 _ s w hs hw).down hx1.next)
def QxD (mid:Int)(m:Mm):List Ld:=
 if m.b.c==8 then[⟨YW 0 mid 5 (-1)++JD m.d,0,0⟩]
 else if m.b.c==0 then[Qmo mid m.i m.sc m.d]
 else if !(m.i.c==0) then QoT mid 4 (64 * Wp m.sc+8 * Wg m.i+Wg m.b) m.d (!(Wg m.b==5)) (We m.i) (We m.b)
 else(if !(Wg m.b==4) then QoT mid (Wg m.b) (-1) m.d (!(Wg m.b==5)) 0 (We m.b) else[])++(QoT mid 4 (32+Wg m.b) m.d (!(Wg m.b==5)) 0 (We m.b)++(if !(m.b.n==4) then[Qmo mid m.b 1 m.d] else[]))
theorem QxE (mid rm sib d:Int)(sh:Bool)(x b:Int):(QoT mid rm sib d sh x b).length<=3:=by
 unfold QoT th0 th1;simp only[Lh,Lo,L9];split<;>split<;>simp
theorem QAP {H H1:Qa}{s:Value}{w:Ld}(hw1:H1.Wf)(hxx:Ext H H1)(hs:Gx 1 5 H H1 s w.b.length (bys w.b)):Q7 120 H (H1.push (.cells [s,.int .i64 w.x,.int .i64 w.h] 120 false)) (.slice (some ⟨H1.next,0,none⟩) 1 1) [w]:=by
 have hx:=(Ext.refl H1).push (.cells [s,.int .i64 w.x,.int .i64 w.h] 120 false);refine⟨[s],rfl,.inr ⟨_,_,rfl,?_,by rw[Qd,Lc rfl];rfl,rfl,.inl rfl⟩,λj s' w' h1 h2=>?_⟩
 ·exact hxx.next
 ·have:j=0:=by
   have:=(Lk.1 h1).1;simpa using this
  subst this;cases h1;cases h2;exact hs.go hw1 hx
theorem QxF (mid:Int)(m:Mm)(hm:0<=mid∧mid<8)(H:Qa):Qe prog 267 [.int .i64 mid,.agg m.cells.toArray] H λv H'=>Q7 120 H H' v (QxD mid m)∧Ext H H':=by
 refine Qij λhw=>?_;obtain⟨W,eW⟩:∃W,W=QxD mid m:=⟨_,rfl⟩;rw[<- eW];unfold QxD at eW;have hl:=Jp m.b;have hl2:=Jp m.i;have hsc:=Qc3 m.sc;have q1:=Qef m.b;have q2:=QcC m.b;have q3:=Qef m.i;have q4:=QcC m.i;have q5:=λH=>QsP mid m.i m.sc m.d hm H;have q6:=λH=>QsP mid m.b 1 m.d hm H;obtain⟨lo,elo⟩:∃lo,Wg m.b=lo:=⟨_,rfl⟩;obtain⟨hi,ehi⟩:∃hi,We m.b=hi:=⟨_,rfl⟩;obtain⟨li,eli⟩:∃li,Wg m.i=li:=⟨_,rfl⟩;obtain⟨hh,ehh⟩:∃hh,We m.i=hh:=⟨_,rfl⟩;rw[elo]at q1 hl eW;rw[ehi]at q2 eW;rw[eli]at q3 hl2 eW;rw[ehh]at q4 eW;clear elo ehi eli ehh;obtain⟨⟨bc,bn⟩,⟨ic,nn⟩,sc,d,sz⟩:=m;simp only[Rg.cells]at q1 q2 q3 q4 q5 q6;simp only at eW hsc;simp only[Mm.cells,QbB,Qb,simprocAttr];generalize hH1:Qa.push H _=H1;have hx1:Ext H H1:=by rw[<- hH1];exact(Ext.refl H).push _
 have hw1:H1.Wf:=by rw[<- hH1];exact hw.push _
 have g1:H1.get H.next=some (.cells [.int .i64 bc,.int .i64 bn,.int .i64 ic,.int .i64 nn,.int .i64 sc,.int .i64 d,.int .i64 sz] 56 false):=by rw[<- hH1,Qd,Lc rfl]
 have hn1:H1.next=H.next+1:=by rw[<- hH1];rfl
 clear hH1;have lw1:IntKind.i64.wrap (32+lo)=32+lo:=w64 (by unfold I64;omega)
 -- the rest,where a base is there and no index
 have tl1:∀ (ws:List Ld) (lv:Value) (A:Env) (H2:Qa),H2.Wf->Ext H1 H2->Q7 120 H1 H2 lv ws->ws.length<=3->W=ws++(QoT mid 4 (32+lo) d (!lo==5) 0 hi++if(!bn==4)=true then[Qmo mid {c:=bc,n:=bn} 1 d] else[])->A 0=.int .i64 mid->A 3=.pointer (some ⟨H.next,0,none⟩)->A 5=.int .i64 lo->A 6=.int .i64 hi->A 8=lv->Qm prog Z6 ⟨Rt prog Tryz.f267 H λv H'=>Q7 120 H H' v W∧Ext H H',WJ⟩ (Rt prog Tryz.f267 H λv H'=>Q7 120 H H' v W∧Ext H H') A H2:=by
  intro ws lv A H2 hw2 hx2 hl2 hn2 e r0 r3 r5 r6 r8;obtain⟨la,lc,rfl⟩:=hl2.slc;have hle:=hx1.next;have k2:=(hx2.get H.next (by omega)).trans g1;simp only[Z6,Qb,simprocAttr,r0,r3,r5,r6,r8,k2,lw1];refine(Qk3 (mid:=mid) (rm:=4) (sib:=32+lo) (d:=d) (x:=0) (b:=hi) (sh:=!lo==5) hm (by decide) (by omega) H2).thenW ?_;rintro v3 H3 n3 w3 ⟨l3,x3⟩;obtain⟨a3,c3,rfl⟩:=l3.slc;simp only[Qb,simprocAttr];have hlen:=QxE mid 4 (32+lo) d (!lo==5) 0 hi;refine QHs hw2 hl2 hx2 x3 w3 l3 (by omega) (by omega) λv4 H4 l4 x4 w4=>?_;obtain⟨a4,c4,rfl⟩:=l4.slc;have k4:=(x4.get H.next (by omega)).trans g1;simp only[Qb,simprocAttr,r3,k4];cases c:bn==4 with
  | true=>
   rw[c,Le (by decide),Na]at e;simp only[Qb,simprocAttr,c,Xv];exact .mk (hx1.trans x4).next ⟨by rw[e];exact l4.down hx1.next,hx1.trans x4⟩
  | false=>
   rw[c,Lc (by decide)]at e;simp only[Qb,simprocAttr,r0,r3,k4,c,Lw,List.take];refine(q6 H4).thenW ?_;rintro v5 H5 n5 w5 ⟨⟨sv,rfl,g5⟩,x5⟩;simp only[Qb,simprocAttr];refine QvP (w:=Qmo mid ⟨bc,bn⟩ 1 d) w4 l4 x4 x5 w5 g5 (by rw[Lh];omega) λv' H' q1 q2 q3=>?_;simp only[Qb,simprocAttr,Xv];exact .mk (hx1.trans q2).next ⟨by rw[e,<- LQ];exact q1.down hx1.next,hx1.trans q2⟩
 have tl2:∀ (A:Env) (H2:Qa),H2.Wf->Ext H1 H2->W=(if(!lo==4)=true then QoT mid lo (-1) d (!lo==5) 0 hi else[])++(QoT mid 4 (32+lo) d (!lo==5) 0 hi++if(!bn==4)=true then[Qmo mid {c:=bc,n:=bn} 1 d] else[])->A 0=.int .i64 mid->A 3=.pointer (some ⟨H.next,0,none⟩)->A 5=.int .i64 lo->A 6=.int .i64 hi->Qm prog Z7 ⟨Rt prog Tryz.f267 H λv H'=>Q7 120 H H' v W∧Ext H H',WJ⟩ (Rt prog Tryz.f267 H λv H'=>Q7 120 H H' v W∧Ext H H') A H2:=by
  intro A H2 hw2 hx2 e r0 r3 r5 r6;have hle:=hx1.next;have k2:=(hx2.get H.next (by omega)).trans g1;simp only[Z7,Qb,simprocAttr,r0,r3,r5,r6];cases c:lo==4 with
  | true=>
   rw[c,Le (by decide)]at e;simp only[Qb,simprocAttr,c];refine tl1 [] _ _ H2 hw2 hx2 (Q7.nil _ _ _) (by simp) e ?_ ?_ ?_ ?_ rfl
   all_goals simp only[Qg,simprocAttr,r0,r3,r5,r6]
  | false=>
   rw[c,Lc (by decide)]at e;simp only[Qb,simprocAttr,r0,r3,r5,r6,k2,c];refine(Qk3 (mid:=mid) (rm:=lo) (sib:=-1) (d:=d) (x:=0) (b:=hi) (sh:=!lo==5) hm hl (by decide) H2).thenW ?_;rintro v3 H3 n3 w3 ⟨l3,x3⟩;simp only[Qb,simprocAttr];refine tl1 _ v3 _ H3 w3 (hx2.trans x3) (l3.down hx2.next) (QxE ..) e ?_ ?_ ?_ ?_ ?_
   all_goals simp only[Qg,simprocAttr,r0,r3,r5,r6]
 refine⟨by omega,(q1 H1).thenW ?_⟩;rintro _ _ hn2 hw2 ⟨rfl,k2,rfl⟩;simp only[Ql]at hn2;simp only[Qb,simprocAttr,g1,Lw,List.take];have hxa:=(Ext.refl H1).up hn2;refine⟨hxa.eqB,by simp[Qh,Ab.plain],(q2 (H1.up k2)).thenW ?_⟩;rintro _ _ hn3 hw3 ⟨rfl,k3,rfl⟩;simp only[Ql]at hn3;have hxb:=hxa.up (m:=k3) hn3;have k4:((H1.up k2).up k3).get H.next=_:=(hxb.get H.next (by omega)).trans g1;generalize (H1.up k2).up k3=H2 at *;have hb2:=hxb.next;cases c8:bc==8 with
 | true=>
  rw[c8,Lc rfl]at eW;simp only[Qb,simprocAttr,k4,c8];refine⟨by omega,(QcF 0 mid 5 (-1) (by decide) hm (by decide) (by decide) H2).thenW ?_⟩;rintro v3 H3 n3 w3 ⟨g3,x3⟩;obtain⟨a3,c3,rfl⟩:=g3.slc;have k5:=(x3.get H.next (by omega)).trans k4;simp only[Qb,simprocAttr,k5];refine⟨x3.eqB,by simp[Qh,Ab.plain],(Qnh d H3).thenW ?_⟩;rintro v4 H4 n4 w4 ⟨g4,x4⟩;obtain⟨a4,c4,rfl⟩:=g4.slc;simp only[Qb,simprocAttr];refine Zp (H0:=H2) (g3.go w3 x4) (x3.trans x4) w4 g4.src (ZJ _) (by rw[Xd,NH]) (by rw[show(YW 0 mid 5 (-1)).length=1 from rfl,show(JD d).length=4 from rfl];omega) (by rw[show(YW 0 mid 5 (-1)).length=1 from rfl,show(JD d).length=4 from rfl];omega) λv5 H5 g5 k5=>?_;obtain⟨a5,c5,rfl⟩:=g5.slc;have gl:Gx 1 5 H2 H5 (.slice a5 ((YW 0 mid 5 (-1)).length+(JD d).length) c5) (YW 0 mid 5 (-1)++JD d).length (bys (YW 0 mid 5 (-1)++JD d)):=by rw[Lh,Je];exact g5
  have hx5:=hxb.trans k5.x;simp only[Qb,simprocAttr,Xv];refine .mk (((hx1.trans hx5).push _).next) ⟨?_,(hx1.trans hx5).push _⟩;rw[eW];exact QAP (w:=⟨YW 0 mid 5 (-1)++JD d,0,0⟩) k5.w (hx1.trans hx5) (gl.down (hx1.trans hxb).next)
 | false=>
  rw[c8,Le (by decide)]at eW;simp only[Vz,Qb,simprocAttr,k4,c8];cases c0:bc==0 with
  | true=>
   rw[c0,Lc rfl]at eW;simp only[Qb,simprocAttr,k4,c0,Lw,List.take];refine(q5 H2).thenW ?_;rintro v5 H5 n5 w5 ⟨⟨sv,rfl,g5⟩,x5⟩;simp only[Qb,simprocAttr,Xv];have hx5:=(hx1.trans hxb).trans x5;refine .mk ((hx5.push _).next) ⟨?_,hx5.push _⟩;rw[eW];exact QAP w5 hx5 (g5.down (hx1.trans hxb).next)
  | false=>
   rw[c0,Le (by decide)]at eW;simp only[Vy,Qb,simprocAttr,k4,c0];cases ci:ic==0 with
   | true=>
    rw[ci,Le (by decide)]at eW;simp only[Qb,simprocAttr,ci];refine tl2 _ H2 hw3 hxb eW ?_ ?_ ?_ ?_
    all_goals simp only[Qg,simprocAttr]
   | false=>
    rw[ci,Lc (by decide)]at eW;simp only[Vw,Qb,simprocAttr,k4,ci];have v1:IntKind.i64.wrap (64 * Wp sc)=64 * Wp sc:=w64 (by unfold I64;omega);have v2:IntKind.i64.wrap (8 * li)=8 * li:=w64 (by unfold I64;omega);have v3:IntKind.i64.wrap (64 * Wp sc+8 * li)=64 * Wp sc+8 * li:=w64 (by unfold I64;omega);have v4:IntKind.i64.wrap (64 * Wp sc+8 * li+lo)=64 * Wp sc+8 * li+lo:=w64 (by unfold I64;omega);refine⟨by omega,(QqL sc H2).thenW ?_⟩;rintro _ H5 _ _ ⟨rfl,rfl⟩;simp only[Qb,simprocAttr,k4,v1,Lw,List.take,List.drop];refine⟨(Ext.refl _).eqB,by simp[Qh,Ab.plain],(q3 _).thenW ?_⟩;rintro _ _ hn6 hw6 ⟨rfl,k6,rfl⟩;simp only[Ql]at hn6;have hxc:=hxb.up (m:=k6) hn6;have k7:=(hxc.get H.next (by omega)).trans g1;generalize Qa.up _ k6=H6 at *;have hb6:=hxc.next;simp only[Qb,simprocAttr,k7,v2,v3,v4,Lw,List.take,List.drop];refine⟨by simp[Qh,Ab.plain],(q4 _).thenW ?_⟩;rintro _ _ hn8 hw8 ⟨rfl,k8,rfl⟩;simp only[Ql]at hn8;have hxd:=hxc.up (m:=k8) hn8;have hxe:=(Ext.refl H6).up (m:=k8) hn8;generalize Qa.up _ k8=H8 at *;simp only[Qb,simprocAttr];refine⟨hxe.eqB,(Qk3 (mid:=mid) (rm:=4) (sib:=64 * Wp sc+8 * li+lo) (d:=d) (x:=hh) (b:=hi) (sh:=!lo==5) hm (by decide) (by omega) H8).thenW ?_⟩;rintro v9 H9 n9 w9 ⟨l9,x9⟩;simp only[Qb,simprocAttr,Xv];have hx9:=(hx1.trans hxd).trans x9;exact .mk hx9.next ⟨by rw[eW];exact l9.down (hx1.trans hxd).next,hx9⟩
theorem QDx (n:Int):IntKind.u8.wrap n=n % 256:=by
 unfold IntKind.wrap;simp[IntKind.bits,IntKind.signed]
theorem Qk4 (n:Int):IntKind.u64.wrap n=n % 18446744073709551616:=by
 unfold IntKind.wrap;simp[IntKind.bits,IntKind.signed]
theorem QuE (n:Int):IntKind.i64.wrap n=if n % 18446744073709551616>=9223372036854775808 then n % 18446744073709551616 - 18446744073709551616 else n % 18446744073709551616:=by
 unfold IntKind.wrap;simp[IntKind.bits,IntKind.signed]
theorem QHt (d:Int)(hd:-2147483648<=d∧d<=2147483647):QoJ d 8=(decide (-128<=d)&&decide (d<=127)):=by
 have e:(2:Int) ^ (min (64 - (8:Int)).toNat 64)=72057594037927936:=by decide
 have h:QfU d 8=(IntKind.i64.wrap (IntKind.u64.wrap (IntKind.u64.wrap d * 72057594037927936))) / 72057594037927936:=by
  unfold QfU;rw[Le (by decide),e,Np _ (by decide)]
 have hc:Yf 8=true:=by decide
 unfold QoJ;rw[h,hc,LJ,QuE,Qk4,Qk4]
 by_cases h1:-128<=d∧d<=127
 ·rw[Lp h1.1,Lp h1.2,Bj,L0];split<;>omega
 ·have:(decide (-128<=d)&&decide (d<=127))=false:=by
   rw[BG,NY,NY];omega
  rw[this,LC];split<;>omega
theorem QDy (d:Int)(hd:-2147483648<=d∧d<=2147483647):(Kq d 4).1=JD d:=by
 have e:(2:Int) ^ (min (64 - (32:Int)).toNat 64)=4294967296:=by decide
 have h:QfU d 32=d:=by
  unfold QfU;rw[Le (by decide),e,Np _ (by decide),QuE,Qk4,Qk4];split<;>omega
 unfold Kq;rw[Le (by decide),Le (by rw[show(8:Int) * 4=32 from rfl];unfold QbX;rw[h];simp[Yf])];show Qe5 d 4=_;unfold Qe5 JD QoK;rw[show List.range 4=[0,1,2,3] from rfl];simp only[List.map,QDx,Qk4];rw[show(2:Int) ^ (min (8 * 0) 64)=1 from rfl,show(2:Int) ^ (min (8 * 1) 64)=256 from rfl,show(2:Int) ^ (min (8 * 2) 64)=65536 from rfl,show(2:Int) ^ (min (8 * 3) 64)=16777216 from rfl];simp only[Np _ (show(0:Int)<=1 by decide),Np _ (show(0:Int)<=256 by decide),Np _ (show(0:Int)<=65536 by decide),Np _ (show(0:Int)<=16777216 by decide)];congr 1
 ·omega
 congr 1
 ·omega
 congr 1
 ·omega
 congr 1;omega
theorem QID (d:Int)(hf:QoJ d 8=true):(Kq d 1).1=[IntKind.u8.wrap d]:=by
 unfold QoJ at hf;unfold Kq;rw[Le (by decide),Le (by rw[show(8:Int) * 1=8 from rfl];unfold QbX;simp at hf;simp[hf])];show Qe5 d 1=_;unfold Qe5 QoK;rw[show List.range 1=[0] from rfl];simp only[List.map,QDx,Qk4];rw[show(2:Int) ^ (min (8 * 0) 64)=1 from rfl,Np _ (show(0:Int)<=1 by decide)];congr 1;omega
theorem Qk5 (mid rm sib:Int)(m:Mm)(hd:-2147483648<=m.d∧m.d<=2147483647):QoT mid rm sib m.d (!(Wg m.b==5)) (We m.i) (We m.b)=YV mid rm (if 0<=sib then[sib] else[]) m:=by
 have e:YV mid rm (if 0<=sib then[sib] else[]) m=Zw mid rm (if 0<=sib then[sib] else[]) m 0++(Zw mid rm (if 0<=sib then[sib] else[]) m 1++(Zw mid rm (if 0<=sib then[sib] else[]) m 2++[])):=rfl;rw[e,Na];unfold QoT th0 th1 YW Zw QFp QkY;rw[<- QHt m.d hd,<- QDy m.d hd];simp only[N3,Le (show ¬ (1:Nat)=0 by decide),Le (show ¬ (2:Nat)=0 by decide),Le (show ¬ (2:Nat)=1 by decide),Na];congr 1
 ·rw[Bool.and_comm];rfl
 congr 1
 by_cases hf:QoJ m.d 8=true
 ·rw[Lc hf,Lc hf,QID m.d hf];rfl
 ·rw[Le hf,Le hf]
theorem QqM (mid:Int)(ix:Rg)(f d:Int)(hd:-2147483648<=d∧d<=2147483647)(h:isR ix 0 0=(ix.c==0))(hf:isR ix 0 0=true->Wp f=0):Qmo mid ix f d=Qa4 mid ix f d:=by
 unfold Qmo Qa4 YW;rw[<- QDy d hd,h];have hl:=Jp ix;have hs:=Qc3 f;cases hc:ix.c==0 with
 | true=>
  rw[h]at hf;have h0:=hf hc;simp only[N3,Lq,h0];rfl
 | false=>
  simp only[Ls,Le RW];rw[Lc (by omega)];simp only[Qz,Nm,LH];rw[show 64 * Wp f+8 * Wg ix+5=Wp f * 64+Wg ix * 8+5 by omega]
structure QHu (m:Mm):Prop where
 d:-2147483648<=m.d∧m.d<=2147483647
 b:isR m.b 0 0=(m.b.c==0)
 i:isR m.i 0 0=(m.i.c==0)
 s:isR m.i 0 0=true->m.sc=0
theorem QHv {r:Rg}(h:isR r 0 0=true∨isR r 8 0=true∨JC r=true):isR r 0 0=(r.c==0):=by
 obtain⟨c,n⟩:=r;unfold isR JC at *;simp only[Lm,L0]at h;rcases h with⟨h1,h2⟩ | ⟨h1,h2⟩ | ⟨h1,h2⟩<;>subst h1<;>simp_all
theorem QIE {m:Mm}(h:Qw m=0):QHu m:=by
 refine⟨QxA h,?_,?_,?_⟩
 all_goals
  unfold Qw at h;split at h
  ·simp at h
  split at h
  ·simp at h
  split at h
  ·simp at h
  split at h
  ·simp at h
  rename_i h3 h4;have h3:=Bool.eq_false_iff.2 h3;have h4:=Bool.eq_false_iff.2 h4
 ·refine QHv ?_;cases q1:isR m.b 0 0<;>cases q2:isR m.b 8 0<;>cases q3:JC m.b<;>simp_all
 ·split at h
  ·rename_i h5;exact QHv (.inl h5)
  ·split at h
   ·simp at h
   ·rename_i h6;refine QHv (.inr (.inr ?_));cases q:JC m.i with
    | true=>rfl
    | false=>simp[q]at h6
 ·intro hi;rw[hi,LJ]at h4;simpa using h4
theorem QJM {m:Mm}(h:Qw m=0):QHu (Y4 m):=by
 have h0:=QIE h;refine⟨by rw[QxB];exact h0.d,?_,?_,?_⟩
 all_goals
  unfold Y4;split
  ·first | exact h0.b | exact h0.i | exact h0.s
  split
  ·first | exact h0.i | rfl | exact λ_=>rfl
  split
  ·first | exact h0.i | exact h0.b | (rename_i q1 q2 q3;exact λq=>absurd q q2)
  ·first | exact h0.b | exact h0.i | exact h0.s
theorem QzA {mid:Int}{m:Mm}(h:QHu m):QxD mid m=QdV mid m:=by
 have hl:=Jp m.b;have hl2:=Jp m.i;have hsc:=Qc3 m.sc;unfold QxD QdV
 by_cases h8:(m.b.c==8)=true
 ·rw[Lc h8,Lc h8,QDy _ h.d];rfl
 ·rw[Le h8,Le h8,<- h.b]
  by_cases h0:isR m.b 0 0=true
  ·rw[Lc h0,Lc h0,QqM mid m.i m.sc m.d h.d h.i λq=>by rw[h.s q];rfl]
  ·rw[Le h0,Le h0,<- h.i];cases hi:isR m.i 0 0 with
   | false=>
    rw[Lc (show(!false)=true from rfl),Lc (show false=false from rfl),Qk5 _ _ _ _ h.d,Lc (by omega)];unfold Qz;rw[show 64 * Wp m.sc+8 * Wg m.i+Wg m.b=Wp m.sc * 64+Wg m.i * 8+Wg m.b by omega]
   | true=>
    have hh:We m.i=0:=by
     obtain⟨⟨bc,bn⟩,⟨ic,nn⟩,sc,d,sz⟩:=m;unfold isR at hi;simp only[Lm,L0]at hi;obtain⟨rfl,rfl⟩:=hi;exact rfl
    rw[Le (show ¬ (!true)=true by decide),Le (show ¬true=false by decide),QqM mid m.b 1 m.d h.d h.b λq=>absurd q h0];have e1:=Qk5 mid (Wg m.b) (-1) m h.d;have e2:=Qk5 mid 4 (32+Wg m.b) m h.d;rw[hh]at e1 e2;rw[e1,e2,Le (show ¬ (0:Int)<=-1 by decide),Lc (show(0:Int)<=32+Wg m.b by omega)];have e3:Qz 0 4 (Wg m.b)=32+Wg m.b:=by unfold Qz;omega
    rw[e3];congr 1
    ·cases Wg m.b==4<;>rfl
    congr 1;cases m.b.n==4<;>rfl
theorem QDz (mid:Int)(a:Ar):(QcE mid a).1.length<=8:=by
 have:=QsN mid (Y4 a.m);unfold QcE
 repeat' split
 all_goals first | exact this | simp
theorem QB5 (mid:Int)(a:Ar)(H:Qa):Qe prog 128 [.int .i64 mid,.agg a.cells.toArray] H λu H'=>∃v,u=.tuple #[v,.int .i64 (QcE mid a).2]∧Q7 120 H H' v (QcE mid a).1∧Ext H H':=by
 refine QkK λhw=>?_;have q1:=Zo a;have q2:=Qef a.r;have q3:=QcC a.r;have q4:=Qcl a.m;have hce:Qa3 a.m=if Qw a.m=0 then(Y4 a.m,0) else(J7,Qw a.m):=rfl
 have hck:∀h:(a.k==2)=true,Wn a=Qw a.m:=λh=>by
  have:a.k=2:=by simpa using h
  simp[Wn,this]
 have hlr:=Jp a.r;obtain⟨w,ew⟩:∃w,w=QcE mid a:=⟨_,rfl⟩;rw[<- ew];unfold QcE at ew;have ex:(Value.agg a.cells.toArray).cells.toList=a.cells:=rfl;have hx1:=(Ext.refl H).push (.cells a.cells 58 false);have hw1:=hw.push (.cells a.cells 58 false);have hg1:(H.push (.cells a.cells 58 false)).get H.next=some (.cells a.cells 58 false):=by rw[Qd,Lc rfl]
 have hn1:(H.push (.cells a.cells 58 false)).next=H.next+1:=rfl;have e11:a.cells.take 11=a.cells:=rfl;simp only[Qdb,ex,KG,simprocAttr];generalize H.push (.cells a.cells 58 false)=H1 at *;have hbad:∀ (A:Env),w=([],5)->A 4=.slice none 0 0->A 5=.int .i64 5->Rt prog Tryz.f128 H (λu H'=>∃v,u=.tuple #[v,.int .i64 w.2]∧Q7 120 H H' v w.1∧Ext H H') A H1:=by
  intro A e r4 r5;subst e;simp only[Yg,r4,r5];exact .mk hx1.next ⟨_,rfl,Q7.nil _ _ _,hx1⟩
 have hgood:(decide (mid<0)||decide (mid>7))=false->∀ (A:Env),A 0=.int .i64 mid->A 3=.pointer (some ⟨H.next,0,none⟩)->Qm prog JY ⟨Rt prog Tryz.f128 H (λu H'=>∃v,u=.tuple #[v,.int .i64 w.2]∧Q7 120 H H' v w.1∧Ext H H'),WJ⟩ (Rt prog Tryz.f128 H (λu H'=>∃v,u=.tuple #[v,.int .i64 w.2]∧Q7 120 H H' v w.1∧Ext H H')) A H1:=by
  intro hm A r0 r3;have hmid:0<=mid∧mid<8:=by simp at hm;omega
  rw[hm,Le (by simp)]at ew;simp only[JY,Qb,simprocAttr,r0,r3,hg1,Lw,e11];refine⟨Lb _,?_⟩;refine(q1 H1).thenW ?_;rintro _ _ hn2 hw2 ⟨rfl,k,rfl⟩;simp only[Ql]at hn2;have hx2:=hx1.up hn2;have hg2:(H1.up k).get H.next=some (.cells a.cells 58 false):=by rw[Y0];exact hg1
  have hn22:H.next<(H1.up k).next:=by rw[Ql];omega
  generalize H1.up k=H2 at *;simp only[Qb,simprocAttr];cases he:Wn a==0 with
  | false=>
   rw[he,Lc rfl]at ew;subst ew;simp only[Qb,simprocAttr,LM,Yg];exact .mk hx2.next ⟨_,rfl,Q7.nil _ _ _,hx2⟩
  | true=>
   rw[he,Le (by simp)]at ew;have he0:Wn a=0:=by simpa using he
   obtain⟨k',⟨rc,rn⟩,⟨⟨bc,bn⟩,⟨ic,nn⟩,sc,d,sz⟩,n⟩:=a;simp only[Ar.cells,Rg.cells,Mm.cells]at hg2 q2 q3 q4;simp only[Qbr,Qb,simprocAttr,L8,r0,r3,hg2];simp only at ew hlr hce hck;refine Qf (λh=>?_) (λh=>?_)
   ·rw[h,Lc rfl]at ew;simp only[Qbo,Qb,simprocAttr,r0,r3,hg2];refine⟨hn22,(q2 H2).thenW ?_⟩;rintro _ _ hn3 hw3 ⟨rfl,k3,rfl⟩;simp only[Ql]at hn3;have hx3:=hx2.up hn3;have hg3:=hg2;rw[<- Y0 H2 k3]at hg3;have hn33:H.next<(H2.up k3).next:=by rw[Ql];omega
    have hxb:=((Ext.refl H2).up hn3).eqB;generalize H2.up k3=H3 at *;simp only[Qb,simprocAttr,r3];refine⟨hxb,hn33,(QcF 3 mid _ (-1) (by decide) hmid hlr (by decide) H3).thenW ?_⟩;rintro v4 H4 n4 w4 ⟨g4,x4⟩;obtain⟨a4,c4,rfl⟩:=g4.slc;have k4:=(x4.get H.next hn33).trans hg3;have hn44:H.next<H4.next:=by omega
    simp only[Qb,simprocAttr,r3,k4];refine⟨x4.eqB,by simp[Qh,Ab.plain],(q3 H4).thenW ?_⟩;rintro _ _ hn5 hw5 ⟨rfl,k5,rfl⟩;simp only[Ql]at hn5;have hx5:=(hx3.trans x4).up hn5;have hg5:=g4.go w4 ((Ext.refl H4).up hn5);generalize H4.up k5=H5 at *;simp only[Qb,simprocAttr,Yg];refine .mk (hx5.push _).next ⟨_,by rw[ew],?_,hx5.push _⟩;rw[ew];exact QAP (w:=⟨[Qz 3 mid (Wg ⟨rc,rn⟩)],0,We ⟨rc,rn⟩⟩) hw5 hx5 (hg5.down hx3.next)
   ·rw[h,Le (by simp)]at ew;simp only[Qbq,Qb,simprocAttr,r0,r3];refine Qf (λh2=>?_) (λh2=>?_)
    ·rw[h2,Lc rfl]at ew;simp only[Qbp,Qb,simprocAttr,r0,r3,hg2];have hm0:=(hck h2).symm.trans he0;rw[Lc hm0]at hce;rw[hce]at q4;refine(q4 H2).thenW ?_;rintro _ _ hn3 hw3 ⟨rfl,k3,rfl⟩;simp only[Ql]at hn3;have hx3:=hx2.up hn3;generalize H2.up k3=H3 at *;have hpl:=QJM hm0;generalize hcm:Y4 ⟨⟨bc,bn⟩,⟨ic,nn⟩,sc,d,sz⟩=m at *;simp only[Mm.cells,Qb,simprocAttr,LO,L8,r0];generalize hH4:Qa.set (Qa.push H3 _) _ _=H4;have hx4:Ext H H4:=by rw[<- hH4];exact(hx3.push _).set (by have:=hx3.next;omega) _
     clear hH4;have qw:=QxF mid m hmid H4;simp only[Mm.cells]at qw;refine qw.thenW ?_;rintro v H6 _ _ ⟨hv,hx6⟩;have hx7:=hx4.trans hx6;rw[QzA hpl]at hv;simp only[Qb,simprocAttr,Yg];exact .mk hx7.next ⟨v,by rw[ew],by rw[ew];exact hv.down hx4.next,hx7⟩
    ·rw[h2,Le (by simp)]at ew;subst ew;simp only[Qb,simprocAttr,Yg];exact .mk hx2.next ⟨_,rfl,Q7.nil _ _ _,hx2⟩
 cases h1:decide (mid<0) with
 | true=>
  rw[h1,N1,Lc rfl]at ew;simp only[Qb,simprocAttr];refine hbad _ ew ?_ ?_
  all_goals simp only[Qg,simprocAttr]
 | false=>
  cases h2:decide (mid>7) with
  | true=>
   rw[h1,h2,Bd,Lc rfl]at ew;simp only[Qb,simprocAttr,h2];refine hbad _ ew ?_ ?_
   all_goals simp only[Qg,simprocAttr]
  | false=>
   simp only[Qb,simprocAttr,h2];refine hgood (by rw[h1,h2];rfl) _ ?_ ?_
   all_goals simp only[Qg,simprocAttr]
def arS (f:Fm)(l:List Ar)(s:Int):Ar:=if 0<=Qn f.slots s then l[(Qn f.slots s).toNat]?.getD Wc else Wc
theorem Qk6 {x:Lf}{op:Int}{va:Value}{l:List Ar}(s:Int)(H:Qa)(hx:x.At H)(ha:Qv H va l)(hl:l.length<=1000)(hn:x.f.slots.length=l.length):
  Qe prog 85 [.agg x.cells.toArray,.agg #[.int .i64 op,va],.int .i64 s] H λu H'=>u=.agg (arS x.f l s).cells.toArray∧Ext H H':=by
 refine QlM λhw=>?_;have ec:(Value.agg x.cells.toArray).cells.toList=x.cells:=rfl;have e10:x.cells.take 10=x.cells:=rfl;have l10:10<=x.cells.length:=Lb _;have hlt:=QpL x.f.slots s;obtain⟨r,er⟩:∃r,r=arS x.f l s:=⟨_,rfl⟩;rw[<- er];unfold arS at er;obtain⟨a0,cap,rfl⟩:=Qu ha;simp only[QdS,ec,KG,simprocAttr];generalize hH1:Qa.push (Qa.push (Qa.push H _) _) _=H1;have hx1:Ext H H1:=by rw[<- hH1];exact(((Ext.refl H).push _).push _).push _
 have hw1:H1.Wf:=by rw[<- hH1];exact((hw.push _).push _).push _
 have hn1:H1.next=H.next+3:=by rw[<- hH1];rfl
 have g0:H1.get H.next=some (.cells x.cells 45 false):=by rw[<- hH1,Qd,Le (by simp only[Qc];omega),Qd,Le (by simp only[Qc];omega),Qd,Lc rfl]
 have g1:H1.get (H.next+1)=some (.cells [.int .i64 op,.slice a0 l.length cap] 24 false):=by rw[<- hH1,Qd,Le (by simp only[Qc];omega),Qd,Lc (by simp only[Qc])];rfl
 have g2:H1.get (H.next+2)=some (.cells Wc.cells 58 false):=by rw[<- hH1,Qd,Lc (by simp only[Qc])];rfl
 clear hH1;have hx4:=hx.ext hw hx1;simp only[Qb,simprocAttr,g0,Lw,e10];refine⟨l10,?_⟩;refine(XB x s H1 hx4).thenW ?_;rintro _ _ hn5 hw5 ⟨rfl,k,rfl⟩;simp only[Ql]at hn5;have hx5:=hx1.up (m:=k) hn5;have k1:(H1.up k).get (H.next+1)=_:=(Y0 ..).trans g1;have k2:(H1.up k).get (H.next+2)=_:=(Y0 ..).trans g2;generalize Qa.up H1 k=H2 at *;simp only[Qb,simprocAttr];cases hz:decide (Qn x.f.slots s<0) with
 | true=>
  rw[Le (by have:=Lg hz;omega)]at er;simp only[Qb,simprocAttr,hz,k2,Qc7];refine⟨Lb _,.mk ?_ ⟨by rw[er];rfl,?_⟩⟩
  ·exact(hx5.set (i:=H.next+1+1) (by omega) _).next
  ·exact hx5.set (by omega) _
 | false=>
  have h0:0<=Qn x.f.slots s:=by have:=Ll hz;omega
  rw[Lc h0]at er;obtain⟨i,hi⟩:∃i:Nat,Qn x.f.slots s=i:=⟨(Qn x.f.slots s).toNat,by omega⟩;rw[hi]at er hz hlt ⊢;obtain⟨a,hai⟩:∃a,l[i]? = some a:=⟨_,La (by omega)⟩;have d3:(i:Int).toNat=i:=by omega
  rw[d3,hai]at er;obtain⟨_,_,hae,h1⟩:=id ha;cases hae;obtain⟨b,e,ro,rfl,hgb0⟩:=h1 (by omega);have hgb:H2.get b=some (.cells (Qi l) e ro):=by rw[hx5.get b (hw.lt hgb0)];exact hgb0
  have d1:(0:Int)<=i∧(i:Int)<l.length:=by omega
  have htk:=WI l i a hai;have hle:i * 11+11<=(Qi l).length:=by rw[QJ];omega
  simp only[Qb,simprocAttr,k1,d1,d3,hgb,htk];refine⟨hle,?_⟩;have er:r=a:=er;rw[er];obtain⟨ak,⟨ac,an⟩,⟨⟨bc,bn⟩,⟨ic,nn⟩,sc,d,sz⟩,n⟩:=a;have k3:H2.get (H.next+1+1)=some (.cells Wc.cells 58 false):=k2;simp only[Qb,simprocAttr,k3,Ar.cells,Qc7];refine .mk ?_ ⟨rfl,?_⟩
  ·exact(hx5.set (i:=H.next+1+1) (by omega) _).next
  ·exact hx5.set (by omega) _
theorem QvQ {v:Value}{bs:List Int}{H0:Qa}(H:Qa)(hv:Gx 1 5 H0 H v bs.length (bys bs))(hl:bs.length<=1000)(hb:∀c∈bs,0<=c∧c<256):
  Qe prog 90 [v] H λu H'=>u=.int .i64 (if bs.length=0 then -1 else if bs.getD 0 0 / 64=3 then -1 else if bs.getD 0 0 % 8=4 then(bs.length:Int) - 2 else(bs.length:Int) - 1)∧H'=H:=by
 refine Qhf λhw=>?_;obtain⟨a,c,rfl,hg⟩:∃a c,v=.slice a bs.length c∧(0<bs.length->∃b,a=some ⟨b,0,none⟩∧H.get b=some (.cells (bys bs) 5 false)):=by
  rcases hv with⟨rfl,h,_⟩ | ⟨b,c,rfl,_,h,_,_⟩
  ·exact⟨none,0,by rw[h],λh'=>by omega⟩
  ·exact⟨_,c,rfl,λ_=>⟨b,rfl,h⟩⟩
 simp only[Qaq,Qb,simprocAttr];rcases bs with _ | ⟨z,bs⟩
 ·have e0:(((0:Nat):Int)==0)=true:=rfl;simp only[L9,Qb,simprocAttr,e0,Yx];exact .mk (Lb _) ⟨rfl,rfl⟩
 ·obtain⟨b,rfl,hg2⟩:=hg (by simp);have hz:=hb z (Ny ..);have e1:(((bs.length+1:Nat):Int)==0)=false:=by rw[LC];omega
  have d1:(0:Int)<=0∧(0:Int)<((bs.length+1:Nat):Int):=by omega
  have d3:(0:Int).toNat=0:=rfl;have hl1:bs.length+1<=1000:=hl;have w1:IntKind.i64.wrap (((bs.length+1:Nat):Int) - 2)=((bs.length+1:Nat):Int) - 2:=w64 (by unfold I64;omega);have w2:IntKind.i64.wrap (((bs.length+1:Nat):Int) - 1)=((bs.length+1:Nat):Int) - 1:=w64 (by unfold I64;omega);have t1:z.tdiv 64=z / 64:=Int.tdiv_eq_ediv_of_nonneg hz.1;have t2:z.tmod 8=z % 8:=BM hz.1;have u8:∀z:Int,0<=z->z<256->IntKind.u8.wrap z=z:=λz a b=>by
   unfold IntKind.wrap;simp[IntKind.bits,IntKind.signed];omega
  have t3:=u8 (z / 64) (by omega) (by omega);have t4:=u8 (z % 8) (by omega) (by omega);have eg:(z::bs).getD 0 0=z:=rfl;have hg':H.get b=some (.cells (.int .u8 z::bys bs) 5 false):=hg2;have ex0:((.int .u8 z::bys bs):List Value)[0]? = some (.int .u8 z):=rfl;rw[eg];simp only[Lo,Qb,simprocAttr,hg',ex0,e1,d1,d3,t1,t2,t3,t4]
  try refine⟨by decide,?_⟩
  cases h3:z / 64==3 with
  | true=>
   simp only[Qb,simprocAttr,Yx];exact .mk (Lb _) ⟨by rw[Lc (by simpa using h3)],rfl⟩
  | false=>
   rw[Le (show ¬z / 64=3 by simpa using h3)];simp only[GD,Qb,simprocAttr,hg',ex0,d1,d3,t2,t4]
   try refine⟨by decide,?_⟩
   cases h4:z % 8==4 with
   | true=>
    simp only[Qb,simprocAttr,w1,Yx];exact .mk (Lb _) ⟨by rw[Lc (by simpa using h4)],rfl⟩
   | false=>
    simp only[Qb,simprocAttr,w2,Yx];exact .mk (Lb _) ⟨by rw[Le (by simpa using h4)],rfl⟩
def QsU (n:Int)(k:Nat):List Int:=(List.range k).map λj=>IntKind.u8.wrap (n.fdiv (2 ^ (min (8 * j) 64)))
theorem QB6 (n:Int)(k:Nat):QsU n (k+1)=QsU n k++[IntKind.u8.wrap (n.fdiv (2 ^ (min (8 * k) 64)))]:=by
 unfold QsU;rw[R0,N6];rfl
theorem QoW (n:Int)(k:Nat):(QsU n k).length=k:=by unfold QsU;rw[Nn,BO]
def QoX (f:Fm)(op:Int)(l:List Ar):List Int:=(if 0<=Qn f.slots 5 then QsU (QoU f op l) (tlN f).toNat else[])++(if 0<=Qn f.slots 7 then[isB (l[(Qn f.slots 7).toNat]?.getD Wc).r.n] else[])
section
variable {x:Lf} {op:Int} {va:Value} {l:List Ar} {H:Qa}
abbrev KTr (H:Qa)(W:List Int):Env->Qa->Prop:=Rt prog Tryz.f86 H λv H'=>Gx 1 5 H H' v W.length (bys W)∧Ext H H'
theorem QGw {Hb:Qa}(hxb:Ext H Hb)(hlb:H.next+2<=Hb.next)(hw:H.Wf)(ha:Qv H va l)(hl:l.length<=1000){W w:List Int}{s:Int}(hs:s<l.length)(hwl:w.length<=1000)(eW:W=w++(if 0<=s then[isB (l[s.toNat]?.getD Wc).r.n] else[])){A:Env}{H1:Qa}{v:Value}(hx1:Ext Hb H1)(hw1:H1.Wf)(g3:Hb.get (H.next+1)=some (.cells [.int .i64 op,va] 24 false))(r3:A 3=.pointer (some ⟨H.next+1,0,none⟩))(r5:A 5=v)(r7:A 7=.int .i64 s)(hv:Gx 1 5 Hb H1 v w.length (bys w)):
  Qm prog YP ⟨KTr H W,WJ⟩ (KTr H W) A H1:=by
 obtain⟨a0,cap,rfl,h1⟩:=ha;have g3:=(hx1.get (H.next+1) (by omega)).trans g3;have hx:=hxb.trans hx1;simp only[YP,Qb,simprocAttr,r7,Ft];refine Qf (λh=>?_) (λh=>?_)
 ·have h0:0<=s:=Lg h;rw[Lc h0]at eW;obtain⟨i,rfl⟩:∃i:Nat,s=i:=⟨s.toNat,by omega⟩;have hil:i<l.length:=by omega
  obtain⟨a,hai⟩:∃a,l[i]? = some a:=⟨_,La hil⟩;obtain⟨b,e,ro,rfl,hgb0⟩:=h1 (by omega);have hgb:H1.get b=some (.cells (Qi l) e ro):=by rw[hx.get b (hw.lt hgb0)];exact hgb0
  have hrg:=QkX hai;have d1:(0:Int)<=i∧(i:Int)<l.length:=by omega
  have d3:(i:Int).toNat=i:=by omega
  have hgd:(l[(i:Int).toNat]?.getD Wc).r.n=a.r.n:=by rw[d3,hai];rfl
  rw[hgd]at eW;have ei:IntKind.u8.wrap (IntKind.i64.wrap (16 * a.r.n))=isB a.r.n:=rfl;simp only[Qaj,Qb,simprocAttr,r3,r5,r7,g3,d1,d3,hgb,hrg,ei];refine Zp (ms:=[.int .u8 (isB a.r.n)]) (m:=1) (hv.go hw1 ((Ext.refl H1).push _)) (hx1.push _) (hw1.push _) (QnR (by rw[Qd,Lc rfl])) rfl rfl (by omega) (by omega) ?_;intro v2 H2 hv2 hk2;simp only[Qb,simprocAttr,Qbi];have e2:W.length=w.length+1:=by rw[eW,Lh,Bb]
  have e3:bys W=bys w++[.int .u8 (isB a.r.n)]:=by rw[eW,bys,bys,N6];rfl
  have hx2:=hxb.trans hk2.x;exact .mk hx2.next ⟨by rw[e2,e3];exact hv2.down hxb.next,hx2⟩
 ·rw[Le (by have:=Ll h;omega),Na]at eW;simp only[Qb,simprocAttr,r5,Qbi];exact .mk hx.next ⟨by rw[eW];exact hv.down hxb.next,hx⟩
theorem QGx {Hb:Qa}(hxb:Ext H Hb)(hlb:H.next+2<=Hb.next)(hw:H.Wf)(hx:x.At H)(ha:Qv H va l)(hl:l.length<=1000){W:List Int}{s N:Int}(es:s=Qn x.f.slots 7)(hs:s<l.length)(eW:W=QsU N (tlN x.f).toNat++(if 0<=s then[isB (l[s.toNat]?.getD Wc).r.n] else[])){A:Env}{H1:Qa}(hx1:Ext Hb H1)(hw1:H1.Wf)(g2:Hb.get H.next=some (.cells x.cells 45 false))(g3:Hb.get (H.next+1)=some (.cells [.int .i64 op,va] 24 false))(r2:A 2=.pointer (some ⟨H.next,0,none⟩))(r3:A 3=.pointer (some ⟨H.next+1,0,none⟩))(r5:A 5=.slice none 0 0)(r7:A 7=.int .i64 s)(r8:A 8=.int .i64 N):
  Qm prog Jr ⟨KTr H W,WJ⟩ (Qm prog YP ⟨KTr H W,WJ⟩ (KTr H W)) A H1:=by
 have e10:x.cells.take 10=x.cells:=rfl;have l10:10<=x.cells.length:=Lb _;have g4:=(hx1.get H.next (by omega)).trans g2;have htl:0<=tlN x.f∧tlN x.f<=9:=by
  have:=QsD x.f;unfold tlN tlF
  by_cases h:0<=Qn x.f.slots 7
  ·rw[Lc h,Lp h,Lq];omega
  ·rw[Le h,Lj h,Ls];omega
 have ew:IntKind.i64.wrap (tlF x.f - (if decide (0<=s)=true then 1 else 0))=tlN x.f:=by
  have e1:tlF x.f - (if decide (0<=s)=true then 1 else 0)=tlN x.f:=by
   unfold tlN;rw[es]
   by_cases h:0<=Qn x.f.slots 7
   ·rw[Lc h,Lp h,Lc rfl]
   ·rw[Le h,Lj h,Le (by decide)];omega
  rw[e1];exact w64 (by unfold I64;omega)
 simp only[Jr,Qb,simprocAttr,r2,g4,Lw,e10];refine⟨l10,?_⟩;refine(Qzu x H1 (hx.ext hw (hxb.trans hx1))).thenW ?_;rintro _ _ hn2 hw2 ⟨rfl,k,rfl⟩;simp only[Ql]at hn2;have hx2:=hx1.up (m:=k) hn2;generalize Qa.up H1 k=H2 at *;simp only[Qb,simprocAttr,r7,Ft];refine(QB2 _ H2).thenW ?_;rintro _ H2 _ _ ⟨rfl,rfl⟩;simp only[Qb,simprocAttr,ew];obtain⟨t,et⟩:∃t:Nat,tlN x.f=t:=⟨(tlN x.f).toNat,by omega⟩;rw[et]at htl eW ⊢;have ett:(t:Int).toNat=t:=by omega
 rw[ett]at eW;refine Qo (λm A' H'=>∃j:Nat,j<=t∧m=t - j∧Ext Hb H'∧H'.Wf∧Gx 1 5 Hb H' (A' 5) (QsU N j).length (bys (QsU N j))∧A' 3=.pointer (some ⟨H.next+1,0,none⟩)∧A' 7=.int .i64 s∧A' 8=.int .i64 N∧A' 11=.int .i64 t∧A' 12=.int .i64 j) t ?_ ?_
 ·refine⟨0,by omega,rfl,hx2,hw2,?_,?_,?_,?_,?_,?_⟩
  all_goals simp only[Qg,simprocAttr,r3,r5,r7,r8]
  ·exact .inl ⟨rfl,rfl,rfl⟩
  all_goals rfl
 ·rintro m A' H' ⟨j,hj,rfl,hx',hw',hv,p3,p7,p8,p11,p12⟩;obtain⟨v,p5⟩:∃v,A' 5=v:=⟨_,rfl⟩;rw[p5]at hv;simp only[Qal,Qb,simprocAttr,p11,p12];refine Qf (λh2=>?_) (λh2=>?_)
  ·have h2:j<t:=by have:=Lg h2;omega
   have e1:IntKind.i64.wrap (8 * (j:Int))=8 * (j:Int):=w64 (by unfold I64;omega);have e2:(0:Int)<=8 * (j:Int):=by omega
   have e3:(8 * (j:Int)).toNat=8 * j:=by omega
   have e4:IntKind.i64.wrap ((j:Int)+1)=((j+1:Nat):Int):=by rw[w64 (by unfold I64;omega)];omega
   have e5:IntKind.i64.bits=64:=rfl;obtain⟨va,vc,rfl⟩:=hv.slc;simp only[Qak,Qb,simprocAttr,p5,p8,p12,e1,e2,e3,e5];refine Zp (ms:=[.int .u8 (IntKind.u8.wrap (N.fdiv (2 ^ (min (8 * j) 64))))]) (m:=1) (hv.go hw' ((Ext.refl H').push _)) (hx'.push _) (hw'.push _) (QnR (by rw[Qd,Lc rfl])) rfl rfl (by rw[QoW];omega) (by rw[QoW];omega) ?_;intro v2 H3 hv2 hk2;simp only[Qb,simprocAttr,p12,e4];refine⟨t - (j+1),by omega,j+1,by omega,rfl,hk2.x,hk2.w,?_,?_,?_,?_,?_,?_⟩
   all_goals simp only[Qg,simprocAttr,p3,p7,p8,p11]
   rw[QB6,Lh,Je];exact hv2
  ·have h2:j=t:=by have:=Ll h2;omega
   subst h2;simp only[Qb,simprocAttr];exact QGw hxb hlb hw ha hl hs (by rw[QoW];omega) eW hx' hw' g3 p3 p5 p7 hv
end
theorem QFy {x:Lf}{op:Int}{va:Value}{H:Qa}(hw:H.Wf)(hx:x.At H):∃H1,(H.push (.cells x.cells 45 false)).push (.cells [.int .i64 op,va] 24 false)=H1∧H1.get H.next=some (.cells x.cells 45 false)∧H1.get (H.next+1)=some (.cells [.int .i64 op,va] 24 false)∧Ext H H1∧H1.Wf∧x.At H1∧H1.next=H.next+2:=
 ⟨_,rfl,by rw[Qd,Le (by rw[Qc];omega),Qd,Lc rfl],by rw[Qd,Lc (by rw[Qc])],((Ext.refl H).push _).push _,(hw.push _).push _,hx.ext hw (((Ext.refl H).push _).push _),rfl⟩
theorem QzB {x:Lf}{op:Int}{va:Value}{l:List Ar}(H:Qa)(hx:x.At H)(ha:Qv H va l)(hl:l.length<=1000)(hI:∀a∈l,I64 a.n)(hn:x.f.slots.length=l.length):
  Qe prog 86 [.agg x.cells.toArray,.agg #[.int .i64 op,va]] H λv H'=>Gx 1 5 H H' v (QoX x.f op l).length (bys (QoX x.f op l))∧Ext H H':=by
 refine Qjy λhw=>?_;have ec:(Value.agg x.cells.toArray).cells.toList=x.cells:=rfl;have e10:x.cells.take 10=x.cells:=rfl;have l10:10<=x.cells.length:=Lb _;have hlt5:=QpL x.f.slots 5;have hlt7:=QpL x.f.slots 7;obtain⟨W,eW⟩:∃W,W=QoX x.f op l:=⟨_,rfl⟩;rw[<- eW];unfold QoX at eW;have ha0:=ha;obtain⟨a0,cap,rfl,h1⟩:=id ha;obtain⟨Hb,eb,g2,g3,hxb,hwb,hxB,hnb⟩:=QFy (op:=op) (va:=.slice a0 l.length cap) hw hx;simp only[Qb3,ec,Qb,simprocAttr,eb,g2,Lw,e10];refine⟨l10,?_⟩;refine(XB x 5 Hb hxB).thenW ?_;rintro _ _ hn2 hw2 ⟨rfl,k,rfl⟩;simp only[Ql]at hn2;have hx2:=(Ext.refl Hb).up (m:=k) hn2;generalize Qa.up Hb k=H2 at *;have k2:=(hx2.get H.next (by omega)).trans g2;simp only[Qb,simprocAttr,k2,Lw,e10];refine⟨l10,?_⟩;refine(XB x 7 H2 (hxB.ext hwb hx2)).thenW ?_;rintro _ _ hn3 hw3 ⟨rfl,k',rfl⟩;simp only[Ql]at hn3;have hx3:=hx2.up (m:=k') hn3;generalize Qa.up H2 k'=H3 at *;have k3:=(hx3.get (H.next+1) (by omega)).trans g3;simp only[Qb,simprocAttr,Ft];cases h:decide (0<=Qn x.f.slots 5) with
 | false=>
  rw[Le (Ll h),LH]at eW;simp only[Qb,simprocAttr];refine QGw hxb (by omega) hw ha (s:=Qn x.f.slots 7) (w:=[]) (v:=.slice none 0 0) hl (by omega) (by simp) (by rw[eW];rfl) hx3 hw3 g3 ?_ ?_ ?_ (.inl ⟨rfl,rfl,rfl⟩)
  all_goals simp only[Qg,simprocAttr]
 | true=>
  have h0:0<=Qn x.f.slots 5:=Lg h;rw[Lc h0]at eW;have eN:QoU x.f op l=if(l[(Qn x.f.slots 5).toNat]?.getD Wc).k=3 then(WZ (l[(Qn x.f.slots 5).toNat]?.getD Wc).n (QU op l).1 (QU op l).2).1 else(l[(Qn x.f.slots 5).toNat]?.getD Wc).n:=rfl
  obtain⟨i,hi⟩:∃i:Nat,Qn x.f.slots 5=i:=⟨(Qn x.f.slots 5).toNat,by omega⟩;rw[hi]at hlt5 eN ⊢;have hil:i<l.length:=by omega
  obtain⟨a,hai⟩:∃a,l[i]? = some a:=⟨_,La hil⟩;have d1:(0:Int)<=i∧(i:Int)<l.length:=by omega
  have d3:(i:Int).toNat=i:=by omega
  have hgd:l[(i:Int).toNat]?.getD Wc=a:=by rw[d3,hai];rfl
  rw[hgd]at eN;have hIa:I64 a.n:=hI a (Ln hai);have qi:=Qf1 a.n (QU op l).1 (QU op l).2 hIa;have qb:=λH2 (hxx:Ext H H2)=>Qea op _ l H2 (ha.ext hw hxx) hl;obtain⟨b,e,ro,rfl,hgb0⟩:=h1 (by omega);have hgb:H3.get b=some (.cells (Qi l) e ro):=by rw[(hxb.trans hx3).get b (hw.lt hgb0)];exact hgb0
  have hk0:(Qi l)[i * 11]? = some (.int .i64 a.k):=by
   have:=WI l i a hai;have h:=congrArg (λz=>z[0]?) this;simpa[Ar.cells,Nl,Nk] using h
  have hk10:(Qi l)[i * 11+10]? = some (.int .i64 a.n):=by
   have:=WI l i a hai;have h:=congrArg (λz=>z[10]?) this;simpa[Ar.cells,Nl,Nk] using h
  obtain⟨N,eNN⟩:∃N,N=QoU x.f op l:=⟨_,rfl⟩;rw[<- eNN]at eN eW;simp only[Qan,Qb,simprocAttr,k3,d1,d3,hgb,hk0,hk10];cases c:a.k==3 with
  | false=>
   rw[Le (by simpa using c)]at eN;rw[eN]at eW;simp only[Qb,simprocAttr,c];refine QGx hxb (by omega) hw hx ha hl rfl (by omega) eW hx3 hw3 g2 g3 ?_ ?_ ?_ ?_ ?_
   all_goals simp only[Qg,simprocAttr]
  | true=>
   rw[Lc (by simpa using c)]at eN;simp only[Qam,Qb,simprocAttr,c,k3,Lw,List.take];refine(qb H3 (hxb.trans hx3)).thenW ?_;rintro _ _ hn4 hw4 ⟨rfl,k4,rfl⟩;simp only[Ql]at hn4;have hx4:=hx3.up (m:=k4) hn4;generalize Qa.up H3 k4=H4 at *;simp only[Qb,simprocAttr];refine(qi H4).thenW ?_;rintro _ H4 hn5 hw5 ⟨rfl,rfl⟩;rw[eN]at eW;simp only[Qb,simprocAttr];refine QGx hxb (by omega) hw hx ha hl rfl (by omega) eW hx4 hw4 g2 g3 ?_ ?_ ?_ ?_ ?_
   all_goals simp only[Qg,simprocAttr]
def QFz (f:Fm)(l:List Ar):Int:=if f.digit<0 then Wg (arS f l 1).r else f.digit
def QoY (f:Fm)(l:List Ar):List Ld:=if 0<=Qn f.slots 2 then(QcE (QFz f l) (arS f l 2)).1 else[⟨[],0,0⟩]
section
variable {x:Lf} {op:Int} {va:Value} {l:List Ar} {H:Qa}
abbrev KLd (H:Qa)(W:List Ld):Env->Qa->Prop:=Rt prog Tryz.f87 H λv H'=>Q7 120 H H' v W∧Ext H H'
theorem QGy {Hb:Qa}(hxb:Ext H Hb)(hlb:H.next+2<=Hb.next)(hw:H.Wf)(hx:x.At H)(ha:Qv H va l)(hl:l.length<=1000)(hn:x.f.slots.length=l.length){W:List Ld}{mid:Int}(eW:W=(QcE mid (arS x.f l 2)).1){A:Env}{H1:Qa}(hx1:Ext Hb H1)(hw1:H1.Wf)(g2:Hb.get H.next=some (.cells x.cells 45 false))(g3:Hb.get (H.next+1)=some (.cells [.int .i64 op,va] 24 false))(r2:A 2=.pointer (some ⟨H.next,0,none⟩))(r3:A 3=.pointer (some ⟨H.next+1,0,none⟩))(r5:A 5=.int .i64 mid):
  Qm prog Js ⟨KLd H W,WJ⟩ (KLd H W) A H1:=by
 have e10:x.cells.take 10=x.cells:=rfl;have l10:10<=x.cells.length:=Lb _;have k2:=(hx1.get H.next (by omega)).trans g2;have k3:=(hx1.get (H.next+1) (by omega)).trans g3;have hx':=hxb.trans hx1;simp only[Js,Qb,simprocAttr,r2,r3,r5,k2,k3,Lw,e10,List.take];refine⟨l10,?_⟩;refine(Qk6 2 H1 (hx.ext hw hx') (ha.ext hw hx') hl hn).thenW ?_;rintro _ H2 hn2 hw2 ⟨rfl,hx2⟩;simp only[Qb,simprocAttr,r5];refine(QB5 mid (arS x.f l 2) H2).thenW ?_;rintro _ H3 hn3 hw3 ⟨v,rfl,hv,hx3⟩;have hx4:=(hx'.trans hx2).trans hx3;simp only[Qb,simprocAttr,Qbj];exact .mk hx4.next ⟨by rw[eW];exact hv.down (hx'.trans hx2).next,hx4⟩
end
theorem QzC {x:Lf}{op:Int}{va:Value}{l:List Ar}(H:Qa)(hx:x.At H)(ha:Qv H va l)(hl:l.length<=1000)(hn:x.f.slots.length=l.length):
  Qe prog 87 [.agg x.cells.toArray,.agg #[.int .i64 op,va]] H λv H'=>Q7 120 H H' v (QoY x.f l)∧Ext H H':=by
 refine Qjz λhw=>?_;have ec:(Value.agg x.cells.toArray).cells.toList=x.cells:=rfl;have e10:x.cells.take 10=x.cells:=rfl;have l10:10<=x.cells.length:=Lb _;have x6:x.cells[6]? = some (.int .i64 x.f.digit):=rfl;obtain⟨W,eW⟩:∃W,W=QoY x.f l:=⟨_,rfl⟩;rw[<- eW];unfold QoY QFz at eW;have ha0:=ha;obtain⟨a0,cap,rfl⟩:=Qu ha;obtain⟨Hb,eb,g2,g3,hxb,hwb,hxB,hnb⟩:=QFy (op:=op) (va:=.slice a0 l.length cap) hw hx;simp only[Qb4,ec,Qb,simprocAttr,eb,g2,Lw,e10];refine⟨l10,?_⟩;refine(Qxt x Hb hxB).thenW ?_;rintro _ _ hn2 hw2 ⟨rfl,k,rfl⟩;simp only[Ql]at hn2;have hx2:=(Ext.refl Hb).up (m:=k) hn2;generalize Qa.up Hb k=H2 at *;have k2:=(hx2.get H.next (by omega)).trans g2;have k3:=(hx2.get (H.next+1) (by omega)).trans g3;simp only[Qb,simprocAttr];cases h:decide (0<=Qn x.f.slots 2) with
 | false=>
  rw[Le (Ll h)]at eW;simp only[Qb,simprocAttr,Qbj];have hx5:=hxb.trans hx2;refine .mk (hx5.push _).next ⟨?_,hx5.push _⟩;rw[eW];exact QAP (w:=⟨[],0,0⟩) hw2 hx5 (.inl ⟨rfl,rfl,rfl⟩)
 | true=>
  rw[Lc (Lg h)]at eW;simp only[Qao,Qb,simprocAttr,k2,x6];cases hd:decide (x.f.digit<0) with
  | false=>
   rw[Le (Ll hd)]at eW;simp only[Qb,simprocAttr,hd];refine QGy hxb (by omega) hw hx ha hl hn eW hx2 hw2 g2 g3 ?_ ?_ ?_
   all_goals simp only[Qg,simprocAttr]
  | true=>
   rw[Lc (Lg hd)]at eW;simp only[Qb,simprocAttr,hd,k2,k3,Lw,e10,List.take];refine⟨l10,?_⟩;refine(Qk6 1 H2 (hxB.ext hwb hx2) (ha.ext hw (hxb.trans hx2)) hl hn).thenW ?_;rintro _ H3 hn3 hw3 ⟨rfl,hx3⟩;have q:=Qef (arS x.f l 1).r;generalize hA:arS x.f l 1=a1 at *;obtain⟨ak,⟨ac,an⟩,⟨⟨bc,bn⟩,⟨ic,nn⟩,sc,d,sz⟩,n⟩:=a1;simp only[Rg.cells]at q;simp only[Qb,simprocAttr,Ar.cells,Rg.cells,Mm.cells];refine(q H3).thenW ?_;rintro _ _ hn4 hw4 ⟨rfl,k4,rfl⟩;simp only[Ql]at hn4;have hx4:=(hx2.trans hx3).up (m:=k4) hn4;generalize Qa.up H3 k4=H4 at *;simp only[Qb,simprocAttr];refine QGy hxb (by omega) hw hx ha hl hn eW hx4 hw4 g2 g3 ?_ ?_ ?_
   all_goals simp only[Qg,simprocAttr]
theorem QhA (n:Int)(hn:0<=n∧n<2)(H:Qa):Qe prog 368 [.int .i64 n] H λu H'=>u=.bool true∧H'=H:=by
 refine QkR λhw=>?_;simp only[Qdi,Qb,simprocAttr];cases h:n==0 with
 | true=>
  simp only[Qb,simprocAttr,h,Qcj];exact .mk (Lb _) ⟨rfl,rfl⟩
 | false=>
  have h1:(n==1)=true:=by
   rw[LC]at h;rw[L0];omega
  simp only[Qb,simprocAttr,h,h1,Qcj];exact .mk (Lb _) ⟨rfl,rfl⟩
theorem QxH (n:Int)(H:Qa):Qe prog 269 [.int .i64 n] H λu H'=>u=.int .i64 (K1 n)∧H'=H:=by
 refine QlN λhw=>?_;unfold K1;simp only[QdU,Qb,simprocAttr];cases h1:n==1 with
 | true=>
  simp only[Qb,simprocAttr,h1,ZN];exact .mk (Lb _) ⟨by rw[Lc (by simpa using h1)],rfl⟩
 | false=>
  have n1:¬n=1:=by simpa using h1
  simp only[Qce,Qb,simprocAttr,h1];cases h4:n==4 with
  | true=>
   simp only[Qb,simprocAttr,h4,ZN];exact .mk (Lb _) ⟨by rw[Le n1,Lc (by simpa using h4)],rfl⟩
  | false=>
   have n4:¬n=4:=by simpa using h4
   simp only[Qb,simprocAttr,h4];cases h2:n==2 with
   | true=>
    simp only[Qb,simprocAttr,h2,ZN];exact .mk (Lb _) ⟨by rw[Le n1,Le n4,Lc (by simpa using h2)],rfl⟩
   | false=>
    have n2:¬n=2:=by simpa using h2
    simp only[Qb,simprocAttr,h2,ZN];exact .mk (Lb _) ⟨by rw[Le n1,Le n4,Le n2],rfl⟩
theorem QxI {y:Vx}(h:y.Ok)(H:Qa):Qe prog 268 [.agg y.cells.toArray] H λu H'=>u=.int .i64 0∧Ext H H':=by
 refine Qik λhw=>?_;obtain⟨h1,h2,h3,h4,h5,h6,h7,h8⟩:=h;obtain⟨r,x,b,mp,w,v,l,pre⟩:=y;simp only at h1 h2 h3 h4 h5 h6 h7 h8;have q1:=QhA r h1;have q2:=QhA x h2;have q3:=QhA b h3;have q5:=QhA w h5;have q7:=QhA l h7;have e1:decide (mp<1)=false:=Lj (by omega);have e2:decide (3<mp)=false:=Lj (by omega);have e3:decide (v<0)=false:=Lj (by omega);have e4:decide (15<v)=false:=Lj (by omega);simp only[Vx.cells,QbD,Qb,simprocAttr];generalize hH1:Qa.push H _=H1;have hx1:Ext H H1:=by rw[<- hH1];exact(Ext.refl H).push _
 have g0:H1.get H.next=some (.cells [.int .i64 r,.int .i64 x,.int .i64 b,.int .i64 mp,.int .i64 w,.int .i64 v,.int .i64 l,.int .i64 pre] 146 false):=by rw[<- hH1,Qd,Lc rfl]
 clear hH1;refine(q1 H1).thenW ?_;rintro _ H1 _ _ ⟨rfl,rfl⟩;simp only[Qb,simprocAttr,g0];refine(q2 H1).thenW ?_;rintro _ H1 _ _ ⟨rfl,rfl⟩;simp only[Qb,simprocAttr,g0];refine(q3 H1).thenW ?_;rintro _ H1 _ _ ⟨rfl,rfl⟩;simp only[Qb,simprocAttr,g0];refine(q5 H1).thenW ?_;rintro _ H1 _ _ ⟨rfl,rfl⟩;simp only[Qb,simprocAttr,g0];refine(q7 H1).thenW ?_;rintro _ H1 _ _ ⟨rfl,rfl⟩;simp only[Qb,simprocAttr,g0,e1,e2,e3,e4,B4];rcases h8 with rfl | rfl | rfl | rfl
 all_goals simp only[VA,Qb,simprocAttr,g0,Int.reduceBEq,Qhn]
 all_goals exact .mk hx1.next ⟨rfl,hx1⟩
theorem QqN {y:Vx}(h:y.Ok)(z:Int)(hz:0<=z∧z<2)(H:Qa):Qe prog 270 [.agg y.cells.toArray,.int .i64 z] H λv H'=>Gx 1 5 H H' v 3 (bys (Vk {y with w:=z}))∧Ext H H'∧∃a,v=.slice a 3 3:=by
 refine Qil λhw=>?_;obtain⟨h1,h2,h3,h4,h5,h6,h7,h8⟩:=h;have hp:=Qrv y.pre;have q1:=QxH y.pre;have u8:∀z:Int,0<=z->z<256->IntKind.u8.wrap z=z:=λz a b=>by
  unfold IntKind.wrap;simp[IntKind.bits,IntKind.signed];omega
 unfold Vk vbm vbn;generalize K1 y.pre=pp at *;obtain⟨r,x,b,mp,w,v,l,pre⟩:=y;simp only at h1 h2 h3 h4 h5 h6 h7 h8 q1;have a1:IntKind.i64.wrap (1 - r)=1 - r:=w64 (by unfold I64;omega);have a2:IntKind.i64.wrap (128 * (1 - r))=128 * (1 - r):=w64 (by unfold I64;omega);have a3:IntKind.i64.wrap (1 - x)=1 - x:=w64 (by unfold I64;omega);have a4:IntKind.i64.wrap (64 * (1 - x))=64 * (1 - x):=w64 (by unfold I64;omega);have a5:IntKind.i64.wrap (128 * (1 - r)+64 * (1 - x))=128 * (1 - r)+64 * (1 - x):=w64 (by unfold I64;omega);have a6:IntKind.i64.wrap (1 - b)=1 - b:=w64 (by unfold I64;omega);have a7:IntKind.i64.wrap (32 * (1 - b))=32 * (1 - b):=w64 (by unfold I64;omega);have a8:IntKind.i64.wrap (128 * (1 - r)+64 * (1 - x)+32 * (1 - b))=128 * (1 - r)+64 * (1 - x)+32 * (1 - b):=w64 (by unfold I64;omega);have a9:IntKind.i64.wrap (128 * (1 - r)+64 * (1 - x)+32 * (1 - b)+mp)=128 * (1 - r)+64 * (1 - x)+32 * (1 - b)+mp:=w64 (by unfold I64;omega);have b0:=u8 (128 * (1 - r)+64 * (1 - x)+32 * (1 - b)+mp) (by omega) (by omega);have b1:IntKind.i64.wrap (128 * z)=128 * z:=w64 (by unfold I64;omega);have b2:IntKind.i64.wrap (15 - v)=15 - v:=w64 (by unfold I64;omega);have b3:IntKind.i64.wrap (8 * (15 - v))=8 * (15 - v):=w64 (by unfold I64;omega);have b4:IntKind.i64.wrap (128 * z+8 * (15 - v))=128 * z+8 * (15 - v):=w64 (by unfold I64;omega);have b5:IntKind.i64.wrap (4 * l)=4 * l:=w64 (by unfold I64;omega);have b6:IntKind.i64.wrap (128 * z+8 * (15 - v)+4 * l)=128 * z+8 * (15 - v)+4 * l:=w64 (by unfold I64;omega);have b7:IntKind.i64.wrap (128 * z+8 * (15 - v)+4 * l+pp)=128 * z+8 * (15 - v)+4 * l+pp:=w64 (by unfold I64;omega);have b8:=u8 (128 * z+8 * (15 - v)+4 * l+pp) (by omega) (by omega);simp only[Vx.cells,QbE,Qb,simprocAttr,a1,a2,a3,a4,a5,a6,a7,a8,a9,b0,b1,b2,b3,b4,b5,b6];have hx1:=(Ext.refl H).push (.cells [.int .i64 r,.int .i64 x,.int .i64 b,.int .i64 mp,.int .i64 w,.int .i64 v,.int .i64 l,.int .i64 pre] 146 false);generalize Qa.push H _=H1 at *;have bl:∀ (m:Nat) (n:Int),Qh m 6 (.int .i64 n)=true:=λm n=>by simp[Qh,Ab.plain]
 refine⟨bl _ _,bl _ _,bl _ _,bl _ _,bl _ _,bl _ _,(q1 H1).thenW ?_⟩;rintro _ H1 _ _ ⟨rfl,rfl⟩;simp only[Qb,simprocAttr,b7,b8];refine⟨λ_ _=>rfl,?_⟩;have hx2:=hx1.push (.cells [.int .u8 196,.int .u8 (128 * (1 - r)+64 * (1 - x)+32 * (1 - b)+mp),.int .u8 (128 * z+8 * (15 - v)+4 * l+pp)] 5 false);simp only[Qb,simprocAttr,Qho];refine .mk hx2.next ⟨.inr ⟨_,_,rfl,hx1.next,?_,rfl,.inl rfl⟩,hx2,_,rfl⟩;rw[Qd,Lc rfl,Hu 128,Hu 64,Hu 32,Hu 128,Hu 8,Hu 4];rfl
section
variable {H:Qa} {W:List (List Int)}
abbrev KV2 (H:Qa)(W:List (List Int)):Env->Qa->Prop:=Rt prog Tryz.f129 H λu H'=>∃v,u=.tuple #[v,.int .i64 0]∧Zq 27 H H' v W∧Ext H H'
theorem QGz {y:Vx}(h:y.Ok)(any:Bool){ws:List (List Int)}(hl:ws.length<=5){v:Value}{A:Env}{Hb H1:Qa}(hnb:Hb.next=H.next+1)(hv:Zq 27 Hb H1 v ws)(hxb:Ext Hb H1)(hx:Ext H H1)(hw:H1.Wf)(hg:H1.get H.next=some (.cells y.cells 146 false))(r1:A 1=.bool any)(r2:A 2=.pointer (some ⟨H.next,0,none⟩))(r7:A 7=v)(eW:W=ws++([Vk y]++(bif any then[Vk {y with w:=1}] else[]))):
  Qm prog XV ⟨KV2 H W,WJ⟩ (KV2 H W) A H1:=by
 have hnx:=hxb.next;have q1:=QqN h y.w h.w;have q2:=QqN h 1 (by decide);have eyw:{y with w:=y.w}=y:=rfl;rw[eyw]at q1;obtain⟨y1,ey1⟩:∃y1,y1=Vk y:=⟨_,rfl⟩;obtain⟨y2,ey2⟩:∃y2,y2=Vk {y with w:=1}:=⟨_,rfl⟩;have ly1:y1.length=3:=by rw[ey1];rfl
 have ly2:y2.length=3:=by rw[ey2];rfl
 rw[<- ey1]at q1 eW;rw[<- ey2]at q2 eW;clear ey1 ey2;obtain⟨r,x,b,mp,w,vv,l,pre⟩:=y;simp only[Vx.cells]at hg q1 q2;simp only[XV,Qb,simprocAttr,r1,r2,r7,hg];refine(q1 H1).thenW ?_;rintro s2 H2 hn2 hw2 ⟨hs2,hx2,a2,rfl⟩
 replace hs2:Gx 1 5 H1 H2 (.slice a2 3 3) y1.length (bys y1):=by rw[ly1];exact hs2
 simp only[Qb,simprocAttr];refine QkB (H0:=Hb) (bs:=y1) ((hv.go hw hx2).go hw2 ((Ext.refl H2).push _)) ((hxb.trans hx2).push _) (hw2.push _) ((hs2.go hw2 ((Ext.refl H2).push _)).down (by omega)) (QfW H2 _) (by omega) (by omega) ?_;intro v4 H4 hv4 hk4;have hg4:H4.get H.next=some (.cells [.int .i64 r,.int .i64 x,.int .i64 b,.int .i64 mp,.int .i64 w,.int .i64 vv,.int .i64 l,.int .i64 pre] 146 false):=by rw[(hk4.x).get _ (by omega),<- hxb.get _ (by omega)];exact hg
 have hx4:Ext H H4:=⟨by have:=hk4.x.next;omega,λid hid=>by rw[hk4.x.get id (by omega),<- hxb.get id (by omega)];exact hx.get id hid⟩;cases any with
 | false=>
  rw[Ls,Na]at eW;simp only[Qb,simprocAttr,r1,Qb8];exact .mk hx4.next ⟨v4,rfl,by rw[eW];exact hv4.down (by omega),hx4⟩
 | true=>
  rw[Lq]at eW;simp only[Qb,simprocAttr,r1,r2,hg4];refine(q2 H4).thenW ?_;rintro s6 H6 hn6 hw6 ⟨hs6,hx6,a6,rfl⟩
  replace hs6:Gx 1 5 H4 H6 (.slice a6 3 3) y2.length (bys y2):=by rw[ly2];exact hs6
  simp only[Qb,simprocAttr];have hn4:=hk4.x.next;refine QkB (H0:=Hb) (bs:=y2) ((hv4.go hk4.w hx6).go hw6 ((Ext.refl H6).push _)) ((hk4.x.trans hx6).push _) (hw6.push _) ((hs6.go hw6 ((Ext.refl H6).push _)).down (by omega)) (QfW H6 _) (by rw[Lh,Bb];omega) (by rw[Lh,Bb];omega) ?_;intro v7 H7 hv7 hk7;have hx7:Ext H H7:=⟨by have:=hk7.x.next;omega,λid hid=>by rw[hk7.x.get id (by omega),<- hk4.x.get id (by omega)];exact hx4.get id hid⟩;simp only[Qb,simprocAttr,Qb8];exact .mk hx7.next ⟨v7,rfl,by rw[eW,<- LQ];exact hv7.down (by omega),hx7⟩
theorem QGA {y:Vx}(h:y.Ok)(any:Bool){A:Env}{Hb H1:Qa}(hnb:Hb.next=H.next+1)(hxb:Ext Hb H1)(hx:Ext H H1)(hw:H1.Wf)(hg:H1.get H.next=some (.cells y.cells 146 false))(r1:A 1=.bool any)(r2:A 2=.pointer (some ⟨H.next,0,none⟩))(eW:W=(if(y.x=0∧y.b=0∧y.w=0)∧y.mp=1 then[[197,vb2 y]] else[])++([Vk y]++(bif any then[Vk {y with w:=1}] else[]))):
  Qm prog JZ ⟨KV2 H W,WJ⟩ (KV2 H W) A H1:=by
 have hnx:=hxb.next;have hg0:=hg;have eb:vb2 y=(1 - y.r) * 128+(15 - y.v) * 8+y.l * 4+K1 y.pre:=rfl;have hp:=Qrv y.pre;have hR:=h.r;have hV:=h.v;have hL:=h.l;have h1:=λA=>QGz (H:=H) (W:=W) (A:=A) h any (ws:=[]) (by simp) hnb (Zq.nil (e:=27) (by decide) Hb H1) hxb hx hw hg;have hne:∀A,A 1=.bool any->A 2=.pointer (some ⟨H.next,0,none⟩)->A 7=.slice none 0 0->¬ ((y.x=0∧y.b=0∧y.w=0)∧y.mp=1)->Qm prog XV ⟨KV2 H W,WJ⟩ (KV2 H W) A H1:=λA a1 a2 a7 hno=>h1 A a1 a2 a7 (by rw[eW,Le hno]);obtain⟨z2,ez2⟩:∃z2,z2=vb2 y:=⟨_,rfl⟩;have hyes:(y.x=0∧y.b=0∧y.w=0)∧y.mp=1->∀ (A:Env) (H4:Qa) (v4:Value),Zq 27 Hb H4 v4 [[197,z2]]->Ext Hb H4->Ext H H4->H4.Wf->A 1=.bool any->A 2=.pointer (some ⟨H.next,0,none⟩)->A 7=v4->Qm prog XV ⟨KV2 H W,WJ⟩ (KV2 H W) A H4:=by
  intro hy A H4 v4 hv4 hx4b hx4 hw4 a1 a2 a7;refine QGz h any (ws:=[[197,z2]]) (by simp) hnb hv4 hx4b hx4 hw4 (by rw[hx4b.get _ (by omega),<- hxb.get _ (by omega)];exact hg0) a1 a2 a7 (by rw[eW,Lc hy,ez2])
 rw[<- ez2]at eb;clear ez2 eW h1 hg0 h;obtain⟨r,x,b,mp,w,v,l,pre⟩:=y;simp only[Vx.cells]at hg;simp only at hyes hne eb hp hR hV hL;simp only[JZ,Qb,simprocAttr,r1,r2,hg];cases ex:x==0 with
 | false=>
  have hx0:¬x=0:=by simpa using ex
  simp only[Qb,simprocAttr,ex];refine hne _ ?_ ?_ ?_ (λh=>hx0 h.1.1)
  all_goals simp only[Qg,simprocAttr,r1,r2]
 | true=>
  have hx0:x=0:=by simpa using ex
  simp only[Qb,simprocAttr,r2,hg];cases e2:b==0 with
  | false=>
   have hb0:¬b=0:=by simpa using e2
   simp only[Qb,simprocAttr,e2];refine hne _ ?_ ?_ ?_ (λh=>hb0 h.1.2.1)
   all_goals simp only[Qg,simprocAttr,r1,r2]
  | true=>
   have hb0:b=0:=by simpa using e2
   simp only[Qb,simprocAttr,r2,hg];cases e3:w==0 with
   | false=>
    have hw0:¬w=0:=by simpa using e3
    simp only[Qb,simprocAttr,e3];refine hne _ ?_ ?_ ?_ (λh=>hw0 h.1.2.2)
    all_goals simp only[Qg,simprocAttr,r1,r2]
   | true=>
    have hw0:w=0:=by simpa using e3
    simp only[Qb,simprocAttr,r2,hg];cases e4:mp==1 with
    | false=>
     have hm0:¬mp=1:=by simpa using e4
     simp only[Qb,simprocAttr,e4];refine hne _ ?_ ?_ ?_ (λh=>hm0 h.2)
     all_goals simp only[Qg,simprocAttr,r1,r2]
    | true=>
     have hm0:mp=1:=by simpa using e4
     have w1:IntKind.i64.wrap (1 - r)=1 - r:=w64 (by unfold I64;omega);have w2:IntKind.i64.wrap (128 * (1 - r))=128 * (1 - r):=w64 (by unfold I64;omega);have w3:IntKind.i64.wrap (15 - v)=15 - v:=w64 (by unfold I64;omega);have w4:IntKind.i64.wrap (8 * (15 - v))=8 * (15 - v):=w64 (by unfold I64;omega);have w5:IntKind.i64.wrap (128 * (1 - r)+8 * (15 - v))=128 * (1 - r)+8 * (15 - v):=w64 (by unfold I64;omega);have w6:IntKind.i64.wrap (4 * l)=4 * l:=w64 (by unfold I64;omega);have w6':IntKind.i64.wrap (128 * (1 - r)+8 * (15 - v)+4 * l)=128 * (1 - r)+8 * (15 - v)+4 * l:=w64 (by unfold I64;omega);have w7:IntKind.i64.wrap (128 * (1 - r)+8 * (15 - v)+4 * l+K1 pre)=128 * (1 - r)+8 * (15 - v)+4 * l+K1 pre:=w64 (by unfold I64;omega);have w8:IntKind.u8.wrap (128 * (1 - r)+8 * (15 - v)+4 * l+K1 pre)=z2:=by
      unfold IntKind.wrap;simp[IntKind.bits,IntKind.signed];omega
     simp only[Qbs,Qb,simprocAttr,e4,r2,hg,w1,w2,w3,w4,w5,w6,w6'];refine⟨by simp[Qh,Ab.plain],by simp[Qh,Ab.plain],by simp[Qh,Ab.plain],?_⟩;refine(QxH pre H1).thenW ?_;rintro _ H1 _ _ ⟨rfl,rfl⟩;simp only[Qb,simprocAttr];refine⟨λ_ _=>rfl,?_⟩;generalize K1 pre=pp at *;rw[w7,w8];have hx14:=Ext.refl H1;have hw4:=hw;have hx5:=(Ext.refl H1).push (.cells [.int .u8 197,.int .u8 z2] 5 false);have hw5:=hw4.push (.cells [.int .u8 197,.int .u8 z2] 5 false);have hg5:Gx 1 5 H1 (H1.push (.cells [.int .u8 197,.int .u8 z2] 5 false)) (.slice (some ⟨H1.next,0,none⟩) 2 2) 2 (bys [197,z2]):=.inr ⟨_,_,rfl,Lb _,by rw[Qd,Lc rfl];rfl,rfl,.inl rfl⟩;have hn14:=hx14.next;have hn5:(H1.push (.cells [.int .u8 197,.int .u8 z2] 5 false)).next=H1.next+1:=rfl;generalize H1.push (.cells [.int .u8 197,.int .u8 z2] 5 false)=H5 at *;have hx15:=hx14.trans hx5;have hx6:=(Ext.refl H5).push (.cells [.slice (some ⟨H1.next,0,none⟩) 2 2] 27 false);refine QkB (H0:=Hb) (bs:=[197,z2]) (Zq.nil (e:=27) (by decide) Hb _) ((hxb.trans hx15).trans hx6) (hw5.push _) ((hg5.go hw5 hx6).down (by omega)) (by rw[<- hn5];exact QfW H5 _) (by simp) (by simp) ?_;intro v7 H7 hv7 hk7;have hx7:Ext H H7:=⟨by have:=hk7.x.next;omega,λid hid=>by rw[hk7.x.get id (by omega),<- hxb.get id (by omega)];exact hx.get id hid⟩;simp only[J6,Yk,YJ,Zb,Qj4];refine hyes ⟨⟨hx0,hb0,hw0⟩,hm0⟩ _ H7 v7 hv7 hk7.x hx7 hk7.w ?_ ?_ ?_
     all_goals simp only[Qg,simprocAttr,r1,r2]
end
theorem QB7 {y:Vx}(h:y.Ok)(any:Bool)(H:Qa):Qe prog 129 [.agg y.cells.toArray,.bool any] H λu H'=>∃v,u=.tuple #[v,.int .i64 0]∧Zq 27 H H' v (Qq8 y any)∧Ext H H':=by
 refine QkL λhw=>?_;obtain⟨y',ey⟩:∃y':Vx,y'=bif any then {y with w:=0} else y:=⟨_,rfl⟩
 have hy':y'.Ok:=by rw[ey];cases any with | true=>exact h.setW 0 (by decide) | false=>exact h
 have eL:=QAH y any y' ey;have ec:y'.cells=bif any then[.int .i64 y.r,.int .i64 y.x,.int .i64 y.b,.int .i64 y.mp,.int .i64 0,.int .i64 y.v,.int .i64 y.l,.int .i64 y.pre] else y.cells:=by rw[ey];cases any<;>rfl
 have qc:=QxI h;have hx1:=(Ext.refl H).push (.cells y.cells 146 false);have hw1:=hw.push (.cells y.cells 146 false);have hg1:(H.push (.cells y.cells 146 false)).get H.next=some (.cells y.cells 146 false):=by rw[Qd,Lc rfl]
 have hn1:(H.push (.cells y.cells 146 false)).next=H.next+1:=rfl;obtain⟨W,eW⟩:∃W,W=Qq8 y any:=⟨_,rfl⟩;rw[<- eW]at eL ⊢;clear eW ey h;obtain⟨r,x,b,mp,w,v,l,pre⟩:=y;simp only[Vx.cells]at hx1 hw1 hg1 hn1 qc ec;simp only[Vx.cells,Qdc,Qb,simprocAttr];generalize H.push _=H1 at *;refine(qc H1).thenW ?_;rintro _ H2 hn2 hw2 ⟨rfl,hx2⟩;have hg2:=(hx2.get H.next (by omega)).trans hg1;have hx12:=hx1.trans hx2;simp only[Qb,simprocAttr,LO,L8];cases any with
 | true=>
  rw[Lq]at ec;simp only[J1,Qb,simprocAttr,hg2];generalize hH3:Qa.set H2 _ _=H3;have hx3:Ext H H3:=by rw[<- hH3];exact hx12.set (Lb _) _
  have hw3:H3.Wf:=by rw[<- hH3];exact hw2.set hg2 _
  have hg3:H3.get H.next=some (.cells y'.cells 146 false):=by rw[<- hH3,Qq,Lc rfl];exact congrArg (λc=>some (Blk.cells c 146 false)) ec.symm
  have hn3:H3.next=H2.next:=by rw[<- hH3];rfl
  clear hH3;refine QGA (H:=H) (Hb:=⟨H.next+1,H3.tr⟩) hy' true rfl ⟨by show H.next+1<=H3.next;omega,λid _=>rfl⟩ hx3 hw3 hg3 ?_ ?_ eL
  all_goals simp only[Qg,simprocAttr]
 | false=>
  rw[Ls]at ec;simp only[J1,Qb,simprocAttr];refine QGA (H:=H) (Hb:=⟨H.next+1,H2.tr⟩) hy' false rfl ⟨by show H.next+1<=H2.next;omega,λid _=>rfl⟩ hx12 hw2 (by rw[hg2];exact congrArg (λc=>some (Blk.cells c 146 false)) ec.symm) ?_ ?_ eL
  all_goals simp only[Qg,simprocAttr]
def vxR (f:Fm)(l:List Ar)(r x b:Int):Vx:=⟨r,x,b,f.map,QvK f.w,QoQ f l 3,f.l,f.pre⟩
def QcI (f:Fm)(l:List Ar)(r x b:Int):List (List Int):=
 if f.vex=true then Qq8 (vxR f l r x b) (f.w==-1)
 else(chF (Qd7 f.w r x b) l).map λn=>JT f.pre n++Kr f.map
theorem QFA (f:Fm)(l:List Ar)(s:Int):(arS f l s).r.n=QoQ f l s:=by
 unfold arS QoQ;split<;>rfl
section
variable {x:Lf} {op:Int} {va:Value} {l:List Ar} {H:Qa} {r xx b:Int}
abbrev KHr (H:Qa)(W:List (List Int)):Env->Qa->Prop:=Rt prog Tryz.f88 H λv H'=>Zq 27 H H' v W∧Ext H H'
theorem QHx {Hb:Qa}(hxb:Ext H Hb)(hlb:H.next+2<=Hb.next)(hw:H.Wf)(hwb:Hb.Wf)(hx:x.At H)(ha:Qv H va l)(hl:l.length<=1000)(hn:x.f.slots.length=l.length)(hy:(vxR x.f l r xx b).Ok){W:List (List Int)}(eW:W=Qq8 (vxR x.f l r xx b) (x.f.w==-1)){A:Env}{k:Env->Qa->Prop}(g2:Hb.get H.next=some (.cells x.cells 45 false))(g3:Hb.get (H.next+1)=some (.cells [.int .i64 op,va] 24 false))(r2:A 2=.int .i64 r)(r3:A 3=.int .i64 xx)(r4:A 4=.int .i64 b)(r5:A 5=.pointer (some ⟨H.next,0,none⟩))(r6:A 6=.pointer (some ⟨H.next+1,0,none⟩)):
  Qm prog Zv ⟨KHr H W,WJ⟩ k A Hb:=by
 have e3:x.cells[3]? = some (.int .i64 x.f.pre):=rfl;have e4:x.cells[4]? = some (.int .i64 x.f.map):=rfl;have e7:x.cells[7]? = some (.int .i64 x.f.w):=rfl;have e9:x.cells[9]? = some (.int .i64 x.f.l):=rfl;have e10:x.cells.take 10=x.cells:=rfl;have l10:10<=x.cells.length:=Lb _;simp only[Zv,Qb,simprocAttr,r2,r3,r4,r5,r6,g2,g3,e3,e4,e7,e9];rw[QJ7 (ik:=.i64) (a:=x.f.w) (b:=0) (by simp only[Qg,simprocAttr]) (by simp only[Qg,simprocAttr])];simp only[Qb,simprocAttr,r2,r3,r4,r5,r6,g2,g3,e3,e4,e7,e9,Lw,e10,List.take];have bl:∀ (m:Nat) (n:Int),Qh m 6 (.int .i64 n)=true:=λm n=>by simp[Qh,Ab.plain]
 refine⟨bl _ _,bl _ _,l10,⟨by omega,by omega⟩,(Qk6 3 Hb (hx.ext hw hxb) (ha.ext hw hxb) hl hn).thenW ?_⟩;rintro _ H2 hn2 hw2 ⟨rfl,hx2⟩;have en:(arS x.f l 3).r.n=QoQ x.f l 3:=QFA _ _ _;generalize hA:arS x.f l 3=a1 at *;obtain⟨ak,⟨ac,an⟩,⟨⟨bc,bn⟩,⟨ic,nn⟩,sc,d,sz⟩,n⟩:=a1;simp only at en;have k2:=(hx2.get H.next (by omega)).trans g2;have nz:¬H.next=H2.next:=by have:=hx2.next;omega
 simp only[Qb,simprocAttr,Ar.cells,Rg.cells,Mm.cells,r5,k2,e3,e7,e9,nz,LN];refine⟨hx2.eqB,bl _ _,bl _ _,?_⟩;generalize hH3:(Qa.push H2 _).set _ _=H3;have hx3:Ext H2 H3:=by rw[<- hH3];exact((Ext.refl H2).push _).set (Lb _) _
 clear hH3;have hx4:=(hxb.trans hx2).trans hx3;subst en;refine(QB7 hy (x.f.w==-1) H3).thenW ?_;rintro _ H5 _ hw5 ⟨v,rfl,hv,hx5⟩;simp only[Qb,simprocAttr,Jt];have hx6:=hx4.trans hx5;exact .mk hx6.next ⟨by rw[eW];exact hv.down hx4.next,hx6⟩
theorem QDC (hf:FOk x.f){Hb H1:Qa}(hxb:Ext H Hb)(hlb:H.next+2<=Hb.next){ns:List Int}(hns:ns.length<=2)(hnb:∀n∈ns,-1<=n∧n<=15)(hx1:Ext Hb H1)(hw1:H1.Wf){v:Value}(hv:Gx 1 3 Hb H1 v ns.length (ints ns)){W:List (List Int)}(eW:W=ns.map λn=>JT x.f.pre n++Kr x.f.map){A:Env}(g2:Hb.get H.next=some (.cells x.cells 45 false))(r5:A 5=.pointer (some ⟨H.next,0,none⟩))(r17:A 17=v):
  Qm prog Z2 ⟨KHr H W,WJ⟩ (KHr H W) A H1:=by
 have e3:x.cells[3]? = some (.int .i64 x.f.pre):=rfl;have e4:x.cells[4]? = some (.int .i64 x.f.map):=rfl;have hle:=hx1.next;obtain⟨va,vc,rfl⟩:=hv.slc;simp only[Z2,Qb,simprocAttr];refine Qo (λm A' H'=>∃j:Nat,j<=ns.length∧m=ns.length - j∧Ext H1 H'∧H'.Wf∧Zq 27 H1 H' (A' 18) ((ns.take j).map λn=>JT x.f.pre n++Kr x.f.map)∧A' 5=.pointer (some ⟨H.next,0,none⟩)∧A' 17=.slice va ns.length vc∧A' 19=.int .i64 j) ns.length ?_ ?_
 ·refine⟨0,by omega,rfl,.refl _,hw1,?_,?_,?_,?_⟩
  all_goals simp only[uxA,uxB,Nat.reduceBEq,r5,r17]
  ·exact Zq.nil (by decide) _ _
  ·rfl
 ·rintro m A' H' ⟨j,hj,rfl,hx',hw',hl,p5,p17,p19⟩;simp only[Vn,Qb,simprocAttr,p17,p19];refine Qf (λh2=>?_) (λh2=>?_)
  ·have h2:j<ns.length:=by have:=Lg h2;omega
   obtain⟨b',c',eva,_,hgb,_,_⟩:∃b' c',Value.slice va ns.length vc=.slice (some ⟨b',0,none⟩) ns.length c'∧Hb.next<=b'∧H1.get b'=some (.cells (ints ns) 3 false)∧True∧True:=by
    rcases hv with⟨_,h,_⟩ | ⟨b',c',e,q1,q2,_,_⟩
    ·omega
    ·exact⟨b',c',e,q1,q2,trivial,trivial⟩
   cases eva;have hgb2:=(hx'.get b' (hw1.lt hgb)).trans hgb;have gx:=Zh (l:=ns) (i:=j) h2;have hmem:ns.getD j 0∈ns:=by rw[LX,La h2,NB];exact Nb h2
   have etk:(ns.take (j+1)).map (λn=>JT x.f.pre n++Kr x.f.map)=(ns.take j).map (λn=>JT x.f.pre n++Kr x.f.map)++[JT x.f.pre (ns.getD j 0)++Kr x.f.map]:=by
    rw[Nv,La h2,RB,N6,LX,La h2,NB];rfl
   have hnn:=hnb _ hmem;generalize ns.getD j 0=z at *;have d1:(0:Int)<=j∧(j:Int)<ns.length:=by omega
   have d3:(j:Int).toNat=j:=by omega
   have e1:IntKind.i64.wrap ((j:Int)+1)=((j+1:Nat):Int):=by rw[w64 (by unfold I64;omega)];omega
   have k2:=((hx1.trans hx').get H.next (by omega)).trans g2;obtain⟨la,lc,el⟩:=hl.slc;simp only[Vm,Qb,simprocAttr,p5,p17,p19,k2,e3,d1,d3,hgb2,gx];refine(QBZ x.f.pre z hf.pre hnn H').thenW ?_;rintro _ H2 hn2 hw2 ⟨v2,rfl,hv2,hx2⟩;obtain⟨a2,c2,rfl⟩:=hv2.slc;have k3:=(hx2.get H.next (by have:=hx'.next;omega)).trans k2;simp only[Qb,simprocAttr,p5,k3,e4];refine(QvE x.f.map H2).thenW ?_;rintro v3 H3 hn3 hw3 ⟨hv3,hx3⟩;obtain⟨a3,c3,rfl⟩:=hv3.slc;simp only[Qb,simprocAttr];have hl1:(JT x.f.pre z).length<=10:=by unfold JT QFi;split<;>(try split)<;>(try split)<;>(try split)<;>(try split)<;>(try split)<;>simp
   have hl2:(Kr x.f.map).length<=10:=by unfold Kr;split<;>(try split)<;>(try split)<;>simp
   refine Zp (H0:=H') (hv2.go hw2 hx3) (hx2.trans hx3) hw3 hv3.src (ZJ _) (by rw[Xd,NH]) (by omega) (by omega) λv4 H4 hv4 hk4=>?_;obtain⟨a4,c4,rfl⟩:=hv4.slc;have hv4':Gx 1 5 H' H4 (.slice a4 ((JT x.f.pre z).length+(Kr x.f.map).length) c4) (JT x.f.pre z++Kr x.f.map).length (bys (JT x.f.pre z++Kr x.f.map)):=by rw[Lh,Je];exact hv4
   simp only[Qb,simprocAttr,p19,e1,el];rw[el]at hl;have hxx:=(Ext.refl H4).push (.cells [.slice a4 ((JT x.f.pre z).length+(Kr x.f.map).length) c4] 27 false);have hml:((ns.take j).map λn=>JT x.f.pre n++Kr x.f.map).length<=2:=by rw[Nn,Sb];omega
   refine QkB (H0:=H1) (bs:=JT x.f.pre z++Kr x.f.map) (hl.go hw' (hk4.x.trans hxx)) ((hx'.trans hk4.x).trans hxx) (hk4.w.push _) ((hv4'.go hk4.w hxx).down hx'.next) (QfW H4 _) (by omega) (by omega) λv5 H5 hv5 hk5=>?_;simp only[Qb,simprocAttr,p19,e1];refine⟨ns.length - (j+1),by omega,j+1,by omega,rfl,hk5.x,hk5.w,?_,?_,?_,?_⟩
   all_goals simp only[Qg,simprocAttr,p5,p17]
   rw[etk];exact hv5
  ·have h2:j=ns.length:=by have:=Ll h2;omega
   rw[h2,Nr,<- eW]at hl;have hx3:=(hxb.trans hx1).trans hx';simp only[Qb,simprocAttr,Jt];exact .mk hx3.next ⟨hl.down (hxb.trans hx1).next,hx3⟩
theorem QI4 (hf:FOk x.f){Hb H1:Qa}(hxb:Ext H Hb)(hlb:H.next+2<=Hb.next)(hx1:Ext Hb H1)(hw1:H1.Wf)(hwv:x.f.w=0∨x.f.w=1)(hr:0<=r∧r<2)(hxx:0<=xx∧xx<2)(hb:0<=b∧b<2){need bar:Bool}{W:List (List Int)}(eW:W=(if need=true then(if bar=true then[] else[Qd7 x.f.w r xx b]) else if bar=true then[-1] else[-1,0]).map λn=>JT x.f.pre n++Kr x.f.map){A:Env}(g2:Hb.get H.next=some (.cells x.cells 45 false))(r2:A 2=.int .i64 r)(r3:A 3=.int .i64 xx)(r4:A 4=.int .i64 b)(r5:A 5=.pointer (some ⟨H.next,0,none⟩))(r14:A 14=.bool need)(r15:A 15=.bool bar):
  Qm prog Yv ⟨KHr H W,WJ⟩ (KHr H W) A H1:=by
 have e7:x.cells[7]? = some (.int .i64 x.f.w):=rfl;have k2:=(hx1.get H.next (by omega)).trans g2;have lit:∀ (ns:List Int) (H1:Qa),Ext Hb H1->Gx 1 3 Hb (H1.push (.cells (ints ns) 3 false)) (.slice (some ⟨H1.next,0,none⟩) ns.length ns.length) ns.length (ints ns):=λns H1 h=>.inr ⟨_,_,rfl,h.next,by rw[Qd,Lc rfl],by rw[Qxc,NH],.inl rfl⟩;have l2:=lit [-1,0] H1 hx1;have x2:=hx1.push (.cells (ints [-1,0]) 3 false);have w2:=hw1.push (.cells (ints [-1,0]) 3 false);have k3:=(x2.get H.next (by omega)).trans g2;have l1:=lit [-1] _ x2;have x3:=x2.push (.cells (ints [-1]) 3 false);have w3:=w2.push (.cells (ints [-1]) 3 false);have lr:=lit [Qd7 x.f.w r xx b] _ x2;have x4:=x2.push (.cells (ints [Qd7 x.f.w r xx b]) 3 false);have w4:=w2.push (.cells (ints [Qd7 x.f.w r xx b]) 3 false);have bR:-1<=Qd7 x.f.w r xx b∧Qd7 x.f.w r xx b<=15:=by unfold Qd7;omega
 simp only[ints,List.map,Lo,L9,LP,Nat.reduceAdd]at l2 x2 w2 k3 l1 x3 w3 lr x4 w4;cases need with
 | false=>
  rw[Le (by decide)]at eW;simp only[Yv,Z4,Z3,Qb,simprocAttr,r14,r15];cases bar with
  | false=>
   rw[Le (by decide)]at eW;simp only[Qb,simprocAttr,r15];refine QDC hf hxb hlb (ns:=[-1,0]) (by simp) (by simp) x2 w2 l2 eW g2 ?_ ?_
   all_goals simp only[Qg,simprocAttr,r5]
   all_goals rfl
  | true=>
   rw[Lc rfl]at eW;simp only[Qb,simprocAttr,r15];refine QDC hf hxb hlb (ns:=[-1]) (by simp) (by simp) x3 w3 l1 eW g2 ?_ ?_
   all_goals simp only[Qg,simprocAttr,r5]
   all_goals rfl
 | true=>
  rw[Lc rfl]at eW;simp only[Yv,Qb,simprocAttr,r14,r15];cases bar with
  | true=>
   rw[Lc rfl]at eW;simp only[Qb,simprocAttr,r15,Jt];exact .mk (hxb.trans hx1).next ⟨by rw[eW];exact Zq.nil (by decide) _ _,hxb.trans hx1⟩
  | false=>
   rw[Le (by decide)]at eW;simp only[Z4,Qb,simprocAttr,r2,r3,r4,r5,r14,r15,k2,k3,e7];refine(QB1 x.f.w r xx b (by omega) hr hxx hb _).thenW ?_;rintro _ H9 _ _ ⟨rfl,rfl⟩;simp only[Z3,Qb,simprocAttr,r15];refine QDC hf hxb hlb (ns:=[Qd7 x.f.w r xx b]) (by simp) (by simp only[Sa];rintro n rfl;exact bR) x4 w4 lr eW g2 ?_ ?_
   all_goals simp only[Qg,simprocAttr,r5]
   all_goals rfl
theorem QHy (hf:FOk x.f)(hv:x.f.vex=false){Hb:Qa}(hxb:Ext H Hb)(hlb:H.next+2<=Hb.next)(hw:H.Wf)(hwb:Hb.Wf)(ha:Qv H va l)(hl:l.length<=1000)(hr:0<=r∧r<2)(hxx:0<=xx∧xx<2)(hb:0<=b∧b<2){W:List (List Int)}(eW:W=QcI x.f l r xx b){A:Env}(g2:Hb.get H.next=some (.cells x.cells 45 false))(g3:Hb.get (H.next+1)=some (.cells [.int .i64 op,va] 24 false))(r2:A 2=.int .i64 r)(r3:A 3=.int .i64 xx)(r4:A 4=.int .i64 b)(r5:A 5=.pointer (some ⟨H.next,0,none⟩))(r6:A 6=.pointer (some ⟨H.next+1,0,none⟩)):
  Qm prog Zu ⟨KHr H W,WJ⟩ (KHr H W) A Hb:=by
 have e7:x.cells[7]? = some (.int .i64 x.f.w):=rfl;have hwv:=hf.w hv;unfold QcI chF at eW;rw[Le (by rw[hv];decide)]at eW;have w1:IntKind.i64.wrap (x.f.w+r)=x.f.w+r:=w64 (by unfold I64;omega);have w2:IntKind.i64.wrap (x.f.w+r+xx)=x.f.w+r+xx:=w64 (by unfold I64;omega);have w3:IntKind.i64.wrap (x.f.w+r+xx+b)=x.f.w+r+xx+b:=w64 (by unfold I64;omega);have en:decide (0<x.f.w+r+xx+b)=decide (0<Qd7 x.f.w r xx b):=by
  unfold Qd7;rw[Ni,Lv,Lv];omega
 rw[<- en]at eW;obtain⟨a0,cap,rfl,h1⟩:=id ha;simp only[Zu,Qb,simprocAttr,r2,r3,r4,r5,g2,e7,w1,w2,w3];generalize decide (0<x.f.w+r+xx+b)=n0 at *;refine Qo (λm A' H'=>∃i:Nat,i<=l.length∧m=l.length - i∧H'.Wf∧Ext Hb H'∧A' 2=.int .i64 r∧A' 3=.int .i64 xx∧A' 4=.int .i64 b∧A' 5=.pointer (some ⟨H.next,0,none⟩)∧A' 6=.pointer (some ⟨H.next+1,0,none⟩)∧A' 14=.bool (n0||Qa5 (l.take i))∧A' 15=.bool (Qhc (l.take i))∧A' 16=.int .i64 i) l.length ?_ ?_
 ·refine⟨0,L7 _,by omega,hwb,.refl _,?_,?_,?_,?_,?_,?_,?_,?_⟩
  all_goals simp only[Qg,simprocAttr,r2,r3,r4,r5,r6]
  all_goals simp[Qa5,Qhc]
 ·rintro m A' H' ⟨i,hi,rfl,hw',hx,p2,p3,p4,p5,p6,p14,p15,p16⟩;have k3:=(hx.get (H.next+1) (by omega)).trans g3;simp only[Vp,Qb,simprocAttr,p6,p16,k3];refine Qf (λh2=>?_) (λh2=>?_)
  ·have h2:i<l.length:=by have:=Lg h2;omega
   obtain⟨a,hai⟩:∃a,l[i]? = some a:=⟨_,La h2⟩;obtain⟨bb,e,ro,rfl,hgb0⟩:=h1 (by omega);have hgb:H'.get bb=some (.cells (Qi l) e ro):=by rw[(hxb.trans hx).get bb (hw.lt hgb0)];exact hgb0
   have hk0:(Qi l)[i * 11]? = some (.int .i64 a.k):=by
    have:=WI l i a hai;have h:=congrArg (λz=>z[0]?) this;simpa[Ar.cells,Nl,Nk] using h
   have hrg:=QeU hai;have hle:i * 11+1+2<=(Qi l).length:=by rw[QJ];omega
   have d1:(0:Int)<=i∧(i:Int)<l.length:=by omega
   have d3:(i:Int).toNat=i:=by omega
   have ei:IntKind.i64.wrap ((i:Int)+1)=((i+1:Nat):Int):=by rw[w64 (by unfold I64;omega)];omega
   have htl:l.take (i+1)=l.take i++[a]:=by rw[Nv,hai];rfl
   have hN:Qa5 (l.take (i+1))=(Qa5 (l.take i)||(a.k==1&&Qnc a.r)):=by unfold Qa5;rw[htl,Rz];simp
   have hB:Qhc (l.take (i+1))=(Qhc (l.take i)||(a.k==1&&Qsy a.r)):=by unfold Qhc;rw[htl,Rz];simp
   have q1:=Qxs a.r;have q2:=Qzt a.r;simp only[Rg.cells]at q1 q2
   -- the end of a round
   have hend:∀ (A2:Env) (H3:Qa),Ext Hb H3->H3.Wf->A2 2=.int .i64 r->A2 3=.int .i64 xx->A2 4=.int .i64 b->A2 5=.pointer (some ⟨H.next,0,none⟩)->A2 6=.pointer (some ⟨H.next+1,0,none⟩)->A2 14=.bool (n0||Qa5 (l.take (i+1)))->A2 15=.bool (Qhc (l.take (i+1)))->A2 16=.int .i64 ((i+1:Nat):Int)->Qqt (λm A' H'=>∃i:Nat,i<=l.length∧m=l.length - i∧H'.Wf∧Ext Hb H'∧A' 2=.int .i64 r∧A' 3=.int .i64 xx∧A' 4=.int .i64 b∧A' 5=.pointer (some ⟨H.next,0,none⟩)∧A' 6=.pointer (some ⟨H.next+1,0,none⟩)∧A' 14=.bool (n0||Qa5 (l.take i))∧A' 15=.bool (Qhc (l.take i))∧A' 16=.int .i64 i) (l.length - i) A2 H3:=
    λA2 H3 e1 e2 s2 s3 s4 s5 s6 s14 s15 s16=>⟨l.length - (i+1),by omega,i+1,by omega,rfl,e2,e1,s2,s3,s4,s5,s6,s14,s15,s16⟩
   rw[hN,hB,<- FP]at hend;generalize Qa5 (l.take i)=N at *;generalize Qhc (l.take i)=B at *;obtain⟨N',eN⟩:∃N',N'=(n0||N):=⟨_,rfl⟩;rw[<- eN]at hend p14;simp only[Vo,Qb,simprocAttr,p6,p16,k3,d1,d3,hgb,hk0];cases hk:a.k==1 with
   | false=>
    rw[hk,NG,NI,NG,NI]at hend;simp only[Qb,simprocAttr,hk,p16,ei];refine hend _ H' hx hw' ?_ ?_ ?_ ?_ ?_ ?_ ?_ ?_
    all_goals simp only[Qg,simprocAttr,p2,p3,p4,p5,p6,p14,p15]
   | true=>
    rw[hk,LJ,LJ]at hend;have d1':=d1;simp only[Qb,simprocAttr,hk];cases N' with
    | true=>
     rw[N1]at hend;cases B with
     | true=>
      rw[N1]at hend;simp only[Yw,Qb,simprocAttr,p14,p15,p16,ei];refine hend _ H' hx hw' ?_ ?_ ?_ ?_ ?_ ?_ ?_ ?_
      all_goals simp only[Qg,simprocAttr,p2,p3,p4,p5,p6,p14,p15]
     | false=>
      rw[Nt]at hend;simp only[Yw,Qb,simprocAttr,p6,p14,p15,p16,ei,k3,d1,d3,hgb,hrg];refine⟨hle,(q2 H').thenW ?_⟩;rintro _ _ hn4 hw4 ⟨rfl,k4,rfl⟩;simp only[Ql]at hn4;simp only[Qb,simprocAttr,p16,ei];refine hend _ _ (hx.up hn4) hw4 ?_ ?_ ?_ ?_ ?_ ?_ ?_ ?_
      all_goals simp only[Qg,simprocAttr,p2,p3,p4,p5,p6,p14,p15]
    | false=>
     rw[Nt]at hend;simp only[Yw,Qb,simprocAttr,p6,p14,p15,p16,ei,k3,d1,d3,hgb,hrg];refine⟨hle,(q1 H').thenW ?_⟩;rintro _ _ hn3 hw3 ⟨rfl,k5,rfl⟩;simp only[Ql]at hn3;have hx3:=hx.up (m:=k5) hn3;have k33:=(hx3.get (H.next+1) (by omega)).trans g3;have hgb3:(H'.up k5).get bb=some (.cells (Qi l) e ro):=by rw[Y0];exact hgb
     generalize H'.up k5=H3 at *;cases B with
     | true=>
      rw[N1]at hend;simp only[Qb,simprocAttr,p6,p15,p16,ei];refine hend _ H3 hx3 hw3 ?_ ?_ ?_ ?_ ?_ ?_ ?_ ?_
      all_goals simp only[Qg,simprocAttr,p2,p3,p4,p5,p6,p14,p15]
     | false=>
      rw[Nt]at hend;simp only[Qb,simprocAttr,p6,p15,p16,ei,k33,d1,d3,hgb3,hrg];refine⟨hle,(q2 H3).thenW ?_⟩;rintro _ _ hn4 hw4 ⟨rfl,k4,rfl⟩;simp only[Ql]at hn4;simp only[Qb,simprocAttr,p16,ei];refine hend _ _ (hx3.up hn4) hw4 ?_ ?_ ?_ ?_ ?_ ?_ ?_ ?_
      all_goals simp only[Qg,simprocAttr,p2,p3,p4,p5,p6,p14,p15]
  ·have h2:i=l.length:=by have:=Ll h2;omega
   subst h2;rw[Nr]at p14 p15;simp only[Qb,simprocAttr];exact QI4 hf hxb hlb hx hw' hwv hr hxx hb (need:=n0||Qa5 l) (bar:=Qhc l) eW g2 p2 p3 p4 p5 p14 p15
end
theorem QxJ {x:Lf}{op:Int}{va:Value}{l:List Ar}{r xx b:Int}(hf:FOk x.f)(hvx:x.f.vex=true->(vxR x.f l r xx b).Ok)(hr:0<=r∧r<2)(hxx:0<=xx∧xx<2)(hb:0<=b∧b<2)(H:Qa)(hx:x.At H)(ha:Qv H va l)(hl:l.length<=1000)(hn:x.f.slots.length=l.length):
  Qe prog 88 [.agg x.cells.toArray,.agg #[.int .i64 op,va],.int .i64 r,.int .i64 xx,.int .i64 b] H λv H'=>Zq 27 H H' v (QcI x.f l r xx b)∧Ext H H':=by
 refine Qid λhw=>?_;have ec:(Value.agg x.cells.toArray).cells.toList=x.cells:=rfl;have e8:x.cells[8]? = some (.bool x.f.vex):=rfl;obtain⟨W,eW⟩:∃W,W=QcI x.f l r xx b:=⟨_,rfl⟩;rw[<- eW];obtain⟨a0,cap,rfl⟩:=Qu ha;obtain⟨Hb,eb,g2,g3,hxb,hwb,hxB,hnb⟩:=QFy (op:=op) (va:=.slice a0 l.length cap) hw hx;simp only[Qbk,ec,Qb,simprocAttr,eb,g2,e8];cases hv:x.f.vex with
 | true=>
  simp only[Qb,simprocAttr,hv];refine QHx hxb (by omega) hw hwb hx ha hl hn (hvx hv) (by rw[eW,QcI,Lc hv]) g2 g3 ?_ ?_ ?_ ?_ ?_
  all_goals simp only[Qg,simprocAttr]
 | false=>
  simp only[Qb,simprocAttr,hv];refine QHy hf hv hxb (by omega) hw hwb ha hl hr hxx hb eW g2 g3 ?_ ?_ ?_ ?_ ?_
  all_goals simp only[Qg,simprocAttr]
structure Chk (f:Fm):Prop where
 op:Y5 f.op=true
 len:f.shapes.length<=4∧f.slots.length=f.shapes.length
 rng:(0<=f.pre∧f.pre<=5)∧(0<=f.map∧f.map<=3)∧(0<=f.code∧f.code<=255)∧(-1<=f.digit∧f.digit<=7)
 sl:∀i,i<f.slots.length->QfZ (f.shapes.getD i 0) (f.slots.getD i 0)=true∧(f.slots.getD i 0=6∨Qn f.slots (f.slots.getD i 0)=i)
 vx:if f.vex=true then ¬f.map=0∧¬f.pre=3∧¬f.pre=5∧(-1<=f.w∧f.w<=1)∧(0<=f.l∧f.l<=1) else(0<=f.w∧f.w<=1)∧f.l=0∧Qn f.slots 3<0∧Qn f.slots 7<0
 fl:if 0<=Qn f.slots 4 then Qn f.slots 1<0∧Qn f.slots 2<0∧f.digit<0 else if 0<=Qn f.slots 2 then(0<=Qn f.slots 1↔f.digit<0) else Qn f.slots 1<0∧f.digit<0
 cd:(0<=Qn f.slots 4->f.code % 8=0∧¬ (f.map=0∧(f.code=64∨f.code=72)))∧(¬f.map=0∨(¬f.code=15∧¬ (64<=f.code∧f.code<=79)∧¬f.code=102∧¬f.code=196∧¬f.code=197∧¬f.code=242∧¬f.code=243))
section
variable {x:Lf}
theorem QxK (hc:Chk x.f)(H:Qa)(hx:x.At H):Qe prog 257 [.agg x.cells.toArray] H λu H'=>u=.bool true∧Ext H H':=by
 refine Qih λhw=>?_;have ec:(Value.agg x.cells.toArray).cells.toList=x.cells:=rfl;have e10:x.cells.take 10=x.cells:=rfl;have l10:10<=x.cells.length:=Lb _;obtain⟨H1,e1,g1,x1,w1,a1,n1⟩:=Qne hw hx;obtain⟨_,_,⟨b1,c1,t1,s1⟩,⟨b2,c2,t2,s2⟩⟩:=id a1;have y1:x.cells[1]? = some (.slice b1 x.f.shapes.length c1):=by rw[<- t1];rfl
 have y2:x.cells[2]? = some (.slice b2 x.f.slots.length c2):=by rw[<- t2];rfl
 obtain⟨m1,m2⟩:=hc.len;simp only[Qbv,ec,Qb,simprocAttr,e1];refine Qo (λm A' H'=>∃i:Nat,i<=x.f.slots.length∧m=x.f.slots.length - i∧H'.Wf∧Ext H1 H'∧A' 1=.pointer (some ⟨H.next,0,none⟩)∧A' 3=.int .i64 i) x.f.slots.length ?_ ?_
 ·refine⟨0,L7 _,by omega,w1,.refl _,?_,?_⟩
  all_goals simp only[Qg,simprocAttr]
  all_goals rfl
 ·rintro m A' H' ⟨i,hi,rfl,w',x',r1,r3⟩;have g':H'.get H.next=some (.cells x.cells 45 false):=by rw[x'.get _ (by omega)];exact g1
  simp only[Vu,Qb,simprocAttr,r1,r3,g',y2];refine Qf (λh2=>?_) (λh2=>?_)
  ·have h2:i<x.f.slots.length:=by have:=Lg h2;omega
   obtain⟨p2,e2,ro2,rfl,k2⟩:=s2 (by omega);obtain⟨p1,e3,ro1,rfl,k1⟩:=s1 (by omega);have k2:H'.get p2=some (.cells (ints x.f.slots) e2 ro2):=by rw[x'.get _ (w1.lt k2)];exact k2
   have k1:H'.get p1=some (.cells (ints x.f.shapes) e3 ro1):=by rw[x'.get _ (w1.lt k1)];exact k1
   have d1:(0:Int)<=i∧(i:Int)<x.f.slots.length:=by omega
   have d2:(0:Int)<=i∧(i:Int)<x.f.shapes.length:=by omega
   have d3:(i:Int).toNat=i:=by omega
   have i1:=Zh (l:=x.f.shapes) (i:=i) (by omega);have i2:=Zh (l:=x.f.slots) (i:=i) (by omega);have ei:IntKind.i64.wrap ((i:Int)+1)=((i+1:Nat):Int):=by rw[w64 (by unfold I64;omega)];omega
   obtain⟨hg,h6⟩:=hc.sl i h2;simp only[Vt,Qb,simprocAttr,r1,r3,g',y1,y2,d1,d2,d3,k1,k2,i1,i2];refine(Qzx _ _ H').thenW ?_;rintro _ H' _ _ ⟨rfl,rfl⟩;have next:∀ (B:Env) (H2:Qa),Ext H' H2->H2.Wf->B 1=A' 1->B 3=.int .i64 ((i+1:Nat):Int)->∃m,m<x.f.slots.length - i∧∃j:Nat,j<=x.f.slots.length∧m=x.f.slots.length - j∧H2.Wf∧Ext H1 H2∧B 1=.pointer (some ⟨H.next,0,none⟩)∧B 3=.int .i64 j:=λB H2 z1 z2 z3 z4=>⟨_,by omega,i+1,by omega,rfl,z2,x'.trans z1,z3.trans r1,z4⟩;cases q6:x.f.slots.getD i 0==6 with
   | true=>
    simp only[Qb,simprocAttr,hg,q6,r1,r3,g',y2,d1,d3,k2,i2,ei];refine next _ _ (.refl _) w' ?_ ?_<;>simp only[Qg,simprocAttr]
   | false=>
    simp only[Qb,simprocAttr,hg,q6,r1,r3,g',y2,d1,d3,k2,i2,Lw,e10];refine⟨l10,?_⟩;refine(XB x _ H' (a1.ext w1 x')).thenW ?_;rintro _ _ hn w2 ⟨rfl,m,rfl⟩;have h6:=h6.resolve_left (by simpa using q6);rw[h6];simp only[Qb,simprocAttr,r3,ei,LO];refine next _ _ ((Ext.refl H').up hn) w2 ?_ ?_<;>simp only[Qg,simprocAttr]
  ·simp only[Qb,simprocAttr,Qhl];exact .mk (x1.trans x').next ⟨rfl,x1.trans x'⟩
theorem QzD {a n b:Int}(h:a<=n∧n<=b):(decide (a<=n)&&decide (n<=b))=true:=by simp[h.1,h.2]
theorem QB8 (hc:Chk x.f)(H:Qa)(hx:x.At H):Qe prog 258 [.agg x.cells.toArray] H λu H'=>u=.bool true∧Ext H H':=by
 refine QkM λhw=>?_;have ec:(Value.agg x.cells.toArray).cells.toList=x.cells:=rfl;have e10:x.cells.take 10=x.cells:=rfl;have l10:10<=x.cells.length:=Lb _;obtain⟨H1,e1,g1,x1,w1,a1,n1⟩:=Qne hw hx;have f3:x.cells[3]? = some (.int .i64 x.f.pre):=rfl;have f4:x.cells[4]? = some (.int .i64 x.f.map):=rfl;have f7:x.cells[7]? = some (.int .i64 x.f.w):=rfl;have f8:x.cells[8]? = some (.bool x.f.vex):=rfl;have f9:x.cells[9]? = some (.int .i64 x.f.l):=rfl;have hv:=hc.vx;simp only[Qdd,ec,Qb,simprocAttr,e1,g1,f8];cases c:x.f.vex with
 | true=>
  rw[Lc c]at hv;obtain⟨k1,k2,k3,k4,k5⟩:=hv;have k1:(x.f.map==0)=false:=by simpa using k1
  have k2:(x.f.pre==3)=false:=by simpa using k2
  have k3:(x.f.pre==5)=false:=by simpa using k3
  simp only[Qbx,Qb,simprocAttr,g1,f3,f4,f7,k1,k2,k3];refine(XX _ _ _ H1).thenW ?_;rintro _ H1 _ _ ⟨rfl,rfl⟩;rw[QzD k4];simp only[Qb,simprocAttr,g1,f9];refine(XX _ _ _ H1).thenW ?_;rintro _ H1 _ _ ⟨rfl,rfl⟩;rw[QzD k5];simp only[Qb,simprocAttr,Qca];exact .mk x1.next ⟨rfl,x1⟩
 | false=>
  rw[Le (by rw[c];decide)]at hv;obtain⟨k1,k2,k3,k4⟩:=hv;have k3:decide (0<=Qn x.f.slots 3)=false:=by simp;omega
  have k4:decide (0<=Qn x.f.slots 7)=false:=by simp;omega
  have k2:(x.f.l==0)=true:=by simpa using k2
  simp only[Qbw,Qb,simprocAttr,g1,f7];refine(XX _ _ _ H1).thenW ?_;rintro _ H1 _ _ ⟨rfl,rfl⟩;rw[QzD k1];simp only[Qb,simprocAttr,g1,f9,k2,Lw,e10];refine⟨l10,?_⟩;refine(Qaw x 3 H1 a1).thenW ?_;rintro _ _ hn w2 ⟨rfl,m,rfl⟩;simp only[Ql]at hn;rw[k3];have x2:=(Ext.refl H1).up hn;have g2:(H1.up m).get H.next=some (.cells x.cells 45 false):=by rw[x2.get _ (by omega)];exact g1
  simp only[Qb,simprocAttr,g2,Lw,e10];refine⟨l10,?_⟩;refine(Qaw x 7 _ (a1.ext w1 x2)).thenW ?_;rintro _ _ hn2 w3 ⟨rfl,m3,rfl⟩;simp only[Ql]at hn2;rw[k4];simp only[Qb,simprocAttr,Qca];have x3:=(x1.trans x2).up hn2;exact .mk x3.next ⟨rfl,x3⟩
theorem QzE (hc:Chk x.f)(H:Qa)(hx:x.At H):Qe prog 260 [.agg x.cells.toArray] H λu H'=>u=.bool true∧Ext H H':=by
 refine QjD λhw=>?_;have ec:(Value.agg x.cells.toArray).cells.toList=x.cells:=rfl;have e10:x.cells.take 10=x.cells:=rfl;have l10:10<=x.cells.length:=Lb _;obtain⟨H1,e1,g1,x1,w1,a1,n1⟩:=Qne hw hx;have f4:x.cells[4]? = some (.int .i64 x.f.map):=rfl;have f5:x.cells[5]? = some (.int .i64 x.f.code):=rfl;obtain⟨k1,k2⟩:=hc.cd;obtain⟨_,_,r5,_⟩:=hc.rng;simp only[Qcc,ec,Qb,simprocAttr,e1,g1,f5,Lw,e10];refine⟨l10,?_⟩;refine(Qaw x 4 H1 a1).thenW ?_;rintro _ _ hn w2 ⟨rfl,m,rfl⟩;simp only[Ql]at hn;have x2:=(Ext.refl H1).up hn;have x3:=x1.trans x2;have g2:(H1.up m).get H.next=some (.cells x.cells 45 false):=by rw[x2.get _ (by omega)];exact g1
 have rest:∀ (B:Env),B 1=.pointer (some ⟨H.next,0,none⟩)->B 3=.int .i64 x.f.code->Qm prog YT ⟨Rt prog Tryz.f260 H λu H'=>u=.bool true∧Ext H H',WJ⟩ (Rt prog Tryz.f260 H λu H'=>u=.bool true∧Ext H H') B (H1.up m):=by
  intro B b1 b3;cases c4:x.f.map==0 with
  | false=>
   simp only[YT,Qb,simprocAttr,b1,b3,g2,f4,c4,Qby];exact .mk x3.next ⟨rfl,x3⟩
  | true=>
   have k2:=k2.resolve_left (by simpa using c4);obtain⟨n1,n2,n3,n4,n5,n6,n7⟩:=k2;have n1:(x.f.code==15)=false:=by simpa using n1
   have n2:(decide (64<=x.f.code)&&decide (x.f.code<=79))=false:=by simp;omega
   have n3:(x.f.code==102)=false:=by simpa using n3
   have n4:(x.f.code==196)=false:=by simpa using n4
   have n5:(x.f.code==197)=false:=by simpa using n5
   have n6:(x.f.code==242)=false:=by simpa using n6
   have n7:(x.f.code==243)=false:=by simpa using n7
   simp only[YT,Qb,simprocAttr,b1,b3,g2,f4,c4,n1];refine(XX _ _ _ _).thenW ?_;rintro _ _ _ _ ⟨rfl,rfl⟩;rw[n2];simp only[Qb,simprocAttr,b3,n3,n4,n5,n6,n7,Qby];exact .mk x3.next ⟨rfl,x3⟩
 cases c:decide (0<=Qn x.f.slots 4) with
 | false=>
  simp only[Qb,simprocAttr];refine rest _ ?_ ?_<;>simp only[Qg,simprocAttr]
 | true=>
  obtain⟨k3,k4⟩:=k1 (Lg c);have e8:(x.f.code.tmod 8==0)=true:=by rw[BM (by omega),k3];rfl
  cases c4:x.f.map==0 with
  | false=>
   simp only[sxA,sxB,Nat.reduceBEq,Nat.reduceEqDiff,reduceCtorEq,mxA,mxB,Nat.reduceAdd,reduceIte,Nat.reduceLeDiff,splice,e8,g2,f4,c4];refine⟨by decide,?_⟩;refine rest _ ?_ ?_<;>simp only[Qg,simprocAttr]
  | true=>
   have k4:(x.f.code==64)=false∧(x.f.code==72)=false:=by
    have:x.f.map=0:=by simpa using c4
    constructor<;>simp<;>omega
   simp only[sxA,sxB,Nat.reduceBEq,Nat.reduceEqDiff,reduceCtorEq,mxA,mxB,Nat.reduceAdd,reduceIte,Nat.reduceLeDiff,splice,e8,g2,f4,c4,k4.1,k4.2];refine⟨by decide,?_⟩;refine rest _ ?_ ?_<;>simp only[Qg,simprocAttr]
theorem QvU (hc:Chk x.f)(hf:x.Fr 0)(H:Qa)(hx:x.At H):Qe prog 259 [.agg x.cells.toArray] H λu H'=>u=.bool true∧Ext H H':=by
 refine Qhm λhw=>?_;have ec:(Value.agg x.cells.toArray).cells.toList=x.cells:=rfl;have e10:x.cells.take 10=x.cells:=rfl;have l10:10<=x.cells.length:=Lb _;obtain⟨H1,e1,g1,x1,w1,a1,n1⟩:=Qne hw hx;have f6:x.cells[6]? = some (.int .i64 x.f.digit):=rfl;have k:=hc.fl;have bl:=λm (hm:H1.next<=m)=>QsT hw hx hf m (N8 x1.next hm);simp only[Qav,ec,Qb,simprocAttr,e1,g1,Lw,e10];refine⟨l10,⟨by omega,by omega,by omega⟩,?_⟩;refine(Qaw x 1 H1 a1).thenW ?_;rintro _ _ hn w2 ⟨rfl,m,rfl⟩;simp only[Ql]at hn;have x2:=(Ext.refl H1).up hn;have g2:(H1.up m).get H.next=some (.cells x.cells 45 false):=by rw[x2.get _ (by omega)];exact g1
 simp only[Qb,simprocAttr,g2,Lw,e10];refine⟨x2.eqB,l10,bl m hn,⟨by omega,by omega⟩,?_⟩;refine(Qaw x 2 _ (a1.ext w1 x2)).thenW ?_;rintro _ _ hn2 w3 ⟨rfl,m2,rfl⟩;simp only[Ql]at hn2;have x3':=(Ext.refl (H1.up m)).up hn2;have x3:=x2.trans x3';have g3:((H1.up m).up m2).get H.next=some (.cells x.cells 45 false):=by rw[x3.get _ (by omega)];exact g1
 simp only[Qb,simprocAttr,g3,Lw,e10];refine⟨x3'.eqB,l10,bl m2 (by omega),by omega,?_⟩;refine(Qaw x 4 _ (a1.ext w1 x3)).thenW ?_;rintro _ _ hn3 w4 ⟨rfl,m3,rfl⟩;simp only[Ql]at hn3;have x4':=(Ext.refl ((H1.up m).up m2)).up hn3;have x4:=x3.trans x4';have g4:(((H1.up m).up m2).up m3).get H.next=some (.cells x.cells 45 false):=by rw[x4.get _ (by omega)];exact g1
 have x5:=x1.trans x4;simp only[Qb,simprocAttr,g4,f6];refine⟨x4'.eqB,?_⟩;cases c4:decide (0<=Qn x.f.slots 4) with
 | true=>
  rw[Lc (Lg c4)]at k;have c1:decide (0<=Qn x.f.slots 1)=false:=by simp;omega
  have c2:decide (0<=Qn x.f.slots 2)=false:=by simp;omega
  have c3:decide (0<=x.f.digit)=false:=by simp;omega
  simp only[Yd,Qb,simprocAttr,c1,c2,c3,Z5];exact⟨by simp[Qh,Ab.plain],.mk x5.next ⟨rfl,x5⟩⟩
 | false=>
  rw[Le (Ll c4)]at k;cases c2:decide (0<=Qn x.f.slots 2) with
  | true=>
   rw[Lc (Lg c2)]at k;have ke:(decide (0<=Qn x.f.slots 1)==decide (0<=x.f.digit))=false:=by
    by_cases h1:0<=Qn x.f.slots 1
    ·have:=k.1 h1;simp[h1];omega
    ·have:¬x.f.digit<0:=λh=>h1 (k.2 h);simp[h1];omega
   simp only[Yd,Qb,simprocAttr,c2,ke,Z5];exact⟨by simp[Qh,Ab.plain],.mk x5.next ⟨rfl,x5⟩⟩
  | false=>
   rw[Le (Ll c2)]at k;have c1:decide (0<=Qn x.f.slots 1)=false:=by simp;omega
   have c3:decide (0<=x.f.digit)=false:=by simp;omega
   simp only[Yd,Qb,simprocAttr,c1,c2,c3,Z5];exact⟨by simp[Qh,Ab.plain],.mk x5.next ⟨rfl,x5⟩⟩
theorem QxL (hc:Chk x.f)(hf:x.Fr 0)(H:Qa)(hx:x.At H):Qe prog 121 [.agg x.cells.toArray] H λu H'=>u=.int .i64 0∧Ext H H':=by
 refine Qie λhw=>?_;have ec:(Value.agg x.cells.toArray).cells.toList=x.cells:=rfl;have e10:x.cells.take 10=x.cells:=rfl;have l10:10<=x.cells.length:=Lb _;obtain⟨H1,e1,g1,x1,w1,a1,n1⟩:=Qne hw hx;obtain⟨_,_,⟨b1,c1,t1,s1⟩,⟨b2,c2,t2,s2⟩⟩:=id a1;have y1:x.cells[1]? = some (.slice b1 x.f.shapes.length c1):=by rw[<- t1];rfl
 have y2:x.cells[2]? = some (.slice b2 x.f.slots.length c2):=by rw[<- t2];rfl
 have f0:x.cells[0]? = some (.int .i64 x.f.op):=rfl;have f3:x.cells[3]? = some (.int .i64 x.f.pre):=rfl;have f4:x.cells[4]? = some (.int .i64 x.f.map):=rfl;have f5:x.cells[5]? = some (.int .i64 x.f.code):=rfl;have f6:x.cells[6]? = some (.int .i64 x.f.digit):=rfl;obtain⟨m1,m2⟩:=hc.len;obtain⟨r3,r4,r5,r6⟩:=hc.rng;have hop:=hc.op;have l1:decide ((x.f.shapes.length:Int)>4)=false:=by simp;omega
 have l2:decide ((x.f.slots.length:Int)>4)=false:=by simp;omega
 have l3:((x.f.shapes.length:Int)==x.f.slots.length)=true:=by simp;omega
 simp only[Qbl,ec,Qb,simprocAttr,e1,g1,f0];refine(QcP _ H1).thenW ?_;rintro _ H1 _ _ ⟨rfl,rfl⟩;rw[hop];simp only[Vs,Vr,Qb,simprocAttr,g1,f3,y1,y2,l1,l2];refine(XX _ _ _ H1).thenW ?_;rintro _ H1 _ _ ⟨rfl,rfl⟩;rw[QzD r3];simp only[Qb,simprocAttr,g1,f4];refine(XX _ _ _ H1).thenW ?_;rintro _ H1 _ _ ⟨rfl,rfl⟩;rw[QzD r4];simp only[Qb,simprocAttr,g1,f5];refine(XX _ _ _ H1).thenW ?_;rintro _ H1 _ _ ⟨rfl,rfl⟩;rw[QzD r5];simp only[Qb,simprocAttr,g1,f6];refine(XX _ _ _ H1).thenW ?_;rintro _ H1 _ _ ⟨rfl,rfl⟩;rw[QzD r6];simp only[Vq,Qb,simprocAttr,g1,y1,y2,l3,Lw,e10];refine⟨l10,?_⟩;refine(QxK hc H1 a1).thenW ?_;rintro _ H2 n2 w2 ⟨rfl,x2⟩;have g2:H2.get H.next=some (.cells x.cells 45 false):=by rw[x2.get _ (by omega)];exact g1
 simp only[Qb,simprocAttr,g2,Lw,e10];refine⟨l10,?_⟩;refine(QB8 hc H2 (a1.ext w1 x2)).thenW ?_;rintro _ H3 n3 w3 ⟨rfl,x3⟩;have x3:=x2.trans x3;have g3:H3.get H.next=some (.cells x.cells 45 false):=by rw[x3.get _ (by omega)];exact g1
 simp only[Qb,simprocAttr,g3,Lw,e10];refine⟨l10,?_⟩;refine(QvU hc hf H3 (a1.ext w1 x3)).thenW ?_;rintro _ H4 n4 w4 ⟨rfl,x4⟩;have x4:=x3.trans x4;have g4:H4.get H.next=some (.cells x.cells 45 false):=by rw[x4.get _ (by omega)];exact g1
 simp only[Qb,simprocAttr,g4,Lw,e10];refine⟨l10,?_⟩;refine(QzE hc H4 (a1.ext w1 x4)).thenW ?_;rintro _ H5 n5 w5 ⟨rfl,x5⟩;have x5:=(x1.trans x4).trans x5;simp only[Qb,simprocAttr,Qhg];exact .mk x5.next ⟨rfl,x5⟩
end
theorem Qni {a:Ar}{H:Qa}(hw:H.Wf):∃H1,H.push (.cells a.cells 58 false)=H1∧H1.get H.next=some (.cells a.cells 58 false)∧Ext H H1∧H1.Wf∧H1.next=H.next+1:=
 ⟨_,rfl,by rw[Qd,Lc rfl],(Ext.refl H).push _,hw.push _,rfl⟩
theorem Qlv (a:Ar)(c:Int)(H:Qa):Qe prog 261 [.agg a.cells.toArray,.int .i64 c] H λu H'=>u=.bool ((a.k==1)&&(a.r.c==c))∧Ext H H':=by
 refine QkN λhw=>?_;have ec:(Value.agg a.cells.toArray).cells.toList=a.cells:=rfl;obtain⟨H1,e1,g1,x1,w1,n1⟩:=Qni (a:=a) hw;have f0:a.cells[0]? = some (.int .i64 a.k):=rfl;have f1:a.cells[1]? = some (.int .i64 a.r.c):=rfl;simp only[Qde,ec,Qb,simprocAttr,e1,g1,f0];cases k:a.k==1<;>simp only[Qb,simprocAttr,k,g1,f1,QjE]<;>exact .mk x1.next ⟨rfl,x1⟩
theorem QpU (a:Ar)(c:Int)(H:Qa):Qe prog 262 [.agg a.cells.toArray,.int .i64 c] H λu H'=>u=.bool ((a.k==2)&&(a.m.sz==c))∧Ext H H':=by
 refine QkO λhw=>?_;have ec:(Value.agg a.cells.toArray).cells.toList=a.cells:=rfl;obtain⟨H1,e1,g1,x1,w1,n1⟩:=Qni (a:=a) hw;have f0:a.cells[0]? = some (.int .i64 a.k):=rfl;have f1:a.cells[9]? = some (.int .i64 a.m.sz):=rfl;simp only[Qdf,ec,Qb,simprocAttr,e1,g1,f0];cases k:a.k==2<;>simp only[Qb,simprocAttr,k,g1,f1,QjF]<;>exact .mk x1.next ⟨rfl,x1⟩
theorem QB9 (a:Ar)(c n:Int)(H:Qa):Qe prog 363 [.agg a.cells.toArray,.int .i64 c,.int .i64 n] H λu H'=>u=.bool ((a.k==1)&&(a.r.c==c)&&(a.r.n==n))∧Ext H H':=by
 refine QkQ λhw=>?_;have ec:(Value.agg a.cells.toArray).cells.toList=a.cells:=rfl;have e11:a.cells.take 11=a.cells:=rfl;have l11:11<=a.cells.length:=Lb _;obtain⟨H1,e1,g1,x1,w1,n1⟩:=Qni (a:=a) hw;have f2:a.cells[2]? = some (.int .i64 a.r.n):=rfl;simp only[Qdh,ec,Qb,simprocAttr,e1,g1,Lw,e11];refine⟨l11,?_⟩;refine(Qlv a c H1).thenW ?_;rintro _ H2 _ w2 ⟨rfl,x2⟩;have g2:H2.get H.next=some (.cells a.cells 58 false):=by rw[x2.get _ (by omega)];exact g1
 have x3:=x1.trans x2;cases k:(a.k==1)&&(a.r.c==c)<;>simp only[Qb,simprocAttr,g2,f2,QjJ]<;>exact .mk x3.next ⟨by simp,x3⟩
def shF (a:Ar)(s:Int):Bool:=ZQ s.toNat ⟨a,0,0⟩
theorem QtY (a:Ar)(s:Int)(hs:15<=s∧s<=34)(H:Qa):Qe prog 263 [.agg a.cells.toArray,.int .i64 s] H λu H'=>u=.bool (shF a s)∧Ext H H':=by
 refine Qgb λhw=>?_;have ec:(Value.agg a.cells.toArray).cells.toList=a.cells:=rfl;have e11:a.cells.take 11=a.cells:=rfl;have l11:11<=a.cells.length:=Lb _;obtain⟨H1,e1,g1,x1,w1,n1⟩:=Qni (a:=a) hw;have f0:a.cells[0]? = some (.int .i64 a.k):=rfl;have f10:a.cells[10]? = some (.int .i64 a.n):=rfl;have hs:s=15∨s=16∨s=17∨s=18∨s=19∨s=20∨s=21∨s=22∨s=23∨s=24∨s=25∨s=26∨s=27∨s=28∨s=29∨s=30∨s=31∨s=32∨s=33∨s=34:=by omega
 have fin:∀ {u:Value} {H':Qa} {b:Bool},u=.bool b->Ext H1 H'->b=shF a s->Ret H (λu H'=>u=.bool (shF a s)∧Ext H H') u H':=λ{u H' b} h1 h2 h3=>.mk (x1.trans h2).next ⟨by rw[h1,h3],x1.trans h2⟩;rcases hs with rfl | rfl | rfl | rfl | rfl | rfl | rfl | rfl | rfl | rfl | rfl | rfl | rfl | rfl | rfl | rfl | rfl | rfl | rfl | rfl
 all_goals simp only[Vv,K6,K7,K8,K9,Ga,Gb,Gc,Gd,Ge,Kw,Kx,Int.reduceBEq,ec,Qb,simprocAttr,e1,g1,f0,Lw,e11]
 all_goals first
  | (refine⟨l11,?_⟩;refine(QpU a _ H1).thenW ?_;rintro _ H2 _ w2 ⟨rfl,x2⟩;simp only[Qb,simprocAttr,W1];exact fin rfl x2 rfl)
  | (refine⟨l11,?_⟩;refine(QB9 a _ _ H1).thenW ?_;rintro _ H2 _ w2 ⟨rfl,x2⟩;simp only[Qb,simprocAttr,W1];exact fin rfl x2 rfl)
  | (simp only[Qb,simprocAttr,W1];exact fin rfl (.refl _) rfl)
  | skip
 have e26:shF a 26=((a.k==4)&&decide (-128<=a.n)&&decide (a.n<=127)):=rfl;cases k:a.k==4 with
 | false=>
  simp only[Qb,simprocAttr,k,W1];exact fin rfl (.refl _) (by rw[e26,k];rfl)
 | true=>
  simp only[Qb,simprocAttr,k,g1,f10];refine(XX _ _ _ H1).thenW ?_;rintro _ H2 _ _ ⟨rfl,h2⟩;simp only[Qb,simprocAttr,W1];exact fin rfl (by rw[h2];exact .refl _) (by rw[e26,k];rfl)
theorem QsV (a:Ar)(c:Int)(H:Qa):Qe prog 261 [.agg a.cells.toArray,.int .i64 c] H λu H'=>∃b,u=.bool b∧b=((a.k==1)&&(a.r.c==c))∧Ext H H':=(Qlv a c H).mono λ_ _ h=>⟨_,h.1,rfl,h.2⟩
theorem QuH (a:Ar)(s:Int)(hs:1<=s∧s<=6)(H:Qa):Qe prog 122 [.agg a.cells.toArray,.int .i64 s] H λu H'=>∃b,u=.bool b∧b=shF a s∧Ext H H':=by
  refine Ju λhw=>?_;have ec:(Value.agg a.cells.toArray).cells.toList=a.cells:=rfl;have e11:a.cells.take 11=a.cells:=rfl;have l11:11<=a.cells.length:=Lb _;obtain⟨H1,e1,g1,x1,w1,n1⟩:=Qni (a:=a) hw;have fin:∀ {u:Value} {H':Qa} {b:Bool},u=.bool b->Ext H1 H'->b=shF a s->Ret H (λu H'=>∃b,u=.bool b∧b=shF a s∧Ext H H') u H':=λ{u H' b} h1 h2 h3=>.mk (x1.trans h2).next ⟨b,h1,h3,x1.trans h2⟩;have hs:s=1∨s=2∨s=3∨s=4∨s=5∨s=6:=by omega
  rcases hs with rfl | rfl | rfl | rfl | rfl | rfl
  all_goals simp only[YS,X4,X5,X6,X7,X8,X9,Ya,Yb,Yc,XM,XN,XO,XP,Int.reduceBEq,ec,Qb,simprocAttr,e1,g1,Lw,e11]
  all_goals refine⟨l11,?_⟩
  all_goals first
    | (refine(Qlv a _ H1).thenW ?_;rintro _ H2 _ w2 ⟨rfl,x2⟩;simp only[Qb,simprocAttr,Q6];exact fin rfl x2 rfl)
    | (refine(QsV a _ H1).thenW ?_
       rintro _ H2 _ w2 ⟨b,rfl,hb,x2⟩;have g2:H2.get H.next=some (.cells a.cells 58 false):=by rw[x2.get _ (by omega)];exact g1
       cases b with
       | true=>simp only[Qb,simprocAttr,Q6];exact fin rfl x2 (by simp only[shF,ZQ,W3,YI,Int.reduceToNat]at hb ⊢;rw[<- hb];rfl)
       | false=>
         simp only[Qb,simprocAttr,g2,Lw,e11];refine⟨l11,?_⟩;refine(Qlv a _ H2).thenW ?_;rintro _ H3 _ w3 ⟨rfl,x3⟩;simp only[Qb,simprocAttr,Q6];exact fin rfl (x2.trans x3) (by simp only[shF,ZQ,W3,YI,Int.reduceToNat]at hb ⊢;rw[<- hb];rfl))
theorem QzF (a:Ar)(s:Int)(hs:7<=s∧s<=14)(H:Qa):Qe prog 122 [.agg a.cells.toArray,.int .i64 s] H λu H'=>∃b,u=.bool b∧b=shF a s∧Ext H H':=by
  refine Ju λhw=>?_;have ec:(Value.agg a.cells.toArray).cells.toList=a.cells:=rfl;have e11:a.cells.take 11=a.cells:=rfl;have l11:11<=a.cells.length:=Lb _;obtain⟨H1,e1,g1,x1,w1,n1⟩:=Qni (a:=a) hw;have fin:∀ {u:Value} {H':Qa} {b:Bool},u=.bool b->Ext H1 H'->b=shF a s->Ret H (λu H'=>∃b,u=.bool b∧b=shF a s∧Ext H H') u H':=λ{u H' b} h1 h2 h3=>.mk (x1.trans h2).next ⟨b,h1,h3,x1.trans h2⟩;have hs:s=7∨s=8∨s=9∨s=10∨s=11∨s=12∨s=13∨s=14:=by omega
  rcases hs with rfl | rfl | rfl | rfl | rfl | rfl | rfl | rfl
  all_goals simp only[YS,X4,X5,X6,X7,X8,X9,Ya,Yb,Yc,XM,XN,XO,XP,Int.reduceBEq,ec,Qb,simprocAttr,e1,g1,Lw,e11]
  all_goals refine⟨l11,?_⟩
  all_goals first
    | (refine(QsV a _ H1).thenW ?_
       rintro _ H2 _ w2 ⟨b,rfl,hb,x2⟩;have g2:H2.get H.next=some (.cells a.cells 58 false):=by rw[x2.get _ (by omega)];exact g1
       cases b with
       | true=>simp only[Qb,simprocAttr,Q6];exact fin rfl x2 (by simp only[shF,ZQ,W3,YI,Int.reduceToNat]at hb ⊢;rw[<- hb];rfl)
       | false=>
         simp only[Qb,simprocAttr,g2,Lw,e11];refine⟨l11,?_⟩;refine(QpU a _ H2).thenW ?_;rintro _ H3 _ w3 ⟨rfl,x3⟩;simp only[Qb,simprocAttr,Q6];exact fin rfl (x2.trans x3) (by simp only[shF,ZQ,W3,YI,Int.reduceToNat]at hb ⊢;rw[<- hb];rfl))
    | (refine(QuH a _ (by decide) H1).thenW ?_
       rintro _ H2 _ w2 ⟨b,rfl,hb,x2⟩;have g2:H2.get H.next=some (.cells a.cells 58 false):=by rw[x2.get _ (by omega)];exact g1
       cases b with
       | true=>simp only[Qb,simprocAttr,Q6];exact fin rfl x2 (by simp only[shF,ZQ,W3,YI,Int.reduceToNat]at hb ⊢;rw[<- hb];rfl)
       | false=>
         simp only[Qb,simprocAttr,g2,Lw,e11];refine⟨l11,?_⟩;refine(QpU a _ H2).thenW ?_;rintro _ H3 _ w3 ⟨rfl,x3⟩;simp only[Qb,simprocAttr,Q6];exact fin rfl (x2.trans x3) (by simp only[shF,ZQ,W3,YI,Int.reduceToNat]at hb ⊢;rw[<- hb];rfl))
theorem QvV (a:Ar)(s:Int)(hs:1<=s∧s<=34)(H:Qa):Qe prog 122 [.agg a.cells.toArray,.int .i64 s] H λu H'=>∃b,u=.bool b∧b=shF a s∧Ext H H':=by
 by_cases h6:s<=6
 ·exact QuH a s ⟨hs.1,h6⟩ H
 ·by_cases h14:s<=14
  ·exact QzF a s (by omega) H
  ·refine Ju λhw=>?_;have ec:(Value.agg a.cells.toArray).cells.toList=a.cells:=rfl;have e11:a.cells.take 11=a.cells:=rfl;have l11:11<=a.cells.length:=Lb _;obtain⟨H1,e1,g1,x1,w1,n1⟩:=Qni (a:=a) hw;have ne:∀k:Int,k<=14->(s==k)=false:=λk hk=>by simp;omega
   simp only[YS,X4,X5,X6,X7,X8,X9,Ya,Yb,Yc,XM,XN,XO,XP,ec,Qb,simprocAttr,e1,g1,ne 1 (by decide),ne 2 (by decide),ne 3 (by decide),ne 4 (by decide),ne 5 (by decide),ne 6 (by decide),ne 7 (by decide),ne 8 (by decide),ne 9 (by decide),ne 10 (by decide),ne 11 (by decide),ne 12 (by decide),ne 13 (by decide),ne 14 (by decide),Lw,e11];refine⟨l11,?_⟩;refine(QtY a s (by omega) H1).thenW ?_;rintro _ H2 _ w2 ⟨rfl,x2⟩;simp only[Qb,simprocAttr,Q6];exact .mk (x1.trans x2).next ⟨_,rfl,rfl,x1.trans x2⟩
def imF (n bits s:Int):Bool:=if s=20 then bits==8 else if s=22 then bits==16 else if s=23 then bits==32 else if s=25 then bits==64 else if s=21 then decide (bits>8)&&(decide (-128<=n)&&decide (n<=127)) else if s=24 then(bits==64)&&(decide (-2147483648<=n)&&decide (n<=2147483647)) else(s==33)&&(n==1)
theorem QCa (n bits s:Int)(H:Qa):Qe prog 123 [.int .i64 n,.int .i64 bits,.int .i64 s] H λu H'=>u=.bool (imF n bits s)∧H'=H:=by
 refine QkI λhw=>?_;simp(disch:=(first | omega | (simp only[hnP];try omega))) only[Qc9,XQ,XR,XS,XT,XU,Qk,simprocAttr,Zn]
 repeat' (first
   | (refine Qp (λh=>?_) (λh=>?_)<;>(try simp only[Lr,Lu]at h)<;>simp(disch:=(first | omega | (simp only[hnP];try omega))) only[XQ,XR,XS,XT,XU,Qk,simprocAttr,Zn,h])
   | (refine Qf (λh=>?_) (λh=>?_)<;>(try simp only[Lr,Lu]at h)<;>simp(disch:=(first | omega | (simp only[hnP];try omega))) only[XQ,XR,XS,XT,XU,Qk,simprocAttr,Zn,h])
   | (refine(XX _ _ _ _).thenW ?_;rintro _ _ hn hw2 ⟨rfl,rfl⟩;(try simp only[Qc,Ql,Qt]at hn);simp(disch:=(first | omega | (simp only[hnP];try omega))) only[XQ,XR,XS,XT,XU,Qk,simprocAttr,Zn])
   | (with_reducible refine⟨by simp[Qh,plain],by omega,?_⟩)
   | (with_reducible refine⟨by simp[Qh,plain],?_⟩)
   | fail)
 all_goals refine .mk (Lb _) ⟨?_,rfl⟩
 all_goals simp only[L0,LC,Da]at *
 all_goals (unfold imF;simp_all<;>omega)
theorem QDD {a:Ar}(ha:a.k=3){n bits s:Int}(hb:0<bits)(hs:1<=s∧s<=34):imF n bits s=ZQ s.toNat ⟨a,bits,n⟩:=by
 have hs:s=1∨s=2∨s=3∨s=4∨s=5∨s=6∨s=7∨s=8∨s=9∨s=10∨s=11∨s=12∨s=13∨s=14∨s=15∨s=16∨s=17∨s=18∨s=19∨s=20∨s=21∨s=22∨s=23∨s=24∨s=25∨s=26∨s=27∨s=28∨s=29∨s=30∨s=31∨s=32∨s=33∨s=34:=by omega
 rcases hs with rfl | rfl | rfl | rfl | rfl | rfl | rfl | rfl | rfl | rfl | rfl | rfl | rfl | rfl | rfl | rfl | rfl | rfl | rfl | rfl | rfl | rfl | rfl | rfl | rfl | rfl | rfl | rfl | rfl | rfl | rfl | rfl | rfl | rfl
 all_goals simp[imF,ZQ,W3,YI,ha,hb,Bool.and_assoc]
theorem QxM {ib:Int×Bool}:∀ {l:List Ar},Qe6 ib l=0->∀a∈l,a.k=3->(WZ a.n ib.1 ib.2).2=0
 | [],_,_,h,_=>by cases h
 | b::l,h,a,ha,hk=>by
  unfold Qe6 at h;rcases LK.1 ha with rfl | ha
  ·rw[Lc (by simpa using hk)]at h;split at h
   ·rename_i q;simpa using q
   ·exact h
  ·refine QxM ?_ a ha hk;split at h
   ·split at h
    ·exact h
    ·rename_i q;simp[h]at q
   ·exact h
theorem QHA {op:Int}{l:List Ar}(h:Q8 op l=0){a:Ar}(ha:a∈l)(hk:a.k=3):(WZ a.n (QU op l).1 (QU op l).2).2=0∧0<(QU op l).1:=by
 rw[<- QpT]at h;unfold QcH at h;have he:Qe6 (QU op l) l=0:=by
  split at h
  ·simp at h
  ·split at h
   ·simp at h
   ·split at h
    ·rename_i q;simp[h]at q
    ·split at h
     ·simp at h
     ·exact h
 have h2:=QxM he a ha hk;refine⟨h2,?_⟩;unfold WZ at h2;split at h2
 ·simp at h2
 ·rename_i q;simp only[Bool.not_eq_false,Nw,L0]at q;omega
def Qk7 (ib:Int×Bool)(a:Ar)(s:Int):Bool:=if a.k=3 then imF (WZ a.n ib.1 ib.2).1 ib.1 s else shF a s
theorem QCb {op:Int}{l:List Ar}(h:Q8 op l=0){a:Ar}(ha:a∈l){s:Int}(hs:1<=s∧s<=34):Qk7 (QU op l) a s=Qdl (QU op l) a s:=by
 unfold Qk7 Qdl QtW
 by_cases hk:a.k=3
 ·obtain⟨h1,h2⟩:=QHA h ha hk;rw[Lc hk,Lc hk,h1,QDD hk h2 hs];simp[hk]
 ·rw[Le hk,Le hk];simp[hk,shF]
section
variable {x:Lf} {op:Int} {va:Value} {l:List Ar} {H:Qa}
abbrev KRf (H:Qa)(r:Bool):Env->Qa->Prop:=Rt prog Tryz.f83 H λv H'=>v=.bool r∧Ext H H'
theorem QJX (hw:H.Wf)(hx:x.At H)(ha:Qv H va l)(hl:l.length<=1000)(hI:∀a∈l,I64 a.n)(hs:QeY x.f=0)(hn:x.f.shapes.length=l.length)(hck:Q8 op l=0){W:Bool}(eW:W=(List.range l.length).all λi=>Qdl (QU op l) (l.getD i Wc) (x.f.shapes.getD i 0)){A:Env}{H1:Qa}(hF:FtF H H1 x op va A):
  Qm prog Jq ⟨KRf H W,WJ⟩ (KRf H W) A H1:=by
 obtain⟨hx1,hw1,g2,g3,hn1,r2,r3⟩:=id hF;obtain⟨a0,cap,rfl⟩:=Qu ha;obtain⟨b1,c1,t1,s1⟩:=id hx.2.2.1;have y1:x.cells[1]? = some (.slice b1 x.f.shapes.length c1):=by rw[<- t1];rfl
 simp only[Jq,Qb,simprocAttr,r2,r3,g2,g3,Lw,List.take];refine(Qea op _ l H1 (ha.ext hw hx1) hl).thenW ?_;rintro _ _ hn2 hw2 ⟨rfl,k,rfl⟩;simp only[Ql]at hn2;have hx2:Ext H1 (H1.up k):=(Ext.refl H1).up hn2;obtain⟨ib,eib⟩:∃ib,ib=QU op l:=⟨_,rfl⟩;rw[<- eib]at eW ⊢;simp only[Qb,simprocAttr];refine Qo (λm A' H'=>∃i:Nat,i<=l.length∧m=l.length - i∧FtF H H' x op (.slice a0 l.length cap) A'∧A' 5=.int .i64 ib.1∧A' 6=.bool ib.2∧A' 7=.int .i64 i∧∀j,j<i->Qdl ib (l.getD j Wc) (x.f.shapes.getD j 0)=true) l.length ?_ ?_
 ·refine⟨0,L7 _,by omega,hF.go hx2 hw2 ?_ ?_,?_,?_,?_,λj h=>by omega⟩
  all_goals simp only[Qg,simprocAttr]
  all_goals rfl
 ·rintro m A' H' ⟨i,hi,rfl,hF',r5,r6,r7,hall⟩;obtain⟨hxH,hw',g2',g3',hn',r2',r3'⟩:=id hF';have i31:([.int .i64 op,.slice a0 l.length cap]:List Value)[1]? = some (.slice a0 l.length cap):=rfl;simp only[Qai,Qb,simprocAttr,r3',r7,g3',i31];refine Qf (λh2=>?_) (λh2=>?_)
  ·have h2:i<l.length:=by have:=Lg h2;omega
   obtain⟨a,hai⟩:∃a,l[i]? = some a:=⟨_,La h2⟩;obtain⟨a0',cap',e0,h1⟩:=ha;cases e0;obtain⟨b,e,ro,rfl,hgb0⟩:=h1 (by omega);have hgb:H'.get b=some (.cells (Qi l) e ro):=by rw[hxH.get b (hw.lt hgb0)];exact hgb0
   obtain⟨p1,e3,ro1,rfl,k1⟩:=s1 (by omega);have k1':H'.get p1=some (.cells (ints x.f.shapes) e3 ro1):=by rw[hxH.get _ (hw.lt k1)];exact k1
   have htk:=WI l i a hai;have hle:i * 11+11<=(Qi l).length:=by rw[QJ];omega
   have d1:(0:Int)<=i∧(i:Int)<l.length:=by omega
   have d2:(0:Int)<=i∧(i:Int)<x.f.shapes.length:=by omega
   have d3:(i:Int).toNat=i:=by omega
   have j1:=Zh (l:=x.f.shapes) (i:=i) (by omega);have hma:=Ln hai;have hga:l.getD i Wc=a:=by rw[LX,hai];rfl
   have hIa:I64 a.n:=hI a hma;have hsh:=Qlt hs i (by omega);have hfa:=QCb hck hma hsh;rw[<- eib]at hfa;have ei:IntKind.i64.wrap ((i:Int)+1)=((i+1:Nat):Int):=by rw[w64 (by unfold I64;omega)];omega
   have hbad:Qk7 ib a (x.f.shapes.getD i 0)=false->W=false:=λh=>by rw[eW];exact Ka h2 (by rw[hga,<- hfa];exact h)
   have hend:∀ (B:Env) (H5:Qa),Qk7 ib a (x.f.shapes.getD i 0)=true->Ext H' H5->H5.Wf->B 2=A' 2->B 3=A' 3->B 5=A' 5->B 6=A' 6->B 7=.int .i64 ((i+1:Nat):Int)->∃m,m<l.length - i∧∃i:Nat,i<=l.length∧m=l.length - i∧FtF H H5 x op (.slice (some ⟨b,0,none⟩) l.length cap) B∧B 5=.int .i64 ib.1∧B 6=.bool ib.2∧B 7=.int .i64 i∧∀j,j<i->Qdl ib (l.getD j Wc) (x.f.shapes.getD j 0)=true:=by
    intro B H5 hft e1 e2 p2 p3 p5 p6 p7;refine⟨l.length - (i+1),by omega,i+1,by omega,rfl,hF'.go e1 e2 p2 p3,p5.trans r5,p6.trans r6,p7,λj hj=>?_⟩
    by_cases h:j=i
    ·rw[h,hga,<- hfa];exact hft
    ·exact hall j (by omega)
   obtain⟨ar,ear⟩:∃ar,ar=a:=⟨_,rfl⟩;rw[<- ear]at hbad hend hfa;obtain⟨ak,⟨rc,rn⟩,⟨⟨bc,bn⟩,⟨ic,nn⟩,sc,d,sz⟩,n⟩:=a;have ea:ar.cells=[.int .i64 ak,.int .i64 rc,.int .i64 rn,.int .i64 bc,.int .i64 bn,.int .i64 ic,.int .i64 nn,.int .i64 sc,.int .i64 d,.int .i64 sz,.int .i64 n]:=by rw[ear];rfl
   simp only[Ar.cells]at htk;simp only[Qah,Qb,simprocAttr,r3',r7,g3',i31,d1,d3,hgb,htk];refine⟨hle,?_⟩;rw[<- ea];generalize hH4:Qa.set (Qa.push H' _) _ _=H4;have hx4:Ext H' H4:=by rw[<- hH4];exact Ext.set ((Ext.refl H').push _) (by omega) _
   have g4:H4.get H'.next=some (.cells ar.cells 58 false):=by rw[<- hH4,Qq,Lc rfl]
   have hw4:H4.Wf:=by rw[<- hH4];exact(hw'.push _).set (by rw[Qd,Lc rfl]) _
   have hn4:H'.next<H4.next:=hw4.lt g4;clear hH4;obtain⟨q1,q2,g42,g43,q3,_,_⟩:=hF'.go hx4 hw4 (B:=A') rfl rfl;have k14:H4.get p1=some (.cells (ints x.f.shapes) e3 ro1):=by rw[q1.get _ (hw.lt k1)];exact k1
   have l11:11<=ar.cells.length:=by rw[ea];exact Lb _
   have e11:ar.cells.take 11=ar.cells:=by rw[ea];rfl
   have f10:ar.cells[10]? = some (.int .i64 n):=by rw[ea];rfl
   cases c:ak==3 with
   | false=>
    have hf2:Qk7 ib ar (x.f.shapes.getD i 0)=shF ar (x.f.shapes.getD i 0):=by rw[Qk7,Le (by rw[ear];simpa using c)]
    rw[hf2]at hbad hend;simp only[Qag,Qb,simprocAttr,c,r2',r7,g4,g42,y1,d2,d3,k14,j1,Lw,e11];refine⟨l11,?_⟩;refine(QvV ar _ hsh H4).thenW ?_;rintro _ H5 _ w5 ⟨v,rfl,hv,x5⟩;rw[<- hv]at hbad hend;cases v with
    | false=>
     simp only[Qb,simprocAttr,WX];exact .mk (q1.trans x5).next ⟨by rw[hbad rfl],q1.trans x5⟩
    | true=>
     simp only[Qb,simprocAttr,r7,ei];refine hend _ H5 rfl (hx4.trans x5) w5 ?_ ?_ ?_ ?_ ?_
     all_goals simp only[Qg,simprocAttr]
   | true=>
    have hf2:Qk7 ib ar (x.f.shapes.getD i 0)=imF (WZ n ib.1 ib.2).1 ib.1 (x.f.shapes.getD i 0):=by rw[Qk7,Lc (by rw[ear];simpa using c),ear]
    rw[hf2]at hbad hend;simp only[Qaf,Qb,simprocAttr,c,r5,r6,g4,f10];refine(Qf1 n ib.1 ib.2 hIa H4).thenW ?_;rintro _ H5 _ w5 ⟨rfl,h5⟩;rw[h5];simp only[Qb,simprocAttr,r2',r5,r7,g42,y1,d2,d3,k14,j1];refine(QCa _ _ _ H4).thenW ?_;rintro _ H6 _ w6 ⟨rfl,h6⟩;rw[h6];cases v:imF (WZ n ib.1 ib.2).1 ib.1 (x.f.shapes.getD i 0) with
    | false=>
     simp only[Qb,simprocAttr,WX];exact .mk q1.next ⟨by rw[hbad v],q1⟩
    | true=>
     simp only[Qb,simprocAttr,r7,ei];refine hend _ H4 v hx4 hw4 ?_ ?_ ?_ ?_ ?_
     all_goals simp only[Qg,simprocAttr]
  ·have h2:i=l.length:=by have:=Ll h2;omega
   subst h2;simp only[Qb,simprocAttr,WX];exact .mk hxH.next ⟨by rw[eW,Gg hall],hxH⟩
end
theorem QzG {x:Lf}{op:Int}{va:Value}{l:List Ar}(hc:Chk x.f)(hs:QeY x.f=0)(H:Qa)(hx:x.At H)(hf:x.Fr 0)(ha:Qv H va l)(hl:l.length<=1000)(hI:∀a∈l,I64 a.n):
  Qe prog 83 [.agg x.cells.toArray,.agg #[.int .i64 op,va]] H λv H'=>v=.bool (QcG x.f op l)∧Ext H H':=by
 refine Qjw λhw=>?_;have ex:(Value.agg x.cells.toArray).cells.toList=x.cells:=rfl;have e10:x.cells.take 10=x.cells:=rfl;have x0:x.cells[0]? = some (.int .i64 x.f.op):=rfl;have l10:10<=x.cells.length:=Lb _;obtain⟨a1,c1,e1⟩:=Qu hx.2.2.1;have x1:x.cells[1]? = some (.slice a1 x.f.shapes.length c1):=by rw[<- e1];rfl
 obtain⟨W,eW⟩:∃W,W=QcG x.f op l:=⟨_,rfl⟩;rw[<- eW];obtain⟨a0,cap,rfl⟩:=Qu ha;simp only[Qb1,ex,KG,simprocAttr];generalize hH1:Qa.push H (.cells x.cells 45 false)=H1;have g1:H1.get H.next=some (.cells x.cells 45 false):=by rw[<- hH1,Qd,Lc rfl]
 have hx1:Ext H H1:=by rw[<- hH1];exact(Ext.refl H).push _
 have hn1:H1.next=H.next+1:=by rw[<- hH1];rfl
 have hw1:H1.Wf:=by rw[<- hH1];exact hw.push _
 clear hH1;simp only[Qb,simprocAttr,hn1];generalize hH2:Qa.push H1 _=H2;have hx2:Ext H H2:=by rw[<- hH2];exact(hx1.push _)
 have hw2:H2.Wf:=by rw[<- hH2];exact(hw1.push _)
 have g22:H2.get H.next=some (.cells x.cells 45 false):=by rw[<- hH2,Qd,Le (by omega)];exact g1
 have g23:H2.get (H.next+1)=some (.cells [.int .i64 op,.slice a0 l.length cap] 24 false):=by rw[<- hH2,Qd,Lc (by omega)]
 have hn2:H2.next=H.next+2:=by rw[<- hH2,Qc,hn1]
 clear hH2;simp only[Qb,simprocAttr,g1,g22,g23,Lw,e10];have hF:∀A:Env,A 2=.pointer (some ⟨H.next,0,none⟩)->A 3=.pointer (some ⟨H.next+1,0,none⟩)->FtF H H2 x op (.slice a0 l.length cap) A:=λA e2 e3=>⟨hx2,hw2,g22,g23,by omega,e2,e3⟩;refine⟨l10,?_⟩;refine(QxL hc hf H2 (hx.ext hw hx2)).thenW ?_;rintro _ H3 _ w3 ⟨rfl,x3⟩;have hx3:=hx2.trans x3;have g33:H3.get (H.next+1)=some (.cells [.int .i64 op,.slice a0 l.length cap] 24 false):=by rw[x3.get _ (by omega)];exact g23
 simp only[Qb,simprocAttr,LO,g33,Lw,List.take];refine(QcQ op _ l H3 (ha.ext hw hx3) hl hI).thenW ?_;rintro _ _ hn4 w4 ⟨rfl,k,rfl⟩;simp only[Ql]at hn4;have x4:=x3.trans ((Ext.refl H3).up hn4);have hx4:=hx2.trans x4;have g42:(H3.up k).get H.next=some (.cells x.cells 45 false):=by rw[x4.get _ (by omega)];exact g22
 have g43:(H3.up k).get (H.next+1)=some (.cells [.int .i64 op,.slice a0 l.length cap] 24 false):=by rw[x4.get _ (by omega)];exact g23
 have i30:([.int .i64 op,.slice a0 l.length cap]:List Value)[0]? = some (.int .i64 op):=rfl;have i31:([.int .i64 op,.slice a0 l.length cap]:List Value)[1]? = some (.slice a0 l.length cap):=rfl;cases c0:Q8 op l==0 with
 | false=>
  simp only[Qb,simprocAttr,c0,WX];exact .mk hx4.next ⟨by rw[eW,QcG,c0];simp,hx4⟩
 | true=>
  simp only[Qb,simprocAttr,c0,g42,g43,x0,i30];cases c1:x.f.op==op with
  | false=>
   simp only[Qb,simprocAttr,WX];exact .mk hx4.next ⟨by rw[eW,QcG,c1];rfl,hx4⟩
  | true=>
   have el:((x.f.shapes.length:Int)==(l.length:Int))=(x.f.shapes.length==l.length):=by
    rw[Ni,L0,L0];omega
   simp only[Qb,simprocAttr,g42,g43,x1,i31,el];cases c2:x.f.shapes.length==l.length with
   | false=>
    simp only[Qb,simprocAttr,WX];exact .mk hx4.next ⟨by rw[eW,QcG,c1,c2];rfl,hx4⟩
   | true=>
    simp only[Qb,simprocAttr];refine QJX hw hx ha hl hI hs (L0.1 c2) (by simpa using c0) (by rw[eW,QcG,c1,c2,c0,hs];rfl) ((hF _ ?_ ?_).go x4 w4 rfl rfl)
    all_goals simp only[Qg,simprocAttr]
end Go.Proofs.YtgepgbbjfhggfaaGreatDoor.code
