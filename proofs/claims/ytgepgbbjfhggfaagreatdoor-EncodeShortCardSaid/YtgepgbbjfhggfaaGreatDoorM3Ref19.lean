/- linotyperef19: Of, Match. -/
import Derived.Test.YtgepgbbjfhggfaaGreatDoorLibA
import Derived.Test.YtgepgbbjfhggfaaGreatDoorM1Ref19
set_option linter.unusedVariables false
set_option linter.unusedSimpArgs false
set_option maxRecDepth 100000
namespace Go.Proofs.YtgepgbbjfhggfaaGreatDoor.code
open Go.Ab
section
variable {T:Qa->Prop} (hT:∀H H',H.Wf->T H->Ext H H'->T H') {L:List Fm} (hR:∀H,T H->Qe prog 59 [] H λu H'=>Qnf H H' u L)
include hR
theorem Qnq (op:Int)(H:Qa)(ht:T H):Qe prog 33 [.int .i64 op] H λu H'=>Qnf H H' u (L.filter λf=>f.op==op):=by
 refine QlL λhw=>?_;simp only[QdR,Qb,simprocAttr];refine(hR H ht).thenW ?_;rintro v0 H1 hn1 hw1 ⟨hx1,xs,exs,hax,hxl,hxf⟩;have hfm:=hax.fms;obtain⟨aa,cap,rfl,hsl⟩:=id hfm.1;have hab:∀a,aa=some a->H.next<=a.block∧(xs≠[]->a.block<H1.next):=λa ha=>by
  subst ha;rcases hax with⟨e,_⟩ | ⟨b,e,h1,h2,_⟩
  ·cases e
  ·cases e;exact⟨h1,λ_=>hw1.lt h2⟩
 simp only[Qb,simprocAttr];refine Qo (λm A' H'=>∃ (i:Nat) (zs:List Lf),i<=xs.length∧m=xs.length - i∧H'.Wf∧Ext H H'∧H1.next<=H'.next∧zs.map (·.f)=((xs.take i).map (·.f)).filter (λf=>f.op==op)∧zs.length<=i∧Acc H H' (A' 3) zs∧QiJ H' (.slice aa xs.length cap) xs∧(∀z∈zs,z.Fr H.next)∧
   (∀a l c b,A' 3=.slice (some a) l c->aa=some b->b.block≠a.block)∧
   A' 0=.int .i64 op∧A' 4=.slice aa xs.length cap∧A' 5=.int .i64 i) xs.length ?_ ?_
 ·refine⟨0,[],L7 _,by omega,hw1,hx1,Lb _,by simp,by simp,?_,hfm,λz hz=>(by cases hz),?_,?_,?_,?_⟩
  all_goals simp only[Qg,simprocAttr]
  ·exact .inl ⟨rfl,rfl⟩
  ·exact λa l c b h=>by cases h
  all_goals rfl
 ·rintro m A' H3 ⟨k,zs,hk,rfl,hw3,hx3,hn3,hzs,hzl,hac3,hfm3,hzf,hne3,r0,s30,s32⟩;simp only[Qju,Qb,simprocAttr,r0,s30,s32];refine Qf (λh3=>?_) (λh3=>?_)
  ·have h3:k<xs.length:=by have:=Lg h3;omega
   obtain⟨⟨a4,cap4,e4,hsl3⟩,hxa3⟩:=id hfm3;cases e4;obtain⟨b1,e1',ro1,rfl,hb1⟩:=hsl3 (by omega);have d1:(0:Int)<=k∧(k:Int)<xs.length:=by omega
   have d3:(k:Int).toNat=k:=by omega
   have d4:k * 10+10<=xs.length * 10:=by omega
   have ek:IntKind.i64.wrap ((k:Int)+1)=((k+1:Nat):Int):=by rw[w64 (by unfold I64;omega)];omega
   have hpk:=La h3;have dd:=Qaa xs k _ hpk;have nn:=Xc xs;have hym:xs[k]∈xs:=Nb h3;have wk:=hxa3 _ hym;have wf:(xs[k]).Fr H.next:=hxf _ hym;have hxtk:xs.take (k+1)=xs.take k++[xs[k]]:=NM h3;have g0:=Qxe xs k 0 _ hpk (by decide);rw[N9,lg0]at g0;generalize xs[k]=x at hpk dd hym wk wf hxtk g0;have ak:=Qeu wk;simp only[Qjt,Qb,simprocAttr,r0,s30,s32,d1,d3,d4,hb1,nn,dd,g0,QI,Wq,ak];have hfil:((xs.take (k+1)).map (·.f)).filter (λf=>f.op==op)=((xs.take k).map (·.f)).filter (λf=>f.op==op)++bif x.f.op==op then[x.f] else[]:=by
    rw[hxtk,N6,Re];cases hpx:x.f.op==op<;>simp[hpx]
   cases hpx:x.f.op==op
   ·rw[hpx]at hfil;simp only[Qb,simprocAttr,s32,ek];refine⟨xs.length - (k+1),by omega,k+1,zs,by omega,rfl,hw3,hx3,hn3,by rw[hfil,hzs];simp,by omega,?_,hfm3,hzf,?_,?_,?_,?_⟩
    all_goals simp only[Qg,simprocAttr,r0,s30]
    ·exact hac3
    ·exact λa l c b h1 h2=>hne3 a l c b h1 (by rw[h2])
   ·rw[hpx]at hfil;simp only[Qb,simprocAttr,s30,s32,d1,d3,d4,hb1,nn,dd,QI,Wq,ak];have hx5:Ext H3 (H3.push (.cells x.cells 45 false)):=(Ext.refl H3).push _;have hac5:=hac3.ext hw3 hx5;have hb5:=hfm3.ext hw3 hx5;refine Acc.app hac5 (hx3.trans hx5) (hw3.push _) (wk.ext hw3 hx5) (by omega) (by rw[Qd,Lc rfl]) (λa l c hv e=>?_) λv' H6 y1 y2 y3 y4 y5 y6=>?_
    ·rcases hac3 with⟨h,_⟩ | ⟨b2,h,_,h3',_⟩
     ·rw[h]at hv;cases hv
     ·rw[h]at hv;cases hv;have:=hw3.lt h3';simp only at e;omega
    ·simp only[Qb,simprocAttr,s32,ek];simp only[Qc]at y3 y5;refine⟨xs.length - (k+1),by omega,k+1,zs++[x],by omega,rfl,y2,y1,by omega,by rw[hfil,N6,hzs];simp,by simp;omega,?_,y6.fms hac5 hb5 λa l c a' l' c' ha hv=>?_,?_,?_,?_,?_,?_⟩
     rotate_left 2
     ·intro z hz;simp only[LI,Sa]at hz;rcases hz with hz | rfl
      ·exact hzf z hz
      ·exact wf
     ·intro a l c b hv hb;cases hb;simp only[Qg,simprocAttr]at hv;have h1:=y5 a l c hv;have h2:=hw3.lt hb1;simp only;omega
     rotate_right 2
     ·simp only[Qg,simprocAttr];exact y4
     ·cases ha;exact hne3 _ _ _ _ hv rfl
     all_goals simp only[Qg,simprocAttr,r0,s30]
  ·have h3:k=xs.length:=by have:=Ll h3;omega
   subst h3;simp only[Qb,simprocAttr,QkE];rw[LF (Lb _),exs]at hzs;exact .mk hx3.next ⟨hx3,zs,hzs,hac3,by omega,hzf⟩
include hT
end
end Go.Proofs.YtgepgbbjfhggfaaGreatDoor.code
