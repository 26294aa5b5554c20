/- How many bytes stand behind ModRM. -/
import Derived.Test.YtgepgbbjfhggfaaGreatDoorC5Dec
import Derived.Test.YtgepgbbjfhggfaaGreatDoorLibA
import Derived.Test.YtgepgbbjfhggfaaGreatDoorLibB
import Derived.Test.YtgepgbbjfhggfaaGreatDoorLibN
import Derived.Test.YtgepgbbjfhggfaaGreatDoorLibI
set_option linter.unusedVariables false
set_option linter.unusedSimpArgs false
set_option maxRecDepth 100000
set_option maxHeartbeats 4000000
noncomputable section
namespace Go.Proofs.YtgepgbbjfhggfaaGreatDoor.code
open Go.Ab
def tl0 (s:Int):Int:=if(s==20||s==21||s==26)=true then 1 else if(s==22)=true then 2 else if(s==23||s==24||s==27)=true then 4 else if(s==25)=true then 8 else 0
def tl1 (f:Fm):Int:=if(decide (0<=Qp f.slots 5)&&decide (Qp f.slots 5<f.shapes.length))=true then tl0 (f.shapes.getD (Qp f.slots 5).toNat 0) else 0
def tlF (f:Fm):Int:=bif decide (0<=Qp f.slots 7) then tl1 f+1 else tl1 f
theorem QHI (s:Int):0<=tl0 s∧tl0 s<=8:=by
 unfold tl0
 repeat' split
 all_goals decide
theorem QsS (f:Fm):0<=tl1 f∧tl1 f<=8:=by
 unfold tl1;split
 ·exact QHI _
 ·decide
theorem QvY (x:Lf)(H:Qa)(aj:x.At H):Qe prog 247 [.agg x.cells.toArray] H λu H'=>u=.int .i64 (tlF x.f)∧∃m,H'=H.up m:=by
 refine QtT λab=>?_;have aC:(Value.agg x.cells.toArray).cells.toList=x.cells:=rfl;have ah:Ext H (H.push (.cells x.cells 45 false)):=(Ext.refl H).push _;have ac:(H.push (.cells x.cells 45 false)).get H.next=some (.cells x.cells 45 false):=by rw[Qc,Lc rfl]
 have aN:=ab.push (.cells x.cells 45 false);obtain⟨aO,aP,ai,aL⟩:=aj.ext ab ah;obtain⟨a1,aA,e1,aI⟩:=ai;have ad:x.cells[1]? = some (.slice a1 x.f.shapes.length aA):=by rw[<- e1];rfl
 have aH:=Ww x 5 _ (aj.ext ab ah);have aG:=λm (ae:(H.push (.cells x.cells 45 false)).next<=m)=>Ww x 7 _ (aj.ext ab (ah.up ae));have ag:tlF x.f=bif decide (0<=Qp x.f.slots 7) then tl1 x.f+1 else tl1 x.f:=rfl
 have q:tl1 x.f=if(decide (0<=Qp x.f.slots 5)&&decide (Qp x.f.slots 5<x.f.shapes.length))=true then tl0 (x.f.shapes.getD (Qp x.f.slots 5).toNat 0) else 0:=rfl
 have aM:=QsS x.f;generalize tl1 x.f=n at *;generalize tlF x.f=r at *;generalize Qp x.f.slots 7=i7 at *;simp only[Qmj,aC,Qb,simprocAttr,QK,Wt,ad];generalize H.push (.cells x.cells 45 false)=H1 at *;have ak:∀ (A:Env) m,H1.next<=m->A 1=.pointer (some ⟨H.next,0,none⟩)->A 3=.int .i64 n->Qm prog QdG ⟨Rt prog Tryz.f247 H (λu H'=>u=.int .i64 r∧∃m,H'=H.up m),WL⟩ (Rt prog Tryz.f247 H (λu H'=>u=.int .i64 r∧∃m,H'=H.up m)) A (H1.up m):=by
  intro A m ae az a3;simp only[QdG,Qb,simprocAttr,az,a3,ac,QK,Wt];refine(aG m ae).thenW ?_;rintro _ _ aa aF ⟨rfl,aQ,rfl⟩;have an:=(ah.up ae).up aa;have aB:IntKind.i64.wrap (n+1)=n+1:=w64 (by unfold I64;omega);cases z:decide (0<=i7) with
  | true=>
   rw[z]at ag;simp only[Qb,simprocAttr,z,a3,aB,Qkq];exact .ext ab an ⟨by rw[ag];rfl,_,rfl⟩
  | false=>
   rw[z]at ag;simp only[Qb,simprocAttr,z,a3,Qkq];exact .ext ab an ⟨by rw[ag];rfl,_,rfl⟩
 refine aH.thenW ?_;rintro _ _ aa aF ⟨rfl,al,rfl⟩;simp only[Ql]at aa;generalize Qp x.f.slots 5=i at *;simp only[Qb,simprocAttr,ac,ad];refine Qq (λh=>?_) (λh=>?_)<;>simp only[Qb,simprocAttr,ac,ad,h]
 ·have aD:0<=i:=Lg h;refine Qf (λh'=>?_) (λh'=>?_)<;>simp only[Qb,simprocAttr,ac,ad]
  ·have ai:i<x.f.shapes.length:=Lg h';obtain⟨aJ,aK,aR,rfl,aE⟩:=aI (by omega);have g1:=ZJ (l:=x.f.shapes) (i:=i.toNat) (by omega);rw[Lc (by rw[h,h'];rfl)]at q;generalize x.f.shapes.getD i.toNat 0=s at *;have am:n=if(s==20||s==21||s==26)=true then 1 else if(s==22)=true then 2 else if(s==23||s==24||s==27)=true then 4 else if(s==25)=true then 8 else 0:=q
   clear q;simp only[Qi8,Qi7,Qi6,Qi5,Qi4,aD,ai,Qb,simprocAttr,ac,ad,aE,g1];cases ao:s==20<;>cases aq:s==21<;>cases ar:s==26<;>cases au:s==22<;>cases av:s==23<;>cases aw:s==24<;>cases ax:s==27<;>cases ay:s==25<;>simp only[Qb,simprocAttr,ao,aq,ar,au,av,aw,ax,ay]
   all_goals (rw[ao,aq,ar,au,av,aw,ax,ay]at am;refine ak _ al aa ?_ ?_<;>simp only[Qg,simprocAttr,am])
   all_goals rfl
  ·rw[Le (by rw[h,h'];decide)]at q;refine ak _ al aa ?_ ?_<;>simp only[Qg,simprocAttr,q]
 ·rw[Le (by rw[h];simp)]at q;refine ak _ al aa ?_ ?_<;>simp only[Qg,simprocAttr,q]
structure Gv where
 a:Ar
 bits:Int
 n:Int
def Gv.cells (g:Gv):List Value:=[.int .i64 g.a.k,.int .i64 g.a.r.c,.int .i64 g.a.r.n,.int .i64 g.a.m.b.c,.int .i64 g.a.m.b.n,.int .i64 g.a.m.i.c,.int .i64 g.a.m.i.n,.int .i64 g.a.m.sc,.int .i64 g.a.m.d,.int .i64 g.a.m.sz,.int .i64 g.a.n,.int .i64 g.bits,.int .i64 g.n]
def W4 (g:Gv)(c:Int):Bool:=(g.a.k==1)&&(g.a.r.c==c)
def Y3 (g:Gv)(z:Int):Bool:=(g.a.k==2)&&(g.a.m.sz==z)
theorem ZQ (g:Gv)(c:Int)(H:Qa):Qe prog 215 [.agg g.cells.toArray,.int .i64 c] H λu H'=>u=.bool (W4 g c)∧∃k,H'=H.up k:=by
 refine Qko λq=>?_;unfold W4;obtain⟨⟨k,⟨ag,ah⟩,⟨⟨aa,ab⟩,⟨ad,ae⟩,sc,d,sz⟩,n⟩,bits,ac⟩:=g;simp only[Gv.cells,Qc7,Qb,simprocAttr];cases h:k==1<;>simp only[Qb,simprocAttr,h,QjA]
 all_goals exact .ext q ((Ext.refl H).push _) ⟨by simp,_,rfl⟩
theorem KE (g:Gv)(z:Int)(H:Qa):Qe prog 224 [.agg g.cells.toArray,.int .i64 z] H λu H'=>u=.bool (Y3 g z)∧∃k,H'=H.up k:=by
 refine Qkp λq=>?_;unfold Y3;obtain⟨⟨k,⟨ag,ah⟩,⟨⟨aa,ab⟩,⟨ad,ae⟩,sc,d,sz⟩,n⟩,bits,ac⟩:=g;simp only[Gv.cells,Qc8,Qb,simprocAttr];cases h:k==2<;>simp only[Qb,simprocAttr,h,QjB]
 all_goals exact .ext q ((Ext.refl H).push _) ⟨by simp,_,rfl⟩
/-! The tests. -/
theorem QKb (g:Gv)(H:Qa):Qe prog 216 [.agg g.cells.toArray] H λu H'=>u=.bool (false)∧∃m,H'=H.up m:=by
 refine QpL λq=>?_;obtain⟨⟨k,⟨ag,ah⟩,⟨⟨aa,ab⟩,⟨ad,ae⟩,sc,d,sz⟩,n⟩,bits,ac⟩:=g;simp only[Gv.cells,Qg6,Qb,simprocAttr,Qof];exact .ext q ((Ext.refl H).push _) ⟨rfl,_,rfl⟩
theorem QKc (g:Gv)(H:Qa):Qe prog 217 [.agg g.cells.toArray] H λu H'=>u=.bool (W4 g 1||W4 g 2)∧∃m,H'=H.up m:=by
 refine QpM λab=>?_;have q:=ZQ g 1;obtain⟨ae,e0⟩:∃v,W4 g 1=v:=⟨_,rfl⟩;rw[e0]at q ⊢;have aa:=ZQ g 2;obtain⟨ar,e1⟩:∃v,W4 g 2=v:=⟨_,rfl⟩;rw[e1]at aa ⊢;clear e0 e1;obtain⟨⟨k,⟨ao,aq⟩,⟨⟨ag,ah⟩,⟨al,an⟩,sc,d,sz⟩,n⟩,bits,ai⟩:=g;simp only[Gv.cells]at q aa;simp only[Gv.cells,Qg7,Qb,simprocAttr];refine(q _).thenW ?_;rintro _ _ ac aj ⟨rfl,am,rfl⟩;simp only[Qd,Ql]at ac;cases ae with
 | true=>
  simp only[Qb,simprocAttr,Qfu];exact .ext ab (((Ext.refl H).push _).up (by simp only[Qd,Ql];omega)) ⟨by simp,_,rfl⟩
 | false=>
  simp only[Qb,simprocAttr];refine(aa _).thenW ?_;rintro _ _ ad ak ⟨rfl,k1,rfl⟩;simp only[Qd,Ql]at ad;simp only[Qb,simprocAttr,Qfu];exact .ext ab ((((Ext.refl H).push _).up (by simp only[Qd,Ql];omega)).up (by simp only[Qd,Ql];omega)) ⟨by simp,_,rfl⟩
theorem QKd (g:Gv)(H:Qa):Qe prog 218 [.agg g.cells.toArray] H λu H'=>u=.bool (W4 g 3)∧∃m,H'=H.up m:=by
 refine QpN λab=>?_;have q:=ZQ g 3;obtain⟨am,e0⟩:∃v,W4 g 3=v:=⟨_,rfl⟩;rw[e0]at q ⊢;clear e0;obtain⟨⟨k,⟨ak,al⟩,⟨⟨ac,ad⟩,⟨ah,aj⟩,sc,d,sz⟩,n⟩,bits,ae⟩:=g;simp only[Gv.cells]at q;simp only[Gv.cells,Qg8,Qb,simprocAttr];refine(q _).thenW ?_;rintro _ _ aa ag ⟨rfl,ai,rfl⟩;simp only[Qd,Ql]at aa;simp only[Qb,simprocAttr,Qog];exact .ext ab (((Ext.refl H).push _).up (by simp only[Qd,Ql];omega)) ⟨by simp,_,rfl⟩
theorem QKe (g:Gv)(H:Qa):Qe prog 219 [.agg g.cells.toArray] H λu H'=>u=.bool (W4 g 4)∧∃m,H'=H.up m:=by
 refine QpO λab=>?_;have q:=ZQ g 4;obtain⟨am,e0⟩:∃v,W4 g 4=v:=⟨_,rfl⟩;rw[e0]at q ⊢;clear e0;obtain⟨⟨k,⟨ak,al⟩,⟨⟨ac,ad⟩,⟨ah,aj⟩,sc,d,sz⟩,n⟩,bits,ae⟩:=g;simp only[Gv.cells]at q;simp only[Gv.cells,Qg9,Qb,simprocAttr];refine(q _).thenW ?_;rintro _ _ aa ag ⟨rfl,ai,rfl⟩;simp only[Qd,Ql]at aa;simp only[Qb,simprocAttr,Qoh];exact .ext ab (((Ext.refl H).push _).up (by simp only[Qd,Ql];omega)) ⟨by simp,_,rfl⟩
theorem QKf (g:Gv)(H:Qa):Qe prog 220 [.agg g.cells.toArray] H λu H'=>u=.bool (W4 g 5)∧∃m,H'=H.up m:=by
 refine QpP λab=>?_;have q:=ZQ g 5;obtain⟨am,e0⟩:∃v,W4 g 5=v:=⟨_,rfl⟩;rw[e0]at q ⊢;clear e0;obtain⟨⟨k,⟨ak,al⟩,⟨⟨ac,ad⟩,⟨ah,aj⟩,sc,d,sz⟩,n⟩,bits,ae⟩:=g;simp only[Gv.cells]at q;simp only[Gv.cells,Qha,Qb,simprocAttr];refine(q _).thenW ?_;rintro _ _ aa ag ⟨rfl,ai,rfl⟩;simp only[Qd,Ql]at aa;simp only[Qb,simprocAttr,Qoi];exact .ext ab (((Ext.refl H).push _).up (by simp only[Qd,Ql];omega)) ⟨by simp,_,rfl⟩
theorem QKg (g:Gv)(H:Qa):Qe prog 221 [.agg g.cells.toArray] H λu H'=>u=.bool (W4 g 6)∧∃m,H'=H.up m:=by
 refine QpQ λab=>?_;have q:=ZQ g 6;obtain⟨am,e0⟩:∃v,W4 g 6=v:=⟨_,rfl⟩;rw[e0]at q ⊢;clear e0;obtain⟨⟨k,⟨ak,al⟩,⟨⟨ac,ad⟩,⟨ah,aj⟩,sc,d,sz⟩,n⟩,bits,ae⟩:=g;simp only[Gv.cells]at q;simp only[Gv.cells,Qhb,Qb,simprocAttr];refine(q _).thenW ?_;rintro _ _ aa ag ⟨rfl,ai,rfl⟩;simp only[Qd,Ql]at aa;simp only[Qb,simprocAttr,Qoj];exact .ext ab (((Ext.refl H).push _).up (by simp only[Qd,Ql];omega)) ⟨by simp,_,rfl⟩
theorem QKh (g:Gv)(H:Qa):Qe prog 222 [.agg g.cells.toArray] H λu H'=>u=.bool (W4 g 7)∧∃m,H'=H.up m:=by
 refine QpR λab=>?_;have q:=ZQ g 7;obtain⟨am,e0⟩:∃v,W4 g 7=v:=⟨_,rfl⟩;rw[e0]at q ⊢;clear e0;obtain⟨⟨k,⟨ak,al⟩,⟨⟨ac,ad⟩,⟨ah,aj⟩,sc,d,sz⟩,n⟩,bits,ae⟩:=g;simp only[Gv.cells]at q;simp only[Gv.cells,Qhc,Qb,simprocAttr];refine(q _).thenW ?_;rintro _ _ aa ag ⟨rfl,ai,rfl⟩;simp only[Qd,Ql]at aa;simp only[Qb,simprocAttr,Qok];exact .ext ab (((Ext.refl H).push _).up (by simp only[Qd,Ql];omega)) ⟨by simp,_,rfl⟩
theorem QKi (g:Gv)(H:Qa):Qe prog 223 [.agg g.cells.toArray] H λu H'=>u=.bool (W4 g 1||W4 g 2||Y3 g 1)∧∃m,H'=H.up m:=by
 refine QpS λq=>?_;have aa:=ZQ g 1;obtain⟨ah,e0⟩:∃v,W4 g 1=v:=⟨_,rfl⟩;rw[e0]at aa ⊢;have ab:=ZQ g 2;obtain⟨ai,e1⟩:∃v,W4 g 2=v:=⟨_,rfl⟩;rw[e1]at ab ⊢;have ac:=KE g 1;obtain⟨ax,e2⟩:∃v,Y3 g 1=v:=⟨_,rfl⟩;rw[e2]at ac ⊢;clear e0 e1 e2;obtain⟨⟨k,⟨av,aw⟩,⟨⟨aj,ak⟩,⟨aq,au⟩,sc,d,sz⟩,n⟩,bits,al⟩:=g;simp only[Gv.cells]at aa ab ac;simp only[Gv.cells,Qhd,Qb,simprocAttr];refine(aa _).thenW ?_;rintro _ _ ad am ⟨rfl,ar,rfl⟩;simp only[Qd,Ql]at ad;cases ah with
 | true=>
  simp only[Qb,simprocAttr,QaW];exact .ext q (((Ext.refl H).push _).up (by simp only[Qd,Ql];omega)) ⟨by simp,_,rfl⟩
 | false=>
  simp only[Qb,simprocAttr];refine(ab _).thenW ?_;rintro _ _ ae an ⟨rfl,k1,rfl⟩;simp only[Qd,Ql]at ae;cases ai with
  | true=>
   simp only[Qb,simprocAttr,QaW];exact .ext q ((((Ext.refl H).push _).up (by simp only[Qd,Ql];omega)).up (by simp only[Qd,Ql];omega)) ⟨by simp,_,rfl⟩
  | false=>
   simp only[Qb,simprocAttr];refine(ac _).thenW ?_;rintro _ _ ag ao ⟨rfl,k2,rfl⟩;simp only[Qd,Ql]at ag;simp only[Qb,simprocAttr,QaW];exact .ext q (((((Ext.refl H).push _).up (by simp only[Qd,Ql];omega)).up (by simp only[Qd,Ql];omega)).up (by simp only[Qd,Ql];omega)) ⟨by simp,_,rfl⟩
theorem QI4 (g:Gv)(H:Qa):Qe prog 225 [.agg g.cells.toArray] H λu H'=>u=.bool (W4 g 3||Y3 g 2)∧∃m,H'=H.up m:=by
 refine Qol λab=>?_;have q:=ZQ g 3;obtain⟨ae,e0⟩:∃v,W4 g 3=v:=⟨_,rfl⟩;rw[e0]at q ⊢;have aa:=KE g 2;obtain⟨ar,e1⟩:∃v,Y3 g 2=v:=⟨_,rfl⟩;rw[e1]at aa ⊢;clear e0 e1;obtain⟨⟨k,⟨ao,aq⟩,⟨⟨ag,ah⟩,⟨al,an⟩,sc,d,sz⟩,n⟩,bits,ai⟩:=g;simp only[Gv.cells]at q aa;simp only[Gv.cells,Qfv,Qb,simprocAttr];refine(q _).thenW ?_;rintro _ _ ac aj ⟨rfl,am,rfl⟩;simp only[Qd,Ql]at ac;cases ae with
 | true=>
  simp only[Qb,simprocAttr,QeF];exact .ext ab (((Ext.refl H).push _).up (by simp only[Qd,Ql];omega)) ⟨by simp,_,rfl⟩
 | false=>
  simp only[Qb,simprocAttr];refine(aa _).thenW ?_;rintro _ _ ad ak ⟨rfl,k1,rfl⟩;simp only[Qd,Ql]at ad;simp only[Qb,simprocAttr,QeF];exact .ext ab ((((Ext.refl H).push _).up (by simp only[Qd,Ql];omega)).up (by simp only[Qd,Ql];omega)) ⟨by simp,_,rfl⟩
theorem QI5 (g:Gv)(H:Qa):Qe prog 226 [.agg g.cells.toArray] H λu H'=>u=.bool (W4 g 4||Y3 g 4)∧∃m,H'=H.up m:=by
 refine Qom λab=>?_;have q:=ZQ g 4;obtain⟨ae,e0⟩:∃v,W4 g 4=v:=⟨_,rfl⟩;rw[e0]at q ⊢;have aa:=KE g 4;obtain⟨ar,e1⟩:∃v,Y3 g 4=v:=⟨_,rfl⟩;rw[e1]at aa ⊢;clear e0 e1;obtain⟨⟨k,⟨ao,aq⟩,⟨⟨ag,ah⟩,⟨al,an⟩,sc,d,sz⟩,n⟩,bits,ai⟩:=g;simp only[Gv.cells]at q aa;simp only[Gv.cells,Qfw,Qb,simprocAttr];refine(q _).thenW ?_;rintro _ _ ac aj ⟨rfl,am,rfl⟩;simp only[Qd,Ql]at ac;cases ae with
 | true=>
  simp only[Qb,simprocAttr,QeG];exact .ext ab (((Ext.refl H).push _).up (by simp only[Qd,Ql];omega)) ⟨by simp,_,rfl⟩
 | false=>
  simp only[Qb,simprocAttr];refine(aa _).thenW ?_;rintro _ _ ad ak ⟨rfl,k1,rfl⟩;simp only[Qd,Ql]at ad;simp only[Qb,simprocAttr,QeG];exact .ext ab ((((Ext.refl H).push _).up (by simp only[Qd,Ql];omega)).up (by simp only[Qd,Ql];omega)) ⟨by simp,_,rfl⟩
theorem QI6 (g:Gv)(H:Qa):Qe prog 227 [.agg g.cells.toArray] H λu H'=>u=.bool (W4 g 5||Y3 g 8)∧∃m,H'=H.up m:=by
 refine Qon λab=>?_;have q:=ZQ g 5;obtain⟨ae,e0⟩:∃v,W4 g 5=v:=⟨_,rfl⟩;rw[e0]at q ⊢;have aa:=KE g 8;obtain⟨ar,e1⟩:∃v,Y3 g 8=v:=⟨_,rfl⟩;rw[e1]at aa ⊢;clear e0 e1;obtain⟨⟨k,⟨ao,aq⟩,⟨⟨ag,ah⟩,⟨al,an⟩,sc,d,sz⟩,n⟩,bits,ai⟩:=g;simp only[Gv.cells]at q aa;simp only[Gv.cells,Qfx,Qb,simprocAttr];refine(q _).thenW ?_;rintro _ _ ac aj ⟨rfl,am,rfl⟩;simp only[Qd,Ql]at ac;cases ae with
 | true=>
  simp only[Qb,simprocAttr,QeH];exact .ext ab (((Ext.refl H).push _).up (by simp only[Qd,Ql];omega)) ⟨by simp,_,rfl⟩
 | false=>
  simp only[Qb,simprocAttr];refine(aa _).thenW ?_;rintro _ _ ad ak ⟨rfl,k1,rfl⟩;simp only[Qd,Ql]at ad;simp only[Qb,simprocAttr,QeH];exact .ext ab ((((Ext.refl H).push _).up (by simp only[Qd,Ql];omega)).up (by simp only[Qd,Ql];omega)) ⟨by simp,_,rfl⟩
theorem QI7 (g:Gv)(H:Qa):Qe prog 228 [.agg g.cells.toArray] H λu H'=>u=.bool (W4 g 6||Y3 g 4)∧∃m,H'=H.up m:=by
 refine Qoo λab=>?_;have q:=ZQ g 6;obtain⟨ae,e0⟩:∃v,W4 g 6=v:=⟨_,rfl⟩;rw[e0]at q ⊢;have aa:=KE g 4;obtain⟨ar,e1⟩:∃v,Y3 g 4=v:=⟨_,rfl⟩;rw[e1]at aa ⊢;clear e0 e1;obtain⟨⟨k,⟨ao,aq⟩,⟨⟨ag,ah⟩,⟨al,an⟩,sc,d,sz⟩,n⟩,bits,ai⟩:=g;simp only[Gv.cells]at q aa;simp only[Gv.cells,Qfy,Qb,simprocAttr];refine(q _).thenW ?_;rintro _ _ ac aj ⟨rfl,am,rfl⟩;simp only[Qd,Ql]at ac;cases ae with
 | true=>
  simp only[Qb,simprocAttr,QeI];exact .ext ab (((Ext.refl H).push _).up (by simp only[Qd,Ql];omega)) ⟨by simp,_,rfl⟩
 | false=>
  simp only[Qb,simprocAttr];refine(aa _).thenW ?_;rintro _ _ ad ak ⟨rfl,k1,rfl⟩;simp only[Qd,Ql]at ad;simp only[Qb,simprocAttr,QeI];exact .ext ab ((((Ext.refl H).push _).up (by simp only[Qd,Ql];omega)).up (by simp only[Qd,Ql];omega)) ⟨by simp,_,rfl⟩
theorem QI8 (g:Gv)(H:Qa):Qe prog 229 [.agg g.cells.toArray] H λu H'=>u=.bool (W4 g 6||Y3 g 8)∧∃m,H'=H.up m:=by
 refine Qop λab=>?_;have q:=ZQ g 6;obtain⟨ae,e0⟩:∃v,W4 g 6=v:=⟨_,rfl⟩;rw[e0]at q ⊢;have aa:=KE g 8;obtain⟨ar,e1⟩:∃v,Y3 g 8=v:=⟨_,rfl⟩;rw[e1]at aa ⊢;clear e0 e1;obtain⟨⟨k,⟨ao,aq⟩,⟨⟨ag,ah⟩,⟨al,an⟩,sc,d,sz⟩,n⟩,bits,ai⟩:=g;simp only[Gv.cells]at q aa;simp only[Gv.cells,Qfz,Qb,simprocAttr];refine(q _).thenW ?_;rintro _ _ ac aj ⟨rfl,am,rfl⟩;simp only[Qd,Ql]at ac;cases ae with
 | true=>
  simp only[Qb,simprocAttr,QeJ];exact .ext ab (((Ext.refl H).push _).up (by simp only[Qd,Ql];omega)) ⟨by simp,_,rfl⟩
 | false=>
  simp only[Qb,simprocAttr];refine(aa _).thenW ?_;rintro _ _ ad ak ⟨rfl,k1,rfl⟩;simp only[Qd,Ql]at ad;simp only[Qb,simprocAttr,QeJ];exact .ext ab ((((Ext.refl H).push _).up (by simp only[Qd,Ql];omega)).up (by simp only[Qd,Ql];omega)) ⟨by simp,_,rfl⟩
theorem QI9 (g:Gv)(H:Qa):Qe prog 230 [.agg g.cells.toArray] H λu H'=>u=.bool (W4 g 6||Y3 g 16)∧∃m,H'=H.up m:=by
 refine Qoq λab=>?_;have q:=ZQ g 6;obtain⟨ae,e0⟩:∃v,W4 g 6=v:=⟨_,rfl⟩;rw[e0]at q ⊢;have aa:=KE g 16;obtain⟨ar,e1⟩:∃v,Y3 g 16=v:=⟨_,rfl⟩;rw[e1]at aa ⊢;clear e0 e1;obtain⟨⟨k,⟨ao,aq⟩,⟨⟨ag,ah⟩,⟨al,an⟩,sc,d,sz⟩,n⟩,bits,ai⟩:=g;simp only[Gv.cells]at q aa;simp only[Gv.cells,QfA,Qb,simprocAttr];refine(q _).thenW ?_;rintro _ _ ac aj ⟨rfl,am,rfl⟩;simp only[Qd,Ql]at ac;cases ae with
 | true=>
  simp only[Qb,simprocAttr,QeK];exact .ext ab (((Ext.refl H).push _).up (by simp only[Qd,Ql];omega)) ⟨by simp,_,rfl⟩
 | false=>
  simp only[Qb,simprocAttr];refine(aa _).thenW ?_;rintro _ _ ad ak ⟨rfl,k1,rfl⟩;simp only[Qd,Ql]at ad;simp only[Qb,simprocAttr,QeK];exact .ext ab ((((Ext.refl H).push _).up (by simp only[Qd,Ql];omega)).up (by simp only[Qd,Ql];omega)) ⟨by simp,_,rfl⟩
theorem QJa (g:Gv)(H:Qa):Qe prog 231 [.agg g.cells.toArray] H λu H'=>u=.bool (W4 g 7||Y3 g 32)∧∃m,H'=H.up m:=by
 refine Qor λab=>?_;have q:=ZQ g 7;obtain⟨ae,e0⟩:∃v,W4 g 7=v:=⟨_,rfl⟩;rw[e0]at q ⊢;have aa:=KE g 32;obtain⟨ar,e1⟩:∃v,Y3 g 32=v:=⟨_,rfl⟩;rw[e1]at aa ⊢;clear e0 e1;obtain⟨⟨k,⟨ao,aq⟩,⟨⟨ag,ah⟩,⟨al,an⟩,sc,d,sz⟩,n⟩,bits,ai⟩:=g;simp only[Gv.cells]at q aa;simp only[Gv.cells,QfB,Qb,simprocAttr];refine(q _).thenW ?_;rintro _ _ ac aj ⟨rfl,am,rfl⟩;simp only[Qd,Ql]at ac;cases ae with
 | true=>
  simp only[Qb,simprocAttr,QeL];exact .ext ab (((Ext.refl H).push _).up (by simp only[Qd,Ql];omega)) ⟨by simp,_,rfl⟩
 | false=>
  simp only[Qb,simprocAttr];refine(aa _).thenW ?_;rintro _ _ ad ak ⟨rfl,k1,rfl⟩;simp only[Qd,Ql]at ad;simp only[Qb,simprocAttr,QeL];exact .ext ab ((((Ext.refl H).push _).up (by simp only[Qd,Ql];omega)).up (by simp only[Qd,Ql];omega)) ⟨by simp,_,rfl⟩
theorem QJb (g:Gv)(H:Qa):Qe prog 232 [.agg g.cells.toArray] H λu H'=>u=.bool (Y3 g 0)∧∃m,H'=H.up m:=by
 refine Qos λab=>?_;have q:=KE g 0;obtain⟨am,e0⟩:∃v,Y3 g 0=v:=⟨_,rfl⟩;rw[e0]at q ⊢;clear e0;obtain⟨⟨k,⟨ak,al⟩,⟨⟨ac,ad⟩,⟨ah,aj⟩,sc,d,sz⟩,n⟩,bits,ae⟩:=g;simp only[Gv.cells]at q;simp only[Gv.cells,QfC,Qb,simprocAttr];refine(q _).thenW ?_;rintro _ _ aa ag ⟨rfl,ai,rfl⟩;simp only[Qd,Ql]at aa;simp only[Qb,simprocAttr,QmX];exact .ext ab (((Ext.refl H).push _).up (by simp only[Qd,Ql];omega)) ⟨by simp,_,rfl⟩
theorem QJc (g:Gv)(H:Qa):Qe prog 233 [.agg g.cells.toArray] H λu H'=>u=.bool (Y3 g 2)∧∃m,H'=H.up m:=by
 refine Qot λab=>?_;have q:=KE g 2;obtain⟨am,e0⟩:∃v,Y3 g 2=v:=⟨_,rfl⟩;rw[e0]at q ⊢;clear e0;obtain⟨⟨k,⟨ak,al⟩,⟨⟨ac,ad⟩,⟨ah,aj⟩,sc,d,sz⟩,n⟩,bits,ae⟩:=g;simp only[Gv.cells]at q;simp only[Gv.cells,QfD,Qb,simprocAttr];refine(q _).thenW ?_;rintro _ _ aa ag ⟨rfl,ai,rfl⟩;simp only[Qd,Ql]at aa;simp only[Qb,simprocAttr,QmY];exact .ext ab (((Ext.refl H).push _).up (by simp only[Qd,Ql];omega)) ⟨by simp,_,rfl⟩
theorem QJd (g:Gv)(H:Qa):Qe prog 234 [.agg g.cells.toArray] H λu H'=>u=.bool (Y3 g 4)∧∃m,H'=H.up m:=by
 refine Qou λab=>?_;have q:=KE g 4;obtain⟨am,e0⟩:∃v,Y3 g 4=v:=⟨_,rfl⟩;rw[e0]at q ⊢;clear e0;obtain⟨⟨k,⟨ak,al⟩,⟨⟨ac,ad⟩,⟨ah,aj⟩,sc,d,sz⟩,n⟩,bits,ae⟩:=g;simp only[Gv.cells]at q;simp only[Gv.cells,QfE,Qb,simprocAttr];refine(q _).thenW ?_;rintro _ _ aa ag ⟨rfl,ai,rfl⟩;simp only[Qd,Ql]at aa;simp only[Qb,simprocAttr,QmZ];exact .ext ab (((Ext.refl H).push _).up (by simp only[Qd,Ql];omega)) ⟨by simp,_,rfl⟩
theorem QJe (g:Gv)(H:Qa):Qe prog 235 [.agg g.cells.toArray] H λu H'=>u=.bool (Y3 g 8)∧∃m,H'=H.up m:=by
 refine Qov λab=>?_;have q:=KE g 8;obtain⟨am,e0⟩:∃v,Y3 g 8=v:=⟨_,rfl⟩;rw[e0]at q ⊢;clear e0;obtain⟨⟨k,⟨ak,al⟩,⟨⟨ac,ad⟩,⟨ah,aj⟩,sc,d,sz⟩,n⟩,bits,ae⟩:=g;simp only[Gv.cells]at q;simp only[Gv.cells,QfF,Qb,simprocAttr];refine(q _).thenW ?_;rintro _ _ aa ag ⟨rfl,ai,rfl⟩;simp only[Qd,Ql]at aa;simp only[Qb,simprocAttr,Qm0];exact .ext ab (((Ext.refl H).push _).up (by simp only[Qd,Ql];omega)) ⟨by simp,_,rfl⟩
theorem QJf (g:Gv)(H:Qa):Qe prog 236 [.agg g.cells.toArray] H λu H'=>u=.bool (Y3 g 16)∧∃m,H'=H.up m:=by
 refine Qow λab=>?_;have q:=KE g 16;obtain⟨am,e0⟩:∃v,Y3 g 16=v:=⟨_,rfl⟩;rw[e0]at q ⊢;clear e0;obtain⟨⟨k,⟨ak,al⟩,⟨⟨ac,ad⟩,⟨ah,aj⟩,sc,d,sz⟩,n⟩,bits,ae⟩:=g;simp only[Gv.cells]at q;simp only[Gv.cells,QfG,Qb,simprocAttr];refine(q _).thenW ?_;rintro _ _ aa ag ⟨rfl,ai,rfl⟩;simp only[Qd,Ql]at aa;simp only[Qb,simprocAttr,Qm1];exact .ext ab (((Ext.refl H).push _).up (by simp only[Qd,Ql];omega)) ⟨by simp,_,rfl⟩
theorem QJg (g:Gv)(H:Qa):Qe prog 237 [.agg g.cells.toArray] H λu H'=>u=.bool (Y3 g 32)∧∃m,H'=H.up m:=by
 refine Qox λab=>?_;have q:=KE g 32;obtain⟨am,e0⟩:∃v,Y3 g 32=v:=⟨_,rfl⟩;rw[e0]at q ⊢;clear e0;obtain⟨⟨k,⟨ak,al⟩,⟨⟨ac,ad⟩,⟨ah,aj⟩,sc,d,sz⟩,n⟩,bits,ae⟩:=g;simp only[Gv.cells]at q;simp only[Gv.cells,QfH,Qb,simprocAttr];refine(q _).thenW ?_;rintro _ _ aa ag ⟨rfl,ai,rfl⟩;simp only[Qd,Ql]at aa;simp only[Qb,simprocAttr,Qm2];exact .ext ab (((Ext.refl H).push _).up (by simp only[Qd,Ql];omega)) ⟨by simp,_,rfl⟩
theorem QJh (g:Gv)(H:Qa):Qe prog 238 [.agg g.cells.toArray] H λu H'=>u=.bool ((g.bits==8))∧∃m,H'=H.up m:=by
 refine Qoy λq=>?_;obtain⟨⟨k,⟨ag,ah⟩,⟨⟨aa,ab⟩,⟨ad,ae⟩,sc,d,sz⟩,n⟩,bits,ac⟩:=g;simp only[Gv.cells,QfI,Qb,simprocAttr];simp only[Qm3];exact .ext q ((Ext.refl H).push _) ⟨rfl,_,rfl⟩
theorem QJi (g:Gv)(H:Qa):Qe prog 239 [.agg g.cells.toArray] H λu H'=>u=.bool (decide (8<g.bits)&&decide (-128<=g.n)&&decide (g.n<=127))∧∃m,H'=H.up m:=by
 refine Qoz λac=>?_;obtain⟨⟨k,⟨ai,aj⟩,⟨⟨ad,ae⟩,⟨ag,ah⟩,sc,d,sz⟩,n⟩,bits,q⟩:=g;simp only[Gv.cells,QfJ,Qb,simprocAttr];cases aa:decide (8<bits)<;>cases ab:decide (-128<=q)<;>simp only[Qb,simprocAttr,aa,ab,Qm4]
 all_goals exact .ext ac ((Ext.refl H).push _) ⟨by simp,_,rfl⟩
theorem QJj (g:Gv)(H:Qa):Qe prog 240 [.agg g.cells.toArray] H λu H'=>u=.bool ((g.bits==16))∧∃m,H'=H.up m:=by
 refine QoA λq=>?_;obtain⟨⟨k,⟨ag,ah⟩,⟨⟨aa,ab⟩,⟨ad,ae⟩,sc,d,sz⟩,n⟩,bits,ac⟩:=g;simp only[Gv.cells,QfK,Qb,simprocAttr];simp only[Qm5];exact .ext q ((Ext.refl H).push _) ⟨rfl,_,rfl⟩
theorem QJk (g:Gv)(H:Qa):Qe prog 241 [.agg g.cells.toArray] H λu H'=>u=.bool ((g.bits==32))∧∃m,H'=H.up m:=by
 refine QoB λq=>?_;obtain⟨⟨k,⟨ag,ah⟩,⟨⟨aa,ab⟩,⟨ad,ae⟩,sc,d,sz⟩,n⟩,bits,ac⟩:=g;simp only[Gv.cells,QfL,Qb,simprocAttr];simp only[Qm6];exact .ext q ((Ext.refl H).push _) ⟨rfl,_,rfl⟩
theorem QJl (g:Gv)(H:Qa):Qe prog 242 [.agg g.cells.toArray] H λu H'=>u=.bool ((g.bits==64)&&decide (-2147483648<=g.n)&&decide (g.n<=2147483647))∧∃m,H'=H.up m:=by
 refine QoC λac=>?_;obtain⟨⟨k,⟨ai,aj⟩,⟨⟨ad,ae⟩,⟨ag,ah⟩,sc,d,sz⟩,n⟩,bits,q⟩:=g;simp only[Gv.cells,QfM,Qb,simprocAttr];cases aa:bits==64<;>cases ab:decide (-2147483648<=q)<;>simp only[Qb,simprocAttr,aa,ab,Qm7]
 all_goals exact .ext ac ((Ext.refl H).push _) ⟨by simp,_,rfl⟩
theorem QJm (g:Gv)(H:Qa):Qe prog 243 [.agg g.cells.toArray] H λu H'=>u=.bool ((g.bits==64))∧∃m,H'=H.up m:=by
 refine QoD λq=>?_;obtain⟨⟨k,⟨ag,ah⟩,⟨⟨aa,ab⟩,⟨ad,ae⟩,sc,d,sz⟩,n⟩,bits,ac⟩:=g;simp only[Gv.cells,QfN,Qb,simprocAttr];simp only[Qm8];exact .ext q ((Ext.refl H).push _) ⟨rfl,_,rfl⟩
theorem QJn (g:Gv)(H:Qa):Qe prog 244 [.agg g.cells.toArray] H λu H'=>u=.bool ((g.a.k==4)&&decide (-128<=g.a.n)&&decide (g.a.n<=127))∧∃m,H'=H.up m:=by
 refine QoE λab=>?_;obtain⟨⟨k,⟨ai,aj⟩,⟨⟨ac,ad⟩,⟨ag,ah⟩,sc,d,sz⟩,n⟩,bits,ae⟩:=g;simp only[Gv.cells,QfO,Qb,simprocAttr];cases q:k==4<;>cases aa:decide (-128<=n)<;>simp only[Qb,simprocAttr,q,aa,Qm9]
 all_goals exact .ext ab ((Ext.refl H).push _) ⟨by simp,_,rfl⟩
theorem QJo (g:Gv)(H:Qa):Qe prog 245 [.agg g.cells.toArray] H λu H'=>u=.bool ((g.a.k==4))∧∃m,H'=H.up m:=by
 refine QoF λq=>?_;obtain⟨⟨k,⟨ag,ah⟩,⟨⟨aa,ab⟩,⟨ad,ae⟩,sc,d,sz⟩,n⟩,bits,ac⟩:=g;simp only[Gv.cells,QfP,Qb,simprocAttr];simp only[Qna];exact .ext q ((Ext.refl H).push _) ⟨rfl,_,rfl⟩
theorem QJp (g:Gv)(H:Qa):Qe prog 246 [.agg g.cells.toArray] H λu H'=>u=.bool (decide (0<g.bits)&&(g.n==1))∧∃m,H'=H.up m:=by
 refine QoG λaa=>?_;obtain⟨⟨k,⟨ah,ai⟩,⟨⟨ab,ac⟩,⟨ae,ag⟩,sc,d,sz⟩,n⟩,bits,ad⟩:=g;simp only[Gv.cells,QfQ,Qb,simprocAttr];cases q:decide (0<bits)<;>simp only[Qb,simprocAttr,q,Qnb]
 all_goals exact .ext aa ((Ext.refl H).push _) ⟨by simp,_,rfl⟩
theorem Qs6 (c n:Int)(H:Qa):Qe prog 213 [.int .i64 c,.int .i64 n] H λu H'=>∃p q,u=.agg #[.func (.func 214) #[] #[.pointer (some ⟨p,0,none⟩),.pointer (some ⟨q,0,none⟩)]]∧Ext H H'∧H'.get p=some (.cells [.int .i64 c] 3 false)∧H'.get q=some (.cells [.int .i64 n] 3 false)∧p<H'.next∧q<H'.next:=by
 refine QpK λab=>?_;simp only[Qg5,Qb,simprocAttr,Gu,J7,Qoe];have aa:∀b,Ext H ((((H.push (.cells [.int .i64 c] 3 false)).push (.cells [.int .i64 n] 3 false)).push (.cells [.nilFunc] 134 false)).set (H.next+1+1) b):=λb=>((((Ext.refl H).push _).push _).push _).set (by omega) _;refine .mk (aa _).next ⟨H.next,H.next+1,rfl,aa _,?_,?_,by simp only[Qv,Qd];omega,by simp only[Qv,Qd];omega⟩
 ·rw[Qn,Le (by omega),Qc,Le (by simp only[Qd];omega),Qc,Le (by simp only[Qd];omega),Qc,Lc rfl]
 ·rw[Qn,Le (by omega),Qc,Le (by simp only[Qd];omega),Qc,Lc (by simp only[Qd])]
theorem QFP (g:Gv)(c n:Int)(p q:Nat)(H:Qa)(ab:H.get p=some (.cells [.int .i64 c] 3 false))(ac:H.get q=some (.cells [.int .i64 n] 3 false)):Qe prog 214 [.agg g.cells.toArray,.pointer (some ⟨p,0,none⟩),.pointer (some ⟨q,0,none⟩)] H λu H'=>u=.bool (W4 g c&&(g.a.r.n==n))∧Ext H H':=by
 refine QmW λae=>?_;have ad:=ZQ g c;obtain⟨v,ev⟩:∃v,W4 g c=v:=⟨_,rfl⟩;rw[ev]at ad ⊢;clear ev;have av:=ae.lt ab;have aw:=ae.lt ac;have ag:¬p=H.next:=by omega
 have ah:¬q=H.next:=by omega
 obtain⟨⟨k,⟨aq,ar⟩,⟨⟨ai,aj⟩,⟨am,ao⟩,sc,d,sz⟩,an⟩,bits,ak⟩:=g;simp only[Gv.cells]at ad;simp only[Gv.cells,QeE,Qb,simprocAttr,ag,ah,LN,ab,ac];refine(ad _).thenW ?_;rintro _ _ al au ⟨rfl,k1,rfl⟩;simp only[Qd,Ql]at al;have aa:=((Ext.refl H).push (.cells [.int .i64 k,.int .i64 aq,.int .i64 ar,.int .i64 ai,.int .i64 aj,.int .i64 am,.int .i64 ao,.int .i64 sc,.int .i64 d,.int .i64 sz,.int .i64 an,.int .i64 bits,.int .i64 ak] 131 false)).up (m:=k1) (by simp only[Qd];omega);cases v with
 | false=>
  simp only[Qb,simprocAttr,QdQ];exact .mk aa.next ⟨by simp,aa⟩
 | true=>
  simp only[Qb,simprocAttr,ag,ah,LN,ab,ac,QdQ];exact .mk aa.next ⟨by simp,aa⟩
def ZR (s:Nat)(g:Gv):Bool:=
 match s with
 | 0=>false
 | 1=>W4 g 1||W4 g 2 | 2=>W4 g 3 | 3=>W4 g 4 | 4=>W4 g 5 | 5=>W4 g 6 | 6=>W4 g 7
 | 7=>W4 g 1||W4 g 2||Y3 g 1 | 8=>W4 g 3||Y3 g 2 | 9=>W4 g 4||Y3 g 4 | 10=>W4 g 5||Y3 g 8
 | 11=>W4 g 6||Y3 g 4 | 12=>W4 g 6||Y3 g 8 | 13=>W4 g 6||Y3 g 16 | 14=>W4 g 7||Y3 g 32
 | 15=>Y3 g 0 | 16=>Y3 g 4 | 17=>Y3 g 8 | 18=>Y3 g 16 | 19=>Y3 g 32
 | 20=>(g.bits==8)
 | 21=>decide (8<g.bits)&&decide (-128<=g.n)&&decide (g.n<=127)
 | 22=>(g.bits==16) | 23=>(g.bits==32)
 | 24=>(g.bits==64)&&decide (-2147483648<=g.n)&&decide (g.n<=2147483647)
 | 25=>(g.bits==64)
 | 26=>(g.a.k==4)&&decide (-128<=g.a.n)&&decide (g.a.n<=127)
 | 27=>(g.a.k==4)
 | 28=>W4 g 1&&(g.a.r.n==0) | 29=>W4 g 3&&(g.a.r.n==0) | 30=>W4 g 4&&(g.a.r.n==0) | 31=>W4 g 5&&(g.a.r.n==0) | 32=>W4 g 1&&(g.a.r.n==1)
 | 33=>decide (0<g.bits)&&(g.n==1)
 | 34=>Y3 g 2
 | _=>false
def Qwa (H:Qa)(v:Value)(s:Nat):Prop:=∃ (f:FuncId) (ys:List Value),v=.func (.func f) #[] ys.toArray∧∀ (g:Gv) (H2:Qa),Ext H H2->Qe prog f ([.agg g.cells.toArray]++ys) H2 λu H3=>u=.bool (ZR s g)∧Ext H2 H3
theorem QN {f:FuncId}{s:Nat}(H:Qa)(q:∀ (g:Gv) (H:Qa),Qe prog f [.agg g.cells.toArray] H λu H'=>u=.bool (ZR s g)∧∃m,H'=H.up m):Qwa H (.func (.func f) #[] #[]) s:=by
 refine⟨f,[],rfl,λg H2 _=>?_⟩;intro ae;obtain⟨v,H3,ab,aa,ac,ad,m,rfl⟩:=q g H2 ae;exact⟨v,_,ab,aa,ac,ad,(Ext.refl H2).up aa⟩
theorem QhC {H H':Qa}{p q:Nat}{c n:Int}{s:Nat}(ab:Ext H H')(ac:H.get p=some (.cells [.int .i64 c] 3 false))(ad:H.get q=some (.cells [.int .i64 n] 3 false))(ae:p<H.next)(ag:q<H.next)(e:∀g,ZR s g=(W4 g c&&(g.a.r.n==n))):Qwa H' (.func (.func 214) #[] #[.pointer (some ⟨p,0,none⟩),.pointer (some ⟨q,0,none⟩)]) s:=by
 refine⟨214,[.pointer (some ⟨p,0,none⟩),.pointer (some ⟨q,0,none⟩)],rfl,λg H2 aa=>?_⟩;rw[e g];exact QFP g c n p q H2 (by rw[(ab.trans aa).get _ ae];exact ac) (by rw[(ab.trans aa).get _ ag];exact ad)
theorem QFQ (H:Qa):Qe prog 111 [] H λu H'=>∃ (b:Nat) (cs:List Value),u=.slice (some ⟨b,0,none⟩) 35 35∧Ext H H'∧H.next<=b∧H'.get b=some (.cells cs 134 false)∧cs.length=35∧∀s,s<35->∃v,cs[s]? = some v∧Qwa H' v s:=by
 refine QsC λaL=>?_;simp only[Qkm,Qb,simprocAttr,Gu,J7,Qc3,Nat.reduceMul];refine(Qs6 1 0 H).thenW ?_;rintro _ H1 _ aM ⟨aR,aW,rfl,aa,am,au,az,aE⟩;simp only[Qb,simprocAttr,Gu,J7,Qc3,Nat.reduceMul];refine(Qs6 3 0 H1).thenW ?_;rintro _ H2 _ aN ⟨aS,r1,rfl,ab,an,av,aA,aF⟩;simp only[Qb,simprocAttr,Gu,J7,Qc3,Nat.reduceMul];refine(Qs6 4 0 H2).thenW ?_;rintro _ H3 _ aO ⟨aT,r2,rfl,ac,ao,aw,aB,aG⟩;simp only[Qb,simprocAttr,Gu,J7,Qc3,Nat.reduceMul];refine(Qs6 5 0 H3).thenW ?_;rintro _ H4 _ aP ⟨aU,r3,rfl,ad,aq,ax,aC,aH⟩;simp only[Qb,simprocAttr,Gu,J7,Qc3,Nat.reduceMul];refine(Qs6 1 1 H4).thenW ?_;rintro _ H5 _ aQ ⟨aV,r4,rfl,ae,ar,ay,aD,aI⟩;simp only[Qb,simprocAttr,Gu,J7,Qc3,Nat.reduceMul];have aX:=aa;have ah:=(((aa.trans ab).trans ac).trans ad).trans ae;simp only[Qrg,Qg,simprocAttr];have ag:=ah.push;refine .mk (ag _).next ⟨H5.next,_,rfl,ag _,ah.next,by rw[Qc,Lc rfl],rfl,λs aK=>?_⟩;generalize q:H5.push _=K;have al:Ext H5 K:=by rw[<- q];exact(Ext.refl H5).push _
 clear q;have ak:=ae.trans al;have aj:=ad.trans ak;have ai:=ac.trans aj;have aJ:=ab.trans ai;rcases s with _ | _ | _ | _ | _ | _ | _ | _ | _ | _ | _ | _ | _ | _ | _ | _ | _ | _ | _ | _ | _ | _ | _ | _ | _ | _ | _ | _ | _ | _ | _ | _ | _ | _ | _ | s
 ·exact⟨_,rfl,QN K QKb⟩
 ·exact⟨_,rfl,QN K QKc⟩
 ·exact⟨_,rfl,QN K QKd⟩
 ·exact⟨_,rfl,QN K QKe⟩
 ·exact⟨_,rfl,QN K QKf⟩
 ·exact⟨_,rfl,QN K QKg⟩
 ·exact⟨_,rfl,QN K QKh⟩
 ·exact⟨_,rfl,QN K QKi⟩
 ·exact⟨_,rfl,QN K QI4⟩
 ·exact⟨_,rfl,QN K QI5⟩
 ·exact⟨_,rfl,QN K QI6⟩
 ·exact⟨_,rfl,QN K QI7⟩
 ·exact⟨_,rfl,QN K QI8⟩
 ·exact⟨_,rfl,QN K QI9⟩
 ·exact⟨_,rfl,QN K QJa⟩
 ·exact⟨_,rfl,QN K QJb⟩
 ·exact⟨_,rfl,QN K QJd⟩
 ·exact⟨_,rfl,QN K QJe⟩
 ·exact⟨_,rfl,QN K QJf⟩
 ·exact⟨_,rfl,QN K QJg⟩
 ·exact⟨_,rfl,QN K QJh⟩
 ·exact⟨_,rfl,QN K QJi⟩
 ·exact⟨_,rfl,QN K QJj⟩
 ·exact⟨_,rfl,QN K QJk⟩
 ·exact⟨_,rfl,QN K QJl⟩
 ·exact⟨_,rfl,QN K QJm⟩
 ·exact⟨_,rfl,QN K QJn⟩
 ·exact⟨_,rfl,QN K QJo⟩
 ·exact⟨_,rfl,QhC aJ am au az aE (λ_=>rfl)⟩
 ·exact⟨_,rfl,QhC ai an av aA aF (λ_=>rfl)⟩
 ·exact⟨_,rfl,QhC aj ao aw aB aG (λ_=>rfl)⟩
 ·exact⟨_,rfl,QhC ak aq ax aC aH (λ_=>rfl)⟩
 ·exact⟨_,rfl,QhC al ar ay aD aI (λ_=>rfl)⟩
 ·exact⟨_,rfl,QN K QJp⟩
 ·exact⟨_,rfl,QN K QJc⟩
 ·omega
def Qub (q:Int×Bool)(a:Ar):Gv:=if a.k=3 then⟨a,q.1,(WR a.n q.1 q.2).1⟩ else⟨a,0,0⟩
def Qdq (q:Int×Bool)(a:Ar)(s:Int):Bool:=(!(a.k==3)||((WR a.n q.1 q.2).2==0))&&ZR s.toNat (Qub q a)
def QcO (f:Fm)(op:Int)(l:List Ar):Bool:=(f.op==op)&&(f.shapes.length==l.length)&&(Qec f==0)&&(QO op l==0)&&(List.range l.length).all λi=>Qdq (QW op l) (l.getD i Q7) (f.shapes.getD i 0)
section
variable {x:Lf} {op:Int} {va:Value} {l:List Ar} {H:Qa}
abbrev KF (H:Qa)(r:Bool):Env->Qa->Prop:=Rt prog Tryz.f73 H λv H'=>v=.bool r∧Ext H H'
structure FtF (H H':Qa) (x:Lf) (op:Int) (va:Value) (A:Env):Prop where
 xt:Ext H H'
 w:H'.Wf
 g2:H'.get H.next=some (.cells x.cells 45 false)
 g3:H'.get (H.next+1)=some (.cells [.int .i64 op,va] 24 false)
 lt:H.next+2<=H'.next
 r2:A 2=.pointer (some ⟨H.next,0,none⟩)
 r3:A 3=.pointer (some ⟨H.next+1,0,none⟩)
theorem FtF.go {H' H'':Qa}{A B:Env}(h:FtF H H' x op va A)(q:Ext H' H'')(aa:H''.Wf)(e2:B 2=A 2)(e3:B 3=A 3):FtF H H'' x op va B:=
 ⟨h.xt.trans q,aa,by rw[q.get _ (by have:=h.lt;omega)];exact h.g2,by rw[q.get _ (by have:=h.lt;omega)];exact h.g3,by have:=h.lt;have:=q.next;omega,e2.trans h.r2,e3.trans h.r3⟩
theorem QJq {W:Bool}{i tb p:Nat}{cs:List Value}{v:Value}{g:Gv}{H0:Qa}{A:Env}{H1:Qa}{E:Nat->Env->Qa->Prop}{K:Env->Qa->Prop}(ar:H.Wf)(av:x.At H)(ai:FtF H H1 x op va A)(hi:i<x.f.shapes.length)(aE:1<=x.f.shapes.getD i 0∧x.f.shapes.getD i 0<=34)(az:A 7=.slice (some ⟨tb,0,none⟩) 35 35)(aA:A 8=.int .i64 i)(an:H1.get tb=some (.cells cs 134 false))(ak:cs[(x.f.shapes.getD i 0).toNat]? = some v)(aj:Qwa H0 v (x.f.shapes.getD i 0).toNat)(ag:Ext H0 H1)(ay:A 10=.pointer (some ⟨p,0,none⟩))(al:H1.get p=some (.cells g.cells 131 false))(ae:ZR (x.f.shapes.getD i 0).toNat g=false->W=false)
  (ah:ZR (x.f.shapes.getD i 0).toNat g=true->∀ (B:Env) (H2:Qa),Ext H1 H2->H2.Wf->B 2=A 2->B 3=A 3->B 5=A 5->B 6=A 6->B 7=A 7->B 42=A 42->B 43=A 43->B 44=A 44->K B H2):
  Qm prog QdD ⟨KF H W,E⟩ K A H1:=by
 obtain⟨q,aF,g2,g3,aC,r2,r3⟩:=id ai;obtain⟨a1,ac,e1,ax⟩:=id av.2.2.1;have aB:x.cells[1]? = some (.slice a1 x.f.shapes.length ac):=by rw[<- e1];rfl
 obtain⟨b,e,ro,rfl,ab⟩:=ax (by omega);have am:H1.get b=some (.cells (ints x.f.shapes) e ro):=by rw[q.get b (ar.lt ab)];exact ab
 have d1:(0:Int)<=i∧(i:Int)<x.f.shapes.length:=by omega
 have d3:(i:Int).toNat=i:=by omega
 have aq:(ints x.f.shapes)[i]? = some (.int .i64 (x.f.shapes.getD i 0)):=by
  simp[ints,LD,LX,La hi]
 generalize x.f.shapes.getD i 0=s at *;have d4:(0:Int)<=s∧s<((35:Nat):Int):=by omega
 have ad:g.cells.take 13=g.cells:=rfl;have aw:13<=g.cells.length:=Lb _;obtain⟨f,ys,rfl,ao⟩:=aj;simp only[QdD,sxA,sxB,Nat.reduceBEq,Nat.reduceEqDiff,reduceCtorEq,mxA,mxB,Nat.reduceAdd,reduceIte,Nat.reduceLeDiff,splice,r2,az,aA,ay,g2,aB,am,d1,d3,aq,an,d4,ak,al,ad,Lw,QA5];refine⟨aw,?_⟩;refine(show Qe prog f (.agg g.cells.toArray::ys) H1 _ from ao g H1 ag).thenW ?_;rintro _ H2 aD au ⟨rfl,aa⟩;cases c:ZR s.toNat g with
 | false=>
  simp only[Qb,simprocAttr,Zn];exact .mk (q.trans aa).next ⟨by rw[ae c],q.trans aa⟩
 | true=>
  simp only[Qb,simprocAttr];refine ah c _ H2 aa au ?_ ?_ ?_ ?_ ?_ ?_ ?_ ?_
  all_goals simp only[Qg,simprocAttr]
theorem QKj (aE:H.Wf)(bd:x.At H)(aL:Qt H va l)(bB:l.length<=1000)(b3:∀a∈l,I64 a.n)(bE:Qec x.f=0)(bM:x.f.shapes.length=l.length){W:Bool}(aH:W=(List.range l.length).all λi=>Qdq (QW op l) (l.getD i Q7) (x.f.shapes.getD i 0)){A:Env}{H1:Qa}(aK:FtF H H1 x op va A):
  Qm prog QdE ⟨KF H W,WL⟩ (KF H W) A H1:=by
 obtain⟨bG,bU,g2,g3,bO,r2,r3⟩:=id aK;obtain⟨a0,cap,rfl⟩:=Qu aL;simp only[QdE,Qb,simprocAttr,r2,r3,g2,g3,Lw,List.take];refine(Qf3 op _ l H1 (aL.ext aE bG) bB).thenW ?_;rintro _ _ bD bV ⟨rfl,k,rfl⟩;have bg:Ext H1 (H1.up k):=(Ext.refl H1).up bD;obtain⟨q,bq⟩:∃q,q=QW op l:=⟨_,rfl⟩;rw[<- bq]at aH ⊢;simp only[Qb,simprocAttr];refine(QFQ (H1.up k)).thenW ?_;rintro _ H3 bP aP ⟨tb,cs,rfl,bh,bT,aO,bL,b5⟩;obtain⟨bW,_,bv,bw,bQ,_,_⟩:=aK.go (bg.trans bh) aP (B:=A) rfl rfl;have bi:=aP.lt aO;simp only[Qb,simprocAttr,r2,r3,bv,bw];refine Qo (λm A' H'=>∃i:Nat,i<=l.length∧m=l.length - i∧FtF H H' x op (.slice a0 l.length cap) A'∧Ext H3 H'∧A' 5=.int .i64 q.1∧A' 6=.bool q.2∧A' 7=.slice (some ⟨tb,0,none⟩) 35 35∧A' 42=.slice a0 l.length cap∧A' 43=.int .i64 l.length∧A' 44=.int .i64 i∧∀j,j<i->Qdq q (l.getD j Q7) (x.f.shapes.getD j 0)=true) l.length ?_ ?_
 ·refine⟨0,L7 _,by omega,aK.go (bg.trans bh) aP ?_ ?_,Ext.refl _,?_,?_,?_,?_,?_,?_,λj h=>by omega⟩
  all_goals simp only[Qg,simprocAttr]
  all_goals rfl
 ·rintro m A' H' ⟨i,hi,rfl,aC,au,r5,bn,aS,bk,bm,aG,aU⟩;obtain⟨av,bF,bJ,bK,bN,bX,bY⟩:=id aC;simp only[Qi2,Qb,simprocAttr,bm,aG];refine Qf (λab=>?_) (λab=>?_)
  ·have ab:i<l.length:=by have:=Lg ab;omega
   obtain⟨a,aM⟩:∃a,l[i]? = some a:=⟨_,La ab⟩;obtain⟨bH,bI,e0,b1⟩:=aL;cases e0;obtain⟨b,e,ro,rfl,aW⟩:=b1 (by omega);have b8:H'.get b=some (.cells (Qh l) e ro):=by rw[av.get b (aE.lt aW)];exact aW
   have aZ:=We l i a aM;have bC:i * 11+11<=(Qh l).length:=by rw[Qr];omega
   have d1:(0:Int)<=i∧(i:Int)<l.length:=by omega
   have d3:(i:Int).toNat=i:=by omega
   have b7:l.getD i Q7=a:=by rw[LX,aM];rfl
   have b4:I64 a.n:=b3 a (Ln aM);have bj:=QcW a.n q.1 q.2 b4;have aa:Qdq q (l.getD i Q7) (x.f.shapes.getD i 0)=((!(a.k==3)||((WR a.n q.1 q.2).2==0))&&ZR (x.f.shapes.getD i 0).toNat (Qub q a)):=by rw[b7];rfl
   have aY:=QlB bE i (by omega);obtain⟨an,aI⟩:∃an,an=Qub q a:=⟨_,rfl⟩;rw[<- aI]at aa;obtain⟨am,⟨ay,az⟩,⟨⟨aq,ar⟩,⟨aw,ax⟩,sc,d,sz⟩,n⟩:=a;simp only[Ar.cells]at aZ;simp only at aa bj;simp only[Qi1,Qb,simprocAttr,bk,aG,d1,d3,b8,aZ];refine⟨bC,?_⟩;generalize ao:(Qa.set (Qa.push (Qa.set (Qa.push H' _) _ _) _) _ _)=H4;have ac:Ext H' H4:=by
    rw[<- ao];refine Ext.set (Ext.push (Ext.set (Ext.push (Ext.refl H') _) ?_ _) _) ?_ _
    all_goals omega
   have bb:H4.Wf:=by
    rw[<- ao];refine Qa.Wf.set (b0:=.cells [.int .i64 0,.int .i64 0,.int .i64 0,.int .i64 0,.int .i64 0,.int .i64 0,.int .i64 0,.int .i64 0,.int .i64 0,.int .i64 0,.int .i64 0,.int .i64 0,.int .i64 0] 131 false) (Qa.Wf.push (bF.push _ |>.set (b0:=.cells [.int .i64 0,.int .i64 0,.int .i64 0,.int .i64 0,.int .i64 0,.int .i64 0,.int .i64 0,.int .i64 0,.int .i64 0,.int .i64 0,.int .i64 0] 58 false) (by rw[Qc,Lc rfl]) _) _) (by rw[Qc];exact Lc rfl) _
   have bx:H4.get H'.next=some (.cells [.int .i64 am,.int .i64 ay,.int .i64 az,.int .i64 aq,.int .i64 ar,.int .i64 aw,.int .i64 ax,.int .i64 sc,.int .i64 d,.int .i64 sz,.int .i64 n] 58 false):=by
    rw[<- ao,Qn,Le (by omega),Qc,Le (by simp only[Qv,Qd];omega),Qn,Lc rfl]
   have aJ:H4.get (H'.next+1)=some (.cells [.int .i64 am,.int .i64 ay,.int .i64 az,.int .i64 aq,.int .i64 ar,.int .i64 aw,.int .i64 ax,.int .i64 sc,.int .i64 d,.int .i64 sz,.int .i64 n,.int .i64 0,.int .i64 0] 131 false):=by
    rw[<- ao,Qn,Lc rfl]
   have bR:H'.next+2<=H4.next:=by rw[<- ao];simp only[Qv,Qd];omega
   clear ao;have aV:∀ (B:Env) (H5:Qa),Qdq q (l.getD i Q7) (x.f.shapes.getD i 0)=true->Ext H' H5->H5.Wf->B 2=A' 2->B 3=A' 3->B 5=A' 5->B 6=A' 6->B 7=A' 7->B 42=A' 42->B 43=A' 43->B 44=.int .i64 ((i+1:Nat):Int)->Qsl (λm A' H'=>∃i:Nat,i<=l.length∧m=l.length - i∧FtF H H' x op (.slice (some ⟨b,0,none⟩) l.length cap) A'∧Ext H3 H'∧A' 5=.int .i64 q.1∧A' 6=.bool q.2∧A' 7=.slice (some ⟨tb,0,none⟩) 35 35∧A' 42=.slice (some ⟨b,0,none⟩) l.length cap∧A' 43=.int .i64 l.length∧A' 44=.int .i64 i∧∀j,j<i->Qdq q (l.getD j Q7) (x.f.shapes.getD j 0)=true) (l.length - i) B H5:=by
    intro B H5 b6 e1 e2 ad ae aj ak al ag ah ai;refine⟨l.length - (i+1),by omega,i+1,by omega,rfl,aC.go e1 e2 ad ae,au.trans e1,aj.trans r5,ak.trans bn,al.trans aS,ag.trans bk,ah.trans bm,ai,λj aX=>?_⟩
    by_cases h:j=i
    ·rw[h];exact b6
    ·exact aU j (by omega)
   have ei:IntKind.i64.wrap ((i:Int)+1)=((i+1:Nat):Int):=by rw[w64 (by unfold I64;omega)];omega
   have aN:Qdq q (l.getD i Q7) (x.f.shapes.getD i 0)=false->W=false:=λh=>by rw[aH];exact Ke ab h
   obtain⟨tv,ba,aT⟩:=b5 (x.f.shapes.getD i 0).toNat (by omega);have b2:∀B:Env,B 2=A' 2->B 3=A' 3->FtF H H4 x op (.slice (some ⟨b,0,none⟩) l.length cap) B:=λB e2 e3=>aC.go ac bb e2 e3;have b9:H4.get tb=some (.cells cs 134 false):=((au.trans ac).get tb bi).trans aO;cases c:am==3 with
   | false=>
    have aB:an=⟨⟨am,⟨ay,az⟩,⟨⟨aq,ar⟩,⟨aw,ax⟩,sc,d,sz⟩,n⟩,0,0⟩:=by rw[aI,Qub,Le (by simpa using c)]
    rw[c,LM,N1,LJ]at aa;simp only[Qb,simprocAttr];refine QJq (H0:=H3) (g:=an) (p:=H'.next+1) (i:=i) aE bd (b2 _ ?_ ?_) (by omega) aY (tb:=tb) (cs:=cs) (v:=tv) ?_ ?_ b9 ba aT (au.trans ac) ?_ (by rw[aB];exact aJ) (λh=>aN (aa.trans h)) ?_
    all_goals (try (simp only[Qg,simprocAttr,aS];done))
    intro h B H5 e1 e2 ad ae aj ak al ag ah ai;simp only[Qg,simprocAttr]at ad ae aj ak al ag ah ai;simp only[Qb,simprocAttr,ai,aG,ei];refine aV _ H5 (aa.trans h) (ac.trans e1) e2 ?_ ?_ ?_ ?_ ?_ ?_ ?_ ?_
    all_goals simp only[Qg,simprocAttr,ad,ae,aj,ak,al,ag,ah]
   | true=>
    have aB:an=⟨⟨am,⟨ay,az⟩,⟨⟨aq,ar⟩,⟨aw,ax⟩,sc,d,sz⟩,n⟩,q.1,(WR n q.1 q.2).1⟩:=by rw[aI,Qub,Lc (by simpa using c)]
    rw[c,L8,Nt]at aa;simp only[Qi0,Qb,simprocAttr,bx,r5,bn];refine(bj H4).thenW ?_;rintro _ H4' bS bc ⟨rfl,bo⟩;rw[bo];obtain⟨aQ,br⟩:∃aQ,aQ=(WR n q.1 q.2).1:=⟨_,rfl⟩;obtain⟨aR,bu⟩:∃aR,aR=(WR n q.1 q.2).2:=⟨_,rfl⟩;rw[<- br]at aB ⊢;rw[<- bu]at aa ⊢;simp only[Qb,simprocAttr];cases aA:aR==0 with
    | false=>
     simp only[Qb,simprocAttr,aA,Zn];exact .mk (av.trans ac).next ⟨by rw[aN (by rw[aa,aA];rfl)],av.trans ac⟩
    | true=>
     rw[aA,LJ]at aa;simp only[Qb,simprocAttr,aA,r5,aJ];generalize aD:Qa.set (Qa.set H4 _ _) _ _=H6;have aF:Ext H' H6:=by
      rw[<- aD];refine Ext.set (Ext.set ac ?_ _) ?_ _
      all_goals omega
     have bc:H6.Wf:=by
      rw[<- aD];exact Qa.Wf.set (b0:=.cells _ 131 false) (Qa.Wf.set bb aJ _) (by rw[Qn,Lc rfl]) _
     have bz:H6.get (H'.next+1)=some (.cells [.int .i64 am,.int .i64 ay,.int .i64 az,.int .i64 aq,.int .i64 ar,.int .i64 aw,.int .i64 ax,.int .i64 sc,.int .i64 d,.int .i64 sz,.int .i64 n,.int .i64 q.1,.int .i64 aQ] 131 false):=by
      rw[<- aD,Qn,Lc rfl]
     clear aD;have bA:H6.get tb=some (.cells cs 134 false):=((au.trans aF).get tb bi).trans aO;refine QJq (H0:=H3) (g:=an) (p:=H'.next+1) (i:=i) aE bd (aC.go aF bc ?_ ?_) (by omega) aY (tb:=tb) (cs:=cs) (v:=tv) ?_ ?_ bA ba aT (au.trans aF) ?_ (by rw[aB];exact bz) (λh=>aN (aa.trans h)) ?_
     all_goals (try (simp only[Qg,simprocAttr,aS];done))
     intro h B H5 e1 e2 ad ae aj ak al ag ah ai;simp only[Qg,simprocAttr]at ad ae aj ak al ag ah ai;simp only[Qb,simprocAttr,ai,aG,ei];refine aV _ H5 (aa.trans h) (aF.trans e1) e2 ?_ ?_ ?_ ?_ ?_ ?_ ?_ ?_
     all_goals simp only[Qg,simprocAttr,ad,ae,aj,ak,al,ag,ah]
  ·have ab:i=l.length:=by have:=Ll ab;omega
   subst ab;have bp:W=true:=by rw[aH];exact Gh λj aX=>aU j aX
   simp only[Qb,simprocAttr,Zn];exact .mk av.next ⟨by rw[bp],av⟩
theorem QKk (ac:H.Wf)(am:x.At H)(ar:x.Fr 0)(ak:Qt H va l)(al:l.length<=1000)(aj:∀a∈l,I64 a.n)(au:x.f.shapes.length=l.length){W:Bool}(aa:W=((Qec x.f==0)&&(QO op l==0)&&(List.range l.length).all λi=>Qdq (QW op l) (l.getD i Q7) (x.f.shapes.getD i 0))){A:Env}{H1:Qa}(ab:FtF H H1 x op va A):
  Qm prog QdF ⟨KF H W,WL⟩ (KF H W) A H1:=by
 obtain⟨ad,aC,g2,g3,aA,r2,r3⟩:=id ab;have ao:x.cells.take 10=x.cells:=rfl;have az:10<=x.cells.length:=Lb _;simp only[QdF,Qb,simprocAttr,r2,r3,g2,g3,Lw,ao];refine⟨az,?_⟩;refine(Qt9 x H1 (am.ext ac ad) ar).thenW ?_;rintro _ _ av ax ⟨rfl,k,rfl⟩;have an:Ext H1 (H1.up k):=(Ext.refl H1).up av;obtain⟨ae,_,ah,ai,aB,_,_⟩:=ab.go an ax rfl rfl;cases c:Qec x.f==0 with
 | false=>
  simp only[Qb,simprocAttr,r2,r3,ah,ai,c,Zn];exact .mk ae.next ⟨by rw[aa,c];rfl,ae⟩
 | true=>
  simp only[Qb,simprocAttr,r2,r3,ah,ai,c,Lw,List.take];refine(Gw op va l _ (ak.ext ac ae) al aj).thenW ?_;rintro _ _ aw ay ⟨rfl,k2,rfl⟩;have ag:Ext H1 ((H1.up k).up k2):=an.up aw;have aq:∀B:Env,B 2=A 2->B 3=A 3->FtF H ((H1.up k).up k2) x op va B:=λB e2 e3=>ab.go ag ay e2 e3;cases q:QO op l==0 with
  | false=>
   simp only[Qb,simprocAttr,q,Zn];exact .mk (ad.trans ag).next ⟨by rw[aa,c,q];rfl,ad.trans ag⟩
  | true=>
   simp only[Qb,simprocAttr,q];refine QKj ac am ak al aj (L0.1 c) au (by rw[aa,c,q];rfl) (aq _ ?_ ?_)
   all_goals simp only[Qg,simprocAttr]
end
theorem Qwb {x:Lf}{op:Int}{va:Value}{l:List Ar}(H:Qa)(am:x.At H)(av:x.Fr 0)(aj:Qt H va l)(aw:l.length<=1000)(au:∀a∈l,I64 a.n):
  Qe prog 73 [.agg x.cells.toArray,.agg #[.int .i64 op,va]] H λv H'=>v=.bool (QcO x.f op l)∧Ext H H':=by
 refine QtS λal=>?_;have aq:(Value.agg x.cells.toArray).cells.toList=x.cells:=rfl;have an:x.cells.take 10=x.cells:=rfl;have aA:x.cells[0]? = some (.int .i64 x.f.op):=rfl;have aC:10<=x.cells.length:=Lb _;obtain⟨a1,aa,e1⟩:=Qu am.2.2.1;have ai:x.cells[1]? = some (.slice a1 x.f.shapes.length aa):=by rw[<- e1];rfl
 obtain⟨W,ad⟩:∃W,W=QcO x.f op l:=⟨_,rfl⟩;rw[<- ad];obtain⟨a0,cap,rfl⟩:=Qu aj;simp only[Qmi,aq,JL,simprocAttr];generalize ab:Qa.push H (.cells x.cells 45 false)=H1;have g1:H1.get H.next=some (.cells x.cells 45 false):=by rw[<- ab,Qc,Lc rfl]
 have az:Ext H H1:=by rw[<- ab];exact(Ext.refl H).push _
 have ak:H1.next=H.next+1:=by rw[<- ab];rfl
 have ax:H1.Wf:=by rw[<- ab];exact al.push _
 clear ab;simp only[Qb,simprocAttr,ak];generalize q:Qa.push H1 _=H2;have ac:Ext H H2:=by rw[<- q];exact(az.push _)
 have ay:H2.Wf:=by rw[<- q];exact(ax.push _)
 have ae:H2.get H.next=some (.cells x.cells 45 false):=by rw[<- q,Qc,Le (by omega)];exact g1
 have ag:H2.get (H.next+1)=some (.cells [.int .i64 op,.slice a0 l.length cap] 24 false):=by rw[<- q,Qc,Lc (by omega)]
 have aB:H2.next=H.next+2:=by rw[<- q,Qd,ak]
 clear q;simp only[Qb,simprocAttr,g1,ae,ag,Lw,an,aA,ai];have ar:∀A:Env,A 2=.pointer (some ⟨H.next,0,none⟩)->A 3=.pointer (some ⟨H.next+1,0,none⟩)->FtF H H2 x op (.slice a0 l.length cap) A:=λA e2 e3=>⟨ac,ay,ae,ag,by omega,e2,e3⟩;cases aa:x.f.op==op with
 | false=>
  simp only[Qb,simprocAttr,ae,ag,ai,Zn];exact .mk ac.next ⟨by rw[ad,QcO,aa];rfl,ac⟩
 | true=>
  simp only[Qb,simprocAttr,ae,ag,ai];have ao:((x.f.shapes.length:Int)==(l.length:Int))=(x.f.shapes.length==l.length):=by
   rw[Ni,L0,L0];omega
  rw[ao];cases ah:x.f.shapes.length==l.length with
  | false=>
   simp only[Qb,simprocAttr,Zn];exact .mk ac.next ⟨by rw[ad,QcO,aa,ah];rfl,ac⟩
  | true=>
   simp only[Qb,simprocAttr];refine QKk al am av aj aw au (L0.1 ah) (by rw[ad,QcO,aa,ah];rfl) (ar _ ?_ ?_)
   all_goals simp only[Qg,simprocAttr]
def tlN (f:Fm):Int:=if 0<=Qp f.slots 7 then tlF f - 1 else tlF f
def Qo4 (f:Fm)(op:Int)(l:List Ar):Int:=if(l[(Qp f.slots 5).toNat]?.getD Q7).k=3 then(WR (l[(Qp f.slots 5).toNat]?.getD Q7).n (QW op l).1 (QW op l).2).1 else(l[(Qp f.slots 5).toNat]?.getD Q7).n
def isB (n:Int):Int:=IntKind.u8.wrap (IntKind.i64.wrap (16 * n))
def Qaz (f:Fm)(op:Int)(l:List Ar):List Int:=(if 0<=Qp f.slots 5 then(Ku (Qo4 f op l) (tlN f)).1 else[])++(if 0<=Qp f.slots 7 then[isB (l[(Qp f.slots 7).toNat]?.getD Q7).r.n] else[])
theorem QBb (n sz:Int):(Ku n sz).1.length<=1000:=by
 unfold Ku;split
 ·simp
 ·split
  ·simp
  ·rename_i h _;have h:Qnj sz=true:=by simpa using h
   unfold Qnj at h;simp only[Nw,L0]at h;simp only[Qfa,Nn,BO];omega
section
variable {x:Lf} {op:Int} {va:Value} {l:List Ar} {H:Qa}
abbrev KT (H:Qa)(W:List Int):Env->Qa->Prop:=Rt prog Tryz.f113 H λv H'=>Gx 1 5 H H' v W.length (bys W)∧Ext H H'
theorem QJr (ar:H.Wf)(ak:Qt H va l)(au:l.length<=1000){W w:List Int}{s:Int}(av:s<l.length)(aw:w.length<=1000)(q:W=w++(if 0<=s then[isB (l[s.toNat]?.getD Q7).r.n] else[])){A:Env}{H1:Qa}{v:Value}(aa:Ext H H1)(ag:H1.Wf)(g3:H1.get (H.next+1)=some (.cells [.int .i64 op,va] 24 false))(r3:A 3=.pointer (some ⟨H.next+1,0,none⟩))(r5:A 5=v)(ah:A 7=.int .i64 s)(ae:Gx 1 5 H H1 v w.length (bys w)):
  Qm prog Gp ⟨KT H W,WL⟩ (KT H W) A H1:=by
 obtain⟨a0,cap,rfl,aj⟩:=ak;simp only[Gp,Qb,simprocAttr,ah];refine Qf (λh=>?_) (λh=>?_)
 ·have ai:0<=s:=Lg h;rw[Lc ai]at q;obtain⟨i,rfl⟩:∃i:Nat,s=i:=⟨s.toNat,by omega⟩;have an:i<l.length:=by omega
  obtain⟨a,ab⟩:∃a,l[i]? = some a:=⟨_,La an⟩;obtain⟨b,e,ro,rfl,ac⟩:=aj (by omega);have al:H1.get b=some (.cells (Qh l) e ro):=by rw[aa.get b (ar.lt ac)];exact ac
  have ao:=Qk3 ab;have d1:(0:Int)<=i∧(i:Int)<l.length:=by omega
  have d3:(i:Int).toNat=i:=by omega
  have am:(l[(i:Int).toNat]?.getD Q7).r.n=a.r.n:=by rw[d3,ab];rfl
  rw[am]at q;simp only[Qg1,Qb,simprocAttr,r3,r5,ah,g3,d1,d3,al,ao];refine Y8 (ms:=[.int .u8 (isB a.r.n)]) (m:=1) (ae.go ag ((Ext.refl H1).push _)) (aa.push _) (ag.push _) (QnZ (by rw[Qc,Lc rfl];rfl)) rfl rfl (by omega) (by omega) ?_;intro ax H2 aq ad;simp only[Qb,simprocAttr,Qi3];have e2:W.length=w.length+1:=by rw[q,Lh,Bb]
  have e3:bys W=bys w++[.int .u8 (isB a.r.n)]:=by rw[q,bys,bys,N6];rfl
  exact .mk ad.x.next ⟨by rw[e2,e3];exact aq,ad.x⟩
 ·rw[Le (by have:=Ll h;omega),Na]at q;simp only[Qb,simprocAttr,r5,Qi3];exact .mk aa.next ⟨by rw[q];exact ae,aa⟩
theorem QJs (ab:H.Wf)(al:x.At H)(ae:Qt H va l)(aj:l.length<=1000)(aA:∀a∈l,I64 a.n)(aY:x.f.slots.length=l.length){W:List Int}(aa:W=Qaz x.f op l){A:Env}{H1:Qa}(am:FtF H H1 x op va A)(r5:A 5=.slice none 0 0)(ar:A 6=.int .i64 (tlN x.f))(au:A 7=.int .i64 (Qp x.f.slots 7)):
  Qm prog QcH ⟨KT H W,WL⟩ (KT H W) A H1:=by
 obtain⟨aO,bd,g2,g3,aZ,r2,r3⟩:=id am;have av:x.cells.take 10=x.cells:=rfl;have aR:10<=x.cells.length:=Lb _;have aI:=QpW x.f.slots 5;have aX:=QpW x.f.slots 7;unfold Qaz at aa;simp only[QcH,Qb,simprocAttr,r2,g2,Lw,av];refine⟨aR,?_⟩;refine(Ww x 5 H1 (al.ext ab aO)).thenW ?_;rintro _ _ aJ ak ⟨rfl,k,rfl⟩;have aP:Ext H1 (H1.up k):=(Ext.refl H1).up aJ;obtain⟨ac,_,aW,ad,ba,_,_⟩:=am.go aP ak rfl rfl;simp only[Qb,simprocAttr];refine Qf (λh=>?_) (λh=>?_)
 ·have ay:0<=Qp x.f.slots 5:=Lg h;rw[Lc ay]at aa;have q:Qo4 x.f op l=if(l[(Qp x.f.slots 5).toNat]?.getD Q7).k=3 then(WR (l[(Qp x.f.slots 5).toNat]?.getD Q7).n (QW op l).1 (QW op l).2).1 else(l[(Qp x.f.slots 5).toNat]?.getD Q7).n:=rfl
  obtain⟨i,hi⟩:∃i:Nat,Qp x.f.slots 5=i:=⟨(Qp x.f.slots 5).toNat,by omega⟩;rw[hi]at aI q ⊢;have aF:i<l.length:=by omega
  obtain⟨a,ag⟩:∃a,l[i]? = some a:=⟨_,La aF⟩;have d1:(0:Int)<=i∧(i:Int)<l.length:=by omega
  have d3:(i:Int).toNat=i:=by omega
  have aE:l[(i:Int).toNat]?.getD Q7=a:=by rw[d3,ag];rfl
  rw[aE]at q;have ai:I64 a.n:=aA a (Ln ag);have aC:=Qs5 a.n (QW op l).1 (QW op l).2 ai;have aV:=QcW a.n (QW op l).1 (QW op l).2 ai;have aU:=λH' (al:Ext H H')=>Qf3 op va l H' (ae.ext ab al) aj;obtain⟨a0,cap,rfl,az⟩:=id ae;obtain⟨b,e,ro,rfl,an⟩:=az (by omega);have aD:(H1.up k).get b=some (.cells (Qh l) e ro):=by rw[ac.get b (ab.lt an)];exact an
  have aG:(Qh l)[i * 11]? = some (.int .i64 a.k):=by
   have:=We l i a ag;have h:=congrArg (λz=>z[0]?) this;simpa[Ar.cells,Nl,Nk] using h
  have aH:(Qh l)[i * 11+10]? = some (.int .i64 a.n):=by
   have:=We l i a ag;have h:=congrArg (λz=>z[10]?) this;simpa[Ar.cells,Nl,Nk] using h
  generalize H1.up k=H2 at *;simp only[Qg3,Qb,simprocAttr,r3,ad,d1,d3,aD,aG,aH];obtain⟨N,ax⟩:∃N,N=Qo4 x.f op l:=⟨_,rfl⟩;rw[<- ax]at q aa;have aB:I64 N:=by
   rw[q];split
   ·exact aC
   ·exact ai
  have ah:∀ (B:Env) (H5:Qa),Ext H2 H5->H5.Wf->B 3=A 3->B 7=A 7->Qe prog 249 [.int .i64 N,.int .i64 (tlN x.f)] H5 (QnR prog [Om 49 (t 52),Ow 53 (.ext (t 49) 0),Ow 54 (.ext (t 49) 1),Om 5 (t 53)] (Qm prog Gp ⟨KT H W,WL⟩ (KT H W)) B (some 52)):=by
   intro B H5 e1 e2 aS aT;refine(QqT N (tlN x.f) aB H5).thenW ?_;rintro _ H6 bc aN ⟨v,rfl,aM,aq⟩;simp only[Qb,simprocAttr];have aQ:=(ac.trans e1).trans aq;have aL:=(ac.trans e1).next;refine QJr ab ae aj (by omega) (QBb N (tlN x.f)) aa (v:=v) aQ aN (by rw[(e1.trans aq).get _ (by omega)];exact ad) ?_ ?_ ?_ (aM.down aL)
   all_goals simp only[Qg,simprocAttr,aS,aT,r3,au]
  cases c:a.k==3 with
  | false=>
   rw[Le (by simpa using c)]at q;rw[q]at ah;simp only[Qb,simprocAttr,ar];refine ah _ H2 (Ext.refl _) ak ?_ ?_
   all_goals simp only[Qg,simprocAttr]
  | true=>
   rw[Lc (by simpa using c)]at q;simp only[Qg2,Qb,simprocAttr,r3,ad,Lw,List.take];refine(aU H2 ac).thenW ?_;rintro _ _ aK bg ⟨rfl,k4,rfl⟩;simp only[Qb,simprocAttr];refine(aV _).thenW ?_;rintro _ H5 bb ao ⟨rfl,aw⟩;rw[aw]at ao ⊢;rw[q]at ah;simp only[Qb,simprocAttr,ar];refine ah _ _ (show Ext H2 (H2.up k4) from(Ext.refl H2).up aK) ao ?_ ?_
   all_goals simp only[Qg,simprocAttr]
 ·rw[Le (by have:=Ll h;omega),LH]at aa;simp only[Qb,simprocAttr];refine QJr ab ae aj (w:=[]) (by omega) (by simp) aa (v:=.slice none 0 0) ac ak ad ?_ ?_ ?_ (.inl ⟨rfl,rfl,rfl⟩)
  all_goals simp only[Qg,simprocAttr,r3,r5,au]
end
theorem Qs8 {x:Lf}{H:Qa}(ae:H.Wf)(ac:x.At H)(q:x.Fr 0)(m:Nat)(ad:H.next<=m):Qi m 6 (.agg x.cells.toArray)=true:=by
 have aa:=QlA ae q.1 ac.2.2.1 m ad 4;have ab:=QlA ae q.2 ac.2.2.2 m ad 4;simp only[Nat.reduceAdd]at aa ab;obtain⟨f,ag,ah⟩:=x;have e1:SlF 0 ag f.shapes:=q.1;have e2:SlF 0 ah f.slots:=q.2;clear ac q;simp only[Lf.cells]at *;rcases e1 with⟨_,rfl⟩ | ⟨_,ai,ak,rfl,_,_⟩<;>rcases e2 with⟨_,rfl⟩ | ⟨_,aj,al,rfl,_,_⟩
 all_goals (simp only[Qi]at aa ab;simp[Qi,Ab.plain,aa,ab])
theorem Quc {x:Lf}{op:Int}{va:Value}{l:List Ar}(H:Qa)(ac:x.At H)(aD:x.Fr 0)(ag:Qt H va l)(aq:l.length<=1000)(ao:∀a∈l,I64 a.n)(ar:x.f.slots.length=l.length):
  Qe prog 113 [.agg x.cells.toArray,.agg #[.int .i64 op,va]] H λv H'=>Gx 1 5 H H' v (Qaz x.f op l).length (bys (Qaz x.f op l))∧Ext H H':=by
 refine QsD λaa=>?_;have az:(Value.agg x.cells.toArray).cells.toList=x.cells:=rfl;have aj:x.cells.take 10=x.cells:=rfl;have ax:10<=x.cells.length:=Lb _;obtain⟨W,ae⟩:∃W,W=Qaz x.f op l:=⟨_,rfl⟩;rw[<- ae];obtain⟨a0,cap,rfl⟩:=Qu ag;simp only[Qkn,az,JL,simprocAttr];generalize ab:Qa.push H (.cells x.cells 45 false)=H1;have g1:H1.get H.next=some (.cells x.cells 45 false):=by rw[<- ab,Qc,Lc rfl]
 have aH:Ext H H1:=by rw[<- ab];exact(Ext.refl H).push _
 have au:H1.next=H.next+1:=by rw[<- ab];rfl
 have aF:H1.Wf:=by rw[<- ab];exact aa.push _
 clear ab;simp only[Qb,simprocAttr,au];generalize q:Qa.push H1 _=H2;have ah:Ext H H2:=by rw[<- q];exact(aH.push _)
 have aL:H2.Wf:=by rw[<- q];exact(aF.push _)
 have ak:H2.get H.next=some (.cells x.cells 45 false):=by rw[<- q,Qc,Le (by omega)];exact g1
 have al:H2.get (H.next+1)=some (.cells [.int .i64 op,.slice a0 l.length cap] 24 false):=by rw[<- q,Qc,Lc (by omega)]
 have aJ:H2.next=H.next+2:=by rw[<- q,Qd,au]
 clear q;simp only[Qb,simprocAttr,g1,ak,al,Lw,aj];refine⟨ax,by omega,?_⟩;refine(QvY x H2 (ac.ext aa ah)).thenW ?_;rintro _ _ av aM ⟨rfl,k,rfl⟩;have ai:Ext H2 (H2.up k):=(Ext.refl H2).up av;refine⟨ai.eqB,?_⟩;have am:(H2.up k).get H.next=some (.cells x.cells 45 false):=by rw[Zk];exact ak
 have aA:(H2.up k).get (H.next+1)=some (.cells [.int .i64 op,.slice a0 l.length cap] 24 false):=by rw[Zk];exact al
 have aI:H2.next<=k:=av;simp only[Qb,simprocAttr,am,Lw,aj];refine⟨ax,Qs8 aa ac aD k (by omega),?_⟩;refine(Ww x 7 _ (ac.ext aa (ah.trans ai))).thenW ?_;rintro _ _ aE aG ⟨rfl,k2,rfl⟩;have aw:Ext H2 ((H2.up k).up k2):=ai.up aE;have an:∀B:Env,B 2=.pointer (some ⟨H.next,0,none⟩)->B 3=.pointer (some ⟨H.next+1,0,none⟩)->FtF H ((H2.up k).up k2) x op (.slice a0 l.length cap) B:=λB e2 e3=>⟨ah.trans aw,aG,by rw[Zk];exact am,by rw[Zk];exact aA,by have:=aw.next;omega,e2,e3⟩;have aK:=QsS x.f;have aC:tlF x.f=bif decide (0<=Qp x.f.slots 7) then tl1 x.f+1 else tl1 x.f:=rfl
 simp only[Qb,simprocAttr];refine Qf (λh=>?_) (λh=>?_)
 ·have aB:0<=Qp x.f.slots 7:=Lg h;have ad:tlN x.f=tlF x.f - 1:=Lc aB;rw[h,Lq]at aC;have ay:IntKind.i64.wrap (tlF x.f - 1)=tlN x.f:=by rw[ad,w64 (by unfold I64;omega)]
  simp only[Qb,simprocAttr,ay];refine QJs aa ac ag aq ao ar ae (an _ ?_ ?_) ?_ ?_ ?_
  all_goals simp only[Qg,simprocAttr]
 ·have ad:tlN x.f=tlF x.f:=Le (by have:=Ll h;omega);simp only[Qb,simprocAttr];refine QJs aa ac ag aq ao ar ae (an _ ?_ ?_) ?_ ?_ ?_
  all_goals simp only[Qg,simprocAttr,ad]
def QCv (f:Fm)(l:List Ar):Int:=if 0<=Qp f.slots 1 then Wj (l[(Qp f.slots 1).toNat]?.getD Q7).r else f.digit
def W2 (f:Fm)(l:List Ar):List Ld:=
 if Qp f.slots 2<0 then[⟨[],0,0⟩]
 else if((QcM (QCv f l) (l[(Qp f.slots 2).toNat]?.getD Q7)).2==0)=true then(QcM (QCv f l) (l[(Qp f.slots 2).toNat]?.getD Q7)).1 else[]
section
variable {x:Lf} {op:Int} {va:Value} {l:List Ar} {H:Qa}
abbrev KP (H:Qa)(W:List Ld):Env->Qa->Prop:=Rt prog Tryz.f114 H λv H'=>Wa 120 H H' v W∧Ext H H'
theorem QJu (am:H.Wf)(ah:Qt H va l){W:List Ld}{mid:Int}{i:Nat}{a:Ar}(ac:l[i]? = some a)(aa:W=if((QcM mid a).2==0)=true then(QcM mid a).1 else[]){A:Env}{H1:Qa}(ag:FtF H H1 x op va A)(r4:A 4=.slice none 0 0)(r5:A 5=.int .i64 i)(an:A 6=.int .i64 mid):
  Qm prog VV ⟨KP H W,WL⟩ (KP H W) A H1:=by
 obtain⟨q,au,g2,g3,aq,r2,r3⟩:=id ag;have ao:i<l.length:=(Lk.1 ac).1;obtain⟨a0,cap,rfl,ae⟩:=ah;obtain⟨b,e,ro,rfl,ad⟩:=ae (by omega);have ai:H1.get b=some (.cells (Qh l) e ro):=by rw[q.get b (am.lt ad)];exact ad
 have d1:(0:Int)<=i∧(i:Int)<l.length:=by omega
 have d3:(i:Int).toNat=i:=by omega
 have ak:=We l i a ac;have aj:i * 11+11<=(Qh l).length:=by rw[Qr];omega
 simp only[VV,Qb,simprocAttr,r3,r5,an,g3,d1,d3,ai,ak];refine⟨aj,?_⟩;refine(QxS mid a H1).thenW ?_;rintro _ H2 ar av ⟨v,rfl,al,ab⟩;simp only[Qb,simprocAttr];cases c:(QcM mid a).2==0 with
 | false=>
  simp only[Qb,simprocAttr,c,QaV];rw[c,Le (by decide)]at aa;exact .mk (q.trans ab).next ⟨by rw[aa];exact Wa.nil _ _ _,q.trans ab⟩
 | true=>
  simp only[Qb,simprocAttr,c,QaV];rw[c,Lc rfl]at aa;exact .mk (q.trans ab).next ⟨by rw[aa];exact al.down q.next,q.trans ab⟩
theorem QKm (ad:H.Wf)(aD:x.At H)(ae:Qt H va l)(aL:l.length<=1000)(aM:x.f.slots.length=l.length){W:List Ld}(aK:0<=Qp x.f.slots 2)(aa:W=W2 x.f l){A:Env}{H1:Qa}(ac:FtF H H1 x op va A)(r4:A 4=.slice none 0 0)(r5:A 5=.int .i64 (Qp x.f.slots 2)):
  Qm prog VW ⟨KP H W,WL⟩ (KP H W) A H1:=by
 obtain⟨aE,aP,g2,g3,aN,r2,r3⟩:=id ac;have al:x.cells.take 10=x.cells:=rfl;have aI:x.cells[6]? = some (.int .i64 x.f.digit):=rfl;have aH:10<=x.cells.length:=Lb _;have ay:=QpW x.f.slots 2;have ax:=QpW x.f.slots 1;unfold W2 at aa;rw[Le (by omega)]at aa;obtain⟨i,hi⟩:∃i:Nat,Qp x.f.slots 2=i:=⟨(Qp x.f.slots 2).toNat,by omega⟩;rw[hi]at aa r5 ay;obtain⟨a,ag⟩:∃a,l[i]? = some a:=⟨_,La (by omega)⟩;have ar:l[(i:Int).toNat]?.getD Q7=a:=by rw[show(i:Int).toNat=i by omega,ag];rfl
 rw[ar]at aa;have ab:QCv x.f l=if 0<=Qp x.f.slots 1 then Wj (l[(Qp x.f.slots 1).toNat]?.getD Q7).r else x.f.digit:=rfl
 simp only[VW,Qb,simprocAttr,r2,g2,aI,Lw,al];refine⟨aH,?_⟩;refine(Ww x 1 H1 (aD.ext ad aE)).thenW ?_;rintro _ _ az ak ⟨rfl,k,rfl⟩;have ah:Ext H1 (H1.up k):=(Ext.refl H1).up az;obtain⟨aF,_,aJ,am,aO,_,_⟩:=ac.go ah ak rfl rfl;simp only[Qb,simprocAttr];refine Qf (λh=>?_) (λh=>?_)
 ·have an:0<=Qp x.f.slots 1:=Lg h;rw[Lc an]at ab;obtain⟨j,av⟩:∃j:Nat,Qp x.f.slots 1=j:=⟨(Qp x.f.slots 1).toNat,by omega⟩;rw[av]at ax ab ⊢;obtain⟨c,ai⟩:∃c,l[j]? = some c:=⟨_,La (by omega)⟩;have au:l[(j:Int).toNat]?.getD Q7=c:=by rw[show(j:Int).toNat=j by omega,ai];rfl
  rw[au]at ab;obtain⟨a0,cap,rfl,ao⟩:=id ae;obtain⟨b,e,ro,rfl,aj⟩:=ao (by omega);have aq:(H1.up k).get b=some (.cells (Qh l) e ro):=by rw[aF.get b (ad.lt aj)];exact aj
  have d1:(0:Int)<=j∧(j:Int)<l.length:=by omega
  have d3:(j:Int).toNat=j:=by omega
  have aB:=QeX ai;have aw:j * 11+1+2<=(Qh l).length:=by rw[Qr];omega
  have q:=QcJ c.r;simp only[Rg.cells]at q;generalize H1.up k=H2 at *;simp only[Qb,simprocAttr,r3,am,d1,d3,aq,aB];refine⟨aw,?_⟩;refine(q H2).thenW ?_;rintro _ _ aA aC ⟨rfl,k4,rfl⟩;have aG:Ext H1 (H2.up k4):=ah.trans ((Ext.refl H2).up aA);simp only[Qb,simprocAttr];refine QJu ad ae (mid:=Wj c.r) ag (by rw[aa,ab]) (ac.go aG aC ?_ ?_) ?_ ?_ ?_
  all_goals simp only[Qg,simprocAttr,r4,r5]
 ·rw[Le (by have:=Ll h;omega)]at ab;simp only[Qb,simprocAttr];refine QJu ad ae (mid:=x.f.digit) ag (by rw[aa,ab]) (ac.go ah ak ?_ ?_) ?_ ?_ ?_
  all_goals simp only[Qg,simprocAttr,r4,r5]
end
theorem Qrq {x:Lf}{op:Int}{va:Value}{l:List Ar}(H:Qa)(am:x.At H)(ak:Qt H va l)(aw:l.length<=1000)(ax:x.f.slots.length=l.length):
  Qe prog 114 [.agg x.cells.toArray,.agg #[.int .i64 op,va]] H λv H'=>Wa 120 H H' v (W2 x.f l)∧Ext H H':=by
 refine QpJ λag=>?_;have ar:(Value.agg x.cells.toArray).cells.toList=x.cells:=rfl;have ao:x.cells.take 10=x.cells:=rfl;have aC:10<=x.cells.length:=Lb _;obtain⟨W,ad⟩:∃W,W=W2 x.f l:=⟨_,rfl⟩;rw[<- ad];obtain⟨a0,cap,rfl⟩:=Qu ak;simp only[Qg4,ar,JL,simprocAttr];generalize aa:Qa.push H (.cells x.cells 45 false)=H1;have g1:H1.get H.next=some (.cells x.cells 45 false):=by rw[<- aa,Qc,Lc rfl]
 have aB:Ext H H1:=by rw[<- aa];exact(Ext.refl H).push _
 have al:H1.next=H.next+1:=by rw[<- aa];rfl
 have az:H1.Wf:=by rw[<- aa];exact ag.push _
 clear aa;simp only[Qb,simprocAttr,al];generalize q:Qa.push H1 _=H2;have ab:Ext H H2:=by rw[<- q];exact(aB.push _)
 have aE:H2.Wf:=by rw[<- q];exact(az.push _)
 have ah:H2.get H.next=some (.cells x.cells 45 false):=by rw[<- q,Qc,Le (by omega)];exact g1
 have ai:H2.get (H.next+1)=some (.cells [.int .i64 op,.slice a0 l.length cap] 24 false):=by rw[<- q,Qc,Lc (by omega)]
 have aD:H2.next=H.next+2:=by rw[<- q,Qd,al]
 clear q;simp only[Qb,simprocAttr,g1,ah,ai,Lw,ao];refine⟨aC,?_⟩;refine(Ww x 2 H2 (am.ext ag ab)).thenW ?_;rintro _ _ ay aA ⟨rfl,k,rfl⟩;have ac:Ext H2 (H2.up k):=(Ext.refl H2).up ay;have av:∀B:Env,B 2=.pointer (some ⟨H.next,0,none⟩)->B 3=.pointer (some ⟨H.next+1,0,none⟩)->FtF H (H2.up k) x op (.slice a0 l.length cap) B:=λB e2 e3=>⟨ab.trans ac,aA,by rw[Zk];exact ah,by rw[Zk];exact ai,by have:=ac.next;omega,e2,e3⟩;simp only[Qb,simprocAttr];refine Qf (λh=>?_) (λh=>?_)
 ·have au:Qp x.f.slots 2<0:=Lg h;have aq:W=[⟨[],0,0⟩]:=by rw[ad];unfold W2;rw[Lc au]
  simp only[Qb,simprocAttr,QaV];have an:=(ab.trans ac).push (.cells [.slice none 0 0,.int .i64 0,.int .i64 0] 120 false);refine .mk an.next ⟨?_,an⟩;rw[aq];refine⟨[.slice none 0 0],rfl,.inr ⟨(H2.up k).next,1,rfl,(ab.trans ac).next,by rw[Qc,Lc rfl];rfl,rfl,.inl rfl⟩,λj s w ae aj=>?_⟩;cases j with
  | zero=>simp at ae aj;subst ae;subst aj;exact .inl ⟨rfl,rfl,rfl⟩
  | succ j=>simp at ae
 ·simp only[Qb,simprocAttr];refine QKm ag am ak aw ax (by have:=Ll h;omega) ad (av _ ?_ ?_) ?_ ?_
  all_goals simp only[Qg,simprocAttr]
def Qx3 (f:Fm)(s:Int):Bool:=decide (0<=Qp f.shapes s)
def QuW (w:Int)(f:Fm)(d:Int):Bool:=
 if(w==1)=true then Qx3 f 26 else if(w==2)=true then Qx3 f 27 else if(w==3)=true then(!(Qx3 f 21||Qx3 f 26)&&((d==4)||(d==-1))) else true
theorem QDZ {H:Qa}{v:Value}{l:List Int}(h:QdA H v l.length (ints l)):QA6 H v l:=by
 obtain⟨a,c,rfl,q⟩:=h;refine⟨a,c,rfl,λab=>?_⟩;obtain⟨b,e,ro,rfl,hb⟩:=q ab;exact⟨b,e,ro,_,rfl,hb,λj aa=>ZJ aa⟩
theorem Qp7 {x:Lf}(w d:Int)(H:Qa)(aj:x.At H):Qe prog 30 [.int .i64 w,.agg x.cells.toArray,.int .i64 d] H λv H'=>v=.bool (QuW w x.f d)∧Ext H H':=by
 refine Qob λal=>?_;have aq:(Value.agg x.cells.toArray).cells.toList=x.cells:=rfl;obtain⟨a1,ac,e1⟩:=Qu aj.2.2.1;have ai:x.cells[1]? = some (.slice a1 x.f.shapes.length ac):=by rw[<- e1];rfl
 obtain⟨W,aa⟩:∃W,W=QuW w x.f d:=⟨_,rfl⟩;rw[<- aa];unfold QuW at aa;have ak:=aj.2.2.1;rw[e1]at ak;simp only[Qfs,aq,JL,simprocAttr];generalize ah:Qa.push H (.cells x.cells 45 false)=H1;have g1:H1.get H.next=some (.cells x.cells 45 false):=by rw[<- ah,Qc,Lc rfl]
 have ab:Ext H H1:=by rw[<- ah];exact(Ext.refl H).push _
 have au:H1.Wf:=by rw[<- ah];exact al.push _
 clear ah;have q:=λs=>QsX _ _ s H1 (QDZ (ak.ext al ab)) aj.1;cases ac:w==1 with
 | true=>
  rw[ac,Lc rfl]at aa;simp only[Qb,simprocAttr,ac,g1,ai];refine(q 26).thenW ?_;rintro _ H2 ae am ⟨rfl,e2⟩;rw[e2]at ae ⊢;simp only[Qb,simprocAttr,Xh];exact .mk ab.next ⟨by rw[aa];rfl,ab⟩
 | false=>
  rw[ac,Le (by decide)]at aa;cases ad:w==2 with
  | true=>
   rw[ad,Lc rfl]at aa;simp only[Qb,simprocAttr,ac,ad,g1,ai];refine(q 27).thenW ?_;rintro _ H2 ae am ⟨rfl,e2⟩;rw[e2]at ae ⊢;simp only[Qb,simprocAttr,Xh];exact .mk ab.next ⟨by rw[aa];rfl,ab⟩
  | false=>
   rw[ad,Le (by decide)]at aa;cases ag:w==3 with
   | false=>
    rw[ag,Le (by decide)]at aa;simp only[Qb,simprocAttr,ac,ad,ag,Xh];exact .mk ab.next ⟨by rw[aa],ab⟩
   | true=>
    rw[ag,Lc rfl]at aa;simp only[Qb,simprocAttr,ac,ad,ag,g1,ai];refine(q 21).thenW ?_;rintro _ H2 ae am ⟨rfl,e2⟩;rw[e2]at ae ⊢;have an:decide (0<=Qp x.f.shapes 21)=Qx3 x.f 21:=rfl;have ao:decide (0<=Qp x.f.shapes 26)=Qx3 x.f 26:=rfl;rw[an];cases k1:Qx3 x.f 21 with
    | true=>
     simp only[Qb,simprocAttr,Xh];exact .mk ab.next ⟨by rw[aa,k1];rfl,ab⟩
    | false=>
     simp only[Qb,simprocAttr,g1,ai];refine(q 26).thenW ?_;rintro _ H3 ar av ⟨rfl,e3⟩;rw[e3,ao]at *;cases k2:Qx3 x.f 26 with
     | true=>
      simp only[Qb,simprocAttr,Xh];exact .mk ab.next ⟨by rw[aa,k1,k2];rfl,ab⟩
     | false=>
      cases k3:d==4 with
      | true=>
       simp only[Qb,simprocAttr,k3,Xh];exact .mk ab.next ⟨by rw[aa,k1,k2,k3];rfl,ab⟩
      | false=>
       simp only[Qb,simprocAttr,k3,Xh];exact .mk ab.next ⟨by rw[aa,k1,k2,k3];simp,ab⟩
theorem QFX (a:Ar)(H:Qa):Qe prog 355 [.agg a.cells.toArray] H λu H'=>u=.bool (a.k==2)∧Ext H H':=by
 refine Qge λai=>?_;obtain⟨aa,⟨ag,ah⟩,⟨⟨ab,ac⟩,⟨ad,ae⟩,sc,d,sz⟩,n⟩:=a;simp only[Ar.cells,Vj,Qb,simprocAttr,Qe9];have q:=(Ext.refl H).push (.cells [.int .i64 aa,.int .i64 ag,.int .i64 ah,.int .i64 ab,.int .i64 ac,.int .i64 ad,.int .i64 ae,.int .i64 sc,.int .i64 d,.int .i64 sz,.int .i64 n] 58 false);exact .mk q.next ⟨rfl,q⟩
theorem Qx4 {g:FuncId}{p:Ar->Bool}(ao:∀ (a:Ar) (H:Qa),Qe prog g [.agg a.cells.toArray] H λu H'=>u=.bool (p a)∧Ext H H')(va:Value)(l:List Ar)(H:Qa)(al:Qt H va l)(av:l.length<=1000):Qe prog 38 [va,.func (.func g) #[] #[]] H λu H'=>∃r:Int,u=.int .i64 r∧decide (0<=r)=l.any p∧Ext H H':=by
 refine Zf λah=>?_;obtain⟨a0,cap,rfl,ak⟩:=al;simp only[Xd,Qb,simprocAttr,QL];refine Qo (λm A' H'=>∃i:Nat,i<=l.length∧m=l.length - i∧H'.Wf∧Ext H H'∧A' 0=.slice a0 l.length cap∧A' 1=.func (.func g) #[] #[]∧A' 7=.int .i64 l.length∧A' 8=.int .i64 i∧(l.take i).any p=false) l.length ?_ ?_
 ·refine⟨0,L7 _,by omega,ah,Ext.refl H,?_,?_,?_,?_,by simp⟩
  all_goals simp only[Qg,simprocAttr]
  all_goals rfl
 ·rintro m A' H' ⟨i,hi,rfl,ax,aa,ai,r1,aj,ae,ac⟩;simp only[Qb,simprocAttr,aj,ae];refine Qf (λq=>?_) (λq=>?_)
  ·have q:i<l.length:=by have:=Lg q;omega
   obtain⟨a,ab⟩:∃a,l[i]? = some a:=⟨_,La q⟩;obtain⟨b,e,ro,rfl,ag⟩:=ak (by omega);have am:H'.get b=some (.cells (Qh l) e ro):=by rw[aa.get b (ah.lt ag)];exact ag
   have aq:=We l i a ab;have an:i * 11+11<=(Qh l).length:=by rw[Qr];omega
   have d1:(0:Int)<=i∧(i:Int)<l.length:=by omega
   have d3:(i:Int).toNat=i:=by omega
   have ei:IntKind.i64.wrap ((i:Int)+1)=((i+1:Nat):Int):=by rw[w64 (by unfold I64;omega)];omega
   have ar:l.take (i+1)=l.take i++[a]:=by rw[Nv,ab];rfl
   simp only[Qb,simprocAttr,ai,r1,ae,d1,d3,am,aq,QpY];refine⟨an,?_⟩;refine(ao a H').thenW ?_;rintro _ H2 aw au ⟨rfl,ad⟩;cases c:p a with
   | true=>
    simp only[Qb,simprocAttr,Wn];refine .mk (aa.trans ad).next ⟨i,rfl,?_,aa.trans ad⟩;rw[Lp d1.1];exact(Bh.2 ⟨a,Ln ab,c⟩).symm
   | false=>
    simp only[Qb,simprocAttr,ae,ei];refine⟨l.length - (i+1),by omega,i+1,by omega,rfl,au,aa.trans ad,?_,?_,?_,?_,by rw[ar,Rz,ac];simp[c]⟩
    all_goals simp only[Qg,simprocAttr,ai,r1,aj]
  ·have q:i=l.length:=by have:=Ll q;omega
   subst q;rw[Nr]at ac;simp only[Qb,simprocAttr,Wn];exact .mk aa.next ⟨-1,rfl,by rw[ac];rfl,aa⟩
theorem Qtb {g:FuncId}{p:Ar->Bool}(ad:∀ (a:Ar) (H:Qa),Qe prog g [.agg a.cells.toArray] H λu H'=>u=.bool (p a)∧Ext H H')(va:Value)(l:List Ar)(H:Qa)(ab:Qt H va l)(ac:l.length<=1000):Qe prog 354 [va,.func (.func g) #[] #[]] H λu H'=>u=.bool (l.any p)∧Ext H H':=by
 refine K1 λag=>?_;simp only[YJ,Qb,simprocAttr];refine(Qx4 ad va l H ab ac).thenW ?_;rintro _ H2 ae ah ⟨r,rfl,aa,q⟩;simp only[Qb,simprocAttr,KG];exact .mk q.next ⟨by rw[aa],q⟩
def Qx5 (c:Int):Int:=IntKind.u8.wrap (BitVec.ofInt IntKind.u8.bits c &&& BitVec.ofInt IntKind.u8.bits 7).toNat
def Qjl (l:List Ar)(w:Ld):Int:=
 if(!(l.any λa=>a.k==2)||(w.b.length==0))=true then -1 else if(Qx5 (w.b.getD 0 0)==4)=true then(w.b.length:Int) - 2 else(w.b.length:Int) - 1
theorem QjV {op:Int}{va:Value}{l:List Ar}{w:Ld}{v:Value}{H0:Qa}(H:Qa)(ak:Qt H va l)(ay:l.length<=1000)(az:Gx 1 5 H0 H v w.b.length (bys w.b))(aG:w.b.length<=1000):
  Qe prog 253 [.agg #[.int .i64 op,va],.agg #[v,.int .i64 w.x,.int .i64 w.h]] H λu H'=>u=.int .i64 (Qjl l w)∧Ext H H':=by
 refine Qh0 λag=>?_;obtain⟨W,q⟩:∃W,W=Qjl l w:=⟨_,rfl⟩;rw[<- q];unfold Qjl at q;obtain⟨a0,cap,rfl⟩:=Qu ak;obtain⟨a1,ah,rfl,aw⟩:∃a c,v=.slice a w.b.length c∧(0<w.b.length->∃b,a=some ⟨b,0,none⟩∧H.get b=some (.cells (bys w.b) 5 false)):=by
  rcases az with⟨rfl,h,_⟩ | ⟨b,c,rfl,_,h,_,_⟩
  ·exact⟨none,0,by rw[h],λh'=>by omega⟩
  ·exact⟨_,c,rfl,λ_=>⟨b,rfl,h⟩⟩
 simp only[QaG,JL,simprocAttr];generalize ac:Qa.push H _=H1;have g1:H1.get H.next=some (.cells [.int .i64 op,.slice a0 l.length cap] 24 false):=by rw[<- ac,Qc,Lc rfl];rfl
 have aB:Ext H H1:=by rw[<- ac];exact(Ext.refl H).push _
 have al:H1.next=H.next+1:=by rw[<- ac];rfl
 have aA:H1.Wf:=by rw[<- ac];exact ag.push _
 clear ac
 try simp only[Qb,simprocAttr,al]
 generalize ab:Qa.push H1 _=H2;have an:Ext H H2:=by rw[<- ab];exact(aB.push _)
 have aE:H2.Wf:=by rw[<- ab];exact(aA.push _)
 have au:H2.get H.next=some (.cells [.int .i64 op,.slice a0 l.length cap] 24 false):=by rw[<- ab,Qc,Le (by omega)];exact g1
 have aj:H2.get (H.next+1)=some (.cells [.slice a1 w.b.length ah,.int .i64 w.x,.int .i64 w.h] 120 false):=by rw[<- ab,Qc,Lc (by omega)]
 have aC:H2.next=H.next+2:=by rw[<- ab,Qd,al]
 clear ab;simp only[Qb,simprocAttr,g1,au,aj];refine(Qtb QFX _ l H2 (ak.ext ag an) ay).thenW ?_;rintro _ H3 aD aF ⟨rfl,ao⟩;have aa:=an.trans ao;have ad:H3.get (H.next+1)=some (.cells [.slice a1 w.b.length ah,.int .i64 w.x,.int .i64 w.h] 120 false):=by rw[ao.get _ (by omega)];exact aj
 generalize (l.any λa=>a.k==2)=M at *;cases M with
 | false=>
  simp only[Qb,simprocAttr,YO];exact .mk aa.next ⟨by rw[q];rfl,aa⟩
 | true=>
  have ar:((w.b.length:Int)==0)=(w.b.length==0):=by
   rw[Ni,L0,L0];omega
  simp only[Qb,simprocAttr,ad,ar];cases ae:w.b.length==0 with
  | true=>
   simp only[Qb,simprocAttr,YO];exact .mk aa.next ⟨by rw[q,ae];rfl,aa⟩
  | false=>
   have am:0<w.b.length:=by have:=LC.1 ae;omega
   obtain⟨b,rfl,hb⟩:=aw am;have ax:H3.get b=some (.cells (bys w.b) 5 false):=by rw[aa.get b (ag.lt hb)];exact hb
   have av:(bys w.b)[0]? = some (.int .u8 (w.b.getD 0 0)):=by
    simp[bys,LD,LX,La am]
   have d1:(0:Int)<w.b.length:=by omega
   have aq:IntKind.u8.wrap (BitVec.ofInt IntKind.u8.bits (w.b.getD 0 0) &&& BitVec.ofInt IntKind.u8.bits 7).toNat=Qx5 (w.b.getD 0 0):=rfl;rw[ae,L8,NI,Le (by decide)]at q;simp only[sxA,sxB,Nat.reduceBEq,Nat.reduceEqDiff,reduceCtorEq,mxA,mxB,Nat.reduceAdd,reduceIte,Nat.reduceLeDiff,splice,ad,ax,d1];refine⟨B0 0,_,av,?_⟩;simp only[Qb,simprocAttr,aq];have e2:IntKind.i64.wrap ((w.b.length:Int) - 2)=(w.b.length:Int) - 2:=w64 (by unfold I64;omega);have e1:IntKind.i64.wrap ((w.b.length:Int) - 1)=(w.b.length:Int) - 1:=w64 (by unfold I64;omega);cases ai:Qx5 (w.b.getD 0 0)==4 with
   | true=>
    rw[ai,Lc rfl]at q;simp only[Qb,simprocAttr,ad,e2,YO];exact .mk aa.next ⟨by rw[q],aa⟩
   | false=>
    rw[ai,Le (by decide)]at q;simp only[Qb,simprocAttr,ad,e1,YO];exact .mk aa.next ⟨by rw[q],aa⟩
theorem Que {x:Lf}{op:Int}{va:Value}(H:Qa):Qe prog 74 [.agg x.cells.toArray,.agg #[.int .i64 op,va]] H λu H'=>u=.func (.func 112) #[] #[.pointer (some ⟨H.next,0,none⟩),.pointer (some ⟨H.next+1,0,none⟩)]∧Ext H H'∧H.next+2<=H'.next∧H'.get H.next=some (.cells x.cells 45 false)∧H'.get (H.next+1)=some (.cells (Value.agg #[.int .i64 op,va]).cells.toList 24 false):=by
 refine QsB λab=>?_;have aa:(Value.agg x.cells.toArray).cells.toList=x.cells:=rfl;simp only[Qkl,aa,JL,simprocAttr];have q:=((Ext.refl H).push (.cells x.cells 45 false)).push (.cells (Value.agg #[.int .i64 op,va]).cells.toList 24 false);simp only[Qb,simprocAttr,Qrf];refine .mk q.next ⟨rfl,q,by simp only[Qd];omega,?_,?_⟩
 ·rw[Qc,Le (by rw[Qd];omega),Qc,Lc rfl]
 ·rw[Qc,Lc (by rw[Qd])]
theorem Qo9 {x:Lf}{op:Int}{va s q:Value}{ab aa:Int}(H:Qa)(ag:s.oneCell'=true)(ae:q.cells.toList=[q]):Qe prog 115 [.agg x.cells.toArray,.agg #[.int .i64 op,va],.agg #[s,.int .i64 ab,.int .i64 aa],q] H λu H'=>u=.func (.func 252) #[] #[.pointer (some ⟨H.next+1,0,none⟩),.pointer (some ⟨H.next+2,0,none⟩),.pointer (some ⟨H.next,0,none⟩),.pointer (some ⟨H.next+3,0,none⟩)]∧Ext H H'∧H.next+4<=H'.next∧H'.get H.next=some (.cells x.cells 45 false)∧H'.get (H.next+1)=some (.cells (Value.agg #[.int .i64 op,va]).cells.toList 24 false)∧H'.get (H.next+2)=some (.cells (Value.agg #[s,.int .i64 ab,.int .i64 aa]).cells.toList 120 false)∧H'.get (H.next+3)=some (.cells [q] 27 false):=by
 refine QmV λah=>?_;have ad:(Value.agg x.cells.toArray).cells.toList=x.cells:=rfl;have ac:=((((Ext.refl H).push (.cells x.cells 45 false)).push (.cells (Value.agg #[.int .i64 op,va]).cells.toList 24 false)).push (.cells (Value.agg #[s,.int .i64 ab,.int .i64 aa]).cells.toList 120 false)).push (.cells [q] 27 false);simp only[QeD,ad,JL,simprocAttr];simp only[Qb,simprocAttr,QlM,ae];refine .mk ac.next ⟨rfl,ac,by simp only[Qd];omega,?_,?_,?_,?_⟩
 ·rw[Qc,Le (by simp only[Qd];omega),Qc,Le (by simp only[Qd];omega),Qc,Le (by simp only[Qd];omega),Qc,Lc rfl]
 ·rw[Qc,Le (by simp only[Qd];omega),Qc,Le (by simp only[Qd];omega),Qc,Lc (by simp only[Qd])]
 ·rw[Qc,Le (by simp only[Qd];omega),Qc,Lc (by simp only[Qd])]
 ·rw[Qc,Lc (by simp only[Qd])]
def QuX (P:Program)(ty:TypeId)(size:Nat):Bool:=match P.underlying ty with | some (.slice e)=>(match P.info? e with | some q=>Nat.beq q.size size | none=>false) | _=>false
theorem QzW {P:Program}{A:Env}{H:Qa}{k:Value->Qa->Prop}{ty:TypeId}{size:Nat}{x hi mx:Operand}{k1 k2:IntKind}{n:Int}{u v:Value}(q:QuX P ty size=true)(ai:ev A x=u)(ae:ev A hi=.int k1 n)(ag:ev A mx=.int k2 n)(ah:QaC size u none (some n) (some n)=some v):
  pr P (.gen (.slice ty x none (some hi) (some mx))) false A H k=k v H:=by
 unfold QuX at q;split at q
 ·rename_i e ac;split at q
  ·rename_i aj ad;have e0:aj.size=size:=LA q;subst e0;exact QvM (by
    have aa:XD A (some hi)=some (some n):=by simp[XD,ae]
    have ab:XD A (some mx)=some (some n):=by simp[XD,ag]
    have b0:XD A none=some none:=rfl;simp only[rop,aop,QnJ,ac,ad,b0,aa,ab,ai,Jk,ah];rfl)
  ·cases q
 ·cases q
def Qe2 (f:Fm)(l:List Ar):Int:=if 0<=Qp f.slots 4 then IntKind.u8.wrap (IntKind.u8.wrap f.code+IntKind.u8.wrap (Wj (l[(Qp f.slots 4).toNat]?.getD Q7).r)) else IntKind.u8.wrap f.code
def Qgl (f:Fm)(l:List Ar)(e:List Int)(w:Ld):List Ld:=(Qe1 f l w.x w.h).map λq=>⟨q++[Qe2 f l]++w.b++e,0,Qjl l w⟩
theorem Qx6 (p r:Int):(JW p r).length<=4:=by
 unfold JW QFD
 repeat' split
 all_goals simp
theorem Qx7 (m:Int):(Kv m).length<=2:=by
 unfold Kv
 repeat' split
 all_goals simp
theorem QuY (f:Fm)(l:List Ar)(a b:Int):(Qe1 f l a b).length<=3∧∀q∈Qe1 f l a b,q.length<=6:=by
 unfold Qe1;split
 ·unfold Qrk;cases f.w==-1<;>(repeat' split)<;>simp[Vk]
 ·refine⟨?_,λq h=>?_⟩
  ·rw[Nn];unfold chF;repeat' split
   all_goals simp
  ·obtain⟨n,_,rfl⟩:=N4.1 h;have:=Qx6 f.pre n;have:=Qx7 f.map;rw[Lh];omega
structure PfF (Hz Hs H:Qa) (x:Lf) (op:Int) (va:Value) (p1 p2 p3 p4:Nat) (s tl:Value) (w:Ld) (e:List Int):Prop where
 z:Ext Hz H
 wf:H.Wf
 g1:H.get p1=some (.cells [.int .i64 op,va] 24 false)
 g2:H.get p2=some (.cells [s,.int .i64 w.x,.int .i64 w.h] 120 false)
 g3:H.get p3=some (.cells x.cells 45 false)
 g4:H.get p4=some (.cells [tl] 27 false)
 s:Gx 1 5 Hs H s w.b.length (bys w.b)
 t:Gx 1 5 Hs H tl e.length (bys e)
structure PfO (Own:Nat->Prop) (Hz:Qa) (p1 p2 p3 p4:Nat) (s tl:Value):Prop where
 z:∀id,id<Hz.next->¬Own id
 o1:¬Own p1
 o2:¬Own p2
 o3:¬Own p3
 o4:¬Own p4
 s:∀id,inB s id->¬Own id
 t:∀id,inB tl id->¬Own id
section
variable {Hz Hs H:Qa} {x:Lf} {op:Int} {va:Value} {p1 p2 p3 p4:Nat} {s tl:Value} {w:Ld} {e:List Int} {Own:Qa->Nat->Prop}
theorem PfF.ck {H':Qa}(h:PfF Hz Hs H x op va p1 p2 p3 p4 s tl w e)(aa:PfO (Own H) Hz p1 p2 p3 p4 s tl)(q:CK Own H H'):PfF Hz Hs H' x op va p1 p2 p3 p4 s tl w e:=by
 have ac:=q.next;have ad:=h.z.next;refine⟨⟨by omega,λid ab=>?_⟩,q.w,?_,?_,?_,?_,?_,?_⟩
 ·rw[q.keep id (by omega) (aa.z id ab)];exact h.z.get id ab
 ·rw[q.keep _ (h.wf.lt h.g1) aa.o1];exact h.g1
 ·rw[q.keep _ (h.wf.lt h.g2) aa.o2];exact h.g2
 ·rw[q.keep _ (h.wf.lt h.g3) aa.o3];exact h.g3
 ·rw[q.keep _ (h.wf.lt h.g4) aa.o4];exact h.g4
 ·exact h.s.ext λid hi=>q.keep id (h.s.low h.wf hi).2 (aa.s id hi)
 ·exact h.t.ext λid hi=>q.keep id (h.t.low h.wf hi).2 (aa.t id hi)
theorem PfO.sub {O O':Nat->Prop}(h:PfO O Hz p1 p2 p3 p4 s tl)(aa:∀id,O' id->O id):PfO O' Hz p1 p2 p3 p4 s tl:=
 ⟨λid q ab=>h.z id q (aa _ ab),λq=>h.o1 (aa _ q),λq=>h.o2 (aa _ q),λq=>h.o3 (aa _ q),λq=>h.o4 (aa _ q),λid q ab=>h.s id q (aa _ ab),λid q ab=>h.t id q (aa _ ab)⟩
theorem Zu.keep2 {e:TypeId}{H0 H H':Qa}{v:Value}{ws:List (List Int)}(h:Zu e H0 H v ws)(q:H.Wf)(ae:∀id,H0.next<=id->id<H.next->H'.get id=H.get id):Zu e H0 H' v ws:=by
 obtain⟨ss,ag,aa,ab⟩:=h.it;exact⟨h.ne,ss,ag,aa.ext λid hi=>ae id (aa.low q hi).1 (aa.low q hi).2,λj s w ac ad=>(ab j s w ac ad).ext λid hi=>ae id ((ab j s w ac ad).low q hi).1 ((ab j s w ac ad).low q hi).2⟩
theorem QJv {base ay:Nat}{R:Nat->Qa->Prop}{l:List Ar}(ac:Cns base ay (Qgl x.f l e w) LdV R Own)(bN:base<=H.next)(bp:FOk x.f)(bD:x.At Hz)(aF:Qt Hz va l)(aT:Hz.Wf)(av:∀n,Hz.next<=n->Qi n 6 (.agg #[.int .i64 op,va])=true)(b3:l.length<=1000)(b4:x.f.slots.length=l.length)
  (bC:0<=w.x∧w.x<2) (bB:0<=w.h∧w.h<2) (bE:x.f.vex=true->(vxF x.f l w.x w.h).Ok) (bW:w.b.length<=1000) (bP:e.length<=2000)
  {H1:Qa} (aD:PfF Hz Hs H1 x op va p1 p2 p3 p4 s tl w e) (aP:PfO (Own H1) Hz p1 p2 p3 p4 s tl) (ao:R 0 H1) (aK:CK Own H H1)
  {A:Env} (aj:A 0=.func (.yield ay) #[] #[]) (r1:A 1=.pointer (some ⟨p1,0,none⟩)) (r2:A 2=.pointer (some ⟨p2,0,none⟩)) (r3:A 3=.pointer (some ⟨p3,0,none⟩)) (r4:A 4=.pointer (some ⟨p4,0,none⟩)) (ak:A 6=.int .i64 (Qjl l w)) (al:A 7=.int .u8 (Qe2 x.f l)):
  Qm prog JV ⟨Rt prog Tryz.f252 H λu H'=>R (Qgl x.f l e w).length H'∧CK Own H H',WL⟩ (Rt prog Tryz.f252 H λu H'=>R (Qgl x.f l e w).length H'∧CK Own H H') A H1:=by
 obtain⟨ax,aS,g1,g2,g3,g4,b5,bU⟩:=id aD;have bc:x.cells.take 10=x.cells:=rfl;have bF:10<=x.cells.length:=Lb _;obtain⟨bI,sc,rfl⟩:=b5.slc;obtain⟨a0,cap,rfl⟩:=Qu aF;simp only[JV,Qb,simprocAttr,r1,r2,r3,g1,g2,g3,Lw,bc];refine⟨bF,?_⟩;have av:=λn (h:H1.next<=n)=>av n (N8 ax.next h);refine(QsZ bp H1 (bD.ext aT ax) (aF.ext aT ax) av b3 b4 bC bB bE).thenW ?_;rintro v H2 bR ae ⟨aR,aU⟩;obtain⟨aZ,bJ,rfl⟩:=aR.slc;obtain⟨aE,aC⟩:=ac.ext _ _ _ ao aS aU;have ar:=ac.ck ao aS aU ae;have bj:=aD.ck aP ar;obtain⟨bO,bo⟩:=QuY x.f l w.x w.h;generalize aI:Qe1 x.f l w.x w.h=hd at *;simp only[Qb,simprocAttr,QL];refine Qo (λm A' H'=>∃i:Nat,i<=hd.length∧m=hd.length - i∧R i H'∧CK Own H2 H'∧A' 0=.func (.yield ay) #[] #[]∧A' 2=.pointer (some ⟨p2,0,none⟩)∧A' 4=.pointer (some ⟨p4,0,none⟩)∧A' 6=.int .i64 (Qjl l w)∧A' 7=.int .u8 (Qe2 x.f l)∧A' 35=.slice aZ hd.length bJ∧A' 36=.int .i64 hd.length∧A' 37=.int .i64 i) hd.length ?_ ?_
 ·refine⟨0,L7 _,by omega,aE,ac.ck aE ae (.refl _) ae,?_,?_,?_,?_,?_,?_,?_,?_⟩
  all_goals simp only[Qg,simprocAttr,aj,r2,r4,ak,al]
  all_goals rfl
 ·rintro m A' H' ⟨i,hi,rfl,am,ad,aj,r2,r4,ak,al,aY,az,aA⟩;have ab:=ad.w;simp only[QaY,Qb,simprocAttr,az,aA];refine Qf (λaa=>?_) (λaa=>?_)
  ·have aa:i<hd.length:=by have:=Lg aa;omega
   simp only[QaX,Qb,simprocAttr,aj,r2,r4,ak,al,aY,az,aA];obtain⟨ss,bT,bz,aq⟩:=aR.it;obtain⟨b,bn,rfl,aH⟩:∃b,H1.next<=b∧aZ=some ⟨b,0,none⟩∧H2.get b=some (.cells ss 27 false):=by
    rcases bz with⟨h,h',_⟩ | ⟨b,c,h,bG,bH,_⟩
    ·omega
    ·cases h;exact⟨b,bG,rfl,bH⟩
   have aO:∀id,H1.next<=id->¬Own H2 id:=λid bM aa=>by have:=ac.low _ _ _ ao (aC _ aa);omega
   have bx:H'.get b=some (.cells ss 27 false):=by rw[ad.keep _ (ae.lt aH) (aO _ bn)];exact aH
   obtain⟨sv,an⟩:∃sv,ss[i]? = some sv:=⟨_,La (by omega)⟩;obtain⟨q,ah⟩:∃bg,hd[i]? = some bg:=⟨_,La aa⟩;have aQ:=(aq i sv q an ah).ext (H':=H') λid aJ=>ad.keep id ((aq i sv q an ah).low ae aJ).2 (aO _ ((aq i sv q an ah).low ae aJ).1);have bQ:=bo q (Ln ah);have d1:(0:Int)<=i∧(i:Int)<hd.length:=by omega
   have d3:(i:Int).toNat=i:=by omega
   have ei:IntKind.i64.wrap ((i:Int)+1)=((i+1:Nat):Int):=by rw[w64 (by unfold I64;omega)];omega
   obtain⟨ba,bb,rfl⟩:=aQ.slc;have aN:q.length<UNK:=by unfold UNK;omega
   obtain⟨af,br,bq⟩:=QFC aQ aN;have b8:QuX prog 27 1=true:=by kernel_rfl
   have ag:=bj.ck (aP.sub aC) ad;simp only[Qb,simprocAttr,d1,d3,bx,an,QL];rw[QzW (k1:=.i64) (k2:=.i64) (n:=(q.length:Int)) (u:=.slice ba q.length bb) b8 (by simp only[Qg,simprocAttr]) (by simp only[Qg,simprocAttr]) (by simp only[Qg,simprocAttr]) br];simp only[Qb,simprocAttr,al];have ai:=(Ext.refl H').push (.cells [.int .u8 (Qe2 x.f l)] 5 false);have b9:=ab.push (.cells [.int .u8 (Qe2 x.f l)] 5 false);have bu:=Qs1 H' (Qe2 x.f l);generalize H'.push _=H4 at *;refine Qsz (bq.go ab ai) ⟨af,rfl⟩ b9 bu.src (ZK _) (by decide) (by rw[Xe];rfl) (by omega) (by omega) aN ?_;rintro bX H5 bv aX bA ⟨bK,rfl⟩;have aB:=ag.g2;have aV:=ai.trans aX;have bh:H5.get p2=some (.cells [.slice bI w.b.length sc,.int .i64 w.x,.int .i64 w.h] 120 false):=by rw[aV.get _ (ab.lt aB)];exact aB
   have b6:=ag.s.go ab aV;simp only[Qb,simprocAttr,r2,bh];refine Y8 bv aX bA b6.src (ZK _) (by rw[Xe,NH]) (by omega) (by omega) ?_;intro bY H6 bw au;have aW:=ai.trans au.x;have bd:H6.get p4=some (.cells [tl] 27 false):=by rw[aW.get _ (ab.lt ag.g4)];exact ag.g4
   have b7:=ag.t.go ab aW;simp only[Qb,simprocAttr,r4,bd];refine Y8 bw au.x au.w b7.src (ZK _) (by rw[Xe,NH]) (by omega) (by omega) ?_;intro bZ H7 aG aL;have aw:=ai.trans aL.x;obtain⟨a7,bL,rfl⟩:=aG.slc;have b1:(Qgl x.f l e w)[i]? = some ⟨q++[Qe2 x.f l]++w.b++e,0,Qjl l w⟩:=by unfold Qgl;rw[LD,aI,ah];rfl
   obtain⟨bk,bi⟩:=ac.ext _ _ _ am ab aw;simp only[Qb,simprocAttr,aj,ak,Qeh];refine QlC (ac.go _ _ H' H7 _ b1 bk am ab ⟨_,rfl,?_⟩ (by have:=aK.next;have:=ar.next;have:=ad.next;omega) aw bi) ?_
   ·have e1:(q++[Qe2 x.f l]++w.b++e).length=q.length+1+w.b.length+e.length:=by simp only[Lh,Lo,L9]
    have e2:bys (q++[Qe2 x.f l]++w.b++e)=bys q++bys [Qe2 x.f l]++bys w.b++bys e:=by rw[Jg,Jg,Jg]
    show Gx 1 5 H' H7 _ (q++[Qe2 x.f l]++w.b++e).length (bys (q++[Qe2 x.f l]++w.b++e));rw[e1,e2];exact aG.down ai.next
   rintro _ H8 bS bV ⟨rfl,bm,b2⟩;simp only[Qb,simprocAttr,L8,aA,ei];refine⟨hd.length - (i+1),by omega,i+1,by omega,rfl,bm,(ad.trans (ac.ck am ab aw aL.w)).trans b2,?_,?_,?_,?_,?_,?_,?_,?_⟩
   all_goals simp only[Qg,simprocAttr,aj,r2,r4,ak,al,aY,az]
  ·have aa:i=hd.length:=by have:=Ll aa;omega
   subst aa;simp only[Qb,simprocAttr,QjC];have aM:=(aK.trans ar).trans ad;exact .mk aM.next ⟨by unfold Qgl;rw[Nn,aI];exact am,aM⟩
theorem Qx8 {base aP:Nat}{R:Nat->Qa->Prop}{l:List Ar}(aa:Cns base aP (Qgl x.f l e w) LdV R Own)(aA:base<=H.next)(aC:FOk x.f)(aq:x.At Hz)(ac:Qt Hz va l)(ad:Hz.Wf)(aJ:∀n,Hz.next<=n->Qi n 6 (.agg #[.int .i64 op,va])=true)(aj:l.length<=1000)(aF:x.f.slots.length=l.length)
  (aL:0<=w.x∧w.x<2) (aK:0<=w.h∧w.h<2) (aO:x.f.vex=true->(vxF x.f l w.x w.h).Ok) (ao:w.b.length<=1000) (aB:e.length<=2000)
  (av:PfF Hz Hs H x op va p1 p2 p3 p4 s tl w e) (aG:PfO (Own H) Hz p1 p2 p3 p4 s tl) (ax:R 0 H):
  Qe prog 252 [.func (.yield aP) #[] #[],.pointer (some ⟨p1,0,none⟩),.pointer (some ⟨p2,0,none⟩),.pointer (some ⟨p3,0,none⟩),.pointer (some ⟨p4,0,none⟩)] H λu H'=>R (Qgl x.f l e w).length H'∧CK Own H H':=by
 refine Qkv λal=>?_;obtain⟨bk,b6,g1,g2,g3,g4,aI,b3⟩:=id av;have au:x.cells.take 10=x.cells:=rfl;have bo:10<=x.cells.length:=Lb _;have bp:x.cells[5]? = some (.int .i64 x.f.code):=rfl;obtain⟨b7,sc,rfl⟩:=aI.slc;obtain⟨a0,cap,rfl⟩:=Qu ac;simp only[Qc9,Qb,simprocAttr,g1,g2,g3,Lw,au];refine⟨al.lt g3,?_⟩;refine(QjV H (ac.ext ad bk) aj aI ao).thenW ?_;rintro _ H2 bz am ⟨rfl,ar⟩;obtain⟨ay,aV⟩:=aa.ext _ _ _ ax al ar;have ah:=aa.ck ax al ar am;have aw:=av.ck aG ah;have aH:=aG.sub aV;obtain⟨bm,_,bq,br,aS,bw,b1,b4⟩:=id aw;simp only[Qb,simprocAttr,aS,bp,Lw,au];refine⟨ar.eqB,by simp[Qi,Ab.plain],bo,?_⟩;refine(Ww x 4 H2 (aq.ext ad bm)).thenW ?_;rintro _ _ bg an ⟨rfl,k,rfl⟩;have aM:Ext H2 (H2.up k):=(Ext.refl H2).up bg;obtain⟨ag,aW⟩:=aa.ext _ _ _ ay am aM;have ai:=aa.ck ay am aM an;have ae:=aw.ck aH ai;have ak:=aH.sub aW;obtain⟨bn,_,aR,bu,bv,bx,b2,b5⟩:=id ae;generalize H2.up k=H3 at *;have bd:=QpW x.f.slots 4;have ab:Qe2 x.f l=if 0<=Qp x.f.slots 4 then IntKind.u8.wrap (IntKind.u8.wrap x.f.code+IntKind.u8.wrap (Wj (l[(Qp x.f.slots 4).toNat]?.getD Q7).r)) else IntKind.u8.wrap x.f.code:=rfl
 simp only[Qb,simprocAttr];refine Qf (λh=>?_) (λh=>?_)
 ·have aT:0<=Qp x.f.slots 4:=Lg h;rw[Lc aT]at ab;obtain⟨j,bb⟩:∃j:Nat,Qp x.f.slots 4=j:=⟨(Qp x.f.slots 4).toNat,by omega⟩;rw[bb]at bd ab ⊢;obtain⟨c,az⟩:∃c,l[j]? = some c:=⟨_,La (by omega)⟩;have ba:l[(j:Int).toNat]?.getD Q7=c:=by rw[show(j:Int).toNat=j by omega,az];rfl
  rw[ba]at ab;obtain⟨b,e',ro,aQ,aD⟩:=(show 0<l.length->∃b e' ro,a0=some ⟨b,0,none⟩∧Hz.get b=some (.cells (Qh l) e' ro) by obtain⟨_,_,e0,aU⟩:=ac;cases e0;exact aU) (by omega);subst aQ;have aZ:H3.get b=some (.cells (Qh l) e' ro):=by rw[bn.get b (ad.lt aD)];exact aD
  have d1:(0:Int)<=j∧(j:Int)<l.length:=by omega
  have d3:(j:Int).toNat=j:=by omega
  have bi:=QeX az;have bc:j * 11+1+2<=(Qh l).length:=by rw[Qr];omega
  have q:=QcJ c.r;simp only[Rg.cells]at q;simp only[Qb,simprocAttr,aR,d1,d3,aZ,bi];refine⟨bc,?_⟩;refine(q H3).thenW ?_;rintro _ _ bh bj ⟨rfl,k4,rfl⟩;have aN:Ext H3 (H3.up k4):=(Ext.refl H3).up bh;obtain⟨aY,aX⟩:=aa.ext _ _ _ ag an aN;have aE:=aa.ck ag an aN bj;simp only[Qb,simprocAttr];refine QJv aa aA aC aq ac ad aJ aj aF aL aK aO ao aB (ae.ck ak aE) (ak.sub aX) aY ((ah.trans ai).trans aE) ?_ ?_ ?_ ?_ ?_ ?_ ?_
  all_goals simp only[Qg,simprocAttr]
  rw[ab]
 ·rw[Le (by have:=Ll h;omega)]at ab;simp only[Qb,simprocAttr];refine QJv aa aA aC aq ac ad aJ aj aF aL aK aO ao aB ae ak ag (ah.trans ai) ?_ ?_ ?_ ?_ ?_ ?_ ?_
  all_goals simp only[Qg,simprocAttr]
  rw[ab]
end
theorem Qnq:∀ (ss:List Value) (ws:List Ld) (i:Nat) (s:Value) (w:Ld),ss[i]? = some s->ws[i]? = some w->((ldC ss ws).drop (i * 3)).take 3=[s,.int .i64 w.x,.int .i64 w.h]
 | [],_,_,_,_,h,_=>by simp at h
 | _::_,[],_,_,_,_,h=>by simp at h
 | s::ss,w::ws,0,_,_,h1,h2=>by cases h1;cases h2;rfl
 | s::ss,w::ws,i+1,s',w',h1,h2=>by
  have e:ldC (s::ss) (w::ws)=[s,.int .i64 w.x,.int .i64 w.h]++ldC ss ws:=rfl;rw[e,show(i+1) * 3=3+i * 3 by omega,<- Rc];exact Qnq ss ws i s' w' h1 h2
structure QFY (base lb:Nat) (items:List Ld) (Hz:Qa) (x:Lf) (op:Int) (va:Value) (e:List Int) (R:Nat->Qa->Prop) (Own:Qa->Nat->Prop):Prop where
 ext:∀j H H',R j H->H.Wf->Ext H H'->R j H'∧∀id,Own H' id->Own H id
 low:∀j H id,R j H->Own H id->id<H.next
 go:∀j w H Hs p1 p2 p3 p4 s tl,items[j]? = some w->R j H->PfF Hz Hs H x op va p1 p2 p3 p4 s tl w e->PfO (Own H) Hz p1 p2 p3 p4 s tl->base<=H.next->YQ prog lb [.func (.func 252) #[] #[.pointer (some ⟨p1,0,none⟩),.pointer (some ⟨p2,0,none⟩),.pointer (some ⟨p3,0,none⟩),.pointer (some ⟨p4,0,none⟩)]] H λu H'=>u=.bool true∧R (j+1) H'∧CK Own H H'
theorem QFY.ck {base ag:Nat}{ae:List Ld}{Hz:Qa}{x:Lf}{op:Int}{va:Value}{e:List Int}{R:Nat->Qa->Prop}{Own:Qa->Nat->Prop}(h:QFY base ag ae Hz x op va e R Own){j:Nat}{H H':Qa}(ab:R j H)(ac:H.Wf)(aa:Ext H H')(ad:H'.Wf):CK Own H H':=
 ⟨aa.next,ad,λid q _=>aa.get id q,λid q=>.inl ((h.ext j H H' ab ac aa).2 id q)⟩
theorem Wa.keep2 {e:TypeId}{H0 H H':Qa}{v:Value}{ws:List Ld}(h:Wa e H0 H v ws)(q:H.Wf)(ae:∀id,H0.next<=id->id<H.next->H'.get id=H.get id):Wa e H0 H' v ws:=by
 obtain⟨ss,ag,aa,ab⟩:=h.it;exact⟨ss,ag,aa.ext λid hi=>ae id (aa.low q hi).1 (aa.low q hi).2,λj s w ac ad=>(ab j s w ac ad).ext λid hi=>ae id ((ab j s w ac ad).low q hi).1 ((ab j s w ac ad).low q hi).2⟩
theorem QFZ {base aM ae ag:Nat}{x:Lf}{op:Int}{va:Value}{l:List Ar}{Hz H:Qa}{R:Nat->Qa->Prop}{Own:Qa->Nat->Prop}(ac:QFY base aM (W2 x.f l) Hz x op va (Qaz x.f op l) R Own)(bQ:base<=H.next)(bj:x.At Hz)(b9:x.Fr 0)(aJ:Qt Hz va l)(az:Hz.Wf)(ca:∀n,Hz.next<=n->Qi n 6 (.agg #[.int .i64 op,va])=true)(ba:l.length<=1000)(b2:∀a∈l,I64 a.n)(bb:x.f.slots.length=l.length)(bY:(W2 x.f l).length<=1000)
  (aB:Ext Hz H) (bo:∀id,id<Hz.next->¬Own H id) (ak:H.get ae=some (.cells x.cells 45 false)) (al:H.get ag=some (.cells [.int .i64 op,va] 24 false)) (of:¬Own H ae) (bM:¬Own H ag) (aI:R 0 H):
  Qe prog 112 [.func (.yield aM) #[] #[],.pointer (some ⟨ae,0,none⟩),.pointer (some ⟨ag,0,none⟩)] H λu H'=>R (W2 x.f l).length H'∧CK Own H H':=by
 refine QpI λaj=>?_;have aF:x.cells.take 10=x.cells:=rfl;have aL:10<=x.cells.length:=Lb _;obtain⟨a0,cap,rfl⟩:=Qu aJ;simp only[Qg0,Qb,simprocAttr,ak,al,Lw,aF];refine⟨aL,?_⟩;refine(Quc H (bj.ext az aB) b9 (aJ.ext az aB) ba b2 bb).thenW ?_;rintro ch H2 bS bH ⟨bh,ar⟩;obtain⟨aD,aE,rfl⟩:=bh.slc;have bx:H2.get ae=some (.cells x.cells 45 false):=by rw[ar.get _ (aj.lt ak)];exact ak
 have bz:H2.get ag=some (.cells [.int .i64 op,.slice a0 l.length cap] 24 false):=by rw[ar.get _ (aj.lt al)];exact al
 have bn:=aB.trans ar;simp only[Qb,simprocAttr,bx,bz,Lw,aF];refine⟨aL,?_⟩;refine(Qrq H2 (bj.ext az bn) (aJ.ext az bn) ba bb).thenW ?_;rintro ci H3 bT aa ⟨ay,bk⟩;have au:=ar.trans bk;have aq:=bh.go bH bk;obtain⟨aW,an⟩:=ac.ext _ _ _ aI aj au;have aY:=ac.ck aI aj au aa;have ay:=ay.down ar.next;have aw:∀id,H.next<=id->¬Own H3 id:=λid aG ab=>by have:=ac.low _ _ _ aI (an _ ab);omega
 obtain⟨bq,bP,rfl⟩:=ay.slc;have aC:=aB.trans au;have aS:H3.get ae=some (.cells x.cells 45 false):=by rw[au.get _ (aj.lt ak)];exact ak
 have aU:H3.get ag=some (.cells [.int .i64 op,.slice a0 l.length cap] 24 false):=by rw[au.get _ (aj.lt al)];exact al
 generalize bZ:W2 x.f l=W at *;simp only[Qb,simprocAttr,QL];refine Qo (λm A' H'=>∃i:Nat,i<=W.length∧m=W.length - i∧R i H'∧CK Own H3 H'∧A' 0=.func (.yield aM) #[] #[]∧A' 1=.pointer (some ⟨ae,0,none⟩)∧A' 2=.pointer (some ⟨ag,0,none⟩)∧A' 4=.slice aD (Qaz x.f op l).length aE∧A' 12=.slice bq W.length bP∧A' 13=.int .i64 W.length∧A' 14=.int .i64 i) W.length ?_ ?_
 ·refine⟨0,L7 _,by omega,aW,ac.ck aW aa (.refl _) aa,?_,?_,?_,?_,?_,?_,?_⟩
  all_goals simp only[Qg,simprocAttr]
  all_goals rfl
 ·rintro m A' H' ⟨i,hi,rfl,av,ad,aN,r1,r2,r4,bp,aO,aP⟩;have ah:=ad.w;simp only[Qb,simprocAttr,aO,aP];refine Qf (λab=>?_) (λab=>?_)
  ·have ab:i<W.length:=by have:=Lg ab;omega
   obtain⟨ss,bF,bC,bB⟩:=ay.it;obtain⟨b,b8,rfl,aX⟩:∃b,H.next<=b∧bq=some ⟨b,0,none⟩∧H3.get b=some (.cells (ldC ss W) 120 false):=by
    rcases bC with⟨h,h',_⟩ | ⟨b,c,h,bN,bO,_⟩
    ·omega
    ·cases h;exact⟨b,bN,rfl,bO⟩
   have bA:H'.get b=some (.cells (ldC ss W) 120 false):=by rw[ad.keep _ (aa.lt aX) (aw _ b8)];exact aX
   obtain⟨sv,bg⟩:∃sv,ss[i]? = some sv:=⟨_,La (by omega)⟩;obtain⟨w,aK⟩:∃w,W[i]? = some w:=⟨_,La ab⟩;have ao:=bB i sv w bg aK;have bd:=ao.ext (H':=H') λid q=>ad.keep id (ao.low aa q).2 (aw _ (ao.low aa q).1);have bG:=aq.ext (H':=H') λid q=>ad.keep id (aq.low aa q).2 (aw _ (aq.low aa q).1);have b7:=Qnq ss W i sv w bg aK;have bR:(ldC ss W).length=W.length * 3:=by rw[QiA _ _ bF]
   have d1:(0:Int)<=i∧(i:Int)<W.length:=by omega
   have d3:(i:Int).toNat=i:=by omega
   have ei:IntKind.i64.wrap ((i:Int)+1)=((i+1:Nat):Int):=by rw[w64 (by unfold I64;omega)];omega
   have aT:H'.get ae=some (.cells x.cells 45 false):=by rw[ad.keep _ (aa.lt aS) (λh=>of (an _ h))];exact aS
   have aV:H'.get ag=some (.cells [.int .i64 op,.slice a0 l.length cap] 24 false):=by rw[ad.keep _ (aa.lt aU) (λh=>bM (an _ h))];exact aU
   obtain⟨aQ,aR,rfl⟩:=bd.slc;have cf:=ah.lt aT;have cg:=ah.lt aV;have bK:¬ae=H'.next:=by omega
   have bL:¬ag=H'.next:=by omega
   simp only[Qb,simprocAttr,aN,r1,r2,r4,bp,aO,aP,d1,d3,bA,b7,bK,bL,LN,aT,aV,Lw,aF];refine⟨by omega,aL,?_⟩;generalize aH:(H'.push _).set H'.next _=H5;have bm:Ext H' H5:=by rw[<- aH];exact((Ext.refl H').push _).set (Lb _) _
   have cc:H5.Wf:=by rw[<- aH];exact(ah.push _).set (b0:=.cells [.slice none 0 0,.int .i64 0,.int .i64 0] 120 false) (by rw[Qc,Lc rfl]) _
   clear aH;refine(Qo9 H5 rfl rfl).thenW ?_;rintro _ H6 bW bi ⟨rfl,bI,bV,br,bu,bv,bw⟩;have aA:=bm.trans bI;obtain⟨b5,b3⟩:=ac.ext _ _ _ av ah aA;have ai:=(ad.trans (ac.ck av ah aA bi));have ax:∀id,H'.next<=id->¬Own H6 id:=λid aG ab=>by have:=ac.low _ _ _ av (b3 _ ab);omega
   have bc:∀id,H.next<=id->id<H3.next->¬Own H6 id:=λid aG ab b1=>by
    rcases ai.own id b1 with am | am
    ·exact aw id aG am
    ·omega
   have bJ:Ext Hz H6:=⟨by have:=aC.next;have:=ai.next;omega,λid q=>by rw[ai.keep id (by have:=aC.next;omega) (λh=>bo id q (an _ h))];exact aC.get id q⟩;have b4:PfF Hz H H6 x op (.slice a0 l.length cap) (H5.next+1) (H5.next+2) H5.next (H5.next+3) (.slice aQ w.b.length aR) (.slice aD (Qaz x.f op l).length aE) w (Qaz x.f op l):=⟨bJ,bi,bu,bv,br,bw,bd.go ah aA,bG.go ah aA⟩;have bU:=bm.next;have bE:PfO (Own H6) Hz (H5.next+1) (H5.next+2) H5.next (H5.next+3) (.slice aQ w.b.length aR) (.slice aD (Qaz x.f op l).length aE):=
    ⟨λid q h=>by
     rcases ai.own id h with am | am
     ·exact bo id q (an _ am)
     ·have:=aC.next;omega,
    ax _ (by omega),ax _ (by omega),ax _ (by omega),ax _ (by omega),λid q=>bc id (ao.low aa q).1 (ao.low aa q).2,λid q=>bc id (aq.low aa q).1 (aq.low aa q).2⟩
   simp only[Qb,simprocAttr,aN,Qeh];refine QlC (ac.go i w H6 H _ _ _ _ _ _ aK b5 b4 bE (by have:=aY.next;have:=ai.next;omega)) ?_;rintro _ H7 bX ce ⟨rfl,b6,bD⟩;simp only[Qb,simprocAttr,L8,aP,ei];refine⟨W.length - (i+1),by omega,i+1,by omega,rfl,b6,ai.trans bD,?_,?_,?_,?_,?_,?_,?_⟩
   all_goals simp only[Qg,simprocAttr,aN,r1,r2,r4,bp,aO]
  ·have ab:i=W.length:=by have:=Ll ab;omega
   subst ab;simp only[Qb,simprocAttr,Qod];have aZ:=aY.trans ad;exact .mk aZ.next ⟨av,aZ⟩
theorem Gx.keepS {size:Nat}{e:TypeId}{H0 H H':Qa}{v:Value}{n:Nat}{cs:List Value}(h:Gx size e H0 H v n cs)(ac:∀id,H.get id≠none->H'.get id=H.get id):Gx size e H0 H' v n cs:=by
 rcases h with h | ⟨b,c,rfl,aa,q,ab⟩
 ·exact .inl h
 ·exact .inr ⟨b,c,rfl,aa,by rw[ac b (by rw[q];simp)];exact q,ab⟩
theorem Wa.keepS {e:TypeId}{H0 H H':Qa}{v:Value}{ws:List Ld}(h:Wa e H0 H v ws)(q:∀id,H.get id≠none->H'.get id=H.get id):Wa e H0 H' v ws:=by
 obtain⟨ss,aa,ab,ac⟩:=h.it;exact⟨ss,aa,ab.keepS q,λj s w ad ae=>(ac j s w ad ae).keepS q⟩
theorem Gx.keep2 {size:Nat}{e:TypeId}{H0 H H':Qa}{v:Value}{n:Nat}{cs:List Value}(h:Gx size e H0 H v n cs)(q:H.Wf)(aa:∀id,H0.next<=id->id<H.next->H'.get id=H.get id):Gx size e H0 H' v n cs:=h.ext λid hi=>aa id (h.low q hi).1 (h.low q hi).2
theorem QuZ {H1 H2:Qa}(ab:H1.Wf)(ac:Ext H1 H2)(l:Nat)(id:Nat)(aa:(H1.kill l).get id≠none):(H2.kill l).get id=(H1.kill l).get id:=by
 rw[WV]at aa;rw[WV,WV]
 by_cases q:id=l
 ·rw[Lc q,Lc q]
 ·rw[Le q]at aa;rw[Le q,Le q];refine ac.get id ?_;rcases Nq id H1.next with h | h
  ·exact h
  ·exact absurd (ab id h) aa
def QHZ:PC:=.ops [Ow 8 (.alloc 41 [.slice none 0 0,.int .i64 0,.int .i64 0]),Ov (.st 3 (t 8) (t 18))]
def QH0:PC:=.block 3 (.ops [Ow 19 (.ld false 1 (t 6)),Ow 20 (.ld true 3 (t 8)),Ow 21 (.bslice 41 3 1 [.slice none 0 0,.int .i64 0,.int .i64 0] [(0,(t 20))]),Ow 22 (.app 41 3 40 (t 19) (t 21)),Ov (.st 1 (t 6) (t 22))])
def lyR (Hb:Qa)(c m lB:Nat)(eC:TypeId)(bl:Blk)(W:List Ld)(j:Nat)(H':Qa):Prop:=
 H'.get lB=some bl∧lB<H'.next∧Hb.next<=H'.next∧(∀id,id<Hb.next->id≠c->id≠m->H'.get id=Hb.get id)∧∃v,H'.get c=some (.cells [v] eC false)∧LsU 41 Hb (H'.kill lB) v (W.take j) H'.next∧∀id,inB v id->id<H'.next∧Hb.next<=id∧id≠lB
section
variable {Hb:Qa} {c m lB:Nat} {eC:TypeId} {bl:Blk} {W:List Ld}
theorem QBc (am:c<Hb.next){j:Nat}{H1 H2:Qa}(h:lyR Hb c m lB eC bl W j H1)(aj:H1.Wf)(q:Ext H1 H2):lyR Hb c m lB eC bl W j H2∧∀id,clO c lB eC H2 id->clO c lB eC H1 id:=by
 obtain⟨ab,ah,al,ac,v,ad,ae,ag⟩:=h;have ai:=q.next;have aa:=q.get c (by omega);refine⟨⟨by rw[q.get lB ah];exact ab,by omega,by omega,λid a b d=>by rw[q.get id (by omega)];exact ac id a b d,v,by rw[aa];exact ad,(ae.of λg=>g.keepS (QuZ aj q lB)).mono ai,λid hi=>?_⟩,λid hi=>?_⟩
 ·have:=ag id hi;exact⟨by omega,this.2⟩
 ·rcases hi with h | h | ⟨ak,h,hi⟩
  ·exact .inl h
  ·exact .inr (.inl h)
  ·exact .inr (.inr ⟨ak,by rw[<- aa];exact h,hi⟩)
theorem QBd (ag:c<Hb.next){j:Nat}{H1:Qa}(h:lyR Hb c m lB eC bl W j H1){id:Nat}(hi:clO c lB eC H1 id):id<H1.next:=by
 obtain⟨ab,ah,ac,ad,v,q,ae,aa⟩:=h;rcases hi with rfl | rfl | ⟨ai,h,hi⟩
 ·omega
 ·omega
 ·rw[q]at h;cases h;exact(aa id hi).1
theorem QH1 {L:Option Code->Blk}{A:Env}(aq:c<Hb.next)(ar:c≠lB)(aT:m=lB∨Hb.next<=lB)(bn:W.length<=1000)(aN:YR prog L [18] QHZ QH0 A)(aE:A 6=.pointer (some ⟨c,0,none⟩)){aa base:Nat}{aC:List Ld}(hb:Hb.next<=base)(au:lB<base)(aQ:∀ (i:Nat) w,aC[i]? = some w->W[aa+i]? = some w):
  Cns base lB aC LdV (λi=>lyR Hb c m lB eC (L none) W (aa+i)) (clO c lB eC):=by
 refine⟨λj Ha Hc h aZ ba=>QBc aq h aZ ba,λj Ha id h hi=>QBd aq h hi,?_⟩;rintro j w H0' H1' b2 aR aL aM aX ⟨s,rfl,av⟩ bo ax bm ak;obtain⟨aH,br,aI,aJ,v,ag,_,az⟩:=aL;have ai:LsU 41 Hb (H1'.kill lB) v (W.take (aa+j)) H0'.next:=by
  obtain⟨_,_,aI,_,bj,aK,ai,_⟩:=aM;rw[ax.get c (by omega),aK]at ag;cases ag;exact ai.of λg=>g.keepS (QuZ aX ax lB)
 refine aN lB _ H1' _ aH rfl ?_ ak;have aA:=aQ j w aR;have bq:=(Lk.1 aA).1;have al:∀id,id≠lB->(H1'.kill lB).get id=H1'.get id:=λid ac=>by rw[WV,Le ac]
 have bd:(H1'.kill lB).get lB=none:=by rw[WV,Lc rfl]
 have bw:(H1'.kill lB).next=H1'.next:=rfl;have aw:(H1'.kill lB).Wf:=ak.kill _;have k5:=(al c ar).trans ag;have ks:Gx 1 5 Hb (H1'.kill lB) s w.b.length (bys w.b):=(av.down (H0:=Hb) (by omega)).ext λid ac=>al id (by have:=av.low ak ac;omega);have k3:∀id,id<Hb.next->id≠c->id≠m->id≠lB->(H1'.kill lB).get id=Hb.get id:=λid a b d e=>(al id e).trans (aJ id a b d);generalize bk:H1'.kill lB=Hk at *;obtain⟨a,an,rfl⟩:=ks.slc;obtain⟨am,ao,rfl⟩:=ai.ls.slc;have bg:¬c=Hk.next:=by omega
 simp only[QHZ,QH0,QmQ,QpA,Qb,simprocAttr,bg,LN,k5,aE];generalize ah:Qa.push (Qa.set (Qa.push Hk _) _ _) _=H5;have ad:Ext Hk H5:=by rw[<- ah];exact(((Ext.refl Hk).push _).set (Lb _) _).push _
 have aY:H5.Wf:=by rw[<- ah];exact((aw.push _).set (b0:=.cells [.slice none 0 0,.int .i64 0,.int .i64 0] 41 false) (by rw[Qc,Lc rfl]) _).push _
 have aG:H5.get (Hk.next+1)=some (.cells [.slice a w.b.length an,.int .i64 w.x,.int .i64 w.h] 41 false):=by rw[<- ah,Qc,Lc (by rw[Qv,Qd])]
 have bv:H5.next=Hk.next+2:=by rw[<- ah,Qd,Qv,Qd]
 clear ah;have aU:Zt 3 (.slice (some ⟨Hk.next+1,0,none⟩) 1 1) H5=some (1,[.slice a w.b.length an,.int .i64 w.x,.int .i64 w.h]):=by
  rw[Y5 aG (by decide) (by simp)];rfl
 have bu:(W.take (aa+j)).length<=1000:=by rw[Sb];omega
 obtain⟨Hz,aB,bz⟩:∃Hz:Qa,Ext Hz H5∧Hz.next=Hb.next:=⟨⟨Hb.next,H5.tr⟩,⟨by show Hb.next<=H5.next;omega,λid _=>rfl⟩,rfl⟩;have aS:LsU 41 Hz H5 (.slice am (W.take (aa+j)).length ao) (W.take (aa+j)) H0'.next:=(ai.go aw ad).down (by omega);have aV:Gx 1 5 Hz H5 (.slice a w.b.length an) w.b.length (bys w.b):=(ks.go aw ad).down (by omega);refine QA8 (by decide) aS (U':=Hk.next) (by have:=ax.next;omega) (λa aO=>by have:=av.low ak aO;omega) aB aY aV aU (by omega) (by omega) ?_;intro bj H6 aj ab;obtain⟨aF,c',rfl⟩:=aj.ls.slc;have aW:W.take (aa+(j+1))=W.take (aa+j)++[w]:=by rw[<- Rh,Nv,aA];rfl
 rw[<- aW]at aj ab ⊢;have ay:∀id,id<Hb.next->H6.get id=H5.get id:=λid ac=>(ab.x.get id (by omega)).trans (aB.get id (by omega)).symm;have bb:H6.get c=some (.cells [.slice am (W.take (aa+j)).length ao] eC false):=by rw[ay _ aq,ad.get _ (by omega)];exact k5
 have bx:=ab.next;have bc:H6.get lB=none:=by
  rw[ab.keep lB (by omega) (λh=>(az lB h).2.2 rfl),ad.get _ (by omega)];exact bd
 simp only[Qb,simprocAttr,QmP,aE,bb];refine⟨by omega,⟨by rw[Qn,Lc rfl],by rw[Qv,Qv];omega,by rw[Qv,Qv];omega,λid p q r=>?_,.slice aF (W.take (aa+(j+1))).length c',?_,?_,λid hi=>?_⟩,⟨by rw[Qv,Qv];omega,?_,λid p q=>?_,λid hi=>?_⟩⟩
 ·have au:id≠lB:=by rcases aT with h | h;rw[<- h];exact r;omega
  rw[Qn,Le au,Qn,Le q,ay _ p,ad.get _ (by omega)];exact k3 id p q r au
 ·rw[Qn,Le ar,Qn,Lc rfl]
 ·refine((aj.down (H0:=Hb) (by omega)).of λg=>g.keep2 ab.w λid ac bp=>?_).mono (by rw[Qv,Qv];have:=ad.next;omega);rw[WV]
  by_cases ae:id=lB
  ·rw[Lc ae,ae,bc]
  ·rw[Le ae,Qn,Le ae,Qn,Le (by omega)]
 ·obtain⟨ss,_,aP,_⟩:=aj.it;have:=aP.low ab.w hi;rw[Qv,Qv];refine⟨this.2,by omega,λae=>?_⟩;rcases ab.new id hi with h | h
  ·exact(az id h).2.2 ae
  ·omega
 ·intro id ac;rw[Qv,Qv]at ac;rw[Qn,Le (by omega),Qn,Le (by omega)];exact ab.w id ac
 ·have bh:id≠c:=λh=>q (.inl h);have aD:id≠lB:=λh=>q (.inr (.inl h));have bi:¬inB (.slice am (W.take (aa+j)).length ao) id:=λh=>q (.inr (.inr ⟨_,ag,h⟩));rw[Qn,Le aD,Qn,Le bh,ab.keep id (by omega) bi,ad.get _ (by omega),al id aD]
 ·rcases hi with h | h | ⟨b1,h,hi⟩
  ·exact .inl (.inl h)
  ·exact .inl (.inr (.inl h))
  ·rw[Qn,Le ar,Qn,Lc rfl]at h;cases h;rcases ab.new id hi with h | h
   ·exact .inl (.inr (.inr ⟨_,ag,h⟩))
   ·exact .inr (by omega)
end
def QJz:PC:=.ops [Om 7 (t 16)]
def QJA:PC:=.block 1 (.seq (.ops [Om 17 (t 7)]) (.block 2 (.rangeF (t 17) [18] QHZ QH0)))
def Qya (f:Ld->List Ld)(P:List Ld)(j:Nat):Nat:=((P.take j).flatMap f).length
theorem QH2 {f:Ld->List Ld}{P:List Ld}{j:Nat}{w:Ld}(h:P[j]? = some w):Qya f P (j+1)=Qya f P j+(f w).length∧∀ (i:Nat) y,(f w)[i]? = some y->(P.flatMap f)[Qya f P j+i]? = some y:=by
 have q:P.take (j+1)=P.take j++[w]:=by rw[Nv,h];rfl
 refine⟨by unfold Qya;rw[q,Bm,Lh];simp,λi y aa=>?_⟩;have ac:=(Lk.1 h).1;have ab:P.flatMap f=(P.take j).flatMap f++(f w++(P.drop (j+1)).flatMap f):=by
  conv=>lhs;rw[<- NW (j+1) P]
  rw[Bm,q,Bm];simp
 have hi:=(Lk.1 aa).1;rw[ab];unfold Qya;rw[LR (Ro _ _),NL,LY hi];exact aa
section
variable {Hb:Qa} {c m:Nat} {eC:TypeId}
theorem QH3 {L:Option Code->Blk}{A:Env}{x:Lf}{op:Int}{va:Value}{l:List Ar}{e:List Int}{Hz:Qa}{P:List Ld}(am:c<Hb.next)(bA:m<Hb.next)(ai:c≠m)(aS:(P.flatMap (Qgl x.f l e)).length<=1000)(aT:YR prog L [16] QJz QJA A)(b6:A 6=.pointer (some ⟨c,0,none⟩))
  (ba:FOk x.f) (an:x.At Hz) (aV:Qt Hz va l) (bx:Hz.Wf) (bk:∀n,Hz.next<=n->Qi n 6 (.agg #[.int .i64 op,va])=true) (bc:l.length<=1000) (bh:x.f.slots.length=l.length) (aZ:e.length<=2000)
  (aQ:∀w∈P,(0<=w.x∧w.x<2)∧(0<=w.h∧w.h<2)∧(x.f.vex=true->(vxF x.f l w.x w.h).Ok)∧w.b.length<=1000):
  QFY Hb.next m P Hz x op va e (λj=>lyR Hb c m m eC (L none) (P.flatMap (Qgl x.f l e)) (Qya (Qgl x.f l e) P j)) (clO c m eC):=by
 refine⟨λj Ha Hc h bo an=>QBc am h bo an,λj Ha id h hi=>QBd am h hi,?_⟩;rintro j w H Hs aq ar au av s aF aB aR aa ab b8;obtain⟨ak,b9,aL,aM,v,al,aN,az⟩:=id aR;intro bm;refine aT m _ H _ ak rfl ?_ bm;have b2:clO c m eC H m:=.inr (.inl rfl);have bz:∀id,id≠m->(H.kill m).get id=H.get id:=λid ac=>by rw[WV,Le ac]
 have b1:(H.kill m).get m=none:=by rw[WV,Lc rfl]
 have bj:(H.kill m).next=H.next:=rfl;have aC:(H.kill m).Wf:=aa.wf.kill _;generalize H.kill m=Hk at *;simp only[QJz,QJA,QmQ,QpA,JL,simprocAttr,Qg,simprocAttr,QhZ];rw[Qsm 252 [] [.pointer (some ⟨aq,0,none⟩),.pointer (some ⟨ar,0,none⟩),.pointer (some ⟨au,0,none⟩),.pointer (some ⟨av,0,none⟩)]];intro L2 aU;refine⟨by kernel_rfl,?_⟩;have ao:Ext Hk (Hk.push (L2 none)):=(Ext.refl Hk).push _;have bD:(Hk.push (L2 none)).next=H.next+1:=by rw[Qd,bj]
 have aJ:(Hk.push (L2 none)).get Hk.next=some (L2 none):=by rw[Qc,Lc rfl]
 have br:=aC.push (L2 none);generalize Hk.push (L2 none)=Hi at *;have ad:∀id,id≠m->id<H.next->Hi.get id=H.get id:=λid ak aL=>by rw[ao.get id (by omega),bz id ak]
 have ah:Hi.get c=some (.cells [v] eC false):=by rw[ad c ai (by omega)];exact al
 have ae:∀id,id<H.next->¬clO c m eC H id->¬clO c Hk.next eC Hi id:=λid aD ax aE=>by
  rcases aE with q | q | ⟨aG,q,aw⟩
  ·exact ax (.inl q)
  ·omega
  ·rw[ah]at q;cases q;exact ax (.inr (.inr ⟨_,al,aw⟩))
 have ne:∀ {id},¬clO c m eC H id->id≠m:=λq h=>q (h▸b2);have aO:PfF Hz Hs Hi x op va aq ar au av s aF w e:=
  ⟨⟨by have:=aa.z.next;omega,λid ac=>by rw[ad id (ne (ab.z id ac)) (by have:=aa.z.next;omega)];exact aa.z.get id ac⟩,br,by rw[ad _ (ne ab.o1) (aa.wf.lt aa.g1)];exact aa.g1,by rw[ad _ (ne ab.o2) (aa.wf.lt aa.g2)];exact aa.g2,by rw[ad _ (ne ab.o3) (aa.wf.lt aa.g3)];exact aa.g3,by rw[ad _ (ne ab.o4) (aa.wf.lt aa.g4)];exact aa.g4,
   aa.s.ext λid hi=>ad id (ne (ab.s id hi)) (aa.s.low aa.wf hi).2,aa.t.ext λid hi=>ad id (ne (ab.t id hi)) (aa.t.low aa.wf hi).2⟩
 have aP:PfO (clO c Hk.next eC Hi) Hz aq ar au av s aF:=⟨λid q=>ae id (by have:=aa.z.next;omega) (ab.z id q),ae _ (aa.wf.lt aa.g1) ab.o1,ae _ (aa.wf.lt aa.g2) ab.o2,ae _ (aa.wf.lt aa.g3) ab.o3,ae _ (aa.wf.lt aa.g4) ab.o4,λid q=>ae id (aa.s.low aa.wf q).2 (ab.s id q),λid q=>ae id (aa.t.low aa.wf q).2 (ab.t id q)⟩;obtain⟨aW,aX⟩:=QH2 (f:=Qgl x.f l e) aB;obtain⟨bw,bq,bv,bu⟩:=aQ w (Ln aB);generalize b7:P.flatMap (Qgl x.f l e)=W at *;have aY:=QH1 (Hb:=Hb) (c:=c) (m:=m) (lB:=Hk.next) (eC:=eC) (W:=W) (base:=Hi.next) am (by omega) (.inr (by omega)) aS aU (by simp only[Qg,simprocAttr,b6]) (by omega) (by omega) aX;refine(Qx8 aY (Lb _) ba an aV bx bk bc bh bw bq bv bu aZ aO aP ?_).thenW ?_
 ·refine⟨aJ,by omega,by omega,λid a b d=>by rw[ad id d (by omega)];exact aM id a b d,v,ah,(aN.of λg=>g.keepS λid ac=>?_).mono (by omega),λid hi=>?_⟩
  ·have bd:id<Hk.next:=Nat.lt_of_not_le λh=>ac (aC id h);rw[WV,Le (by omega)];exact ao.get id bd
  ·have:=az id hi;exact⟨by omega,this.2.1,by omega⟩
 ·rintro u H2 bB bn ⟨aA,aj⟩;rw[<- aW]at aA;obtain⟨aD,ax,aE,b3,aG,ay,b4,b5⟩:=id aA;refine⟨none,aD,?_⟩;have bg:H2.get m=none:=by
   rw[aj.keep m (by omega) ?_,ao.get m (by omega)]
   ·exact b1
   ·rintro(h | h | ⟨aH,h,h'⟩)
    ·exact ai h.symm
    ·omega
    ·rw[ah]at h;cases h;have:=az m h';omega
  have ag:∀id,id≠m->id≠Hk.next->((H2.kill Hk.next).set m (L none)).get id=H2.get id:=λid a b=>by rw[Qn,Le a,WV,Le b]
  have bi:((H2.kill Hk.next).set m (L none)).next=H2.next:=rfl;have aK:((H2.kill Hk.next).set m (L none)).get m=some (L none):=by rw[Qn,Lc rfl]
  have bp:((H2.kill Hk.next).set m (L none)).Wf:=λid ac=>by
   rw[bi]at ac;rw[ag id (by omega) (by omega)];exact bn id ac
  have bb:∀id,id≠m->id≠Hk.next->(((H2.kill Hk.next).set m (L none)).kill m).get id=H2.get id:=λid a b=>by rw[WV,Le a];exact ag id a b
  simp only[Qb,simprocAttr,Qpz,QmP];generalize (H2.kill Hk.next).set m (L none)=Hf at *;have bC:=aj.next;refine⟨by show H.next<=H2.next;omega,⟨aK,by omega,by omega,λid a b d=>by rw[ag id d (by omega)];exact b3 id a b d,aG,by rw[ag c ai (by omega)];exact ay,(b4.of λg=>g.keepS λid ac=>?_).mono (by omega),λid hi=>?_⟩,⟨by omega,bp,λid a b=>?_,λid a=>?_⟩⟩
  ·rw[WV]at ac;split at ac
   ·exact absurd rfl ac
   ·rename_i q;have aw:id≠m:=λh=>ac (h▸bg);rw[bb id aw q,WV,Le q]
  ·have:=b5 id hi;exact⟨by omega,this.2.1,by omega⟩
  ·rw[ag id (ne b) (by omega),aj.keep id (by omega) (ae id a b),ad id (ne b) a]
  ·rcases a with a | a | ⟨aH,a,aI⟩
   ·exact .inl (.inl a)
   ·exact .inl (.inr (.inl a))
   ·rw[ag c ai (by omega),ay]at a;cases a;rcases aj.own id (.inr (.inr ⟨_,ay,aI⟩)) with h | h
    ·rcases h with h | h | ⟨aH,h,h'⟩
     ·exact .inl (.inl h)
     ·exact .inr (by omega)
     ·rw[ah]at h;cases h;exact .inl (.inr (.inr ⟨_,al,h'⟩))
    ·exact .inr (by omega)
end
theorem QaA {f:Fm}{op:Int}{l:List Ar}(h:QcO f op l=true):f.op=op∧f.shapes.length=l.length∧Qec f=0∧QO op l=0∧∀i,i<l.length->Qdq (QW op l) (l.getD i Q7) (f.shapes.getD i 0)=true:=by
 unfold QcO at h;simp only[Lm,L0,Li,LU]at h;exact⟨h.1.1.1.1,h.1.1.1.2,h.1.1.2,h.1.2,h.2⟩
theorem Qyb (x:Int):∀ (l:List Int) (k:Nat),0<=QdO l x k->(k:Int)<=QdO l x k∧l.getD ((QdO l x k).toNat - k) 0=x
 | [],k,h=>by simp[QdO]at h
 | y::l,k,h=>by
  unfold QdO at h ⊢;split
  ·rename_i e;exact⟨B0 _,by simp[e]⟩
  ·rename_i e;rw[Le e]at h;obtain⟨aa,q⟩:=Qyb x l (k+1) h;refine⟨by omega,?_⟩;have e2:(QdO l x (k+1)).toNat - k=((QdO l x (k+1)).toNat - (k+1))+1:=by omega
   rw[e2,List.getD_cons_succ];exact q
theorem QF1 {l:List Int}{x:Int}(h:0<=Qp l x):l.getD (Qp l x).toNat 0=x:=(Qyb x l 0 h).2
theorem Qtd:∀ {l:List Ar},QbR l=0->∀a∈l,Wk a=0
 | [],_,_,h=>by cases h
 | a::l,h,b,hb=>by
  unfold QbR at h;split at h
  ·rename_i q;rcases LK.1 hb with rfl | hb
   ·simpa using q
   ·exact Qtd h b hb
  ·rename_i q;simp[h]at q
theorem Qq0 {op:Int}{l:List Ar}(h:QO op l=0):QbR l=0∧l.length<=4:=by
 unfold QO at h;split at h
 ·simp at h
 ·split at h
  ·simp at h
  ·split at h
   ·rename_i q;simp[h]at q
   ·rename_i ab ac aa;exact⟨by simpa using aa,by omega⟩
theorem QD1 {r:Rg}(h:XG r=true):0<=r.n∧r.n<16:=by
 unfold XG Qjz at h;simp only[Lv]at h;split at h
 ·simp only at h;omega
 ·split at h
  ·simp only at h;omega
  ·split at h<;>simp only at h<;>omega
theorem QD2 {f:Fm}{op:Int}{l:List Ar}(h:QcO f op l=true){s:Int}(av:s=1∨s=3∨s=4∨s=7)(ai:0<=Qp f.slots s):∃a,l[(Qp f.slots s).toNat]? = some a∧a.k=1∧(1<=a.r.c∧a.r.c<=7)∧XG a.r=true:=by
 obtain⟨_,ar,ah,aj,ak⟩:=QaA h;have aw:=Qiz ah;have an:=QpW f.slots s;obtain⟨j,am⟩:∃j:Nat,Qp f.slots s=j:=⟨(Qp f.slots s).toNat,by omega⟩;have ae:=QF1 ai;rw[am]at ae an ⊢;have e1:(j:Int).toNat=j:=by omega
 rw[e1]at ae ⊢;obtain⟨a,ac⟩:∃a,l[j]? = some a:=⟨_,La (by omega)⟩;refine⟨a,ac,?_⟩;have ag:Qjk f=true:=QrL ah 3 (by omega);unfold Qjk at ag;rw[Lm]at ag;have aa:Qf5 (f.shapes.getD j 0) (f.slots.getD j 0)=true:=Li.1 ag.2 j (LU.2 (by omega));rw[ae]at aa;have au:1<=f.shapes.getD j 0∧f.shapes.getD j 0<=6:=by
  unfold Qf5 at aa;rw[Le (by omega),Le (by omega),Lc (by omega)]at aa;simpa using aa
 have q:=ak j (by omega);unfold Qdq at q;rw[Lm]at q;have al:l.getD j Q7=a:=by simp[LX,ac]
 rw[al]at q;have ad:a.k=1∧(1<=a.r.c∧a.r.c<=7):=by
  have e:(Qub (QW op l) a).a=a:=by unfold Qub;split<;>rfl
  obtain⟨n,ao⟩:∃n:Nat,(f.shapes.getD j 0).toNat=n:=⟨_,rfl⟩;have q:=q.2;rw[ao]at q;have:n=1∨n=2∨n=3∨n=4∨n=5∨n=6:=by omega
  rcases this with rfl | rfl | rfl | rfl | rfl | rfl
  all_goals
   simp only[ZR,W4,e,Nw,Lm,L0]at q;omega
 have ab:=Qtd (Qq0 aj).1 a (Ln ac);unfold Wk at ab;rw[Lc (by simp[ad.1])]at ab;refine⟨ad.1,ad.2,?_⟩;cases aq:XG a.r with
 | true=>rfl
 | false=>rw[aq]at ab;simp at ab
theorem QD3 {f:Fm}{op:Int}{l:List Ar}(h:QcO f op l=true){s:Int}(ae:s=1∨s=3∨s=4∨s=7)(q:0<=Qp f.slots s):∃a,l[(Qp f.slots s).toNat]? = some a∧a.k=1∧(1<=a.r.c∧a.r.c<=7)∧0<=a.r.n∧a.r.n<16:=by
 obtain⟨a,aa,ab,ac,ad⟩:=QD2 h ae q;exact⟨a,aa,ab,ac,QD1 ad⟩
theorem QGZ {f:Fm}{op:Int}{l:List Ar}(h:QcO f op l=true)(ah:f.vex=true){a b:Int}(ac:0<=a∧a<2)(hb:0<=b∧b<2):(vxF f l a b).Ok:=by
 obtain⟨_,ai,ab,aj,ak⟩:=QaA h;have q:=Qv4 ab;obtain⟨am,ag,ao,al⟩:=q.vx ah;have an:=q.map;refine⟨Qo1 _ _ _,ac,?_,?_,?_,?_,?_,ag⟩
 ·show 0<=hB f l b∧hB f l b<2;unfold hB;split
  ·exact Qo1 _ _ _
  ·exact hb
 ·show 1<=f.map∧f.map<4;omega
 ·show 0<=Qv3 f.w∧Qv3 f.w<2;unfold Qv3;split<;>omega
 ·show 0<=Qo0 f l 3∧Qo0 f l 3<16;unfold Qo0;split
  ·rename_i aa;obtain⟨c,ad,_,_,ae⟩:=QD3 h (.inr (.inl rfl)) aa;rw[ad];exact ae
  ·omega
 ·show 0<=f.l∧f.l<2;omega
theorem Qu0 (d:Int):(Ku d 4).1.length<=8:=QkG _ _ (by decide)
def QD4 (w:Ld):Prop:=(0<=w.x∧w.x<2)∧(0<=w.h∧w.h<2)∧w.b.length<=100
theorem z02:(0:Int)<=0∧(0:Int)<2:=by decide
theorem Qyc (mid:Int)(q:Rg)(f d:Int):QD4 (Qa6 mid q f d):=by
 have:=Qu0 d;refine⟨Qih _,z02,?_⟩;unfold Qa6;simp only[Lh,Lo,L9];omega
theorem Qp8 (mid rm:Int)(sib:List Int)(ab:sib.length<=8)(m:Mm):∀w∈YY mid rm sib m,QD4 w:=by
 intro w q;unfold YY at q;obtain⟨aa,_,h⟩:=NF.1 q;unfold Zx at h;split at h
 ·have:=QxO aa m;rw[Sa]at h;subst h;refine⟨Qih _,Qih _,?_⟩;simp only[Lh,Lo,L9];omega
 ·cases h
theorem QF2 (mid:Int)(m:Mm):∀w∈QdZ mid m,QD4 w:=by
 intro w q;unfold QdZ at q;split at q
 ·rw[Sa]at q;subst q;have:=Qu0 m.d;refine⟨z02,z02,?_⟩;simp only[Lh,Lo,L9];omega
 ·split at q
  ·rw[Sa]at q;subst q;exact Qyc _ _ _ _
  ·split at q
   ·exact Qp8 _ _ _ (by simp) _ w q
   ·rcases LI.1 q with q | q
    ·split at q
     ·cases q
     ·exact Qp8 _ _ _ (by simp) _ w q
    ·rcases LI.1 q with q | q
     ·exact Qp8 _ _ _ (by simp) _ w q
     ·split at q
      ·cases q
      ·rw[Sa]at q;subst q;exact Qyc _ _ _ _
theorem QF3 (mid:Int)(a:Ar):(QcM mid a).1.length<=8∧∀w∈(QcM mid a).1,QD4 w:=by
 unfold QcM;split
 ·simp
 ·split
  ·simp
  ·split
   ·refine⟨by simp,λw q=>?_⟩;rw[Sa]at q;subst q;exact⟨z02,Qih _,by simp⟩
   ·split
    ·exact⟨Qs2 _ _,QF2 _ _⟩
    ·simp
theorem QlE (f:Fm)(l:List Ar):(W2 f l).length<=8∧∀w∈W2 f l,QD4 w:=by
 unfold W2;split
 ·refine⟨by simp,λw q=>?_⟩;rw[Sa]at q;subst q;exact⟨z02,z02,by simp⟩
 ·split
  ·exact QF3 _ _
  ·simp
theorem VJ {α β:Type}{f:α->List β}{n:Nat}:∀ (l:List α),(∀a∈l,(f a).length<=n)->(l.flatMap f).length<=l.length * n
 | [],_=>by simp
 | a::l,h=>by
  have q:=h a (Ny ..);have aa:=VJ l λb hb=>h b (NA _ hb);rw[Ba,Lh,Lo,Ry];omega
def Qle (f:Fm)(op:Int)(l:List Ar):List Ld:=if QcO f op l=true then(W2 f l).flatMap (Qgl f l (Qaz f op l)) else[]
theorem QlF (f:Fm)(op:Int)(l:List Ar):(Qle f op l).length<=24:=by
 unfold Qle;split
 ·have q:=(QlE f l).1;have aa:=VJ (f:=Qgl f l (Qaz f op l)) (n:=3) (W2 f l) λw _=>by unfold Qgl;rw[Nn];exact(QuY _ _ _ _).1
  omega
 ·simp
theorem QD5 (f:Fm)(op:Int)(l:List Ar):(Qaz f op l).length<=2000:=by
 unfold Qaz;have:=QBb (Qo4 f op l) (tlN f);rw[Lh];split<;>split<;>simp<;>omega
theorem Qwf {x:Lf}{op:Int}{va:Value}{l:List Ar}(H:Qa)(an:x.At H)(aB:x.Fr 0)(ak:Qt H va l)(aH:∀n,H.next<=n->Qi n 6 (.agg #[.int .i64 op,va])=true)(al:l.length<=1000)(aA:∀a∈l,I64 a.n):
  Qe prog 50 [.agg x.cells.toArray,.agg #[.int .i64 op,va]] H λu H'=>∃v,u=.tuple #[v,.bool (decide (0<(Qle x.f op l).length))]∧LsU 41 H H' v (Qle x.f op l) H'.next∧Ext H H':=by
 refine QtR λac=>?_;have aM:(Value.agg x.cells.toArray).cells.toList=x.cells:=rfl;have ar:x.cells.take 10=x.cells:=rfl;have aK:10<=x.cells.length:=Lb _;obtain⟨W,aa⟩:∃W,W=Qle x.f op l:=⟨_,rfl⟩;have bp:W.length<=24:=by rw[aa];exact QlF _ _ _
 rw[<- aa];unfold Qle at aa;obtain⟨a0,cap,rfl⟩:=Qu ak;simp only[Qmh,aM,JL,simprocAttr];generalize ae:Qa.push H (.cells x.cells 45 false)=H1;have g1:H1.get H.next=some (.cells x.cells 45 false):=by rw[<- ae,Qc,Lc rfl]
 have bd:Ext H H1:=by rw[<- ae];exact(Ext.refl H).push _
 have aD:H1.next=H.next+1:=by rw[<- ae];rfl
 have ba:H1.Wf:=by rw[<- ae];exact ac.push _
 clear ae;simp only[Qb,simprocAttr,aD];generalize ad:Qa.push H1 _=H2;have ao:Ext H H2:=by rw[<- ad];exact(bd.push _)
 have b2:H2.Wf:=by rw[<- ad];exact(ba.push _)
 have au:H2.get H.next=some (.cells x.cells 45 false):=by rw[<- ad,Qc,Le (by omega)];exact g1
 have av:H2.get (H.next+1)=some (.cells [.int .i64 op,.slice a0 l.length cap] 24 false):=by rw[<- ad,Qc,Lc (by omega)]
 have br:H2.next=H.next+2:=by rw[<- ad,Qd,aD]
 clear ad;simp only[Qb,simprocAttr,g1,au,av,Lw,ar];refine⟨aK,?_⟩;refine(Qwb H2 (an.ext ac ao) aB (ak.ext ac ao) al aA).thenW ?_;rintro _ H3 bu bb ⟨rfl,aq⟩;have ah:=ao.trans aq;cases ag:QcO x.f op l with
 | false=>
  rw[ag,Le (by decide)]at aa;subst aa;simp only[Qb,simprocAttr,LM,Qkk];exact .mk ah.next ⟨_,rfl,LsU.nil _ _ _ _,ah⟩
 | true=>
  rw[ag,Lc rfl]at aa;have aN:H3.get H.next=some (.cells x.cells 45 false):=by rw[aq.get _ (by omega)];exact au
  have aO:H3.get (H.next+1)=some (.cells [.int .i64 op,.slice a0 l.length cap] 24 false):=by rw[aq.get _ (by omega)];exact av
  have bh:¬H.next=H3.next:=by omega
  have bi:¬H.next+1=H3.next:=by omega
  simp only[Qb,simprocAttr,L8,bh,bi,LN,aN,aO,Lw,ar];refine⟨aK,?_⟩;obtain⟨H4,eC,aY,bg,b3,bv,az⟩:∃H4 eC,H4.get H3.next=some (.cells [.slice none 0 0] eC false)∧Ext H3 H4∧H4.Wf∧H4.next=H3.next+1∧H4=H3.push (.cells [.slice none 0 0] _ false):=⟨_,_,by rw[Qc,Lc rfl],(Ext.refl H3).push _,bb.push _,rfl,rfl⟩;rw[<- az];clear az;refine(Que H4).thenW ?_;rintro _ H5 bx bc ⟨rfl,aI,bw,aQ,aR⟩;have ab:=(ah.trans bg).trans aI;have aP:H5.get H3.next=some (.cells [.slice none 0 0] eC false):=by rw[aI.get _ (by omega)];exact aY
  simp only[JL,simprocAttr,Qg,simprocAttr,QhZ];rw[Qsm 112 [] [.pointer (some ⟨H4.next,0,none⟩),.pointer (some ⟨H4.next+1,0,none⟩)]];intro L aW;refine⟨by kernel_rfl,?_⟩;have ai:Ext H5 (H5.push (L none)):=(Ext.refl H5).push _;have b1:(H5.push (L none)).next=H5.next+1:=rfl;have aT:(H5.push (L none)).get H5.next=some (L none):=by rw[Qc,Lc rfl]
  have b5:=bc.push (L none);generalize H5.push (L none)=Hb at *;have aw:Hb.get H3.next=some (.cells [.slice none 0 0] eC false):=by rw[ai.get _ (by omega)];exact aP
  obtain⟨_,_,aF,_,_⟩:=QaA ag;have aU:∀w∈W2 x.f l,(0<=w.x∧w.x<2)∧(0<=w.h∧w.h<2)∧(x.f.vex=true->(vxF x.f l w.x w.h).Ok)∧w.b.length<=1000:=λw ac=>by
   obtain⟨ax,ay,bo⟩:=(QlE x.f l).2 w ac;exact⟨ax,ay,λaZ=>QGZ ag aZ ax ay,by omega⟩
  have aG:x.f.slots.length=l.length:=by rw[<- Qiz aF];exact(QaA ag).2.1
  have aE:=QH3 (Hb:=Hb) (c:=H3.next) (m:=H5.next) (eC:=eC) (op:=op) (va:=.slice a0 l.length cap) (e:=Qaz x.f op l) (Hz:=H) (by omega) (by omega) (by omega) (by rw[<- aa];omega) aW (by simp only[Qg,simprocAttr]) (Qv4 aF) an ak ac aH al aG (QD5 _ _ _) aU;rw[<- aa]at aE;have am:∀id,id≠H3.next->id≠H5.next->¬clO H3.next H5.next eC Hb id:=λid p q h=>by
   rcases h with h | h | ⟨v,h,o,n,c,h'⟩
   ·exact p h
   ·exact q h
   ·rw[aw]at h;cases h;cases h'
  refine(QFZ aE (Lb _) an aB ak ac aH al aA aG (by have:=(QlE x.f l).1;omega) (ab.trans ai) (λid aC=>am id (by have:=ah.next;omega) (by have:=ab.next;omega)) (by rw[ai.get _ (by omega)];exact aQ) (by rw[ai.get _ (by omega)];exact aR) (am _ (by omega) (by omega)) (am _ (by omega) (by omega)) ?_).thenW ?_
  ·refine⟨aT,by omega,by omega,λ_ _ _ _=>rfl,_,aw,?_,λid ⟨o,n,c,h⟩=>by cases h⟩;exact LsU.nil _ _ _ _
  ·rintro u H6 bz b4 ⟨aV,bq⟩;obtain⟨bj,b6,b7,bk,aL,bm,aj,b8⟩:=aV;refine⟨none,bj,?_⟩;have aX:Qya (Qgl x.f l (Qaz x.f op l)) (W2 x.f l) (W2 x.f l).length=W.length:=by unfold Qya;rw[Nr,aa]
   rw[aX,Nr]at aj;have aJ:Ext H (H6.kill H5.next):=⟨by have:=ab.next;show H.next<=H6.next;omega,λid aC=>by rw[WV,Le (by have:=ab.next;omega),bk id (by have:=ab.next;omega) (by have:=ah.next;omega) (by have:=ab.next;omega)];exact(ab.trans ai).get id aC⟩;have aS:(H6.kill H5.next).get H3.next=some (.cells [aL] eC false):=by rw[WV,Le (by omega)];exact bm
   have aj:LsU 41 H (H6.kill H5.next) aL W (H6.kill H5.next).next:=aj.down (H0:=H) (by have:=ab.next;omega);generalize H6.kill H5.next=H7 at *;obtain⟨a7,bn,rfl⟩:=aj.ls.slc;simp only[Qb,simprocAttr,Qpz,aS,Qkk];refine .mk aJ.next ⟨_,?_,aj,aJ⟩;rw[show decide ((0:Int)<(W.length:Int))=decide (0<W.length) by simp]
def GP (op:Int):List Ar->Bool
 | [x,y]=>(op==11)&&(((x.k==1)&&(y.k==1))&&(x.r.c==y.r.c))&&!(x.r.n==y.r.n)
 | _=>false
def J8 (op:Int)(l:List Ar):List (List Ar):=
 if((Wc op l).2.2==0)=true then[(Wc op l).2.1]++(if GP op (Wc op l).2.1=true then[(Wc op l).2.1.reverse] else[]) else[]
def Qrs (op:Int)(q:List Value):List Value:=q.flatMap λs=>[.int .i64 op,s]
def Qwk (H:Qa)(v:Value)(op:Int)(ws:List (List Ar)):Prop:=∃q:List Value,q.length=ws.length∧QdA H v ws.length (Qrs op q)∧∀ (j:Nat) s w,q[j]? = some s->ws[j]? = some w->Qt H s w∧∀n,H.next<=n->Qi n 6 (.agg #[.int .i64 op,s])=true
theorem Qu4 {op:Int}{l:List Ar}(h:(Wc op l).2.2=0):Wc op l=(op,(Wc op l).2.1,0):=by
 unfold Wc at h ⊢;split
 ·rename_i q;rw[Lc q]at h;simp only at h;rw[h]at q;exact absurd q (by decide)
 ·rename_i q;rw[Le q]at h;split
  ·rename_i aa;rw[Lc aa]at h;simp only at h;rw[h]at aa;exact absurd aa (by decide)
  ·rfl
theorem Qq1 {H H':Qa}{op:Int}{v:Value}{l:List Ar}(q:Qt H' v l)(aa:∀a n c,v=.slice (some a) n c->H.next<=a.block∧a.block<H'.next)(n:Nat)(ac:H'.next<=n):Qi n 6 (.agg #[.int .i64 op,v])=true:=by
 obtain⟨a,cap,rfl,ab⟩:=q;cases a with
 | none=>simp[Qi,Ab.plain]
 | some a=>
  have:=(aa _ _ _ rfl).2;simp[Qi,Ab.plain];omega
theorem Qu5 (q:Int×Bool):∀l:List Ar,(XF q l).1.length<=l.length
 | []=>Lb _
 | a::l=>by
  unfold XF;split
  ·simpa using Qu5 q l
  ·simp
theorem QCG (op:Int)(l:List Ar):(ZS op l).length<=l.length+1:=by
 unfold ZS;split
 ·split<;>simp
 ·split
  ·simp
  ·split<;>simp
theorem Qtf (op:Int)(l:List Ar):(Wc op l).2.1.length<=5:=by
 unfold Wc;split
 ·simp
 ·rename_i h;split
  ·simp
  ·have:=QiE (op:=op) (l:=l) (by simpa using h);have:=Qu5 (QW op l) l;have:=QCG op (XF (QW op l) l).1;simp only;omega
theorem QKq {op:Int}{m:List Ar}{W:List (List Ar)}{H H3:Qa}{B:Nat}{a2:Option Addr}{q:Nat}(aI:m.length<=1000)(aA:W=[m]++if GP op m=true then[m.reverse] else[])(aN:Ext H H3)(ah:H3.Wf)(g3:H3.get B=some (.cells [.int .i64 op,.slice a2 m.length q] 24 false))(av:Qt H3 (.slice a2 m.length q) m)(aG:∀n,H3.next<=n->Qi n 6 (.agg #[.int .i64 op,.slice a2 m.length q])=true){A:Env}(r3:A 3=.pointer (some ⟨B,0,none⟩)):
  Qm prog GN ⟨Rt prog Tryz.f49 H λu H'=>Qwk H' u op W∧Ext H H',WL⟩ (Rt prog Tryz.f49 H λu H'=>Qwk H' u op W∧Ext H H') A H3:=by
 have lB:=ah.lt g3;have nB:¬B=H3.next:=by omega
 simp only[GN,Qb,simprocAttr,r3,g3,nB,LN];generalize ae:H3.push _=H4;have aO:Ext H3 H4:=by rw[<- ae];exact(Ext.refl _).push _
 have bv:H4.Wf:=by rw[<- ae];exact ah.push _
 have g4:H4.get H3.next=some (.cells [.int .i64 op,.slice a2 m.length q] 24 false):=by rw[<- ae,Qc,Lc rfl]
 have bn:H4.next=H3.next+1:=by rw[<- ae];rfl
 clear ae;refine⟨rfl,?_⟩;refine(QBf _ m H4 (av.ext ah aO) aI).thenW ?_;rintro u H5 bo ao ⟨az,aH⟩;obtain⟨aa,cap,cb,rfl,an,bk⟩:∃aa cap cb,u=.slice aa m.length cap∧(0<m.length->aa=some ⟨cb,0,none⟩∧H4.next<=cb∧H5.get cb=some (.cells (Qh m) 58 false))∧(∀a,aa=some a->H4.next<=a.block∧a.block<H5.next):=by
  rcases aH with⟨rfl,rfl | ⟨rfl,rfl⟩⟩ | ⟨bu,rfl,rfl⟩
  ·exact⟨none,0,0,rfl,λh=>absurd h (NX 0),λa h=>by cases h⟩
  ·exact⟨_,0,0,rfl,λh=>absurd h (NX 0),λa h=>by cases h;exact⟨Lb _,by rw[Qd];exact Rq _⟩⟩
  ·refine⟨_,_,H4.next+1,rfl,λ_=>⟨rfl,by omega,by rw[Qc,Lc (by simp only[Qd])]⟩,λa h=>by cases h;simp only[Qd];omega⟩
 clear aH;simp only[Qb,simprocAttr];refine⟨az.eqB,?_⟩;generalize ag:H5.push _=H6;have aq:Ext H5 H6:=by rw[<- ag];exact(Ext.refl _).push _
 have bw:H6.Wf:=by rw[<- ag];exact ao.push _
 have bp:H6.next=H5.next+1:=by rw[<- ag];rfl
 have aj:H6.get H5.next=some (.cells [.int .i64 op,.slice aa m.length cap] 97 false):=by rw[<- ag,Qc,Lc rfl]
 clear ag;have ai:=(aO.trans az).trans aq;have ad:=aN.trans ai;have aC:H6.get H3.next=some (.cells [.int .i64 op,.slice a2 m.length q] 24 false):=by rw[aq.get _ (by omega),az.get _ (by omega)];exact g4
 have aV:=av.ext ah ai;have aX:Qt H6 (.slice aa m.length cap) m:=⟨aa,cap,rfl,λh=>⟨cb,_,_,(an h).1,by rw[aq.get _ (ao.lt (an h).2.2)];exact(an h).2.2⟩⟩
 -- one spelling
 have aw:GP op m=false->Qwk H6 (.slice (some ⟨H3.next,0,none⟩) 1 1) op W:=λh=>by
  rw[aA,Le (by rw[h];decide),Na];refine⟨[.slice a2 m.length q],rfl,⟨_,1,rfl,λ_=>⟨H3.next,_,_,rfl,aC⟩⟩,λj s w ac ak=>?_⟩;rcases j with _ | j
  ·cases ac;cases ak;exact⟨aV,λn aJ=>aG n (by have:=ai.next;omega)⟩
  ·simp at ac
 cases aF:op==11 with
 | false=>
  simp only[Qb,simprocAttr,Zm];refine .mk ad.next ⟨aw ?_,ad⟩;unfold GP;split<;>simp[aF]
 | true=>
  simp only[Qb,simprocAttr];refine(Qe3 H5.next op _ m H6 false aj aX aI).thenW ?_;rintro _ H6 _ _ ⟨rfl,rfl⟩;cases ab:QdJ m with
  | false=>
   simp only[Qb,simprocAttr,Zm];refine .mk ad.next ⟨aw ?_,ad⟩;unfold GP;unfold QdJ at ab;split
   ·simp only at ab;rw[ab];simp
   ·rfl
  | true=>
   obtain⟨x,y,rfl⟩:∃x y,m=[x,y]:=by
    unfold QdJ at ab;split at ab
    ·exact⟨_,_,rfl⟩
    ·cases ab
   obtain⟨rfl,bm,ax⟩:=an (FH _);have aB:H6.get cb=some (.cells (Qh [x,y]) 58 false):=by rw[aq.get _ (ao.lt ax)];exact ax
   have e2:(Qh [x,y])[2]? = some (.int .i64 x.r.n):=rfl;have aQ:(Qh [x,y])[13]? = some (.int .i64 y.r.n):=rfl;have d0:(0:Int)<=0∧(0:Int)<(([x,y]:List Ar).length:Int):=by simp
   have d1:(0:Int)<=1∧(1:Int)<(([x,y]:List Ar).length:Int):=by simp
   simp only[sxA,sxB,Nat.reduceBEq,Nat.reduceEqDiff,reduceCtorEq,mxA,mxB,Nat.reduceAdd,reduceIte,Nat.reduceLeDiff,splice,aj,aB];refine⟨d0,_,e2,d1,_,aQ,?_⟩;simp only[Qb,simprocAttr];have aW:((x.k==1)&&(y.k==1)&&(x.r.c==y.r.c))=true:=ab;cases aK:x.r.n==y.r.n with
   | true=>
    simp only[Qb,simprocAttr,L8,Zm];exact .mk ad.next ⟨aw (by simp[GP,aK]),ad⟩
   | false=>
    have bc:GP op [x,y]=true:=by simp only[GP,aF,aW,aK];rfl
    simp only[Qb,simprocAttr,LM];simp only[QdP,Qb,simprocAttr];refine(QbM H5.next cb cap op x y H6 false 58 aj aB).thenW ?_;rintro _ H7 bq aL ⟨rfl,al⟩;have au:∀id,id≠cb->H7.get id=H6.get id:=λid h=>by rw[al,Qn,Le h,Qn,Le h]
    have aR:H7.get cb=some (.cells (Qh [y,x]) 58 false):=by rw[al,Qn,Lc rfl]
    have br:H7.next=H6.next:=by rw[al];rfl
    clear al;have bx:=ao.lt ax;have aS:H7.get H5.next=some (.cells [.int .i64 op,.slice (some ⟨cb,0,none⟩) 2 cap] 97 false):=by rw[au _ (by omega)];exact aj
    have aD:H7.get H3.next=some (.cells [.int .i64 op,.slice a2 2 q] 24 false):=by rw[au _ (by omega)];exact aC
    simp only[Qb,simprocAttr,aS];have bh:Ext H3 H7:=⟨by have:=ai.next;omega,λid aZ=>by rw[au id (by omega)];exact ai.get id aZ⟩;generalize am:H7.push _=H8;have ar:Ext H7 H8:=by rw[<- am];exact(Ext.refl _).push _
    have bd:H8.Wf:=by rw[<- am];exact aL.push _
    have aT:H8.get H7.next=some (.cells [.int .i64 op,.slice (some ⟨cb,0,none⟩) 2 cap] 24 false):=by rw[<- am,Qc,Lc rfl]
    clear am;have bi:=aL.lt aD;have aU:H8.get H3.next=some (.cells [.int .i64 op,.slice a2 2 q] 24 false):=by rw[ar.get _ bi];exact aD
    have ba:Gx 2 24 H3 H8 (.slice (some ⟨H3.next,0,none⟩) 1 1) 1 [.int .i64 op,.slice a2 2 q]:=.inr ⟨_,_,rfl,Lb _,aU,rfl,.inl rfl⟩;have bb:Zt 2 (.slice (some ⟨H7.next,0,none⟩) 1 1) H8=some (1,[.int .i64 op,.slice (some ⟨cb,0,none⟩) 2 cap]):=by
     rw[Y5 aT (by decide) (by simp)];rfl
    refine Qsz ba ⟨_,rfl⟩ bd bb rfl (by decide) rfl (by decide) (by decide) (by decide) ?_;rintro bz H9 aY aP bg ⟨bj,rfl⟩;have ay:=(bh.trans ar).trans aP;have aM:=aN.trans ay;have aE:H9.get cb=some (.cells (Qh [y,x]) 58 false):=by rw[aP.get _ (by have:=ar.next;omega),ar.get _ (by omega)];exact aR
    simp only[Qb,simprocAttr,Zm];refine .mk aM.next ⟨?_,aM⟩;rw[aA,Lc bc];refine⟨[.slice a2 2 q,.slice (some ⟨cb,0,none⟩) 2 cap],rfl,aY.sl,λj s w ac ak=>?_⟩;rcases j with _ | _ | j
    ·cases ac;cases ak;exact⟨av.ext ah ay,λn aJ=>aG n (by have:=ay.next;omega)⟩
    ·cases ac;cases ak;refine⟨⟨_,cap,rfl,λ_=>⟨cb,_,_,rfl,aE⟩⟩,λn aJ=>?_⟩;have:=bg.lt aE;simp[Qi,Ab.plain];omega
    ·simp at ac
theorem Qqb {op:Int}{v:Value}{l:List Ar}(H:Qa)(ak:Qt H v l)(ar:l.length<=1000)(ao:∀a∈l,I64 a.n):
  Qe prog 49 [.agg #[.int .i64 op,v]] H λu H'=>Qwk H' u op (J8 op l)∧Ext H H':=by
 refine Qoc λal=>?_;obtain⟨a0,cap,rfl⟩:=Qu ak;simp only[Qft,JL,simprocAttr];generalize ac:Qa.push H _=H1;have g1:H1.get H.next=some (.cells [.int .i64 op,.slice a0 l.length cap] 24 false):=by rw[<- ac,Qc,Lc rfl];rfl
 have an:Ext H H1:=by rw[<- ac];exact(Ext.refl H).push _
 have ay:H1.Wf:=by rw[<- ac];exact al.push _
 clear ac;simp only[Qb,simprocAttr,g1];refine(Qwj op l H1 _ (ak.ext al an) ar ao).thenW ?_;rintro _ H2 ax am ⟨aw,az,rfl,ae,aq⟩;have ag:=an.trans aw;have ai:=λn aj=>Qq1 (op:=(Wc op l).1) ae aq n aj;obtain⟨W,q⟩:∃W,W=J8 op l:=⟨_,rfl⟩;rw[<- q];unfold J8 at q;obtain⟨a2,ah,rfl⟩:=Qu ae;cases ab:(Wc op l).2.2==0 with
 | false=>
  rw[ab,Le (by decide)]at q;simp only[Qb,simprocAttr,ab,Zm];have aa:=(ag.push (.cells [.int .i64 0,.slice none 0 0] 24 false)).set ag.next (.cells [.int .i64 (Wc op l).1,.slice a2 (Wc op l).2.1.length ah] 24 false);exact .mk aa.next ⟨by rw[q];exact⟨[],rfl,⟨none,0,rfl,λh=>absurd h (NX 0)⟩,λj s w h=>by simp at h⟩,aa⟩
 | true=>
  rw[ab,Lc rfl]at q;have ei:=Qu4 (L0.1 ab);have e1:(Wc op l).1=op:=by rw[ei]
  rw[e1]at ai;simp only[Qb,simprocAttr,ab,e1];generalize au:(Wc op l).2.1=m at *;generalize ad:(H2.push _).set H2.next _=H3;have aa:Ext H2 H3:=by rw[<- ad];exact((Ext.refl H2).push _).set (Lb _) _
  have av:H3.Wf:=by rw[<- ad];exact(am.push _).set (b0:=.cells [.int .i64 0,.slice none 0 0] 24 false) (by rw[Qc,Lc rfl]) _
  have g3:H3.get H2.next=some (.cells [.int .i64 op,.slice a2 m.length ah] 24 false):=by rw[<- ad,Qn,Lc rfl]
  clear ad;refine QKq (by rw[<- au];have:=Qtf op l;omega) q (ag.trans aa) av g3 (ae.ext am aa) (λn aj=>ai n (by have:=aa.next;omega)) ?_;simp only[Qg,simprocAttr]
structure GX (v:Value) (H:Qa) (v':Value) (H':Qa):Prop where
 next:H.next<=H'.next
 keep:∀id,id<H.next->¬inB v id->H'.get id=H.get id
 own:∀id,inB v' id->inB v id∨H.next<=id
theorem QF9 {v:Value}{a b:Nat}(q:inB v a)(hb:inB v b):a=b:=by
 obtain⟨_,_,_,rfl⟩:=q;obtain⟨_,_,_,h⟩:=hb;cases h;rfl
theorem GX.refl (v:Value)(H:Qa):GX v H v H:=⟨Lb _,λ_ _ _=>rfl,λ_ h=>.inl h⟩
theorem GX.trans {v q aa:Value}{H H' H'':Qa}(h:GX v H q H')(h':GX q H' aa H''):GX v H aa H'':=by
 have ab:=h.next;have ac:=h'.next;refine⟨by omega,λid a b=>?_,λid a=>?_⟩
 ·rw[h'.keep id (by omega) (λc=>by rcases h.own id c with d | d;exact b d;omega),h.keep id a b]
 ·rcases h'.own id a with b | b
  ·exact h.own id b
  ·exact .inr (by omega)
theorem GX.ext {v:Value}{H H':Qa}(h:Ext H H'):GX v H v H':=⟨h.next,λid a _=>h.get id a,λ_ h=>.inl h⟩
theorem GX.gk {v q:Value}{H0 H H':Qa}(h:GK v q H0 H H'):GX v H q H':=⟨h.next,h.keep,h.new⟩
theorem GX.old {v ac:Value}{Hs H H':Qa}(h:GX v H ac H')(q:Ext Hs H)(ab:∀id,inB v id->Hs.next<=id):Ext Hs H':=
 ⟨by have:=h.next;have:=q.next;omega,λid aa=>by rw[h.keep id (by have:=q.next;omega) (λc=>by have:=ab id c;omega)];exact q.get id aa⟩
theorem Wa.own {e:TypeId}{H0 H:Qa}{v:Value}{ws:List Ld}(h:Wa e H0 H v ws):∀id,inB v id->H0.next<=id:=λid hi=>by
 obtain⟨ss,ab,aa,ac⟩:=h.it;obtain⟨o,n,c,rfl⟩:=hi;rcases aa with⟨h,_,_⟩ | ⟨b,c',h,q,_⟩
 ·cases h
 ·cases h;exact q
theorem Wa.gx {e:TypeId}{H0 H H':Qa}{v ac u:Value}{ws:List Ld}(h:Wa e H0 H u ws)(ab:H.Wf)(q:GX v H ac H')(aa:∀id,inB v id->id<H0.next):Wa e H0 H' u ws:=
 h.keep2 ab λid a b=>q.keep id b λc=>by have:=aa id c;omega
def RgS (A A':Env):Prop:=A' 1=A 1∧A' 7=A 7∧A' 8=A 8∧A' 9=A 9∧A' 15=A 15∧A' 16=A 16∧A' 17=A 17∧A' 21=A 21∧A' 22=A 22∧A' 23=A 23
def VY (k:Int)(w:Ld):Ld:=⟨w.b,k,w.h⟩
section
variable {R:Env->Qa->Prop} {E:Nat->Env->Qa->Prop} {K:Env->Qa->Prop}
theorem QKr {Hs H Hc:Qa}{acc cs:List Ld}{v aw:Value}{k:Int}{A:Env}(b5:acc.length+cs.length<=1000000)(bo:Ext Hs H)(aq:H.Wf){U0:Nat}(aJ:LsU 41 Hs H v acc Hc.next)(aG:LsU 41 Hc H aw cs U0)(aX:Hs.next<=Hc.next)(aV:Hc.next<=H.next)(aW:∀id,inB v id->id<Hc.next)(r5:A 5=v)(b1:A 8=.int .i64 k)(bz:A 10=aw)
  (bg:∀A' H' ak,A' 5=ak->RgS A A'->H'.Wf->LsU 41 Hs H' ak (acc++cs.map (VY k)) H'.next->GX v H ak H'->K A' H'):
  Qm prog QdB ⟨R,E⟩ K A H:=by
 obtain⟨av,aO,rfl⟩:=aG.ls.slc;obtain⟨ss,bj,bb,aH,bc⟩:=aG.it;simp only[QdB,Qb,simprocAttr,bz,QL];refine Qo (λm A' H'=>∃i:Nat,i<=cs.length∧m=cs.length - i∧H'.Wf∧(∃U,U<=H'.next∧LsU 41 Hs H' (A' 5) (acc++(cs.take i).map (VY k)) U∧∀ (j:Nat) s a,i<=j->ss[j]? = some s->inB s a->U<=a)∧GX v H (A' 5) H'∧A' 36=.slice av cs.length aO∧A' 37=.int .i64 cs.length∧A' 38=.int .i64 i∧RgS A A') cs.length ?_ ?_
 ·refine⟨0,L7 _,by omega,aq,?_,?_,?_,?_,?_,?_⟩
  ·simp only[Qg,simprocAttr,r5,Rb,Bq,Na];refine⟨Hc.next,aV,aJ,λj s a _ ai q=>?_⟩;obtain⟨w,ab⟩:∃w,cs[j]? = some w:=⟨_,La (by have:=(Lk.1 ai).1;omega)⟩;exact((aH j s w ai ab).low aq q).1
  ·simp only[Qg,simprocAttr,r5];exact GX.refl _ _
  ·simp only[Qg,simprocAttr]
  ·simp only[Qg,simprocAttr]
  ·simp only[uxA,uxB,Nat.reduceBEq];rfl
  ·simp only[RgS,Qg,simprocAttr,RU]
 ·rintro m A' H' ⟨i,hi,rfl,ab,⟨U,aF,an,aK⟩,ah,aM,aN,au,aQ⟩;simp only[QiW,Qb,simprocAttr,aN,au];obtain⟨e1,aD,al,aE,ax,ay,az,aA,aB,aC⟩:=id aQ;refine Qf (λaa=>?_) (λaa=>?_)
  ·have aa:i<cs.length:=by have:=Lg aa;omega
   have aI:∀ {size e v n cs},Gx size e Hc H v n cs->Gx size e Hc H' v n cs:=λg=>g.keep2 aq λid a b=>ah.keep id b λc=>by have:=aW id c;omega
   have bp:=ah.old bo (r5▸aJ.ls.own);have ba:=aI bb;have aZ:=λj s w a b=>aI (aH j s w a b);obtain⟨b,b4,rfl,aY⟩:∃b,Hc.next<=b∧av=some ⟨b,0,none⟩∧H'.get b=some (.cells (ldC ss cs) 41 false):=by
    rcases ba with⟨h,h',_⟩ | ⟨b,c,h,bw,bx,_⟩
    ·omega
    ·cases h;exact⟨b,bw,rfl,bx⟩
   obtain⟨sv,aj⟩:∃sv,ss[i]? = some sv:=⟨_,La (by omega)⟩;obtain⟨w,ar⟩:∃w,cs[i]? = some w:=⟨_,La aa⟩;have ao:=aZ i sv w aj ar;have aU:=Qnq ss cs i sv w aj ar;have b6:(ldC ss cs).length=cs.length * 3:=by rw[QiA _ _ bj]
   have d1:(0:Int)<=i∧(i:Int)<cs.length:=by omega
   have d3:(i:Int).toNat=i:=by omega
   have ei:IntKind.i64.wrap ((i:Int)+1)=((i+1:Nat):Int):=by rw[w64 (by unfold I64;omega)];omega
   obtain⟨ac,ad,rfl⟩:=ao.slc;simp only[QiV,Qb,simprocAttr,aM,au,d1,d3,aY,aU,al,b1];refine⟨by omega,?_⟩;generalize ag:Qa.push (Qa.set (Qa.set (Qa.push H' _) _ _) _ _) _=H5;have ae:Ext H' H5:=by rw[<- ag];exact((((Ext.refl H').push _).set (Lb _) _).set (Lb _) _).push _
   have bn:H5.Wf:=by rw[<- ag];exact(((ab.push _).set (b0:=.cells [.slice none 0 0,.int .i64 0,.int .i64 0] 41 false) (by rw[Qc,Lc rfl]) _).set (b0:=.cells [.slice ac w.b.length ad,.int .i64 w.x,.int .i64 w.h] 41 false) (by rw[Qn,Lc rfl]) _).push _
   have aP:H5.get (H'.next+1)=some (.cells [.slice ac w.b.length ad,.int .i64 k,.int .i64 w.h] 41 false):=by rw[<- ag,Qc,Lc (by simp only[Qv,Qd])]
   clear ag;have bk:Zt 3 (.slice (some ⟨H'.next+1,0,none⟩) 1 1) H5=some (1,[.slice ac w.b.length ad,.int .i64 (VY k w).x,.int .i64 (VY k w).h]):=by
    rw[Y5 aP (by decide) (by simp)];rfl
   have b7:(acc++(cs.take i).map (VY k)).length<=1000000:=by rw[Lh,Nn,Sb];omega
   have bi:Gx 1 5 Hs H5 (.slice ac w.b.length ad) (VY k w).b.length (bys (VY k w).b):=(ao.go ab ae).down aX;obtain⟨U',aR,b3,aS,aT⟩:∃U',U<=U'∧U'<=H'.next∧(∀a,inB (.slice ac w.b.length ad) a->U<=a∧a<U')∧∀ (j:Nat) s a,i+1<=j->ss[j]? = some s->inB s a->U'<=a:=by
    by_cases aL:∃a,inB (.slice ac w.b.length ad) a
    ·obtain⟨a,q⟩:=aL;have b2:=aK i _ a (Lb _) aj q;refine⟨a+1,by omega,(ao.low ab q).2,λb hb=>?_,λj s b bd ai hb=>?_⟩
     ·rw[QF9 hb q];omega
     ·obtain⟨bq,br⟩:=Lk.1 aj;obtain⟨bu,bv⟩:=Lk.1 ai;exact BR.1 bc.1 i j bq bu (by omega) a b (br▸q) (bv▸hb)
    ·exact⟨U,Lb _,aF,λa q=>absurd ⟨a,q⟩ aL,λj s a bd=>aK j s a (by omega)⟩
   refine QA8 (by decide) (an.go ab ae) aR aS (bp.trans ae) bn bi bk (by omega) (by omega) ?_;intro ak H6 bh am;simp only[Qb,simprocAttr,au,ei];have bm:acc++(cs.take (i+1)).map (VY k)=acc++(cs.take i).map (VY k)++[VY k w]:=by rw[Nv,ar,N6,LQ];rfl
   refine⟨cs.length - (i+1),by omega,i+1,by omega,rfl,am.w,?_,?_,?_,?_,?_,?_⟩
   ·simp only[Qg,simprocAttr];rw[bm];exact⟨U',by have:=ae.next;have:=am.next;omega,bh,aT⟩
   ·simp only[Qg,simprocAttr];exact(ah.trans (GX.ext ae)).trans (GX.gk am)
   ·simp only[Qg,simprocAttr,aM]
   ·simp only[Qg,simprocAttr,aN]
   ·simp only[Qg,simprocAttr]
   ·simp only[RgS,Qg,simprocAttr,e1,aD,al,aE,ax,ay,az,aA,aB,aC,RU]
  ·have aa:i=cs.length:=by have:=Ll aa;omega
   subst aa;rw[Nr]at an;simp only[Qb,simprocAttr];refine bg _ _ _ rfl ?_ ab ?_ ?_
   ·simp only[RgS,Qg,simprocAttr,e1,aD,al,aE,ax,ay,az,aA,aB,aC,RU]
   ·simp only[Qg,simprocAttr];exact an.mono aF
   ·simp only[Qg,simprocAttr];exact ah
def frm (L:List Fm)(op:Int)(m:List Ar)(k:Nat):List Ld:=match L[k]? with | some f=>(Qle f op m).map (VY k) | none=>[]
theorem Qwl (L:List Fm)(op:Int)(m:List Ar)(k:Nat):(frm L op m k).length<=24:=by
 unfold frm;split
 ·rw[Nn];exact QlF _ _ _
 ·simp
def VZ (L:List Fm)(op:Int)(l:List Ar):List Ld:=(J8 op l).flatMap λm=>(List.range L.length).flatMap (frm L op m)
def RgO (A A':Env):Prop:=A' 1=A 1∧A' 15=A 15∧A' 16=A 16∧A' 17=A 17
theorem QKs {Hs H:Qa}{acc:List Ld}{v fv sv:Value}{xs:List Lf}{op:Int}{m:List Ar}{B:Nat}{A:Env}(bx:acc.length<=500000)(b4:xs.length<=6000)(bk:m.length<=1000)(aV:∀a∈m,I64 a.n)(au:Hs.Wf)(bp:Ext Hs H)(aM:H.Wf)(aK:LsU 41 Hs H v acc H.next)(aF:Qkj Hs fv xs)(bc:∀x∈xs,x.Fr 0)(bn:Qt Hs sv m)(aX:∀n,Hs.next<=n->Qi n 6 (.agg #[.int .i64 op,sv])=true)
  (gB:H.get B=some (.cells [.int .i64 op,sv] 24 false)) (hB:¬inB v B) (r5:A 5=v) (ai:A 7=.pointer (some ⟨B,0,none⟩)) (ag:A 21=fv) (ah:A 22=.int .i64 xs.length) (ab:A 23=.int .i64 0)
  (bh:∀A' H' aw,A' 5=aw->RgO A A'->H'.Wf->LsU 41 Hs H' aw (acc++(List.range xs.length).flatMap (frm (xs.map (·.f)) op m)) H'.next->GX v H aw H'->K A' H'):
  Qm prog (.block 2 (.loop QdC)) ⟨R,E⟩ K A H:=by
 obtain⟨aR,aS,rfl,ba⟩:=aF.1;have aG:=aF.2;simp only[JL,simprocAttr];refine Qo (λq A' H'=>∃i:Nat,i<=xs.length∧q=xs.length - i∧H'.Wf∧LsU 41 Hs H' (A' 5) (acc++(List.range i).flatMap (frm (xs.map (·.f)) op m)) H'.next∧GX v H (A' 5) H'∧A' 7=.pointer (some ⟨B,0,none⟩)∧A' 21=.slice aR xs.length aS∧A' 22=.int .i64 xs.length∧A' 23=.int .i64 i∧RgO A A') xs.length ?_ ?_
 ·refine⟨0,L7 _,by omega,aM,?_,?_,ai,ag,ah,ab,?_⟩
  ·simp only[r5,List.range_zero,DG,Na];exact aK
  ·rw[r5];exact GX.refl _ _
  ·simp only[RgO,RU]
 ·rintro q A' H' ⟨i,hi,rfl,ad,ar,ac,ai,ag,ah,ab,aU⟩;obtain⟨e1,am,an,ao⟩:=id aU;simp only[QdC,Qb,simprocAttr,ah,ab];refine Qf (λaa=>?_) (λaa=>?_)
  ·have aa:i<xs.length:=by have:=Lg aa;omega
   have aP:=ac.old bp aK.ls.own;obtain⟨b,e,ro,rfl,aJ⟩:=ba (by omega);have bg:H'.get b=some (.cells (Wv xs) e ro):=by rw[aP.get _ (au.lt aJ)];exact aJ
   obtain⟨x,al⟩:∃x,xs[i]? = some x:=⟨_,La aa⟩;have aW:=QcG xs i x al;have bz:=XH xs;have d1:(0:Int)<=i∧(i:Int)<xs.length:=by omega
   have d3:(i:Int).toNat=i:=by omega
   have ei:IntKind.i64.wrap ((i:Int)+1)=((i+1:Nat):Int):=by rw[w64 (by unfold I64;omega)];omega
   have aI:H'.get B=some (.cells [.int .i64 op,sv] 24 false):=by rw[ac.keep B (aM.lt gB) hB];exact gB
   have aQ:x.cells.take 10=x.cells:=rfl;have lB:=ad.lt aI;have nB:¬B=H'.next:=by omega
   have aZ:x.cells++List.drop x.cells.length [.int .i64 0,.slice none 0 0,.slice none 0 0,.int .i64 0,.int .i64 0,.int .i64 0,.int .i64 0,.int .i64 0,.bool false,.int .i64 0]=x.cells:=Na _;simp only[QiX,Qb,simprocAttr,ai,ag,ab,d1,d3,bg,aW,aI,nB,LN,Lw,aZ,aQ];refine⟨by omega,⟨rfl,Lb _,?_⟩,Lb _,?_⟩
   ·exact Qex (aG x (Ln al))
   generalize aq:Qa.set (Qa.push H' _) _ _=H1;have aj:Ext H' H1:=by rw[<- aq];exact((Ext.refl H').push _).set (Lb _) _
   have b3:H1.Wf:=by rw[<- aq];exact(ad.push _).set (b0:=.cells [.int .i64 0,.slice none 0 0,.slice none 0 0,.int .i64 0,.int .i64 0,.int .i64 0,.int .i64 0,.int .i64 0,.bool false,.int .i64 0] 45 false) (by rw[Qc,Lc rfl]) _
   clear aq;have ae:=aP.trans aj;have aO:=Ln al;refine(Qwf H1 ((aG x aO).ext au ae) (bc x aO) (bn.ext au ae) (λn b1=>aX n (by have:=ae.next;omega)) bk aV).thenW ?_;rintro _ H2 b2 aN ⟨br,rfl,aY,ak⟩;have av:=aj.trans ak;have bb:(xs.map (·.f))[i]? = some x.f:=by rw[LD,al];rfl
   have aH:(List.range (i+1)).flatMap (frm (xs.map (·.f)) op m)=(List.range i).flatMap (frm (xs.map (·.f)) op m)++(Qle x.f op m).map (VY i):=by
    rw[R0,Bm];simp only[Ba,DG,Na,frm,bb]
   have aL:LsU 41 Hs H2 (A' 5) _ H1.next:=(ar.go ad av).mono aj.next;simp only[Qb,simprocAttr];cases bq:decide (0<(Qle x.f op m).length) with
   | false=>
    have aT:Qle x.f op m=[]:=N2.1 (by have:=Ll bq;omega);simp only[Qb,simprocAttr,LM,ab,ei];refine⟨xs.length - (i+1),by omega,i+1,by omega,rfl,aN,?_,?_,?_,?_,?_,?_,?_⟩
    ·simp only[Qg,simprocAttr];rw[aH,aT,Bq,Na];exact aL.mono ak.next
    ·simp only[Qg,simprocAttr];exact ac.trans (GX.ext av)
    ·simp only[Qg,simprocAttr,ai]
    ·simp only[Qg,simprocAttr,ag]
    ·simp only[Qg,simprocAttr,ah]
    ·simp only[Qg,simprocAttr]
    ·simp only[RgO,Qg,simprocAttr,e1,am,an,ao,RU]
   | true=>
    simp only[Qb,simprocAttr,L8];have bj:∀id,inB (A' 5) id->id<H1.next:=λid h=>by
     obtain⟨ss,_,bm,_⟩:=ar.it;have:=(bm.low ad h).2;have:=aj.next;omega
    refine QKr (Hs:=Hs) (v:=A' 5) (k:=(i:Int)) ?_ (ae.trans ak) aN aL aY ae.next ak.next bj ?_ ?_ ?_ ?_
    ·have bw:=QlF x.f op m;have aa:=VJ (f:=frm (xs.map (·.f)) op m) (n:=24) (List.range i) λk _=>Qwl _ _ _ _;rw[BO]at aa;rw[Lh];omega
    ·simp only[Qg,simprocAttr]
    ·simp only[Qg,simprocAttr]
    ·simp only[Qg,simprocAttr]
    ·rintro A2 H3 b5 rfl ⟨ax,aE,bu,bv,ay,az,aA,aB,aC,aD⟩ bo bi bd;simp only[Qg,simprocAttr]at ax aE ay az aA aB aC aD;simp only[Qb,simprocAttr,aD,ab,ei];refine⟨xs.length - (i+1),by omega,i+1,by omega,rfl,bo,?_,?_,?_,?_,?_,?_,?_⟩
     ·simp only[Qg,simprocAttr];rw[aH,<- LQ];exact bi
     ·simp only[Qg,simprocAttr];exact(ac.trans (GX.ext av)).trans bd
     ·simp only[Qg,simprocAttr,aE,ai]
     ·simp only[Qg,simprocAttr,aB,ag]
     ·simp only[Qg,simprocAttr,aC,ah]
     ·simp only[Qg,simprocAttr]
     ·simp only[RgO,Qg,simprocAttr,ax,ay,az,aA,e1,am,an,ao,RU]
  ·have aa:i=xs.length:=by have:=Ll aa;omega
   subst aa;simp only[Qb,simprocAttr];refine bh _ _ _ rfl ?_ ad ?_ ?_
   ·simp only[RgO,Qg,simprocAttr,e1,am,an,ao,RU]
   ·simp only[Qg,simprocAttr];exact ar
   ·simp only[Qg,simprocAttr];exact ac
end
theorem Qwm (op:Int):∀ (q:List Value) (i:Nat) (s:Value),q[i]? = some s->((Qrs op q).drop (i * 2)).take 2=[.int .i64 op,s]
 | [],_,_,h=>by simp at h
 | v::q,0,_,h=>by cases h;rfl
 | v::q,i+1,s,h=>by
  have e:Qrs op (v::q)=[.int .i64 op,v]++Qrs op q:=rfl;rw[e,show(i+1) * 2=2+i * 2 by omega,<- Rc];exact Qwm op q i s h
theorem Qth (op:Int):∀q:List Value,(Qrs op q).length=q.length * 2
 | []=>rfl
 | v::q=>by
  have e:Qrs op (v::q)=[.int .i64 op,v]++Qrs op q:=rfl;rw[e,Lh,Qth op q,Lo,Lo,Lo,L9];omega
theorem Qz4 {aa:Int×Bool}{a:Ar}(h:I64 a.n):I64 (VX aa a).1.n:=by
 have q:I64 0:=by unfold I64;omega
 have hb:I64 (Wx a).1.n:=by
  unfold Wx QdH;split
  ·split
   ·exact q
   ·split
    ·exact q
    ·exact h
  ·exact q
 unfold VX;simp only;split
 ·exact h
 ·split
  ·exact Qs5 _ _ _ hb
  ·exact hb
theorem Qq2 {ab:Int×Bool}:∀ {l:List Ar},(∀a∈l,I64 a.n)->∀a∈(XF ab l).1,I64 a.n
 | [],_,a,q=>by cases q
 | b::l,h,a,q=>by
  unfold XF at q;split at q
  ·rcases LK.1 q with rfl | q
   ·exact Qz4 (h b (Ny ..))
   ·exact Qq2 (λc aa=>h c (NA _ aa)) a q
  ·cases q
theorem QCJ {op:Int}{l:List Ar}(h:∀a∈l,I64 a.n):∀a∈ZS op l,I64 a.n:=by
 have aa:∀a∈l.reverse,I64 a.n:=λa q=>h a (List.mem_reverse.1 q);unfold ZS;split
 ·split
  ·intro a q;refine h a ?_;simp only[LK,Ns,NN]at q ⊢;rcases q with h | h | h<;>simp[h]
  ·exact h
 ·split
  ·exact aa
  ·split
   ·exact aa
   ·exact h
theorem Qz5 {op:Int}{l:List Ar}(h:∀a∈l,I64 a.n):∀a∈(Wc op l).2.1,I64 a.n:=by
 unfold Wc;split
 ·intro a q;cases q
 ·split
  ·intro a q;cases q
  ·exact QCJ (Qq2 h)
theorem Qu6 {op:Int}{l:List Ar}(ac:∀a∈l,I64 a.n):(J8 op l).length<=2∧∀m∈J8 op l,m.length<=5∧∀a∈m,I64 a.n:=by
 have aa:=Qtf op l;have ab:=Qz5 (op:=op) ac;unfold J8;split
 ·refine⟨by split<;>simp,λm q=>?_⟩;rcases LI.1 q with q | q
  ·rw[Sa]at q;subst q;exact⟨aa,ab⟩
  ·split at q
   ·rw[Sa]at q;subst q;exact⟨by rw[List.length_reverse];exact aa,λa ad=>ab a (List.mem_reverse.1 ad)⟩
   ·cases q
 ·simp
theorem Qee {op:Int}{va fv:Value}{l:List Ar}{xs:List Lf}(H:Qa)(ax:Qt H va l)(aQ:l.length<=1000)(aw:∀a∈l,I64 a.n)(ay:Qkj H fv xs)(aN:∀x∈xs,x.Fr 0)(bh:xs.length<=6000):
  Qe prog 29 [.agg #[.int .i64 op,va],fv] H λv H'=>LsU 41 H H' v (VZ (xs.map (·.f)) op l) H'.next∧Ext H H':=by
 refine QtQ λaj=>?_;obtain⟨a0,cap,rfl⟩:=Qu ax;obtain⟨aH,aI,rfl,_⟩:=id ay.1;simp only[Qmg,JL,simprocAttr];generalize ac:Qa.push H _=H1;have g1:H1.get H.next=some (.cells [.int .i64 op,.slice a0 l.length cap] 24 false):=by rw[<- ac,Qc,Lc rfl];rfl
 have aC:Ext H H1:=by rw[<- ac];exact(Ext.refl H).push _
 have bo:H1.Wf:=by rw[<- ac];exact aj.push _
 clear ac;simp only[Qb,simprocAttr,g1];refine(Qqb H1 (ax.ext aj aC) aQ aw).thenW ?_;rintro sv Hs bk al ⟨aW,bd⟩;have am:=aC.trans bd;obtain⟨bm,aX⟩:=Qu6 (op:=op) aw;obtain⟨ah,bn,ba,aZ⟩:=aW;obtain⟨ao,sc,rfl,aV⟩:=ba;have aG:VZ (xs.map (·.f)) op l=(J8 op l).flatMap λm=>(List.range xs.length).flatMap (frm (xs.map (·.f)) op m):=by unfold VZ;rw[Nn]
 rw[aG];generalize J8 op l=sp at *;simp only[Qb,simprocAttr,QL];refine Qo (λq A' H'=>∃i:Nat,i<=sp.length∧q=sp.length - i∧H'.Wf∧Ext Hs H'∧LsU 41 Hs H' (A' 5) ((sp.take i).flatMap λm=>(List.range xs.length).flatMap (frm (xs.map (·.f)) op m)) H'.next∧A' 1=.slice aH xs.length aI∧A' 15=.slice ao sp.length sc∧A' 16=.int .i64 sp.length∧A' 17=.int .i64 i) sp.length ?_ ?_
 ·refine⟨0,L7 _,by omega,al,.refl _,?_,?_,?_,?_,?_⟩
  ·simp only[Qg,simprocAttr];exact LsU.nil _ _ _ _
  all_goals simp only[Qg,simprocAttr]
  all_goals rfl
 ·rintro q A' H' ⟨i,hi,rfl,ak,ae,ab,r1,aE,aF,an⟩;simp only[QiZ,Qb,simprocAttr,aF,an];refine Qf (λaa=>?_) (λaa=>?_)
  ·have aa:i<sp.length:=by have:=Lg aa;omega
   obtain⟨b,e,ro,rfl,az⟩:=aV (by omega);have aP:H'.get b=some (.cells (Qrs op ah) e ro):=by rw[ae.get _ (al.lt az)];exact az
   obtain⟨s,aB⟩:∃s,ah[i]? = some s:=⟨_,La (by omega)⟩;obtain⟨m,ai⟩:∃m,sp[i]? = some m:=⟨_,La aa⟩;have aL:=Qwm op ah i s aB;have bi:=Qth op ah;have d1:(0:Int)<=i∧(i:Int)<sp.length:=by omega
   have d3:(i:Int).toNat=i:=by omega
   have ei:IntKind.i64.wrap ((i:Int)+1)=((i+1:Nat):Int):=by rw[w64 (by unfold I64;omega)];omega
   obtain⟨aA,aM⟩:=aZ i s m aB ai;obtain⟨bj,aS⟩:=aX m (Ln ai);obtain⟨ao,sc,rfl⟩:=Qu aA;simp only[QiY,Qb,simprocAttr,r1,aE,an,d1,d3,aP,aL,QL];refine⟨by omega,?_⟩;generalize ad:Qa.set (Qa.push H' _) _ _=H2;have ag:Ext H' H2:=by rw[<- ad];exact((Ext.refl H').push _).set (Lb _) _
   have bb:H2.Wf:=by rw[<- ad];exact(ak.push _).set (b0:=.cells [.int .i64 0,.slice none 0 0] 24 false) (by rw[Qc,Lc rfl]) _
   have g2:H2.get H'.next=some (.cells [.int .i64 op,.slice ao m.length sc] 24 false):=by rw[<- ad,Qn,Lc rfl]
   clear ad;have aT:¬inB (A' 5) H'.next:=λh=>by
    obtain⟨ss,_,aU,_⟩:=ab.it;have:=(aU.low ak h).2;omega
   have aK:((sp.take i).flatMap λm=>(List.range xs.length).flatMap (frm (xs.map (·.f)) op m)).length<=500000:=by
    have aJ:=VJ (f:=λm=>(List.range xs.length).flatMap (frm (xs.map (·.f)) op m)) (n:=144000) (sp.take i) λm _=>by
     have aa:=VJ (f:=frm (xs.map (·.f)) op m) (n:=24) (List.range xs.length) λk _=>Qwl _ _ _ _;rw[BO]at aa;omega
    rw[Sb]at aJ;omega
   refine QKs (Hs:=Hs) (v:=A' 5) (xs:=xs) (m:=m) (B:=H'.next) aK bh (by omega) aS al (ae.trans ag) bb ((ab.go ak ag).mono ag.next) (ay.ext aj am) aN aA aM g2 aT ?_ ?_ ?_ ?_ ?_ ?_
   ·simp only[Qg,simprocAttr]
   ·simp only[Qg,simprocAttr]
   ·simp only[Qg,simprocAttr]
   ·simp only[Qg,simprocAttr]
   ·simp only[Qg,simprocAttr]
   ·rintro A2 H3 bp rfl ⟨aq,ar,au,av⟩ bc aR aO;simp only[Qg,simprocAttr]at aq ar au av;have bg:=aO.old (ae.trans ag) ab.ls.own;have aY:(sp.take (i+1)).flatMap (λm=>(List.range xs.length).flatMap (frm (xs.map (·.f)) op m))=(sp.take i).flatMap (λm=>(List.range xs.length).flatMap (frm (xs.map (·.f)) op m))++(List.range xs.length).flatMap (frm (xs.map (·.f)) op m):=by
     rw[Nv,ai,Bm];simp
    simp only[Qb,simprocAttr,av,an,ei];refine⟨sp.length - (i+1),by omega,i+1,by omega,rfl,bc,bg,?_,?_,?_,?_,?_⟩
    ·simp only[Qg,simprocAttr];rw[aY];exact aR
    ·simp only[Qg,simprocAttr,aq,r1]
    ·simp only[Qg,simprocAttr,ar,aE]
    ·simp only[Qg,simprocAttr,au,aF]
    ·simp only[Qg,simprocAttr]
  ·have aa:i=sp.length:=by have:=Ll aa;omega
   subst aa;rw[Nr]at ab;simp only[Qb,simprocAttr,QsA];have aD:=am.trans ae;exact .mk aD.next ⟨ab.down am.next,aD⟩
def QiG (L:List Fm)(op:Int)(l:List Ar):List Ld×Int:=
 if(QO op l==0)=false then([],QO op l) else if(VZ L op l).isEmpty=true then([],8) else(VZ L op l,0)
section
variable {T:Qa->Prop} {L:Int->List Fm} (hT:∀H H',H.Wf->T H->Ext H H'->T H') (hO:∀op H,T H->Qe prog 15 [.int .i64 op] H λu H'=>QkX H H' u (L op))
include hT hO
theorem Qwn {op:Int}{va:Value}{l:List Ar}(H:Qa)(au:T H)(ah:Qt H va l)(aw:∀n,H.next<=n->Qi n 6 (.agg #[.int .i64 op,va])=true)(al:l.length<=1000)(aj:∀a∈l,I64 a.n):
  Qe prog 14 [.agg #[.int .i64 op,va]] H λu H'=>∃v,u=.tuple #[v,.int .i64 (QiG (L op) op l).2]∧LsU 41 H H' v (QiG (L op) op l).1 H'.next∧Ext H H':=by
 refine QtP λae=>?_;obtain⟨a0,cap,rfl⟩:=Qu ah;obtain⟨W,q⟩:∃W,W=QiG (L op) op l:=⟨_,rfl⟩;rw[<- q];unfold QiG at q;simp only[Qmf,JL,simprocAttr];generalize ad:Qa.push H _=H1;have g1:H1.get H.next=some (.cells [.int .i64 op,.slice a0 l.length cap] 24 false):=by rw[<- ad,Qc,Lc rfl];rfl
 have am:Ext H H1:=by rw[<- ad];exact(Ext.refl H).push _
 have ax:H1.Wf:=by rw[<- ad];exact ae.push _
 clear ad;simp only[Qb,simprocAttr,g1];refine(Gw op _ l H1 (ah.ext ae am) al aj).thenW ?_;rintro _ _ av aG ⟨rfl,aq,rfl⟩;have an:Ext H1 (H1.up aq):=(Ext.refl H1).up av;generalize H1.up aq=H2 at *;have ac:=am.trans an;have g2:H2.get H.next=some (.cells [.int .i64 op,.slice a0 l.length cap] 24 false):=by rw[an.get _ (ax.lt g1)];exact g1
 simp only[Qb,simprocAttr];cases ak:QO op l==0 with
 | false=>
  rw[ak,Lc rfl]at q;simp only[Qb,simprocAttr,LM,QeC];exact .mk ac.next ⟨_,by rw[q],by rw[q];exact LsU.nil _ _ _ _,ac⟩
 | true=>
  rw[ak,Le (by simp)]at q;simp only[Qb,simprocAttr,L8,g2];refine⟨aw _ ac.next,?_⟩;refine(hO op H2 (hT _ _ ae au ac)).thenW ?_;rintro fv H3 aE aH ⟨ao,ys,ar,aA,aC,aB⟩;have ai:=ac.trans ao;simp only[Qb,simprocAttr];refine⟨ao.eqB,?_⟩;refine(Qee H3 (ah.ext ae ai) al aj aA.fms (λx ay=>(aB x ay).mono (L7 _)) aC).thenW ?_;rintro v H4 aF aI ⟨ab,az⟩;rw[ar]at ab;have ag:=ai.trans az;have ab:=ab.down ai.next;generalize VZ (L op) op l=Q at *;obtain⟨a4,aD,rfl⟩:=ab.ls.slc;simp only[Qb,simprocAttr,QL];refine Qf (λh=>?_) (λh=>?_)
  ·have aa:Q=[]:=N2.1 (by simpa using h);rw[aa,Lc (show([]:List Ld).isEmpty=true from rfl)]at q;simp only[Qb,simprocAttr,QeC];exact .mk ag.next ⟨_,by rw[q],by rw[q];exact LsU.nil _ _ _ _,ag⟩
  ·have aa:Q≠[]:=λaa=>by rw[aa]at h;simp at h
   rw[Le (by simpa using aa)]at q;simp only[Qb,simprocAttr,QeC];exact .mk ag.next ⟨_,by rw[q],by rw[q];exact ab,ag⟩
end
def QBh (n:Nat):Option (List Int)->Bool | none=>true | some b=>decide (n<b.length)
def Qlh (w:Int)(aa:List Fm)(q:Option (List Int))(c:Ld):Option (List Int):=
 if(aa[c.x.toNat]?.elim false λf=>QuW w f c.h)&&QBh c.b.length q then some c.b else q
def QGa:Option (List Int)->List Int×Int | none=>([],8) | some b=>(b,0)
def Qrt (L:List Fm)(op:Int)(l:List Ar)(w:Int):List Int×Int:=
 if(QO op l==0)=false then([],QO op l)
 else if(decide (w<0)||decide (3<w))=true then([],2)
 else QGa ((VZ L op l).foldl (Qlh w L) none)
theorem QIa {f:Fm}{l:List Ar}{e:List Int}{w c:Ld}(h:c∈Qgl f l e w):c.b≠[]:=by
 unfold Qgl at h;obtain⟨q,_,rfl⟩:=N4.1 h;simp
theorem QIb {f:Fm}{op:Int}{l:List Ar}{c:Ld}(h:c∈Qle f op l):c.b≠[]:=by
 unfold Qle at h;split at h
 ·obtain⟨w,_,h⟩:=NF.1 h;exact QIa h
 ·cases h
theorem Qz6 (op:Int)(l:List Ar):(J8 op l).length<=2:=by
 unfold J8;split
 ·split<;>simp
 ·simp
theorem QGb {L:List Fm}{op:Int}{l:List Ar}(ac:L.length<=6000):(VZ L op l).length<=288000:=by
 unfold VZ;have aa:=Qz6 op l;have ab:=VJ (f:=λm=>(List.range L.length).flatMap (frm L op m)) (n:=144000) (J8 op l) λm _=>by
  have q:=VJ (f:=frm L op m) (n:=24) (List.range L.length) λk _=>Qwl _ _ _ _;rw[BO]at q;omega
 omega
theorem QGc {L:List Fm}{op:Int}{l:List Ar}{c:Ld}(h:c∈VZ L op l):∃m∈J8 op l,∃ (k:Nat) (f:Fm),L[k]? = some f∧∃w∈Qle f op m,c=VY k w:=by
 unfold VZ at h;obtain⟨m,aa,h⟩:=NF.1 h;obtain⟨k,_,h⟩:=NF.1 h;unfold frm at h;split at h
 ·rename_i f q;obtain⟨w,ab,rfl⟩:=N4.1 h;exact⟨m,aa,k,f,q,w,ab,rfl⟩
 ·cases h
def Qyh (H0 H:Qa)(v:Value):Option (List Int)->Prop
 | none=>v=.slice none 0 0
 | some b=>b≠[]∧Gx 1 5 H0 H v b.length (bys b)
theorem Qyh.go {H0 H H':Qa}{v:Value}{o:Option (List Int)}(h:Qyh H0 H v o)(q:H.Wf)(aa:Ext H H'):Qyh H0 H' v o:=by
 cases o with
 | none=>exact h
 | some b=>exact⟨h.1,h.2.go q aa⟩
section
variable {T:Qa->Prop} {L:Int->List Fm} (hT:∀H H',H.Wf->T H->Ext H H'->T H') (hO:∀op H,T H->Qe prog 15 [.int .i64 op] H λu H'=>QkX H H' u (L op))
include hT hO
theorem QKt {op:Int}{va:Value}{l:List Ar}{w:Int}{H H2:Qa}{B:Nat}{W:List Int×Int}(aX:H.Wf)(bv:T H)(aO:Qt H va l)(b6:l.length<=1000)(br:∀a∈l,I64 a.n)(aY:Ext H H2)(bA:H2.Wf)(g2:H2.get B=some (.cells [.int .i64 op,va] 24 false))
  (ad:W=QGa ((VZ (L op) op l).foldl (Qlh w (L op)) none)) {A:Env} (r1:A 1=.int .i64 w) (r2:A 2=.pointer (some ⟨B,0,none⟩)):
  Qm prog VU ⟨Rt prog Tryz.f9 H λu H'=>∃v,u=.tuple #[v,.int .i64 W.2]∧Gx 1 5 H H' v W.1.length (bys W.1)∧Ext H H',WL⟩ (Rt prog Tryz.f9 H λu H'=>∃v,u=.tuple #[v,.int .i64 W.2]∧Gx 1 5 H H' v W.1.length (bys W.1)∧Ext H H') A H2:=by
 obtain⟨a0,cap,rfl⟩:=Qu aO;simp only[VU,Qb,simprocAttr,r2,g2];refine(hO op H2 (hT _ _ aX bv aY)).thenW ?_;rintro fv H3 bO bB ⟨aZ,ys,av,bd,bg,bF⟩;have aJ:=aY.trans aZ;have g3:H3.get B=some (.cells [.int .i64 op,.slice a0 l.length cap] 24 false):=by rw[aZ.get _ (bA.lt g2)];exact g2
 simp only[Qb,simprocAttr,r2,g3];refine(Qee H3 (aO.ext aX aJ) b6 br bd.fms (λx bD=>(bF x bD).mono (L7 _)) bg).thenW ?_;rintro v H4 bP aA ⟨ak,ba⟩;have ak:=ak.ls;rw[av]at ak;have bE:=aJ.trans ba;have bH:=bd.fms.ext bB ba;have bL:(VZ (L op) op l).length<=288000:=QGb (by rw[<- av,Nn];exact bg);generalize bu:VZ (L op) op l=Q at *;obtain⟨bi,aC,rfl⟩:=ak.slc;obtain⟨⟨bq,aD,rfl,bx⟩,bz⟩:=bH;have az:QvN prog 27=true:=by kernel_rfl
 simp only[Qb,simprocAttr,QL];refine Qo (λq A' H'=>∃i:Nat,i<=Q.length∧q=Q.length - i∧H'.Wf∧Ext H4 H'∧Qyh H3 H' (A' 8) ((Q.take i).foldl (Qlh w (L op)) none)∧A' 1=.int .i64 w∧A' 7=.slice bq ys.length aD∧A' 27=.slice bi Q.length aC∧A' 28=.int .i64 Q.length∧A' 29=.int .i64 i) Q.length ?_ ?_
 ·refine⟨0,L7 _,by omega,aA,.refl _,?_,?_,?_,?_,?_,?_⟩
  ·simp only[Qg,simprocAttr];rfl
  all_goals simp only[Qg,simprocAttr,r1]
  all_goals rfl
 ·rintro q A' H' ⟨i,hi,rfl,al,ac,hb,r1,ao,am,an,ai⟩;simp only[QeA,Qb,simprocAttr,an,ai];refine Qf (λab=>?_) (λab=>?_)
  ·have ab:i<Q.length:=by have:=Lg ab;omega
   obtain⟨ss,b8,b4,b3⟩:=(ak.go aA ac).it;obtain⟨b,rfl,b2⟩:∃b,bi=some ⟨b,0,none⟩∧H'.get b=some (.cells (ldC ss Q) 41 false):=by
    rcases b4 with⟨h,h',_⟩ | ⟨b,c,h,bJ,bh,_⟩
    ·omega
    ·cases h;exact⟨b,rfl,bh⟩
   obtain⟨sv,aW⟩:∃sv,ss[i]? = some sv:=⟨_,La (by omega)⟩;obtain⟨c,ax⟩:∃c,Q[i]? = some c:=⟨_,La ab⟩;have aG:=b3 i sv c aW ax;have aP:=Qnq ss Q i sv c aW ax;have bM:(ldC ss Q).length=Q.length * 3:=by rw[QiA _ _ b8]
   have aQ:=Ln ax;rw[<- bu]at aQ;obtain⟨m,_,k,f,ay,aa,b9,rfl⟩:=QGc aQ;have aU:aa.b≠[]:=QIb b9;have bR:0<aa.b.length:=Rj.2 aU;have b5:k<ys.length:=by have:=(Lk.1 ay).1;rw[<- av,Nn]at this;exact this
   obtain⟨y,aK⟩:∃y,ys[k]? = some y:=⟨_,La b5⟩;have bG:y.f=f:=by rw[<- av,LD,aK]at ay;exact Ly ay
   obtain⟨bf,bp,bK,rfl,aT⟩:=bx (by omega);have aS:H'.get bf=some (.cells (Wv ys) bp bK):=by rw[ac.get _ (aA.lt aT)];exact aT
   have bw:=QcG ys k y aK;have bN:=XH ys;have d1:(0:Int)<=i∧(i:Int)<Q.length:=by omega
   have d2:(0:Int)<=k∧(k:Int)<ys.length:=by omega
   have d3:(i:Int).toNat=i:=by omega
   have d4:(k:Int).toNat=k:=by omega
   have ei:IntKind.i64.wrap ((i:Int)+1)=((i+1:Nat):Int):=by rw[w64 (by unfold I64;omega)];omega
   have aM:(VY (k:Int) aa).x=k:=rfl;have aL:(VY (k:Int) aa).h=aa.h:=rfl;have ae:(VY (k:Int) aa).b=aa.b:=rfl;rw[ae]at aG;obtain⟨aq,ar,rfl⟩:=aG.slc;have bS:=al.lt aS;have bI:¬bf=H'.next:=by omega
   rw[aM,aL]at aP;simp only[Qez,Qb,simprocAttr,r1,ao,am,ai,d1,d2,d3,d4,b2,aP,aS,bw,bI,LN];refine⟨by omega,by omega,?_⟩;generalize aw:Qa.set (Qa.push H' _) _ _=H5;have bb:Ext H' H5:=by rw[<- aw];exact((Ext.refl H').push _).set (Lb _) _
   have bC:H5.Wf:=by rw[<- aw];exact(al.push _).set (b0:=.cells [.slice none 0 0,.int .i64 0,.int .i64 0] 41 false) (by rw[Qc,Lc rfl]) _
   have aN:H5.get H'.next=some (.cells [.slice aq aa.b.length ar,.int .i64 k,.int .i64 aa.h] 41 false):=by rw[<- aw,Qn,Lc rfl]
   clear aw;refine(Qp7 w aa.h H5 ((bz y (Ln aK)).ext aA (ac.trans bb))).thenW ?_;rintro _ H6 bQ aI ⟨rfl,bc⟩;have aE:H6.get H'.next=some (.cells [.slice aq aa.b.length ar,.int .i64 k,.int .i64 aa.h] 41 false):=by rw[bc.get _ (bC.lt aN)];exact aN
   have ah:=bb.trans bc;have b1:Gx 1 5 H3 H6 (.slice aq aa.b.length ar) aa.b.length (bys aa.b):=aG.go al ah;have aH:(Q.take (i+1)).foldl (Qlh w (L op)) none=Qlh w (L op) ((Q.take i).foldl (Qlh w (L op)) none) (VY k aa):=by rw[Nv,ax,List.foldl_append];rfl
   generalize (Q.take i).foldl (Qlh w (L op)) none=o at *;have ag:Qlh w (L op) o (VY k aa)=if QuW w y.f aa.h&&QBh aa.b.length o then some aa.b else o:=by
    unfold Qlh;rw[aM,d4,ay,bG,aL,ae];rfl
   simp only[Qb,simprocAttr];cases aV:QuW w y.f aa.h with
   | false=>
    rw[aV,NG,Le (by decide)]at ag;simp only[Qb,simprocAttr,ai,ei];refine⟨Q.length - (i+1),by omega,i+1,by omega,rfl,aI,ac.trans ah,?_,?_,?_,?_,?_,?_⟩
    ·simp only[Qg,simprocAttr];rw[aH,ag];exact hb.go al ah
    all_goals simp only[Qg,simprocAttr,r1,ao,am,an]
   | true=>
    rw[aV,LJ]at ag;have aR:QBh aa.b.length o=true->∀A2:Env,A2 8=.slice aq aa.b.length ar->A2 1=.int .i64 w->A2 7=.slice (some ⟨bf,0,none⟩) ys.length aD->A2 27=.slice (some ⟨b,0,none⟩) Q.length aC->A2 28=.int .i64 Q.length->A2 29=.int .i64 (i+1:Nat)->Qsl (λq A' H'=>∃i:Nat,i<=Q.length∧q=Q.length - i∧H'.Wf∧Ext H4 H'∧Qyh H3 H' (A' 8) ((Q.take i).foldl (Qlh w (L op)) none)∧A' 1=.int .i64 w∧A' 7=.slice (some ⟨bf,0,none⟩) ys.length aD∧A' 27=.slice (some ⟨b,0,none⟩) Q.length aC∧A' 28=.int .i64 Q.length∧A' 29=.int .i64 i) (Q.length - i) A2 H6:=λh A2 a8 a1 a7 bj bk bm=>
     ⟨Q.length - (i+1),by omega,i+1,by omega,rfl,aI,ac.trans ah,by rw[aH,ag,Lc h,a8];exact⟨aU,b1⟩,a1,a7,bj,bk,bm⟩
    simp only[Qb,simprocAttr];cases o with
    | none=>
     have hb:A' 8=.slice none 0 0:=hb;rw[Qly (a:=none) (n:=0) (c:=0) az (by simp only[Qg,simprocAttr,hb])];simp only[Qb,simprocAttr,RV,aE,ai,ei];refine aR rfl _ ?_ ?_ ?_ ?_ ?_ ?_
     all_goals simp only[Qg,simprocAttr,r1,ao,am,an]
    | some b0=>
     obtain⟨aF,aj⟩:=id hb;obtain⟨bn,bo,au⟩:∃b c,A' 8=.slice (some ⟨b,0,none⟩) b0.length c:=by
      rcases aj with⟨_,h,_⟩ | ⟨b,c,h,_⟩
      ·exact absurd (N2.1 h) aF
      ·exact⟨b,c,h⟩
     rw[Qly (a:=some ⟨bn,0,none⟩) (n:=b0.length) (c:=bo) az (by simp only[Qg,simprocAttr,au])];simp only[Qb,simprocAttr,Ff,aE,au,QL];refine Qf (λh=>?_) (λh=>?_)
     ·have h:=Lg h;simp only[Qb,simprocAttr,aE,ai,ei];refine aR (by show decide (aa.b.length<b0.length)=true;rw[Lv];omega) _ ?_ ?_ ?_ ?_ ?_ ?_
      all_goals simp only[Qg,simprocAttr,r1,ao,am,an]
     ·have h:=Ll h;have b7:QBh aa.b.length (some b0)=false:=by show decide (aa.b.length<b0.length)=false;rw[NY];omega
      rw[b7,Le (by decide)]at ag;simp only[Qb,simprocAttr,ai,ei];refine⟨Q.length - (i+1),by omega,i+1,by omega,rfl,aI,ac.trans ah,?_,?_,?_,?_,?_,?_⟩
      ·simp only[Qg,simprocAttr,au];rw[aH,ag];rw[au]at hb;exact hb.go al ah
      all_goals simp only[Qg,simprocAttr,r1,ao,am,an]
  ·have ab:i=Q.length:=by have:=Ll ab;omega
   subst ab;rw[Nr]at hb;simp only[Qey,Qb,simprocAttr];generalize Q.foldl (Qlh w (L op)) none=o at *;have aB:=bE.trans ac;cases o with
   | none=>
    have hb:A' 8=.slice none 0 0:=hb;simp only[QGa]at ad;rw[Qly (a:=none) (n:=0) (c:=0) az (by simp only[Qg,simprocAttr,hb])];simp only[Qb,simprocAttr,RV,ZL];exact .mk aB.next ⟨_,by rw[ad],by rw[ad];exact .inl ⟨rfl,rfl,rfl⟩,aB⟩
   | some bs=>
    obtain⟨aF,aj⟩:=hb;simp only[QGa]at ad;obtain⟨b,c,ae,bJ,bh,bT⟩:∃b c,A' 8=.slice (some ⟨b,0,none⟩) bs.length c∧True∧True∧True:=by
     rcases aj with⟨_,h,_⟩ | ⟨b,c,h,_⟩
     ·exact absurd (N2.1 h) aF
     ·exact⟨b,c,h,trivial,trivial,trivial⟩
    rw[Qly (a:=some ⟨b,0,none⟩) (n:=bs.length) (c:=c) az (by simp only[Qg,simprocAttr,ae])];rw[ae]at aj;simp only[Qb,simprocAttr,Ff,ae,ZL];exact .mk aB.next ⟨_,by rw[ad],by rw[ad];exact aj.down aJ.next,aB⟩
theorem Qru {op:Int}{va:Value}{l:List Ar}(w:Int)(H:Qa)(an:T H)(ac:Qt H va l)(au:∀n,H.next<=n->Qi n 6 (.agg #[.int .i64 op,va])=true)(aj:l.length<=1000)(ah:∀a∈l,I64 a.n):
  Qe prog 9 [.agg #[.int .i64 op,va],.int .i64 w] H λu H'=>∃v,u=.tuple #[v,.int .i64 (Qrt (L op) op l w).2]∧Gx 1 5 H H' v (Qrt (L op) op l w).1.length (bys (Qrt (L op) op l w).1)∧Ext H H':=by
 refine QpH λae=>?_;obtain⟨a0,cap,rfl⟩:=Qu ac;obtain⟨W,q⟩:∃W,W=Qrt (L op) op l w:=⟨_,rfl⟩;rw[<- q];unfold Qrt at q;have ad:∀ (H0 H1:Qa),Gx 1 5 H0 H1 (.slice none 0 0) ([]:List Int).length (bys []):=λ_ _=>.inl ⟨rfl,rfl,rfl⟩;simp only[QgZ,JL,simprocAttr];generalize ab:Qa.push H _=H1;have g1:H1.get H.next=some (.cells [.int .i64 op,.slice a0 l.length cap] 24 false):=by rw[<- ab,Qc,Lc rfl];rfl
 have ak:Ext H H1:=by rw[<- ab];exact(Ext.refl H).push _
 have aq:H1.Wf:=by rw[<- ab];exact ae.push _
 clear ab;simp only[Qb,simprocAttr,g1];refine(Gw op _ l H1 (ac.ext ae ak) aj ah).thenW ?_;rintro _ _ ao ar ⟨rfl,am,rfl⟩;have al:Ext H1 (H1.up am):=(Ext.refl H1).up ao;generalize H1.up am=H2 at *;have aa:=ak.trans al;have g2:H2.get H.next=some (.cells [.int .i64 op,.slice a0 l.length cap] 24 false):=by rw[al.get _ (aq.lt g1)];exact g1
 simp only[Qb,simprocAttr];cases ai:QO op l==0 with
 | false=>
  rw[ai,Lc rfl]at q;simp only[Qb,simprocAttr,LM,ZL];exact .mk aa.next ⟨_,by rw[q],by rw[q];exact ad _ _,aa⟩
 | true=>
  rw[ai,Le (by simp)]at q;simp only[QeB,Qb,simprocAttr,L8];cases ag:decide (w<0) with
  | true=>
   rw[ag,N1,Lc rfl]at q;simp only[Qb,simprocAttr,L8,ZL];exact .mk aa.next ⟨_,by rw[q],by rw[q];exact ad _ _,aa⟩
  | false=>
   rw[ag,Nt]at q;simp only[Qb,simprocAttr,LM];refine Qf (λh=>?_) (λh=>?_)
   ·rw[Lc (by simpa using h)]at q;simp only[Qb,simprocAttr,ZL];exact .mk aa.next ⟨_,by rw[q],by rw[q];exact ad _ _,aa⟩
   ·rw[Le (by simpa using h)]at q;simp only[Qb,simprocAttr];refine QKt hT hO ae an ac aj ah aa ar g2 q ?_ ?_
    all_goals simp only[Qg,simprocAttr]
end
end Go.Proofs.YtgepgbbjfhggfaaGreatDoor.code
