/- shape: one operand, held against a shape. -/
import Derived.Test.YtopkfjiipdjbmaaGreatDoorLibB
import Derived.Test.YtopkfjiipdjbmaaGreatDoorLibN
import Derived.Test.YtopkfjiipdjbmaaGreatDoorLibI
import Derived.Test.YtopkfjiipdjbmaaGreatDoorLibR
set_option linter.unusedVariables false
set_option linter.unusedSimpArgs false
set_option maxRecDepth 100000
set_option maxHeartbeats 4000000
noncomputable section
namespace Go.Proofs.YtopkfjiipdjbmaaGreatDoor.code
open Go.Ab
structure Gv where
 a:Ar
 bits:Int
 n:Int
def Gv.cells (g:Gv):List Value:=[.Z g.a.k,.Z g.a.r.c,.Z g.a.r.n,.Z g.a.m.b.c,.Z g.a.m.b.n,.Z g.a.m.i.c,.Z g.a.m.i.n,.Z g.a.m.sc,.Z g.a.m.d,.Z g.a.m.sz,.Z g.a.n,.Z g.bits,.Z g.n]
def WR (g:Gv)(c:Int):Bool:=(g.a.k==1)&&(g.a.r.c==c)
def Ys (g:Gv)(z:Int):Bool:=(g.a.k==2)&&(g.a.m.sz==z)
theorem Yt (g:Gv)(c:Int)(H:Qa):Qe prog 186 [.agg g.cells.toArray,.Z c] H λu H'=>u=.bool (WR g c)∧∃k,H'=H.up k:=by
 refine QiW λaa=>?_;unfold WR;obtain⟨⟨k,⟨ah,ai⟩,⟨⟨ab,ac⟩,⟨ae,ag⟩,sc,d,sz⟩,n⟩,bits,ad⟩:=g;simp only[Gv.cells,QaI,Qb,simprocAttr];cases h:k==1<;>simp only[Qb,simprocAttr,h,QhZ]
 all_goals exact .ext aa ((Ext.refl H).push _) ⟨by simp,_,rfl⟩
theorem ZS (g:Gv)(z:Int)(H:Qa):Qe prog 195 [.agg g.cells.toArray,.Z z] H λu H'=>u=.bool (Ys g z)∧∃k,H'=H.up k:=by
 refine QiX λaa=>?_;unfold Ys;obtain⟨⟨k,⟨ah,ai⟩,⟨⟨ab,ac⟩,⟨ae,ag⟩,sc,d,sz⟩,n⟩,bits,ad⟩:=g;simp only[Gv.cells,QaJ,Qb,simprocAttr];cases h:k==2<;>simp only[Qb,simprocAttr,h,Qh0]
 all_goals exact .ext aa ((Ext.refl H).push _) ⟨by simp,_,rfl⟩
/-! The tests. -/
theorem QMv (g:Gv)(H:Qa):Qe prog 187 [.agg g.cells.toArray] H λu H'=>u=.bool (false)∧∃m,H'=H.up m:=by
 refine Qot λaa=>?_;obtain⟨⟨k,⟨ah,ai⟩,⟨⟨ab,ac⟩,⟨ae,ag⟩,sc,d,sz⟩,n⟩,bits,ad⟩:=g;simp only[Gv.cells,QfF,Qb,simprocAttr,QmL];exact .ext aa ((Ext.refl H).push _) ⟨rfl,_,rfl⟩
theorem QMw (g:Gv)(H:Qa):Qe prog 188 [.agg g.cells.toArray] H λu H'=>u=.bool (WR g 1||WR g 2)∧∃m,H'=H.up m:=by
 refine Qou λac=>?_;have aa:=Yt g 1;obtain⟨ag,e0⟩:∃v,WR g 1=v:=⟨_,rfl⟩;rw[e0]at aa ⊢;have ab:=Yt g 2;obtain⟨ar,e1⟩:∃v,WR g 2=v:=⟨_,rfl⟩;rw[e1]at ab ⊢;clear e0 e1;obtain⟨⟨k,⟨ap,aq⟩,⟨⟨ah,ai⟩,⟨am,ao⟩,sc,d,sz⟩,n⟩,bits,aj⟩:=g;simp only[Gv.cells]at aa ab;simp only[Gv.cells,QfG,Qb,simprocAttr];refine(aa _).thenW ?_;rintro _ _ ad ak ⟨rfl,an,rfl⟩;simp only[Qd,Qw]at ad;cases ag with
 | true=>
  simp only[Qb,simprocAttr,QdY];exact .ext ac (((Ext.refl H).push _).up (by simp only[Qd,Qw];omega)) ⟨by simp,_,rfl⟩
 | false=>
  simp only[Qb,simprocAttr];refine(ab _).thenW ?_;rintro _ _ ae al ⟨rfl,k1,rfl⟩;simp only[Qd,Qw]at ae;simp only[Qb,simprocAttr,QdY];exact .ext ac ((((Ext.refl H).push _).up (by simp only[Qd,Qw];omega)).up (by simp only[Qd,Qw];omega)) ⟨by simp,_,rfl⟩
theorem QMx (g:Gv)(H:Qa):Qe prog 189 [.agg g.cells.toArray] H λu H'=>u=.bool (WR g 3)∧∃m,H'=H.up m:=by
 refine Qov λac=>?_;have aa:=Yt g 3;obtain⟨an,e0⟩:∃v,WR g 3=v:=⟨_,rfl⟩;rw[e0]at aa ⊢;clear e0;obtain⟨⟨k,⟨al,am⟩,⟨⟨ad,ae⟩,⟨ai,ak⟩,sc,d,sz⟩,n⟩,bits,ag⟩:=g;simp only[Gv.cells]at aa;simp only[Gv.cells,QfH,Qb,simprocAttr];refine(aa _).thenW ?_;rintro _ _ ab ah ⟨rfl,aj,rfl⟩;simp only[Qd,Qw]at ab;simp only[Qb,simprocAttr,QmM];exact .ext ac (((Ext.refl H).push _).up (by simp only[Qd,Qw];omega)) ⟨by simp,_,rfl⟩
theorem QMy (g:Gv)(H:Qa):Qe prog 190 [.agg g.cells.toArray] H λu H'=>u=.bool (WR g 4)∧∃m,H'=H.up m:=by
 refine Qow λac=>?_;have aa:=Yt g 4;obtain⟨an,e0⟩:∃v,WR g 4=v:=⟨_,rfl⟩;rw[e0]at aa ⊢;clear e0;obtain⟨⟨k,⟨al,am⟩,⟨⟨ad,ae⟩,⟨ai,ak⟩,sc,d,sz⟩,n⟩,bits,ag⟩:=g;simp only[Gv.cells]at aa;simp only[Gv.cells,QfI,Qb,simprocAttr];refine(aa _).thenW ?_;rintro _ _ ab ah ⟨rfl,aj,rfl⟩;simp only[Qd,Qw]at ab;simp only[Qb,simprocAttr,QmN];exact .ext ac (((Ext.refl H).push _).up (by simp only[Qd,Qw];omega)) ⟨by simp,_,rfl⟩
theorem QMz (g:Gv)(H:Qa):Qe prog 191 [.agg g.cells.toArray] H λu H'=>u=.bool (WR g 5)∧∃m,H'=H.up m:=by
 refine Qox λac=>?_;have aa:=Yt g 5;obtain⟨an,e0⟩:∃v,WR g 5=v:=⟨_,rfl⟩;rw[e0]at aa ⊢;clear e0;obtain⟨⟨k,⟨al,am⟩,⟨⟨ad,ae⟩,⟨ai,ak⟩,sc,d,sz⟩,n⟩,bits,ag⟩:=g;simp only[Gv.cells]at aa;simp only[Gv.cells,QfJ,Qb,simprocAttr];refine(aa _).thenW ?_;rintro _ _ ab ah ⟨rfl,aj,rfl⟩;simp only[Qd,Qw]at ab;simp only[Qb,simprocAttr,QmO];exact .ext ac (((Ext.refl H).push _).up (by simp only[Qd,Qw];omega)) ⟨by simp,_,rfl⟩
theorem QMA (g:Gv)(H:Qa):Qe prog 192 [.agg g.cells.toArray] H λu H'=>u=.bool (WR g 6)∧∃m,H'=H.up m:=by
 refine Qoy λac=>?_;have aa:=Yt g 6;obtain⟨an,e0⟩:∃v,WR g 6=v:=⟨_,rfl⟩;rw[e0]at aa ⊢;clear e0;obtain⟨⟨k,⟨al,am⟩,⟨⟨ad,ae⟩,⟨ai,ak⟩,sc,d,sz⟩,n⟩,bits,ag⟩:=g;simp only[Gv.cells]at aa;simp only[Gv.cells,QfK,Qb,simprocAttr];refine(aa _).thenW ?_;rintro _ _ ab ah ⟨rfl,aj,rfl⟩;simp only[Qd,Qw]at ab;simp only[Qb,simprocAttr,QmP];exact .ext ac (((Ext.refl H).push _).up (by simp only[Qd,Qw];omega)) ⟨by simp,_,rfl⟩
theorem QMB (g:Gv)(H:Qa):Qe prog 193 [.agg g.cells.toArray] H λu H'=>u=.bool (WR g 7)∧∃m,H'=H.up m:=by
 refine Qoz λac=>?_;have aa:=Yt g 7;obtain⟨an,e0⟩:∃v,WR g 7=v:=⟨_,rfl⟩;rw[e0]at aa ⊢;clear e0;obtain⟨⟨k,⟨al,am⟩,⟨⟨ad,ae⟩,⟨ai,ak⟩,sc,d,sz⟩,n⟩,bits,ag⟩:=g;simp only[Gv.cells]at aa;simp only[Gv.cells,QfL,Qb,simprocAttr];refine(aa _).thenW ?_;rintro _ _ ab ah ⟨rfl,aj,rfl⟩;simp only[Qd,Qw]at ab;simp only[Qb,simprocAttr,QmQ];exact .ext ac (((Ext.refl H).push _).up (by simp only[Qd,Qw];omega)) ⟨by simp,_,rfl⟩
theorem QMC (g:Gv)(H:Qa):Qe prog 194 [.agg g.cells.toArray] H λu H'=>u=.bool (WR g 1||WR g 2||Ys g 1)∧∃m,H'=H.up m:=by
 refine QoA λaa=>?_;have ab:=Yt g 1;obtain⟨ai,e0⟩:∃v,WR g 1=v:=⟨_,rfl⟩;rw[e0]at ab ⊢;have ac:=Yt g 2;obtain⟨aj,e1⟩:∃v,WR g 2=v:=⟨_,rfl⟩;rw[e1]at ac ⊢;have ad:=ZS g 1;obtain⟨ax,e2⟩:∃v,Ys g 1=v:=⟨_,rfl⟩;rw[e2]at ad ⊢;clear e0 e1 e2;obtain⟨⟨k,⟨av,aw⟩,⟨⟨ak,al⟩,⟨aq,au⟩,sc,d,sz⟩,n⟩,bits,am⟩:=g;simp only[Gv.cells]at ab ac ad;simp only[Gv.cells,QfM,Qb,simprocAttr];refine(ab _).thenW ?_;rintro _ _ ae an ⟨rfl,ar,rfl⟩;simp only[Qd,Qw]at ae;cases ai with
 | true=>
  simp only[Qb,simprocAttr,Vk];exact .ext aa (((Ext.refl H).push _).up (by simp only[Qd,Qw];omega)) ⟨by simp,_,rfl⟩
 | false=>
  simp only[Qb,simprocAttr];refine(ac _).thenW ?_;rintro _ _ ag ao ⟨rfl,k1,rfl⟩;simp only[Qd,Qw]at ag;cases aj with
  | true=>
   simp only[Qb,simprocAttr,Vk];exact .ext aa ((((Ext.refl H).push _).up (by simp only[Qd,Qw];omega)).up (by simp only[Qd,Qw];omega)) ⟨by simp,_,rfl⟩
  | false=>
   simp only[Qb,simprocAttr];refine(ad _).thenW ?_;rintro _ _ ah ap ⟨rfl,k2,rfl⟩;simp only[Qd,Qw]at ah;simp only[Qb,simprocAttr,Vk];exact .ext aa (((((Ext.refl H).push _).up (by simp only[Qd,Qw];omega)).up (by simp only[Qd,Qw];omega)).up (by simp only[Qd,Qw];omega)) ⟨by simp,_,rfl⟩
theorem QLt (g:Gv)(H:Qa):Qe prog 196 [.agg g.cells.toArray] H λu H'=>u=.bool (WR g 3||Ys g 2)∧∃m,H'=H.up m:=by
 refine QmR λac=>?_;have aa:=Yt g 3;obtain⟨ag,e0⟩:∃v,WR g 3=v:=⟨_,rfl⟩;rw[e0]at aa ⊢;have ab:=ZS g 2;obtain⟨ar,e1⟩:∃v,Ys g 2=v:=⟨_,rfl⟩;rw[e1]at ab ⊢;clear e0 e1;obtain⟨⟨k,⟨ap,aq⟩,⟨⟨ah,ai⟩,⟨am,ao⟩,sc,d,sz⟩,n⟩,bits,aj⟩:=g;simp only[Gv.cells]at aa ab;simp only[Gv.cells,QdZ,Qb,simprocAttr];refine(aa _).thenW ?_;rintro _ _ ad ak ⟨rfl,an,rfl⟩;simp only[Qd,Qw]at ad;cases ag with
 | true=>
  simp only[Qb,simprocAttr,QcM];exact .ext ac (((Ext.refl H).push _).up (by simp only[Qd,Qw];omega)) ⟨by simp,_,rfl⟩
 | false=>
  simp only[Qb,simprocAttr];refine(ab _).thenW ?_;rintro _ _ ae al ⟨rfl,k1,rfl⟩;simp only[Qd,Qw]at ae;simp only[Qb,simprocAttr,QcM];exact .ext ac ((((Ext.refl H).push _).up (by simp only[Qd,Qw];omega)).up (by simp only[Qd,Qw];omega)) ⟨by simp,_,rfl⟩
theorem QLu (g:Gv)(H:Qa):Qe prog 197 [.agg g.cells.toArray] H λu H'=>u=.bool (WR g 4||Ys g 4)∧∃m,H'=H.up m:=by
 refine QmS λac=>?_;have aa:=Yt g 4;obtain⟨ag,e0⟩:∃v,WR g 4=v:=⟨_,rfl⟩;rw[e0]at aa ⊢;have ab:=ZS g 4;obtain⟨ar,e1⟩:∃v,Ys g 4=v:=⟨_,rfl⟩;rw[e1]at ab ⊢;clear e0 e1;obtain⟨⟨k,⟨ap,aq⟩,⟨⟨ah,ai⟩,⟨am,ao⟩,sc,d,sz⟩,n⟩,bits,aj⟩:=g;simp only[Gv.cells]at aa ab;simp only[Gv.cells,Qd0,Qb,simprocAttr];refine(aa _).thenW ?_;rintro _ _ ad ak ⟨rfl,an,rfl⟩;simp only[Qd,Qw]at ad;cases ag with
 | true=>
  simp only[Qb,simprocAttr,QcN];exact .ext ac (((Ext.refl H).push _).up (by simp only[Qd,Qw];omega)) ⟨by simp,_,rfl⟩
 | false=>
  simp only[Qb,simprocAttr];refine(ab _).thenW ?_;rintro _ _ ae al ⟨rfl,k1,rfl⟩;simp only[Qd,Qw]at ae;simp only[Qb,simprocAttr,QcN];exact .ext ac ((((Ext.refl H).push _).up (by simp only[Qd,Qw];omega)).up (by simp only[Qd,Qw];omega)) ⟨by simp,_,rfl⟩
theorem QLv (g:Gv)(H:Qa):Qe prog 198 [.agg g.cells.toArray] H λu H'=>u=.bool (WR g 5||Ys g 8)∧∃m,H'=H.up m:=by
 refine QmT λac=>?_;have aa:=Yt g 5;obtain⟨ag,e0⟩:∃v,WR g 5=v:=⟨_,rfl⟩;rw[e0]at aa ⊢;have ab:=ZS g 8;obtain⟨ar,e1⟩:∃v,Ys g 8=v:=⟨_,rfl⟩;rw[e1]at ab ⊢;clear e0 e1;obtain⟨⟨k,⟨ap,aq⟩,⟨⟨ah,ai⟩,⟨am,ao⟩,sc,d,sz⟩,n⟩,bits,aj⟩:=g;simp only[Gv.cells]at aa ab;simp only[Gv.cells,Qd1,Qb,simprocAttr];refine(aa _).thenW ?_;rintro _ _ ad ak ⟨rfl,an,rfl⟩;simp only[Qd,Qw]at ad;cases ag with
 | true=>
  simp only[Qb,simprocAttr,QcO];exact .ext ac (((Ext.refl H).push _).up (by simp only[Qd,Qw];omega)) ⟨by simp,_,rfl⟩
 | false=>
  simp only[Qb,simprocAttr];refine(ab _).thenW ?_;rintro _ _ ae al ⟨rfl,k1,rfl⟩;simp only[Qd,Qw]at ae;simp only[Qb,simprocAttr,QcO];exact .ext ac ((((Ext.refl H).push _).up (by simp only[Qd,Qw];omega)).up (by simp only[Qd,Qw];omega)) ⟨by simp,_,rfl⟩
theorem QLw (g:Gv)(H:Qa):Qe prog 199 [.agg g.cells.toArray] H λu H'=>u=.bool (WR g 6||Ys g 4)∧∃m,H'=H.up m:=by
 refine QmU λac=>?_;have aa:=Yt g 6;obtain⟨ag,e0⟩:∃v,WR g 6=v:=⟨_,rfl⟩;rw[e0]at aa ⊢;have ab:=ZS g 4;obtain⟨ar,e1⟩:∃v,Ys g 4=v:=⟨_,rfl⟩;rw[e1]at ab ⊢;clear e0 e1;obtain⟨⟨k,⟨ap,aq⟩,⟨⟨ah,ai⟩,⟨am,ao⟩,sc,d,sz⟩,n⟩,bits,aj⟩:=g;simp only[Gv.cells]at aa ab;simp only[Gv.cells,Qd2,Qb,simprocAttr];refine(aa _).thenW ?_;rintro _ _ ad ak ⟨rfl,an,rfl⟩;simp only[Qd,Qw]at ad;cases ag with
 | true=>
  simp only[Qb,simprocAttr,QcP];exact .ext ac (((Ext.refl H).push _).up (by simp only[Qd,Qw];omega)) ⟨by simp,_,rfl⟩
 | false=>
  simp only[Qb,simprocAttr];refine(ab _).thenW ?_;rintro _ _ ae al ⟨rfl,k1,rfl⟩;simp only[Qd,Qw]at ae;simp only[Qb,simprocAttr,QcP];exact .ext ac ((((Ext.refl H).push _).up (by simp only[Qd,Qw];omega)).up (by simp only[Qd,Qw];omega)) ⟨by simp,_,rfl⟩
theorem QLx (g:Gv)(H:Qa):Qe prog 200 [.agg g.cells.toArray] H λu H'=>u=.bool (WR g 6||Ys g 8)∧∃m,H'=H.up m:=by
 refine QmV λac=>?_;have aa:=Yt g 6;obtain⟨ag,e0⟩:∃v,WR g 6=v:=⟨_,rfl⟩;rw[e0]at aa ⊢;have ab:=ZS g 8;obtain⟨ar,e1⟩:∃v,Ys g 8=v:=⟨_,rfl⟩;rw[e1]at ab ⊢;clear e0 e1;obtain⟨⟨k,⟨ap,aq⟩,⟨⟨ah,ai⟩,⟨am,ao⟩,sc,d,sz⟩,n⟩,bits,aj⟩:=g;simp only[Gv.cells]at aa ab;simp only[Gv.cells,Qd3,Qb,simprocAttr];refine(aa _).thenW ?_;rintro _ _ ad ak ⟨rfl,an,rfl⟩;simp only[Qd,Qw]at ad;cases ag with
 | true=>
  simp only[Qb,simprocAttr,QcQ];exact .ext ac (((Ext.refl H).push _).up (by simp only[Qd,Qw];omega)) ⟨by simp,_,rfl⟩
 | false=>
  simp only[Qb,simprocAttr];refine(ab _).thenW ?_;rintro _ _ ae al ⟨rfl,k1,rfl⟩;simp only[Qd,Qw]at ae;simp only[Qb,simprocAttr,QcQ];exact .ext ac ((((Ext.refl H).push _).up (by simp only[Qd,Qw];omega)).up (by simp only[Qd,Qw];omega)) ⟨by simp,_,rfl⟩
theorem QLy (g:Gv)(H:Qa):Qe prog 201 [.agg g.cells.toArray] H λu H'=>u=.bool (WR g 6||Ys g 16)∧∃m,H'=H.up m:=by
 refine QmW λac=>?_;have aa:=Yt g 6;obtain⟨ag,e0⟩:∃v,WR g 6=v:=⟨_,rfl⟩;rw[e0]at aa ⊢;have ab:=ZS g 16;obtain⟨ar,e1⟩:∃v,Ys g 16=v:=⟨_,rfl⟩;rw[e1]at ab ⊢;clear e0 e1;obtain⟨⟨k,⟨ap,aq⟩,⟨⟨ah,ai⟩,⟨am,ao⟩,sc,d,sz⟩,n⟩,bits,aj⟩:=g;simp only[Gv.cells]at aa ab;simp only[Gv.cells,Qd4,Qb,simprocAttr];refine(aa _).thenW ?_;rintro _ _ ad ak ⟨rfl,an,rfl⟩;simp only[Qd,Qw]at ad;cases ag with
 | true=>
  simp only[Qb,simprocAttr,QcR];exact .ext ac (((Ext.refl H).push _).up (by simp only[Qd,Qw];omega)) ⟨by simp,_,rfl⟩
 | false=>
  simp only[Qb,simprocAttr];refine(ab _).thenW ?_;rintro _ _ ae al ⟨rfl,k1,rfl⟩;simp only[Qd,Qw]at ae;simp only[Qb,simprocAttr,QcR];exact .ext ac ((((Ext.refl H).push _).up (by simp only[Qd,Qw];omega)).up (by simp only[Qd,Qw];omega)) ⟨by simp,_,rfl⟩
theorem QLz (g:Gv)(H:Qa):Qe prog 202 [.agg g.cells.toArray] H λu H'=>u=.bool (WR g 7||Ys g 32)∧∃m,H'=H.up m:=by
 refine QmX λac=>?_;have aa:=Yt g 7;obtain⟨ag,e0⟩:∃v,WR g 7=v:=⟨_,rfl⟩;rw[e0]at aa ⊢;have ab:=ZS g 32;obtain⟨ar,e1⟩:∃v,Ys g 32=v:=⟨_,rfl⟩;rw[e1]at ab ⊢;clear e0 e1;obtain⟨⟨k,⟨ap,aq⟩,⟨⟨ah,ai⟩,⟨am,ao⟩,sc,d,sz⟩,n⟩,bits,aj⟩:=g;simp only[Gv.cells]at aa ab;simp only[Gv.cells,Qd5,Qb,simprocAttr];refine(aa _).thenW ?_;rintro _ _ ad ak ⟨rfl,an,rfl⟩;simp only[Qd,Qw]at ad;cases ag with
 | true=>
  simp only[Qb,simprocAttr,QcS];exact .ext ac (((Ext.refl H).push _).up (by simp only[Qd,Qw];omega)) ⟨by simp,_,rfl⟩
 | false=>
  simp only[Qb,simprocAttr];refine(ab _).thenW ?_;rintro _ _ ae al ⟨rfl,k1,rfl⟩;simp only[Qd,Qw]at ae;simp only[Qb,simprocAttr,QcS];exact .ext ac ((((Ext.refl H).push _).up (by simp only[Qd,Qw];omega)).up (by simp only[Qd,Qw];omega)) ⟨by simp,_,rfl⟩
theorem QLA (g:Gv)(H:Qa):Qe prog 203 [.agg g.cells.toArray] H λu H'=>u=.bool (Ys g 0)∧∃m,H'=H.up m:=by
 refine QmY λac=>?_;have aa:=ZS g 0;obtain⟨an,e0⟩:∃v,Ys g 0=v:=⟨_,rfl⟩;rw[e0]at aa ⊢;clear e0;obtain⟨⟨k,⟨al,am⟩,⟨⟨ad,ae⟩,⟨ai,ak⟩,sc,d,sz⟩,n⟩,bits,ag⟩:=g;simp only[Gv.cells]at aa;simp only[Gv.cells,Qd6,Qb,simprocAttr];refine(aa _).thenW ?_;rintro _ _ ab ah ⟨rfl,aj,rfl⟩;simp only[Qd,Qw]at ab;simp only[Qb,simprocAttr,QlA];exact .ext ac (((Ext.refl H).push _).up (by simp only[Qd,Qw];omega)) ⟨by simp,_,rfl⟩
theorem QLB (g:Gv)(H:Qa):Qe prog 204 [.agg g.cells.toArray] H λu H'=>u=.bool (Ys g 2)∧∃m,H'=H.up m:=by
 refine QmZ λac=>?_;have aa:=ZS g 2;obtain⟨an,e0⟩:∃v,Ys g 2=v:=⟨_,rfl⟩;rw[e0]at aa ⊢;clear e0;obtain⟨⟨k,⟨al,am⟩,⟨⟨ad,ae⟩,⟨ai,ak⟩,sc,d,sz⟩,n⟩,bits,ag⟩:=g;simp only[Gv.cells]at aa;simp only[Gv.cells,Qd7,Qb,simprocAttr];refine(aa _).thenW ?_;rintro _ _ ab ah ⟨rfl,aj,rfl⟩;simp only[Qd,Qw]at ab;simp only[Qb,simprocAttr,QlB];exact .ext ac (((Ext.refl H).push _).up (by simp only[Qd,Qw];omega)) ⟨by simp,_,rfl⟩
theorem QLC (g:Gv)(H:Qa):Qe prog 205 [.agg g.cells.toArray] H λu H'=>u=.bool (Ys g 4)∧∃m,H'=H.up m:=by
 refine Qm0 λac=>?_;have aa:=ZS g 4;obtain⟨an,e0⟩:∃v,Ys g 4=v:=⟨_,rfl⟩;rw[e0]at aa ⊢;clear e0;obtain⟨⟨k,⟨al,am⟩,⟨⟨ad,ae⟩,⟨ai,ak⟩,sc,d,sz⟩,n⟩,bits,ag⟩:=g;simp only[Gv.cells]at aa;simp only[Gv.cells,Qd8,Qb,simprocAttr];refine(aa _).thenW ?_;rintro _ _ ab ah ⟨rfl,aj,rfl⟩;simp only[Qd,Qw]at ab;simp only[Qb,simprocAttr,QlC];exact .ext ac (((Ext.refl H).push _).up (by simp only[Qd,Qw];omega)) ⟨by simp,_,rfl⟩
theorem QLD (g:Gv)(H:Qa):Qe prog 206 [.agg g.cells.toArray] H λu H'=>u=.bool (Ys g 8)∧∃m,H'=H.up m:=by
 refine Qm1 λac=>?_;have aa:=ZS g 8;obtain⟨an,e0⟩:∃v,Ys g 8=v:=⟨_,rfl⟩;rw[e0]at aa ⊢;clear e0;obtain⟨⟨k,⟨al,am⟩,⟨⟨ad,ae⟩,⟨ai,ak⟩,sc,d,sz⟩,n⟩,bits,ag⟩:=g;simp only[Gv.cells]at aa;simp only[Gv.cells,Qd9,Qb,simprocAttr];refine(aa _).thenW ?_;rintro _ _ ab ah ⟨rfl,aj,rfl⟩;simp only[Qd,Qw]at ab;simp only[Qb,simprocAttr,QlD];exact .ext ac (((Ext.refl H).push _).up (by simp only[Qd,Qw];omega)) ⟨by simp,_,rfl⟩
theorem QLE (g:Gv)(H:Qa):Qe prog 207 [.agg g.cells.toArray] H λu H'=>u=.bool (Ys g 16)∧∃m,H'=H.up m:=by
 refine Qm2 λac=>?_;have aa:=ZS g 16;obtain⟨an,e0⟩:∃v,Ys g 16=v:=⟨_,rfl⟩;rw[e0]at aa ⊢;clear e0;obtain⟨⟨k,⟨al,am⟩,⟨⟨ad,ae⟩,⟨ai,ak⟩,sc,d,sz⟩,n⟩,bits,ag⟩:=g;simp only[Gv.cells]at aa;simp only[Gv.cells,Qea,Qb,simprocAttr];refine(aa _).thenW ?_;rintro _ _ ab ah ⟨rfl,aj,rfl⟩;simp only[Qd,Qw]at ab;simp only[Qb,simprocAttr,QlE];exact .ext ac (((Ext.refl H).push _).up (by simp only[Qd,Qw];omega)) ⟨by simp,_,rfl⟩
theorem QLF (g:Gv)(H:Qa):Qe prog 208 [.agg g.cells.toArray] H λu H'=>u=.bool (Ys g 32)∧∃m,H'=H.up m:=by
 refine Qm3 λac=>?_;have aa:=ZS g 32;obtain⟨an,e0⟩:∃v,Ys g 32=v:=⟨_,rfl⟩;rw[e0]at aa ⊢;clear e0;obtain⟨⟨k,⟨al,am⟩,⟨⟨ad,ae⟩,⟨ai,ak⟩,sc,d,sz⟩,n⟩,bits,ag⟩:=g;simp only[Gv.cells]at aa;simp only[Gv.cells,Qeb,Qb,simprocAttr];refine(aa _).thenW ?_;rintro _ _ ab ah ⟨rfl,aj,rfl⟩;simp only[Qd,Qw]at ab;simp only[Qb,simprocAttr,QlF];exact .ext ac (((Ext.refl H).push _).up (by simp only[Qd,Qw];omega)) ⟨by simp,_,rfl⟩
theorem QLG (g:Gv)(H:Qa):Qe prog 209 [.agg g.cells.toArray] H λu H'=>u=.bool ((g.bits==8))∧∃m,H'=H.up m:=by
 refine Qm4 λaa=>?_;obtain⟨⟨k,⟨ah,ai⟩,⟨⟨ab,ac⟩,⟨ae,ag⟩,sc,d,sz⟩,n⟩,bits,ad⟩:=g;simp only[Gv.cells,Qec,Qb,simprocAttr];simp only[QlG];exact .ext aa ((Ext.refl H).push _) ⟨rfl,_,rfl⟩
theorem QLH (g:Gv)(H:Qa):Qe prog 210 [.agg g.cells.toArray] H λu H'=>u=.bool (decide (8<g.bits)&&decide (-128<=g.n)&&decide (g.n<=127))∧∃m,H'=H.up m:=by
 refine Qm5 λad=>?_;obtain⟨⟨k,⟨aj,ak⟩,⟨⟨ae,ag⟩,⟨ah,ai⟩,sc,d,sz⟩,n⟩,bits,aa⟩:=g;simp only[Gv.cells,Qed,Qb,simprocAttr];cases ab:decide (8<bits)<;>cases ac:decide (-128<=aa)<;>simp only[Qb,simprocAttr,ab,ac,QlH]
 all_goals exact .ext ad ((Ext.refl H).push _) ⟨by simp,_,rfl⟩
theorem QLI (g:Gv)(H:Qa):Qe prog 211 [.agg g.cells.toArray] H λu H'=>u=.bool ((g.bits==16))∧∃m,H'=H.up m:=by
 refine Qm6 λaa=>?_;obtain⟨⟨k,⟨ah,ai⟩,⟨⟨ab,ac⟩,⟨ae,ag⟩,sc,d,sz⟩,n⟩,bits,ad⟩:=g;simp only[Gv.cells,Qee,Qb,simprocAttr];simp only[QlI];exact .ext aa ((Ext.refl H).push _) ⟨rfl,_,rfl⟩
theorem QLJ (g:Gv)(H:Qa):Qe prog 212 [.agg g.cells.toArray] H λu H'=>u=.bool ((g.bits==32))∧∃m,H'=H.up m:=by
 refine Qm7 λaa=>?_;obtain⟨⟨k,⟨ah,ai⟩,⟨⟨ab,ac⟩,⟨ae,ag⟩,sc,d,sz⟩,n⟩,bits,ad⟩:=g;simp only[Gv.cells,Qef,Qb,simprocAttr];simp only[QlJ];exact .ext aa ((Ext.refl H).push _) ⟨rfl,_,rfl⟩
theorem QLK (g:Gv)(H:Qa):Qe prog 213 [.agg g.cells.toArray] H λu H'=>u=.bool ((g.bits==64)&&decide (-2147483648<=g.n)&&decide (g.n<=2147483647))∧∃m,H'=H.up m:=by
 refine Qm8 λad=>?_;obtain⟨⟨k,⟨aj,ak⟩,⟨⟨ae,ag⟩,⟨ah,ai⟩,sc,d,sz⟩,n⟩,bits,aa⟩:=g;simp only[Gv.cells,Qeg,Qb,simprocAttr];cases ab:bits==64<;>cases ac:decide (-2147483648<=aa)<;>simp only[Qb,simprocAttr,ab,ac,QlK]
 all_goals exact .ext ad ((Ext.refl H).push _) ⟨by simp,_,rfl⟩
theorem QLL (g:Gv)(H:Qa):Qe prog 214 [.agg g.cells.toArray] H λu H'=>u=.bool ((g.bits==64))∧∃m,H'=H.up m:=by
 refine Qm9 λaa=>?_;obtain⟨⟨k,⟨ah,ai⟩,⟨⟨ab,ac⟩,⟨ae,ag⟩,sc,d,sz⟩,n⟩,bits,ad⟩:=g;simp only[Gv.cells,Qeh,Qb,simprocAttr];simp only[QlL];exact .ext aa ((Ext.refl H).push _) ⟨rfl,_,rfl⟩
theorem QLM (g:Gv)(H:Qa):Qe prog 215 [.agg g.cells.toArray] H λu H'=>u=.bool ((g.a.k==4)&&decide (-128<=g.a.n)&&decide (g.a.n<=127))∧∃m,H'=H.up m:=by
 refine Qna λac=>?_;obtain⟨⟨k,⟨aj,ak⟩,⟨⟨ad,ae⟩,⟨ah,ai⟩,sc,d,sz⟩,n⟩,bits,ag⟩:=g;simp only[Gv.cells,Qei,Qb,simprocAttr];cases aa:k==4<;>cases ab:decide (-128<=n)<;>simp only[Qb,simprocAttr,aa,ab,QlM]
 all_goals exact .ext ac ((Ext.refl H).push _) ⟨by simp,_,rfl⟩
theorem QLN (g:Gv)(H:Qa):Qe prog 216 [.agg g.cells.toArray] H λu H'=>u=.bool ((g.a.k==4))∧∃m,H'=H.up m:=by
 refine Qnb λaa=>?_;obtain⟨⟨k,⟨ah,ai⟩,⟨⟨ab,ac⟩,⟨ae,ag⟩,sc,d,sz⟩,n⟩,bits,ad⟩:=g;simp only[Gv.cells,Qej,Qb,simprocAttr];simp only[QlN];exact .ext aa ((Ext.refl H).push _) ⟨rfl,_,rfl⟩
theorem QLO (g:Gv)(H:Qa):Qe prog 217 [.agg g.cells.toArray] H λu H'=>u=.bool (decide (0<g.bits)&&(g.n==1))∧∃m,H'=H.up m:=by
 refine Qnc λab=>?_;obtain⟨⟨k,⟨ai,aj⟩,⟨⟨ac,ad⟩,⟨ag,ah⟩,sc,d,sz⟩,n⟩,bits,ae⟩:=g;simp only[Gv.cells,Qek,Qb,simprocAttr];cases aa:decide (0<bits)<;>simp only[Qb,simprocAttr,aa,QlO]
 all_goals exact .ext ab ((Ext.refl H).push _) ⟨by simp,_,rfl⟩
theorem QsG (c n:Int)(H:Qa):Qe prog 184 [.Z c,.Z n] H λu H'=>∃p q,u=.agg #[.func (.func 185) #[] #[.P p,.P q]]∧Ext H H'∧H'.get p=some (.cells [.Z c] 3 false)∧H'.get q=some (.cells [.Z n] 3 false)∧p<H'.next∧q<H'.next:=by
 refine Qos λaa=>?_;simp only[QfE,Qb,simprocAttr,JI,Zm,QmK];have hx:∀b,Ext H ((((H.push (.cells [.Z c] 3 false)).push (.cells [.Z n] 3 false)).push (.cells [.nilFunc] 204 false)).set (H.next+1+1) b):=λb=>((((Ext.refl H).push _).push _).push _).set (by omega) _;refine .mk (hx _).next ⟨H.next,H.next+1,rfl,hx _,?_,?_,by simp only[Qo,Qd];omega,by simp only[Qo,Qd];omega⟩
 ·rw[Qh,Le (by omega),Qc,Le (by simp only[Qd];omega),Qc,Le (by simp only[Qd];omega),Qc,Lc rfl]
 ·rw[Qh,Le (by omega),Qc,Le (by simp only[Qd];omega),Qc,Lc (by simp only[Qd])]
theorem QHZ (g:Gv)(c n:Int)(p q:Nat)(H:Qa)(aa:H.get p=some (.cells [.Z c] 3 false))(ab:H.get q=some (.cells [.Z n] 3 false)):Qe prog 185 [.agg g.cells.toArray,.P p,.P q] H λu H'=>u=.bool (WR g c&&(g.a.r.n==n))∧Ext H H':=by
 refine Qlz λad=>?_;have ac:=Yt g c;obtain⟨v,ev⟩:∃v,WR g c=v:=⟨_,rfl⟩;rw[ev]at ac ⊢;clear ev;have ar:=ad.lt aa;have au:=ad.lt ab;have ae:¬p=H.next:=by omega
 have ag:¬q=H.next:=by omega
 obtain⟨⟨k,⟨ao,ap⟩,⟨⟨ah,ai⟩,⟨al,an⟩,sc,d,sz⟩,am⟩,bits,aj⟩:=g;simp only[Gv.cells]at ac;simp only[Gv.cells,QcL,Qb,simprocAttr,ae,ag,LN,aa,ab];refine(ac _).thenW ?_;rintro _ _ ak aq ⟨rfl,k1,rfl⟩;simp only[Qd,Qw]at ak;have hx:=((Ext.refl H).push (.cells [.Z k,.Z ao,.Z ap,.Z ah,.Z ai,.Z al,.Z an,.Z sc,.Z d,.Z sz,.Z am,.Z bits,.Z aj] 201 false)).up (m:=k1) (by simp only[Qd];omega);cases v with
 | false=>
  simp only[Qb,simprocAttr,Qbx];exact .mk hx.next ⟨by simp,hx⟩
 | true=>
  simp only[Qb,simprocAttr,ae,ag,LN,aa,ab,Qbx];exact .mk hx.next ⟨by simp,hx⟩
def QnB (s:Nat)(g:Gv):Bool:=
 match s with
 | 0=>false
 | 1=>WR g 1||WR g 2 | 2=>WR g 3 | 3=>WR g 4 | 4=>WR g 5 | 5=>WR g 6 | 6=>WR g 7
 | 7=>WR g 1||WR g 2||Ys g 1 | 8=>WR g 3||Ys g 2 | 9=>WR g 4||Ys g 4 | 10=>WR g 5||Ys g 8
 | 11=>WR g 6||Ys g 4 | 12=>WR g 6||Ys g 8 | 13=>WR g 6||Ys g 16 | 14=>WR g 7||Ys g 32
 | 15=>Ys g 0 | 16=>Ys g 4 | 17=>Ys g 8 | 18=>Ys g 16 | 19=>Ys g 32
 | 20=>(g.bits==8)
 | 21=>decide (8<g.bits)&&decide (-128<=g.n)&&decide (g.n<=127)
 | 22=>(g.bits==16) | 23=>(g.bits==32)
 | 24=>(g.bits==64)&&decide (-2147483648<=g.n)&&decide (g.n<=2147483647)
 | 25=>(g.bits==64)
 | 26=>(g.a.k==4)&&decide (-128<=g.a.n)&&decide (g.a.n<=127)
 | 27=>(g.a.k==4)
 | 28=>WR g 1&&(g.a.r.n==0) | 29=>WR g 3&&(g.a.r.n==0) | 30=>WR g 4&&(g.a.r.n==0) | 31=>WR g 5&&(g.a.r.n==0) | 32=>WR g 1&&(g.a.r.n==1)
 | 33=>decide (0<g.bits)&&(g.n==1)
 | 34=>Ys g 2
 | _=>false
def Qwh (H:Qa)(v:Value)(s:Nat):Prop:=∃ (f:FuncId) (aa:List Value),v=.func (.func f) #[] aa.toArray∧∀ (g:Gv) (H2:Qa),Ext H H2->Qe prog f ([.agg g.cells.toArray]++aa) H2 λu H3=>u=.bool (QnB s g)∧Ext H2 H3
theorem QJ {f:FuncId}{s:Nat}(H:Qa)(q:∀ (g:Gv) (H:Qa),Qe prog f [.agg g.cells.toArray] H λu H'=>u=.bool (QnB s g)∧∃m,H'=H.up m):Qwh H (.func (.func f) #[] #[]) s:=by
 refine⟨f,[],rfl,λg H2 _=>?_⟩;intro ae;obtain⟨v,H3,ab,aa,ac,ad,m,rfl⟩:=q g H2 ae;exact⟨v,_,ab,aa,ac,ad,(Ext.refl H2).up aa⟩
theorem Qf7 {H H':Qa}{p q:Nat}{c n:Int}{s:Nat}(hx:Ext H H')(ab:H.get p=some (.cells [.Z c] 3 false))(ac:H.get q=some (.cells [.Z n] 3 false))(ad:p<H.next)(ae:q<H.next)(e:∀g,QnB s g=(WR g c&&(g.a.r.n==n))):Qwh H' (.func (.func 185) #[] #[.P p,.P q]) s:=by
 refine⟨185,[.P p,.P q],rfl,λg H2 aa=>?_⟩;rw[e g];exact QHZ g c n p q H2 (by rw[(hx.trans aa).get _ ad];exact ab) (by rw[(hx.trans aa).get _ ae];exact ac)
theorem QH0 (H:Qa):Qe prog 130 [] H λu H'=>∃ (b:Nat) (cs:List Value),u=.S b 35 35∧Ext H H'∧H.next<=b∧H'.get b=some (.cells cs 204 false)∧cs.length=35∧∀s,s<35->∃v,cs[s]? = some v∧Qwh H' v s:=by
 refine Qr7 λaL=>?_;simp only[QiU,Qb,simprocAttr,JI,Zm,QaA,Nat.reduceMul];refine(QsG 1 0 H).thenW ?_;rintro _ H1 _ aM ⟨p0,r0,rfl,ab,an,au,az,aE⟩;simp only[Qb,simprocAttr,JI,Zm,QaA,Nat.reduceMul];refine(QsG 3 0 H1).thenW ?_;rintro _ H2 _ aN ⟨aR,r1,rfl,ac,ao,av,aA,aF⟩;simp only[Qb,simprocAttr,JI,Zm,QaA,Nat.reduceMul];refine(QsG 4 0 H2).thenW ?_;rintro _ H3 _ aO ⟨aS,r2,rfl,ad,ap,aw,aB,aG⟩;simp only[Qb,simprocAttr,JI,Zm,QaA,Nat.reduceMul];refine(QsG 5 0 H3).thenW ?_;rintro _ H4 _ aP ⟨aT,r3,rfl,ae,aq,ax,aC,aH⟩;simp only[Qb,simprocAttr,JI,Zm,QaA,Nat.reduceMul];refine(QsG 1 1 H4).thenW ?_;rintro _ H5 _ aQ ⟨aU,r4,rfl,ag,ar,ay,aD,aI⟩;simp only[Qb,simprocAttr,JI,Zm,QaA,Nat.reduceMul];have aV:=ab;have ai:=(((ab.trans ac).trans ad).trans ae).trans ag;simp only[Qqf,Qf,simprocAttr];have ah:=ai.push;refine .mk (ah _).next ⟨H5.next,_,rfl,ah _,ai.next,by rw[Qc,Lc rfl],rfl,λs aK=>?_⟩;generalize aa:H5.push _=K;have am:Ext H5 K:=by rw[<- aa];exact(Ext.refl H5).push _
 clear aa;have al:=ag.trans am;have ak:=ae.trans al;have aj:=ad.trans ak;have aJ:=ac.trans aj;rcases s with _ | _ | _ | _ | _ | _ | _ | _ | _ | _ | _ | _ | _ | _ | _ | _ | _ | _ | _ | _ | _ | _ | _ | _ | _ | _ | _ | _ | _ | _ | _ | _ | _ | _ | _ | s
 ·exact⟨_,rfl,QJ K QMv⟩
 ·exact⟨_,rfl,QJ K QMw⟩
 ·exact⟨_,rfl,QJ K QMx⟩
 ·exact⟨_,rfl,QJ K QMy⟩
 ·exact⟨_,rfl,QJ K QMz⟩
 ·exact⟨_,rfl,QJ K QMA⟩
 ·exact⟨_,rfl,QJ K QMB⟩
 ·exact⟨_,rfl,QJ K QMC⟩
 ·exact⟨_,rfl,QJ K QLt⟩
 ·exact⟨_,rfl,QJ K QLu⟩
 ·exact⟨_,rfl,QJ K QLv⟩
 ·exact⟨_,rfl,QJ K QLw⟩
 ·exact⟨_,rfl,QJ K QLx⟩
 ·exact⟨_,rfl,QJ K QLy⟩
 ·exact⟨_,rfl,QJ K QLz⟩
 ·exact⟨_,rfl,QJ K QLA⟩
 ·exact⟨_,rfl,QJ K QLC⟩
 ·exact⟨_,rfl,QJ K QLD⟩
 ·exact⟨_,rfl,QJ K QLE⟩
 ·exact⟨_,rfl,QJ K QLF⟩
 ·exact⟨_,rfl,QJ K QLG⟩
 ·exact⟨_,rfl,QJ K QLH⟩
 ·exact⟨_,rfl,QJ K QLI⟩
 ·exact⟨_,rfl,QJ K QLJ⟩
 ·exact⟨_,rfl,QJ K QLK⟩
 ·exact⟨_,rfl,QJ K QLL⟩
 ·exact⟨_,rfl,QJ K QLM⟩
 ·exact⟨_,rfl,QJ K QLN⟩
 ·exact⟨_,rfl,Qf7 aJ an au az aE (λ_=>rfl)⟩
 ·exact⟨_,rfl,Qf7 aj ao av aA aF (λ_=>rfl)⟩
 ·exact⟨_,rfl,Qf7 ak ap aw aB aG (λ_=>rfl)⟩
 ·exact⟨_,rfl,Qf7 al aq ax aC aH (λ_=>rfl)⟩
 ·exact⟨_,rfl,Qf7 am ar ay aD aI (λ_=>rfl)⟩
 ·exact⟨_,rfl,QJ K QLO⟩
 ·exact⟨_,rfl,QJ K QLB⟩
 ·omega
def QAH (aa:Int×Bool)(a:Ar):Gv:=if a.k=3 then⟨a,aa.1,(GM a.n aa.1 aa.2).1⟩ else⟨a,0,0⟩
def Qk6 (aa:Int×Bool)(a:Ar)(s:Int):Bool:=(!(a.k==3)||((GM a.n aa.1 aa.2).2==0))&&QnB s.toNat (QAH aa a)
def Qqs (f:Fm)(op:Int)(l:List Ar):Bool:=(f.op==op)&&(f.shapes.length==l.length)&&(QoN f==0)&&(Wl op l==0)&&(List.range l.length).all λi=>Qk6 (WI op l) (l.getD i WY) (f.shapes.getD i 0)
section
variable {x:Lf} {op:Int} {va:Value} {l:List Ar} {H:Qa}
abbrev KF (H:Qa)(r:Bool):Env->Qa->Prop:=Rt prog Tryz.f104 H λv H'=>v=.bool r∧Ext H H'
structure FtF (H H':Qa) (x:Lf) (op:Int) (va:Value) (A:Env):Prop where
 xt:Ext H H'
 w:H'.Wf
 g2:H'.get H.next=some (.cells x.cells 51 false)
 g3:H'.get (H.next+1)=some (.cells [.Z op,va] 33 false)
 lt:H.next+2<=H'.next
 r2:A 2=.P H.next
 r3:A 3=.P (H.next+1)
theorem FtF.go {H' H'':Qa}{A B:Env}(h:FtF H H' x op va A)(hx:Ext H' H'')(aa:H''.Wf)(e2:B 2=A 2)(e3:B 3=A 3):FtF H H'' x op va B:=
 ⟨h.xt.trans hx,aa,by rw[hx.get _ (by have:=h.lt;omega)];exact h.g2,by rw[hx.get _ (by have:=h.lt;omega)];exact h.g3,by have:=h.lt;have:=hx.next;omega,e2.trans h.r2,e3.trans h.r3⟩
theorem QLP {W:Bool}{i tb p:Nat}{cs:List Value}{v:Value}{g:Gv}{H0:Qa}{A:Env}{H1:Qa}{E:Nat->Env->Qa->Prop}{K:Env->Qa->Prop}(aq:H.Wf)(hx:x.At H)(ai:FtF H H1 x op va A)(hi:i<x.f.shapes.length)(aC:1<=x.f.shapes.getD i 0∧x.f.shapes.getD i 0<=34)(ax:A 7=.S tb 35 35)(r8:A 8=.Z i)(an:H1.get tb=some (.cells cs 204 false))(ak:cs[(x.f.shapes.getD i 0).toNat]? = some v)(aj:Qwh H0 v (x.f.shapes.getD i 0).toNat)(ag:Ext H0 H1)(aw:A 10=.P p)(al:H1.get p=some (.cells g.cells 201 false))(ae:QnB (x.f.shapes.getD i 0).toNat g=false->W=false)
  (ah:QnB (x.f.shapes.getD i 0).toNat g=true->∀ (B:Env) (H2:Qa),Ext H1 H2->H2.Wf->B 2=A 2->B 3=A 3->B 5=A 5->B 6=A 6->B 7=A 7->B 42=A 42->B 43=A 43->B 44=A 44->K B H2):
  Qk prog Qa3 ⟨KF H W,E⟩ K A H1:=by
 obtain⟨aa,aD,g2,g3,aA,r2,r3⟩:=id ai;obtain⟨a1,c1,e1,av⟩:=id hx.2.2.1;have ay:x.cells[1]? = some (.slice a1 x.f.shapes.length c1):=by rw[<- e1];rfl
 obtain⟨b,e,ro,rfl,ac⟩:=av (by omega);have am:H1.get b=some (.cells (ints x.f.shapes) e ro):=by rw[aa.get b (aq.lt ac)];exact ac
 have d1:(0:Int)<=i∧(i:Int)<x.f.shapes.length:=by omega
 have d3:(i:Int).toNat=i:=by omega
 have ap:(ints x.f.shapes)[i]? = some (.Z (x.f.shapes.getD i 0)):=by
  simp[ints,LD,LX,La hi]
 generalize x.f.shapes.getD i 0=s at *;have d4:(0:Int)<=s∧s<((35:Nat):Int):=by omega
 have ad:g.cells.take 13=g.cells:=rfl;have au:13<=g.cells.length:=Lb _;obtain⟨f,az,rfl,ao⟩:=aj;simp only[Qa3,sxA,sxB,Nat.reduceBEq,Nat.reduceEqDiff,reduceCtorEq,mxA,mxB,Nat.reduceAdd,reduceIte,Nat.reduceLeDiff,splice,r2,ax,r8,aw,g2,ay,am,d1,d3,ap,an,d4,ak,al,ad,Lw,QBj];refine⟨au,?_⟩;refine(show Qe prog f (.agg g.cells.toArray::az) H1 _ from ao g H1 ag).thenW ?_;rintro _ H2 aB ar ⟨rfl,ab⟩;cases c:QnB s.toNat g with
 | false=>
  simp only[Qb,simprocAttr,XL];exact .mk (aa.trans ab).next ⟨by rw[ae c],aa.trans ab⟩
 | true=>
  simp only[Qb,simprocAttr];refine ah c _ H2 ab ar ?_ ?_ ?_ ?_ ?_ ?_ ?_ ?_
  all_goals simp only[Qf,simprocAttr]
theorem QMD (aD:H.Wf)(hx:x.At H)(aK:QQ H va l)(bG:l.length<=1000)(b7:∀a∈l,I64 a.n)(bJ:QoN x.f=0)(bR:x.f.shapes.length=l.length){W:Bool}(aG:W=(List.range l.length).all λi=>Qk6 (WI op l) (l.getD i WY) (x.f.shapes.getD i 0)){A:Env}{H1:Qa}(aJ:FtF H H1 x op va A):
  Qk prog Qa4 ⟨KF H W,Xi⟩ (KF H W) A H1:=by
 obtain⟨bL,bZ,g2,g3,bT,r2,r3⟩:=id aJ;obtain⟨a0,cap,rfl⟩:=Wd aK;simp only[Qa4,Qb,simprocAttr,r2,r3,g2,g3,Lw,List.take];refine(QdP op _ l H1 (aK.ext aD bL) bG).thenW ?_;rintro _ _ bI ca ⟨rfl,k,rfl⟩;have bh:Ext H1 (H1.up k):=(Ext.refl H1).up bI;obtain⟨aa,bu⟩:∃aa,aa=WI op l:=⟨_,rfl⟩;rw[<- bu]at aG ⊢;simp only[Qb,simprocAttr];refine(QH0 (H1.up k)).thenW ?_;rintro _ H3 bU aO ⟨tb,cs,rfl,bi,bY,aN,bQ,b9⟩;obtain⟨cb,_,bz,b2,bV,_,_⟩:=aJ.go (bh.trans bi) aO (B:=A) rfl rfl;have bj:=aO.lt aN;simp only[Qb,simprocAttr,r2,r3,bz,b2];refine Qp (λm A' H'=>∃i:Nat,i<=l.length∧m=l.length - i∧FtF H H' x op (.slice a0 l.length cap) A'∧Ext H3 H'∧A' 5=.Z aa.1∧A' 6=.bool aa.2∧A' 7=.S tb 35 35∧A' 42=.slice a0 l.length cap∧A' 43=.Z l.length∧A' 44=.Z i∧∀j,j<i->Qk6 aa (l.getD j WY) (x.f.shapes.getD j 0)=true) l.length ?_ ?_
 ·refine⟨0,L7 _,by omega,aJ.go (bh.trans bi) aO ?_ ?_,Ext.refl _,?_,?_,?_,?_,?_,?_,λj h=>by omega⟩
  all_goals simp only[Qf,simprocAttr]
  all_goals rfl
 ·rintro m A' H' ⟨i,hi,rfl,aB,au,aR,bp,aS,bn,bo,aF,aV⟩;obtain⟨av,bK,bO,bP,bS,cc,cd⟩:=id aB;simp only[Qhv,Qb,simprocAttr,bo,aF];refine Qg (λac=>?_) (λac=>?_)
  ·have ac:i<l.length:=by have:=Lg ac;omega
   obtain⟨a,aL⟩:∃a,l[i]? = some a:=⟨_,La ac⟩;obtain⟨bM,bN,e0,b5⟩:=aK;cases e0;obtain⟨b,e,ro,rfl,aX⟩:=b5 (by omega);have bD:H'.get b=some (.cells (Qm l) e ro):=by rw[av.get b (aD.lt aX)];exact aX
   have ba:=X4 l i a aL;have bH:i * 11+11<=(Qm l).length:=by rw[Q7];omega
   have d1:(0:Int)<=i∧(i:Int)<l.length:=by omega
   have d3:(i:Int).toNat=i:=by omega
   have bC:l.getD i WY=a:=by rw[LX,aL];rfl
   have b8:I64 a.n:=b7 a (Ln aL);have bm:=Qau a.n aa.1 aa.2 b8;have ab:Qk6 aa (l.getD i WY) (x.f.shapes.getD i 0)=((!(a.k==3)||((GM a.n aa.1 aa.2).2==0))&&QnB (x.f.shapes.getD i 0).toNat (QAH aa a)):=by rw[bC];rfl
   have aZ:=QDf bJ i (by omega);obtain⟨ao,aH⟩:∃ao,ao=QAH aa a:=⟨_,rfl⟩;rw[<- aH]at ab;obtain⟨an,⟨ay,az⟩,⟨⟨aq,ar⟩,⟨aw,ax⟩,sc,d,sz⟩,n⟩:=a;simp only[Ar.cells]at ba;simp only at ab bm;simp only[Qhu,Qb,simprocAttr,bn,aF,d1,d3,bD,ba];refine⟨bH,?_⟩;generalize ap:(Qa.set (Qa.push (Qa.set (Qa.push H' _) _ _) _) _ _)=H4;have ad:Ext H' H4:=by
    rw[<- ap];refine Ext.set (Ext.push (Ext.set (Ext.push (Ext.refl H') _) ?_ _) _) ?_ _
    all_goals omega
   have bd:H4.Wf:=by
    rw[<- ap];refine Qa.Wf.set (b0:=.cells [.Z 0,.Z 0,.Z 0,.Z 0,.Z 0,.Z 0,.Z 0,.Z 0,.Z 0,.Z 0,.Z 0,.Z 0,.Z 0] 201 false) (Qa.Wf.push (bK.push _ |>.set (b0:=.cells [.Z 0,.Z 0,.Z 0,.Z 0,.Z 0,.Z 0,.Z 0,.Z 0,.Z 0,.Z 0,.Z 0] 95 false) (by rw[Qc,Lc rfl]) _) _) (by rw[Qc];exact Lc rfl) _
   have b3:H4.get H'.next=some (.cells [.Z an,.Z ay,.Z az,.Z aq,.Z ar,.Z aw,.Z ax,.Z sc,.Z d,.Z sz,.Z n] 95 false):=by
    rw[<- ap,Qh,Le (by omega),Qc,Le (by simp only[Qo,Qd];omega),Qh,Lc rfl]
   have aI:H4.get (H'.next+1)=some (.cells [.Z an,.Z ay,.Z az,.Z aq,.Z ar,.Z aw,.Z ax,.Z sc,.Z d,.Z sz,.Z n,.Z 0,.Z 0] 201 false):=by
    rw[<- ap,Qh,Lc rfl]
   have bW:H'.next+2<=H4.next:=by rw[<- ap];simp only[Qo,Qd];omega
   clear ap;have aW:∀ (B:Env) (H5:Qa),Qk6 aa (l.getD i WY) (x.f.shapes.getD i 0)=true->Ext H' H5->H5.Wf->B 2=A' 2->B 3=A' 3->B 5=A' 5->B 6=A' 6->B 7=A' 7->B 42=A' 42->B 43=A' 43->B 44=.Z ((i+1:Nat):Int)->Quj (λm A' H'=>∃i:Nat,i<=l.length∧m=l.length - i∧FtF H H' x op (.S b l.length cap) A'∧Ext H3 H'∧A' 5=.Z aa.1∧A' 6=.bool aa.2∧A' 7=.S tb 35 35∧A' 42=.S b l.length cap∧A' 43=.Z l.length∧A' 44=.Z i∧∀j,j<i->Qk6 aa (l.getD j WY) (x.f.shapes.getD j 0)=true) (l.length - i) B H5:=by
    intro B H5 bA e1 e2 ae ag ak al am ah ai aj;refine⟨l.length - (i+1),by omega,i+1,by omega,rfl,aB.go e1 e2 ae ag,au.trans e1,ak.trans aR,al.trans bp,am.trans aS,ah.trans bn,ai.trans bo,aj,λj aY=>?_⟩
    by_cases h:j=i
    ·rw[h];exact bA
    ·exact aV j (by omega)
   have aT:IntKind.i64.wrap ((i:Int)+1)=((i+1:Nat):Int):=by rw[w64 (by unfold I64;omega)];omega
   have aM:Qk6 aa (l.getD i WY) (x.f.shapes.getD i 0)=false->W=false:=λh=>by rw[aG];exact KW ac h
   obtain⟨tv,bc,aU⟩:=b9 (x.f.shapes.getD i 0).toNat (by omega);have b6:∀B:Env,B 2=A' 2->B 3=A' 3->FtF H H4 x op (.S b l.length cap) B:=λB e2 e3=>aB.go ad bd e2 e3;have bE:H4.get tb=some (.cells cs 204 false):=((au.trans ad).get tb bj).trans aN;cases c:an==3 with
   | false=>
    have aA:ao=⟨⟨an,⟨ay,az⟩,⟨⟨aq,ar⟩,⟨aw,ax⟩,sc,d,sz⟩,n⟩,0,0⟩:=by rw[aH,QAH,Le (by simpa using c)]
    rw[c,LM,N1,LJ]at ab;simp only[Qb,simprocAttr];refine QLP (H0:=H3) (g:=ao) (p:=H'.next+1) (i:=i) aD hx (b6 _ ?_ ?_) (by omega) aZ (tb:=tb) (cs:=cs) (v:=tv) ?_ ?_ bE bc aU (au.trans ad) ?_ (by rw[aA];exact aI) (λh=>aM (ab.trans h)) ?_
    all_goals (try (simp only[Qf,simprocAttr,aS];done))
    intro h B H5 e1 e2 ae ag ak al am ah ai aj;simp only[Qf,simprocAttr]at ae ag ak al am ah ai aj;simp only[Qb,simprocAttr,aj,aF,aT];refine aW _ H5 (ab.trans h) (ad.trans e1) e2 ?_ ?_ ?_ ?_ ?_ ?_ ?_ ?_
    all_goals simp only[Qf,simprocAttr,ae,ag,ak,al,am,ah,ai]
   | true=>
    have aA:ao=⟨⟨an,⟨ay,az⟩,⟨⟨aq,ar⟩,⟨aw,ax⟩,sc,d,sz⟩,n⟩,aa.1,(GM n aa.1 aa.2).1⟩:=by rw[aH,QAH,Lc (by simpa using c)]
    rw[c,L8,Nt]at ab;simp only[Qht,Qb,simprocAttr,b3,aR,bp];refine(bm H4).thenW ?_;rintro _ H4' bX bg ⟨rfl,bq⟩;rw[bq];obtain⟨aP,bw⟩:∃aP,aP=(GM n aa.1 aa.2).1:=⟨_,rfl⟩;obtain⟨aQ,bx⟩:∃aQ,aQ=(GM n aa.1 aa.2).2:=⟨_,rfl⟩;rw[<- bw]at aA ⊢;rw[<- bx]at ab ⊢;simp only[Qb,simprocAttr];cases c2:aQ==0 with
    | false=>
     simp only[Qb,simprocAttr,c2,XL];exact .mk (av.trans ad).next ⟨by rw[aM (by rw[ab,c2];rfl)],av.trans ad⟩
    | true=>
     rw[c2,LJ]at ab;simp only[Qb,simprocAttr,c2,aR,aI];generalize aC:Qa.set (Qa.set H4 _ _) _ _=H6;have aE:Ext H' H6:=by
      rw[<- aC];refine Ext.set (Ext.set ad ?_ _) ?_ _
      all_goals omega
     have bg:H6.Wf:=by
      rw[<- aC];exact Qa.Wf.set (b0:=.cells _ 201 false) (Qa.Wf.set bd aI _) (by rw[Qh,Lc rfl]) _
     have b4:H6.get (H'.next+1)=some (.cells [.Z an,.Z ay,.Z az,.Z aq,.Z ar,.Z aw,.Z ax,.Z sc,.Z d,.Z sz,.Z n,.Z aa.1,.Z aP] 201 false):=by
      rw[<- aC,Qh,Lc rfl]
     clear aC;have bF:H6.get tb=some (.cells cs 204 false):=((au.trans aE).get tb bj).trans aN;refine QLP (H0:=H3) (g:=ao) (p:=H'.next+1) (i:=i) aD hx (aB.go aE bg ?_ ?_) (by omega) aZ (tb:=tb) (cs:=cs) (v:=tv) ?_ ?_ bF bc aU (au.trans aE) ?_ (by rw[aA];exact b4) (λh=>aM (ab.trans h)) ?_
     all_goals (try (simp only[Qf,simprocAttr,aS];done))
     intro h B H5 e1 e2 ae ag ak al am ah ai aj;simp only[Qf,simprocAttr]at ae ag ak al am ah ai aj;simp only[Qb,simprocAttr,aj,aF,aT];refine aW _ H5 (ab.trans h) (aE.trans e1) e2 ?_ ?_ ?_ ?_ ?_ ?_ ?_ ?_
     all_goals simp only[Qf,simprocAttr,ae,ag,ak,al,am,ah,ai]
  ·have ac:i=l.length:=by have:=Ll ac;omega
   subst ac;have br:W=true:=by rw[aG];exact Vy λj aY=>aV j aY
   simp only[Qb,simprocAttr,XL];exact .mk av.next ⟨by rw[br],av⟩
theorem QME (ac:H.Wf)(hx:x.At H)(ap:x.Fr 0)(ak:QQ H va l)(al:l.length<=1000)(aj:∀a∈l,I64 a.n)(aq:x.f.shapes.length=l.length){W:Bool}(aa:W=((QoN x.f==0)&&(Wl op l==0)&&(List.range l.length).all λi=>Qk6 (WI op l) (l.getD i WY) (x.f.shapes.getD i 0))){A:Env}{H1:Qa}(ab:FtF H H1 x op va A):
  Qk prog Qa5 ⟨KF H W,Xi⟩ (KF H W) A H1:=by
 obtain⟨ad,aA,g2,g3,ay,r2,r3⟩:=id ab;have an:x.cells.take 10=x.cells:=rfl;have ax:10<=x.cells.length:=Lb _;simp only[Qa5,Qb,simprocAttr,r2,r3,g2,g3,Lw,an];refine⟨ax,?_⟩;refine(QtN x H1 (hx.ext ac ad) ap).thenW ?_;rintro _ _ ar av ⟨rfl,k,rfl⟩;have am:Ext H1 (H1.up k):=(Ext.refl H1).up ar;obtain⟨ae,_,ah,ai,az,_,_⟩:=ab.go am av rfl rfl;cases c:QoN x.f==0 with
 | false=>
  simp only[Qb,simprocAttr,r2,r3,ah,ai,c,XL];exact .mk ae.next ⟨by rw[aa,c];rfl,ae⟩
 | true=>
  simp only[Qb,simprocAttr,r2,r3,ah,ai,c,Lw,List.take];refine(Qb2 op va l _ (ak.ext ac ae) al aj).thenW ?_;rintro _ _ au aw ⟨rfl,k2,rfl⟩;have ag:Ext H1 ((H1.up k).up k2):=am.up au;have ao:∀B:Env,B 2=A 2->B 3=A 3->FtF H ((H1.up k).up k2) x op va B:=λB e2 e3=>ab.go ag aw e2 e3;cases c2:Wl op l==0 with
  | false=>
   simp only[Qb,simprocAttr,c2,XL];exact .mk (ad.trans ag).next ⟨by rw[aa,c,c2];rfl,ad.trans ag⟩
  | true=>
   simp only[Qb,simprocAttr,c2];refine QMD ac hx ak al aj (L0.1 c) aq (by rw[aa,c,c2];rfl) (ao _ ?_ ?_)
   all_goals simp only[Qf,simprocAttr]
end
theorem Qwi {x:Lf}{op:Int}{va:Value}{l:List Ar}(H:Qa)(hx:x.At H)(aq:x.Fr 0)(ai:QQ H va l)(ar:l.length<=1000)(ap:∀a∈l,I64 a.n):
  Qe prog 104 [.agg x.cells.toArray,.agg #[.Z op,va]] H λv H'=>v=.bool (Qqs x.f op l)∧Ext H H':=by
 refine Qtr λak=>?_;have an:(Value.agg x.cells.toArray).cells.toList=x.cells:=rfl;have al:x.cells.take 10=x.cells:=rfl;have ax:x.cells[0]? = some (.Z x.f.op):=rfl;have az:10<=x.cells.length:=Lb _;obtain⟨a1,c1,e1⟩:=Wd hx.2.2.1;have ah:x.cells[1]? = some (.slice a1 x.f.shapes.length c1):=by rw[<- e1];rfl
 obtain⟨W,ad⟩:∃W,W=Qqs x.f op l:=⟨_,rfl⟩;rw[<- ad];obtain⟨a0,cap,rfl⟩:=Wd ai;simp only[QkB,an,Wu,simprocAttr];generalize ab:Qa.push H (.cells x.cells 51 false)=H1;have g1:H1.get H.next=some (.cells x.cells 51 false):=by rw[<- ab,Qc,Lc rfl]
 have aw:Ext H H1:=by rw[<- ab];exact(Ext.refl H).push _
 have aj:H1.next=H.next+1:=by rw[<- ab];rfl
 have au:H1.Wf:=by rw[<- ab];exact ak.push _
 clear ab;simp only[Qb,simprocAttr,aj];generalize aa:Qa.push H1 _=H2;have ac:Ext H H2:=by rw[<- aa];exact(aw.push _)
 have av:H2.Wf:=by rw[<- aa];exact(au.push _)
 have ae:H2.get H.next=some (.cells x.cells 51 false):=by rw[<- aa,Qc,Le (by omega)];exact g1
 have ag:H2.get (H.next+1)=some (.cells [.Z op,.slice a0 l.length cap] 33 false):=by rw[<- aa,Qc,Lc (by omega)]
 have ay:H2.next=H.next+2:=by rw[<- aa,Qd,aj]
 clear aa;simp only[Qb,simprocAttr,g1,ae,ag,Lw,al,ax,ah];have ao:∀A:Env,A 2=.P H.next->A 3=.P (H.next+1)->FtF H H2 x op (.slice a0 l.length cap) A:=λA e2 e3=>⟨ac,av,ae,ag,by omega,e2,e3⟩;cases c1:x.f.op==op with
 | false=>
  simp only[Qb,simprocAttr,ae,ag,ah,XL];exact .mk ac.next ⟨by rw[ad,Qqs,c1];rfl,ac⟩
 | true=>
  simp only[Qb,simprocAttr,ae,ag,ah];have am:((x.f.shapes.length:Int)==(l.length:Int))=(x.f.shapes.length==l.length):=by
   rw[Ni,L0,L0];omega
  rw[am];cases c2:x.f.shapes.length==l.length with
  | false=>
   simp only[Qb,simprocAttr,XL];exact .mk ac.next ⟨by rw[ad,Qqs,c1,c2];rfl,ac⟩
  | true=>
   simp only[Qb,simprocAttr];refine QME ak hx aq ai ar ap (L0.1 c2) (by rw[ad,Qqs,c1,c2];rfl) (ao _ ?_ ?_)
   all_goals simp only[Qf,simprocAttr]
def tlN (f:Fm):Int:=if 0<=Qy f.slots 7 then tlF f - 1 else tlF f
def QH1 (f:Fm)(op:Int)(l:List Ar):Int:=if(l[(Qy f.slots 5).toNat]?.getD WY).k=3 then(GM (l[(Qy f.slots 5).toNat]?.getD WY).n (WI op l).1 (WI op l).2).1 else(l[(Qy f.slots 5).toNat]?.getD WY).n
def isB (n:Int):Int:=IntKind.u8.wrap (IntKind.i64.wrap (16 * n))
def QbS (f:Fm)(op:Int)(l:List Ar):List Int:=(if 0<=Qy f.slots 5 then(Qak (QH1 f op l) (tlN f)).1 else[])++(if 0<=Qy f.slots 7 then[isB (l[(Qy f.slots 7).toNat]?.getD WY).r.n] else[])
theorem QBM (n sz:Int):(Qak n sz).1.length<=1000:=by
 unfold Qak;split
 ·simp
 ·split
  ·simp
  ·rename_i h _;have h:QeP sz=true:=by simpa using h
   unfold QeP at h;simp only[Nw,L0]at h;simp only[QlW,Nn,BO];omega
section
variable {x:Lf} {op:Int} {va:Value} {l:List Ar} {H:Qa}
abbrev KT (H:Qa)(W:List Int):Env->Qa->Prop:=Rt prog Tryz.f132 H λv H'=>Gx 1 5 H H' v W.length (bys W)∧Ext H H'
theorem QLQ (au:H.Wf)(am:QQ H va l)(av:l.length<=1000){W w:List Int}{s:Int}(aw:s<l.length)(ax:w.length<=1000)(aa:W=w++(if 0<=s then[isB (l[s.toNat]?.getD WY).r.n] else[])){A:Env}{H1:Qa}{v:Value}(ab:Ext H H1)(ah:H1.Wf)(g3:H1.get (H.next+1)=some (.cells [.Z op,va] 33 false))(r3:A 3=.P (H.next+1))(ai:A 5=v)(aj:A 7=.Z s)(ag:Gx 1 5 H H1 v w.length (bys w)):
  Qk prog JE ⟨KT H W,Xi⟩ (KT H W) A H1:=by
 obtain⟨a0,cap,rfl,al⟩:=am;simp only[JE,Qb,simprocAttr,aj];refine Qg (λh=>?_) (λh=>?_)
 ·have ak:0<=s:=Lg h;rw[Lc ak]at aa;obtain⟨i,rfl⟩:∃i:Nat,s=i:=⟨s.toNat,by omega⟩;have ap:i<l.length:=by omega
  obtain⟨a,ac⟩:∃a,l[i]? = some a:=⟨_,La ap⟩;obtain⟨b,e,ro,rfl,ad⟩:=al (by omega);have an:H1.get b=some (.cells (Qm l) e ro):=by rw[ab.get b (au.lt ad)];exact ad
  have aq:=QpO ac;have d1:(0:Int)<=i∧(i:Int)<l.length:=by omega
  have d3:(i:Int).toNat=i:=by omega
  have ao:(l[(i:Int).toNat]?.getD WY).r.n=a.r.n:=by rw[d3,ac];rfl
  rw[ao]at aa;simp only[QfA,Qb,simprocAttr,r3,ai,aj,g3,d1,d3,an,aq];refine Qdk (ms:=[.int .u8 (isB a.r.n)]) (m:=1) (ag.go ah ((Ext.refl H1).push _)) (ab.push _) (ah.push _) (Qw7 (by rw[Qc,Lc rfl];rfl)) rfl rfl (by omega) (by omega) ?_;intro ay H2 ar ae;simp only[Qb,simprocAttr,Qhw];have e2:W.length=w.length+1:=by rw[aa,Lh,Bb]
  have e3:bys W=bys w++[.int .u8 (isB a.r.n)]:=by rw[aa,bys,bys,N6];rfl
  exact .mk ae.x.next ⟨by rw[e2,e3];exact ar,ae.x⟩
 ·rw[Le (by have:=Ll h;omega),Na]at aa;simp only[Qb,simprocAttr,ai,Qhw];exact .mk ab.next ⟨by rw[aa];exact ag,ab⟩
theorem QLR (ac:H.Wf)(hx:x.At H)(ag:QQ H va l)(ak:l.length<=1000)(az:∀a∈l,I64 a.n)(aY:x.f.slots.length=l.length){W:List Int}(ab:W=QbS x.f op l){A:Env}{H1:Qa}(am:FtF H H1 x op va A)(aV:A 5=.slice none 0 0)(aq:A 6=.Z (tlN x.f))(ar:A 7=.Z (Qy x.f.slots 7)):
  Qk prog Qaf ⟨KT H W,Xi⟩ (KT H W) A H1:=by
 obtain⟨aN,bg,g2,g3,aZ,r2,r3⟩:=id am;have au:x.cells.take 10=x.cells:=rfl;have aQ:10<=x.cells.length:=Lb _;have aH:=Qyj x.f.slots 5;have aX:=Qyj x.f.slots 7;unfold QbS at ab;simp only[Qaf,Qb,simprocAttr,r2,g2,Lw,au];refine⟨aQ,?_⟩;refine(QH x 5 H1 (hx.ext ac aN)).thenW ?_;rintro _ _ aI al ⟨rfl,k,rfl⟩;have aO:Ext H1 (H1.up k):=(Ext.refl H1).up aI;obtain⟨ad,_,aW,ae,ba,_,_⟩:=am.go aO al rfl rfl;simp only[Qb,simprocAttr];refine Qg (λh=>?_) (λh=>?_)
 ·have ax:0<=Qy x.f.slots 5:=Lg h;rw[Lc ax]at ab;have aa:QH1 x.f op l=if(l[(Qy x.f.slots 5).toNat]?.getD WY).k=3 then(GM (l[(Qy x.f.slots 5).toNat]?.getD WY).n (WI op l).1 (WI op l).2).1 else(l[(Qy x.f.slots 5).toNat]?.getD WY).n:=rfl
  obtain⟨i,hi⟩:∃i:Nat,Qy x.f.slots 5=i:=⟨(Qy x.f.slots 5).toNat,by omega⟩;rw[hi]at aH aa ⊢;have aE:i<l.length:=by omega
  obtain⟨a,ah⟩:∃a,l[i]? = some a:=⟨_,La aE⟩;have d1:(0:Int)<=i∧(i:Int)<l.length:=by omega
  have d3:(i:Int).toNat=i:=by omega
  have aD:l[(i:Int).toNat]?.getD WY=a:=by rw[d3,ah];rfl
  rw[aD]at aa;have aj:I64 a.n:=az a (Ln ah);have aB:=QrK a.n (WI op l).1 (WI op l).2 aj;have aU:=Qau a.n (WI op l).1 (WI op l).2 aj;have aT:=λH' (hx:Ext H H')=>QdP op va l H' (ag.ext ac hx) ak;obtain⟨a0,cap,rfl,ay⟩:=id ag;obtain⟨b,e,ro,rfl,an⟩:=ay (by omega);have aC:(H1.up k).get b=some (.cells (Qm l) e ro):=by rw[ad.get b (ac.lt an)];exact an
  have aF:(Qm l)[i * 11]? = some (.Z a.k):=by
   have:=X4 l i a ah;have h:=congrArg (λz=>z[0]?) this;simpa[Ar.cells,Nl,Nk] using h
  have aG:(Qm l)[i * 11+10]? = some (.Z a.n):=by
   have:=X4 l i a ah;have h:=congrArg (λz=>z[10]?) this;simpa[Ar.cells,Nl,Nk] using h
  generalize H1.up k=H2 at *;simp only[QfC,Qb,simprocAttr,r3,ae,d1,d3,aC,aF,aG];obtain⟨N,aw⟩:∃N,N=QH1 x.f op l:=⟨_,rfl⟩;rw[<- aw]at aa ab;have aA:I64 N:=by
   rw[aa];split
   ·exact aB
   ·exact aj
  have ai:∀ (B:Env) (H5:Qa),Ext H2 H5->H5.Wf->B 3=A 3->B 7=A 7->Qe prog 218 [.Z N,.Z (tlN x.f)] H5 (Qpk prog [Om 49 (t 52),Ow 53 (.ext (t 49) 0),Ow 54 (.ext (t 49) 1),Om 5 (t 53)] (Qk prog JE ⟨KT H W,Xi⟩ (KT H W)) B (some 52)):=by
   intro B H5 e1 e2 aR aS;refine(QpN N (tlN x.f) aA H5).thenW ?_;rintro _ H6 bd aM ⟨v,rfl,aL,ap⟩;simp only[Qb,simprocAttr];have aP:=(ad.trans e1).trans ap;have aK:=(ad.trans e1).next;refine QLQ ac ag ak (by omega) (QBM N (tlN x.f)) ab (v:=v) aP aM (by rw[(e1.trans ap).get _ (by omega)];exact ae) ?_ ?_ ?_ (aL.down aK)
   all_goals simp only[Qf,simprocAttr,aR,aS,r3,ar]
  cases c:a.k==3 with
  | false=>
   rw[Le (by simpa using c)]at aa;rw[aa]at ai;simp only[Qb,simprocAttr,aq];refine ai _ H2 (Ext.refl _) al ?_ ?_
   all_goals simp only[Qf,simprocAttr]
  | true=>
   rw[Lc (by simpa using c)]at aa;simp only[QfB,Qb,simprocAttr,r3,ae,Lw,List.take];refine(aT H2 ad).thenW ?_;rintro _ _ aJ bh ⟨rfl,k4,rfl⟩;simp only[Qb,simprocAttr];refine(aU _).thenW ?_;rintro _ H5 bc ao ⟨rfl,av⟩;rw[av]at ao ⊢;rw[aa]at ai;simp only[Qb,simprocAttr,aq];refine ai _ _ (show Ext H2 (H2.up k4) from(Ext.refl H2).up aJ) ao ?_ ?_
   all_goals simp only[Qf,simprocAttr]
 ·rw[Le (by have:=Ll h;omega),LH]at ab;simp only[Qb,simprocAttr];refine QLQ ac ag ak (w:=[]) (by omega) (by simp) ab (v:=.slice none 0 0) ad al ae ?_ ?_ ?_ (.inl ⟨rfl,rfl,rfl⟩)
  all_goals simp only[Qf,simprocAttr,r3,aV,ar]
end
theorem QFl {x:Lf}{H:Qa}(ae:H.Wf)(hx:x.At H)(aa:x.Fr 0)(m:Nat)(ad:H.next<=m):Qj m 6 (.agg x.cells.toArray)=true:=by
 have ab:=QjP ae aa.1 hx.2.2.1 m ad 4;have ac:=QjP ae aa.2 hx.2.2.2 m ad 4;simp only[Nat.reduceAdd]at ab ac;obtain⟨f,ag,ah⟩:=x;have e1:SlF 0 ag f.shapes:=aa.1;have e2:SlF 0 ah f.slots:=aa.2;clear hx aa;simp only[Lf.cells]at *;rcases e1 with⟨_,rfl⟩ | ⟨_,b1,c1,rfl,_,_⟩<;>rcases e2 with⟨_,rfl⟩ | ⟨_,ai,c2,rfl,_,_⟩
 all_goals (simp only[Qj]at ab ac;simp[Qj,Ab.plain,ab,ac])
theorem QtO {x:Lf}{op:Int}{va:Value}{l:List Ar}(H:Qa)(hx:x.At H)(aC:x.Fr 0)(ag:QQ H va l)(ap:l.length<=1000)(ao:∀a∈l,I64 a.n)(aq:x.f.slots.length=l.length):
  Qe prog 132 [.agg x.cells.toArray,.agg #[.Z op,va]] H λv H'=>Gx 1 5 H H' v (QbS x.f op l).length (bys (QbS x.f op l))∧Ext H H':=by
 refine Qr8 λab=>?_;have ay:(Value.agg x.cells.toArray).cells.toList=x.cells:=rfl;have aj:x.cells.take 10=x.cells:=rfl;have aw:10<=x.cells.length:=Lb _;obtain⟨W,ae⟩:∃W,W=QbS x.f op l:=⟨_,rfl⟩;rw[<- ae];obtain⟨a0,cap,rfl⟩:=Wd ag;simp only[QiV,ay,Wu,simprocAttr];generalize ac:Qa.push H (.cells x.cells 51 false)=H1;have g1:H1.get H.next=some (.cells x.cells 51 false):=by rw[<- ac,Qc,Lc rfl]
 have aG:Ext H H1:=by rw[<- ac];exact(Ext.refl H).push _
 have ar:H1.next=H.next+1:=by rw[<- ac];rfl
 have aE:H1.Wf:=by rw[<- ac];exact ab.push _
 clear ac;simp only[Qb,simprocAttr,ar];generalize aa:Qa.push H1 _=H2;have ah:Ext H H2:=by rw[<- aa];exact(aG.push _)
 have aK:H2.Wf:=by rw[<- aa];exact(aE.push _)
 have ak:H2.get H.next=some (.cells x.cells 51 false):=by rw[<- aa,Qc,Le (by omega)];exact g1
 have al:H2.get (H.next+1)=some (.cells [.Z op,.slice a0 l.length cap] 33 false):=by rw[<- aa,Qc,Lc (by omega)]
 have aI:H2.next=H.next+2:=by rw[<- aa,Qd,ar]
 clear aa;simp only[Qb,simprocAttr,g1,ak,al,Lw,aj];refine⟨aw,by omega,?_⟩;refine(Qnu x H2 (hx.ext ab ah)).thenW ?_;rintro _ _ au aL ⟨rfl,k,rfl⟩;have ai:Ext H2 (H2.up k):=(Ext.refl H2).up au;refine⟨ai.eqB,?_⟩;have am:(H2.up k).get H.next=some (.cells x.cells 51 false):=by rw[Xo];exact ak
 have az:(H2.up k).get (H.next+1)=some (.cells [.Z op,.slice a0 l.length cap] 33 false):=by rw[Xo];exact al
 have aH:H2.next<=k:=au;simp only[Qb,simprocAttr,am,Lw,aj];refine⟨aw,QFl ab hx aC k (by omega),?_⟩;refine(QH x 7 _ (hx.ext ab (ah.trans ai))).thenW ?_;rintro _ _ aD aF ⟨rfl,k2,rfl⟩;have av:Ext H2 ((H2.up k).up k2):=ai.up aD;have an:∀B:Env,B 2=.P H.next->B 3=.P (H.next+1)->FtF H ((H2.up k).up k2) x op (.slice a0 l.length cap) B:=λB e2 e3=>⟨ah.trans av,aF,by rw[Xo];exact am,by rw[Xo];exact az,by have:=av.next;omega,e2,e3⟩;have aJ:=Qsu x.f;have aB:tlF x.f=bif decide (0<=Qy x.f.slots 7) then tl1 x.f+1 else tl1 x.f:=rfl
 simp only[Qb,simprocAttr];refine Qg (λh=>?_) (λh=>?_)
 ·have aA:0<=Qy x.f.slots 7:=Lg h;have ad:tlN x.f=tlF x.f - 1:=Lc aA;rw[h,Lq]at aB;have ax:IntKind.i64.wrap (tlF x.f - 1)=tlN x.f:=by rw[ad,w64 (by unfold I64;omega)]
  simp only[Qb,simprocAttr,ax];refine QLR ab hx ag ap ao aq ae (an _ ?_ ?_) ?_ ?_ ?_
  all_goals simp only[Qf,simprocAttr]
 ·have ad:tlN x.f=tlF x.f:=Le (by have:=Ll h;omega);simp only[Qb,simprocAttr];refine QLR ab hx ag ap ao aq ae (an _ ?_ ?_) ?_ ?_ ?_
  all_goals simp only[Qf,simprocAttr,ad]
def QKk (f:Fm)(l:List Ar):Int:=if 0<=Qy f.slots 1 then Xz (l[(Qy f.slots 1).toNat]?.getD WY).r else f.digit
def Yu (f:Fm)(l:List Ar):List Ld:=
 if Qy f.slots 2<0 then[⟨[],0,0⟩]
 else if((Qqt (QKk f l) (l[(Qy f.slots 2).toNat]?.getD WY)).2==0)=true then(Qqt (QKk f l) (l[(Qy f.slots 2).toNat]?.getD WY)).1 else[]
section
variable {x:Lf} {op:Int} {va:Value} {l:List Ar} {H:Qa}
abbrev KP (H:Qa)(W:List Ld):Env->Qa->Prop:=Rt prog Tryz.f133 H λv H'=>XZ 210 H H' v W∧Ext H H'
theorem QLS (an:H.Wf)(ai:QQ H va l){W:List Ld}{mid:Int}{i:Nat}{a:Ar}(ad:l[i]? = some a)(ab:W=if((Qqt mid a).2==0)=true then(Qqt mid a).1 else[]){A:Env}{H1:Qa}(ah:FtF H H1 x op va A)(r4:A 4=.slice none 0 0)(ao:A 5=.Z i)(ap:A 6=.Z mid):
  Qk prog Ga ⟨KP H W,Xi⟩ (KP H W) A H1:=by
 obtain⟨aa,av,g2,g3,ar,r2,r3⟩:=id ah;have aq:i<l.length:=(Lk.1 ad).1;obtain⟨a0,cap,rfl,ag⟩:=ai;obtain⟨b,e,ro,rfl,ae⟩:=ag (by omega);have aj:H1.get b=some (.cells (Qm l) e ro):=by rw[aa.get b (an.lt ae)];exact ae
 have d1:(0:Int)<=i∧(i:Int)<l.length:=by omega
 have d3:(i:Int).toNat=i:=by omega
 have al:=X4 l i a ad;have ak:i * 11+11<=(Qm l).length:=by rw[Q7];omega
 simp only[Ga,Qb,simprocAttr,r3,ao,ap,g3,d1,d3,aj,al];refine⟨ak,?_⟩;refine(Qyq mid a H1).thenW ?_;rintro _ H2 au aw ⟨v,rfl,am,ac⟩;simp only[Qb,simprocAttr];cases c:(Qqt mid a).2==0 with
 | false=>
  simp only[Qb,simprocAttr,c,Vj];rw[c,Le (by decide)]at ab;exact .mk (aa.trans ac).next ⟨by rw[ab];exact XZ.nil _ _ _,aa.trans ac⟩
 | true=>
  simp only[Qb,simprocAttr,c,Vj];rw[c,Lc rfl]at ab;exact .mk (aa.trans ac).next ⟨by rw[ab];exact am.down aa.next,aa.trans ac⟩
theorem QMF (ad:H.Wf)(hx:x.At H)(ae:QQ H va l)(aK:l.length<=1000)(aL:x.f.slots.length=l.length){W:List Ld}(aJ:0<=Qy x.f.slots 2)(aa:W=Yu x.f l){A:Env}{H1:Qa}(ac:FtF H H1 x op va A)(r4:A 4=.slice none 0 0)(ai:A 5=.Z (Qy x.f.slots 2)):
  Qk prog Gb ⟨KP H W,Xi⟩ (KP H W) A H1:=by
 obtain⟨aD,aO,g2,g3,aM,r2,r3⟩:=id ac;have am:x.cells.take 10=x.cells:=rfl;have aH:x.cells[6]? = some (.Z x.f.digit):=rfl;have aG:10<=x.cells.length:=Lb _;have ay:=Qyj x.f.slots 2;have ax:=Qyj x.f.slots 1;unfold Yu at aa;rw[Le (by omega)]at aa;obtain⟨i,hi⟩:∃i:Nat,Qy x.f.slots 2=i:=⟨(Qy x.f.slots 2).toNat,by omega⟩;rw[hi]at aa ai ay;obtain⟨a,ag⟩:∃a,l[i]? = some a:=⟨_,La (by omega)⟩;have ar:l[(i:Int).toNat]?.getD WY=a:=by rw[show(i:Int).toNat=i by omega,ag];rfl
 rw[ar]at aa;have ab:QKk x.f l=if 0<=Qy x.f.slots 1 then Xz (l[(Qy x.f.slots 1).toNat]?.getD WY).r else x.f.digit:=rfl
 simp only[Gb,Qb,simprocAttr,r2,g2,aH,Lw,am];refine⟨aG,?_⟩;refine(QH x 1 H1 (hx.ext ad aD)).thenW ?_;rintro _ _ az al ⟨rfl,k,rfl⟩;have ah:Ext H1 (H1.up k):=(Ext.refl H1).up az;obtain⟨aE,_,aI,an,aN,_,_⟩:=ac.go ah al rfl rfl;simp only[Qb,simprocAttr];refine Qg (λh=>?_) (λh=>?_)
 ·have ao:0<=Qy x.f.slots 1:=Lg h;rw[Lc ao]at ab;obtain⟨j,av⟩:∃j:Nat,Qy x.f.slots 1=j:=⟨(Qy x.f.slots 1).toNat,by omega⟩;rw[av]at ax ab ⊢;obtain⟨c,aj⟩:∃c,l[j]? = some c:=⟨_,La (by omega)⟩;have au:l[(j:Int).toNat]?.getD WY=c:=by rw[show(j:Int).toNat=j by omega,aj];rfl
  rw[au]at ab;obtain⟨a0,cap,rfl,ap⟩:=id ae;obtain⟨b,e,ro,rfl,ak⟩:=ap (by omega);have aq:(H1.up k).get b=some (.cells (Qm l) e ro):=by rw[aE.get b (ad.lt ak)];exact ak
  have d1:(0:Int)<=j∧(j:Int)<l.length:=by omega
  have d3:(j:Int).toNat=j:=by omega
  have aB:=QgK aj;have aw:j * 11+1+2<=(Qm l).length:=by rw[Q7];omega
  have q:=Qal c.r;simp only[Rg.cells]at q;generalize H1.up k=H2 at *;simp only[Qb,simprocAttr,r3,an,d1,d3,aq,aB];refine⟨aw,?_⟩;refine(q H2).thenW ?_;rintro _ _ aA aC ⟨rfl,k4,rfl⟩;have aF:Ext H1 (H2.up k4):=ah.trans ((Ext.refl H2).up aA);simp only[Qb,simprocAttr];refine QLS ad ae (mid:=Xz c.r) ag (by rw[aa,ab]) (ac.go aF aC ?_ ?_) ?_ ?_ ?_
  all_goals simp only[Qf,simprocAttr,r4,ai]
 ·rw[Le (by have:=Ll h;omega)]at ab;simp only[Qb,simprocAttr];refine QLS ad ae (mid:=x.f.digit) ag (by rw[aa,ab]) (ac.go ah al ?_ ?_) ?_ ?_ ?_
  all_goals simp only[Qf,simprocAttr,r4,ai]
end
theorem Qqu {x:Lf}{op:Int}{va:Value}{l:List Ar}(H:Qa)(hx:x.At H)(al:QQ H va l)(av:l.length<=1000)(aw:x.f.slots.length=l.length):
  Qe prog 133 [.agg x.cells.toArray,.agg #[.Z op,va]] H λv H'=>XZ 210 H H' v (Yu x.f l)∧Ext H H':=by
 refine Qor λah=>?_;have aq:(Value.agg x.cells.toArray).cells.toList=x.cells:=rfl;have ao:x.cells.take 10=x.cells:=rfl;have aB:10<=x.cells.length:=Lb _;obtain⟨W,ae⟩:∃W,W=Yu x.f l:=⟨_,rfl⟩;rw[<- ae];obtain⟨a0,cap,rfl⟩:=Wd al;simp only[QfD,aq,Wu,simprocAttr];generalize ab:Qa.push H (.cells x.cells 51 false)=H1;have g1:H1.get H.next=some (.cells x.cells 51 false):=by rw[<- ab,Qc,Lc rfl]
 have aA:Ext H H1:=by rw[<- ab];exact(Ext.refl H).push _
 have am:H1.next=H.next+1:=by rw[<- ab];rfl
 have ay:H1.Wf:=by rw[<- ab];exact ah.push _
 clear ab;simp only[Qb,simprocAttr,am];generalize aa:Qa.push H1 _=H2;have ac:Ext H H2:=by rw[<- aa];exact(aA.push _)
 have aD:H2.Wf:=by rw[<- aa];exact(ay.push _)
 have ai:H2.get H.next=some (.cells x.cells 51 false):=by rw[<- aa,Qc,Le (by omega)];exact g1
 have aj:H2.get (H.next+1)=some (.cells [.Z op,.slice a0 l.length cap] 33 false):=by rw[<- aa,Qc,Lc (by omega)]
 have aC:H2.next=H.next+2:=by rw[<- aa,Qd,am]
 clear aa;simp only[Qb,simprocAttr,g1,ai,aj,Lw,ao];refine⟨aB,?_⟩;refine(QH x 2 H2 (hx.ext ah ac)).thenW ?_;rintro _ _ ax az ⟨rfl,k,rfl⟩;have ad:Ext H2 (H2.up k):=(Ext.refl H2).up ax;have au:∀B:Env,B 2=.P H.next->B 3=.P (H.next+1)->FtF H (H2.up k) x op (.slice a0 l.length cap) B:=λB e2 e3=>⟨ac.trans ad,az,by rw[Xo];exact ai,by rw[Xo];exact aj,by have:=ad.next;omega,e2,e3⟩;simp only[Qb,simprocAttr];refine Qg (λh=>?_) (λh=>?_)
 ·have ar:Qy x.f.slots 2<0:=Lg h;have ap:W=[⟨[],0,0⟩]:=by rw[ae];unfold Yu;rw[Lc ar]
  simp only[Qb,simprocAttr,Vj];have an:=(ac.trans ad).push (.cells [.slice none 0 0,.Z 0,.Z 0] 210 false);refine .mk an.next ⟨?_,an⟩;rw[ap];refine⟨[.slice none 0 0],rfl,.inr ⟨(H2.up k).next,1,rfl,(ac.trans ad).next,by rw[Qc,Lc rfl];rfl,rfl,.inl rfl⟩,λj s w ag ak=>?_⟩;cases j with
  | zero=>simp at ag ak;subst ag;subst ak;exact .inl ⟨rfl,rfl,rfl⟩
  | succ j=>simp at ag
 ·simp only[Qb,simprocAttr];refine QMF ah hx al av aw (by have:=Ll h;omega) ae (au _ ?_ ?_) ?_ ?_
  all_goals simp only[Qf,simprocAttr]
def Qyr (f:Fm)(s:Int):Bool:=decide (0<=Qy f.shapes s)
def QuG (w:Int)(f:Fm)(d:Int):Bool:=
 if(w==1)=true then Qyr f 26 else if(w==2)=true then Qyr f 27 else if(w==3)=true then(!(Qyr f 21||Qyr f 26)&&((d==4)||(d==-1))) else true
theorem Qys {H:Qa}{v:Value}{l:List Int}(h:Qaa H v l.length (ints l)):QBK H v l:=by
 obtain⟨a,c,rfl,aa⟩:=h;refine⟨a,c,rfl,λad=>?_⟩;obtain⟨b,e,ro,rfl,ab⟩:=aa ad;exact⟨b,e,ro,_,rfl,ab,λj ac=>ZY ac⟩
theorem QoO {x:Lf}(w d:Int)(H:Qa)(hx:x.At H):Qe prog 38 [.Z w,.agg x.cells.toArray,.Z d] H λv H'=>v=.bool (QuG w x.f d)∧Ext H H':=by
 refine QmH λah=>?_;have al:(Value.agg x.cells.toArray).cells.toList=x.cells:=rfl;obtain⟨a1,c1,e1⟩:=Wd hx.2.2.1;have ae:x.cells[1]? = some (.slice a1 x.f.shapes.length c1):=by rw[<- e1];rfl
 obtain⟨W,aa⟩:∃W,W=QuG w x.f d:=⟨_,rfl⟩;rw[<- aa];unfold QuG at aa;have ag:=hx.2.2.1;rw[e1]at ag;simp only[QdV,al,Wu,simprocAttr];generalize ad:Qa.push H (.cells x.cells 51 false)=H1;have g1:H1.get H.next=some (.cells x.cells 51 false):=by rw[<- ad,Qc,Lc rfl]
 have ab:Ext H H1:=by rw[<- ad];exact(Ext.refl H).push _
 have an:H1.Wf:=by rw[<- ad];exact ah.push _
 clear ad;have q:=λs=>QlX _ _ s H1 (Qys (ag.ext ah ab)) hx.1;cases c1:w==1 with
 | true=>
  rw[c1,Lc rfl]at aa;simp only[Qb,simprocAttr,c1,g1,ae];refine(q 26).thenW ?_;rintro _ H2 ac ai ⟨rfl,e2⟩;rw[e2]at ac ⊢;simp only[Qb,simprocAttr,WE];exact .mk ab.next ⟨by rw[aa];rfl,ab⟩
 | false=>
  rw[c1,Le (by decide)]at aa;cases c2:w==2 with
  | true=>
   rw[c2,Lc rfl]at aa;simp only[Qb,simprocAttr,c1,c2,g1,ae];refine(q 27).thenW ?_;rintro _ H2 ac ai ⟨rfl,e2⟩;rw[e2]at ac ⊢;simp only[Qb,simprocAttr,WE];exact .mk ab.next ⟨by rw[aa];rfl,ab⟩
  | false=>
   rw[c2,Le (by decide)]at aa;cases c3:w==3 with
   | false=>
    rw[c3,Le (by decide)]at aa;simp only[Qb,simprocAttr,c1,c2,c3,WE];exact .mk ab.next ⟨by rw[aa],ab⟩
   | true=>
    rw[c3,Lc rfl]at aa;simp only[Qb,simprocAttr,c1,c2,c3,g1,ae];refine(q 21).thenW ?_;rintro _ H2 ac ai ⟨rfl,e2⟩;rw[e2]at ac ⊢;have aj:decide (0<=Qy x.f.shapes 21)=Qyr x.f 21:=rfl;have ak:decide (0<=Qy x.f.shapes 26)=Qyr x.f 26:=rfl;rw[aj];cases k1:Qyr x.f 21 with
    | true=>
     simp only[Qb,simprocAttr,WE];exact .mk ab.next ⟨by rw[aa,k1];rfl,ab⟩
    | false=>
     simp only[Qb,simprocAttr,g1,ae];refine(q 26).thenW ?_;rintro _ H3 am ao ⟨rfl,e3⟩;rw[e3,ak]at *;cases k2:Qyr x.f 26 with
     | true=>
      simp only[Qb,simprocAttr,WE];exact .mk ab.next ⟨by rw[aa,k1,k2];rfl,ab⟩
     | false=>
      cases k3:d==4 with
      | true=>
       simp only[Qb,simprocAttr,k3,WE];exact .mk ab.next ⟨by rw[aa,k1,k2,k3];rfl,ab⟩
      | false=>
       simp only[Qb,simprocAttr,k3,WE];exact .mk ab.next ⟨by rw[aa,k1,k2,k3];simp,ab⟩
theorem QH4 (a:Ar)(H:Qa):Qe prog 285 [.agg a.cells.toArray] H λu H'=>u=.bool (a.k==2)∧Ext H H':=by
 refine QeJ λai=>?_;obtain⟨aa,⟨ag,ah⟩,⟨⟨ab,ac⟩,⟨ad,ae⟩,sc,d,sz⟩,n⟩:=a;simp only[Ar.cells,KA,Qb,simprocAttr,Qdz];have hx:=(Ext.refl H).push (.cells [.Z aa,.Z ag,.Z ah,.Z ab,.Z ac,.Z ad,.Z ae,.Z sc,.Z d,.Z sz,.Z n] 95 false);exact .mk hx.next ⟨rfl,hx⟩
theorem Qyt {g:FuncId}{p:Ar->Bool}(an:∀ (a:Ar) (H:Qa),Qe prog g [.agg a.cells.toArray] H λu H'=>u=.bool (p a)∧Ext H H')(va:Value)(l:List Ar)(H:Qa)(ak:QQ H va l)(ar:l.length<=1000):Qe prog 71 [va,.func (.func g) #[] #[]] H λu H'=>∃r:Int,u=.Z r∧decide (0<=r)=l.any p∧Ext H H':=by
 refine Ky λag=>?_;obtain⟨a0,cap,rfl,aj⟩:=ak;simp only[XC,Qb,simprocAttr,Qr];refine Qp (λm A' H'=>∃i:Nat,i<=l.length∧m=l.length - i∧H'.Wf∧Ext H H'∧A' 0=.slice a0 l.length cap∧A' 1=.func (.func g) #[] #[]∧A' 7=.Z l.length∧A' 8=.Z i∧(l.take i).any p=false) l.length ?_ ?_
 ·refine⟨0,L7 _,by omega,ag,Ext.refl H,?_,?_,?_,?_,by simp⟩
  all_goals simp only[Qf,simprocAttr]
  all_goals rfl
 ·rintro m A' H' ⟨i,hi,rfl,av,hx,r0,r1,ah,r8,ac⟩;simp only[Qb,simprocAttr,ah,r8];refine Qg (λaa=>?_) (λaa=>?_)
  ·have aa:i<l.length:=by have:=Lg aa;omega
   obtain⟨a,ab⟩:∃a,l[i]? = some a:=⟨_,La aa⟩;obtain⟨b,e,ro,rfl,ae⟩:=aj (by omega);have al:H'.get b=some (.cells (Qm l) e ro):=by rw[hx.get b (ag.lt ae)];exact ae
   have ao:=X4 l i a ab;have am:i * 11+11<=(Qm l).length:=by rw[Q7];omega
   have d1:(0:Int)<=i∧(i:Int)<l.length:=by omega
   have d3:(i:Int).toNat=i:=by omega
   have ai:IntKind.i64.wrap ((i:Int)+1)=((i+1:Nat):Int):=by rw[w64 (by unfold I64;omega)];omega
   have ap:l.take (i+1)=l.take i++[a]:=by rw[Nv,ab];rfl
   simp only[Qb,simprocAttr,r0,r1,r8,d1,d3,al,ao,Quz];refine⟨am,?_⟩;refine(an a H').thenW ?_;rintro _ H2 au aq ⟨rfl,ad⟩;cases c:p a with
   | true=>
    simp only[Qb,simprocAttr,Xp];refine .mk (hx.trans ad).next ⟨i,rfl,?_,hx.trans ad⟩;rw[Lp d1.1];exact(Bh.2 ⟨a,Ln ab,c⟩).symm
   | false=>
    simp only[Qb,simprocAttr,r8,ai];refine⟨l.length - (i+1),by omega,i+1,by omega,rfl,aq,hx.trans ad,?_,?_,?_,?_,by rw[ap,Rz,ac];simp[c]⟩
    all_goals simp only[Qf,simprocAttr,r0,r1,ah]
  ·have aa:i=l.length:=by have:=Ll aa;omega
   subst aa;rw[Nr]at ac;simp only[Qb,simprocAttr,Xp];exact .mk hx.next ⟨-1,rfl,by rw[ac];rfl,hx⟩
theorem Qju {g:FuncId}{p:Ar->Bool}(ae:∀ (a:Ar) (H:Qa),Qe prog g [.agg a.cells.toArray] H λu H'=>u=.bool (p a)∧Ext H H')(va:Value)(l:List Ar)(H:Qa)(ac:QQ H va l)(ad:l.length<=1000):Qe prog 39 [va,.func (.func g) #[] #[]] H λu H'=>u=.bool (l.any p)∧Ext H H':=by
 refine Jh λah=>?_;simp only[Xb,Qb,simprocAttr];refine(Qyt ae va l H ac ad).thenW ?_;rintro _ H2 ag ai ⟨r,rfl,ab,aa⟩;simp only[Qb,simprocAttr,ZU];exact .mk aa.next ⟨by rw[ab],aa⟩
def QFp (c:Int):Int:=IntKind.u8.wrap (BitVec.ofInt IntKind.u8.bits c &&& BitVec.ofInt IntKind.u8.bits 7).toNat
def QsI (l:List Ar)(w:Ld):Int:=
 if(!(l.any λa=>a.k==2)||(w.b.length==0))=true then -1 else if(QFp (w.b.getD 0 0)==4)=true then(w.b.length:Int) - 2 else(w.b.length:Int) - 1
theorem Qh4 {op:Int}{va:Value}{l:List Ar}{w:Ld}{v:Value}{H0:Qa}(H:Qa)(aj:QQ H va l)(ax:l.length<=1000)(ay:Gx 1 5 H0 H v w.b.length (bys w.b))(aF:w.b.length<=1000):
  Qe prog 222 [.agg #[.Z op,va],.agg #[v,.Z w.x,.Z w.h]] H λu H'=>u=.Z (QsI l w)∧Ext H H':=by
 refine Qgq λag=>?_;obtain⟨W,aa⟩:∃W,W=QsI l w:=⟨_,rfl⟩;rw[<- aa];unfold QsI at aa;obtain⟨a0,cap,rfl⟩:=Wd aj;obtain⟨a1,c1,rfl,av⟩:∃a c,v=.slice a w.b.length c∧(0<w.b.length->∃b,a=some ⟨b,0,none⟩∧H.get b=some (.cells (bys w.b) 5 false)):=by
  rcases ay with⟨rfl,h,_⟩ | ⟨b,c,rfl,_,h,_,_⟩
  ·exact⟨none,0,by rw[h],λh'=>by omega⟩
  ·exact⟨_,c,rfl,λ_=>⟨b,rfl,h⟩⟩
 simp only[G4,Wu,simprocAttr];generalize ad:Qa.push H _=H1;have g1:H1.get H.next=some (.cells [.Z op,.slice a0 l.length cap] 33 false):=by rw[<- ad,Qc,Lc rfl];rfl
 have aA:Ext H H1:=by rw[<- ad];exact(Ext.refl H).push _
 have al:H1.next=H.next+1:=by rw[<- ad];rfl
 have az:H1.Wf:=by rw[<- ad];exact ag.push _
 clear ad
 try simp only[Qb,simprocAttr,al]
 generalize ac:Qa.push H1 _=H2;have an:Ext H H2:=by rw[<- ac];exact(aA.push _)
 have aD:H2.Wf:=by rw[<- ac];exact(az.push _)
 have ar:H2.get H.next=some (.cells [.Z op,.slice a0 l.length cap] 33 false):=by rw[<- ac,Qc,Le (by omega)];exact g1
 have ai:H2.get (H.next+1)=some (.cells [.slice a1 w.b.length c1,.Z w.x,.Z w.h] 210 false):=by rw[<- ac,Qc,Lc (by omega)]
 have aB:H2.next=H.next+2:=by rw[<- ac,Qd,al]
 clear ac;simp only[Qb,simprocAttr,g1,ar,ai];refine(Qju QH4 _ l H2 (aj.ext ag an) ax).thenW ?_;rintro _ H3 aC aE ⟨rfl,ao⟩;have ab:=an.trans ao;have ae:H3.get (H.next+1)=some (.cells [.slice a1 w.b.length c1,.Z w.x,.Z w.h] 210 false):=by rw[ao.get _ (by omega)];exact ai
 generalize (l.any λa=>a.k==2)=M at *;cases M with
 | false=>
  simp only[Qb,simprocAttr,Xc];exact .mk ab.next ⟨by rw[aa];rfl,ab⟩
 | true=>
  have aq:((w.b.length:Int)==0)=(w.b.length==0):=by
   rw[Ni,L0,L0];omega
  simp only[Qb,simprocAttr,ae,aq];cases c0:w.b.length==0 with
  | true=>
   simp only[Qb,simprocAttr,Xc];exact .mk ab.next ⟨by rw[aa,c0];rfl,ab⟩
  | false=>
   have am:0<w.b.length:=by have:=LC.1 c0;omega
   obtain⟨b,rfl,ak⟩:=av am;have aw:H3.get b=some (.cells (bys w.b) 5 false):=by rw[ab.get b (ag.lt ak)];exact ak
   have au:(bys w.b)[0]? = some (.int .u8 (w.b.getD 0 0)):=by
    simp[bys,LD,LX,La am]
   have d1:(0:Int)<w.b.length:=by omega
   have ap:IntKind.u8.wrap (BitVec.ofInt IntKind.u8.bits (w.b.getD 0 0) &&& BitVec.ofInt IntKind.u8.bits 7).toNat=QFp (w.b.getD 0 0):=rfl;rw[c0,L8,NI,Le (by decide)]at aa;simp only[sxA,sxB,Nat.reduceBEq,Nat.reduceEqDiff,reduceCtorEq,mxA,mxB,Nat.reduceAdd,reduceIte,Nat.reduceLeDiff,splice,ae,aw,d1];refine⟨B0 0,_,au,?_⟩;simp only[Qb,simprocAttr,ap];have e2:IntKind.i64.wrap ((w.b.length:Int) - 2)=(w.b.length:Int) - 2:=w64 (by unfold I64;omega);have e1:IntKind.i64.wrap ((w.b.length:Int) - 1)=(w.b.length:Int) - 1:=w64 (by unfold I64;omega);cases ah:QFp (w.b.getD 0 0)==4 with
   | true=>
    rw[ah,Lc rfl]at aa;simp only[Qb,simprocAttr,ae,e2,Xc];exact .mk ab.next ⟨by rw[aa],ab⟩
   | false=>
    rw[ah,Le (by decide)]at aa;simp only[Qb,simprocAttr,ae,e1,Xc];exact .mk ab.next ⟨by rw[aa],ab⟩
theorem QtQ {x:Lf}{op:Int}{va:Value}(H:Qa):Qe prog 105 [.agg x.cells.toArray,.agg #[.Z op,va]] H λu H'=>u=.func (.func 131) #[] #[.P H.next,.P (H.next+1)]∧Ext H H'∧H.next+2<=H'.next∧H'.get H.next=some (.cells x.cells 51 false)∧H'.get (H.next+1)=some (.cells (Value.agg #[.Z op,va]).cells.toList 33 false):=by
 refine Qr6 λab=>?_;have aa:(Value.agg x.cells.toArray).cells.toList=x.cells:=rfl;simp only[QiT,aa,Wu,simprocAttr];have hx:=((Ext.refl H).push (.cells x.cells 51 false)).push (.cells (Value.agg #[.Z op,va]).cells.toList 33 false);simp only[Qb,simprocAttr,Qqe];refine .mk hx.next ⟨rfl,hx,by simp only[Qd];omega,?_,?_⟩
 ·rw[Qc,Le (by rw[Qd];omega),Qc,Lc rfl]
 ·rw[Qc,Lc (by rw[Qd])]
theorem QnD {x:Lf}{op:Int}{va s aa:Value}{ac ab:Int}(H:Qa)(ag:s.oneCell'=true)(ae:aa.cells.toList=[aa]):Qe prog 134 [.agg x.cells.toArray,.agg #[.Z op,va],.agg #[s,.Z ac,.Z ab],aa] H λu H'=>u=.func (.func 221) #[] #[.P (H.next+1),.P (H.next+2),.P H.next,.P (H.next+3)]∧Ext H H'∧H.next+4<=H'.next∧H'.get H.next=some (.cells x.cells 51 false)∧H'.get (H.next+1)=some (.cells (Value.agg #[.Z op,va]).cells.toList 33 false)∧H'.get (H.next+2)=some (.cells (Value.agg #[s,.Z ac,.Z ab]).cells.toList 210 false)∧H'.get (H.next+3)=some (.cells [aa] 22 false):=by
 refine Qly λah=>?_;have ad:(Value.agg x.cells.toArray).cells.toList=x.cells:=rfl;have hx:=((((Ext.refl H).push (.cells x.cells 51 false)).push (.cells (Value.agg #[.Z op,va]).cells.toList 33 false)).push (.cells (Value.agg #[s,.Z ac,.Z ab]).cells.toList 210 false)).push (.cells [aa] 22 false);simp only[QcK,ad,Wu,simprocAttr];simp only[Qb,simprocAttr,Qj3,ae];refine .mk hx.next ⟨rfl,hx,by simp only[Qd];omega,?_,?_,?_,?_⟩
 ·rw[Qc,Le (by simp only[Qd];omega),Qc,Le (by simp only[Qd];omega),Qc,Le (by simp only[Qd];omega),Qc,Lc rfl]
 ·rw[Qc,Le (by simp only[Qd];omega),Qc,Le (by simp only[Qd];omega),Qc,Lc (by simp only[Qd])]
 ·rw[Qc,Le (by simp only[Qd];omega),Qc,Lc (by simp only[Qd])]
 ·rw[Qc,Lc (by simp only[Qd])]
def QFq (P:Program)(ty:TypeId)(size:Nat):Bool:=match P.underlying ty with | some (.slice e)=>(match P.info? e with | some aa=>Nat.beq aa.size size | none=>false) | _=>false
theorem QAI {P:Program}{A:Env}{H:Qa}{k:Value->Qa->Prop}{ty:TypeId}{size:Nat}{x hi mx:Operand}{k1 k2:IntKind}{n:Int}{u v:Value}(aa:QFq P ty size=true)(hx:ev A x=u)(ae:ev A hi=.int k1 n)(ag:ev A mx=.int k2 n)(ah:Y3 size u none (some n) (some n)=some v):
  pr P (.gen (.slice ty x none (some hi) (some mx))) false A H k=k v H:=by
 unfold QFq at aa;split at aa
 ·rename_i e ac;split at aa
  ·rename_i ai ad;have e0:ai.size=size:=LA aa;subst e0;exact K6 (by
    have b1:QS A (some hi)=some (some n):=by simp[QS,ae]
    have ab:QS A (some mx)=some (some n):=by simp[QS,ag]
    have b0:QS A none=some none:=rfl;simp only[rop,aop,Qgk,ac,ad,b0,b1,ab,hx,X9,ah];rfl)
  ·cases aa
 ·cases aa
def Qf8 (f:Fm)(l:List Ar):Int:=if 0<=Qy f.slots 4 then IntKind.u8.wrap (IntKind.u8.wrap f.code+IntKind.u8.wrap (Xz (l[(Qy f.slots 4).toNat]?.getD WY).r)) else IntKind.u8.wrap f.code
def QgN (f:Fm)(l:List Ar)(e:List Int)(w:Ld):List Ld:=(QgL f l w.x w.h).map λaa=>⟨aa++[Qf8 f l]++w.b++e,0,QsI l w⟩
theorem QFr (p r:Int):(QfZ p r).length<=4:=by
 unfold QfZ QJ7
 repeat' split
 all_goals simp
theorem QFs (m:Int):(QgJ m).length<=2:=by
 unfold QgJ
 repeat' split
 all_goals simp
theorem QuH (f:Fm)(l:List Ar)(a b:Int):(QgL f l a b).length<=3∧∀aa∈QgL f l a b,aa.length<=6:=by
 unfold QgL;split
 ·unfold QAE;cases f.w==-1<;>(repeat' split)<;>simp[Qf0]
 ·refine⟨?_,λaa h=>?_⟩
  ·rw[Nn];unfold chF;repeat' split
   all_goals simp
  ·obtain⟨n,_,rfl⟩:=N4.1 h;have:=QFr f.pre n;have:=QFs f.map;rw[Lh];omega
structure PfF (Hz Hs H:Qa) (x:Lf) (op:Int) (va:Value) (p1 p2 p3 p4:Nat) (s tl:Value) (w:Ld) (e:List Int):Prop where
 z:Ext Hz H
 wf:H.Wf
 g1:H.get p1=some (.cells [.Z op,va] 33 false)
 g2:H.get p2=some (.cells [s,.Z w.x,.Z w.h] 210 false)
 g3:H.get p3=some (.cells x.cells 51 false)
 g4:H.get p4=some (.cells [tl] 22 false)
 s:Gx 1 5 Hs H s w.b.length (bys w.b)
 t:Gx 1 5 Hs H tl e.length (bys e)
structure PfO (Own:Nat->Prop) (Hz:Qa) (p1 p2 p3 p4:Nat) (s tl:Value):Prop where
 z:∀id,id<Hz.next->¬Own id
 o1:¬Own p1
 o2:¬Own p2
 o3:¬Own p3
 o4:¬Own p4
 s:∀id,inB s id->¬Own id
 t:∀id,inB tl id->¬Own id
section
variable {Hz Hs H:Qa} {x:Lf} {op:Int} {va:Value} {p1 p2 p3 p4:Nat} {s tl:Value} {w:Ld} {e:List Int} {Own:Qa->Nat->Prop}
theorem PfF.ck {H':Qa}(h:PfF Hz Hs H x op va p1 p2 p3 p4 s tl w e)(ab:PfO (Own H) Hz p1 p2 p3 p4 s tl)(aa:CK Own H H'):PfF Hz Hs H' x op va p1 p2 p3 p4 s tl w e:=by
 have ad:=aa.next;have ae:=h.z.next;refine⟨⟨by omega,λid ac=>?_⟩,aa.w,?_,?_,?_,?_,?_,?_⟩
 ·rw[aa.keep id (by omega) (ab.z id ac)];exact h.z.get id ac
 ·rw[aa.keep _ (h.wf.lt h.g1) ab.o1];exact h.g1
 ·rw[aa.keep _ (h.wf.lt h.g2) ab.o2];exact h.g2
 ·rw[aa.keep _ (h.wf.lt h.g3) ab.o3];exact h.g3
 ·rw[aa.keep _ (h.wf.lt h.g4) ab.o4];exact h.g4
 ·exact h.s.ext λid hi=>aa.keep id (h.s.low h.wf hi).2 (ab.s id hi)
 ·exact h.t.ext λid hi=>aa.keep id (h.t.low h.wf hi).2 (ab.t id hi)
theorem PfO.sub {O O':Nat->Prop}(h:PfO O Hz p1 p2 p3 p4 s tl)(ab:∀id,O' id->O id):PfO O' Hz p1 p2 p3 p4 s tl:=
 ⟨λid aa ac=>h.z id aa (ab _ ac),λaa=>h.o1 (ab _ aa),λaa=>h.o2 (ab _ aa),λaa=>h.o3 (ab _ aa),λaa=>h.o4 (ab _ aa),λid aa ac=>h.s id aa (ab _ ac),λid aa ac=>h.t id aa (ab _ ac)⟩
theorem VO.keep2 {e:TypeId}{H0 H H':Qa}{v:Value}{ws:List (List Int)}(h:VO e H0 H v ws)(aa:H.Wf)(ag:∀id,H0.next<=id->id<H.next->H'.get id=H.get id):VO e H0 H' v ws:=by
 obtain⟨ss,ah,ab,ac⟩:=h.it;exact⟨h.ne,ss,ah,ab.ext λid hi=>ag id (ab.low aa hi).1 (ab.low aa hi).2,λj s w ad ae=>(ac j s w ad ae).ext λid hi=>ag id ((ac j s w ad ae).low aa hi).1 ((ac j s w ad ae).low aa hi).2⟩
theorem QLT {base ax:Nat}{R:Nat->Qa->Prop}{l:List Ar}(ad:Cns base ax (QgN x.f l e w) LdV R Own)(bR:base<=H.next)(br:FOk x.f)(hx:x.At Hz)(aE:QQ Hz va l)(aS:Hz.Wf)(au:∀n,Hz.next<=n->Qj n 6 (.agg #[.Z op,va])=true)(b7:l.length<=1000)(b8:x.f.slots.length=l.length)
  (bH:0<=w.x∧w.x<2) (bG:0<=w.h∧w.h<2) (bI:x.f.vex=true->(vxF x.f l w.x w.h).Ok) (ca:w.b.length<=1000) (bT:e.length<=2000)
  {H1:Qa} (aC:PfF Hz Hs H1 x op va p1 p2 p3 p4 s tl w e) (aO:PfO (Own H1) Hz p1 p2 p3 p4 s tl) (ao:R 0 H1) (aJ:CK Own H H1)
  {A:Env} (r0:A 0=.func (.yield ax) #[] #[]) (r1:A 1=.P p1) (r2:A 2=.P p2) (r3:A 3=.P p3) (r4:A 4=.P p4) (ak:A 6=.Z (QsI l w)) (al:A 7=.int .u8 (Qf8 x.f l)):
  Qk prog Zh ⟨Rt prog Tryz.f221 H λu H'=>R (QgN x.f l e w).length H'∧CK Own H H',Xi⟩ (Rt prog Tryz.f221 H λu H'=>R (QgN x.f l e w).length H'∧CK Own H H') A H1:=by
 obtain⟨aw,aR,g1,g2,g3,g4,b9,bY⟩:=id aC;have bc:x.cells.take 10=x.cells:=rfl;have bJ:10<=x.cells.length:=Lb _;obtain⟨bM,sc,rfl⟩:=b9.slc;obtain⟨a0,cap,rfl⟩:=Wd aE;simp only[Zh,Qb,simprocAttr,r1,r2,r3,g1,g2,g3,Lw,bc];refine⟨bJ,?_⟩;have au:=λn (h:H1.next<=n)=>au n (N8 aw.next h);refine(Qsz br H1 (hx.ext aS aw) (aE.ext aS aw) au b7 b8 bH bG bI).thenW ?_;rintro v H2 bV ag ⟨aQ,aT⟩;obtain⟨aY,bN,rfl⟩:=aQ.slc;obtain⟨aD,aB⟩:=ad.ext _ _ _ ao aR aT;have aq:=ad.ck ao aR aT ag;have bm:=aC.ck aO aq;obtain⟨bS,bq⟩:=QuH x.f l w.x w.h;generalize aH:QgL x.f l w.x w.h=hd at *;simp only[Qb,simprocAttr,Qr];refine Qp (λm A' H'=>∃i:Nat,i<=hd.length∧m=hd.length - i∧R i H'∧CK Own H2 H'∧A' 0=.func (.yield ax) #[] #[]∧A' 2=.P p2∧A' 4=.P p4∧A' 6=.Z (QsI l w)∧A' 7=.int .u8 (Qf8 x.f l)∧A' 35=.slice aY hd.length bN∧A' 36=.Z hd.length∧A' 37=.Z i) hd.length ?_ ?_
 ·refine⟨0,L7 _,by omega,aD,ad.ck aD ag (.refl _) ag,?_,?_,?_,?_,?_,?_,?_,?_⟩
  all_goals simp only[Qf,simprocAttr,r0,r2,r4,ak,al]
  all_goals rfl
 ·rintro m A' H' ⟨i,hi,rfl,am,ae,r0,r2,r4,ak,al,aX,ay,az⟩;have ac:=ae.w;simp only[Vm,Qb,simprocAttr,ay,az];refine Qg (λab=>?_) (λab=>?_)
  ·have ab:i<hd.length:=by have:=Lg ab;omega
   simp only[Vl,Qb,simprocAttr,r0,r2,r4,ak,al,aX,ay,az];obtain⟨ss,bX,b4,ap⟩:=aQ.it;obtain⟨b,bp,rfl,aG⟩:∃b,H1.next<=b∧aY=some ⟨b,0,none⟩∧H2.get b=some (.cells ss 22 false):=by
    rcases b4 with⟨h,h',_⟩ | ⟨b,c,h,bK,bL,_⟩
    ·omega
    ·cases h;exact⟨b,bK,rfl,bL⟩
   have aN:∀id,H1.next<=id->¬Own H2 id:=λid bQ ab=>by have:=ad.low _ _ _ ao (aB _ ab);omega
   have b3:H'.get b=some (.cells ss 22 false):=by rw[ae.keep _ (ag.lt aG) (aN _ bp)];exact aG
   obtain⟨sv,an⟩:∃sv,ss[i]? = some sv:=⟨_,La (by omega)⟩;obtain⟨aa,ai⟩:∃bh,hd[i]? = some bh:=⟨_,La ab⟩;have aP:=(ap i sv aa an ai).ext (H':=H') λid aI=>ae.keep id ((ap i sv aa an ai).low ag aI).2 (aN _ ((ap i sv aa an ai).low ag aI).1);have bU:=bq aa (Ln ai);have d1:(0:Int)<=i∧(i:Int)<hd.length:=by omega
   have d3:(i:Int).toNat=i:=by omega
   have bd:IntKind.i64.wrap ((i:Int)+1)=((i+1:Nat):Int):=by rw[w64 (by unfold I64;omega)];omega
   obtain⟨aZ,ba,rfl⟩:=aP.slc;have aM:aa.length<UNK:=by unfold UNK;omega
   obtain⟨af,bw,bu⟩:=QHA aP aM;have bD:QFq prog 22 1=true:=by kernel_rfl
   have ah:=bm.ck (aO.sub aB) ae;simp only[Qb,simprocAttr,d1,d3,b3,an,Qr];rw[QAI (k1:=.i64) (k2:=.i64) (n:=(aa.length:Int)) (u:=.slice aZ aa.length ba) bD (by simp only[Qf,simprocAttr]) (by simp only[Qf,simprocAttr]) (by simp only[Qf,simprocAttr]) bw];simp only[Qb,simprocAttr,al];have aj:=(Ext.refl H').push (.cells [.int .u8 (Qf8 x.f l)] 5 false);have bE:=ac.push (.cells [.int .u8 (Qf8 x.f l)] 5 false);have bx:=QsH H' (Qf8 x.f l);generalize H'.push _=H4 at *;refine QEZ (bu.go ac aj) ⟨af,rfl⟩ bE bx.src (Qb5 _) (by decide) (by rw[ZR];rfl) (by omega) (by omega) aM ?_;rintro cb H5 bz aW bF ⟨bO,rfl⟩;have aA:=ah.g2;have aU:=aj.trans aW;have bi:H5.get p2=some (.cells [.slice bM w.b.length sc,.Z w.x,.Z w.h] 210 false):=by rw[aU.get _ (ac.lt aA)];exact aA
   have bA:=ah.s.go ac aU;simp only[Qb,simprocAttr,r2,bi];refine Qdk bz aW bF bA.src (Qb5 _) (by rw[ZR,NH]) (by omega) (by omega) ?_;intro cc H6 b2 ar;have aV:=aj.trans ar.x;have bg:H6.get p4=some (.cells [tl] 22 false):=by rw[aV.get _ (ac.lt ah.g4)];exact ah.g4
   have bC:=ah.t.go ac aV;simp only[Qb,simprocAttr,r4,bg];refine Qdk b2 ar.x ar.w bC.src (Qb5 _) (by rw[ZR,NH]) (by omega) (by omega) ?_;intro cd H7 aF aK;have av:=aj.trans aK.x;obtain⟨a7,bP,rfl⟩:=aF.slc;have b5:(QgN x.f l e w)[i]? = some ⟨aa++[Qf8 x.f l]++w.b++e,0,QsI l w⟩:=by unfold QgN;rw[LD,aH,ai];rfl
   obtain⟨bn,bj⟩:=ad.ext _ _ _ am ac av;simp only[Qb,simprocAttr,r0,ak,Zz];refine QgM (ad.go _ _ H' H7 _ b5 bn am ac ⟨_,rfl,?_⟩ (by have:=aJ.next;have:=aq.next;have:=ae.next;omega) av bj) ?_
   ·have e1:(aa++[Qf8 x.f l]++w.b++e).length=aa.length+1+w.b.length+e.length:=by simp only[Lh,Lo,L9]
    have e2:bys (aa++[Qf8 x.f l]++w.b++e)=bys aa++bys [Qf8 x.f l]++bys w.b++bys e:=by rw[Qb4,Qb4,Qb4]
    show Gx 1 5 H' H7 _ (aa++[Qf8 x.f l]++w.b++e).length (bys (aa++[Qf8 x.f l]++w.b++e));rw[e1,e2];exact aF.down aj.next
   rintro _ H8 bW bZ ⟨rfl,bo,b6⟩;simp only[Qb,simprocAttr,L8,az,bd];refine⟨hd.length - (i+1),by omega,i+1,by omega,rfl,bo,(ae.trans (ad.ck am ac av aK.w)).trans b6,?_,?_,?_,?_,?_,?_,?_,?_⟩
   all_goals simp only[Qf,simprocAttr,r0,r2,r4,ak,al,aX,ay]
  ·have ab:i=hd.length:=by have:=Ll ab;omega
   subst ab;simp only[Qb,simprocAttr,Qh1];have aL:=(aJ.trans aq).trans ae;exact .mk aL.next ⟨by unfold QgN;rw[Nn,aH];exact am,aL⟩
theorem Qyu {base aN:Nat}{R:Nat->Qa->Prop}{l:List Ar}(aa:Cns base aN (QgN x.f l e w) LdV R Own)(ay:base<=H.next)(aA:FOk x.f)(hx:x.At Hz)(ac:QQ Hz va l)(ad:Hz.Wf)(aH:∀n,Hz.next<=n->Qj n 6 (.agg #[.Z op,va])=true)(aj:l.length<=1000)(aD:x.f.slots.length=l.length)
  (aJ:0<=w.x∧w.x<2) (aI:0<=w.h∧w.h<2) (aM:x.f.vex=true->(vxF x.f l w.x w.h).Ok) (ao:w.b.length<=1000) (az:e.length<=2000)
  (ar:PfF Hz Hs H x op va p1 p2 p3 p4 s tl w e) (aE:PfO (Own H) Hz p1 p2 p3 p4 s tl) (av:R 0 H):
  Qe prog 221 [.func (.yield aN) #[] #[],.P p1,.P p2,.P p3,.P p4] H λu H'=>R (QgN x.f l e w).length H'∧CK Own H H':=by
 refine Qi2 λal=>?_;obtain⟨bj,b8,g1,g2,g3,g4,aG,b5⟩:=id ar;have aq:x.cells.take 10=x.cells:=rfl;have bo:10<=x.cells.length:=Lb _;have bp:x.cells[5]? = some (.Z x.f.code):=rfl;obtain⟨b9,sc,rfl⟩:=aG.slc;obtain⟨a0,cap,rfl⟩:=Wd ac;simp only[QaK,Qb,simprocAttr,g1,g2,g3,Lw,aq];refine⟨al.lt g3,?_⟩;refine(Qh4 H (ac.ext ad bj) aj aG ao).thenW ?_;rintro _ H2 b2 am ⟨rfl,ap⟩;obtain⟨aw,aT⟩:=aa.ext _ _ _ av al ap;have ah:=aa.ck av al ap am;have au:=ar.ck aE ah;have aF:=aE.sub aT;obtain⟨bm,_,bq,br,aQ,bx,b3,b6⟩:=id au;simp only[Qb,simprocAttr,aQ,bp,Lw,aq];refine⟨ap.eqB,by simp[Qj,Ab.plain],bo,?_⟩;refine(QH x 4 H2 (hx.ext ad bm)).thenW ?_;rintro _ _ bd an ⟨rfl,k,rfl⟩;have aK:Ext H2 (H2.up k):=(Ext.refl H2).up bd;obtain⟨ag,aU⟩:=aa.ext _ _ _ aw am aK;have ai:=aa.ck aw am aK an;have ae:=au.ck aF ai;have ak:=aF.sub aU;obtain⟨bn,_,aP,bu,bw,bz,b4,b7⟩:=id ae;generalize H2.up k=H3 at *;have bc:=Qyj x.f.slots 4;have ab:Qf8 x.f l=if 0<=Qy x.f.slots 4 then IntKind.u8.wrap (IntKind.u8.wrap x.f.code+IntKind.u8.wrap (Xz (l[(Qy x.f.slots 4).toNat]?.getD WY).r)) else IntKind.u8.wrap x.f.code:=rfl
 simp only[Qb,simprocAttr];refine Qg (λh=>?_) (λh=>?_)
 ·have aR:0<=Qy x.f.slots 4:=Lg h;rw[Lc aR]at ab;obtain⟨j,aZ⟩:∃j:Nat,Qy x.f.slots 4=j:=⟨(Qy x.f.slots 4).toNat,by omega⟩;rw[aZ]at bc ab ⊢;obtain⟨c,ax⟩:∃c,l[j]? = some c:=⟨_,La (by omega)⟩;have aY:l[(j:Int).toNat]?.getD WY=c:=by rw[show(j:Int).toNat=j by omega,ax];rfl
  rw[aY]at ab;obtain⟨b,e',ro,aO,aB⟩:=(show 0<l.length->∃b e' ro,a0=some ⟨b,0,none⟩∧Hz.get b=some (.cells (Qm l) e' ro) by obtain⟨_,_,e0,aS⟩:=ac;cases e0;exact aS) (by omega);subst aO;have aX:H3.get b=some (.cells (Qm l) e' ro):=by rw[bn.get b (ad.lt aB)];exact aB
  have d1:(0:Int)<=j∧(j:Int)<l.length:=by omega
  have d3:(j:Int).toNat=j:=by omega
  have bh:=QgK ax;have ba:j * 11+1+2<=(Qm l).length:=by rw[Q7];omega
  have q:=Qal c.r;simp only[Rg.cells]at q;simp only[Qb,simprocAttr,aP,d1,d3,aX,bh];refine⟨ba,?_⟩;refine(q H3).thenW ?_;rintro _ _ bg bi ⟨rfl,k4,rfl⟩;have aL:Ext H3 (H3.up k4):=(Ext.refl H3).up bg;obtain⟨aW,aV⟩:=aa.ext _ _ _ ag an aL;have aC:=aa.ck ag an aL bi;simp only[Qb,simprocAttr];refine QLT aa ay aA hx ac ad aH aj aD aJ aI aM ao az (ae.ck ak aC) (ak.sub aV) aW ((ah.trans ai).trans aC) ?_ ?_ ?_ ?_ ?_ ?_ ?_
  all_goals simp only[Qf,simprocAttr]
  rw[ab]
 ·rw[Le (by have:=Ll h;omega)]at ab;simp only[Qb,simprocAttr];refine QLT aa ay aA hx ac ad aH aj aD aJ aI aM ao az ae ak ag (ah.trans ai) ?_ ?_ ?_ ?_ ?_ ?_ ?_
  all_goals simp only[Qf,simprocAttr]
  rw[ab]
end
theorem QsJ:∀ (ss:List Value) (ws:List Ld) (i:Nat) (s:Value) (w:Ld),ss[i]? = some s->ws[i]? = some w->((ldC ss ws).drop (i * 3)).take 3=[s,.Z w.x,.Z w.h]
 | [],_,_,_,_,h,_=>by simp at h
 | _::_,[],_,_,_,_,h=>by simp at h
 | s::ss,w::ws,0,_,_,h1,h2=>by cases h1;cases h2;rfl
 | s::ss,w::ws,i+1,s',w',h1,h2=>by
  have e:ldC (s::ss) (w::ws)=[s,.Z w.x,.Z w.h]++ldC ss ws:=rfl;rw[e,show(i+1) * 3=3+i * 3 by omega,<- Rc];exact QsJ ss ws i s' w' h1 h2
structure QH5 (base lb:Nat) (items:List Ld) (Hz:Qa) (x:Lf) (op:Int) (va:Value) (e:List Int) (R:Nat->Qa->Prop) (Own:Qa->Nat->Prop):Prop where
 ext:∀j H H',R j H->H.Wf->Ext H H'->R j H'∧∀id,Own H' id->Own H id
 low:∀j H id,R j H->Own H id->id<H.next
 go:∀j w H Hs p1 p2 p3 p4 s tl,items[j]? = some w->R j H->PfF Hz Hs H x op va p1 p2 p3 p4 s tl w e->PfO (Own H) Hz p1 p2 p3 p4 s tl->base<=H.next->YQ prog lb [.func (.func 221) #[] #[.P p1,.P p2,.P p3,.P p4]] H λu H'=>u=.bool true∧R (j+1) H'∧CK Own H H'
theorem QH5.ck {base ag:Nat}{ae:List Ld}{Hz:Qa}{x:Lf}{op:Int}{va:Value}{e:List Int}{R:Nat->Qa->Prop}{Own:Qa->Nat->Prop}(h:QH5 base ag ae Hz x op va e R Own){j:Nat}{H H':Qa}(ab:R j H)(ac:H.Wf)(hx:Ext H H')(ad:H'.Wf):CK Own H H':=
 ⟨hx.next,ad,λid aa _=>hx.get id aa,λid aa=>.inl ((h.ext j H H' ab ac hx).2 id aa)⟩
theorem XZ.keep2 {e:TypeId}{H0 H H':Qa}{v:Value}{ws:List Ld}(h:XZ e H0 H v ws)(aa:H.Wf)(ag:∀id,H0.next<=id->id<H.next->H'.get id=H.get id):XZ e H0 H' v ws:=by
 obtain⟨ss,ah,ab,ac⟩:=h.it;exact⟨ss,ah,ab.ext λid hi=>ag id (ab.low aa hi).1 (ab.low aa hi).2,λj s w ad ae=>(ac j s w ad ae).ext λid hi=>ag id ((ac j s w ad ae).low aa hi).1 ((ac j s w ad ae).low aa hi).2⟩
theorem QH6 {base aM ag ah:Nat}{x:Lf}{op:Int}{va:Value}{l:List Ar}{Hz H:Qa}{R:Nat->Qa->Prop}{Own:Qa->Nat->Prop}(ad:QH5 base aM (Yu x.f l) Hz x op va (QbS x.f op l) R Own)(bT:base<=H.next)(hx:x.At Hz)(bC:x.Fr 0)(aJ:QQ Hz va l)(az:Hz.Wf)(cd:∀n,Hz.next<=n->Qj n 6 (.agg #[.Z op,va])=true)(aY:l.length<=1000)(b4:∀a∈l,I64 a.n)(aZ:x.f.slots.length=l.length)(cb:(Yu x.f l).length<=1000)
  (aB:Ext Hz H) (bn:∀id,id<Hz.next->¬Own H id) (al:H.get ag=some (.cells x.cells 51 false)) (am:H.get ah=some (.cells [.Z op,va] 33 false)) (of:¬Own H ag) (bP:¬Own H ah) (aI:R 0 H):
  Qe prog 131 [.func (.yield aM) #[] #[],.P ag,.P ah] H λu H'=>R (Yu x.f l).length H'∧CK Own H H':=by
 refine Qoq λak=>?_;have aF:x.cells.take 10=x.cells:=rfl;have aL:10<=x.cells.length:=Lb _;obtain⟨a0,cap,rfl⟩:=Wd aJ;simp only[Qfz,Qb,simprocAttr,al,am,Lw,aF];refine⟨aL,?_⟩;refine(QtO H (hx.ext az aB) bC (aJ.ext az aB) aY b4 aZ).thenW ?_;rintro ci H2 bV bK ⟨bg,ar⟩;obtain⟨aD,aE,rfl⟩:=bg.slc;have bz:H2.get ag=some (.cells x.cells 51 false):=by rw[ar.get _ (ak.lt al)];exact al
 have b2:H2.get ah=some (.cells [.Z op,.slice a0 l.length cap] 33 false):=by rw[ar.get _ (ak.lt am)];exact am
 have bm:=aB.trans ar;simp only[Qb,simprocAttr,bz,b2,Lw,aF];refine⟨aL,?_⟩;refine(Qqu H2 (hx.ext az bm) (aJ.ext az bm) aY aZ).thenW ?_;rintro cj H3 bW ab ⟨ay,bi⟩;have au:=ar.trans bi;have aq:=bg.go bK bi;obtain⟨aU,ao⟩:=ad.ext _ _ _ aI ak au;have aW:=ad.ck aI ak au ab;have ay:=ay.down ar.next;have aw:∀id,H.next<=id->¬Own H3 id:=λid aG ac=>by have:=ad.low _ _ _ aI (ao _ ac);omega
 obtain⟨bp,bS,rfl⟩:=ay.slc;have aC:=aB.trans au;have aQ:H3.get ag=some (.cells x.cells 51 false):=by rw[au.get _ (ak.lt al)];exact al
 have aS:H3.get ah=some (.cells [.Z op,.slice a0 l.length cap] 33 false):=by rw[au.get _ (ak.lt am)];exact am
 generalize cc:Yu x.f l=W at *;simp only[Qb,simprocAttr,Qr];refine Qp (λm A' H'=>∃i:Nat,i<=W.length∧m=W.length - i∧R i H'∧CK Own H3 H'∧A' 0=.func (.yield aM) #[] #[]∧A' 1=.P ag∧A' 2=.P ah∧A' 4=.slice aD (QbS x.f op l).length aE∧A' 12=.slice bp W.length bS∧A' 13=.Z W.length∧A' 14=.Z i) W.length ?_ ?_
 ·refine⟨0,L7 _,by omega,aU,ad.ck aU ab (.refl _) ab,?_,?_,?_,?_,?_,?_,?_⟩
  all_goals simp only[Qf,simprocAttr]
  all_goals rfl
 ·rintro m A' H' ⟨i,hi,rfl,av,ae,r0,r1,r2,r4,bo,r13,aN⟩;have ai:=ae.w;simp only[Qb,simprocAttr,r13,aN];refine Qg (λac=>?_) (λac=>?_)
  ·have ac:i<W.length:=by have:=Lg ac;omega
   obtain⟨ss,bI,bF,bE⟩:=ay.it;obtain⟨b,bA,rfl,aV⟩:∃b,H.next<=b∧bp=some ⟨b,0,none⟩∧H3.get b=some (.cells (ldC ss W) 210 false):=by
    rcases bF with⟨h,h',_⟩ | ⟨b,c,h,bQ,bR,_⟩
    ·omega
    ·cases h;exact⟨b,bQ,rfl,bR⟩
   have bD:H'.get b=some (.cells (ldC ss W) 210 false):=by rw[ae.keep _ (ab.lt aV) (aw _ bA)];exact aV
   obtain⟨sv,bd⟩:∃sv,ss[i]? = some sv:=⟨_,La (by omega)⟩;obtain⟨w,aK⟩:∃w,W[i]? = some w:=⟨_,La ac⟩;have ap:=bE i sv w bd aK;have bc:=ap.ext (H':=H') λid aa=>ae.keep id (ap.low ab aa).2 (aw _ (ap.low ab aa).1);have bJ:=aq.ext (H':=H') λid aa=>ae.keep id (aq.low ab aa).2 (aw _ (aq.low ab aa).1);have b9:=QsJ ss W i sv w bd aK;have bU:(ldC ss W).length=W.length * 3:=by rw[QnC _ _ bI]
   have d1:(0:Int)<=i∧(i:Int)<W.length:=by omega
   have d3:(i:Int).toNat=i:=by omega
   have bq:IntKind.i64.wrap ((i:Int)+1)=((i+1:Nat):Int):=by rw[w64 (by unfold I64;omega)];omega
   have aR:H'.get ag=some (.cells x.cells 51 false):=by rw[ae.keep _ (ab.lt aQ) (λh=>of (ao _ h))];exact aQ
   have aT:H'.get ah=some (.cells [.Z op,.slice a0 l.length cap] 33 false):=by rw[ae.keep _ (ab.lt aS) (λh=>bP (ao _ h))];exact aS
   obtain⟨aO,aP,rfl⟩:=bc.slc;have cg:=ai.lt aR;have ch:=ai.lt aT;have bN:¬ag=H'.next:=by omega
   have bO:¬ah=H'.next:=by omega
   simp only[Qb,simprocAttr,r0,r1,r2,r4,bo,r13,aN,d1,d3,bD,b9,bN,bO,LN,aR,aT,Lw,aF];refine⟨by omega,aL,?_⟩;generalize aH:(H'.push _).set H'.next _=H5;have bj:Ext H' H5:=by rw[<- aH];exact((Ext.refl H').push _).set (Lb _) _
   have ce:H5.Wf:=by rw[<- aH];exact(ai.push _).set (b0:=.cells [.slice none 0 0,.Z 0,.Z 0] 210 false) (by rw[Qc,Lc rfl]) _
   clear aH;refine(QnD H5 rfl rfl).thenW ?_;rintro _ H6 bZ bh ⟨rfl,bL,bY,br,bu,bw,bx⟩;have aA:=bj.trans bL;obtain⟨b7,b5⟩:=ad.ext _ _ _ av ai aA;have aj:=(ae.trans (ad.ck av ai aA bh));have ax:∀id,H'.next<=id->¬Own H6 id:=λid aG ac=>by have:=ad.low _ _ _ av (b5 _ ac);omega
   have ba:∀id,H.next<=id->id<H3.next->¬Own H6 id:=λid aG ac b3=>by
    rcases aj.own id b3 with an | an
    ·exact aw id aG an
    ·omega
   have bM:Ext Hz H6:=⟨by have:=aC.next;have:=aj.next;omega,λid aa=>by rw[aj.keep id (by have:=aC.next;omega) (λh=>bn id aa (ao _ h))];exact aC.get id aa⟩;have b6:PfF Hz H H6 x op (.slice a0 l.length cap) (H5.next+1) (H5.next+2) H5.next (H5.next+3) (.slice aO w.b.length aP) (.slice aD (QbS x.f op l).length aE) w (QbS x.f op l):=⟨bM,bh,bu,bw,br,bx,bc.go ai aA,bJ.go ai aA⟩;have bX:=bj.next;have bH:PfO (Own H6) Hz (H5.next+1) (H5.next+2) H5.next (H5.next+3) (.slice aO w.b.length aP) (.slice aD (QbS x.f op l).length aE):=
    ⟨λid aa h=>by
     rcases aj.own id h with an | an
     ·exact bn id aa (ao _ an)
     ·have:=aC.next;omega,
    ax _ (by omega),ax _ (by omega),ax _ (by omega),ax _ (by omega),λid aa=>ba id (ap.low ab aa).1 (ap.low ab aa).2,λid aa=>ba id (aq.low ab aa).1 (aq.low ab aa).2⟩
   simp only[Qb,simprocAttr,r0,Zz];refine QgM (ad.go i w H6 H _ _ _ _ _ _ aK b7 b6 bH (by have:=aW.next;have:=aj.next;omega)) ?_;rintro _ H7 ca cf ⟨rfl,b8,bG⟩;simp only[Qb,simprocAttr,L8,aN,bq];refine⟨W.length - (i+1),by omega,i+1,by omega,rfl,b8,aj.trans bG,?_,?_,?_,?_,?_,?_,?_⟩
   all_goals simp only[Qf,simprocAttr,r0,r1,r2,r4,bo,r13]
  ·have ac:i=W.length:=by have:=Ll ac;omega
   subst ac;simp only[Qb,simprocAttr,QmJ];have aX:=aW.trans ae;exact .mk aX.next ⟨av,aX⟩
theorem Gx.keepS {size:Nat}{e:TypeId}{H0 H H':Qa}{v:Value}{n:Nat}{cs:List Value}(h:Gx size e H0 H v n cs)(ad:∀id,H.get id≠none->H'.get id=H.get id):Gx size e H0 H' v n cs:=by
 rcases h with h | ⟨b,c,rfl,ab,aa,ac⟩
 ·exact .inl h
 ·exact .inr ⟨b,c,rfl,ab,by rw[ad b (by rw[aa];simp)];exact aa,ac⟩
theorem XZ.keepS {e:TypeId}{H0 H H':Qa}{v:Value}{ws:List Ld}(h:XZ e H0 H v ws)(aa:∀id,H.get id≠none->H'.get id=H.get id):XZ e H0 H' v ws:=by
 obtain⟨ss,ab,ac,ad⟩:=h.it;exact⟨ss,ab,ac.keepS aa,λj s w ae ag=>(ad j s w ae ag).keepS aa⟩
theorem Gx.keep2 {size:Nat}{e:TypeId}{H0 H H':Qa}{v:Value}{n:Nat}{cs:List Value}(h:Gx size e H0 H v n cs)(aa:H.Wf)(ab:∀id,H0.next<=id->id<H.next->H'.get id=H.get id):Gx size e H0 H' v n cs:=h.ext λid hi=>ab id (h.low aa hi).1 (h.low aa hi).2
theorem QuI {H1 H2:Qa}(ac:H1.Wf)(hx:Ext H1 H2)(l:Nat)(id:Nat)(ab:(H1.kill l).get id≠none):(H2.kill l).get id=(H1.kill l).get id:=by
 rw[Q0]at ab;rw[Q0,Q0]
 by_cases aa:id=l
 ·rw[Lc aa,Lc aa]
 ·rw[Le aa]at ab;rw[Le aa,Le aa];refine hx.get id ?_;rcases Nq id H1.next with h | h
  ·exact h
  ·exact absurd (ac id h) ab
def QKl:PC:=.ops [Ow 8 (.alloc 91 [.slice none 0 0,.Z 0,.Z 0]),Ov (.st 3 (t 8) (t 18))]
def QKm:PC:=.block 3 (.ops [Ow 19 (.ld false 1 (t 6)),Ow 20 (.ld true 3 (t 8)),Ow 21 (.bslice 91 3 1 [.slice none 0 0,.Z 0,.Z 0] [(0,(t 20))]),Ow 22 (.app 91 3 40 (t 19) (t 21)),Ov (.st 1 (t 6) (t 22))])
def lyR (Hb:Qa)(c m lB:Nat)(eC:TypeId)(bl:Blk)(W:List Ld)(j:Nat)(H':Qa):Prop:=
 H'.get lB=some bl∧lB<H'.next∧Hb.next<=H'.next∧(∀id,id<Hb.next->id≠c->id≠m->H'.get id=Hb.get id)∧∃v,H'.get c=some (.cells [v] eC false)∧LsU 91 Hb (H'.kill lB) v (W.take j) H'.next∧∀id,inB v id->id<H'.next∧Hb.next<=id∧id≠lB
section
variable {Hb:Qa} {c m lB:Nat} {eC:TypeId} {bl:Blk} {W:List Ld}
theorem QBP (am:c<Hb.next){j:Nat}{H1 H2:Qa}(h:lyR Hb c m lB eC bl W j H1)(aj:H1.Wf)(hx:Ext H1 H2):lyR Hb c m lB eC bl W j H2∧∀id,clO c lB eC H2 id->clO c lB eC H1 id:=by
 obtain⟨ab,ah,al,ac,v,ad,ae,ag⟩:=h;have ai:=hx.next;have aa:=hx.get c (by omega);refine⟨⟨by rw[hx.get lB ah];exact ab,by omega,by omega,λid a b d=>by rw[hx.get id (by omega)];exact ac id a b d,v,by rw[aa];exact ad,(ae.of λg=>g.keepS (QuI aj hx lB)).mono ai,λid hi=>?_⟩,λid hi=>?_⟩
 ·have:=ag id hi;exact⟨by omega,this.2⟩
 ·rcases hi with h | h | ⟨ak,h,hi⟩
  ·exact .inl h
  ·exact .inr (.inl h)
  ·exact .inr (.inr ⟨ak,by rw[<- aa];exact h,hi⟩)
theorem QBQ (ah:c<Hb.next){j:Nat}{H1:Qa}(h:lyR Hb c m lB eC bl W j H1){id:Nat}(hi:clO c lB eC H1 id):id<H1.next:=by
 obtain⟨ac,ai,ad,ae,v,aa,ag,ab⟩:=h;rcases hi with rfl | rfl | ⟨aj,h,hi⟩
 ·omega
 ·omega
 ·rw[aa]at h;cases h;exact(ab id hi).1
theorem QKn {L:Option Code->Blk}{A:Env}(ap:c<Hb.next)(aq:c≠lB)(aR:m=lB∨Hb.next<=lB)(bm:W.length<=1000)(aM:YR prog L [18] QKl QKm A)(aD:A 6=.P c){aa base:Nat}{aB:List Ld}(bn:Hb.next<=base)(ar:lB<base)(hit:∀ (i:Nat) w,aB[i]? = some w->W[aa+i]? = some w):
  Cns base lB aB LdV (λi=>lyR Hb c m lB eC (L none) W (aa+i)) (clO c lB eC):=by
 refine⟨λj Ha Hc h aX hx=>QBP ap h aX hx,λj Ha id h hi=>QBQ ap h hi,?_⟩;rintro j w H0' H1' b4 aP aK aL aV ⟨s,rfl,au⟩ bo aw bj ak;obtain⟨aG,br,aH,aI,v,ag,_,ay⟩:=aK;have ai:LsU 91 Hb (H1'.kill lB) v (W.take (aa+j)) H0'.next:=by
  obtain⟨_,_,aH,_,bh,aJ,ai,_⟩:=aL;rw[aw.get c (by omega),aJ]at ag;cases ag;exact ai.of λg=>g.keepS (QuI aV aw lB)
 refine aM lB _ H1' _ aG rfl ?_ ak;have az:=hit j w aP;have bq:=(Lk.1 az).1;have al:∀id,id≠lB->(H1'.kill lB).get id=H1'.get id:=λid ac=>by rw[Q0,Le ac]
 have ba:(H1'.kill lB).get lB=none:=by rw[Q0,Lc rfl]
 have bx:(H1'.kill lB).next=H1'.next:=rfl;have av:(H1'.kill lB).Wf:=ak.kill _;have k5:=(al c aq).trans ag;have ks:Gx 1 5 Hb (H1'.kill lB) s w.b.length (bys w.b):=(au.down (H0:=Hb) (by omega)).ext λid ac=>al id (by have:=au.low ak ac;omega);have k3:∀id,id<Hb.next->id≠c->id≠m->id≠lB->(H1'.kill lB).get id=Hb.get id:=λid a b d e=>(al id e).trans (aI id a b d);generalize bi:H1'.kill lB=Hk at *;obtain⟨a,an,rfl⟩:=ks.slc;obtain⟨am,ao,rfl⟩:=ai.ls.slc;have bc:¬c=Hk.next:=by omega
 simp only[QKl,QKm,K3,V6,Qb,simprocAttr,bc,LN,k5,aD];generalize ah:Qa.push (Qa.set (Qa.push Hk _) _ _) _=H5;have ad:Ext Hk H5:=by rw[<- ah];exact(((Ext.refl Hk).push _).set (Lb _) _).push _
 have aW:H5.Wf:=by rw[<- ah];exact((av.push _).set (b0:=.cells [.slice none 0 0,.Z 0,.Z 0] 91 false) (by rw[Qc,Lc rfl]) _).push _
 have aF:H5.get (Hk.next+1)=some (.cells [.slice a w.b.length an,.Z w.x,.Z w.h] 91 false):=by rw[<- ah,Qc,Lc (by rw[Qo,Qd])]
 have bw:H5.next=Hk.next+2:=by rw[<- ah,Qd,Qo,Qd]
 clear ah;have aS:YX 3 (.S (Hk.next+1) 1 1) H5=some (1,[.slice a w.b.length an,.Z w.x,.Z w.h]):=by
  rw[KM aF (by decide) (by simp)];rfl
 have bu:(W.take (aa+j)).length<=1000:=by rw[Sb];omega
 obtain⟨Hz,aA,b2⟩:∃Hz:Qa,Ext Hz H5∧Hz.next=Hb.next:=⟨⟨Hb.next,H5.tr⟩,⟨by show Hb.next<=H5.next;omega,λid _=>rfl⟩,rfl⟩;have aQ:LsU 91 Hz H5 (.slice am (W.take (aa+j)).length ao) (W.take (aa+j)) H0'.next:=(ai.go av ad).down (by omega);have aT:Gx 1 5 Hz H5 (.slice a w.b.length an) w.b.length (bys w.b):=(ks.go av ad).down (by omega);refine QBO (by decide) aQ (U':=Hk.next) (by have:=aw.next;omega) (λa aN=>by have:=au.low ak aN;omega) aA aW aT aS (by omega) (by omega) ?_;intro bh H6 aj ab;obtain⟨aE,c',rfl⟩:=aj.ls.slc;have aU:W.take (aa+(j+1))=W.take (aa+j)++[w]:=by rw[<- Rh,Nv,az];rfl
 rw[<- aU]at aj ab ⊢;have ax:∀id,id<Hb.next->H6.get id=H5.get id:=λid ac=>(ab.x.get id (by omega)).trans (aA.get id (by omega)).symm;have aY:H6.get c=some (.cells [.slice am (W.take (aa+j)).length ao] eC false):=by rw[ax _ ap,ad.get _ (by omega)];exact k5
 have bz:=ab.next;have aZ:H6.get lB=none:=by
  rw[ab.keep lB (by omega) (λh=>(ay lB h).2.2 rfl),ad.get _ (by omega)];exact ba
 simp only[Qb,simprocAttr,K2,aD,aY];refine⟨by omega,⟨by rw[Qh,Lc rfl],by rw[Qo,Qo];omega,by rw[Qo,Qo];omega,λid p q r=>?_,.slice aE (W.take (aa+(j+1))).length c',?_,?_,λid hi=>?_⟩,⟨by rw[Qo,Qo];omega,?_,λid p q=>?_,λid hi=>?_⟩⟩
 ·have ar:id≠lB:=by rcases aR with h | h;rw[<- h];exact r;omega
  rw[Qh,Le ar,Qh,Le q,ax _ p,ad.get _ (by omega)];exact k3 id p q r ar
 ·rw[Qh,Le aq,Qh,Lc rfl]
 ·refine((aj.down (H0:=Hb) (by omega)).of λg=>g.keep2 ab.w λid ac bp=>?_).mono (by rw[Qo,Qo];have:=ad.next;omega);rw[Q0]
  by_cases ae:id=lB
  ·rw[Lc ae,ae,aZ]
  ·rw[Le ae,Qh,Le ae,Qh,Le (by omega)]
 ·obtain⟨ss,_,aO,_⟩:=aj.it;have:=aO.low ab.w hi;rw[Qo,Qo];refine⟨this.2,by omega,λae=>?_⟩;rcases ab.new id hi with h | h
  ·exact(ay id h).2.2 ae
  ·omega
 ·intro id ac;rw[Qo,Qo]at ac;rw[Qh,Le (by omega),Qh,Le (by omega)];exact ab.w id ac
 ·have bd:id≠c:=λh=>q (.inl h);have aC:id≠lB:=λh=>q (.inr (.inl h));have bg:¬inB (.slice am (W.take (aa+j)).length ao) id:=λh=>q (.inr (.inr ⟨_,ag,h⟩));rw[Qh,Le aC,Qh,Le bd,ab.keep id (by omega) bg,ad.get _ (by omega),al id aC]
 ·rcases hi with h | h | ⟨b3,h,hi⟩
  ·exact .inl (.inl h)
  ·exact .inl (.inr (.inl h))
  ·rw[Qh,Le aq,Qh,Lc rfl]at h;cases h;rcases ab.new id hi with h | h
   ·exact .inl (.inr (.inr ⟨_,ag,h⟩))
   ·exact .inr (by omega)
end
def QLU:PC:=.ops [Om 7 (t 16)]
def QLV:PC:=.block 1 (.seq (.ops [Om 17 (t 7)]) (.block 2 (.rangeF (t 17) [18] QKl QKm)))
def Qyv (f:Ld->List Ld)(P:List Ld)(j:Nat):Nat:=((P.take j).flatMap f).length
theorem QKo {f:Ld->List Ld}{P:List Ld}{j:Nat}{w:Ld}(h:P[j]? = some w):Qyv f P (j+1)=Qyv f P j+(f w).length∧∀ (i:Nat) y,(f w)[i]? = some y->(P.flatMap f)[Qyv f P j+i]? = some y:=by
 have aa:P.take (j+1)=P.take j++[w]:=by rw[Nv,h];rfl
 refine⟨by unfold Qyv;rw[aa,Bm,Lh];simp,λi y ab=>?_⟩;have ad:=(Lk.1 h).1;have ac:P.flatMap f=(P.take j).flatMap f++(f w++(P.drop (j+1)).flatMap f):=by
  conv=>lhs;rw[<- NW (j+1) P]
  rw[Bm,aa,Bm];simp
 have hi:=(Lk.1 ab).1;rw[ac];unfold Qyv;rw[LR (Ro _ _),NL,LY hi];exact ab
section
variable {Hb:Qa} {c m:Nat} {eC:TypeId}
theorem QKp {L:Option Code->Blk}{A:Env}{x:Lf}{op:Int}{va:Value}{l:List Ar}{e:List Int}{Hz:Qa}{P:List Ld}(am:c<Hb.next)(bD:m<Hb.next)(ai:c≠m)(aQ:(P.flatMap (QgN x.f l e)).length<=1000)(aR:YR prog L [16] QLU QLV A)(b8:A 6=.P c)
  (aY:FOk x.f) (hx:x.At Hz) (aT:QQ Hz va l) (bz:Hz.Wf) (bj:∀n,Hz.next<=n->Qj n 6 (.agg #[.Z op,va])=true) (ba:l.length<=1000) (bg:x.f.slots.length=l.length) (aX:e.length<=2000)
  (aO:∀w∈P,(0<=w.x∧w.x<2)∧(0<=w.h∧w.h<2)∧(x.f.vex=true->(vxF x.f l w.x w.h).Ok)∧w.b.length<=1000):
  QH5 Hb.next m P Hz x op va e (λj=>lyR Hb c m m eC (L none) (P.flatMap (QgN x.f l e)) (Qyv (QgN x.f l e) P j)) (clO c m eC):=by
 refine⟨λj Ha Hc h bo hx=>QBP am h bo hx,λj Ha id h hi=>QBQ am h hi,?_⟩;rintro j w H Hs ao ap aq ar s aD az aP aa ab bA;obtain⟨ak,bC,aJ,aK,v,al,aL,ax⟩:=id aP;intro bm;refine aR m _ H _ ak rfl ?_ bm;have b4:clO c m eC H m:=.inr (.inl rfl);have b2:∀id,id≠m->(H.kill m).get id=H.get id:=λid ac=>by rw[Q0,Le ac]
 have b3:(H.kill m).get m=none:=by rw[Q0,Lc rfl]
 have bi:(H.kill m).next=H.next:=rfl;have aA:(H.kill m).Wf:=aa.wf.kill _;generalize H.kill m=Hk at *;simp only[QLU,QLV,K3,V6,Wu,simprocAttr,Qf,simprocAttr,Ya];rw[QaB 221 [] [.P ao,.P ap,.P aq,.P ar]];intro L2 aS;refine⟨by kernel_rfl,?_⟩;have an:Ext Hk (Hk.push (L2 none)):=(Ext.refl Hk).push _;have bG:(Hk.push (L2 none)).next=H.next+1:=by rw[Qd,bi]
 have aH:(Hk.push (L2 none)).get Hk.next=some (L2 none):=by rw[Qc,Lc rfl]
 have br:=aA.push (L2 none);generalize Hk.push (L2 none)=Hi at *;have ad:∀id,id≠m->id<H.next->Hi.get id=H.get id:=λid ak aJ=>by rw[an.get id (by omega),b2 id ak]
 have ah:Hi.get c=some (.cells [v] eC false):=by rw[ad c ai (by omega)];exact al
 have ae:∀id,id<H.next->¬clO c m eC H id->¬clO c Hk.next eC Hi id:=λid aB av aC=>by
  rcases aC with q | q | ⟨aE,q,au⟩
  ·exact av (.inl q)
  ·omega
  ·rw[ah]at q;cases q;exact av (.inr (.inr ⟨_,al,au⟩))
 have ne:∀ {id},¬clO c m eC H id->id≠m:=λq h=>q (h▸b4);have aM:PfF Hz Hs Hi x op va ao ap aq ar s aD w e:=
  ⟨⟨by have:=aa.z.next;omega,λid ac=>by rw[ad id (ne (ab.z id ac)) (by have:=aa.z.next;omega)];exact aa.z.get id ac⟩,br,by rw[ad _ (ne ab.o1) (aa.wf.lt aa.g1)];exact aa.g1,by rw[ad _ (ne ab.o2) (aa.wf.lt aa.g2)];exact aa.g2,by rw[ad _ (ne ab.o3) (aa.wf.lt aa.g3)];exact aa.g3,by rw[ad _ (ne ab.o4) (aa.wf.lt aa.g4)];exact aa.g4,
   aa.s.ext λid hi=>ad id (ne (ab.s id hi)) (aa.s.low aa.wf hi).2,aa.t.ext λid hi=>ad id (ne (ab.t id hi)) (aa.t.low aa.wf hi).2⟩
 have aN:PfO (clO c Hk.next eC Hi) Hz ao ap aq ar s aD:=⟨λid q=>ae id (by have:=aa.z.next;omega) (ab.z id q),ae _ (aa.wf.lt aa.g1) ab.o1,ae _ (aa.wf.lt aa.g2) ab.o2,ae _ (aa.wf.lt aa.g3) ab.o3,ae _ (aa.wf.lt aa.g4) ab.o4,λid q=>ae id (aa.s.low aa.wf q).2 (ab.s id q),λid q=>ae id (aa.t.low aa.wf q).2 (ab.t id q)⟩;obtain⟨aU,aV⟩:=QKo (f:=QgN x.f l e) az;obtain⟨bx,bq,bw,bu⟩:=aO w (Ln az);generalize b9:P.flatMap (QgN x.f l e)=W at *;have aW:=QKn (Hb:=Hb) (c:=c) (m:=m) (lB:=Hk.next) (eC:=eC) (W:=W) (base:=Hi.next) am (by omega) (.inr (by omega)) aQ aS (by simp only[Qf,simprocAttr,b8]) (by omega) (by omega) aV;refine(Qyu aW (Lb _) aY hx aT bz bj ba bg bx bq bw bu aX aM aN ?_).thenW ?_
 ·refine⟨aH,by omega,by omega,λid a b d=>by rw[ad id d (by omega)];exact aK id a b d,v,ah,(aL.of λg=>g.keepS λid ac=>?_).mono (by omega),λid hi=>?_⟩
  ·have bc:id<Hk.next:=Nat.lt_of_not_le λh=>ac (aA id h);rw[Q0,Le (by omega)];exact an.get id bc
  ·have:=ax id hi;exact⟨by omega,this.2.1,by omega⟩
 ·rintro u H2 bE bn ⟨ay,aj⟩;rw[<- aU]at ay;obtain⟨aB,av,aC,b5,aE,aw,b6,b7⟩:=id ay;refine⟨none,aB,?_⟩;have bd:H2.get m=none:=by
   rw[aj.keep m (by omega) ?_,an.get m (by omega)]
   ·exact b3
   ·rintro(h | h | ⟨aF,h,h'⟩)
    ·exact ai h.symm
    ·omega
    ·rw[ah]at h;cases h;have:=ax m h';omega
  have ag:∀id,id≠m->id≠Hk.next->((H2.kill Hk.next).set m (L none)).get id=H2.get id:=λid a b=>by rw[Qh,Le a,Q0,Le b]
  have bh:((H2.kill Hk.next).set m (L none)).next=H2.next:=rfl;have aI:((H2.kill Hk.next).set m (L none)).get m=some (L none):=by rw[Qh,Lc rfl]
  have bp:((H2.kill Hk.next).set m (L none)).Wf:=λid ac=>by
   rw[bh]at ac;rw[ag id (by omega) (by omega)];exact bn id ac
  have aZ:∀id,id≠m->id≠Hk.next->(((H2.kill Hk.next).set m (L none)).kill m).get id=H2.get id:=λid a b=>by rw[Q0,Le a];exact ag id a b
  simp only[Qb,simprocAttr,V5,K2];generalize (H2.kill Hk.next).set m (L none)=Hf at *;have bF:=aj.next;refine⟨by show H.next<=H2.next;omega,⟨aI,by omega,by omega,λid a b d=>by rw[ag id d (by omega)];exact b5 id a b d,aE,by rw[ag c ai (by omega)];exact aw,(b6.of λg=>g.keepS λid ac=>?_).mono (by omega),λid hi=>?_⟩,⟨by omega,bp,λid a b=>?_,λid a=>?_⟩⟩
  ·rw[Q0]at ac;split at ac
   ·exact absurd rfl ac
   ·rename_i q;have au:id≠m:=λh=>ac (h▸bd);rw[aZ id au q,Q0,Le q]
  ·have:=b7 id hi;exact⟨by omega,this.2.1,by omega⟩
  ·rw[ag id (ne b) (by omega),aj.keep id (by omega) (ae id a b),ad id (ne b) a]
  ·rcases a with a | a | ⟨aF,a,aG⟩
   ·exact .inl (.inl a)
   ·exact .inl (.inr (.inl a))
   ·rw[ag c ai (by omega),aw]at a;cases a;rcases aj.own id (.inr (.inr ⟨_,aw,aG⟩)) with h | h
    ·rcases h with h | h | ⟨aF,h,h'⟩
     ·exact .inl (.inl h)
     ·exact .inr (by omega)
     ·rw[ah]at h;cases h;exact .inl (.inr (.inr ⟨_,al,h'⟩))
    ·exact .inr (by omega)
end
theorem QjQ {f:Fm}{op:Int}{l:List Ar}(h:Qqs f op l=true):f.op=op∧f.shapes.length=l.length∧QoN f=0∧Wl op l=0∧∀i,i<l.length->Qk6 (WI op l) (l.getD i WY) (f.shapes.getD i 0)=true:=by
 unfold Qqs at h;simp only[Lm,L0,Li,LU]at h;exact⟨h.1.1.1.1,h.1.1.1.2,h.1.1.2,h.1.2,h.2⟩
theorem Qyw (x:Int):∀ (l:List Int) (k:Nat),0<=Ve l x k->(k:Int)<=Ve l x k∧l.getD ((Ve l x k).toNat - k) 0=x
 | [],k,h=>by simp[Ve]at h
 | y::l,k,h=>by
  unfold Ve at h ⊢;split
  ·rename_i e;exact⟨B0 _,by simp[e]⟩
  ·rename_i e;rw[Le e]at h;obtain⟨ab,aa⟩:=Qyw x l (k+1) h;refine⟨by omega,?_⟩;have e2:(Ve l x (k+1)).toNat - k=((Ve l x (k+1)).toNat - (k+1))+1:=by omega
   rw[e2,List.getD_cons_succ];exact aa
theorem QH7 {l:List Int}{x:Int}(h:0<=Qy l x):l.getD (Qy l x).toNat 0=x:=(Qyw x l 0 h).2
theorem Qyx:∀ {l:List Ar},Qp7 l=0->∀a∈l,WD a=0
 | [],_,_,h=>by cases h
 | a::l,h,b,aa=>by
  unfold Qp7 at h;split at h
  ·rename_i q;rcases LK.1 aa with rfl | aa
   ·simpa using q
   ·exact Qyx h b aa
  ·rename_i q;simp[h]at q
theorem Qyy {op:Int}{l:List Ar}(h:Wl op l=0):Qp7 l=0∧l.length<=4:=by
 unfold Wl at h;split at h
 ·simp at h
 ·split at h
  ·simp at h
  ·split at h
   ·rename_i q;simp[h]at q
   ·rename_i ab ac aa;exact⟨by simpa using aa,by omega⟩
theorem QFt {r:Rg}(h:WC r=true):0<=r.n∧r.n<16:=by
 unfold WC Qgw at h;simp only[Lv]at h;split at h
 ·simp only at h;omega
 ·split at h
  ·simp only at h;omega
  ·split at h<;>simp only at h<;>omega
theorem QFu {f:Fm}{op:Int}{l:List Ar}(h:Qqs f op l=true){s:Int}(av:s=1∨s=3∨s=4∨s=7)(aj:0<=Qy f.slots s):∃a,l[(Qy f.slots s).toNat]? = some a∧a.k=1∧(1<=a.r.c∧a.r.c<=7)∧WC a.r=true:=by
 obtain⟨_,ar,ai,ak,al⟩:=QjQ h;have aw:=Qwg ai;have ao:=Qyj f.slots s;obtain⟨j,an⟩:∃j:Nat,Qy f.slots s=j:=⟨(Qy f.slots s).toNat,by omega⟩;have ag:=QH7 aj;rw[an]at ag ao ⊢;have e1:(j:Int).toNat=j:=by omega
 rw[e1]at ag ⊢;obtain⟨a,ad⟩:∃a,l[j]? = some a:=⟨_,La (by omega)⟩;refine⟨a,ad,?_⟩;have ah:QhM f=true:=QqN ai 3 (by omega);unfold QhM at ah;rw[Lm]at ah;have ab:Qnz (f.shapes.getD j 0) (f.slots.getD j 0)=true:=Li.1 ah.2 j (LU.2 (by omega));rw[ag]at ab;have au:1<=f.shapes.getD j 0∧f.shapes.getD j 0<=6:=by
  unfold Qnz at ab;rw[Le (by omega),Le (by omega),Lc (by omega)]at ab;simpa using ab
 have aa:=al j (by omega);unfold Qk6 at aa;rw[Lm]at aa;have am:l.getD j WY=a:=by simp[LX,ad]
 rw[am]at aa;have ae:a.k=1∧(1<=a.r.c∧a.r.c<=7):=by
  have e:(QAH (WI op l) a).a=a:=by unfold QAH;split<;>rfl
  obtain⟨n,ap⟩:∃n:Nat,(f.shapes.getD j 0).toNat=n:=⟨_,rfl⟩;have aa:=aa.2;rw[ap]at aa;have:n=1∨n=2∨n=3∨n=4∨n=5∨n=6:=by omega
  rcases this with rfl | rfl | rfl | rfl | rfl | rfl
  all_goals
   simp only[QnB,WR,e,Nw,Lm,L0]at aa;omega
 have ac:=Qyx (Qyy ak).1 a (Ln ad);unfold WD at ac;rw[Lc (by simp[ae.1])]at ac;refine⟨ae.1,ae.2,?_⟩;cases aq:WC a.r with
 | true=>rfl
 | false=>rw[aq]at ac;simp at ac
theorem QFv {f:Fm}{op:Int}{l:List Ar}(h:Qqs f op l=true){s:Int}(ag:s=1∨s=3∨s=4∨s=7)(aa:0<=Qy f.slots s):∃a,l[(Qy f.slots s).toNat]? = some a∧a.k=1∧(1<=a.r.c∧a.r.c<=7)∧0<=a.r.n∧a.r.n<16:=by
 obtain⟨a,ab,ac,ad,ae⟩:=QFu h ag aa;exact⟨a,ab,ac,ad,QFt ae⟩
theorem QLW {f:Fm}{op:Int}{l:List Ar}(h:Qqs f op l=true)(aj:f.vex=true){a b:Int}(ad:0<=a∧a<2)(ae:0<=b∧b<2):(vxF f l a b).Ok:=by
 obtain⟨_,ak,ac,al,am⟩:=QjQ h;have aa:=QBL ac;obtain⟨ao,ai,aq,an⟩:=aa.vx aj;have ap:=aa.map;refine⟨QqM _ _ _,ad,?_,?_,?_,?_,?_,ai⟩
 ·show 0<=hB f l b∧hB f l b<2;unfold hB;split
  ·exact QqM _ _ _
  ·exact ae
 ·show 1<=f.map∧f.map<4;omega
 ·show 0<=Qyk f.w∧Qyk f.w<2;unfold Qyk;split<;>omega
 ·show 0<=QtH f l 3∧QtH f l 3<16;unfold QtH;split
  ·rename_i ab;obtain⟨c,ag,_,_,ah⟩:=QFv h (.inr (.inl rfl)) ab;rw[ag];exact ah
  ·omega
 ·show 0<=f.l∧f.l<2;omega
theorem QuJ (d:Int):(Qak d 4).1.length<=8:=Qjn _ _ (by decide)
def QFw (w:Ld):Prop:=(0<=w.x∧w.x<2)∧(0<=w.h∧w.h<2)∧w.b.length<=100
theorem z02:(0:Int)<=0∧(0:Int)<2:=by decide
theorem Qyz (mid:Int)(aa:Rg)(f d:Int):QFw (QgI mid aa f d):=by
 have:=QuJ d;refine⟨Qnv _,z02,?_⟩;unfold QgI;simp only[Lh,Lo,L9];omega
theorem QoP (mid ac:Int)(sib:List Int)(ad:sib.length<=8)(m:Mm):∀w∈ZT mid ac sib m,QFw w:=by
 intro w aa;unfold ZT at aa;obtain⟨ab,_,h⟩:=NF.1 aa;unfold Kb at h;split at h
 ·have:=Qyn ab m;rw[Sa]at h;subst h;refine⟨Qnv _,Qnv _,?_⟩;simp only[Lh,Lo,L9];omega
 ·cases h
theorem QH8 (mid:Int)(m:Mm):∀w∈Qk7 mid m,QFw w:=by
 intro w aa;unfold Qk7 at aa;split at aa
 ·rw[Sa]at aa;subst aa;have:=QuJ m.d;refine⟨z02,z02,?_⟩;simp only[Lh,Lo,L9];omega
 ·split at aa
  ·rw[Sa]at aa;subst aa;exact Qyz _ _ _ _
  ·split at aa
   ·exact QoP _ _ _ (by simp) _ w aa
   ·rcases LI.1 aa with aa | aa
    ·split at aa
     ·cases aa
     ·exact QoP _ _ _ (by simp) _ w aa
    ·rcases LI.1 aa with aa | aa
     ·exact QoP _ _ _ (by simp) _ w aa
     ·split at aa
      ·cases aa
      ·rw[Sa]at aa;subst aa;exact Qyz _ _ _ _
theorem QH9 (mid:Int)(a:Ar):(Qqt mid a).1.length<=8∧∀w∈(Qqt mid a).1,QFw w:=by
 unfold Qqt;split
 ·simp
 ·split
  ·simp
  ·split
   ·refine⟨by simp,λw aa=>?_⟩;rw[Sa]at aa;subst aa;exact⟨z02,Qnv _,by simp⟩
   ·split
    ·exact⟨Qyp _ _,QH8 _ _⟩
    ·simp
theorem QoQ (f:Fm)(l:List Ar):(Yu f l).length<=8∧∀w∈Yu f l,QFw w:=by
 unfold Yu;split
 ·refine⟨by simp,λw aa=>?_⟩;rw[Sa]at aa;subst aa;exact⟨z02,z02,by simp⟩
 ·split
  ·exact QH9 _ _
  ·simp
theorem Qds {α β:Type}{f:α->List β}{n:Nat}:∀ (l:List α),(∀a∈l,(f a).length<=n)->(l.flatMap f).length<=l.length * n
 | [],_=>by simp
 | a::l,h=>by
  have ab:=h a (Ny ..);have ac:=Qds l λb aa=>h b (NA _ aa);rw[Ba,Lh,Lo,Ry];omega
def QoR (f:Fm)(op:Int)(l:List Ar):List Ld:=if Qqs f op l=true then(Yu f l).flatMap (QgN f l (QbS f op l)) else[]
theorem Qwk (f:Fm)(op:Int)(l:List Ar):(QoR f op l).length<=24:=by
 unfold QoR;split
 ·have aa:=(QoQ f l).1;have ab:=Qds (f:=QgN f l (QbS f op l)) (n:=3) (Yu f l) λw _=>by unfold QgN;rw[Nn];exact(QuH _ _ _ _).1
  omega
 ·simp
theorem QFx (f:Fm)(op:Int)(l:List Ar):(QbS f op l).length<=2000:=by
 unfold QbS;have:=QBM (QH1 f op l) (tlN f);rw[Lh];split<;>split<;>simp<;>omega
theorem Qwl {x:Lf}{op:Int}{va:Value}{l:List Ar}(H:Qa)(hx:x.At H)(az:x.Fr 0)(ak:QQ H va l)(aF:∀n,H.next<=n->Qj n 6 (.agg #[.Z op,va])=true)(al:l.length<=1000)(ay:∀a∈l,I64 a.n):
  Qe prog 69 [.agg x.cells.toArray,.agg #[.Z op,va]] H λu H'=>∃v,u=.tuple #[v,.bool (decide (0<(QoR x.f op l).length))]∧LsU 91 H H' v (QoR x.f op l) H'.next∧Ext H H':=by
 refine Qto λac=>?_;have aK:(Value.agg x.cells.toArray).cells.toList=x.cells:=rfl;have ap:x.cells.take 10=x.cells:=rfl;have aI:10<=x.cells.length:=Lb _;obtain⟨W,aa⟩:∃W,W=QoR x.f op l:=⟨_,rfl⟩;have bp:W.length<=24:=by rw[aa];exact Qwk _ _ _
 rw[<- aa];unfold QoR at aa;obtain⟨a0,cap,rfl⟩:=Wd ak;simp only[Qky,aK,Wu,simprocAttr];generalize ae:Qa.push H (.cells x.cells 51 false)=H1;have g1:H1.get H.next=some (.cells x.cells 51 false):=by rw[<- ae,Qc,Lc rfl]
 have bc:Ext H H1:=by rw[<- ae];exact(Ext.refl H).push _
 have aB:H1.next=H.next+1:=by rw[<- ae];rfl
 have aY:H1.Wf:=by rw[<- ae];exact ac.push _
 clear ae;simp only[Qb,simprocAttr,aB];generalize ad:Qa.push H1 _=H2;have an:Ext H H2:=by rw[<- ad];exact(bc.push _)
 have b4:H2.Wf:=by rw[<- ad];exact(aY.push _)
 have aq:H2.get H.next=some (.cells x.cells 51 false):=by rw[<- ad,Qc,Le (by omega)];exact g1
 have ar:H2.get (H.next+1)=some (.cells [.Z op,.slice a0 l.length cap] 33 false):=by rw[<- ad,Qc,Lc (by omega)]
 have br:H2.next=H.next+2:=by rw[<- ad,Qd,aB]
 clear ad;simp only[Qb,simprocAttr,g1,aq,ar,Lw,ap];refine⟨aI,?_⟩;refine(Qwi H2 (hx.ext ac an) az (ak.ext ac an) al ay).thenW ?_;rintro _ H3 bu aZ ⟨rfl,ao⟩;have ah:=an.trans ao;cases ag:Qqs x.f op l with
 | false=>
  rw[ag,Le (by decide)]at aa;subst aa;simp only[Qb,simprocAttr,LM,QiQ];exact .mk ah.next ⟨_,rfl,LsU.nil _ _ _ _,ah⟩
 | true=>
  rw[ag,Lc rfl]at aa;have aL:H3.get H.next=some (.cells x.cells 51 false):=by rw[ao.get _ (by omega)];exact aq
  have aM:H3.get (H.next+1)=some (.cells [.Z op,.slice a0 l.length cap] 33 false):=by rw[ao.get _ (by omega)];exact ar
  have bg:¬H.next=H3.next:=by omega
  have bh:¬H.next+1=H3.next:=by omega
  simp only[Qb,simprocAttr,L8,bg,bh,LN,aL,aM,Lw,ap];refine⟨aI,?_⟩;obtain⟨H4,eC,aW,bd,b5,bw,ax⟩:∃H4 eC,H4.get H3.next=some (.cells [.slice none 0 0] eC false)∧Ext H3 H4∧H4.Wf∧H4.next=H3.next+1∧H4=H3.push (.cells [.slice none 0 0] _ false):=⟨_,_,by rw[Qc,Lc rfl],(Ext.refl H3).push _,aZ.push _,rfl,rfl⟩;rw[<- ax];clear ax;refine(QtQ H4).thenW ?_;rintro _ H5 bz ba ⟨rfl,aG,bx,aO,aP⟩;have ab:=(ah.trans bd).trans aG;have aN:H5.get H3.next=some (.cells [.slice none 0 0] eC false):=by rw[aG.get _ (by omega)];exact aW
  simp only[Wu,simprocAttr,Qf,simprocAttr,Ya];rw[QaB 131 [] [.P H4.next,.P (H4.next+1)]];intro L aU;refine⟨by kernel_rfl,?_⟩;have ai:Ext H5 (H5.push (L none)):=(Ext.refl H5).push _;have b3:(H5.push (L none)).next=H5.next+1:=rfl;have aR:(H5.push (L none)).get H5.next=some (L none):=by rw[Qc,Lc rfl]
  have b7:=ba.push (L none);generalize H5.push (L none)=Hb at *;have au:Hb.get H3.next=some (.cells [.slice none 0 0] eC false):=by rw[ai.get _ (by omega)];exact aN
  obtain⟨_,_,aD,_,_⟩:=QjQ ag;have aS:∀w∈Yu x.f l,(0<=w.x∧w.x<2)∧(0<=w.h∧w.h<2)∧(x.f.vex=true->(vxF x.f l w.x w.h).Ok)∧w.b.length<=1000:=λw ac=>by
   obtain⟨av,aw,bo⟩:=(QoQ x.f l).2 w ac;exact⟨av,aw,λaX=>QLW ag aX av aw,by omega⟩
  have aE:x.f.slots.length=l.length:=by rw[<- Qwg aD];exact(QjQ ag).2.1
  have aC:=QKp (Hb:=Hb) (c:=H3.next) (m:=H5.next) (eC:=eC) (op:=op) (va:=.slice a0 l.length cap) (e:=QbS x.f op l) (Hz:=H) (by omega) (by omega) (by omega) (by rw[<- aa];omega) aU (by simp only[Qf,simprocAttr]) (QBL aD) hx ak ac aF al aE (QFx _ _ _) aS;rw[<- aa]at aC;have am:∀id,id≠H3.next->id≠H5.next->¬clO H3.next H5.next eC Hb id:=λid p q h=>by
   rcases h with h | h | ⟨v,h,o,n,c,h'⟩
   ·exact p h
   ·exact q h
   ·rw[au]at h;cases h;cases h'
  refine(QH6 aC (Lb _) hx az ak ac aF al ay aE (by have:=(QoQ x.f l).1;omega) (ab.trans ai) (λid aA=>am id (by have:=ah.next;omega) (by have:=ab.next;omega)) (by rw[ai.get _ (by omega)];exact aO) (by rw[ai.get _ (by omega)];exact aP) (am _ (by omega) (by omega)) (am _ (by omega) (by omega)) ?_).thenW ?_
  ·refine⟨aR,by omega,by omega,λ_ _ _ _=>rfl,_,au,?_,λid ⟨o,n,c,h⟩=>by cases h⟩;exact LsU.nil _ _ _ _
  ·rintro u H6 b2 b6 ⟨aT,bq⟩;obtain⟨bi,b8,b9,bj,aJ,bm,aj,bA⟩:=aT;refine⟨none,bi,?_⟩;have aV:Qyv (QgN x.f l (QbS x.f op l)) (Yu x.f l) (Yu x.f l).length=W.length:=by unfold Qyv;rw[Nr,aa]
   rw[aV,Nr]at aj;have aH:Ext H (H6.kill H5.next):=⟨by have:=ab.next;show H.next<=H6.next;omega,λid aA=>by rw[Q0,Le (by have:=ab.next;omega),bj id (by have:=ab.next;omega) (by have:=ah.next;omega) (by have:=ab.next;omega)];exact(ab.trans ai).get id aA⟩;have aQ:(H6.kill H5.next).get H3.next=some (.cells [aJ] eC false):=by rw[Q0,Le (by omega)];exact bm
   have aj:LsU 91 H (H6.kill H5.next) aJ W (H6.kill H5.next).next:=aj.down (H0:=H) (by have:=ab.next;omega);generalize H6.kill H5.next=H7 at *;obtain⟨a7,bn,rfl⟩:=aj.ls.slc;simp only[Qb,simprocAttr,V5,aQ,QiQ];refine .mk aH.next ⟨_,?_,aj,aH⟩;rw[show decide ((0:Int)<(W.length:Int))=decide (0<W.length) by simp]
def Qjv (op:Int):List Ar->Bool
 | [x,y]=>(op==11)&&(((x.k==1)&&(y.k==1))&&(x.r.c==y.r.c))&&!(x.r.n==y.r.n)
 | _=>false
def Qao (op:Int)(l:List Ar):List (List Ar):=
 if((QT op l).2.2==0)=true then[(QT op l).2.1]++(if Qjv op (QT op l).2.1=true then[(QT op l).2.1.reverse] else[]) else[]
def QyA (op:Int)(vs:List Value):List Value:=vs.flatMap λs=>[.Z op,s]
def QIa (H:Qa)(v:Value)(op:Int)(ws:List (List Ar)):Prop:=∃vs:List Value,vs.length=ws.length∧Qaa H v ws.length (QyA op vs)∧∀ (j:Nat) s w,vs[j]? = some s->ws[j]? = some w->QQ H s w∧∀n,H.next<=n->Qj n 6 (.agg #[.Z op,s])=true
theorem QDi {op:Int}{l:List Ar}(h:(QT op l).2.2=0):QT op l=(op,(QT op l).2.1,0):=by
 unfold QT at h ⊢;split
 ·rename_i q;rw[Lc q]at h;simp only at h;rw[h]at q;exact absurd q (by decide)
 ·rename_i q;rw[Le q]at h;split
  ·rename_i aa;rw[Lc aa]at h;simp only at h;rw[h]at aa;exact absurd aa (by decide)
  ·rfl
theorem QyB {H H':Qa}{op:Int}{v:Value}{l:List Ar}(aa:QQ H' v l)(ab:∀a n c,v=.slice (some a) n c->H.next<=a.block∧a.block<H'.next)(n:Nat)(ad:H'.next<=n):Qj n 6 (.agg #[.Z op,v])=true:=by
 obtain⟨a,cap,rfl,ac⟩:=aa;cases a with
 | none=>simp[Qj,Ab.plain]
 | some a=>
  have:=(ab _ _ _ rfl).2;simp[Qj,Ab.plain];omega
theorem QuK (aa:Int×Bool):∀l:List Ar,(Q5 aa l).1.length<=l.length
 | []=>Lb _
 | a::l=>by
  unfold Q5;split
  ·simpa using QuK aa l
  ·simp
theorem QDj (op:Int)(l:List Ar):(Ja op l).length<=l.length+1:=by
 unfold Ja;split
 ·split<;>simp
 ·split
  ·simp
  ·split<;>simp
theorem QyC (op:Int)(l:List Ar):(QT op l).2.1.length<=5:=by
 unfold QT;split
 ·simp
 ·rename_i h;split
  ·simp
  ·have:=Qgz (op:=op) (l:=l) (by simpa using h);have:=QuK (WI op l) l;have:=QDj op (Q5 (WI op l) l).1;simp only;omega
theorem QMG {op:Int}{m:List Ar}{W:List (List Ar)}{H H3:Qa}{B:Nat}{a2:Option Addr}{c2:Nat}(aI:m.length<=1000)(aA:W=[m]++if Qjv op m=true then[m.reverse] else[])(aN:Ext H H3)(ai:H3.Wf)(g3:H3.get B=some (.cells [.Z op,.slice a2 m.length c2] 33 false))(av:QQ H3 (.slice a2 m.length c2) m)(aG:∀n,H3.next<=n->Qj n 6 (.agg #[.Z op,.slice a2 m.length c2])=true){A:Env}(r3:A 3=.P B):
  Qk prog Ka ⟨Rt prog Tryz.f68 H λu H'=>QIa H' u op W∧Ext H H',Xi⟩ (Rt prog Tryz.f68 H λu H'=>QIa H' u op W∧Ext H H') A H3:=by
 have lB:=ai.lt g3;have nB:¬B=H3.next:=by omega
 simp only[Ka,Qb,simprocAttr,r3,g3,nB,LN];generalize ag:H3.push _=H4;have aO:Ext H3 H4:=by rw[<- ag];exact(Ext.refl _).push _
 have bz:H4.Wf:=by rw[<- ag];exact ai.push _
 have g4:H4.get H3.next=some (.cells [.Z op,.slice a2 m.length c2] 33 false):=by rw[<- ag,Qc,Lc rfl]
 have bp:H4.next=H3.next+1:=by rw[<- ag];rfl
 clear ag;refine⟨rfl,?_⟩;refine(QBf _ m H4 (av.ext ai aO) aI).thenW ?_;rintro u H5 bq ap ⟨az,aH⟩;obtain⟨ab,cap,aa,rfl,ao,bn⟩:∃ab cap aa,u=.slice ab m.length cap∧(0<m.length->ab=some ⟨aa,0,none⟩∧H4.next<=aa∧H5.get aa=some (.cells (Qm m) 95 false))∧(∀a,ab=some a->H4.next<=a.block∧a.block<H5.next):=by
  rcases aH with⟨rfl,rfl | ⟨rfl,rfl⟩⟩ | ⟨bx,rfl,rfl⟩
  ·exact⟨none,0,0,rfl,λh=>absurd h (NX 0),λa h=>by cases h⟩
  ·exact⟨_,0,0,rfl,λh=>absurd h (NX 0),λa h=>by cases h;exact⟨Lb _,by rw[Qd];exact Rq _⟩⟩
  ·refine⟨_,_,H4.next+1,rfl,λ_=>⟨rfl,by omega,by rw[Qc,Lc (by simp only[Qd])]⟩,λa h=>by cases h;simp only[Qd];omega⟩
 clear aH;simp only[Qb,simprocAttr];refine⟨az.eqB,?_⟩;generalize ah:H5.push _=H6;have aq:Ext H5 H6:=by rw[<- ah];exact(Ext.refl _).push _
 have b2:H6.Wf:=by rw[<- ah];exact ap.push _
 have br:H6.next=H5.next+1:=by rw[<- ah];rfl
 have ak:H6.get H5.next=some (.cells [.Z op,.slice ab m.length cap] 141 false):=by rw[<- ah,Qc,Lc rfl]
 clear ah;have aj:=(aO.trans az).trans aq;have ae:=aN.trans aj;have aC:H6.get H3.next=some (.cells [.Z op,.slice a2 m.length c2] 33 false):=by rw[aq.get _ (by omega),az.get _ (by omega)];exact g4
 have aV:=av.ext ai aj;have aX:QQ H6 (.slice ab m.length cap) m:=⟨ab,cap,rfl,λh=>⟨aa,_,_,(ao h).1,by rw[aq.get _ (ap.lt (ao h).2.2)];exact(ao h).2.2⟩⟩
 -- one spelling
 have aw:Qjv op m=false->QIa H6 (.S H3.next 1 1) op W:=λh=>by
  rw[aA,Le (by rw[h];decide),Na];refine⟨[.slice a2 m.length c2],rfl,⟨_,1,rfl,λ_=>⟨H3.next,_,_,rfl,aC⟩⟩,λj s w ad al=>?_⟩;rcases j with _ | j
  ·cases ad;cases al;exact⟨aV,λn aJ=>aG n (by have:=aj.next;omega)⟩
  ·simp at ad
 cases aF:op==11 with
 | false=>
  simp only[Qb,simprocAttr,XK];refine .mk ae.next ⟨aw ?_,ae⟩;unfold Qjv;split<;>simp[aF]
 | true=>
  simp only[Qb,simprocAttr];refine(Qcz H5.next op _ m H6 false ak aX aI).thenW ?_;rintro _ H6 _ _ ⟨rfl,rfl⟩;cases ac:Qcy m with
  | false=>
   simp only[Qb,simprocAttr,XK];refine .mk ae.next ⟨aw ?_,ae⟩;unfold Qjv;unfold Qcy at ac;split
   ·simp only at ac;rw[ac];simp
   ·rfl
  | true=>
   obtain⟨x,y,rfl⟩:∃x y,m=[x,y]:=by
    unfold Qcy at ac;split at ac
    ·exact⟨_,_,rfl⟩
    ·cases ac
   obtain⟨rfl,bo,ax⟩:=ao (FH _);have aB:H6.get aa=some (.cells (Qm [x,y]) 95 false):=by rw[aq.get _ (ap.lt ax)];exact ax
   have e2:(Qm [x,y])[2]? = some (.Z x.r.n):=rfl;have aQ:(Qm [x,y])[13]? = some (.Z y.r.n):=rfl;have d0:(0:Int)<=0∧(0:Int)<(([x,y]:List Ar).length:Int):=by simp
   have d1:(0:Int)<=1∧(1:Int)<(([x,y]:List Ar).length:Int):=by simp
   simp only[sxA,sxB,Nat.reduceBEq,Nat.reduceEqDiff,reduceCtorEq,mxA,mxB,Nat.reduceAdd,reduceIte,Nat.reduceLeDiff,splice,ak,aB];refine⟨d0,_,e2,d1,_,aQ,?_⟩;simp only[Qb,simprocAttr];have aW:((x.k==1)&&(y.k==1)&&(x.r.c==y.r.c))=true:=ac;cases aK:x.r.n==y.r.n with
   | true=>
    simp only[Qb,simprocAttr,L8,XK];exact .mk ae.next ⟨aw (by simp[Qjv,aK]),ae⟩
   | false=>
    have bd:Qjv op [x,y]=true:=by simp only[Qjv,aF,aW,aK];rfl
    simp only[Qb,simprocAttr,LM];simp only[Qbw,Qb,simprocAttr];refine(Vc H5.next aa cap op x y H6 false 95 ak aB).thenW ?_;rintro _ H7 bu aL ⟨rfl,am⟩;have au:∀id,id≠aa->H7.get id=H6.get id:=λid h=>by rw[am,Qh,Le h,Qh,Le h]
    have aR:H7.get aa=some (.cells (Qm [y,x]) 95 false):=by rw[am,Qh,Lc rfl]
    have bw:H7.next=H6.next:=by rw[am];rfl
    clear am;have b3:=ap.lt ax;have aS:H7.get H5.next=some (.cells [.Z op,.S aa 2 cap] 141 false):=by rw[au _ (by omega)];exact ak
    have aD:H7.get H3.next=some (.cells [.Z op,.slice a2 2 c2] 33 false):=by rw[au _ (by omega)];exact aC
    simp only[Qb,simprocAttr,aS];have bi:Ext H3 H7:=⟨by have:=aj.next;omega,λid aZ=>by rw[au id (by omega)];exact aj.get id aZ⟩;generalize an:H7.push _=H8;have ar:Ext H7 H8:=by rw[<- an];exact(Ext.refl _).push _
    have bg:H8.Wf:=by rw[<- an];exact aL.push _
    have aT:H8.get H7.next=some (.cells [.Z op,.S aa 2 cap] 33 false):=by rw[<- an,Qc,Lc rfl]
    clear an;have bj:=aL.lt aD;have aU:H8.get H3.next=some (.cells [.Z op,.slice a2 2 c2] 33 false):=by rw[ar.get _ bj];exact aD
    have ba:Gx 2 33 H3 H8 (.S H3.next 1 1) 1 [.Z op,.slice a2 2 c2]:=.inr ⟨_,_,rfl,Lb _,aU,rfl,.inl rfl⟩;have bc:YX 2 (.S H7.next 1 1) H8=some (1,[.Z op,.S aa 2 cap]):=by
     rw[KM aT (by decide) (by simp)];rfl
    refine QEZ ba ⟨_,rfl⟩ bg bc rfl (by decide) rfl (by decide) (by decide) (by decide) ?_;rintro b4 H9 aY aP bh ⟨bm,rfl⟩;have ay:=(bi.trans ar).trans aP;have aM:=aN.trans ay;have aE:H9.get aa=some (.cells (Qm [y,x]) 95 false):=by rw[aP.get _ (by have:=ar.next;omega),ar.get _ (by omega)];exact aR
    simp only[Qb,simprocAttr,XK];refine .mk aM.next ⟨?_,aM⟩;rw[aA,Lc bd];refine⟨[.slice a2 2 c2,.S aa 2 cap],rfl,aY.sl,λj s w ad al=>?_⟩;rcases j with _ | _ | j
    ·cases ad;cases al;exact⟨av.ext ai ay,λn aJ=>aG n (by have:=ay.next;omega)⟩
    ·cases ad;cases al;refine⟨⟨_,cap,rfl,λ_=>⟨aa,_,_,rfl,aE⟩⟩,λn aJ=>?_⟩;have:=bh.lt aE;simp[Qj,Ab.plain];omega
    ·simp at ad
theorem QoS {op:Int}{v:Value}{l:List Ar}(H:Qa)(ak:QQ H v l)(ar:l.length<=1000)(ap:∀a∈l,I64 a.n):
  Qe prog 68 [.agg #[.Z op,v]] H λu H'=>QIa H' u op (Qao op l)∧Ext H H':=by
 refine QmI λal=>?_;obtain⟨a0,cap,rfl⟩:=Wd ak;simp only[QdW,Wu,simprocAttr];generalize ad:Qa.push H _=H1;have g1:H1.get H.next=some (.cells [.Z op,.slice a0 l.length cap] 33 false):=by rw[<- ad,Qc,Lc rfl];rfl
 have an:Ext H H1:=by rw[<- ad];exact(Ext.refl H).push _
 have ay:H1.Wf:=by rw[<- ad];exact al.push _
 clear ad;simp only[Qb,simprocAttr,g1];refine(QgA op l H1 _ (ak.ext al an) ar ap).thenW ?_;rintro _ H2 ax am ⟨aw,az,rfl,ag,aq⟩;have ah:=an.trans aw;have ai:=λn aj=>QyB (op:=(QT op l).1) ag aq n aj;obtain⟨W,aa⟩:∃W,W=Qao op l:=⟨_,rfl⟩;rw[<- aa];unfold Qao at aa;obtain⟨a2,c2,rfl⟩:=Wd ag;cases ac:(QT op l).2.2==0 with
 | false=>
  rw[ac,Le (by decide)]at aa;simp only[Qb,simprocAttr,ac,XK];have ab:=(ah.push (.cells [.Z 0,.slice none 0 0] 33 false)).set ah.next (.cells [.Z (QT op l).1,.slice a2 (QT op l).2.1.length c2] 33 false);exact .mk ab.next ⟨by rw[aa];exact⟨[],rfl,⟨none,0,rfl,λh=>absurd h (NX 0)⟩,λj s w h=>by simp at h⟩,ab⟩
 | true=>
  rw[ac,Lc rfl]at aa;have ao:=QDi (L0.1 ac);have e1:(QT op l).1=op:=by rw[ao]
  rw[e1]at ai;simp only[Qb,simprocAttr,ac,e1];generalize au:(QT op l).2.1=m at *;generalize ae:(H2.push _).set H2.next _=H3;have ab:Ext H2 H3:=by rw[<- ae];exact((Ext.refl H2).push _).set (Lb _) _
  have av:H3.Wf:=by rw[<- ae];exact(am.push _).set (b0:=.cells [.Z 0,.slice none 0 0] 33 false) (by rw[Qc,Lc rfl]) _
  have g3:H3.get H2.next=some (.cells [.Z op,.slice a2 m.length c2] 33 false):=by rw[<- ae,Qh,Lc rfl]
  clear ae;refine QMG (by rw[<- au];have:=QyC op l;omega) aa (ah.trans ab) av g3 (ag.ext am ab) (λn aj=>ai n (by have:=ab.next;omega)) ?_;simp only[Qf,simprocAttr]
structure GX (v:Value) (H:Qa) (v':Value) (H':Qa):Prop where
 next:H.next<=H'.next
 keep:∀id,id<H.next->¬inB v id->H'.get id=H.get id
 own:∀id,inB v' id->inB v id∨H.next<=id
theorem QIb {v:Value}{a b:Nat}(aa:inB v a)(ab:inB v b):a=b:=by
 obtain⟨_,_,_,rfl⟩:=aa;obtain⟨_,_,_,h⟩:=ab;cases h;rfl
theorem GX.refl (v:Value)(H:Qa):GX v H v H:=⟨Lb _,λ_ _ _=>rfl,λ_ h=>.inl h⟩
theorem GX.trans {v aa ab:Value}{H H' H'':Qa}(h:GX v H aa H')(h':GX aa H' ab H''):GX v H ab H'':=by
 have ac:=h.next;have ad:=h'.next;refine⟨by omega,λid a b=>?_,λid a=>?_⟩
 ·rw[h'.keep id (by omega) (λc=>by rcases h.own id c with d | d;exact b d;omega),h.keep id a b]
 ·rcases h'.own id a with b | b
  ·exact h.own id b
  ·exact .inr (by omega)
theorem GX.ext {v:Value}{H H':Qa}(h:Ext H H'):GX v H v H':=⟨h.next,λid a _=>h.get id a,λ_ h=>.inl h⟩
theorem GX.gk {v aa:Value}{H0 H H':Qa}(h:GK v aa H0 H H'):GX v H aa H':=⟨h.next,h.keep,h.new⟩
theorem GX.old {v ac:Value}{Hs H H':Qa}(h:GX v H ac H')(hx:Ext Hs H)(ab:∀id,inB v id->Hs.next<=id):Ext Hs H':=
 ⟨by have:=h.next;have:=hx.next;omega,λid aa=>by rw[h.keep id (by have:=hx.next;omega) (λc=>by have:=ab id c;omega)];exact hx.get id aa⟩
theorem XZ.own {e:TypeId}{H0 H:Qa}{v:Value}{ws:List Ld}(h:XZ e H0 H v ws):∀id,inB v id->H0.next<=id:=λid hi=>by
 obtain⟨ss,ab,aa,ac⟩:=h.it;obtain⟨o,n,c,rfl⟩:=hi;rcases aa with⟨h,_,_⟩ | ⟨b,c',h,q,_⟩
 ·cases h
 ·cases h;exact q
theorem XZ.gx {e:TypeId}{H0 H H':Qa}{v ad u:Value}{ws:List Ld}(h:XZ e H0 H u ws)(ac:H.Wf)(aa:GX v H ad H')(ab:∀id,inB v id->id<H0.next):XZ e H0 H' u ws:=
 h.keep2 ac λid a b=>aa.keep id b λc=>by have:=ab id c;omega
def RgS (A A':Env):Prop:=A' 1=A 1∧A' 7=A 7∧A' 8=A 8∧A' 9=A 9∧A' 15=A 15∧A' 16=A 16∧A' 17=A 17∧A' 21=A 21∧A' 22=A 22∧A' 23=A 23
def Qh5 (k:Int)(w:Ld):Ld:=⟨w.b,k,w.h⟩
section
variable {R:Env->Qa->Prop} {E:Nat->Env->Qa->Prop} {K:Env->Qa->Prop}
theorem QMH {Hs H Hc:Qa}{ab cs:List Ld}{v az:Value}{k:Int}{A:Env}(bD:ab.length+cs.length<=1000000)(bx:Ext Hs H)(au:H.Wf){U0:Nat}(aM:LsU 91 Hs H v ab Hc.next)(aJ:LsU 91 Hc H az cs U0)(bc:Hs.next<=Hc.next)(aZ:Hc.next<=H.next)(ba:∀id,inB v id->id<Hc.next)(ax:A 5=v)(r8:A 8=.Z k)(b8:A 10=az)
  (bn:∀A' H' am,A' 5=am->RgS A A'->H'.Wf->LsU 91 Hs H' am (ab++cs.map (Qh5 k)) H'.next->GX v H am H'->K A' H'):
  Qk prog Qa0 ⟨R,E⟩ K A H:=by
 obtain⟨ay,aR,rfl⟩:=aJ.ls.slc;obtain⟨ss,bq,bi,aK,bj⟩:=aJ.it;simp only[Qa0,Qb,simprocAttr,b8,Qr];refine Qp (λm A' H'=>∃i:Nat,i<=cs.length∧m=cs.length - i∧H'.Wf∧(∃U,U<=H'.next∧LsU 91 Hs H' (A' 5) (ab++(cs.take i).map (Qh5 k)) U∧∀ (j:Nat) s a,i<=j->ss[j]? = some s->inB s a->U<=a)∧GX v H (A' 5) H'∧A' 36=.slice ay cs.length aR∧A' 37=.Z cs.length∧A' 38=.Z i∧RgS A A') cs.length ?_ ?_
 ·refine⟨0,L7 _,by omega,au,?_,?_,?_,?_,?_,?_⟩
  ·simp only[Qf,simprocAttr,ax,Rb,Bq,Na];refine⟨Hc.next,aZ,aM,λj s a _ ak aa=>?_⟩;obtain⟨w,ad⟩:∃w,cs[j]? = some w:=⟨_,La (by have:=(Lk.1 ak).1;omega)⟩;exact((aK j s w ak ad).low au aa).1
  ·simp only[Qf,simprocAttr,ax];exact GX.refl _ _
  ·simp only[Qf,simprocAttr]
  ·simp only[Qf,simprocAttr]
  ·simp only[uxA,uxB,Nat.reduceBEq];rfl
  ·simp only[RgS,Qf,simprocAttr,RU]
 ·rintro m A' H' ⟨i,hi,rfl,ad,⟨U,aI,aq,aN⟩,aj,aP,aQ,aw,aU⟩;simp only[Qhj,Qb,simprocAttr,aQ,aw];obtain⟨e1,aG,an,aH,aA,aB,aC,aD,aE,aF⟩:=id aU;refine Qg (λac=>?_) (λac=>?_)
  ·have ac:i<cs.length:=by have:=Lg ac;omega
   have aL:∀ {size e v n cs},Gx size e Hc H v n cs->Gx size e Hc H' v n cs:=λg=>g.keep2 au λid a b=>aj.keep id b λc=>by have:=ba id c;omega
   have bz:=aj.old bx (ax▸aM.ls.own);have bh:=aL bi;have bg:=λj s w a b=>aL (aK j s w a b);obtain⟨b,bC,rfl,bd⟩:∃b,Hc.next<=b∧ay=some ⟨b,0,none⟩∧H'.get b=some (.cells (ldC ss cs) 91 false):=by
    rcases bh with⟨h,h',_⟩ | ⟨b,c,h,b6,b7,_⟩
    ·omega
    ·cases h;exact⟨b,b6,rfl,b7⟩
   obtain⟨sv,al⟩:∃sv,ss[i]? = some sv:=⟨_,La (by omega)⟩;obtain⟨w,av⟩:∃w,cs[i]? = some w:=⟨_,La ac⟩;have ar:=bg i sv w al av;have aY:=QsJ ss cs i sv w al av;have bE:(ldC ss cs).length=cs.length * 3:=by rw[QnC _ _ bq]
   have d1:(0:Int)<=i∧(i:Int)<cs.length:=by omega
   have d3:(i:Int).toNat=i:=by omega
   have aS:IntKind.i64.wrap ((i:Int)+1)=((i+1:Nat):Int):=by rw[w64 (by unfold I64;omega)];omega
   obtain⟨ae,ag,rfl⟩:=ar.slc;simp only[Qhi,Qb,simprocAttr,aP,aw,d1,d3,bd,aY,an,r8];refine⟨by omega,?_⟩;generalize ai:Qa.push (Qa.set (Qa.set (Qa.push H' _) _ _) _ _) _=H5;have ah:Ext H' H5:=by rw[<- ai];exact((((Ext.refl H').push _).set (Lb _) _).set (Lb _) _).push _
   have bw:H5.Wf:=by rw[<- ai];exact(((ad.push _).set (b0:=.cells [.slice none 0 0,.Z 0,.Z 0] 91 false) (by rw[Qc,Lc rfl]) _).set (b0:=.cells [.slice ae w.b.length ag,.Z w.x,.Z w.h] 91 false) (by rw[Qh,Lc rfl]) _).push _
   have aT:H5.get (H'.next+1)=some (.cells [.slice ae w.b.length ag,.Z k,.Z w.h] 91 false):=by rw[<- ai,Qc,Lc (by simp only[Qo,Qd])]
   clear ai;have br:YX 3 (.S (H'.next+1) 1 1) H5=some (1,[.slice ae w.b.length ag,.Z (Qh5 k w).x,.Z (Qh5 k w).h]):=by
    rw[KM aT (by decide) (by simp)];rfl
   have bF:(ab++(cs.take i).map (Qh5 k)).length<=1000000:=by rw[Lh,Nn,Sb];omega
   have bp:Gx 1 5 Hs H5 (.slice ae w.b.length ag) (Qh5 k w).b.length (bys (Qh5 k w).b):=(ar.go ad ah).down bc;obtain⟨U',aV,bA,aW,aX⟩:∃U',U<=U'∧U'<=H'.next∧(∀a,inB (.slice ae w.b.length ag) a->U<=a∧a<U')∧∀ (j:Nat) s a,i+1<=j->ss[j]? = some s->inB s a->U'<=a:=by
    by_cases aO:∃a,inB (.slice ae w.b.length ag) a
    ·obtain⟨a,aa⟩:=aO;have b9:=aN i _ a (Lb _) al aa;refine⟨a+1,by omega,(ar.low ad aa).2,λb ao=>?_,λj s b bm ak ao=>?_⟩
     ·rw[QIb ao aa];omega
     ·obtain⟨b2,b3⟩:=Lk.1 al;obtain⟨b4,b5⟩:=Lk.1 ak;exact BR.1 bj.1 i j b2 b4 (by omega) a b (b3▸aa) (b5▸ao)
    ·exact⟨U,Lb _,aI,λa aa=>absurd ⟨a,aa⟩ aO,λj s a bm=>aN j s a (by omega)⟩
   refine QBO (by decide) (aq.go ad ah) aV aW (bz.trans ah) bw bp br (by omega) (by omega) ?_;intro am H6 bo ap;simp only[Qb,simprocAttr,aw,aS];have bu:ab++(cs.take (i+1)).map (Qh5 k)=ab++(cs.take i).map (Qh5 k)++[Qh5 k w]:=by rw[Nv,av,N6,LQ];rfl
   refine⟨cs.length - (i+1),by omega,i+1,by omega,rfl,ap.w,?_,?_,?_,?_,?_,?_⟩
   ·simp only[Qf,simprocAttr];rw[bu];exact⟨U',by have:=ah.next;have:=ap.next;omega,bo,aX⟩
   ·simp only[Qf,simprocAttr];exact(aj.trans (GX.ext ah)).trans (GX.gk ap)
   ·simp only[Qf,simprocAttr,aP]
   ·simp only[Qf,simprocAttr,aQ]
   ·simp only[Qf,simprocAttr]
   ·simp only[RgS,Qf,simprocAttr,e1,aG,an,aH,aA,aB,aC,aD,aE,aF,RU]
  ·have ac:i=cs.length:=by have:=Ll ac;omega
   subst ac;rw[Nr]at aq;simp only[Qb,simprocAttr];refine bn _ _ _ rfl ?_ ad ?_ ?_
   ·simp only[RgS,Qf,simprocAttr,e1,aG,an,aH,aA,aB,aC,aD,aE,aF,RU]
   ·simp only[Qf,simprocAttr];exact aq.mono aI
   ·simp only[Qf,simprocAttr];exact aj
def frm (L:List Fm)(op:Int)(m:List Ar)(k:Nat):List Ld:=match L[k]? with | some f=>(QoR f op m).map (Qh5 k) | none=>[]
theorem Qwm (L:List Fm)(op:Int)(m:List Ar)(k:Nat):(frm L op m k).length<=24:=by
 unfold frm;split
 ·rw[Nn];exact Qwk _ _ _
 ·simp
def QnE (L:List Fm)(op:Int)(l:List Ar):List Ld:=(Qao op l).flatMap λm=>(List.range L.length).flatMap (frm L op m)
def RgO (A A':Env):Prop:=A' 1=A 1∧A' 15=A 15∧A' 16=A 16∧A' 17=A 17
theorem QMI {Hs H:Qa}{aj:List Ld}{v aG sv:Value}{xs:List Lf}{op:Int}{m:List Ar}{B:Nat}{A:Env}(b6:aj.length<=500000)(bC:xs.length<=6000)(bq:m.length<=1000)(aY:∀a∈m,I64 a.n)(au:Hs.Wf)(bx:Ext Hs H)(aO:H.Wf)(aM:LsU 91 Hs H v aj H.next)(aH:QmB Hs aG xs)(bi:∀x∈xs,x.Fr 0)(bu:QQ Hs sv m)(ba:∀n,Hs.next<=n->Qj n 6 (.agg #[.Z op,sv])=true)
  (gB:H.get B=some (.cells [.Z op,sv] 33 false)) (hB:¬inB v B) (aS:A 5=v) (ai:A 7=.P B) (ag:A 21=aG) (ah:A 22=.Z xs.length) (ab:A 23=.Z 0)
  (bn:∀A' H' aw,A' 5=aw->RgO A A'->H'.Wf->LsU 91 Hs H' aw (aj++(List.range xs.length).flatMap (frm (xs.map (·.f)) op m)) H'.next->GX v H aw H'->K A' H'):
  Qk prog (.block 2 (.loop Qa1)) ⟨R,E⟩ K A H:=by
 obtain⟨aU,aV,rfl,bg⟩:=aH.1;have aI:=aH.2;simp only[Wu,simprocAttr];refine Qp (λq A' H'=>∃i:Nat,i<=xs.length∧q=xs.length - i∧H'.Wf∧LsU 91 Hs H' (A' 5) (aj++(List.range i).flatMap (frm (xs.map (·.f)) op m)) H'.next∧GX v H (A' 5) H'∧A' 7=.P B∧A' 21=.slice aU xs.length aV∧A' 22=.Z xs.length∧A' 23=.Z i∧RgO A A') xs.length ?_ ?_
 ·refine⟨0,L7 _,by omega,aO,?_,?_,ai,ag,ah,ab,?_⟩
  ·simp only[aS,List.range_zero,DG,Na];exact aM
  ·rw[aS];exact GX.refl _ _
  ·simp only[RgO,RU]
 ·rintro q A' H' ⟨i,hi,rfl,ad,ar,ac,ai,ag,ah,ab,aX⟩;obtain⟨e1,an,ao,ap⟩:=id aX;simp only[Qa1,Qb,simprocAttr,ah,ab];refine Qg (λaa=>?_) (λaa=>?_)
  ·have aa:i<xs.length:=by have:=Lg aa;omega
   have aR:=ac.old bx aM.ls.own;obtain⟨b,e,ro,rfl,aL⟩:=bg (by omega);have bm:H'.get b=some (.cells (Wm xs) e ro):=by rw[aR.get _ (au.lt aL)];exact aL
   obtain⟨x,am⟩:∃x,xs[i]? = some x:=⟨_,La aa⟩;have aZ:=GA xs i x am;have b7:=WM xs;have d1:(0:Int)<=i∧(i:Int)<xs.length:=by omega
   have d3:(i:Int).toNat=i:=by omega
   have ax:IntKind.i64.wrap ((i:Int)+1)=((i+1:Nat):Int):=by rw[w64 (by unfold I64;omega)];omega
   have aK:H'.get B=some (.cells [.Z op,sv] 33 false):=by rw[ac.keep B (aO.lt gB) hB];exact gB
   have aT:x.cells.take 10=x.cells:=rfl;have lB:=ad.lt aK;have nB:¬B=H'.next:=by omega
   have bd:x.cells++List.drop x.cells.length [.Z 0,.slice none 0 0,.slice none 0 0,.Z 0,.Z 0,.Z 0,.Z 0,.Z 0,.bool false,.Z 0]=x.cells:=Na _;simp only[Qhk,Qb,simprocAttr,ai,ag,ab,d1,d3,bm,aZ,aK,nB,LN,Lw,bd,aT];refine⟨by omega,⟨rfl,Lb _,?_⟩,Lb _,?_⟩
   ·exact Zg (aI x (Ln am))
   generalize aq:Qa.set (Qa.push H' _) _ _=H1;have ak:Ext H' H1:=by rw[<- aq];exact((Ext.refl H').push _).set (Lb _) _
   have bA:H1.Wf:=by rw[<- aq];exact(ad.push _).set (b0:=.cells [.Z 0,.slice none 0 0,.slice none 0 0,.Z 0,.Z 0,.Z 0,.Z 0,.Z 0,.bool false,.Z 0] 51 false) (by rw[Qc,Lc rfl]) _
   clear aq;have ae:=aR.trans ak;have aQ:=Ln am;refine(Qwl H1 ((aI x aQ).ext au ae) (bi x aQ) (bu.ext au ae) (λn b8=>ba n (by have:=ae.next;omega)) bq aY).thenW ?_;rintro _ H2 b9 aP ⟨b2,rfl,bc,al⟩;have av:=ak.trans al;have bh:(xs.map (·.f))[i]? = some x.f:=by rw[LD,am];rfl
   have aJ:(List.range (i+1)).flatMap (frm (xs.map (·.f)) op m)=(List.range i).flatMap (frm (xs.map (·.f)) op m)++(QoR x.f op m).map (Qh5 i):=by
    rw[R0,Bm];simp only[Ba,DG,Na,frm,bh]
   have aN:LsU 91 Hs H2 (A' 5) _ H1.next:=(ar.go ad av).mono ak.next;simp only[Qb,simprocAttr];cases bz:decide (0<(QoR x.f op m).length) with
   | false=>
    have aW:QoR x.f op m=[]:=N2.1 (by have:=Ll bz;omega);simp only[Qb,simprocAttr,LM,ab,ax];refine⟨xs.length - (i+1),by omega,i+1,by omega,rfl,aP,?_,?_,?_,?_,?_,?_,?_⟩
    ·simp only[Qf,simprocAttr];rw[aJ,aW,Bq,Na];exact aN.mono al.next
    ·simp only[Qf,simprocAttr];exact ac.trans (GX.ext av)
    ·simp only[Qf,simprocAttr,ai]
    ·simp only[Qf,simprocAttr,ag]
    ·simp only[Qf,simprocAttr,ah]
    ·simp only[Qf,simprocAttr]
    ·simp only[RgO,Qf,simprocAttr,e1,an,ao,ap,RU]
   | true=>
    simp only[Qb,simprocAttr,L8];have bp:∀id,inB (A' 5) id->id<H1.next:=λid h=>by
     obtain⟨ss,_,br,_⟩:=ar.it;have:=(br.low ad h).2;have:=ak.next;omega
    refine QMH (Hs:=Hs) (v:=A' 5) (k:=(i:Int)) ?_ (ae.trans al) aP aN bc ae.next al.next bp ?_ ?_ ?_ ?_
    ·have b5:=Qwk x.f op m;have aa:=Qds (f:=frm (xs.map (·.f)) op m) (n:=24) (List.range i) λk _=>Qwm _ _ _ _;rw[BO]at aa;rw[Lh];omega
    ·simp only[Qf,simprocAttr]
    ·simp only[Qf,simprocAttr]
    ·simp only[Qf,simprocAttr]
    ·rintro A2 H3 bD rfl ⟨ay,aF,b3,b4,az,aA,aB,aC,aD,aE⟩ bw bo bj;simp only[Qf,simprocAttr]at ay aF az aA aB aC aD aE;simp only[Qb,simprocAttr,aE,ab,ax];refine⟨xs.length - (i+1),by omega,i+1,by omega,rfl,bw,?_,?_,?_,?_,?_,?_,?_⟩
     ·simp only[Qf,simprocAttr];rw[aJ,<- LQ];exact bo
     ·simp only[Qf,simprocAttr];exact(ac.trans (GX.ext av)).trans bj
     ·simp only[Qf,simprocAttr,aF,ai]
     ·simp only[Qf,simprocAttr,aC,ag]
     ·simp only[Qf,simprocAttr,aD,ah]
     ·simp only[Qf,simprocAttr]
     ·simp only[RgO,Qf,simprocAttr,ay,az,aA,aB,e1,an,ao,ap,RU]
  ·have aa:i=xs.length:=by have:=Ll aa;omega
   subst aa;simp only[Qb,simprocAttr];refine bn _ _ _ rfl ?_ ad ?_ ?_
   ·simp only[RgO,Qf,simprocAttr,e1,an,ao,ap,RU]
   ·simp only[Qf,simprocAttr];exact ar
   ·simp only[Qf,simprocAttr];exact ac
end
theorem QBR (op:Int):∀ (vs:List Value) (i:Nat) (s:Value),vs[i]? = some s->((QyA op vs).drop (i * 2)).take 2=[.Z op,s]
 | [],_,_,h=>by simp at h
 | v::vs,0,_,h=>by cases h;rfl
 | v::vs,i+1,s,h=>by
  have e:QyA op (v::vs)=[.Z op,v]++QyA op vs:=rfl;rw[e,show(i+1) * 2=2+i * 2 by omega,<- Rc];exact QBR op vs i s h
theorem QyD (op:Int):∀vs:List Value,(QyA op vs).length=vs.length * 2
 | []=>rfl
 | v::vs=>by
  have e:QyA op (v::vs)=[.Z op,v]++QyA op vs:=rfl;rw[e,Lh,QyD op vs,Lo,Lo,Lo,L9];omega
theorem QAJ {ac:Int×Bool}{a:Ar}(h:I64 a.n):I64 (Zf ac a).1.n:=by
 have aa:I64 0:=by unfold I64;omega
 have ab:I64 (WJ a).1.n:=by
  unfold WJ Qgx;split
  ·split
   ·exact aa
   ·split
    ·exact aa
    ·exact h
  ·exact aa
 unfold Zf;simp only;split
 ·exact h
 ·split
  ·exact QrK _ _ _ ab
  ·exact ab
theorem QpP {ac:Int×Bool}:∀ {l:List Ar},(∀a∈l,I64 a.n)->∀a∈(Q5 ac l).1,I64 a.n
 | [],_,a,aa=>by cases aa
 | b::l,h,a,aa=>by
  unfold Q5 at aa;split at aa
  ·rcases LK.1 aa with rfl | aa
   ·exact QAJ (h b (Ny ..))
   ·exact QpP (λc ab=>h c (NA _ ab)) a aa
  ·cases aa
theorem QDk {op:Int}{l:List Ar}(h:∀a∈l,I64 a.n):∀a∈Ja op l,I64 a.n:=by
 have ab:∀a∈l.reverse,I64 a.n:=λa aa=>h a (List.mem_reverse.1 aa);unfold Ja;split
 ·split
  ·intro a aa;refine h a ?_;simp only[LK,Ns,NN]at aa ⊢;rcases aa with h | h | h<;>simp[h]
  ·exact h
 ·split
  ·exact ab
  ·split
   ·exact ab
   ·exact h
theorem QAK {op:Int}{l:List Ar}(h:∀a∈l,I64 a.n):∀a∈(QT op l).2.1,I64 a.n:=by
 unfold QT;split
 ·intro a aa;cases aa
 ·split
  ·intro a aa;cases aa
  ·exact QDk (QpP h)
theorem QDl {op:Int}{l:List Ar}(ad:∀a∈l,I64 a.n):(Qao op l).length<=2∧∀m∈Qao op l,m.length<=5∧∀a∈m,I64 a.n:=by
 have ab:=QyC op l;have ac:=QAK (op:=op) ad;unfold Qao;split
 ·refine⟨by split<;>simp,λm aa=>?_⟩;rcases LI.1 aa with aa | aa
  ·rw[Sa]at aa;subst aa;exact⟨ab,ac⟩
  ·split at aa
   ·rw[Sa]at aa;subst aa;exact⟨by rw[List.length_reverse];exact ab,λa ae=>ac a (List.mem_reverse.1 ae)⟩
   ·cases aa
 ·simp
theorem QnF {op:Int}{va au:Value}{l:List Ar}{xs:List Lf}(H:Qa)(aw:QQ H va l)(aP:l.length<=1000)(av:∀a∈l,I64 a.n)(ax:QmB H au xs)(aM:∀x∈xs,x.Fr 0)(bh:xs.length<=6000):
  Qe prog 37 [.agg #[.Z op,va],au] H λv H'=>LsU 91 H H' v (QnE (xs.map (·.f)) op l) H'.next∧Ext H H':=by
 refine Qtm λai=>?_;obtain⟨a0,cap,rfl⟩:=Wd aw;obtain⟨aG,aH,rfl,_⟩:=id ax.1;simp only[Qkw,Wu,simprocAttr];generalize ac:Qa.push H _=H1;have g1:H1.get H.next=some (.cells [.Z op,.slice a0 l.length cap] 33 false):=by rw[<- ac,Qc,Lc rfl];rfl
 have aB:Ext H H1:=by rw[<- ac];exact(Ext.refl H).push _
 have bp:H1.Wf:=by rw[<- ac];exact ai.push _
 clear ac;simp only[Qb,simprocAttr,g1];refine(QoS H1 (aw.ext ai aB) aP av).thenW ?_;rintro sv Hs bm ak ⟨aV,bd⟩;have al:=aB.trans bd;obtain⟨bn,aW⟩:=QDl (op:=op) av;obtain⟨vs,bo,aZ,aY⟩:=aV;obtain⟨an,sc,rfl,aU⟩:=aZ;have aE:QnE (xs.map (·.f)) op l=(Qao op l).flatMap λm=>(List.range xs.length).flatMap (frm (xs.map (·.f)) op m):=by unfold QnE;rw[Nn]
 rw[aE];generalize Qao op l=sp at *;simp only[Qb,simprocAttr,Qr];refine Qp (λq A' H'=>∃i:Nat,i<=sp.length∧q=sp.length - i∧H'.Wf∧Ext Hs H'∧LsU 91 Hs H' (A' 5) ((sp.take i).flatMap λm=>(List.range xs.length).flatMap (frm (xs.map (·.f)) op m)) H'.next∧A' 1=.slice aG xs.length aH∧A' 15=.slice an sp.length sc∧A' 16=.Z sp.length∧A' 17=.Z i) sp.length ?_ ?_
 ·refine⟨0,L7 _,by omega,ak,.refl _,?_,?_,?_,?_,?_⟩
  ·simp only[Qf,simprocAttr];exact LsU.nil _ _ _ _
  all_goals simp only[Qf,simprocAttr]
  all_goals rfl
 ·rintro q A' H' ⟨i,hi,rfl,aj,ae,ab,r1,r15,aD,am⟩;simp only[Qhm,Qb,simprocAttr,aD,am];refine Qg (λaa=>?_) (λaa=>?_)
  ·have aa:i<sp.length:=by have:=Lg aa;omega
   obtain⟨b,e,ro,rfl,ay⟩:=aU (by omega);have aO:H'.get b=some (.cells (QyA op vs) e ro):=by rw[ae.get _ (ak.lt ay)];exact ay
   obtain⟨s,aA⟩:∃s,vs[i]? = some s:=⟨_,La (by omega)⟩;obtain⟨m,ah⟩:∃m,sp[i]? = some m:=⟨_,La aa⟩;have aK:=QBR op vs i s aA;have bi:=QyD op vs;have d1:(0:Int)<=i∧(i:Int)<sp.length:=by omega
   have d3:(i:Int).toNat=i:=by omega
   have aF:IntKind.i64.wrap ((i:Int)+1)=((i+1:Nat):Int):=by rw[w64 (by unfold I64;omega)];omega
   obtain⟨az,aL⟩:=aY i s m aA ah;obtain⟨bj,aR⟩:=aW m (Ln ah);obtain⟨an,sc,rfl⟩:=Wd az;simp only[Qhl,Qb,simprocAttr,r1,r15,am,d1,d3,aO,aK,Qr];refine⟨by omega,?_⟩;generalize ad:Qa.set (Qa.push H' _) _ _=H2;have ag:Ext H' H2:=by rw[<- ad];exact((Ext.refl H').push _).set (Lb _) _
   have ba:H2.Wf:=by rw[<- ad];exact(aj.push _).set (b0:=.cells [.Z 0,.slice none 0 0] 33 false) (by rw[Qc,Lc rfl]) _
   have g2:H2.get H'.next=some (.cells [.Z op,.slice an m.length sc] 33 false):=by rw[<- ad,Qh,Lc rfl]
   clear ad;have aS:¬inB (A' 5) H'.next:=λh=>by
    obtain⟨ss,_,aT,_⟩:=ab.it;have:=(aT.low aj h).2;omega
   have aJ:((sp.take i).flatMap λm=>(List.range xs.length).flatMap (frm (xs.map (·.f)) op m)).length<=500000:=by
    have aI:=Qds (f:=λm=>(List.range xs.length).flatMap (frm (xs.map (·.f)) op m)) (n:=144000) (sp.take i) λm _=>by
     have aa:=Qds (f:=frm (xs.map (·.f)) op m) (n:=24) (List.range xs.length) λk _=>Qwm _ _ _ _;rw[BO]at aa;omega
    rw[Sb]at aI;omega
   refine QMI (Hs:=Hs) (v:=A' 5) (xs:=xs) (m:=m) (B:=H'.next) aJ bh (by omega) aR ak (ae.trans ag) ba ((ab.go aj ag).mono ag.next) (ax.ext ai al) aM az aL g2 aS ?_ ?_ ?_ ?_ ?_ ?_
   ·simp only[Qf,simprocAttr]
   ·simp only[Qf,simprocAttr]
   ·simp only[Qf,simprocAttr]
   ·simp only[Qf,simprocAttr]
   ·simp only[Qf,simprocAttr]
   ·rintro A2 H3 bq rfl ⟨ao,ap,aq,ar⟩ bc aQ aN;simp only[Qf,simprocAttr]at ao ap aq ar;have bg:=aN.old (ae.trans ag) ab.ls.own;have aX:(sp.take (i+1)).flatMap (λm=>(List.range xs.length).flatMap (frm (xs.map (·.f)) op m))=(sp.take i).flatMap (λm=>(List.range xs.length).flatMap (frm (xs.map (·.f)) op m))++(List.range xs.length).flatMap (frm (xs.map (·.f)) op m):=by
     rw[Nv,ah,Bm];simp
    simp only[Qb,simprocAttr,ar,am,aF];refine⟨sp.length - (i+1),by omega,i+1,by omega,rfl,bc,bg,?_,?_,?_,?_,?_⟩
    ·simp only[Qf,simprocAttr];rw[aX];exact aQ
    ·simp only[Qf,simprocAttr,ao,r1]
    ·simp only[Qf,simprocAttr,ap,r15]
    ·simp only[Qf,simprocAttr,aq,aD]
    ·simp only[Qf,simprocAttr]
  ·have aa:i=sp.length:=by have:=Ll aa;omega
   subst aa;rw[Nr]at ab;simp only[Qb,simprocAttr,Qr4];have aC:=al.trans ae;exact .mk aC.next ⟨ab.down al.next,aC⟩
def Qka (L:List Fm)(op:Int)(l:List Ar):List Ld×Int:=
 if(Wl op l==0)=false then([],Wl op l) else if(QnE L op l).isEmpty=true then([],8) else(QnE L op l,0)
section
variable {T:Qa->Prop} {L:Int->List Fm} (hT:∀H H',H.Wf->T H->Ext H H'->T H') (hO:∀op H,T H->Qe prog 36 [.Z op] H λu H'=>QaY H H' u (L op))
include hT hO
theorem Qwn {op:Int}{va:Value}{l:List Ar}(H:Qa)(au:T H)(ai:QQ H va l)(aw:∀n,H.next<=n->Qj n 6 (.agg #[.Z op,va])=true)(am:l.length<=1000)(ak:∀a∈l,I64 a.n):
  Qe prog 72 [.agg #[.Z op,va]] H λu H'=>∃v,u=.tuple #[v,.Z (Qka (L op) op l).2]∧LsU 91 H H' v (Qka (L op) op l).1 H'.next∧Ext H H':=by
 refine Qtp λag=>?_;obtain⟨a0,cap,rfl⟩:=Wd ai;obtain⟨W,aa⟩:∃W,W=Qka (L op) op l:=⟨_,rfl⟩;rw[<- aa];unfold Qka at aa;simp only[Qkz,Wu,simprocAttr];generalize ae:Qa.push H _=H1;have g1:H1.get H.next=some (.cells [.Z op,.slice a0 l.length cap] 33 false):=by rw[<- ae,Qc,Lc rfl];rfl
 have an:Ext H H1:=by rw[<- ae];exact(Ext.refl H).push _
 have ax:H1.Wf:=by rw[<- ae];exact ag.push _
 clear ae;simp only[Qb,simprocAttr,g1];refine(Qb2 op _ l H1 (ai.ext ag an) am ak).thenW ?_;rintro _ _ av aG ⟨rfl,aq,rfl⟩;have ao:Ext H1 (H1.up aq):=(Ext.refl H1).up av;generalize H1.up aq=H2 at *;have ad:=an.trans ao;have g2:H2.get H.next=some (.cells [.Z op,.slice a0 l.length cap] 33 false):=by rw[ao.get _ (ax.lt g1)];exact g1
 simp only[Qb,simprocAttr];cases al:Wl op l==0 with
 | false=>
  rw[al,Lc rfl]at aa;simp only[Qb,simprocAttr,LM,QcJ];exact .mk ad.next ⟨_,by rw[aa],by rw[aa];exact LsU.nil _ _ _ _,ad⟩
 | true=>
  rw[al,Le (by simp)]at aa;simp only[Qb,simprocAttr,L8,g2];refine⟨aw _ ad.next,?_⟩;refine(hO op H2 (hT _ _ ag au ad)).thenW ?_;rintro aD H3 aE aH ⟨ap,aJ,ar,az,aB,aA⟩;have aj:=ad.trans ap;simp only[Qb,simprocAttr];refine⟨ap.eqB,?_⟩;refine(QnF H3 (ai.ext ag aj) am ak az.fms (λx hx=>(aA x hx).mono (L7 _)) aB).thenW ?_;rintro v H4 aF aI ⟨ac,ay⟩;rw[ar]at ac;have ah:=aj.trans ay;have ac:=ac.down aj.next;generalize QnE (L op) op l=Q at *;obtain⟨a4,aC,rfl⟩:=ac.ls.slc;simp only[Qb,simprocAttr,Qr];refine Qg (λh=>?_) (λh=>?_)
  ·have ab:Q=[]:=N2.1 (by simpa using h);rw[ab,Lc (show([]:List Ld).isEmpty=true from rfl)]at aa;simp only[Qb,simprocAttr,QcJ];exact .mk ah.next ⟨_,by rw[aa],by rw[aa];exact LsU.nil _ _ _ _,ah⟩
  ·have ab:Q≠[]:=λab=>by rw[ab]at h;simp at h
   rw[Le (by simpa using ab)]at aa;simp only[Qb,simprocAttr,QcJ];exact .mk ah.next ⟨_,by rw[aa],by rw[aa];exact ac,ah⟩
end
def QBS (n:Nat):Option (List Int)->Bool | none=>true | some b=>decide (n<b.length)
def Qjw (w:Int)(ab:List Fm)(aa:Option (List Int))(c:Ld):Option (List Int):=
 if(ab[c.x.toNat]?.elim false λf=>QuG w f c.h)&&QBS c.b.length aa then some c.b else aa
def QIc:Option (List Int)->List Int×Int | none=>([],8) | some b=>(b,0)
def QtR (L:List Fm)(op:Int)(l:List Ar)(w:Int):List Int×Int:=
 if(Wl op l==0)=false then([],Wl op l)
 else if(decide (w<0)||decide (3<w))=true then([],2)
 else QIc ((QnE L op l).foldl (Qjw w L) none)
theorem QKq {f:Fm}{l:List Ar}{e:List Int}{w c:Ld}(h:c∈QgN f l e w):c.b≠[]:=by
 unfold QgN at h;obtain⟨aa,_,rfl⟩:=N4.1 h;simp
theorem QKr {f:Fm}{op:Int}{l:List Ar}{c:Ld}(h:c∈QoR f op l):c.b≠[]:=by
 unfold QoR at h;split at h
 ·obtain⟨w,_,h⟩:=NF.1 h;exact QKq h
 ·cases h
theorem QAL (op:Int)(l:List Ar):(Qao op l).length<=2:=by
 unfold Qao;split
 ·split<;>simp
 ·simp
theorem QBT {L:List Fm}{op:Int}{l:List Ar}(ad:L.length<=6000):(QnE L op l).length<=288000:=by
 unfold QnE;have ab:=QAL op l;have ac:=Qds (f:=λm=>(List.range L.length).flatMap (frm L op m)) (n:=144000) (Qao op l) λm _=>by
  have aa:=Qds (f:=frm L op m) (n:=24) (List.range L.length) λk _=>Qwm _ _ _ _;rw[BO]at aa;omega
 omega
theorem QBU {L:List Fm}{op:Int}{l:List Ar}{c:Ld}(h:c∈QnE L op l):∃m∈Qao op l,∃ (k:Nat) (f:Fm),L[k]? = some f∧∃w∈QoR f op m,c=Qh5 k w:=by
 unfold QnE at h;obtain⟨m,ab,h⟩:=NF.1 h;obtain⟨k,_,h⟩:=NF.1 h;unfold frm at h;split at h
 ·rename_i f aa;obtain⟨w,ac,rfl⟩:=N4.1 h;exact⟨m,ab,k,f,aa,w,ac,rfl⟩
 ·cases h
def QyE (H0 H:Qa)(v:Value):Option (List Int)->Prop
 | none=>v=.slice none 0 0
 | some b=>b≠[]∧Gx 1 5 H0 H v b.length (bys b)
theorem QyE.go {H0 H H':Qa}{v:Value}{o:Option (List Int)}(h:QyE H0 H v o)(aa:H.Wf)(hx:Ext H H'):QyE H0 H' v o:=by
 cases o with
 | none=>exact h
 | some b=>exact⟨h.1,h.2.go aa hx⟩
section
variable {T:Qa->Prop} {L:Int->List Fm} (hT:∀H H',H.Wf->T H->Ext H H'->T H') (hO:∀op H,T H->Qe prog 36 [.Z op] H λu H'=>QaY H H' u (L op))
include hT hO
theorem QMJ {op:Int}{va:Value}{l:List Ar}{w:Int}{H H2:Qa}{B:Nat}{W:List Int×Int}(aZ:H.Wf)(b3:T H)(aQ:QQ H va l)(bD:l.length<=1000)(bz:∀a∈l,I64 a.n)(ba:Ext H H2)(bH:H2.Wf)(g2:H2.get B=some (.cells [.Z op,va] 33 false))
  (ag:W=QIc ((QnE (L op) op l).foldl (Qjw w (L op)) none)) {A:Env} (r1:A 1=.Z w) (r2:A 2=.P B):
  Qk prog K9 ⟨Rt prog Tryz.f20 H λu H'=>∃v,u=.tuple #[v,.Z W.2]∧Gx 1 5 H H' v W.1.length (bys W.1)∧Ext H H',Xi⟩ (Rt prog Tryz.f20 H λu H'=>∃v,u=.tuple #[v,.Z W.2]∧Gx 1 5 H H' v W.1.length (bys W.1)∧Ext H H') A H2:=by
 obtain⟨a0,cap,rfl⟩:=Wd aQ;simp only[K9,Qb,simprocAttr,r2,g2];refine(hO op H2 (hT _ _ aZ b3 ba)).thenW ?_;rintro bR H3 bV bI ⟨bc,ac,ax,bi,bj,bL⟩;have aL:=ba.trans bc;have g3:H3.get B=some (.cells [.Z op,.slice a0 l.length cap] 33 false):=by rw[bc.get _ (bH.lt g2)];exact g2
 simp only[Qb,simprocAttr,r2,g3];refine(QnF H3 (aQ.ext aZ aL) bD bz bi.fms (λx hx=>(bL x hx).mono (L7 _)) bj).thenW ?_;rintro v H4 bW aC ⟨am,bd⟩;have am:=am.ls;rw[ax]at am;have bK:=aL.trans bd;have bN:=bi.fms.ext bI bd;have bS:(QnE (L op) op l).length<=288000:=QBT (by rw[<- ax,Nn];exact bj);generalize b2:QnE (L op) op l=Q at *;obtain⟨bn,aE,rfl⟩:=am.slc;obtain⟨⟨bx,aF,rfl,b5⟩,b6⟩:=bN;have aB:Qvd prog 22=true:=by kernel_rfl
 simp only[Qb,simprocAttr,Qr];refine Qp (λq A' H'=>∃i:Nat,i<=Q.length∧q=Q.length - i∧H'.Wf∧Ext H4 H'∧QyE H3 H' (A' 8) ((Q.take i).foldl (Qjw w (L op)) none)∧A' 1=.Z w∧A' 7=.slice bx ac.length aF∧A' 27=.slice bn Q.length aE∧A' 28=.Z Q.length∧A' 29=.Z i) Q.length ?_ ?_
 ·refine⟨0,L7 _,by omega,aC,.refl _,?_,?_,?_,?_,?_,?_⟩
  ·simp only[Qf,simprocAttr];rfl
  all_goals simp only[Qf,simprocAttr,r1]
  all_goals rfl
 ·rintro q A' H' ⟨i,hi,rfl,an,ae,ab,r1,aq,ao,ap,ak⟩;simp only[QcH,Qb,simprocAttr,ap,ak];refine Qg (λad=>?_) (λad=>?_)
  ·have ad:i<Q.length:=by have:=Lg ad;omega
   obtain⟨ss,bF,bA,b9⟩:=(am.go aC ae).it;obtain⟨b,rfl,b8⟩:∃b,bn=some ⟨b,0,none⟩∧H'.get b=some (.cells (ldC ss Q) 91 false):=by
    rcases bA with⟨h,h',_⟩ | ⟨b,c,h,bP,bm,_⟩
    ·omega
    ·cases h;exact⟨b,rfl,bm⟩
   obtain⟨sv,aY⟩:∃sv,ss[i]? = some sv:=⟨_,La (by omega)⟩;obtain⟨c,az⟩:∃c,Q[i]? = some c:=⟨_,La ad⟩;have aI:=b9 i sv c aY az;have aR:=QsJ ss Q i sv c aY az;have bT:(ldC ss Q).length=Q.length * 3:=by rw[QnC _ _ bF]
   have aS:=Ln az;rw[<- b2]at aS;obtain⟨m,_,k,f,aA,aa,bG,rfl⟩:=QBU aS;have aW:aa.b≠[]:=QKr bG;have bY:0<aa.b.length:=Rj.2 aW;have bC:k<ac.length:=by have:=(Lk.1 aA).1;rw[<- ax,Nn]at this;exact this
   obtain⟨y,aM⟩:∃y,ac[k]? = some y:=⟨_,La bC⟩;have bM:y.f=f:=by rw[<- ax,LD,aM]at aA;exact Ly aA
   obtain⟨bf,bw,bQ,rfl,aV⟩:=b5 (by omega);have aU:H'.get bf=some (.cells (Wm ac) bw bQ):=by rw[ae.get _ (aC.lt aV)];exact aV
   have b4:=GA ac k y aM;have bU:=WM ac;have d1:(0:Int)<=i∧(i:Int)<Q.length:=by omega
   have d2:(0:Int)<=k∧(k:Int)<ac.length:=by omega
   have d3:(i:Int).toNat=i:=by omega
   have d4:(k:Int).toNat=k:=by omega
   have aw:IntKind.i64.wrap ((i:Int)+1)=((i+1:Nat):Int):=by rw[w64 (by unfold I64;omega)];omega
   have aO:(Qh5 (k:Int) aa).x=k:=rfl;have aN:(Qh5 (k:Int) aa).h=aa.h:=rfl;have ah:(Qh5 (k:Int) aa).b=aa.b:=rfl;rw[ah]at aI;obtain⟨ar,au,rfl⟩:=aI.slc;have bZ:=an.lt aU;have bO:¬bf=H'.next:=by omega
   rw[aO,aN]at aR;simp only[QcG,Qb,simprocAttr,r1,aq,ao,ak,d1,d2,d3,d4,b8,aR,aU,b4,bO,LN];refine⟨by omega,by omega,?_⟩;generalize ay:Qa.set (Qa.push H' _) _ _=H5;have bg:Ext H' H5:=by rw[<- ay];exact((Ext.refl H').push _).set (Lb _) _
   have bJ:H5.Wf:=by rw[<- ay];exact(an.push _).set (b0:=.cells [.slice none 0 0,.Z 0,.Z 0] 91 false) (by rw[Qc,Lc rfl]) _
   have aP:H5.get H'.next=some (.cells [.slice ar aa.b.length au,.Z k,.Z aa.h] 91 false):=by rw[<- ay,Qh,Lc rfl]
   clear ay;refine(QoO w aa.h H5 ((b6 y (Ln aM)).ext aC (ae.trans bg))).thenW ?_;rintro _ H6 bX aK ⟨rfl,bh⟩;have aG:H6.get H'.next=some (.cells [.slice ar aa.b.length au,.Z k,.Z aa.h] 91 false):=by rw[bh.get _ (bJ.lt aP)];exact aP
   have aj:=bg.trans bh;have b7:Gx 1 5 H3 H6 (.slice ar aa.b.length au) aa.b.length (bys aa.b):=aI.go an aj;have aJ:(Q.take (i+1)).foldl (Qjw w (L op)) none=Qjw w (L op) ((Q.take i).foldl (Qjw w (L op)) none) (Qh5 k aa):=by rw[Nv,az,List.foldl_append];rfl
   generalize (Q.take i).foldl (Qjw w (L op)) none=o at *;have ai:Qjw w (L op) o (Qh5 k aa)=if QuG w y.f aa.h&&QBS aa.b.length o then some aa.b else o:=by
    unfold Qjw;rw[aO,d4,aA,bM,aN,ah];rfl
   simp only[Qb,simprocAttr];cases aX:QuG w y.f aa.h with
   | false=>
    rw[aX,NG,Le (by decide)]at ai;simp only[Qb,simprocAttr,ak,aw];refine⟨Q.length - (i+1),by omega,i+1,by omega,rfl,aK,ae.trans aj,?_,?_,?_,?_,?_,?_⟩
    ·simp only[Qf,simprocAttr];rw[aJ,ai];exact ab.go an aj
    all_goals simp only[Qf,simprocAttr,r1,aq,ao,ap]
   | true=>
    rw[aX,LJ]at ai;have aT:QBS aa.b.length o=true->∀A2:Env,A2 8=.slice ar aa.b.length au->A2 1=.Z w->A2 7=.S bf ac.length aF->A2 27=.S b Q.length aE->A2 28=.Z Q.length->A2 29=.Z (i+1:Nat)->Quj (λq A' H'=>∃i:Nat,i<=Q.length∧q=Q.length - i∧H'.Wf∧Ext H4 H'∧QyE H3 H' (A' 8) ((Q.take i).foldl (Qjw w (L op)) none)∧A' 1=.Z w∧A' 7=.S bf ac.length aF∧A' 27=.S b Q.length aE∧A' 28=.Z Q.length∧A' 29=.Z i) (Q.length - i) A2 H6:=λh A2 a8 a1 a7 bo bp bq=>
     ⟨Q.length - (i+1),by omega,i+1,by omega,rfl,aK,ae.trans aj,by rw[aJ,ai,Lc h,a8];exact⟨aW,b7⟩,a1,a7,bo,bp,bq⟩
    simp only[Qb,simprocAttr];cases o with
    | none=>
     have ab:A' 8=.slice none 0 0:=ab;rw[QjK (a:=none) (n:=0) (c:=0) aB (by simp only[Qf,simprocAttr,ab])];simp only[Qb,simprocAttr,RV,aG,ak,aw];refine aT rfl _ ?_ ?_ ?_ ?_ ?_ ?_
     all_goals simp only[Qf,simprocAttr,r1,aq,ao,ap]
    | some b0=>
     obtain⟨aH,al⟩:=id ab;obtain⟨br,bu,av⟩:∃b c,A' 8=.S b b0.length c:=by
      rcases al with⟨_,h,_⟩ | ⟨b,c,h,_⟩
      ·exact absurd (N2.1 h) aH
      ·exact⟨b,c,h⟩
     rw[QjK (a:=some ⟨br,0,none⟩) (n:=b0.length) (c:=bu) aB (by simp only[Qf,simprocAttr,av])];simp only[Qb,simprocAttr,Ff,aG,av,Qr];refine Qg (λh=>?_) (λh=>?_)
     ·have h:=Lg h;simp only[Qb,simprocAttr,aG,ak,aw];refine aT (by show decide (aa.b.length<b0.length)=true;rw[Lv];omega) _ ?_ ?_ ?_ ?_ ?_ ?_
      all_goals simp only[Qf,simprocAttr,r1,aq,ao,ap]
     ·have h:=Ll h;have bE:QBS aa.b.length (some b0)=false:=by show decide (aa.b.length<b0.length)=false;rw[NY];omega
      rw[bE,Le (by decide)]at ai;simp only[Qb,simprocAttr,ak,aw];refine⟨Q.length - (i+1),by omega,i+1,by omega,rfl,aK,ae.trans aj,?_,?_,?_,?_,?_,?_⟩
      ·simp only[Qf,simprocAttr,av];rw[aJ,ai];rw[av]at ab;exact ab.go an aj
      all_goals simp only[Qf,simprocAttr,r1,aq,ao,ap]
  ·have ad:i=Q.length:=by have:=Ll ad;omega
   subst ad;rw[Nr]at ab;simp only[QcF,Qb,simprocAttr];generalize Q.foldl (Qjw w (L op)) none=o at *;have aD:=bK.trans ae;cases o with
   | none=>
    have ab:A' 8=.slice none 0 0:=ab;simp only[QIc]at ag;rw[QjK (a:=none) (n:=0) (c:=0) aB (by simp only[Qf,simprocAttr,ab])];simp only[Qb,simprocAttr,RV,Ym];exact .mk aD.next ⟨_,by rw[ag],by rw[ag];exact .inl ⟨rfl,rfl,rfl⟩,aD⟩
   | some bs=>
    obtain⟨aH,al⟩:=ab;simp only[QIc]at ag;obtain⟨b,c,ah,bP,bm,ca⟩:∃b c,A' 8=.S b bs.length c∧True∧True∧True:=by
     rcases al with⟨_,h,_⟩ | ⟨b,c,h,_⟩
     ·exact absurd (N2.1 h) aH
     ·exact⟨b,c,h,trivial,trivial,trivial⟩
    rw[QjK (a:=some ⟨b,0,none⟩) (n:=bs.length) (c:=c) aB (by simp only[Qf,simprocAttr,ah])];rw[ah]at al;simp only[Qb,simprocAttr,Ff,ah,Ym];exact .mk aD.next ⟨_,by rw[ag],by rw[ag];exact al.down aL.next,aD⟩
theorem Qqv {op:Int}{va:Value}{l:List Ar}(w:Int)(H:Qa)(ao:T H)(ad:QQ H va l)(au:∀n,H.next<=n->Qj n 6 (.agg #[.Z op,va])=true)(ak:l.length<=1000)(ai:∀a∈l,I64 a.n):
  Qe prog 20 [.agg #[.Z op,va],.Z w] H λu H'=>∃v,u=.tuple #[v,.Z (QtR (L op) op l w).2]∧Gx 1 5 H H' v (QtR (L op) op l w).1.length (bys (QtR (L op) op l w).1)∧Ext H H':=by
 refine Qoo λag=>?_;obtain⟨a0,cap,rfl⟩:=Wd ad;obtain⟨W,aa⟩:∃W,W=QtR (L op) op l w:=⟨_,rfl⟩;rw[<- aa];unfold QtR at aa;have ae:∀ (H0 H1:Qa),Gx 1 5 H0 H1 (.slice none 0 0) ([]:List Int).length (bys []):=λ_ _=>.inl ⟨rfl,rfl,rfl⟩;simp only[Qfx,Wu,simprocAttr];generalize ac:Qa.push H _=H1;have g1:H1.get H.next=some (.cells [.Z op,.slice a0 l.length cap] 33 false):=by rw[<- ac,Qc,Lc rfl];rfl
 have al:Ext H H1:=by rw[<- ac];exact(Ext.refl H).push _
 have aq:H1.Wf:=by rw[<- ac];exact ag.push _
 clear ac;simp only[Qb,simprocAttr,g1];refine(Qb2 op _ l H1 (ad.ext ag al) ak ai).thenW ?_;rintro _ _ ap ar ⟨rfl,an,rfl⟩;have am:Ext H1 (H1.up an):=(Ext.refl H1).up ap;generalize H1.up an=H2 at *;have ab:=al.trans am;have g2:H2.get H.next=some (.cells [.Z op,.slice a0 l.length cap] 33 false):=by rw[am.get _ (aq.lt g1)];exact g1
 simp only[Qb,simprocAttr];cases aj:Wl op l==0 with
 | false=>
  rw[aj,Lc rfl]at aa;simp only[Qb,simprocAttr,LM,Ym];exact .mk ab.next ⟨_,by rw[aa],by rw[aa];exact ae _ _,ab⟩
 | true=>
  rw[aj,Le (by simp)]at aa;simp only[QcI,Qb,simprocAttr,L8];cases ah:decide (w<0) with
  | true=>
   rw[ah,N1,Lc rfl]at aa;simp only[Qb,simprocAttr,L8,Ym];exact .mk ab.next ⟨_,by rw[aa],by rw[aa];exact ae _ _,ab⟩
  | false=>
   rw[ah,Nt]at aa;simp only[Qb,simprocAttr,LM];refine Qg (λh=>?_) (λh=>?_)
   ·rw[Lc (by simpa using h)]at aa;simp only[Qb,simprocAttr,Ym];exact .mk ab.next ⟨_,by rw[aa],by rw[aa];exact ae _ _,ab⟩
   ·rw[Le (by simpa using h)]at aa;simp only[Qb,simprocAttr];refine QMJ hT hO ag ao ad ak ai ab ar g2 aa ?_ ?_
    all_goals simp only[Qf,simprocAttr]
end
end Go.Proofs.YtopkfjiipdjbmaaGreatDoor.code
