/- How many bytes stand behind ModRM. -/
import Derived.Test.YtgepgbbjfhggfaaGreatDoorC5Dec
import Derived.Test.YtgepgbbjfhggfaaGreatDoorLibA
import Derived.Test.YtgepgbbjfhggfaaGreatDoorLibB
import Derived.Test.YtgepgbbjfhggfaaGreatDoorLibN
import Derived.Test.YtgepgbbjfhggfaaGreatDoorLibI
set_option linter.unusedVariables false
set_option linter.unusedSimpArgs false
set_option maxRecDepth 100000
set_option maxHeartbeats 4000000
noncomputable section
namespace Go.Proofs.YtgepgbbjfhggfaaGreatDoor.code
open Go.Ab
def tl0 (s:Int):Int:=if(s==20||s==21||s==26)=true then 1 else if(s==22)=true then 2 else if(s==23||s==24||s==27)=true then 4 else if(s==25)=true then 8 else 0
def tl1 (f:Fm):Int:=if(decide (0<=Qn f.slots 5)&&decide (Qn f.slots 5<f.shapes.length))=true then tl0 (f.shapes.getD (Qn f.slots 5).toNat 0) else 0
def tlF (f:Fm):Int:=bif decide (0<=Qn f.slots 7) then tl1 f+1 else tl1 f
theorem QHk (s:Int):0<=tl0 s∧tl0 s<=8:=by
 unfold tl0
 repeat' split
 all_goals decide
theorem QsD (f:Fm):0<=tl1 f∧tl1 f<=8:=by
 unfold tl1;split
 ·exact QHk _
 ·decide
theorem QvF (x:Lf)(H:Qa)(hx:x.At H):Qe prog 247 [.agg x.cells.toArray] H λu H'=>u=.int .i64 (tlF x.f)∧∃m,H'=H.up m:=by
 refine QtE λhw=>?_;have ex:(Value.agg x.cells.toArray).cells.toList=x.cells:=rfl;have hx0:Ext H (H.push (.cells x.cells 45 false)):=(Ext.refl H).push _;have hg0:(H.push (.cells x.cells 45 false)).get H.next=some (.cells x.cells 45 false):=by rw[Qd,Lc rfl]
 have hw0:=hw.push (.cells x.cells 45 false);obtain⟨l1,l2,h1,h2⟩:=hx.ext hw hx0;obtain⟨a1,c1,e1,s1⟩:=h1;have x1:x.cells[1]? = some (.slice a1 x.f.shapes.length c1):=by rw[<- e1];rfl
 have qs:=Wt x 5 _ (hx.ext hw hx0);have q7:=λm (hm:(H.push (.cells x.cells 45 false)).next<=m)=>Wt x 7 _ (hx.ext hw (hx0.up hm));have hs:tlF x.f=bif decide (0<=Qn x.f.slots 7) then tl1 x.f+1 else tl1 x.f:=rfl
 have hs1:tl1 x.f=if(decide (0<=Qn x.f.slots 5)&&decide (Qn x.f.slots 5<x.f.shapes.length))=true then tl0 (x.f.shapes.getD (Qn x.f.slots 5).toNat 0) else 0:=rfl
 have hle:=QsD x.f;generalize tl1 x.f=n at *;generalize tlF x.f=r at *;generalize Qn x.f.slots 7=i7 at *;simp only[Qmb,ex,Qb,simprocAttr,QI,Wq,x1];generalize H.push (.cells x.cells 45 false)=H1 at *;have last:∀ (A:Env) m,H1.next<=m->A 1=.pointer (some ⟨H.next,0,none⟩)->A 3=.int .i64 n->Qm prog QdC ⟨Rt prog Tryz.f247 H (λu H'=>u=.int .i64 r∧∃m,H'=H.up m),WJ⟩ (Rt prog Tryz.f247 H (λu H'=>u=.int .i64 r∧∃m,H'=H.up m)) A (H1.up m):=by
  intro A m hm a1' a3;simp only[QdC,Qb,simprocAttr,a1',a3,hg0,QI,Wq];refine(q7 m hm).thenW ?_;rintro _ _ hn1 hw1 ⟨rfl,m2,rfl⟩;have hx2:=(hx0.up hm).up hn1;have en:IntKind.i64.wrap (n+1)=n+1:=w64 (by unfold I64;omega);cases z:decide (0<=i7) with
  | true=>
   rw[z]at hs;simp only[Qb,simprocAttr,z,a3,en,Qkk];exact .ext hw hx2 ⟨by rw[hs];rfl,_,rfl⟩
  | false=>
   rw[z]at hs;simp only[Qb,simprocAttr,z,a3,Qkk];exact .ext hw hx2 ⟨by rw[hs];rfl,_,rfl⟩
 refine qs.thenW ?_;rintro _ _ hn1 hw1 ⟨rfl,m1,rfl⟩;simp only[Ql]at hn1;generalize Qn x.f.slots 5=i at *;simp only[Qb,simprocAttr,hg0,x1];refine Qp (λh=>?_) (λh=>?_)<;>simp only[Qb,simprocAttr,hg0,x1,h]
 ·have h0:0<=i:=Lg h;refine Qf (λh'=>?_) (λh'=>?_)<;>simp only[Qb,simprocAttr,hg0,x1]
  ·have h1:i<x.f.shapes.length:=Lg h';obtain⟨b1,e1',ro1,rfl,hb1⟩:=s1 (by omega);have g1:=Zh (l:=x.f.shapes) (i:=i.toNat) (by omega);rw[Lc (by rw[h,h'];rfl)]at hs1;generalize x.f.shapes.getD i.toNat 0=s at *;have hs2:n=if(s==20||s==21||s==26)=true then 1 else if(s==22)=true then 2 else if(s==23||s==24||s==27)=true then 4 else if(s==25)=true then 8 else 0:=hs1
   clear hs1;simp only[QiX,QiW,QiV,QiU,QiT,h0,h1,Qb,simprocAttr,hg0,x1,hb1,g1];cases z1:s==20<;>cases z2:s==21<;>cases z3:s==26<;>cases z4:s==22<;>cases z5:s==23<;>cases z6:s==24<;>cases z7:s==27<;>cases z8:s==25<;>simp only[Qb,simprocAttr,z1,z2,z3,z4,z5,z6,z7,z8]
   all_goals (rw[z1,z2,z3,z4,z5,z6,z7,z8]at hs2;refine last _ m1 hn1 ?_ ?_<;>simp only[Qg,simprocAttr,hs2])
   all_goals rfl
  ·rw[Le (by rw[h,h'];decide)]at hs1;refine last _ m1 hn1 ?_ ?_<;>simp only[Qg,simprocAttr,hs1]
 ·rw[Le (by rw[h];simp)]at hs1;refine last _ m1 hn1 ?_ ?_<;>simp only[Qg,simprocAttr,hs1]
structure Gv where
 a:Ar
 bits:Int
 n:Int
def Gv.cells (g:Gv):List Value:=[.int .i64 g.a.k,.int .i64 g.a.r.c,.int .i64 g.a.r.n,.int .i64 g.a.m.b.c,.int .i64 g.a.m.b.n,.int .i64 g.a.m.i.c,.int .i64 g.a.m.i.n,.int .i64 g.a.m.sc,.int .i64 g.a.m.d,.int .i64 g.a.m.sz,.int .i64 g.a.n,.int .i64 g.bits,.int .i64 g.n]
def W3 (g:Gv)(c:Int):Bool:=(g.a.k==1)&&(g.a.r.c==c)
def YI (g:Gv)(z:Int):Bool:=(g.a.k==2)&&(g.a.m.sz==z)
theorem ZP (g:Gv)(c:Int)(H:Qa):Qe prog 215 [.agg g.cells.toArray,.int .i64 c] H λu H'=>u=.bool (W3 g c)∧∃k,H'=H.up k:=by
 refine Qki λhw=>?_;unfold W3;obtain⟨⟨k,⟨rc,rn⟩,⟨⟨bc,bn⟩,⟨ic,nn⟩,sc,d,sz⟩,n⟩,bits,gn⟩:=g;simp only[Gv.cells,Qc0,Qb,simprocAttr];cases h:k==1<;>simp only[Qb,simprocAttr,h,Qjq]
 all_goals exact .ext hw ((Ext.refl H).push _) ⟨by simp,_,rfl⟩
theorem Kz (g:Gv)(z:Int)(H:Qa):Qe prog 224 [.agg g.cells.toArray,.int .i64 z] H λu H'=>u=.bool (YI g z)∧∃k,H'=H.up k:=by
 refine Qkj λhw=>?_;unfold YI;obtain⟨⟨k,⟨rc,rn⟩,⟨⟨bc,bn⟩,⟨ic,nn⟩,sc,d,sz⟩,n⟩,bits,gn⟩:=g;simp only[Gv.cells,Qc1,Qb,simprocAttr];cases h:k==2<;>simp only[Qb,simprocAttr,h,Qjr]
 all_goals exact .ext hw ((Ext.refl H).push _) ⟨by simp,_,rfl⟩
/-! The tests. -/
theorem QJN (g:Gv)(H:Qa):Qe prog 216 [.agg g.cells.toArray] H λu H'=>u=.bool (false)∧∃m,H'=H.up m:=by
 refine QpA λhw=>?_;obtain⟨⟨k,⟨rc,rn⟩,⟨⟨bc,bn⟩,⟨ic,nn⟩,sc,d,sz⟩,n⟩,bits,gn⟩:=g;simp only[Gv.cells,QgZ,Qb,simprocAttr,Qn5];exact .ext hw ((Ext.refl H).push _) ⟨rfl,_,rfl⟩
theorem QJO (g:Gv)(H:Qa):Qe prog 217 [.agg g.cells.toArray] H λu H'=>u=.bool (W3 g 1||W3 g 2)∧∃m,H'=H.up m:=by
 refine QpB λhw=>?_;have q0:=ZP g 1;obtain⟨v0,e0⟩:∃v,W3 g 1=v:=⟨_,rfl⟩;rw[e0]at q0 ⊢;have q1:=ZP g 2;obtain⟨v1,e1⟩:∃v,W3 g 2=v:=⟨_,rfl⟩;rw[e1]at q1 ⊢;clear e0 e1;obtain⟨⟨k,⟨rc,rn⟩,⟨⟨bc,bn⟩,⟨ic,nn⟩,sc,d,sz⟩,n⟩,bits,gn⟩:=g;simp only[Gv.cells]at q0 q1;simp only[Gv.cells,Qg0,Qb,simprocAttr];refine(q0 _).thenW ?_;rintro _ _ hn0 hw0 ⟨rfl,k0,rfl⟩;simp only[Qc,Ql]at hn0;cases v0 with
 | true=>
  simp only[Qb,simprocAttr,Qfo];exact .ext hw (((Ext.refl H).push _).up (by simp only[Qc,Ql];omega)) ⟨by simp,_,rfl⟩
 | false=>
  simp only[Qb,simprocAttr];refine(q1 _).thenW ?_;rintro _ _ hn1 hw1 ⟨rfl,k1,rfl⟩;simp only[Qc,Ql]at hn1;simp only[Qb,simprocAttr,Qfo];exact .ext hw ((((Ext.refl H).push _).up (by simp only[Qc,Ql];omega)).up (by simp only[Qc,Ql];omega)) ⟨by simp,_,rfl⟩
theorem QJP (g:Gv)(H:Qa):Qe prog 218 [.agg g.cells.toArray] H λu H'=>u=.bool (W3 g 3)∧∃m,H'=H.up m:=by
 refine QpC λhw=>?_;have q0:=ZP g 3;obtain⟨v0,e0⟩:∃v,W3 g 3=v:=⟨_,rfl⟩;rw[e0]at q0 ⊢;clear e0;obtain⟨⟨k,⟨rc,rn⟩,⟨⟨bc,bn⟩,⟨ic,nn⟩,sc,d,sz⟩,n⟩,bits,gn⟩:=g;simp only[Gv.cells]at q0;simp only[Gv.cells,Qg1,Qb,simprocAttr];refine(q0 _).thenW ?_;rintro _ _ hn0 hw0 ⟨rfl,k0,rfl⟩;simp only[Qc,Ql]at hn0;simp only[Qb,simprocAttr,Qn6];exact .ext hw (((Ext.refl H).push _).up (by simp only[Qc,Ql];omega)) ⟨by simp,_,rfl⟩
theorem QJQ (g:Gv)(H:Qa):Qe prog 219 [.agg g.cells.toArray] H λu H'=>u=.bool (W3 g 4)∧∃m,H'=H.up m:=by
 refine QpD λhw=>?_;have q0:=ZP g 4;obtain⟨v0,e0⟩:∃v,W3 g 4=v:=⟨_,rfl⟩;rw[e0]at q0 ⊢;clear e0;obtain⟨⟨k,⟨rc,rn⟩,⟨⟨bc,bn⟩,⟨ic,nn⟩,sc,d,sz⟩,n⟩,bits,gn⟩:=g;simp only[Gv.cells]at q0;simp only[Gv.cells,Qg2,Qb,simprocAttr];refine(q0 _).thenW ?_;rintro _ _ hn0 hw0 ⟨rfl,k0,rfl⟩;simp only[Qc,Ql]at hn0;simp only[Qb,simprocAttr,Qn7];exact .ext hw (((Ext.refl H).push _).up (by simp only[Qc,Ql];omega)) ⟨by simp,_,rfl⟩
theorem QJR (g:Gv)(H:Qa):Qe prog 220 [.agg g.cells.toArray] H λu H'=>u=.bool (W3 g 5)∧∃m,H'=H.up m:=by
 refine QpE λhw=>?_;have q0:=ZP g 5;obtain⟨v0,e0⟩:∃v,W3 g 5=v:=⟨_,rfl⟩;rw[e0]at q0 ⊢;clear e0;obtain⟨⟨k,⟨rc,rn⟩,⟨⟨bc,bn⟩,⟨ic,nn⟩,sc,d,sz⟩,n⟩,bits,gn⟩:=g;simp only[Gv.cells]at q0;simp only[Gv.cells,Qg3,Qb,simprocAttr];refine(q0 _).thenW ?_;rintro _ _ hn0 hw0 ⟨rfl,k0,rfl⟩;simp only[Qc,Ql]at hn0;simp only[Qb,simprocAttr,Qn8];exact .ext hw (((Ext.refl H).push _).up (by simp only[Qc,Ql];omega)) ⟨by simp,_,rfl⟩
theorem QJS (g:Gv)(H:Qa):Qe prog 221 [.agg g.cells.toArray] H λu H'=>u=.bool (W3 g 6)∧∃m,H'=H.up m:=by
 refine QpF λhw=>?_;have q0:=ZP g 6;obtain⟨v0,e0⟩:∃v,W3 g 6=v:=⟨_,rfl⟩;rw[e0]at q0 ⊢;clear e0;obtain⟨⟨k,⟨rc,rn⟩,⟨⟨bc,bn⟩,⟨ic,nn⟩,sc,d,sz⟩,n⟩,bits,gn⟩:=g;simp only[Gv.cells]at q0;simp only[Gv.cells,Qg4,Qb,simprocAttr];refine(q0 _).thenW ?_;rintro _ _ hn0 hw0 ⟨rfl,k0,rfl⟩;simp only[Qc,Ql]at hn0;simp only[Qb,simprocAttr,Qn9];exact .ext hw (((Ext.refl H).push _).up (by simp only[Qc,Ql];omega)) ⟨by simp,_,rfl⟩
theorem QJT (g:Gv)(H:Qa):Qe prog 222 [.agg g.cells.toArray] H λu H'=>u=.bool (W3 g 7)∧∃m,H'=H.up m:=by
 refine QpG λhw=>?_;have q0:=ZP g 7;obtain⟨v0,e0⟩:∃v,W3 g 7=v:=⟨_,rfl⟩;rw[e0]at q0 ⊢;clear e0;obtain⟨⟨k,⟨rc,rn⟩,⟨⟨bc,bn⟩,⟨ic,nn⟩,sc,d,sz⟩,n⟩,bits,gn⟩:=g;simp only[Gv.cells]at q0;simp only[Gv.cells,Qg5,Qb,simprocAttr];refine(q0 _).thenW ?_;rintro _ _ hn0 hw0 ⟨rfl,k0,rfl⟩;simp only[Qc,Ql]at hn0;simp only[Qb,simprocAttr,Qoa];exact .ext hw (((Ext.refl H).push _).up (by simp only[Qc,Ql];omega)) ⟨by simp,_,rfl⟩
theorem QJU (g:Gv)(H:Qa):Qe prog 223 [.agg g.cells.toArray] H λu H'=>u=.bool (W3 g 1||W3 g 2||YI g 1)∧∃m,H'=H.up m:=by
 refine QpH λhw=>?_;have q0:=ZP g 1;obtain⟨v0,e0⟩:∃v,W3 g 1=v:=⟨_,rfl⟩;rw[e0]at q0 ⊢;have q1:=ZP g 2;obtain⟨v1,e1⟩:∃v,W3 g 2=v:=⟨_,rfl⟩;rw[e1]at q1 ⊢;have q2:=Kz g 1;obtain⟨v2,e2⟩:∃v,YI g 1=v:=⟨_,rfl⟩;rw[e2]at q2 ⊢;clear e0 e1 e2;obtain⟨⟨k,⟨rc,rn⟩,⟨⟨bc,bn⟩,⟨ic,nn⟩,sc,d,sz⟩,n⟩,bits,gn⟩:=g;simp only[Gv.cells]at q0 q1 q2;simp only[Gv.cells,Qg6,Qb,simprocAttr];refine(q0 _).thenW ?_;rintro _ _ hn0 hw0 ⟨rfl,k0,rfl⟩;simp only[Qc,Ql]at hn0;cases v0 with
 | true=>
  simp only[Qb,simprocAttr,QaU];exact .ext hw (((Ext.refl H).push _).up (by simp only[Qc,Ql];omega)) ⟨by simp,_,rfl⟩
 | false=>
  simp only[Qb,simprocAttr];refine(q1 _).thenW ?_;rintro _ _ hn1 hw1 ⟨rfl,k1,rfl⟩;simp only[Qc,Ql]at hn1;cases v1 with
  | true=>
   simp only[Qb,simprocAttr,QaU];exact .ext hw ((((Ext.refl H).push _).up (by simp only[Qc,Ql];omega)).up (by simp only[Qc,Ql];omega)) ⟨by simp,_,rfl⟩
  | false=>
   simp only[Qb,simprocAttr];refine(q2 _).thenW ?_;rintro _ _ hn2 hw2 ⟨rfl,k2,rfl⟩;simp only[Qc,Ql]at hn2;simp only[Qb,simprocAttr,QaU];exact .ext hw (((((Ext.refl H).push _).up (by simp only[Qc,Ql];omega)).up (by simp only[Qc,Ql];omega)).up (by simp only[Qc,Ql];omega)) ⟨by simp,_,rfl⟩
theorem QIF (g:Gv)(H:Qa):Qe prog 225 [.agg g.cells.toArray] H λu H'=>u=.bool (W3 g 3||YI g 2)∧∃m,H'=H.up m:=by
 refine Qob λhw=>?_;have q0:=ZP g 3;obtain⟨v0,e0⟩:∃v,W3 g 3=v:=⟨_,rfl⟩;rw[e0]at q0 ⊢;have q1:=Kz g 2;obtain⟨v1,e1⟩:∃v,YI g 2=v:=⟨_,rfl⟩;rw[e1]at q1 ⊢;clear e0 e1;obtain⟨⟨k,⟨rc,rn⟩,⟨⟨bc,bn⟩,⟨ic,nn⟩,sc,d,sz⟩,n⟩,bits,gn⟩:=g;simp only[Gv.cells]at q0 q1;simp only[Gv.cells,Qfp,Qb,simprocAttr];refine(q0 _).thenW ?_;rintro _ _ hn0 hw0 ⟨rfl,k0,rfl⟩;simp only[Qc,Ql]at hn0;cases v0 with
 | true=>
  simp only[Qb,simprocAttr,QeC];exact .ext hw (((Ext.refl H).push _).up (by simp only[Qc,Ql];omega)) ⟨by simp,_,rfl⟩
 | false=>
  simp only[Qb,simprocAttr];refine(q1 _).thenW ?_;rintro _ _ hn1 hw1 ⟨rfl,k1,rfl⟩;simp only[Qc,Ql]at hn1;simp only[Qb,simprocAttr,QeC];exact .ext hw ((((Ext.refl H).push _).up (by simp only[Qc,Ql];omega)).up (by simp only[Qc,Ql];omega)) ⟨by simp,_,rfl⟩
theorem QIG (g:Gv)(H:Qa):Qe prog 226 [.agg g.cells.toArray] H λu H'=>u=.bool (W3 g 4||YI g 4)∧∃m,H'=H.up m:=by
 refine Qoc λhw=>?_;have q0:=ZP g 4;obtain⟨v0,e0⟩:∃v,W3 g 4=v:=⟨_,rfl⟩;rw[e0]at q0 ⊢;have q1:=Kz g 4;obtain⟨v1,e1⟩:∃v,YI g 4=v:=⟨_,rfl⟩;rw[e1]at q1 ⊢;clear e0 e1;obtain⟨⟨k,⟨rc,rn⟩,⟨⟨bc,bn⟩,⟨ic,nn⟩,sc,d,sz⟩,n⟩,bits,gn⟩:=g;simp only[Gv.cells]at q0 q1;simp only[Gv.cells,Qfq,Qb,simprocAttr];refine(q0 _).thenW ?_;rintro _ _ hn0 hw0 ⟨rfl,k0,rfl⟩;simp only[Qc,Ql]at hn0;cases v0 with
 | true=>
  simp only[Qb,simprocAttr,QeD];exact .ext hw (((Ext.refl H).push _).up (by simp only[Qc,Ql];omega)) ⟨by simp,_,rfl⟩
 | false=>
  simp only[Qb,simprocAttr];refine(q1 _).thenW ?_;rintro _ _ hn1 hw1 ⟨rfl,k1,rfl⟩;simp only[Qc,Ql]at hn1;simp only[Qb,simprocAttr,QeD];exact .ext hw ((((Ext.refl H).push _).up (by simp only[Qc,Ql];omega)).up (by simp only[Qc,Ql];omega)) ⟨by simp,_,rfl⟩
theorem QIH (g:Gv)(H:Qa):Qe prog 227 [.agg g.cells.toArray] H λu H'=>u=.bool (W3 g 5||YI g 8)∧∃m,H'=H.up m:=by
 refine Qod λhw=>?_;have q0:=ZP g 5;obtain⟨v0,e0⟩:∃v,W3 g 5=v:=⟨_,rfl⟩;rw[e0]at q0 ⊢;have q1:=Kz g 8;obtain⟨v1,e1⟩:∃v,YI g 8=v:=⟨_,rfl⟩;rw[e1]at q1 ⊢;clear e0 e1;obtain⟨⟨k,⟨rc,rn⟩,⟨⟨bc,bn⟩,⟨ic,nn⟩,sc,d,sz⟩,n⟩,bits,gn⟩:=g;simp only[Gv.cells]at q0 q1;simp only[Gv.cells,Qfr,Qb,simprocAttr];refine(q0 _).thenW ?_;rintro _ _ hn0 hw0 ⟨rfl,k0,rfl⟩;simp only[Qc,Ql]at hn0;cases v0 with
 | true=>
  simp only[Qb,simprocAttr,QeE];exact .ext hw (((Ext.refl H).push _).up (by simp only[Qc,Ql];omega)) ⟨by simp,_,rfl⟩
 | false=>
  simp only[Qb,simprocAttr];refine(q1 _).thenW ?_;rintro _ _ hn1 hw1 ⟨rfl,k1,rfl⟩;simp only[Qc,Ql]at hn1;simp only[Qb,simprocAttr,QeE];exact .ext hw ((((Ext.refl H).push _).up (by simp only[Qc,Ql];omega)).up (by simp only[Qc,Ql];omega)) ⟨by simp,_,rfl⟩
theorem QII (g:Gv)(H:Qa):Qe prog 228 [.agg g.cells.toArray] H λu H'=>u=.bool (W3 g 6||YI g 4)∧∃m,H'=H.up m:=by
 refine Qoe λhw=>?_;have q0:=ZP g 6;obtain⟨v0,e0⟩:∃v,W3 g 6=v:=⟨_,rfl⟩;rw[e0]at q0 ⊢;have q1:=Kz g 4;obtain⟨v1,e1⟩:∃v,YI g 4=v:=⟨_,rfl⟩;rw[e1]at q1 ⊢;clear e0 e1;obtain⟨⟨k,⟨rc,rn⟩,⟨⟨bc,bn⟩,⟨ic,nn⟩,sc,d,sz⟩,n⟩,bits,gn⟩:=g;simp only[Gv.cells]at q0 q1;simp only[Gv.cells,Qfs,Qb,simprocAttr];refine(q0 _).thenW ?_;rintro _ _ hn0 hw0 ⟨rfl,k0,rfl⟩;simp only[Qc,Ql]at hn0;cases v0 with
 | true=>
  simp only[Qb,simprocAttr,QeF];exact .ext hw (((Ext.refl H).push _).up (by simp only[Qc,Ql];omega)) ⟨by simp,_,rfl⟩
 | false=>
  simp only[Qb,simprocAttr];refine(q1 _).thenW ?_;rintro _ _ hn1 hw1 ⟨rfl,k1,rfl⟩;simp only[Qc,Ql]at hn1;simp only[Qb,simprocAttr,QeF];exact .ext hw ((((Ext.refl H).push _).up (by simp only[Qc,Ql];omega)).up (by simp only[Qc,Ql];omega)) ⟨by simp,_,rfl⟩
theorem QIJ (g:Gv)(H:Qa):Qe prog 229 [.agg g.cells.toArray] H λu H'=>u=.bool (W3 g 6||YI g 8)∧∃m,H'=H.up m:=by
 refine Qof λhw=>?_;have q0:=ZP g 6;obtain⟨v0,e0⟩:∃v,W3 g 6=v:=⟨_,rfl⟩;rw[e0]at q0 ⊢;have q1:=Kz g 8;obtain⟨v1,e1⟩:∃v,YI g 8=v:=⟨_,rfl⟩;rw[e1]at q1 ⊢;clear e0 e1;obtain⟨⟨k,⟨rc,rn⟩,⟨⟨bc,bn⟩,⟨ic,nn⟩,sc,d,sz⟩,n⟩,bits,gn⟩:=g;simp only[Gv.cells]at q0 q1;simp only[Gv.cells,Qft,Qb,simprocAttr];refine(q0 _).thenW ?_;rintro _ _ hn0 hw0 ⟨rfl,k0,rfl⟩;simp only[Qc,Ql]at hn0;cases v0 with
 | true=>
  simp only[Qb,simprocAttr,QeG];exact .ext hw (((Ext.refl H).push _).up (by simp only[Qc,Ql];omega)) ⟨by simp,_,rfl⟩
 | false=>
  simp only[Qb,simprocAttr];refine(q1 _).thenW ?_;rintro _ _ hn1 hw1 ⟨rfl,k1,rfl⟩;simp only[Qc,Ql]at hn1;simp only[Qb,simprocAttr,QeG];exact .ext hw ((((Ext.refl H).push _).up (by simp only[Qc,Ql];omega)).up (by simp only[Qc,Ql];omega)) ⟨by simp,_,rfl⟩
theorem QIK (g:Gv)(H:Qa):Qe prog 230 [.agg g.cells.toArray] H λu H'=>u=.bool (W3 g 6||YI g 16)∧∃m,H'=H.up m:=by
 refine Qog λhw=>?_;have q0:=ZP g 6;obtain⟨v0,e0⟩:∃v,W3 g 6=v:=⟨_,rfl⟩;rw[e0]at q0 ⊢;have q1:=Kz g 16;obtain⟨v1,e1⟩:∃v,YI g 16=v:=⟨_,rfl⟩;rw[e1]at q1 ⊢;clear e0 e1;obtain⟨⟨k,⟨rc,rn⟩,⟨⟨bc,bn⟩,⟨ic,nn⟩,sc,d,sz⟩,n⟩,bits,gn⟩:=g;simp only[Gv.cells]at q0 q1;simp only[Gv.cells,Qfu,Qb,simprocAttr];refine(q0 _).thenW ?_;rintro _ _ hn0 hw0 ⟨rfl,k0,rfl⟩;simp only[Qc,Ql]at hn0;cases v0 with
 | true=>
  simp only[Qb,simprocAttr,QeH];exact .ext hw (((Ext.refl H).push _).up (by simp only[Qc,Ql];omega)) ⟨by simp,_,rfl⟩
 | false=>
  simp only[Qb,simprocAttr];refine(q1 _).thenW ?_;rintro _ _ hn1 hw1 ⟨rfl,k1,rfl⟩;simp only[Qc,Ql]at hn1;simp only[Qb,simprocAttr,QeH];exact .ext hw ((((Ext.refl H).push _).up (by simp only[Qc,Ql];omega)).up (by simp only[Qc,Ql];omega)) ⟨by simp,_,rfl⟩
theorem QIL (g:Gv)(H:Qa):Qe prog 231 [.agg g.cells.toArray] H λu H'=>u=.bool (W3 g 7||YI g 32)∧∃m,H'=H.up m:=by
 refine Qoh λhw=>?_;have q0:=ZP g 7;obtain⟨v0,e0⟩:∃v,W3 g 7=v:=⟨_,rfl⟩;rw[e0]at q0 ⊢;have q1:=Kz g 32;obtain⟨v1,e1⟩:∃v,YI g 32=v:=⟨_,rfl⟩;rw[e1]at q1 ⊢;clear e0 e1;obtain⟨⟨k,⟨rc,rn⟩,⟨⟨bc,bn⟩,⟨ic,nn⟩,sc,d,sz⟩,n⟩,bits,gn⟩:=g;simp only[Gv.cells]at q0 q1;simp only[Gv.cells,Qfv,Qb,simprocAttr];refine(q0 _).thenW ?_;rintro _ _ hn0 hw0 ⟨rfl,k0,rfl⟩;simp only[Qc,Ql]at hn0;cases v0 with
 | true=>
  simp only[Qb,simprocAttr,QeI];exact .ext hw (((Ext.refl H).push _).up (by simp only[Qc,Ql];omega)) ⟨by simp,_,rfl⟩
 | false=>
  simp only[Qb,simprocAttr];refine(q1 _).thenW ?_;rintro _ _ hn1 hw1 ⟨rfl,k1,rfl⟩;simp only[Qc,Ql]at hn1;simp only[Qb,simprocAttr,QeI];exact .ext hw ((((Ext.refl H).push _).up (by simp only[Qc,Ql];omega)).up (by simp only[Qc,Ql];omega)) ⟨by simp,_,rfl⟩
theorem QIM (g:Gv)(H:Qa):Qe prog 232 [.agg g.cells.toArray] H λu H'=>u=.bool (YI g 0)∧∃m,H'=H.up m:=by
 refine Qoi λhw=>?_;have q0:=Kz g 0;obtain⟨v0,e0⟩:∃v,YI g 0=v:=⟨_,rfl⟩;rw[e0]at q0 ⊢;clear e0;obtain⟨⟨k,⟨rc,rn⟩,⟨⟨bc,bn⟩,⟨ic,nn⟩,sc,d,sz⟩,n⟩,bits,gn⟩:=g;simp only[Gv.cells]at q0;simp only[Gv.cells,Qfw,Qb,simprocAttr];refine(q0 _).thenW ?_;rintro _ _ hn0 hw0 ⟨rfl,k0,rfl⟩;simp only[Qc,Ql]at hn0;simp only[Qb,simprocAttr,QmP];exact .ext hw (((Ext.refl H).push _).up (by simp only[Qc,Ql];omega)) ⟨by simp,_,rfl⟩
theorem QIN (g:Gv)(H:Qa):Qe prog 233 [.agg g.cells.toArray] H λu H'=>u=.bool (YI g 2)∧∃m,H'=H.up m:=by
 refine Qoj λhw=>?_;have q0:=Kz g 2;obtain⟨v0,e0⟩:∃v,YI g 2=v:=⟨_,rfl⟩;rw[e0]at q0 ⊢;clear e0;obtain⟨⟨k,⟨rc,rn⟩,⟨⟨bc,bn⟩,⟨ic,nn⟩,sc,d,sz⟩,n⟩,bits,gn⟩:=g;simp only[Gv.cells]at q0;simp only[Gv.cells,Qfx,Qb,simprocAttr];refine(q0 _).thenW ?_;rintro _ _ hn0 hw0 ⟨rfl,k0,rfl⟩;simp only[Qc,Ql]at hn0;simp only[Qb,simprocAttr,QmQ];exact .ext hw (((Ext.refl H).push _).up (by simp only[Qc,Ql];omega)) ⟨by simp,_,rfl⟩
theorem QIO (g:Gv)(H:Qa):Qe prog 234 [.agg g.cells.toArray] H λu H'=>u=.bool (YI g 4)∧∃m,H'=H.up m:=by
 refine Qok λhw=>?_;have q0:=Kz g 4;obtain⟨v0,e0⟩:∃v,YI g 4=v:=⟨_,rfl⟩;rw[e0]at q0 ⊢;clear e0;obtain⟨⟨k,⟨rc,rn⟩,⟨⟨bc,bn⟩,⟨ic,nn⟩,sc,d,sz⟩,n⟩,bits,gn⟩:=g;simp only[Gv.cells]at q0;simp only[Gv.cells,Qfy,Qb,simprocAttr];refine(q0 _).thenW ?_;rintro _ _ hn0 hw0 ⟨rfl,k0,rfl⟩;simp only[Qc,Ql]at hn0;simp only[Qb,simprocAttr,QmR];exact .ext hw (((Ext.refl H).push _).up (by simp only[Qc,Ql];omega)) ⟨by simp,_,rfl⟩
theorem QIP (g:Gv)(H:Qa):Qe prog 235 [.agg g.cells.toArray] H λu H'=>u=.bool (YI g 8)∧∃m,H'=H.up m:=by
 refine Qol λhw=>?_;have q0:=Kz g 8;obtain⟨v0,e0⟩:∃v,YI g 8=v:=⟨_,rfl⟩;rw[e0]at q0 ⊢;clear e0;obtain⟨⟨k,⟨rc,rn⟩,⟨⟨bc,bn⟩,⟨ic,nn⟩,sc,d,sz⟩,n⟩,bits,gn⟩:=g;simp only[Gv.cells]at q0;simp only[Gv.cells,Qfz,Qb,simprocAttr];refine(q0 _).thenW ?_;rintro _ _ hn0 hw0 ⟨rfl,k0,rfl⟩;simp only[Qc,Ql]at hn0;simp only[Qb,simprocAttr,QmS];exact .ext hw (((Ext.refl H).push _).up (by simp only[Qc,Ql];omega)) ⟨by simp,_,rfl⟩
theorem QIQ (g:Gv)(H:Qa):Qe prog 236 [.agg g.cells.toArray] H λu H'=>u=.bool (YI g 16)∧∃m,H'=H.up m:=by
 refine Qom λhw=>?_;have q0:=Kz g 16;obtain⟨v0,e0⟩:∃v,YI g 16=v:=⟨_,rfl⟩;rw[e0]at q0 ⊢;clear e0;obtain⟨⟨k,⟨rc,rn⟩,⟨⟨bc,bn⟩,⟨ic,nn⟩,sc,d,sz⟩,n⟩,bits,gn⟩:=g;simp only[Gv.cells]at q0;simp only[Gv.cells,QfA,Qb,simprocAttr];refine(q0 _).thenW ?_;rintro _ _ hn0 hw0 ⟨rfl,k0,rfl⟩;simp only[Qc,Ql]at hn0;simp only[Qb,simprocAttr,QmT];exact .ext hw (((Ext.refl H).push _).up (by simp only[Qc,Ql];omega)) ⟨by simp,_,rfl⟩
theorem QIR (g:Gv)(H:Qa):Qe prog 237 [.agg g.cells.toArray] H λu H'=>u=.bool (YI g 32)∧∃m,H'=H.up m:=by
 refine Qon λhw=>?_;have q0:=Kz g 32;obtain⟨v0,e0⟩:∃v,YI g 32=v:=⟨_,rfl⟩;rw[e0]at q0 ⊢;clear e0;obtain⟨⟨k,⟨rc,rn⟩,⟨⟨bc,bn⟩,⟨ic,nn⟩,sc,d,sz⟩,n⟩,bits,gn⟩:=g;simp only[Gv.cells]at q0;simp only[Gv.cells,QfB,Qb,simprocAttr];refine(q0 _).thenW ?_;rintro _ _ hn0 hw0 ⟨rfl,k0,rfl⟩;simp only[Qc,Ql]at hn0;simp only[Qb,simprocAttr,QmU];exact .ext hw (((Ext.refl H).push _).up (by simp only[Qc,Ql];omega)) ⟨by simp,_,rfl⟩
theorem QIS (g:Gv)(H:Qa):Qe prog 238 [.agg g.cells.toArray] H λu H'=>u=.bool ((g.bits==8))∧∃m,H'=H.up m:=by
 refine Qoo λhw=>?_;obtain⟨⟨k,⟨rc,rn⟩,⟨⟨bc,bn⟩,⟨ic,nn⟩,sc,d,sz⟩,n⟩,bits,gn⟩:=g;simp only[Gv.cells,QfC,Qb,simprocAttr];simp only[QmV];exact .ext hw ((Ext.refl H).push _) ⟨rfl,_,rfl⟩
theorem QIT (g:Gv)(H:Qa):Qe prog 239 [.agg g.cells.toArray] H λu H'=>u=.bool (decide (8<g.bits)&&decide (-128<=g.n)&&decide (g.n<=127))∧∃m,H'=H.up m:=by
 refine Qop λhw=>?_;obtain⟨⟨k,⟨rc,rn⟩,⟨⟨bc,bn⟩,⟨ic,nn⟩,sc,d,sz⟩,n⟩,bits,gn⟩:=g;simp only[Gv.cells,QfD,Qb,simprocAttr];cases h0:decide (8<bits)<;>cases h1:decide (-128<=gn)<;>simp only[Qb,simprocAttr,h0,h1,QmW]
 all_goals exact .ext hw ((Ext.refl H).push _) ⟨by simp,_,rfl⟩
theorem QIU (g:Gv)(H:Qa):Qe prog 240 [.agg g.cells.toArray] H λu H'=>u=.bool ((g.bits==16))∧∃m,H'=H.up m:=by
 refine Qoq λhw=>?_;obtain⟨⟨k,⟨rc,rn⟩,⟨⟨bc,bn⟩,⟨ic,nn⟩,sc,d,sz⟩,n⟩,bits,gn⟩:=g;simp only[Gv.cells,QfE,Qb,simprocAttr];simp only[QmX];exact .ext hw ((Ext.refl H).push _) ⟨rfl,_,rfl⟩
theorem QIV (g:Gv)(H:Qa):Qe prog 241 [.agg g.cells.toArray] H λu H'=>u=.bool ((g.bits==32))∧∃m,H'=H.up m:=by
 refine Qor λhw=>?_;obtain⟨⟨k,⟨rc,rn⟩,⟨⟨bc,bn⟩,⟨ic,nn⟩,sc,d,sz⟩,n⟩,bits,gn⟩:=g;simp only[Gv.cells,QfF,Qb,simprocAttr];simp only[QmY];exact .ext hw ((Ext.refl H).push _) ⟨rfl,_,rfl⟩
theorem QIW (g:Gv)(H:Qa):Qe prog 242 [.agg g.cells.toArray] H λu H'=>u=.bool ((g.bits==64)&&decide (-2147483648<=g.n)&&decide (g.n<=2147483647))∧∃m,H'=H.up m:=by
 refine Qos λhw=>?_;obtain⟨⟨k,⟨rc,rn⟩,⟨⟨bc,bn⟩,⟨ic,nn⟩,sc,d,sz⟩,n⟩,bits,gn⟩:=g;simp only[Gv.cells,QfG,Qb,simprocAttr];cases h0:bits==64<;>cases h1:decide (-2147483648<=gn)<;>simp only[Qb,simprocAttr,h0,h1,QmZ]
 all_goals exact .ext hw ((Ext.refl H).push _) ⟨by simp,_,rfl⟩
theorem QIX (g:Gv)(H:Qa):Qe prog 243 [.agg g.cells.toArray] H λu H'=>u=.bool ((g.bits==64))∧∃m,H'=H.up m:=by
 refine Qot λhw=>?_;obtain⟨⟨k,⟨rc,rn⟩,⟨⟨bc,bn⟩,⟨ic,nn⟩,sc,d,sz⟩,n⟩,bits,gn⟩:=g;simp only[Gv.cells,QfH,Qb,simprocAttr];simp only[Qm0];exact .ext hw ((Ext.refl H).push _) ⟨rfl,_,rfl⟩
theorem QIY (g:Gv)(H:Qa):Qe prog 244 [.agg g.cells.toArray] H λu H'=>u=.bool ((g.a.k==4)&&decide (-128<=g.a.n)&&decide (g.a.n<=127))∧∃m,H'=H.up m:=by
 refine Qou λhw=>?_;obtain⟨⟨k,⟨rc,rn⟩,⟨⟨bc,bn⟩,⟨ic,nn⟩,sc,d,sz⟩,n⟩,bits,gn⟩:=g;simp only[Gv.cells,QfI,Qb,simprocAttr];cases h0:k==4<;>cases h1:decide (-128<=n)<;>simp only[Qb,simprocAttr,h0,h1,Qm1]
 all_goals exact .ext hw ((Ext.refl H).push _) ⟨by simp,_,rfl⟩
theorem QIZ (g:Gv)(H:Qa):Qe prog 245 [.agg g.cells.toArray] H λu H'=>u=.bool ((g.a.k==4))∧∃m,H'=H.up m:=by
 refine Qov λhw=>?_;obtain⟨⟨k,⟨rc,rn⟩,⟨⟨bc,bn⟩,⟨ic,nn⟩,sc,d,sz⟩,n⟩,bits,gn⟩:=g;simp only[Gv.cells,QfJ,Qb,simprocAttr];simp only[Qm2];exact .ext hw ((Ext.refl H).push _) ⟨rfl,_,rfl⟩
theorem QI0 (g:Gv)(H:Qa):Qe prog 246 [.agg g.cells.toArray] H λu H'=>u=.bool (decide (0<g.bits)&&(g.n==1))∧∃m,H'=H.up m:=by
 refine Qow λhw=>?_;obtain⟨⟨k,⟨rc,rn⟩,⟨⟨bc,bn⟩,⟨ic,nn⟩,sc,d,sz⟩,n⟩,bits,gn⟩:=g;simp only[Gv.cells,QfK,Qb,simprocAttr];cases h0:decide (0<bits)<;>simp only[Qb,simprocAttr,h0,Qm3]
 all_goals exact .ext hw ((Ext.refl H).push _) ⟨by simp,_,rfl⟩
theorem QsR (c n:Int)(H:Qa):Qe prog 213 [.int .i64 c,.int .i64 n] H λu H'=>∃p q,u=.agg #[.func (.func 214) #[] #[.pointer (some ⟨p,0,none⟩),.pointer (some ⟨q,0,none⟩)]]∧Ext H H'∧H'.get p=some (.cells [.int .i64 c] 3 false)∧H'.get q=some (.cells [.int .i64 n] 3 false)∧p<H'.next∧q<H'.next:=by
 refine Qpz λhw=>?_;simp only[QgY,Qb,simprocAttr,Gr,J3,Qn4];have hx:∀b,Ext H ((((H.push (.cells [.int .i64 c] 3 false)).push (.cells [.int .i64 n] 3 false)).push (.cells [.nilFunc] 134 false)).set (H.next+1+1) b):=λb=>((((Ext.refl H).push _).push _).push _).set (by omega) _;refine .mk (hx _).next ⟨H.next,H.next+1,rfl,hx _,?_,?_,by simp only[Qt,Qc];omega,by simp only[Qt,Qc];omega⟩
 ·rw[Qq,Le (by omega),Qd,Le (by simp only[Qc];omega),Qd,Le (by simp only[Qc];omega),Qd,Lc rfl]
 ·rw[Qq,Le (by omega),Qd,Le (by simp only[Qc];omega),Qd,Lc (by simp only[Qc])]
theorem QFu (g:Gv)(c n:Int)(p q:Nat)(H:Qa)(hp:H.get p=some (.cells [.int .i64 c] 3 false))(hq:H.get q=some (.cells [.int .i64 n] 3 false)):Qe prog 214 [.agg g.cells.toArray,.pointer (some ⟨p,0,none⟩),.pointer (some ⟨q,0,none⟩)] H λu H'=>u=.bool (W3 g c&&(g.a.r.n==n))∧Ext H H':=by
 refine QmO λhw=>?_;have q1:=ZP g c;obtain⟨v,ev⟩:∃v,W3 g c=v:=⟨_,rfl⟩;rw[ev]at q1 ⊢;clear ev;have lp:=hw.lt hp;have lq:=hw.lt hq;have np:¬p=H.next:=by omega
 have nq:¬q=H.next:=by omega
 obtain⟨⟨k,⟨rc,rn⟩,⟨⟨bc,bn⟩,⟨ic,nn⟩,sc,d,sz⟩,n'⟩,bits,gn⟩:=g;simp only[Gv.cells]at q1;simp only[Gv.cells,QeB,Qb,simprocAttr,np,nq,LN,hp,hq];refine(q1 _).thenW ?_;rintro _ _ hn1 hw1 ⟨rfl,k1,rfl⟩;simp only[Qc,Ql]at hn1;have hx:=((Ext.refl H).push (.cells [.int .i64 k,.int .i64 rc,.int .i64 rn,.int .i64 bc,.int .i64 bn,.int .i64 ic,.int .i64 nn,.int .i64 sc,.int .i64 d,.int .i64 sz,.int .i64 n',.int .i64 bits,.int .i64 gn] 131 false)).up (m:=k1) (by simp only[Qc];omega);cases v with
 | false=>
  simp only[Qb,simprocAttr,QdM];exact .mk hx.next ⟨by simp,hx⟩
 | true=>
  simp only[Qb,simprocAttr,np,nq,LN,hp,hq,QdM];exact .mk hx.next ⟨by simp,hx⟩
def ZQ (s:Nat)(g:Gv):Bool:=
 match s with
 | 0=>false
 | 1=>W3 g 1||W3 g 2 | 2=>W3 g 3 | 3=>W3 g 4 | 4=>W3 g 5 | 5=>W3 g 6 | 6=>W3 g 7
 | 7=>W3 g 1||W3 g 2||YI g 1 | 8=>W3 g 3||YI g 2 | 9=>W3 g 4||YI g 4 | 10=>W3 g 5||YI g 8
 | 11=>W3 g 6||YI g 4 | 12=>W3 g 6||YI g 8 | 13=>W3 g 6||YI g 16 | 14=>W3 g 7||YI g 32
 | 15=>YI g 0 | 16=>YI g 4 | 17=>YI g 8 | 18=>YI g 16 | 19=>YI g 32
 | 20=>(g.bits==8)
 | 21=>decide (8<g.bits)&&decide (-128<=g.n)&&decide (g.n<=127)
 | 22=>(g.bits==16) | 23=>(g.bits==32)
 | 24=>(g.bits==64)&&decide (-2147483648<=g.n)&&decide (g.n<=2147483647)
 | 25=>(g.bits==64)
 | 26=>(g.a.k==4)&&decide (-128<=g.a.n)&&decide (g.a.n<=127)
 | 27=>(g.a.k==4)
 | 28=>W3 g 1&&(g.a.r.n==0) | 29=>W3 g 3&&(g.a.r.n==0) | 30=>W3 g 4&&(g.a.r.n==0) | 31=>W3 g 5&&(g.a.r.n==0) | 32=>W3 g 1&&(g.a.r.n==1)
 | 33=>decide (0<g.bits)&&(g.n==1)
 | 34=>YI g 2
 | _=>false
def QvR (H:Qa)(v:Value)(s:Nat):Prop:=∃ (f:FuncId) (ys:List Value),v=.func (.func f) #[] ys.toArray∧∀ (g:Gv) (H2:Qa),Ext H H2->Qe prog f ([.agg g.cells.toArray]++ys) H2 λu H3=>u=.bool (ZQ s g)∧Ext H2 H3
theorem QL {f:FuncId}{s:Nat}(H:Qa)(q:∀ (g:Gv) (H:Qa),Qe prog f [.agg g.cells.toArray] H λu H'=>u=.bool (ZQ s g)∧∃m,H'=H.up m):QvR H (.func (.func f) #[] #[]) s:=by
 refine⟨f,[],rfl,λg H2 _=>?_⟩;intro hw;obtain⟨v,H3,h1,h2,h3,h4,m,rfl⟩:=q g H2 hw;exact⟨v,_,h1,h2,h3,h4,(Ext.refl H2).up h2⟩
theorem Qhx {H H':Qa}{p q:Nat}{c n:Int}{s:Nat}(hx:Ext H H')(hp:H.get p=some (.cells [.int .i64 c] 3 false))(hq:H.get q=some (.cells [.int .i64 n] 3 false))(lp:p<H.next)(lq:q<H.next)(e:∀g,ZQ s g=(W3 g c&&(g.a.r.n==n))):QvR H' (.func (.func 214) #[] #[.pointer (some ⟨p,0,none⟩),.pointer (some ⟨q,0,none⟩)]) s:=by
 refine⟨214,[.pointer (some ⟨p,0,none⟩),.pointer (some ⟨q,0,none⟩)],rfl,λg H2 h2=>?_⟩;rw[e g];exact QFu g c n p q H2 (by rw[(hx.trans h2).get _ lp];exact hp) (by rw[(hx.trans h2).get _ lq];exact hq)
theorem QFv (H:Qa):Qe prog 111 [] H λu H'=>∃ (b:Nat) (cs:List Value),u=.slice (some ⟨b,0,none⟩) 35 35∧Ext H H'∧H.next<=b∧H'.get b=some (.cells cs 134 false)∧cs.length=35∧∀s,s<35->∃v,cs[s]? = some v∧QvR H' v s:=by
 refine Qsn λhw=>?_;simp only[Qkg,Qb,simprocAttr,Gr,J3,QcW,Nat.reduceMul];refine(QsR 1 0 H).thenW ?_;rintro _ H1 _ hw1 ⟨p0,r0,rfl,hx0,gp0,gr0,lp0,lr0⟩;simp only[Qb,simprocAttr,Gr,J3,QcW,Nat.reduceMul];refine(QsR 3 0 H1).thenW ?_;rintro _ H2 _ hw2 ⟨p1,r1,rfl,hx1,gp1,gr1,lp1,lr1⟩;simp only[Qb,simprocAttr,Gr,J3,QcW,Nat.reduceMul];refine(QsR 4 0 H2).thenW ?_;rintro _ H3 _ hw3 ⟨p2,r2,rfl,hx2,gp2,gr2,lp2,lr2⟩;simp only[Qb,simprocAttr,Gr,J3,QcW,Nat.reduceMul];refine(QsR 5 0 H3).thenW ?_;rintro _ H4 _ hw4 ⟨p3,r3,rfl,hx3,gp3,gr3,lp3,lr3⟩;simp only[Qb,simprocAttr,Gr,J3,QcW,Nat.reduceMul];refine(QsR 1 1 H4).thenW ?_;rintro _ H5 _ hw5 ⟨p4,r4,rfl,hx4,gp4,gr4,lp4,lr4⟩;simp only[Qb,simprocAttr,Gr,J3,QcW,Nat.reduceMul];have y1:=hx0;have y5:=(((hx0.trans hx1).trans hx2).trans hx3).trans hx4;simp only[Qq4,Qg,simprocAttr];have hx6:=y5.push;refine .mk (hx6 _).next ⟨H5.next,_,rfl,hx6 _,y5.next,by rw[Qd,Lc rfl],rfl,λs hs=>?_⟩;generalize hK:H5.push _=K;have z5:Ext H5 K:=by rw[<- hK];exact(Ext.refl H5).push _
 clear hK;have z4:=hx4.trans z5;have z3:=hx3.trans z4;have z2:=hx2.trans z3;have z1:=hx1.trans z2;rcases s with _ | _ | _ | _ | _ | _ | _ | _ | _ | _ | _ | _ | _ | _ | _ | _ | _ | _ | _ | _ | _ | _ | _ | _ | _ | _ | _ | _ | _ | _ | _ | _ | _ | _ | _ | s
 ·exact⟨_,rfl,QL K QJN⟩
 ·exact⟨_,rfl,QL K QJO⟩
 ·exact⟨_,rfl,QL K QJP⟩
 ·exact⟨_,rfl,QL K QJQ⟩
 ·exact⟨_,rfl,QL K QJR⟩
 ·exact⟨_,rfl,QL K QJS⟩
 ·exact⟨_,rfl,QL K QJT⟩
 ·exact⟨_,rfl,QL K QJU⟩
 ·exact⟨_,rfl,QL K QIF⟩
 ·exact⟨_,rfl,QL K QIG⟩
 ·exact⟨_,rfl,QL K QIH⟩
 ·exact⟨_,rfl,QL K QII⟩
 ·exact⟨_,rfl,QL K QIJ⟩
 ·exact⟨_,rfl,QL K QIK⟩
 ·exact⟨_,rfl,QL K QIL⟩
 ·exact⟨_,rfl,QL K QIM⟩
 ·exact⟨_,rfl,QL K QIO⟩
 ·exact⟨_,rfl,QL K QIP⟩
 ·exact⟨_,rfl,QL K QIQ⟩
 ·exact⟨_,rfl,QL K QIR⟩
 ·exact⟨_,rfl,QL K QIS⟩
 ·exact⟨_,rfl,QL K QIT⟩
 ·exact⟨_,rfl,QL K QIU⟩
 ·exact⟨_,rfl,QL K QIV⟩
 ·exact⟨_,rfl,QL K QIW⟩
 ·exact⟨_,rfl,QL K QIX⟩
 ·exact⟨_,rfl,QL K QIY⟩
 ·exact⟨_,rfl,QL K QIZ⟩
 ·exact⟨_,rfl,Qhx z1 gp0 gr0 lp0 lr0 (λ_=>rfl)⟩
 ·exact⟨_,rfl,Qhx z2 gp1 gr1 lp1 lr1 (λ_=>rfl)⟩
 ·exact⟨_,rfl,Qhx z3 gp2 gr2 lp2 lr2 (λ_=>rfl)⟩
 ·exact⟨_,rfl,Qhx z4 gp3 gr3 lp3 lr3 (λ_=>rfl)⟩
 ·exact⟨_,rfl,Qhx z5 gp4 gr4 lp4 lr4 (λ_=>rfl)⟩
 ·exact⟨_,rfl,QL K QI0⟩
 ·exact⟨_,rfl,QL K QIN⟩
 ·omega
def QtW (ib:Int×Bool)(a:Ar):Gv:=if a.k=3 then⟨a,ib.1,(WZ a.n ib.1 ib.2).1⟩ else⟨a,0,0⟩
def Qdl (ib:Int×Bool)(a:Ar)(s:Int):Bool:=(!(a.k==3)||((WZ a.n ib.1 ib.2).2==0))&&ZQ s.toNat (QtW ib a)
def QcG (f:Fm)(op:Int)(l:List Ar):Bool:=(f.op==op)&&(f.shapes.length==l.length)&&(QeY f==0)&&(Q8 op l==0)&&(List.range l.length).all λi=>Qdl (QU op l) (l.getD i Wc) (f.shapes.getD i 0)
section
variable {x:Lf} {op:Int} {va:Value} {l:List Ar} {H:Qa}
abbrev KF (H:Qa)(r:Bool):Env->Qa->Prop:=Rt prog Tryz.f73 H λv H'=>v=.bool r∧Ext H H'
structure FtF (H H':Qa) (x:Lf) (op:Int) (va:Value) (A:Env):Prop where
 xt:Ext H H'
 w:H'.Wf
 g2:H'.get H.next=some (.cells x.cells 45 false)
 g3:H'.get (H.next+1)=some (.cells [.int .i64 op,va] 24 false)
 lt:H.next+2<=H'.next
 r2:A 2=.pointer (some ⟨H.next,0,none⟩)
 r3:A 3=.pointer (some ⟨H.next+1,0,none⟩)
theorem FtF.go {H' H'':Qa}{A B:Env}(h:FtF H H' x op va A)(hx:Ext H' H'')(hw:H''.Wf)(e2:B 2=A 2)(e3:B 3=A 3):FtF H H'' x op va B:=
 ⟨h.xt.trans hx,hw,by rw[hx.get _ (by have:=h.lt;omega)];exact h.g2,by rw[hx.get _ (by have:=h.lt;omega)];exact h.g3,by have:=h.lt;have:=hx.next;omega,e2.trans h.r2,e3.trans h.r3⟩
theorem QI1 {W:Bool}{i tb p:Nat}{cs:List Value}{v:Value}{g:Gv}{H0:Qa}{A:Env}{H1:Qa}{E:Nat->Env->Qa->Prop}{K:Env->Qa->Prop}(hw:H.Wf)(hx:x.At H)(hF:FtF H H1 x op va A)(hi:i<x.f.shapes.length)(hs:1<=x.f.shapes.getD i 0∧x.f.shapes.getD i 0<=34)(r7:A 7=.slice (some ⟨tb,0,none⟩) 35 35)(r8:A 8=.int .i64 i)(hgt:H1.get tb=some (.cells cs 134 false))(hcv:cs[(x.f.shapes.getD i 0).toNat]? = some v)(hT:QvR H0 v (x.f.shapes.getD i 0).toNat)(h01:Ext H0 H1)(r10:A 10=.pointer (some ⟨p,0,none⟩))(hg:H1.get p=some (.cells g.cells 131 false))(h0:ZQ (x.f.shapes.getD i 0).toNat g=false->W=false)
  (h1:ZQ (x.f.shapes.getD i 0).toNat g=true->∀ (B:Env) (H2:Qa),Ext H1 H2->H2.Wf->B 2=A 2->B 3=A 3->B 5=A 5->B 6=A 6->B 7=A 7->B 42=A 42->B 43=A 43->B 44=A 44->K B H2):
  Qm prog Qdz ⟨KF H W,E⟩ K A H1:=by
 obtain⟨hx1,hw1,g2,g3,hn1,r2,r3⟩:=id hF;obtain⟨a1,c1,e1,q1⟩:=id hx.2.2.1;have x1:x.cells[1]? = some (.slice a1 x.f.shapes.length c1):=by rw[<- e1];rfl
 obtain⟨b,e,ro,rfl,hgb0⟩:=q1 (by omega);have hgb:H1.get b=some (.cells (ints x.f.shapes) e ro):=by rw[hx1.get b (hw.lt hgb0)];exact hgb0
 have d1:(0:Int)<=i∧(i:Int)<x.f.shapes.length:=by omega
 have d3:(i:Int).toNat=i:=by omega
 have hsi:(ints x.f.shapes)[i]? = some (.int .i64 (x.f.shapes.getD i 0)):=by
  simp[ints,LD,LX,La hi]
 generalize x.f.shapes.getD i 0=s at *;have d4:(0:Int)<=s∧s<((35:Nat):Int):=by omega
 have g13:g.cells.take 13=g.cells:=rfl;have l13:13<=g.cells.length:=Lb _;obtain⟨f,ys,rfl,hq⟩:=hT;simp only[Qdz,sxA,sxB,Nat.reduceBEq,Nat.reduceEqDiff,reduceCtorEq,mxA,mxB,Nat.reduceAdd,reduceIte,Nat.reduceLeDiff,splice,r2,r7,r8,r10,g2,x1,hgb,d1,d3,hsi,hgt,d4,hcv,hg,g13,Lw,QAK];refine⟨l13,?_⟩;refine(show Qe prog f (.agg g.cells.toArray::ys) H1 _ from hq g H1 h01).thenW ?_;rintro _ H2 hn2 hw2 ⟨rfl,hx2⟩;cases c:ZQ s.toNat g with
 | false=>
  simp only[Qb,simprocAttr,Zj];exact .mk (hx1.trans hx2).next ⟨by rw[h0 c],hx1.trans hx2⟩
 | true=>
  simp only[Qb,simprocAttr];refine h1 c _ H2 hx2 hw2 ?_ ?_ ?_ ?_ ?_ ?_ ?_ ?_
  all_goals simp only[Qg,simprocAttr]
theorem QJV (hw:H.Wf)(hx:x.At H)(ha:Qv H va l)(hl:l.length<=1000)(hI:∀a∈l,I64 a.n)(hs:QeY x.f=0)(hn:x.f.shapes.length=l.length){W:Bool}(eW:W=(List.range l.length).all λi=>Qdl (QU op l) (l.getD i Wc) (x.f.shapes.getD i 0)){A:Env}{H1:Qa}(hF:FtF H H1 x op va A):
  Qm prog QdA ⟨KF H W,WJ⟩ (KF H W) A H1:=by
 obtain⟨hx1,hw1,g2,g3,hn1,r2,r3⟩:=id hF;obtain⟨a0,cap,rfl⟩:=Qu ha;simp only[QdA,Qb,simprocAttr,r2,r3,g2,g3,Lw,List.take];refine(QfX op _ l H1 (ha.ext hw hx1) hl).thenW ?_;rintro _ _ hn2 hw2 ⟨rfl,k,rfl⟩;have hx2:Ext H1 (H1.up k):=(Ext.refl H1).up hn2;obtain⟨ib,eib⟩:∃ib,ib=QU op l:=⟨_,rfl⟩;rw[<- eib]at eW ⊢;simp only[Qb,simprocAttr];refine(QFv (H1.up k)).thenW ?_;rintro _ H3 hn3 hw3 ⟨tb,cs,rfl,hx3,htb,hgt,hcl,hT⟩;obtain⟨hx03,_,g32,g33,hn33,_,_⟩:=hF.go (hx2.trans hx3) hw3 (B:=A) rfl rfl;have ltb:=hw3.lt hgt;simp only[Qb,simprocAttr,r2,r3,g32,g33];refine Qo (λm A' H'=>∃i:Nat,i<=l.length∧m=l.length - i∧FtF H H' x op (.slice a0 l.length cap) A'∧Ext H3 H'∧A' 5=.int .i64 ib.1∧A' 6=.bool ib.2∧A' 7=.slice (some ⟨tb,0,none⟩) 35 35∧A' 42=.slice a0 l.length cap∧A' 43=.int .i64 l.length∧A' 44=.int .i64 i∧∀j,j<i->Qdl ib (l.getD j Wc) (x.f.shapes.getD j 0)=true) l.length ?_ ?_
 ·refine⟨0,L7 _,by omega,hF.go (hx2.trans hx3) hw3 ?_ ?_,Ext.refl _,?_,?_,?_,?_,?_,?_,λj h=>by omega⟩
  all_goals simp only[Qg,simprocAttr]
  all_goals rfl
 ·rintro m A' H' ⟨i,hi,rfl,hF',hx',r5,r6,r7,r42,r43,r44,hall⟩;obtain⟨hxH,hw',g2',g3',hn',r2',r3'⟩:=id hF';simp only[QiR,Qb,simprocAttr,r43,r44];refine Qf (λh2=>?_) (λh2=>?_)
  ·have h2:i<l.length:=by have:=Lg h2;omega
   obtain⟨a,hai⟩:∃a,l[i]? = some a:=⟨_,La h2⟩;obtain⟨a0',cap',e0,h1⟩:=ha;cases e0;obtain⟨b,e,ro,rfl,hgb0⟩:=h1 (by omega);have hgb:H'.get b=some (.cells (Qi l) e ro):=by rw[hxH.get b (hw.lt hgb0)];exact hgb0
   have htk:=WI l i a hai;have hle:i * 11+11<=(Qi l).length:=by rw[QJ];omega
   have d1:(0:Int)<=i∧(i:Int)<l.length:=by omega
   have d3:(i:Int).toNat=i:=by omega
   have hga:l.getD i Wc=a:=by rw[LX,hai];rfl
   have hIa:I64 a.n:=hI a (Ln hai);have qi:=QcO a.n ib.1 ib.2 hIa;have hfa:Qdl ib (l.getD i Wc) (x.f.shapes.getD i 0)=((!(a.k==3)||((WZ a.n ib.1 ib.2).2==0))&&ZQ (x.f.shapes.getD i 0).toNat (QtW ib a)):=by rw[hga];rfl
   have hsh:=Qlt hs i (by omega);obtain⟨gv,egv⟩:∃gv,gv=QtW ib a:=⟨_,rfl⟩;rw[<- egv]at hfa;obtain⟨ak,⟨rc,rn⟩,⟨⟨bc,bn⟩,⟨ic,nn⟩,sc,d,sz⟩,n⟩:=a;simp only[Ar.cells]at htk;simp only at hfa qi;simp only[QiQ,Qb,simprocAttr,r42,r44,d1,d3,hgb,htk];refine⟨hle,?_⟩;generalize hH4:(Qa.set (Qa.push (Qa.set (Qa.push H' _) _ _) _) _ _)=H4;have hx4:Ext H' H4:=by
    rw[<- hH4];refine Ext.set (Ext.push (Ext.set (Ext.push (Ext.refl H') _) ?_ _) _) ?_ _
    all_goals omega
   have hw4:H4.Wf:=by
    rw[<- hH4];refine Qa.Wf.set (b0:=.cells [.int .i64 0,.int .i64 0,.int .i64 0,.int .i64 0,.int .i64 0,.int .i64 0,.int .i64 0,.int .i64 0,.int .i64 0,.int .i64 0,.int .i64 0,.int .i64 0,.int .i64 0] 131 false) (Qa.Wf.push (hw'.push _ |>.set (b0:=.cells [.int .i64 0,.int .i64 0,.int .i64 0,.int .i64 0,.int .i64 0,.int .i64 0,.int .i64 0,.int .i64 0,.int .i64 0,.int .i64 0,.int .i64 0] 58 false) (by rw[Qd,Lc rfl]) _) _) (by rw[Qd];exact Lc rfl) _
   have g49:H4.get H'.next=some (.cells [.int .i64 ak,.int .i64 rc,.int .i64 rn,.int .i64 bc,.int .i64 bn,.int .i64 ic,.int .i64 nn,.int .i64 sc,.int .i64 d,.int .i64 sz,.int .i64 n] 58 false):=by
    rw[<- hH4,Qq,Le (by omega),Qd,Le (by simp only[Qt,Qc];omega),Qq,Lc rfl]
   have g4A:H4.get (H'.next+1)=some (.cells [.int .i64 ak,.int .i64 rc,.int .i64 rn,.int .i64 bc,.int .i64 bn,.int .i64 ic,.int .i64 nn,.int .i64 sc,.int .i64 d,.int .i64 sz,.int .i64 n,.int .i64 0,.int .i64 0] 131 false):=by
    rw[<- hH4,Qq,Lc rfl]
   have hn4:H'.next+2<=H4.next:=by rw[<- hH4];simp only[Qt,Qc];omega
   clear hH4;have hend:∀ (B:Env) (H5:Qa),Qdl ib (l.getD i Wc) (x.f.shapes.getD i 0)=true->Ext H' H5->H5.Wf->B 2=A' 2->B 3=A' 3->B 5=A' 5->B 6=A' 6->B 7=A' 7->B 42=A' 42->B 43=A' 43->B 44=.int .i64 ((i+1:Nat):Int)->Qqt (λm A' H'=>∃i:Nat,i<=l.length∧m=l.length - i∧FtF H H' x op (.slice (some ⟨b,0,none⟩) l.length cap) A'∧Ext H3 H'∧A' 5=.int .i64 ib.1∧A' 6=.bool ib.2∧A' 7=.slice (some ⟨tb,0,none⟩) 35 35∧A' 42=.slice (some ⟨b,0,none⟩) l.length cap∧A' 43=.int .i64 l.length∧A' 44=.int .i64 i∧∀j,j<i->Qdl ib (l.getD j Wc) (x.f.shapes.getD j 0)=true) (l.length - i) B H5:=by
    intro B H5 hft e1 e2 p2 p3 p5 p6 p7 p42 p43 p44;refine⟨l.length - (i+1),by omega,i+1,by omega,rfl,hF'.go e1 e2 p2 p3,hx'.trans e1,p5.trans r5,p6.trans r6,p7.trans r7,p42.trans r42,p43.trans r43,p44,λj hj=>?_⟩
    by_cases h:j=i
    ·rw[h];exact hft
    ·exact hall j (by omega)
   have ei:IntKind.i64.wrap ((i:Int)+1)=((i+1:Nat):Int):=by rw[w64 (by unfold I64;omega)];omega
   have hbad:Qdl ib (l.getD i Wc) (x.f.shapes.getD i 0)=false->W=false:=λh=>by rw[eW];exact Ka h2 h
   obtain⟨tv,htv,hTv⟩:=hT (x.f.shapes.getD i 0).toNat (by omega);have hF4:∀B:Env,B 2=A' 2->B 3=A' 3->FtF H H4 x op (.slice (some ⟨b,0,none⟩) l.length cap) B:=λB e2 e3=>hF'.go hx4 hw4 e2 e3;have hgt4:H4.get tb=some (.cells cs 134 false):=((hx'.trans hx4).get tb ltb).trans hgt;cases c:ak==3 with
   | false=>
    have eg:gv=⟨⟨ak,⟨rc,rn⟩,⟨⟨bc,bn⟩,⟨ic,nn⟩,sc,d,sz⟩,n⟩,0,0⟩:=by rw[egv,QtW,Le (by simpa using c)]
    rw[c,LM,N1,LJ]at hfa;simp only[Qb,simprocAttr];refine QI1 (H0:=H3) (g:=gv) (p:=H'.next+1) (i:=i) hw hx (hF4 _ ?_ ?_) (by omega) hsh (tb:=tb) (cs:=cs) (v:=tv) ?_ ?_ hgt4 htv hTv (hx'.trans hx4) ?_ (by rw[eg];exact g4A) (λh=>hbad (hfa.trans h)) ?_
    all_goals (try (simp only[Qg,simprocAttr,r7];done))
    intro h B H5 e1 e2 p2 p3 p5 p6 p7 p42 p43 p44;simp only[Qg,simprocAttr]at p2 p3 p5 p6 p7 p42 p43 p44;simp only[Qb,simprocAttr,p44,r44,ei];refine hend _ H5 (hfa.trans h) (hx4.trans e1) e2 ?_ ?_ ?_ ?_ ?_ ?_ ?_ ?_
    all_goals simp only[Qg,simprocAttr,p2,p3,p5,p6,p7,p42,p43]
   | true=>
    have eg:gv=⟨⟨ak,⟨rc,rn⟩,⟨⟨bc,bn⟩,⟨ic,nn⟩,sc,d,sz⟩,n⟩,ib.1,(WZ n ib.1 ib.2).1⟩:=by rw[egv,QtW,Lc (by simpa using c)]
    rw[c,L8,Nt]at hfa;simp only[QiP,Qb,simprocAttr,g49,r5,r6];refine(qi H4).thenW ?_;rintro _ H4' hn6 hw6 ⟨rfl,eH4⟩;rw[eH4];obtain⟨m1,em1⟩:∃m1,m1=(WZ n ib.1 ib.2).1:=⟨_,rfl⟩;obtain⟨m2,em2⟩:∃m2,m2=(WZ n ib.1 ib.2).2:=⟨_,rfl⟩;rw[<- em1]at eg ⊢;rw[<- em2]at hfa ⊢;simp only[Qb,simprocAttr];cases c2:m2==0 with
    | false=>
     simp only[Qb,simprocAttr,c2,Zj];exact .mk (hxH.trans hx4).next ⟨by rw[hbad (by rw[hfa,c2];rfl)],hxH.trans hx4⟩
    | true=>
     rw[c2,LJ]at hfa;simp only[Qb,simprocAttr,c2,r5,g4A];generalize hH6:Qa.set (Qa.set H4 _ _) _ _=H6;have hx6:Ext H' H6:=by
      rw[<- hH6];refine Ext.set (Ext.set hx4 ?_ _) ?_ _
      all_goals omega
     have hw6:H6.Wf:=by
      rw[<- hH6];exact Qa.Wf.set (b0:=.cells _ 131 false) (Qa.Wf.set hw4 g4A _) (by rw[Qq,Lc rfl]) _
     have g6A:H6.get (H'.next+1)=some (.cells [.int .i64 ak,.int .i64 rc,.int .i64 rn,.int .i64 bc,.int .i64 bn,.int .i64 ic,.int .i64 nn,.int .i64 sc,.int .i64 d,.int .i64 sz,.int .i64 n,.int .i64 ib.1,.int .i64 m1] 131 false):=by
      rw[<- hH6,Qq,Lc rfl]
     clear hH6;have hgt6:H6.get tb=some (.cells cs 134 false):=((hx'.trans hx6).get tb ltb).trans hgt;refine QI1 (H0:=H3) (g:=gv) (p:=H'.next+1) (i:=i) hw hx (hF'.go hx6 hw6 ?_ ?_) (by omega) hsh (tb:=tb) (cs:=cs) (v:=tv) ?_ ?_ hgt6 htv hTv (hx'.trans hx6) ?_ (by rw[eg];exact g6A) (λh=>hbad (hfa.trans h)) ?_
     all_goals (try (simp only[Qg,simprocAttr,r7];done))
     intro h B H5 e1 e2 p2 p3 p5 p6 p7 p42 p43 p44;simp only[Qg,simprocAttr]at p2 p3 p5 p6 p7 p42 p43 p44;simp only[Qb,simprocAttr,p44,r44,ei];refine hend _ H5 (hfa.trans h) (hx6.trans e1) e2 ?_ ?_ ?_ ?_ ?_ ?_ ?_ ?_
     all_goals simp only[Qg,simprocAttr,p2,p3,p5,p6,p7,p42,p43]
  ·have h2:i=l.length:=by have:=Ll h2;omega
   subst h2;have eT:W=true:=by rw[eW];exact Gg λj hj=>hall j hj
   simp only[Qb,simprocAttr,Zj];exact .mk hxH.next ⟨by rw[eT],hxH⟩
theorem QJW (hw:H.Wf)(hx:x.At H)(hf:x.Fr 0)(ha:Qv H va l)(hl:l.length<=1000)(hI:∀a∈l,I64 a.n)(hn:x.f.shapes.length=l.length){W:Bool}(eW:W=((QeY x.f==0)&&(Q8 op l==0)&&(List.range l.length).all λi=>Qdl (QU op l) (l.getD i Wc) (x.f.shapes.getD i 0))){A:Env}{H1:Qa}(hF:FtF H H1 x op va A):
  Qm prog QdB ⟨KF H W,WJ⟩ (KF H W) A H1:=by
 obtain⟨hx1,hw1,g2,g3,hn1,r2,r3⟩:=id hF;have e10:x.cells.take 10=x.cells:=rfl;have l10:10<=x.cells.length:=Lb _;simp only[QdB,Qb,simprocAttr,r2,r3,g2,g3,Lw,e10];refine⟨l10,?_⟩;refine(QtU x H1 (hx.ext hw hx1) hf).thenW ?_;rintro _ _ hn2 hw2 ⟨rfl,k,rfl⟩;have hx2:Ext H1 (H1.up k):=(Ext.refl H1).up hn2;obtain⟨hx3,_,g22,g23,hn3,_,_⟩:=hF.go hx2 hw2 rfl rfl;cases c:QeY x.f==0 with
 | false=>
  simp only[Qb,simprocAttr,r2,r3,g22,g23,c,Zj];exact .mk hx3.next ⟨by rw[eW,c];rfl,hx3⟩
 | true=>
  simp only[Qb,simprocAttr,r2,r3,g22,g23,c,Lw,List.take];refine(Qd9 op va l _ (ha.ext hw hx3) hl hI).thenW ?_;rintro _ _ hn4 hw4 ⟨rfl,k2,rfl⟩;have hx4:Ext H1 ((H1.up k).up k2):=hx2.up hn4;have hF4:∀B:Env,B 2=A 2->B 3=A 3->FtF H ((H1.up k).up k2) x op va B:=λB e2 e3=>hF.go hx4 hw4 e2 e3;cases c2:Q8 op l==0 with
  | false=>
   simp only[Qb,simprocAttr,c2,Zj];exact .mk (hx1.trans hx4).next ⟨by rw[eW,c,c2];rfl,hx1.trans hx4⟩
  | true=>
   simp only[Qb,simprocAttr,c2];refine QJV hw hx ha hl hI (L0.1 c) hn (by rw[eW,c,c2];rfl) (hF4 _ ?_ ?_)
   all_goals simp only[Qg,simprocAttr]
end
theorem QvS {x:Lf}{op:Int}{va:Value}{l:List Ar}(H:Qa)(hx:x.At H)(hf:x.Fr 0)(ha:Qv H va l)(hl:l.length<=1000)(hI:∀a∈l,I64 a.n):
  Qe prog 73 [.agg x.cells.toArray,.agg #[.int .i64 op,va]] H λv H'=>v=.bool (QcG x.f op l)∧Ext H H':=by
 refine QtD λhw=>?_;have ex:(Value.agg x.cells.toArray).cells.toList=x.cells:=rfl;have e10:x.cells.take 10=x.cells:=rfl;have x0:x.cells[0]? = some (.int .i64 x.f.op):=rfl;have l10:10<=x.cells.length:=Lb _;obtain⟨a1,c1,e1⟩:=Qu hx.2.2.1;have x1:x.cells[1]? = some (.slice a1 x.f.shapes.length c1):=by rw[<- e1];rfl
 obtain⟨W,eW⟩:∃W,W=QcG x.f op l:=⟨_,rfl⟩;rw[<- eW];obtain⟨a0,cap,rfl⟩:=Qu ha;simp only[Qma,ex,KG,simprocAttr];generalize hH1:Qa.push H (.cells x.cells 45 false)=H1;have g1:H1.get H.next=some (.cells x.cells 45 false):=by rw[<- hH1,Qd,Lc rfl]
 have hx1:Ext H H1:=by rw[<- hH1];exact(Ext.refl H).push _
 have hn1:H1.next=H.next+1:=by rw[<- hH1];rfl
 have hw1:H1.Wf:=by rw[<- hH1];exact hw.push _
 clear hH1;simp only[Qb,simprocAttr,hn1];generalize hH2:Qa.push H1 _=H2;have hx2:Ext H H2:=by rw[<- hH2];exact(hx1.push _)
 have hw2:H2.Wf:=by rw[<- hH2];exact(hw1.push _)
 have g22:H2.get H.next=some (.cells x.cells 45 false):=by rw[<- hH2,Qd,Le (by omega)];exact g1
 have g23:H2.get (H.next+1)=some (.cells [.int .i64 op,.slice a0 l.length cap] 24 false):=by rw[<- hH2,Qd,Lc (by omega)]
 have hn2:H2.next=H.next+2:=by rw[<- hH2,Qc,hn1]
 clear hH2;simp only[Qb,simprocAttr,g1,g22,g23,Lw,e10,x0,x1];have hF:∀A:Env,A 2=.pointer (some ⟨H.next,0,none⟩)->A 3=.pointer (some ⟨H.next+1,0,none⟩)->FtF H H2 x op (.slice a0 l.length cap) A:=λA e2 e3=>⟨hx2,hw2,g22,g23,by omega,e2,e3⟩;cases c1:x.f.op==op with
 | false=>
  simp only[Qb,simprocAttr,g22,g23,x1,Zj];exact .mk hx2.next ⟨by rw[eW,QcG,c1];rfl,hx2⟩
 | true=>
  simp only[Qb,simprocAttr,g22,g23,x1];have el:((x.f.shapes.length:Int)==(l.length:Int))=(x.f.shapes.length==l.length):=by
   rw[Ni,L0,L0];omega
  rw[el];cases c2:x.f.shapes.length==l.length with
  | false=>
   simp only[Qb,simprocAttr,Zj];exact .mk hx2.next ⟨by rw[eW,QcG,c1,c2];rfl,hx2⟩
  | true=>
   simp only[Qb,simprocAttr];refine QJW hw hx hf ha hl hI (L0.1 c2) (by rw[eW,QcG,c1,c2];rfl) (hF _ ?_ ?_)
   all_goals simp only[Qg,simprocAttr]
def tlN (f:Fm):Int:=if 0<=Qn f.slots 7 then tlF f - 1 else tlF f
def QoU (f:Fm)(op:Int)(l:List Ar):Int:=if(l[(Qn f.slots 5).toNat]?.getD Wc).k=3 then(WZ (l[(Qn f.slots 5).toNat]?.getD Wc).n (QU op l).1 (QU op l).2).1 else(l[(Qn f.slots 5).toNat]?.getD Wc).n
def isB (n:Int):Int:=IntKind.u8.wrap (IntKind.i64.wrap (16 * n))
def Qax (f:Fm)(op:Int)(l:List Ar):List Int:=(if 0<=Qn f.slots 5 then(Kq (QoU f op l) (tlN f)).1 else[])++(if 0<=Qn f.slots 7 then[isB (l[(Qn f.slots 7).toNat]?.getD Wc).r.n] else[])
theorem QAQ (n sz:Int):(Kq n sz).1.length<=1000:=by
 unfold Kq;split
 ·simp
 ·split
  ·simp
  ·rename_i h _;have h:Qnb sz=true:=by simpa using h
   unfold Qnb at h;simp only[Nw,L0]at h;simp only[Qe5,Nn,BO];omega
section
variable {x:Lf} {op:Int} {va:Value} {l:List Ar} {H:Qa}
abbrev KT (H:Qa)(W:List Int):Env->Qa->Prop:=Rt prog Tryz.f113 H λv H'=>Gx 1 5 H H' v W.length (bys W)∧Ext H H'
theorem QI2 (hw:H.Wf)(ha:Qv H va l)(hl:l.length<=1000){W w:List Int}{s:Int}(hs:s<l.length)(hwl:w.length<=1000)(eW:W=w++(if 0<=s then[isB (l[s.toNat]?.getD Wc).r.n] else[])){A:Env}{H1:Qa}{v:Value}(hx1:Ext H H1)(hw1:H1.Wf)(g3:H1.get (H.next+1)=some (.cells [.int .i64 op,va] 24 false))(r3:A 3=.pointer (some ⟨H.next+1,0,none⟩))(r5:A 5=v)(r7:A 7=.int .i64 s)(hv:Gx 1 5 H H1 v w.length (bys w)):
  Qm prog Gm ⟨KT H W,WJ⟩ (KT H W) A H1:=by
 obtain⟨a0,cap,rfl,h1⟩:=ha;simp only[Gm,Qb,simprocAttr,r7];refine Qf (λh=>?_) (λh=>?_)
 ·have h0:0<=s:=Lg h;rw[Lc h0]at eW;obtain⟨i,rfl⟩:∃i:Nat,s=i:=⟨s.toNat,by omega⟩;have hil:i<l.length:=by omega
  obtain⟨a,hai⟩:∃a,l[i]? = some a:=⟨_,La hil⟩;obtain⟨b,e,ro,rfl,hgb0⟩:=h1 (by omega);have hgb:H1.get b=some (.cells (Qi l) e ro):=by rw[hx1.get b (hw.lt hgb0)];exact hgb0
  have hrg:=QkX hai;have d1:(0:Int)<=i∧(i:Int)<l.length:=by omega
  have d3:(i:Int).toNat=i:=by omega
  have hgd:(l[(i:Int).toNat]?.getD Wc).r.n=a.r.n:=by rw[d3,hai];rfl
  rw[hgd]at eW;simp only[QgU,Qb,simprocAttr,r3,r5,r7,g3,d1,d3,hgb,hrg];refine Zp (ms:=[.int .u8 (isB a.r.n)]) (m:=1) (hv.go hw1 ((Ext.refl H1).push _)) (hx1.push _) (hw1.push _) (QnR (by rw[Qd,Lc rfl];rfl)) rfl rfl (by omega) (by omega) ?_;intro v2 H2 hv2 hk2;simp only[Qb,simprocAttr,QiS];have e2:W.length=w.length+1:=by rw[eW,Lh,Bb]
  have e3:bys W=bys w++[.int .u8 (isB a.r.n)]:=by rw[eW,bys,bys,N6];rfl
  exact .mk hk2.x.next ⟨by rw[e2,e3];exact hv2,hk2.x⟩
 ·rw[Le (by have:=Ll h;omega),Na]at eW;simp only[Qb,simprocAttr,r5,QiS];exact .mk hx1.next ⟨by rw[eW];exact hv,hx1⟩
theorem QI3 (hw:H.Wf)(hx:x.At H)(ha:Qv H va l)(hl:l.length<=1000)(hI:∀a∈l,I64 a.n)(hn:x.f.slots.length=l.length){W:List Int}(eW:W=Qax x.f op l){A:Env}{H1:Qa}(hF:FtF H H1 x op va A)(r5:A 5=.slice none 0 0)(r6:A 6=.int .i64 (tlN x.f))(r7:A 7=.int .i64 (Qn x.f.slots 7)):
  Qm prog Qcz ⟨KT H W,WJ⟩ (KT H W) A H1:=by
 obtain⟨hx1,hw1,g2,g3,hn1,r2,r3⟩:=id hF;have e10:x.cells.take 10=x.cells:=rfl;have l10:10<=x.cells.length:=Lb _;have hlt5:=QpL x.f.slots 5;have hlt7:=QpL x.f.slots 7;unfold Qax at eW;simp only[Qcz,Qb,simprocAttr,r2,g2,Lw,e10];refine⟨l10,?_⟩;refine(Wt x 5 H1 (hx.ext hw hx1)).thenW ?_;rintro _ _ hn2 hw2 ⟨rfl,k,rfl⟩;have hx2:Ext H1 (H1.up k):=(Ext.refl H1).up hn2;obtain⟨hx3,_,g22,g23,hn3,_,_⟩:=hF.go hx2 hw2 rfl rfl;simp only[Qb,simprocAttr];refine Qf (λh=>?_) (λh=>?_)
 ·have h0:0<=Qn x.f.slots 5:=Lg h;rw[Lc h0]at eW;have eN:QoU x.f op l=if(l[(Qn x.f.slots 5).toNat]?.getD Wc).k=3 then(WZ (l[(Qn x.f.slots 5).toNat]?.getD Wc).n (QU op l).1 (QU op l).2).1 else(l[(Qn x.f.slots 5).toNat]?.getD Wc).n:=rfl
  obtain⟨i,hi⟩:∃i:Nat,Qn x.f.slots 5=i:=⟨(Qn x.f.slots 5).toNat,by omega⟩;rw[hi]at hlt5 eN ⊢;have hil:i<l.length:=by omega
  obtain⟨a,hai⟩:∃a,l[i]? = some a:=⟨_,La hil⟩;have d1:(0:Int)<=i∧(i:Int)<l.length:=by omega
  have d3:(i:Int).toNat=i:=by omega
  have hgd:l[(i:Int).toNat]?.getD Wc=a:=by rw[d3,hai];rfl
  rw[hgd]at eN;have hIa:I64 a.n:=hI a (Ln hai);have hIm:=QsQ a.n (QU op l).1 (QU op l).2 hIa;have qi:=QcO a.n (QU op l).1 (QU op l).2 hIa;have qb:=λH' (hx:Ext H H')=>QfX op va l H' (ha.ext hw hx) hl;obtain⟨a0,cap,rfl,h1⟩:=id ha;obtain⟨b,e,ro,rfl,hgb0⟩:=h1 (by omega);have hgb:(H1.up k).get b=some (.cells (Qi l) e ro):=by rw[hx3.get b (hw.lt hgb0)];exact hgb0
  have hk0:(Qi l)[i * 11]? = some (.int .i64 a.k):=by
   have:=WI l i a hai;have h:=congrArg (λz=>z[0]?) this;simpa[Ar.cells,Nl,Nk] using h
  have hk10:(Qi l)[i * 11+10]? = some (.int .i64 a.n):=by
   have:=WI l i a hai;have h:=congrArg (λz=>z[10]?) this;simpa[Ar.cells,Nl,Nk] using h
  generalize H1.up k=H2 at *;simp only[QgW,Qb,simprocAttr,r3,g23,d1,d3,hgb,hk0,hk10];obtain⟨N,eNN⟩:∃N,N=QoU x.f op l:=⟨_,rfl⟩;rw[<- eNN]at eN eW;have hIN:I64 N:=by
   rw[eN];split
   ·exact hIm
   ·exact hIa
  have hput:∀ (B:Env) (H5:Qa),Ext H2 H5->H5.Wf->B 3=A 3->B 7=A 7->Qe prog 249 [.int .i64 N,.int .i64 (tlN x.f)] H5 (QnJ prog [Om 49 (t 52),Ow 53 (.ext (t 49) 0),Ow 54 (.ext (t 49) 1),Om 5 (t 53)] (Qm prog Gm ⟨KT H W,WJ⟩ (KT H W)) B (some 52)):=by
   intro B H5 e1 e2 p3 p7;refine(QqH N (tlN x.f) hIN H5).thenW ?_;rintro _ H6 hn6 hw6 ⟨v,rfl,hv,hx6⟩;simp only[Qb,simprocAttr];have hx56:=(hx3.trans e1).trans hx6;have hnn:=(hx3.trans e1).next;refine QI2 hw ha hl (by omega) (QAQ N (tlN x.f)) eW (v:=v) hx56 hw6 (by rw[(e1.trans hx6).get _ (by omega)];exact g23) ?_ ?_ ?_ (hv.down hnn)
   all_goals simp only[Qg,simprocAttr,p3,p7,r3,r7]
  cases c:a.k==3 with
  | false=>
   rw[Le (by simpa using c)]at eN;rw[eN]at hput;simp only[Qb,simprocAttr,r6];refine hput _ H2 (Ext.refl _) hw2 ?_ ?_
   all_goals simp only[Qg,simprocAttr]
  | true=>
   rw[Lc (by simpa using c)]at eN;simp only[QgV,Qb,simprocAttr,r3,g23,Lw,List.take];refine(qb H2 hx3).thenW ?_;rintro _ _ hn4 hw4 ⟨rfl,k4,rfl⟩;simp only[Qb,simprocAttr];refine(qi _).thenW ?_;rintro _ H5 hn5 hw5 ⟨rfl,eH5⟩;rw[eH5]at hw5 ⊢;rw[eN]at hput;simp only[Qb,simprocAttr,r6];refine hput _ _ (show Ext H2 (H2.up k4) from(Ext.refl H2).up hn4) hw5 ?_ ?_
   all_goals simp only[Qg,simprocAttr]
 ·rw[Le (by have:=Ll h;omega),LH]at eW;simp only[Qb,simprocAttr];refine QI2 hw ha hl (w:=[]) (by omega) (by simp) eW (v:=.slice none 0 0) hx3 hw2 g23 ?_ ?_ ?_ (.inl ⟨rfl,rfl,rfl⟩)
  all_goals simp only[Qg,simprocAttr,r3,r5,r7]
end
theorem QsT {x:Lf}{H:Qa}(hw:H.Wf)(hx:x.At H)(hf:x.Fr 0)(m:Nat)(hm:H.next<=m):Qh m 6 (.agg x.cells.toArray)=true:=by
 have h1:=Qls hw hf.1 hx.2.2.1 m hm 4;have h2:=Qls hw hf.2 hx.2.2.2 m hm 4;simp only[Nat.reduceAdd]at h1 h2;obtain⟨f,v1,v2⟩:=x;have e1:SlF 0 v1 f.shapes:=hf.1;have e2:SlF 0 v2 f.slots:=hf.2;clear hx hf;simp only[Lf.cells]at *;rcases e1 with⟨_,rfl⟩ | ⟨_,b1,c1,rfl,_,_⟩<;>rcases e2 with⟨_,rfl⟩ | ⟨_,b2,c2,rfl,_,_⟩
 all_goals (simp only[Qh]at h1 h2;simp[Qh,Ab.plain,h1,h2])
theorem QtX {x:Lf}{op:Int}{va:Value}{l:List Ar}(H:Qa)(hx:x.At H)(hf:x.Fr 0)(ha:Qv H va l)(hl:l.length<=1000)(hI:∀a∈l,I64 a.n)(hn:x.f.slots.length=l.length):
  Qe prog 113 [.agg x.cells.toArray,.agg #[.int .i64 op,va]] H λv H'=>Gx 1 5 H H' v (Qax x.f op l).length (bys (Qax x.f op l))∧Ext H H':=by
 refine Qso λhw=>?_;have ex:(Value.agg x.cells.toArray).cells.toList=x.cells:=rfl;have e10:x.cells.take 10=x.cells:=rfl;have l10:10<=x.cells.length:=Lb _;obtain⟨W,eW⟩:∃W,W=Qax x.f op l:=⟨_,rfl⟩;rw[<- eW];obtain⟨a0,cap,rfl⟩:=Qu ha;simp only[Qkh,ex,KG,simprocAttr];generalize hH1:Qa.push H (.cells x.cells 45 false)=H1;have g1:H1.get H.next=some (.cells x.cells 45 false):=by rw[<- hH1,Qd,Lc rfl]
 have hx1:Ext H H1:=by rw[<- hH1];exact(Ext.refl H).push _
 have hn1:H1.next=H.next+1:=by rw[<- hH1];rfl
 have hw1:H1.Wf:=by rw[<- hH1];exact hw.push _
 clear hH1;simp only[Qb,simprocAttr,hn1];generalize hH2:Qa.push H1 _=H2;have hx2:Ext H H2:=by rw[<- hH2];exact(hx1.push _)
 have hw2:H2.Wf:=by rw[<- hH2];exact(hw1.push _)
 have g22:H2.get H.next=some (.cells x.cells 45 false):=by rw[<- hH2,Qd,Le (by omega)];exact g1
 have g23:H2.get (H.next+1)=some (.cells [.int .i64 op,.slice a0 l.length cap] 24 false):=by rw[<- hH2,Qd,Lc (by omega)]
 have hn2:H2.next=H.next+2:=by rw[<- hH2,Qc,hn1]
 clear hH2;simp only[Qb,simprocAttr,g1,g22,g23,Lw,e10];refine⟨l10,by omega,?_⟩;refine(QvF x H2 (hx.ext hw hx2)).thenW ?_;rintro _ _ hn3 hw3 ⟨rfl,k,rfl⟩;have hx3:Ext H2 (H2.up k):=(Ext.refl H2).up hn3;refine⟨hx3.eqB,?_⟩;have g32:(H2.up k).get H.next=some (.cells x.cells 45 false):=by rw[Y0];exact g22
 have g33:(H2.up k).get (H.next+1)=some (.cells [.int .i64 op,.slice a0 l.length cap] 24 false):=by rw[Y0];exact g23
 have hk:H2.next<=k:=hn3;simp only[Qb,simprocAttr,g32,Lw,e10];refine⟨l10,QsT hw hx hf k (by omega),?_⟩;refine(Wt x 7 _ (hx.ext hw (hx2.trans hx3))).thenW ?_;rintro _ _ hn4 hw4 ⟨rfl,k2,rfl⟩;have hx4:Ext H2 ((H2.up k).up k2):=hx3.up hn4;have hF:∀B:Env,B 2=.pointer (some ⟨H.next,0,none⟩)->B 3=.pointer (some ⟨H.next+1,0,none⟩)->FtF H ((H2.up k).up k2) x op (.slice a0 l.length cap) B:=λB e2 e3=>⟨hx2.trans hx4,hw4,by rw[Y0];exact g32,by rw[Y0];exact g33,by have:=hx4.next;omega,e2,e3⟩;have ht:=QsD x.f;have hT:tlF x.f=bif decide (0<=Qn x.f.slots 7) then tl1 x.f+1 else tl1 x.f:=rfl
 simp only[Qb,simprocAttr];refine Qf (λh=>?_) (λh=>?_)
 ·have h0:0<=Qn x.f.slots 7:=Lg h;have eT:tlN x.f=tlF x.f - 1:=Lc h0;rw[h,Lq]at hT;have ew:IntKind.i64.wrap (tlF x.f - 1)=tlN x.f:=by rw[eT,w64 (by unfold I64;omega)]
  simp only[Qb,simprocAttr,ew];refine QI3 hw hx ha hl hI hn eW (hF _ ?_ ?_) ?_ ?_ ?_
  all_goals simp only[Qg,simprocAttr]
 ·have eT:tlN x.f=tlF x.f:=Le (by have:=Ll h;omega);simp only[Qb,simprocAttr];refine QI3 hw hx ha hl hI hn eW (hF _ ?_ ?_) ?_ ?_ ?_
  all_goals simp only[Qg,simprocAttr,eT]
def QCc (f:Fm)(l:List Ar):Int:=if 0<=Qn f.slots 1 then Wg (l[(Qn f.slots 1).toNat]?.getD Wc).r else f.digit
def W0 (f:Fm)(l:List Ar):List Ld:=
 if Qn f.slots 2<0 then[⟨[],0,0⟩]
 else if((QcE (QCc f l) (l[(Qn f.slots 2).toNat]?.getD Wc)).2==0)=true then(QcE (QCc f l) (l[(Qn f.slots 2).toNat]?.getD Wc)).1 else[]
section
variable {x:Lf} {op:Int} {va:Value} {l:List Ar} {H:Qa}
abbrev KP (H:Qa)(W:List Ld):Env->Qa->Prop:=Rt prog Tryz.f114 H λv H'=>Q7 120 H H' v W∧Ext H H'
theorem QI5 (hw:H.Wf)(ha:Qv H va l){W:List Ld}{mid:Int}{i:Nat}{a:Ar}(hai:l[i]? = some a)(eW:W=if((QcE mid a).2==0)=true then(QcE mid a).1 else[]){A:Env}{H1:Qa}(hF:FtF H H1 x op va A)(r4:A 4=.slice none 0 0)(r5:A 5=.int .i64 i)(r6:A 6=.int .i64 mid):
  Qm prog VR ⟨KP H W,WJ⟩ (KP H W) A H1:=by
 obtain⟨hx1,hw1,g2,g3,hn1,r2,r3⟩:=id hF;have hil:i<l.length:=(Lk.1 hai).1;obtain⟨a0,cap,rfl,h1⟩:=ha;obtain⟨b,e,ro,rfl,hgb0⟩:=h1 (by omega);have hgb:H1.get b=some (.cells (Qi l) e ro):=by rw[hx1.get b (hw.lt hgb0)];exact hgb0
 have d1:(0:Int)<=i∧(i:Int)<l.length:=by omega
 have d3:(i:Int).toNat=i:=by omega
 have htk:=WI l i a hai;have hle:i * 11+11<=(Qi l).length:=by rw[QJ];omega
 simp only[VR,Qb,simprocAttr,r3,r5,r6,g3,d1,d3,hgb,htk];refine⟨hle,?_⟩;refine(QxC mid a H1).thenW ?_;rintro _ H2 hn2 hw2 ⟨v,rfl,hv,hx2⟩;simp only[Qb,simprocAttr];cases c:(QcE mid a).2==0 with
 | false=>
  simp only[Qb,simprocAttr,c,QaT];rw[c,Le (by decide)]at eW;exact .mk (hx1.trans hx2).next ⟨by rw[eW];exact Q7.nil _ _ _,hx1.trans hx2⟩
 | true=>
  simp only[Qb,simprocAttr,c,QaT];rw[c,Lc rfl]at eW;exact .mk (hx1.trans hx2).next ⟨by rw[eW];exact hv.down hx1.next,hx1.trans hx2⟩
theorem QJY (hw:H.Wf)(hx:x.At H)(ha:Qv H va l)(hl:l.length<=1000)(hn:x.f.slots.length=l.length){W:List Ld}(h2:0<=Qn x.f.slots 2)(eW:W=W0 x.f l){A:Env}{H1:Qa}(hF:FtF H H1 x op va A)(r4:A 4=.slice none 0 0)(r5:A 5=.int .i64 (Qn x.f.slots 2)):
  Qm prog VS ⟨KP H W,WJ⟩ (KP H W) A H1:=by
 obtain⟨hx1,hw1,g2,g3,hn1,r2,r3⟩:=id hF;have e10:x.cells.take 10=x.cells:=rfl;have x6:x.cells[6]? = some (.int .i64 x.f.digit):=rfl;have l10:10<=x.cells.length:=Lb _;have hlt2:=QpL x.f.slots 2;have hlt1:=QpL x.f.slots 1;unfold W0 at eW;rw[Le (by omega)]at eW;obtain⟨i,hi⟩:∃i:Nat,Qn x.f.slots 2=i:=⟨(Qn x.f.slots 2).toNat,by omega⟩;rw[hi]at eW r5 hlt2;obtain⟨a,hai⟩:∃a,l[i]? = some a:=⟨_,La (by omega)⟩;have hgd:l[(i:Int).toNat]?.getD Wc=a:=by rw[show(i:Int).toNat=i by omega,hai];rfl
 rw[hgd]at eW;have em:QCc x.f l=if 0<=Qn x.f.slots 1 then Wg (l[(Qn x.f.slots 1).toNat]?.getD Wc).r else x.f.digit:=rfl
 simp only[VS,Qb,simprocAttr,r2,g2,x6,Lw,e10];refine⟨l10,?_⟩;refine(Wt x 1 H1 (hx.ext hw hx1)).thenW ?_;rintro _ _ hn2 hw2 ⟨rfl,k,rfl⟩;have hx2:Ext H1 (H1.up k):=(Ext.refl H1).up hn2;obtain⟨hx3,_,g22,g23,hn3,_,_⟩:=hF.go hx2 hw2 rfl rfl;simp only[Qb,simprocAttr];refine Qf (λh=>?_) (λh=>?_)
 ·have h0:0<=Qn x.f.slots 1:=Lg h;rw[Lc h0]at em;obtain⟨j,hj⟩:∃j:Nat,Qn x.f.slots 1=j:=⟨(Qn x.f.slots 1).toNat,by omega⟩;rw[hj]at hlt1 em ⊢;obtain⟨c,haj⟩:∃c,l[j]? = some c:=⟨_,La (by omega)⟩;have hgj:l[(j:Int).toNat]?.getD Wc=c:=by rw[show(j:Int).toNat=j by omega,haj];rfl
  rw[hgj]at em;obtain⟨a0,cap,rfl,h1⟩:=id ha;obtain⟨b,e,ro,rfl,hgb0⟩:=h1 (by omega);have hgb:(H1.up k).get b=some (.cells (Qi l) e ro):=by rw[hx3.get b (hw.lt hgb0)];exact hgb0
  have d1:(0:Int)<=j∧(j:Int)<l.length:=by omega
  have d3:(j:Int).toNat=j:=by omega
  have hrg:=QeU haj;have hle:j * 11+1+2<=(Qi l).length:=by rw[QJ];omega
  have q:=QcB c.r;simp only[Rg.cells]at q;generalize H1.up k=H2 at *;simp only[Qb,simprocAttr,r3,g23,d1,d3,hgb,hrg];refine⟨hle,?_⟩;refine(q H2).thenW ?_;rintro _ _ hn4 hw4 ⟨rfl,k4,rfl⟩;have hx4:Ext H1 (H2.up k4):=hx2.trans ((Ext.refl H2).up hn4);simp only[Qb,simprocAttr];refine QI5 hw ha (mid:=Wg c.r) hai (by rw[eW,em]) (hF.go hx4 hw4 ?_ ?_) ?_ ?_ ?_
  all_goals simp only[Qg,simprocAttr,r4,r5]
 ·rw[Le (by have:=Ll h;omega)]at em;simp only[Qb,simprocAttr];refine QI5 hw ha (mid:=x.f.digit) hai (by rw[eW,em]) (hF.go hx2 hw2 ?_ ?_) ?_ ?_ ?_
  all_goals simp only[Qg,simprocAttr,r4,r5]
end
theorem Qre {x:Lf}{op:Int}{va:Value}{l:List Ar}(H:Qa)(hx:x.At H)(ha:Qv H va l)(hl:l.length<=1000)(hn:x.f.slots.length=l.length):
  Qe prog 114 [.agg x.cells.toArray,.agg #[.int .i64 op,va]] H λv H'=>Q7 120 H H' v (W0 x.f l)∧Ext H H':=by
 refine Qpy λhw=>?_;have ex:(Value.agg x.cells.toArray).cells.toList=x.cells:=rfl;have e10:x.cells.take 10=x.cells:=rfl;have l10:10<=x.cells.length:=Lb _;obtain⟨W,eW⟩:∃W,W=W0 x.f l:=⟨_,rfl⟩;rw[<- eW];obtain⟨a0,cap,rfl⟩:=Qu ha;simp only[QgX,ex,KG,simprocAttr];generalize hH1:Qa.push H (.cells x.cells 45 false)=H1;have g1:H1.get H.next=some (.cells x.cells 45 false):=by rw[<- hH1,Qd,Lc rfl]
 have hx1:Ext H H1:=by rw[<- hH1];exact(Ext.refl H).push _
 have hn1:H1.next=H.next+1:=by rw[<- hH1];rfl
 have hw1:H1.Wf:=by rw[<- hH1];exact hw.push _
 clear hH1;simp only[Qb,simprocAttr,hn1];generalize hH2:Qa.push H1 _=H2;have hx2:Ext H H2:=by rw[<- hH2];exact(hx1.push _)
 have hw2:H2.Wf:=by rw[<- hH2];exact(hw1.push _)
 have g22:H2.get H.next=some (.cells x.cells 45 false):=by rw[<- hH2,Qd,Le (by omega)];exact g1
 have g23:H2.get (H.next+1)=some (.cells [.int .i64 op,.slice a0 l.length cap] 24 false):=by rw[<- hH2,Qd,Lc (by omega)]
 have hn2:H2.next=H.next+2:=by rw[<- hH2,Qc,hn1]
 clear hH2;simp only[Qb,simprocAttr,g1,g22,g23,Lw,e10];refine⟨l10,?_⟩;refine(Wt x 2 H2 (hx.ext hw hx2)).thenW ?_;rintro _ _ hn3 hw3 ⟨rfl,k,rfl⟩;have hx3:Ext H2 (H2.up k):=(Ext.refl H2).up hn3;have hF:∀B:Env,B 2=.pointer (some ⟨H.next,0,none⟩)->B 3=.pointer (some ⟨H.next+1,0,none⟩)->FtF H (H2.up k) x op (.slice a0 l.length cap) B:=λB e2 e3=>⟨hx2.trans hx3,hw3,by rw[Y0];exact g22,by rw[Y0];exact g23,by have:=hx3.next;omega,e2,e3⟩;simp only[Qb,simprocAttr];refine Qf (λh=>?_) (λh=>?_)
 ·have h0:Qn x.f.slots 2<0:=Lg h;have eW2:W=[⟨[],0,0⟩]:=by rw[eW];unfold W0;rw[Lc h0]
  simp only[Qb,simprocAttr,QaT];have hx4:=(hx2.trans hx3).push (.cells [.slice none 0 0,.int .i64 0,.int .i64 0] 120 false);refine .mk hx4.next ⟨?_,hx4⟩;rw[eW2];refine⟨[.slice none 0 0],rfl,.inr ⟨(H2.up k).next,1,rfl,(hx2.trans hx3).next,by rw[Qd,Lc rfl];rfl,rfl,.inl rfl⟩,λj s w h1 h2=>?_⟩;cases j with
  | zero=>simp at h1 h2;subst h1;subst h2;exact .inl ⟨rfl,rfl,rfl⟩
  | succ j=>simp at h1
 ·simp only[Qb,simprocAttr];refine QJY hw hx ha hl hn (by have:=Ll h;omega) eW (hF _ ?_ ?_) ?_ ?_
  all_goals simp only[Qg,simprocAttr]
def QpV (f:Fm)(s:Int):Bool:=decide (0<=Qn f.shapes s)
def Qja (w:Int)(f:Fm)(d:Int):Bool:=
 if(w==1)=true then QpV f 26 else if(w==2)=true then QpV f 27 else if(w==3)=true then(!(QpV f 21||QpV f 26)&&((d==4)||(d==-1))) else true
theorem QDE {H:Qa}{v:Value}{l:List Int}(h:Qdw H v l.length (ints l)):QAL H v l:=by
 obtain⟨a,c,rfl,h1⟩:=h;refine⟨a,c,rfl,λhl=>?_⟩;obtain⟨b,e,ro,rfl,hb⟩:=h1 hl;exact⟨b,e,ro,_,rfl,hb,λj hj=>Zh hj⟩
theorem QpW {x:Lf}(w d:Int)(H:Qa)(hx:x.At H):Qe prog 30 [.int .i64 w,.agg x.cells.toArray,.int .i64 d] H λv H'=>v=.bool (Qja w x.f d)∧Ext H H':=by
 refine Qn1 λhw=>?_;have ex:(Value.agg x.cells.toArray).cells.toList=x.cells:=rfl;obtain⟨a1,c1,e1⟩:=Qu hx.2.2.1;have x1:x.cells[1]? = some (.slice a1 x.f.shapes.length c1):=by rw[<- e1];rfl
 obtain⟨W,eW⟩:∃W,W=Qja w x.f d:=⟨_,rfl⟩;rw[<- eW];unfold Qja at eW;have hS:=hx.2.2.1;rw[e1]at hS;simp only[Qfm,ex,KG,simprocAttr];generalize hH1:Qa.push H (.cells x.cells 45 false)=H1;have g1:H1.get H.next=some (.cells x.cells 45 false):=by rw[<- hH1,Qd,Lc rfl]
 have hx1:Ext H H1:=by rw[<- hH1];exact(Ext.refl H).push _
 have hw1:H1.Wf:=by rw[<- hH1];exact hw.push _
 clear hH1;have q:=λs=>QsI _ _ s H1 (QDE (hS.ext hw hx1)) hx.1;cases c1:w==1 with
 | true=>
  rw[c1,Lc rfl]at eW;simp only[Qb,simprocAttr,c1,g1,x1];refine(q 26).thenW ?_;rintro _ H2 hn2 hw2 ⟨rfl,e2⟩;rw[e2]at hn2 ⊢;simp only[Qb,simprocAttr,Xg];exact .mk hx1.next ⟨by rw[eW];rfl,hx1⟩
 | false=>
  rw[c1,Le (by decide)]at eW;cases c2:w==2 with
  | true=>
   rw[c2,Lc rfl]at eW;simp only[Qb,simprocAttr,c1,c2,g1,x1];refine(q 27).thenW ?_;rintro _ H2 hn2 hw2 ⟨rfl,e2⟩;rw[e2]at hn2 ⊢;simp only[Qb,simprocAttr,Xg];exact .mk hx1.next ⟨by rw[eW];rfl,hx1⟩
  | false=>
   rw[c2,Le (by decide)]at eW;cases c3:w==3 with
   | false=>
    rw[c3,Le (by decide)]at eW;simp only[Qb,simprocAttr,c1,c2,c3,Xg];exact .mk hx1.next ⟨by rw[eW],hx1⟩
   | true=>
    rw[c3,Lc rfl]at eW;simp only[Qb,simprocAttr,c1,c2,c3,g1,x1];refine(q 21).thenW ?_;rintro _ H2 hn2 hw2 ⟨rfl,e2⟩;rw[e2]at hn2 ⊢;have eh:decide (0<=Qn x.f.shapes 21)=QpV x.f 21:=rfl;have eh2:decide (0<=Qn x.f.shapes 26)=QpV x.f 26:=rfl;rw[eh];cases k1:QpV x.f 21 with
    | true=>
     simp only[Qb,simprocAttr,Xg];exact .mk hx1.next ⟨by rw[eW,k1];rfl,hx1⟩
    | false=>
     simp only[Qb,simprocAttr,g1,x1];refine(q 26).thenW ?_;rintro _ H3 hn3 hw3 ⟨rfl,e3⟩;rw[e3,eh2]at *;cases k2:QpV x.f 26 with
     | true=>
      simp only[Qb,simprocAttr,Xg];exact .mk hx1.next ⟨by rw[eW,k1,k2];rfl,hx1⟩
     | false=>
      cases k3:d==4 with
      | true=>
       simp only[Qb,simprocAttr,k3,Xg];exact .mk hx1.next ⟨by rw[eW,k1,k2,k3];rfl,hx1⟩
      | false=>
       simp only[Qb,simprocAttr,k3,Xg];exact .mk hx1.next ⟨by rw[eW,k1,k2,k3];simp,hx1⟩
theorem QFC (a:Ar)(H:Qa):Qe prog 355 [.agg a.cells.toArray] H λu H'=>u=.bool (a.k==2)∧Ext H H':=by
 refine Qf8 λhw=>?_;obtain⟨ak,⟨rc,rn⟩,⟨⟨bc,bn⟩,⟨ic,nn⟩,sc,d,sz⟩,n⟩:=a;simp only[Ar.cells,Vj,Qb,simprocAttr,Qe4];have hx:=(Ext.refl H).push (.cells [.int .i64 ak,.int .i64 rc,.int .i64 rn,.int .i64 bc,.int .i64 bn,.int .i64 ic,.int .i64 nn,.int .i64 sc,.int .i64 d,.int .i64 sz,.int .i64 n] 58 false);exact .mk hx.next ⟨rfl,hx⟩
theorem QxN {g:FuncId}{p:Ar->Bool}(hq:∀ (a:Ar) (H:Qa),Qe prog g [.agg a.cells.toArray] H λu H'=>u=.bool (p a)∧Ext H H')(va:Value)(l:List Ar)(H:Qa)(ha:Qv H va l)(hl:l.length<=1000):Qe prog 38 [va,.func (.func g) #[] #[]] H λu H'=>∃r:Int,u=.int .i64 r∧decide (0<=r)=l.any p∧Ext H H':=by
 refine Vh λhw=>?_;obtain⟨a0,cap,rfl,h1⟩:=ha;simp only[Za,Qb,simprocAttr,Wj];refine Qo (λm A' H'=>∃i:Nat,i<=l.length∧m=l.length - i∧H'.Wf∧Ext H H'∧A' 0=.slice a0 l.length cap∧A' 1=.func (.func g) #[] #[]∧A' 7=.int .i64 l.length∧A' 8=.int .i64 i∧(l.take i).any p=false) l.length ?_ ?_
 ·refine⟨0,L7 _,by omega,hw,Ext.refl H,?_,?_,?_,?_,by simp⟩
  all_goals simp only[Qg,simprocAttr]
  all_goals rfl
 ·rintro m A' H' ⟨i,hi,rfl,hw',hx,r0,r1,r7,r8,hno⟩;simp only[Qb,simprocAttr,r7,r8];refine Qf (λh2=>?_) (λh2=>?_)
  ·have h2:i<l.length:=by have:=Lg h2;omega
   obtain⟨a,hai⟩:∃a,l[i]? = some a:=⟨_,La h2⟩;obtain⟨b,e,ro,rfl,hgb0⟩:=h1 (by omega);have hgb:H'.get b=some (.cells (Qi l) e ro):=by rw[hx.get b (hw.lt hgb0)];exact hgb0
   have htk:=WI l i a hai;have hle:i * 11+11<=(Qi l).length:=by rw[QJ];omega
   have d1:(0:Int)<=i∧(i:Int)<l.length:=by omega
   have d3:(i:Int).toNat=i:=by omega
   have ei:IntKind.i64.wrap ((i:Int)+1)=((i+1:Nat):Int):=by rw[w64 (by unfold I64;omega)];omega
   have htl:l.take (i+1)=l.take i++[a]:=by rw[Nv,hai];rfl
   simp only[Qb,simprocAttr,r0,r1,r8,d1,d3,hgb,htk,QuA];refine⟨hle,?_⟩;refine(hq a H').thenW ?_;rintro _ H2 hn2 hw2 ⟨rfl,hx2⟩;cases c:p a with
   | true=>
    simp only[Qb,simprocAttr,Y1];refine .mk (hx.trans hx2).next ⟨i,rfl,?_,hx.trans hx2⟩;rw[Lp d1.1];exact(Bh.2 ⟨a,Ln hai,c⟩).symm
   | false=>
    simp only[Qb,simprocAttr,r8,ei];refine⟨l.length - (i+1),by omega,i+1,by omega,rfl,hw2,hx.trans hx2,?_,?_,?_,?_,by rw[htl,Rz,hno];simp[c]⟩
    all_goals simp only[Qg,simprocAttr,r0,r1,r7]
  ·have h2:i=l.length:=by have:=Ll h2;omega
   subst h2;rw[Nr]at hno;simp only[Qb,simprocAttr,Y1];exact .mk hx.next ⟨-1,rfl,by rw[hno];rfl,hx⟩
theorem QsW {g:FuncId}{p:Ar->Bool}(hq:∀ (a:Ar) (H:Qa),Qe prog g [.agg a.cells.toArray] H λu H'=>u=.bool (p a)∧Ext H H')(va:Value)(l:List Ar)(H:Qa)(ha:Qv H va l)(hl:l.length<=1000):Qe prog 354 [va,.func (.func g) #[] #[]] H λu H'=>u=.bool (l.any p)∧Ext H H':=by
 refine KY λhw=>?_;simp only[YF,Qb,simprocAttr];refine(QxN hq va l H ha hl).thenW ?_;rintro _ H2 hn2 hw2 ⟨r,rfl,er,hx2⟩;simp only[Qb,simprocAttr,KA];exact .mk hx2.next ⟨by rw[er],hx2⟩
def QxO (c:Int):Int:=IntKind.u8.wrap (BitVec.ofInt IntKind.u8.bits c &&& BitVec.ofInt IntKind.u8.bits 7).toNat
def Qjb (l:List Ar)(w:Ld):Int:=
 if(!(l.any λa=>a.k==2)||(w.b.length==0))=true then -1 else if(QxO (w.b.getD 0 0)==4)=true then(w.b.length:Int) - 2 else(w.b.length:Int) - 1
theorem QjN {op:Int}{va:Value}{l:List Ar}{w:Ld}{v:Value}{H0:Qa}(H:Qa)(ha:Qv H va l)(hl:l.length<=1000)(hv:Gx 1 5 H0 H v w.b.length (bys w.b))(hwl:w.b.length<=1000):
  Qe prog 253 [.agg #[.int .i64 op,va],.agg #[v,.int .i64 w.x,.int .i64 w.h]] H λu H'=>u=.int .i64 (Qjb l w)∧Ext H H':=by
 refine QhT λhw=>?_;obtain⟨W,eW⟩:∃W,W=Qjb l w:=⟨_,rfl⟩;rw[<- eW];unfold Qjb at eW;obtain⟨a0,cap,rfl⟩:=Qu ha;obtain⟨a1,c1,rfl,hb1⟩:∃a c,v=.slice a w.b.length c∧(0<w.b.length->∃b,a=some ⟨b,0,none⟩∧H.get b=some (.cells (bys w.b) 5 false)):=by
  rcases hv with⟨rfl,h,_⟩ | ⟨b,c,rfl,_,h,_,_⟩
  ·exact⟨none,0,by rw[h],λh'=>by omega⟩
  ·exact⟨_,c,rfl,λ_=>⟨b,rfl,h⟩⟩
 simp only[QaE,KG,simprocAttr];generalize hH1:Qa.push H _=H1;have g1:H1.get H.next=some (.cells [.int .i64 op,.slice a0 l.length cap] 24 false):=by rw[<- hH1,Qd,Lc rfl];rfl
 have hx1:Ext H H1:=by rw[<- hH1];exact(Ext.refl H).push _
 have hn1:H1.next=H.next+1:=by rw[<- hH1];rfl
 have hw1:H1.Wf:=by rw[<- hH1];exact hw.push _
 clear hH1
 try simp only[Qb,simprocAttr,hn1]
 generalize hH2:Qa.push H1 _=H2;have hx2:Ext H H2:=by rw[<- hH2];exact(hx1.push _)
 have hw2:H2.Wf:=by rw[<- hH2];exact(hw1.push _)
 have g22:H2.get H.next=some (.cells [.int .i64 op,.slice a0 l.length cap] 24 false):=by rw[<- hH2,Qd,Le (by omega)];exact g1
 have g23:H2.get (H.next+1)=some (.cells [.slice a1 w.b.length c1,.int .i64 w.x,.int .i64 w.h] 120 false):=by rw[<- hH2,Qd,Lc (by omega)]
 have hn2:H2.next=H.next+2:=by rw[<- hH2,Qc,hn1]
 clear hH2;simp only[Qb,simprocAttr,g1,g22,g23];refine(QsW QFC _ l H2 (ha.ext hw hx2) hl).thenW ?_;rintro _ H3 hn3 hw3 ⟨rfl,hx23⟩;have hx3:=hx2.trans hx23;have g33:H3.get (H.next+1)=some (.cells [.slice a1 w.b.length c1,.int .i64 w.x,.int .i64 w.h] 120 false):=by rw[hx23.get _ (by omega)];exact g23
 generalize (l.any λa=>a.k==2)=M at *;cases M with
 | false=>
  simp only[Qb,simprocAttr,YK];exact .mk hx3.next ⟨by rw[eW];rfl,hx3⟩
 | true=>
  have el:((w.b.length:Int)==0)=(w.b.length==0):=by
   rw[Ni,L0,L0];omega
  simp only[Qb,simprocAttr,g33,el];cases c0:w.b.length==0 with
  | true=>
   simp only[Qb,simprocAttr,YK];exact .mk hx3.next ⟨by rw[eW,c0];rfl,hx3⟩
  | false=>
   have hpos:0<w.b.length:=by have:=LC.1 c0;omega
   obtain⟨b,rfl,hb⟩:=hb1 hpos;have hgb:H3.get b=some (.cells (bys w.b) 5 false):=by rw[hx3.get b (hw.lt hb)];exact hb
   have h0:(bys w.b)[0]? = some (.int .u8 (w.b.getD 0 0)):=by
    simp[bys,LD,LX,La hpos]
   have d1:(0:Int)<w.b.length:=by omega
   have ea:IntKind.u8.wrap (BitVec.ofInt IntKind.u8.bits (w.b.getD 0 0) &&& BitVec.ofInt IntKind.u8.bits 7).toNat=QxO (w.b.getD 0 0):=rfl;rw[c0,L8,NI,Le (by decide)]at eW;simp only[sxA,sxB,Nat.reduceBEq,Nat.reduceEqDiff,reduceCtorEq,mxA,mxB,Nat.reduceAdd,reduceIte,Nat.reduceLeDiff,splice,g33,hgb,d1];refine⟨B0 0,_,h0,?_⟩;simp only[Qb,simprocAttr,ea];have e2:IntKind.i64.wrap ((w.b.length:Int) - 2)=(w.b.length:Int) - 2:=w64 (by unfold I64;omega);have e1:IntKind.i64.wrap ((w.b.length:Int) - 1)=(w.b.length:Int) - 1:=w64 (by unfold I64;omega);cases c4:QxO (w.b.getD 0 0)==4 with
   | true=>
    rw[c4,Lc rfl]at eW;simp only[Qb,simprocAttr,g33,e2,YK];exact .mk hx3.next ⟨by rw[eW],hx3⟩
   | false=>
    rw[c4,Le (by decide)]at eW;simp only[Qb,simprocAttr,g33,e1,YK];exact .mk hx3.next ⟨by rw[eW],hx3⟩
theorem QtZ {x:Lf}{op:Int}{va:Value}(H:Qa):Qe prog 74 [.agg x.cells.toArray,.agg #[.int .i64 op,va]] H λu H'=>u=.func (.func 112) #[] #[.pointer (some ⟨H.next,0,none⟩),.pointer (some ⟨H.next+1,0,none⟩)]∧Ext H H'∧H.next+2<=H'.next∧H'.get H.next=some (.cells x.cells 45 false)∧H'.get (H.next+1)=some (.cells (Value.agg #[.int .i64 op,va]).cells.toList 24 false):=by
 refine Qsm λhw=>?_;have ex:(Value.agg x.cells.toArray).cells.toList=x.cells:=rfl;simp only[Qkf,ex,KG,simprocAttr];have hx:=((Ext.refl H).push (.cells x.cells 45 false)).push (.cells (Value.agg #[.int .i64 op,va]).cells.toList 24 false);simp only[Qb,simprocAttr,Qq3];refine .mk hx.next ⟨rfl,hx,by simp only[Qc];omega,?_,?_⟩
 ·rw[Qd,Le (by rw[Qc];omega),Qd,Lc rfl]
 ·rw[Qd,Lc (by rw[Qc])]
theorem QoZ {x:Lf}{op:Int}{va s tl:Value}{lx lh:Int}(H:Qa)(hs:s.oneCell'=true)(htl:tl.cells.toList=[tl]):Qe prog 115 [.agg x.cells.toArray,.agg #[.int .i64 op,va],.agg #[s,.int .i64 lx,.int .i64 lh],tl] H λu H'=>u=.func (.func 252) #[] #[.pointer (some ⟨H.next+1,0,none⟩),.pointer (some ⟨H.next+2,0,none⟩),.pointer (some ⟨H.next,0,none⟩),.pointer (some ⟨H.next+3,0,none⟩)]∧Ext H H'∧H.next+4<=H'.next∧H'.get H.next=some (.cells x.cells 45 false)∧H'.get (H.next+1)=some (.cells (Value.agg #[.int .i64 op,va]).cells.toList 24 false)∧H'.get (H.next+2)=some (.cells (Value.agg #[s,.int .i64 lx,.int .i64 lh]).cells.toList 120 false)∧H'.get (H.next+3)=some (.cells [tl] 27 false):=by
 refine QmN λhw=>?_;have ex:(Value.agg x.cells.toArray).cells.toList=x.cells:=rfl;have hx:=((((Ext.refl H).push (.cells x.cells 45 false)).push (.cells (Value.agg #[.int .i64 op,va]).cells.toList 24 false)).push (.cells (Value.agg #[s,.int .i64 lx,.int .i64 lh]).cells.toList 120 false)).push (.cells [tl] 27 false);simp only[QeA,ex,KG,simprocAttr];simp only[Qb,simprocAttr,QlE,htl];refine .mk hx.next ⟨rfl,hx,by simp only[Qc];omega,?_,?_,?_,?_⟩
 ·rw[Qd,Le (by simp only[Qc];omega),Qd,Le (by simp only[Qc];omega),Qd,Le (by simp only[Qc];omega),Qd,Lc rfl]
 ·rw[Qd,Le (by simp only[Qc];omega),Qd,Le (by simp only[Qc];omega),Qd,Lc (by simp only[Qc])]
 ·rw[Qd,Le (by simp only[Qc];omega),Qd,Lc (by simp only[Qc])]
 ·rw[Qd,Lc (by simp only[Qc])]
def QDF (P:Program)(ty:TypeId)(size:Nat):Bool:=match P.underlying ty with | some (.slice e)=>(match P.info? e with | some inf=>Nat.beq inf.size size | none=>false) | _=>false
theorem QzH {P:Program}{A:Env}{H:Qa}{k:Value->Qa->Prop}{ty:TypeId}{size:Nat}{x hi mx:Operand}{k1 k2:IntKind}{n:Int}{u v:Value}(ht:QDF P ty size=true)(hx:ev A x=u)(hh:ev A hi=.int k1 n)(hm:ev A mx=.int k2 n)(hs:Qaz size u none (some n) (some n)=some v):
  pr P (.gen (.slice ty x none (some hi) (some mx))) false A H k=k v H:=by
 unfold QDF at ht;split at ht
 ·rename_i e h1;split at ht
  ·rename_i inf h2;have e0:inf.size=size:=LA ht;subst e0;exact Qzj (by
    have b1:XC A (some hi)=some (some n):=by simp[XC,hh]
    have b2:XC A (some mx)=some (some n):=by simp[XC,hm]
    have b0:XC A none=some none:=rfl;simp only[rop,aop,QnB,h1,h2,b0,b1,b2,hx,Ji,hs];rfl)
  ·cases ht
 ·cases ht
def QdW (f:Fm)(l:List Ar):Int:=if 0<=Qn f.slots 4 then IntKind.u8.wrap (IntKind.u8.wrap f.code+IntKind.u8.wrap (Wg (l[(Qn f.slots 4).toNat]?.getD Wc).r)) else IntKind.u8.wrap f.code
def Qge (f:Fm)(l:List Ar)(e:List Int)(w:Ld):List Ld:=(QeZ f l w.x w.h).map λhd=>⟨hd++[QdW f l]++w.b++e,0,Qjb l w⟩
theorem QxP (p r:Int):(JT p r).length<=4:=by
 unfold JT QFi
 repeat' split
 all_goals simp
theorem QxQ (m:Int):(Kr m).length<=2:=by
 unfold Kr
 repeat' split
 all_goals simp
theorem QuI (f:Fm)(l:List Ar)(a b:Int):(QeZ f l a b).length<=3∧∀hd∈QeZ f l a b,hd.length<=6:=by
 unfold QeZ;split
 ·unfold Qq8;cases f.w==-1<;>(repeat' split)<;>simp[Vk]
 ·refine⟨?_,λhd h=>?_⟩
  ·rw[Nn];unfold chF;repeat' split
   all_goals simp
  ·obtain⟨n,_,rfl⟩:=N4.1 h;have:=QxP f.pre n;have:=QxQ f.map;rw[Lh];omega
structure PfF (Hz Hs H:Qa) (x:Lf) (op:Int) (va:Value) (p1 p2 p3 p4:Nat) (s tl:Value) (w:Ld) (e:List Int):Prop where
 z:Ext Hz H
 wf:H.Wf
 g1:H.get p1=some (.cells [.int .i64 op,va] 24 false)
 g2:H.get p2=some (.cells [s,.int .i64 w.x,.int .i64 w.h] 120 false)
 g3:H.get p3=some (.cells x.cells 45 false)
 g4:H.get p4=some (.cells [tl] 27 false)
 s:Gx 1 5 Hs H s w.b.length (bys w.b)
 t:Gx 1 5 Hs H tl e.length (bys e)
structure PfO (Own:Nat->Prop) (Hz:Qa) (p1 p2 p3 p4:Nat) (s tl:Value):Prop where
 z:∀id,id<Hz.next->¬Own id
 o1:¬Own p1
 o2:¬Own p2
 o3:¬Own p3
 o4:¬Own p4
 s:∀id,inB s id->¬Own id
 t:∀id,inB tl id->¬Own id
section
variable {Hz Hs H:Qa} {x:Lf} {op:Int} {va:Value} {p1 p2 p3 p4:Nat} {s tl:Value} {w:Ld} {e:List Int} {Own:Qa->Nat->Prop}
theorem PfF.ck {H':Qa}(h:PfF Hz Hs H x op va p1 p2 p3 p4 s tl w e)(ho:PfO (Own H) Hz p1 p2 p3 p4 s tl)(hc:CK Own H H'):PfF Hz Hs H' x op va p1 p2 p3 p4 s tl w e:=by
 have hn:=hc.next;have hz:=h.z.next;refine⟨⟨by omega,λid hid=>?_⟩,hc.w,?_,?_,?_,?_,?_,?_⟩
 ·rw[hc.keep id (by omega) (ho.z id hid)];exact h.z.get id hid
 ·rw[hc.keep _ (h.wf.lt h.g1) ho.o1];exact h.g1
 ·rw[hc.keep _ (h.wf.lt h.g2) ho.o2];exact h.g2
 ·rw[hc.keep _ (h.wf.lt h.g3) ho.o3];exact h.g3
 ·rw[hc.keep _ (h.wf.lt h.g4) ho.o4];exact h.g4
 ·exact h.s.ext λid hi=>hc.keep id (h.s.low h.wf hi).2 (ho.s id hi)
 ·exact h.t.ext λid hi=>hc.keep id (h.t.low h.wf hi).2 (ho.t id hi)
theorem PfO.sub {O O':Nat->Prop}(h:PfO O Hz p1 p2 p3 p4 s tl)(hs:∀id,O' id->O id):PfO O' Hz p1 p2 p3 p4 s tl:=
 ⟨λid h1 h2=>h.z id h1 (hs _ h2),λh1=>h.o1 (hs _ h1),λh1=>h.o2 (hs _ h1),λh1=>h.o3 (hs _ h1),λh1=>h.o4 (hs _ h1),λid h1 h2=>h.s id h1 (hs _ h2),λid h1 h2=>h.t id h1 (hs _ h2)⟩
theorem Zq.keep2 {e:TypeId}{H0 H H':Qa}{v:Value}{ws:List (List Int)}(h:Zq e H0 H v ws)(hw:H.Wf)(hk:∀id,H0.next<=id->id<H.next->H'.get id=H.get id):Zq e H0 H' v ws:=by
 obtain⟨ss,h1,h2,h3⟩:=h.it;exact⟨h.ne,ss,h1,h2.ext λid hi=>hk id (h2.low hw hi).1 (h2.low hw hi).2,λj s w hs hw'=>(h3 j s w hs hw').ext λid hi=>hk id ((h3 j s w hs hw').low hw hi).1 ((h3 j s w hs hw').low hw hi).2⟩
theorem QI6 {base lb:Nat}{R:Nat->Qa->Prop}{l:List Ar}(hc:Cns base lb (Qge x.f l e w) LdV R Own)(hbase:base<=H.next)(hf:FOk x.f)(hx:x.At Hz)(ha:Qv Hz va l)(hwz:Hz.Wf)(hva:∀n,Hz.next<=n->Qh n 6 (.agg #[.int .i64 op,va])=true)(hl:l.length<=1000)(hn:x.f.slots.length=l.length)
  (hwx:0<=w.x∧w.x<2) (hwh:0<=w.h∧w.h<2) (hy:x.f.vex=true->(vxF x.f l w.x w.h).Ok) (hwl:w.b.length<=1000) (hel:e.length<=2000)
  {H1:Qa} (hP:PfF Hz Hs H1 x op va p1 p2 p3 p4 s tl w e) (ho:PfO (Own H1) Hz p1 p2 p3 p4 s tl) (hR:R 0 H1) (hk:CK Own H H1)
  {A:Env} (r0:A 0=.func (.yield lb) #[] #[]) (r1:A 1=.pointer (some ⟨p1,0,none⟩)) (r2:A 2=.pointer (some ⟨p2,0,none⟩)) (r3:A 3=.pointer (some ⟨p3,0,none⟩)) (r4:A 4=.pointer (some ⟨p4,0,none⟩)) (r6:A 6=.int .i64 (Qjb l w)) (r7:A 7=.int .u8 (QdW x.f l)):
  Qm prog JS ⟨Rt prog Tryz.f252 H λu H'=>R (Qge x.f l e w).length H'∧CK Own H H',WJ⟩ (Rt prog Tryz.f252 H λu H'=>R (Qge x.f l e w).length H'∧CK Own H H') A H1:=by
 obtain⟨hz,hw1,g1,g2,g3,g4,hs,ht⟩:=id hP;have e10:x.cells.take 10=x.cells:=rfl;have l10:10<=x.cells.length:=Lb _;obtain⟨sa,sc,rfl⟩:=hs.slc;obtain⟨a0,cap,rfl⟩:=Qu ha;simp only[JS,Qb,simprocAttr,r1,r2,r3,g1,g2,g3,Lw,e10];refine⟨l10,?_⟩;have hva:=λn (h:H1.next<=n)=>hva n (N8 hz.next h);refine(QsK hf H1 (hx.ext hwz hz) (ha.ext hwz hz) hva hl hn hwx hwh hy).thenW ?_;rintro v H2 hn2 hw2 ⟨hv2,hx2⟩;obtain⟨va2,vc2,rfl⟩:=hv2.slc;obtain⟨hR2,hO2⟩:=hc.ext _ _ _ hR hw1 hx2;have hk2:=hc.ck hR hw1 hx2 hw2;have hP2:=hP.ck ho hk2;obtain⟨hdl,hde⟩:=QuI x.f l w.x w.h;generalize hhd:QeZ x.f l w.x w.h=hd at *;simp only[Qb,simprocAttr,Wj];refine Qo (λm A' H'=>∃i:Nat,i<=hd.length∧m=hd.length - i∧R i H'∧CK Own H2 H'∧A' 0=.func (.yield lb) #[] #[]∧A' 2=.pointer (some ⟨p2,0,none⟩)∧A' 4=.pointer (some ⟨p4,0,none⟩)∧A' 6=.int .i64 (Qjb l w)∧A' 7=.int .u8 (QdW x.f l)∧A' 35=.slice va2 hd.length vc2∧A' 36=.int .i64 hd.length∧A' 37=.int .i64 i) hd.length ?_ ?_
 ·refine⟨0,L7 _,by omega,hR2,hc.ck hR2 hw2 (.refl _) hw2,?_,?_,?_,?_,?_,?_,?_,?_⟩
  all_goals simp only[Qg,simprocAttr,r0,r2,r4,r6,r7]
  all_goals rfl
 ·rintro m A' H' ⟨i,hi,rfl,hRi,hk3,r0,r2,r4,r6,r7,r35,r36,r37⟩;have hw3:=hk3.w;simp only[QaW,Qb,simprocAttr,r36,r37];refine Qf (λh2=>?_) (λh2=>?_)
  ·have h2:i<hd.length:=by have:=Lg h2;omega
   simp only[QaV,Qb,simprocAttr,r0,r2,r4,r6,r7,r35,r36,r37];obtain⟨ss,hsl,hgss,hgs⟩:=hv2.it;obtain⟨b,hb1,rfl,hgb⟩:∃b,H1.next<=b∧va2=some ⟨b,0,none⟩∧H2.get b=some (.cells ss 27 false):=by
    rcases hgss with⟨h,h',_⟩ | ⟨b,c,h,q1,q2,_⟩
    ·omega
    ·cases h;exact⟨b,q1,rfl,q2⟩
   have hno:∀id,H1.next<=id->¬Own H2 id:=λid h1 h2=>by have:=hc.low _ _ _ hR (hO2 _ h2);omega
   have hgb3:H'.get b=some (.cells ss 27 false):=by rw[hk3.keep _ (hw2.lt hgb) (hno _ hb1)];exact hgb
   obtain⟨sv,hsv⟩:∃sv,ss[i]? = some sv:=⟨_,La (by omega)⟩;obtain⟨hi0,hhi⟩:∃h0,hd[i]? = some h0:=⟨_,La h2⟩;have hs3:=(hgs i sv hi0 hsv hhi).ext (H':=H') λid hid=>hk3.keep id ((hgs i sv hi0 hsv hhi).low hw2 hid).2 (hno _ ((hgs i sv hi0 hsv hhi).low hw2 hid).1);have hil:=hde hi0 (Ln hhi);have d1:(0:Int)<=i∧(i:Int)<hd.length:=by omega
   have d3:(i:Int).toNat=i:=by omega
   have ei:IntKind.i64.wrap ((i:Int)+1)=((i+1:Nat):Int):=by rw[w64 (by unfold I64;omega)];omega
   obtain⟨ai,ci,rfl⟩:=hs3.slc;have hl3:hi0.length<UNK:=by unfold UNK;omega
   obtain⟨af,hfs,hff⟩:=QFh hs3 hl3;have hty:QDF prog 27 1=true:=by kernel_rfl
   have hP3:=hP2.ck (ho.sub hO2) hk3;simp only[Qb,simprocAttr,d1,d3,hgb3,hsv,Wj];rw[QzH (k1:=.i64) (k2:=.i64) (n:=(hi0.length:Int)) (u:=.slice ai hi0.length ci) hty (by simp only[Qg,simprocAttr]) (by simp only[Qg,simprocAttr]) (by simp only[Qg,simprocAttr]) hfs];simp only[Qb,simprocAttr,r7];have hx4:=(Ext.refl H').push (.cells [.int .u8 (QdW x.f l)] 5 false);have hw4:=hw3.push (.cells [.int .u8 (QdW x.f l)] 5 false);have hg4:=QsM H' (QdW x.f l);generalize H'.push _=H4 at *;refine Qvu (hff.go hw3 hx4) ⟨af,rfl⟩ hw4 hg4.src (ZJ _) (by decide) (by rw[Xd];rfl) (by omega) (by omega) hl3 ?_;rintro v5 H5 hg5 hx5 hw5 ⟨b5,rfl⟩;have g52:=hP3.g2;have hx35:=hx4.trans hx5;have h53:H5.get p2=some (.cells [.slice sa w.b.length sc,.int .i64 w.x,.int .i64 w.h] 120 false):=by rw[hx35.get _ (hw3.lt g52)];exact g52
   have hs5:=hP3.s.go hw3 hx35;simp only[Qb,simprocAttr,r2,h53];refine Zp hg5 hx5 hw5 hs5.src (ZJ _) (by rw[Xd,NH]) (by omega) (by omega) ?_;intro v6 H6 hg6 hk6;have hx36:=hx4.trans hk6.x;have g64:H6.get p4=some (.cells [tl] 27 false):=by rw[hx36.get _ (hw3.lt hP3.g4)];exact hP3.g4
   have ht6:=hP3.t.go hw3 hx36;simp only[Qb,simprocAttr,r4,g64];refine Zp hg6 hk6.x hk6.w ht6.src (ZJ _) (by rw[Xd,NH]) (by omega) (by omega) ?_;intro v7 H7 hg7 hk7;have hx37:=hx4.trans hk7.x;obtain⟨a7,c7,rfl⟩:=hg7.slc;have hi7:(Qge x.f l e w)[i]? = some ⟨hi0++[QdW x.f l]++w.b++e,0,Qjb l w⟩:=by unfold Qge;rw[LD,hhd,hhi];rfl
   obtain⟨hR7,hO7⟩:=hc.ext _ _ _ hRi hw3 hx37;simp only[Qb,simprocAttr,r0,r6,Qed];refine Qlu (hc.go _ _ H' H7 _ hi7 hR7 hRi hw3 ⟨_,rfl,?_⟩ (by have:=hk.next;have:=hk2.next;have:=hk3.next;omega) hx37 hO7) ?_
   ·have e1:(hi0++[QdW x.f l]++w.b++e).length=hi0.length+1+w.b.length+e.length:=by simp only[Lh,Lo,L9]
    have e2:bys (hi0++[QdW x.f l]++w.b++e)=bys hi0++bys [QdW x.f l]++bys w.b++bys e:=by rw[Je,Je,Je]
    show Gx 1 5 H' H7 _ (hi0++[QdW x.f l]++w.b++e).length (bys (hi0++[QdW x.f l]++w.b++e));rw[e1,e2];exact hg7.down hx4.next
   rintro _ H8 hn8 hw8 ⟨rfl,hR8,hk8⟩;simp only[Qb,simprocAttr,L8,r37,ei];refine⟨hd.length - (i+1),by omega,i+1,by omega,rfl,hR8,(hk3.trans (hc.ck hRi hw3 hx37 hk7.w)).trans hk8,?_,?_,?_,?_,?_,?_,?_,?_⟩
   all_goals simp only[Qg,simprocAttr,r0,r2,r4,r6,r7,r35,r36]
  ·have h2:i=hd.length:=by have:=Ll h2;omega
   subst h2;simp only[Qb,simprocAttr,Qjs];have hkk:=(hk.trans hk2).trans hk3;exact .mk hkk.next ⟨by unfold Qge;rw[Nn,hhd];exact hRi,hkk⟩
theorem QxR {base lb:Nat}{R:Nat->Qa->Prop}{l:List Ar}(hc:Cns base lb (Qge x.f l e w) LdV R Own)(hbase:base<=H.next)(hf:FOk x.f)(hx:x.At Hz)(ha:Qv Hz va l)(hwz:Hz.Wf)(hva:∀n,Hz.next<=n->Qh n 6 (.agg #[.int .i64 op,va])=true)(hl:l.length<=1000)(hn:x.f.slots.length=l.length)
  (hwx:0<=w.x∧w.x<2) (hwh:0<=w.h∧w.h<2) (hy:x.f.vex=true->(vxF x.f l w.x w.h).Ok) (hwl:w.b.length<=1000) (hel:e.length<=2000)
  (hP:PfF Hz Hs H x op va p1 p2 p3 p4 s tl w e) (ho:PfO (Own H) Hz p1 p2 p3 p4 s tl) (hR:R 0 H):
  Qe prog 252 [.func (.yield lb) #[] #[],.pointer (some ⟨p1,0,none⟩),.pointer (some ⟨p2,0,none⟩),.pointer (some ⟨p3,0,none⟩),.pointer (some ⟨p4,0,none⟩)] H λu H'=>R (Qge x.f l e w).length H'∧CK Own H H':=by
 refine Qkp λhw=>?_;obtain⟨hz,hw1,g1,g2,g3,g4,hs,ht⟩:=id hP;have e10:x.cells.take 10=x.cells:=rfl;have l10:10<=x.cells.length:=Lb _;have x5:x.cells[5]? = some (.int .i64 x.f.code):=rfl;obtain⟨sa,sc,rfl⟩:=hs.slc;obtain⟨a0,cap,rfl⟩:=Qu ha;simp only[Qc2,Qb,simprocAttr,g1,g2,g3,Lw,e10];refine⟨hw.lt g3,?_⟩;refine(QjN H (ha.ext hwz hz) hl hs hwl).thenW ?_;rintro _ H2 hn2 hw2 ⟨rfl,hx2⟩;obtain⟨hR2,hO2⟩:=hc.ext _ _ _ hR hw hx2;have hk2:=hc.ck hR hw hx2 hw2;have hP2:=hP.ck ho hk2;have ho2:=ho.sub hO2;obtain⟨hz2,_,g12,g22,g32,g42,hs2,ht2⟩:=id hP2;simp only[Qb,simprocAttr,g32,x5,Lw,e10];refine⟨hx2.eqB,by simp[Qh,Ab.plain],l10,?_⟩;refine(Wt x 4 H2 (hx.ext hwz hz2)).thenW ?_;rintro _ _ hn3 hw3 ⟨rfl,k,rfl⟩;have hx3:Ext H2 (H2.up k):=(Ext.refl H2).up hn3;obtain⟨hR3,hO3⟩:=hc.ext _ _ _ hR2 hw2 hx3;have hk3:=hc.ck hR2 hw2 hx3 hw3;have hP3:=hP2.ck ho2 hk3;have ho3:=ho2.sub hO3;obtain⟨hz3,_,g13,g23,g33,g43,hs3,ht3⟩:=id hP3;generalize H2.up k=H3 at *;have hlt:=QpL x.f.slots 4;have ec:QdW x.f l=if 0<=Qn x.f.slots 4 then IntKind.u8.wrap (IntKind.u8.wrap x.f.code+IntKind.u8.wrap (Wg (l[(Qn x.f.slots 4).toNat]?.getD Wc).r)) else IntKind.u8.wrap x.f.code:=rfl
 simp only[Qb,simprocAttr];refine Qf (λh=>?_) (λh=>?_)
 ·have h0:0<=Qn x.f.slots 4:=Lg h;rw[Lc h0]at ec;obtain⟨j,hj⟩:∃j:Nat,Qn x.f.slots 4=j:=⟨(Qn x.f.slots 4).toNat,by omega⟩;rw[hj]at hlt ec ⊢;obtain⟨c,haj⟩:∃c,l[j]? = some c:=⟨_,La (by omega)⟩;have hgj:l[(j:Int).toNat]?.getD Wc=c:=by rw[show(j:Int).toNat=j by omega,haj];rfl
  rw[hgj]at ec;obtain⟨b,e',ro,eqa,hgb0⟩:=(show 0<l.length->∃b e' ro,a0=some ⟨b,0,none⟩∧Hz.get b=some (.cells (Qi l) e' ro) by obtain⟨_,_,e0,h1⟩:=ha;cases e0;exact h1) (by omega);subst eqa;have hgb:H3.get b=some (.cells (Qi l) e' ro):=by rw[hz3.get b (hwz.lt hgb0)];exact hgb0
  have d1:(0:Int)<=j∧(j:Int)<l.length:=by omega
  have d3:(j:Int).toNat=j:=by omega
  have hrg:=QeU haj;have hle:j * 11+1+2<=(Qi l).length:=by rw[QJ];omega
  have q:=QcB c.r;simp only[Rg.cells]at q;simp only[Qb,simprocAttr,g13,d1,d3,hgb,hrg];refine⟨hle,?_⟩;refine(q H3).thenW ?_;rintro _ _ hn4 hw4 ⟨rfl,k4,rfl⟩;have hx4:Ext H3 (H3.up k4):=(Ext.refl H3).up hn4;obtain⟨hR4,hO4⟩:=hc.ext _ _ _ hR3 hw3 hx4;have hk4:=hc.ck hR3 hw3 hx4 hw4;simp only[Qb,simprocAttr];refine QI6 hc hbase hf hx ha hwz hva hl hn hwx hwh hy hwl hel (hP3.ck ho3 hk4) (ho3.sub hO4) hR4 ((hk2.trans hk3).trans hk4) ?_ ?_ ?_ ?_ ?_ ?_ ?_
  all_goals simp only[Qg,simprocAttr]
  rw[ec]
 ·rw[Le (by have:=Ll h;omega)]at ec;simp only[Qb,simprocAttr];refine QI6 hc hbase hf hx ha hwz hva hl hn hwx hwh hy hwl hel hP3 ho3 hR3 (hk2.trans hk3) ?_ ?_ ?_ ?_ ?_ ?_ ?_
  all_goals simp only[Qg,simprocAttr]
  rw[ec]
end
theorem Qgf:∀ (ss:List Value) (ws:List Ld) (i:Nat) (s:Value) (w:Ld),ss[i]? = some s->ws[i]? = some w->((ldC ss ws).drop (i * 3)).take 3=[s,.int .i64 w.x,.int .i64 w.h]
 | [],_,_,_,_,h,_=>by simp at h
 | _::_,[],_,_,_,_,h=>by simp at h
 | s::ss,w::ws,0,_,_,h1,h2=>by cases h1;cases h2;rfl
 | s::ss,w::ws,i+1,s',w',h1,h2=>by
  have e:ldC (s::ss) (w::ws)=[s,.int .i64 w.x,.int .i64 w.h]++ldC ss ws:=rfl;rw[e,show(i+1) * 3=3+i * 3 by omega,<- Rc];exact Qgf ss ws i s' w' h1 h2
structure QFD (base lb:Nat) (items:List Ld) (Hz:Qa) (x:Lf) (op:Int) (va:Value) (e:List Int) (R:Nat->Qa->Prop) (Own:Qa->Nat->Prop):Prop where
 ext:∀j H H',R j H->H.Wf->Ext H H'->R j H'∧∀id,Own H' id->Own H id
 low:∀j H id,R j H->Own H id->id<H.next
 go:∀j w H Hs p1 p2 p3 p4 s tl,items[j]? = some w->R j H->PfF Hz Hs H x op va p1 p2 p3 p4 s tl w e->PfO (Own H) Hz p1 p2 p3 p4 s tl->base<=H.next->YQ prog lb [.func (.func 252) #[] #[.pointer (some ⟨p1,0,none⟩),.pointer (some ⟨p2,0,none⟩),.pointer (some ⟨p3,0,none⟩),.pointer (some ⟨p4,0,none⟩)]] H λu H'=>u=.bool true∧R (j+1) H'∧CK Own H H'
theorem QFD.ck {base lb:Nat}{items:List Ld}{Hz:Qa}{x:Lf}{op:Int}{va:Value}{e:List Int}{R:Nat->Qa->Prop}{Own:Qa->Nat->Prop}(h:QFD base lb items Hz x op va e R Own){j:Nat}{H H':Qa}(hR:R j H)(hw:H.Wf)(hx:Ext H H')(hw':H'.Wf):CK Own H H':=
 ⟨hx.next,hw',λid hid _=>hx.get id hid,λid hid=>.inl ((h.ext j H H' hR hw hx).2 id hid)⟩
theorem Q7.keep2 {e:TypeId}{H0 H H':Qa}{v:Value}{ws:List Ld}(h:Q7 e H0 H v ws)(hw:H.Wf)(hk:∀id,H0.next<=id->id<H.next->H'.get id=H.get id):Q7 e H0 H' v ws:=by
 obtain⟨ss,h1,h2,h3⟩:=h.it;exact⟨ss,h1,h2.ext λid hi=>hk id (h2.low hw hi).1 (h2.low hw hi).2,λj s w hs hw'=>(h3 j s w hs hw').ext λid hi=>hk id ((h3 j s w hs hw').low hw hi).1 ((h3 j s w hs hw').low hw hi).2⟩
theorem QFE {base lb pf pi:Nat}{x:Lf}{op:Int}{va:Value}{l:List Ar}{Hz H:Qa}{R:Nat->Qa->Prop}{Own:Qa->Nat->Prop}(hc:QFD base lb (W0 x.f l) Hz x op va (Qax x.f op l) R Own)(hbase:base<=H.next)(hx:x.At Hz)(hf0:x.Fr 0)(ha:Qv Hz va l)(hwz:Hz.Wf)(hva:∀n,Hz.next<=n->Qh n 6 (.agg #[.int .i64 op,va])=true)(hl:l.length<=1000)(hI:∀a∈l,I64 a.n)(hn:x.f.slots.length=l.length)(hpl:(W0 x.f l).length<=1000)
  (hz:Ext Hz H) (hzo:∀id,id<Hz.next->¬Own H id) (gf:H.get pf=some (.cells x.cells 45 false)) (gi:H.get pi=some (.cells [.int .i64 op,va] 24 false)) (of:¬Own H pf) (oi:¬Own H pi) (hR:R 0 H):
  Qe prog 112 [.func (.yield lb) #[] #[],.pointer (some ⟨pf,0,none⟩),.pointer (some ⟨pi,0,none⟩)] H λu H'=>R (W0 x.f l).length H'∧CK Own H H':=by
 refine Qpx λhw=>?_;have e10:x.cells.take 10=x.cells:=rfl;have l10:10<=x.cells.length:=Lb _;obtain⟨a0,cap,rfl⟩:=Qu ha;simp only[QgT,Qb,simprocAttr,gf,gi,Lw,e10];refine⟨l10,?_⟩;refine(QtX H (hx.ext hwz hz) hf0 (ha.ext hwz hz) hl hI hn).thenW ?_;rintro tl H2 hn2 hw2 ⟨ht2,hx2⟩;obtain⟨at2,ct2,rfl⟩:=ht2.slc;have gf2:H2.get pf=some (.cells x.cells 45 false):=by rw[hx2.get _ (hw.lt gf)];exact gf
 have gi2:H2.get pi=some (.cells [.int .i64 op,.slice a0 l.length cap] 24 false):=by rw[hx2.get _ (hw.lt gi)];exact gi
 have hz2:=hz.trans hx2;simp only[Qb,simprocAttr,gf2,gi2,Lw,e10];refine⟨l10,?_⟩;refine(Qre H2 (hx.ext hwz hz2) (ha.ext hwz hz2) hl hn).thenW ?_;rintro v3 H3 hn3 hw3 ⟨hv3,hx23⟩;have hx3:=hx2.trans hx23;have ht3:=ht2.go hw2 hx23;obtain⟨hR3,hO3⟩:=hc.ext _ _ _ hR hw hx3;have hk3:=hc.ck hR hw hx3 hw3;have hv3:=hv3.down hx2.next;have hnew:∀id,H.next<=id->¬Own H3 id:=λid h1 h2=>by have:=hc.low _ _ _ hR (hO3 _ h2);omega
 obtain⟨va3,vc3,rfl⟩:=hv3.slc;have hz3:=hz.trans hx3;have gf3:H3.get pf=some (.cells x.cells 45 false):=by rw[hx3.get _ (hw.lt gf)];exact gf
 have gi3:H3.get pi=some (.cells [.int .i64 op,.slice a0 l.length cap] 24 false):=by rw[hx3.get _ (hw.lt gi)];exact gi
 generalize hpp:W0 x.f l=W at *;simp only[Qb,simprocAttr,Wj];refine Qo (λm A' H'=>∃i:Nat,i<=W.length∧m=W.length - i∧R i H'∧CK Own H3 H'∧A' 0=.func (.yield lb) #[] #[]∧A' 1=.pointer (some ⟨pf,0,none⟩)∧A' 2=.pointer (some ⟨pi,0,none⟩)∧A' 4=.slice at2 (Qax x.f op l).length ct2∧A' 12=.slice va3 W.length vc3∧A' 13=.int .i64 W.length∧A' 14=.int .i64 i) W.length ?_ ?_
 ·refine⟨0,L7 _,by omega,hR3,hc.ck hR3 hw3 (.refl _) hw3,?_,?_,?_,?_,?_,?_,?_⟩
  all_goals simp only[Qg,simprocAttr]
  all_goals rfl
 ·rintro m A' H' ⟨i,hi,rfl,hRi,hk4,r0,r1,r2,r4,r12,r13,r14⟩;have hw4:=hk4.w;simp only[Qb,simprocAttr,r13,r14];refine Qf (λh2=>?_) (λh2=>?_)
  ·have h2:i<W.length:=by have:=Lg h2;omega
   obtain⟨ss,hsl,hgss,hgs⟩:=hv3.it;obtain⟨b,hb1,rfl,hgb⟩:∃b,H.next<=b∧va3=some ⟨b,0,none⟩∧H3.get b=some (.cells (ldC ss W) 120 false):=by
    rcases hgss with⟨h,h',_⟩ | ⟨b,c,h,q1,q2,_⟩
    ·omega
    ·cases h;exact⟨b,q1,rfl,q2⟩
   have hgb3:H'.get b=some (.cells (ldC ss W) 120 false):=by rw[hk4.keep _ (hw3.lt hgb) (hnew _ hb1)];exact hgb
   obtain⟨sv,hsv⟩:∃sv,ss[i]? = some sv:=⟨_,La (by omega)⟩;obtain⟨w,hwi⟩:∃w,W[i]? = some w:=⟨_,La h2⟩;have hs3:=hgs i sv w hsv hwi;have hs4:=hs3.ext (H':=H') λid hid=>hk4.keep id (hs3.low hw3 hid).2 (hnew _ (hs3.low hw3 hid).1);have ht4:=ht3.ext (H':=H') λid hid=>hk4.keep id (ht3.low hw3 hid).2 (hnew _ (ht3.low hw3 hid).1);have hat:=Qgf ss W i sv w hsv hwi;have hll:(ldC ss W).length=W.length * 3:=by rw[Qf0 _ _ hsl]
   have d1:(0:Int)<=i∧(i:Int)<W.length:=by omega
   have d3:(i:Int).toNat=i:=by omega
   have ei:IntKind.i64.wrap ((i:Int)+1)=((i+1:Nat):Int):=by rw[w64 (by unfold I64;omega)];omega
   have gf4:H'.get pf=some (.cells x.cells 45 false):=by rw[hk4.keep _ (hw3.lt gf3) (λh=>of (hO3 _ h))];exact gf3
   have gi4:H'.get pi=some (.cells [.int .i64 op,.slice a0 l.length cap] 24 false):=by rw[hk4.keep _ (hw3.lt gi3) (λh=>oi (hO3 _ h))];exact gi3
   obtain⟨ai,ci,rfl⟩:=hs4.slc;have lf:=hw4.lt gf4;have li:=hw4.lt gi4;have nf:¬pf=H'.next:=by omega
   have ni:¬pi=H'.next:=by omega
   simp only[Qb,simprocAttr,r0,r1,r2,r4,r12,r13,r14,d1,d3,hgb3,hat,nf,ni,LN,gf4,gi4,Lw,e10];refine⟨by omega,l10,?_⟩;generalize hH5:(H'.push _).set H'.next _=H5;have hx5:Ext H' H5:=by rw[<- hH5];exact((Ext.refl H').push _).set (Lb _) _
   have hw5:H5.Wf:=by rw[<- hH5];exact(hw4.push _).set (b0:=.cells [.slice none 0 0,.int .i64 0,.int .i64 0] 120 false) (by rw[Qd,Lc rfl]) _
   clear hH5;refine(QoZ H5 rfl rfl).thenW ?_;rintro _ H6 hn6 hw6 ⟨rfl,hx56,hn56,g6f,g6i,g6l,g6t⟩;have hx6:=hx5.trans hx56;obtain⟨hR6,hO6⟩:=hc.ext _ _ _ hRi hw4 hx6;have hk6:=(hk4.trans (hc.ck hRi hw4 hx6 hw6));have hno6:∀id,H'.next<=id->¬Own H6 id:=λid h1 h2=>by have:=hc.low _ _ _ hRi (hO6 _ h2);omega
   have hnew6:∀id,H.next<=id->id<H3.next->¬Own H6 id:=λid h1 h2 h3=>by
    rcases hk6.own id h3 with h4 | h4
    ·exact hnew id h1 h4
    ·omega
   have hz6:Ext Hz H6:=⟨by have:=hz3.next;have:=hk6.next;omega,λid hid=>by rw[hk6.keep id (by have:=hz3.next;omega) (λh=>hzo id hid (hO3 _ h))];exact hz3.get id hid⟩;have hP:PfF Hz H H6 x op (.slice a0 l.length cap) (H5.next+1) (H5.next+2) H5.next (H5.next+3) (.slice ai w.b.length ci) (.slice at2 (Qax x.f op l).length ct2) w (Qax x.f op l):=⟨hz6,hw6,g6i,g6l,g6f,g6t,hs4.go hw4 hx6,ht4.go hw4 hx6⟩;have hn5:=hx5.next;have ho:PfO (Own H6) Hz (H5.next+1) (H5.next+2) H5.next (H5.next+3) (.slice ai w.b.length ci) (.slice at2 (Qax x.f op l).length ct2):=
    ⟨λid hid h=>by
     rcases hk6.own id h with h4 | h4
     ·exact hzo id hid (hO3 _ h4)
     ·have:=hz3.next;omega,
    hno6 _ (by omega),hno6 _ (by omega),hno6 _ (by omega),hno6 _ (by omega),λid hid=>hnew6 id (hs3.low hw3 hid).1 (hs3.low hw3 hid).2,λid hid=>hnew6 id (ht3.low hw3 hid).1 (ht3.low hw3 hid).2⟩
   simp only[Qb,simprocAttr,r0,Qed];refine Qlu (hc.go i w H6 H _ _ _ _ _ _ hwi hR6 hP ho (by have:=hk3.next;have:=hk6.next;omega)) ?_;rintro _ H7 hn7 hw7 ⟨rfl,hR7,hk7⟩;simp only[Qb,simprocAttr,L8,r14,ei];refine⟨W.length - (i+1),by omega,i+1,by omega,rfl,hR7,hk6.trans hk7,?_,?_,?_,?_,?_,?_,?_⟩
   all_goals simp only[Qg,simprocAttr,r0,r1,r2,r4,r12,r13]
  ·have h2:i=W.length:=by have:=Ll h2;omega
   subst h2;simp only[Qb,simprocAttr,Qn3];have hkk:=hk3.trans hk4;exact .mk hkk.next ⟨hRi,hkk⟩
theorem Gx.keepS {size:Nat}{e:TypeId}{H0 H H':Qa}{v:Value}{n:Nat}{cs:List Value}(h:Gx size e H0 H v n cs)(hk:∀id,H.get id≠none->H'.get id=H.get id):Gx size e H0 H' v n cs:=by
 rcases h with h | ⟨b,c,rfl,h2,h3,h4⟩
 ·exact .inl h
 ·exact .inr ⟨b,c,rfl,h2,by rw[hk b (by rw[h3];simp)];exact h3,h4⟩
theorem Q7.keepS {e:TypeId}{H0 H H':Qa}{v:Value}{ws:List Ld}(h:Q7 e H0 H v ws)(hk:∀id,H.get id≠none->H'.get id=H.get id):Q7 e H0 H' v ws:=by
 obtain⟨ss,h1,h2,h3⟩:=h.it;exact⟨ss,h1,h2.keepS hk,λj s w hs hw'=>(h3 j s w hs hw').keepS hk⟩
theorem Gx.keep2 {size:Nat}{e:TypeId}{H0 H H':Qa}{v:Value}{n:Nat}{cs:List Value}(h:Gx size e H0 H v n cs)(hw:H.Wf)(hk:∀id,H0.next<=id->id<H.next->H'.get id=H.get id):Gx size e H0 H' v n cs:=h.ext λid hi=>hk id (h.low hw hi).1 (h.low hw hi).2
theorem QuJ {H1 H2:Qa}(hw:H1.Wf)(hx:Ext H1 H2)(l:Nat)(id:Nat)(hid:(H1.kill l).get id≠none):(H2.kill l).get id=(H1.kill l).get id:=by
 rw[WS]at hid;rw[WS,WS]
 by_cases he:id=l
 ·rw[Lc he,Lc he]
 ·rw[Le he]at hid;rw[Le he,Le he];refine hx.get id ?_;rcases Nq id H1.next with h | h
  ·exact h
  ·exact absurd (hw id h) hid
def QHB:PC:=.ops [Ow 8 (.alloc 41 [.slice none 0 0,.int .i64 0,.int .i64 0]),Ov (.st 3 (t 8) (t 18))]
def QHC:PC:=.block 3 (.ops [Ow 19 (.ld false 1 (t 6)),Ow 20 (.ld true 3 (t 8)),Ow 21 (.bslice 41 3 1 [.slice none 0 0,.int .i64 0,.int .i64 0] [(0,(t 20))]),Ow 22 (.app 41 3 40 (t 19) (t 21)),Ov (.st 1 (t 6) (t 22))])
def lyR (Hb:Qa)(c m lB:Nat)(eC:TypeId)(bl:Blk)(W:List Ld)(j:Nat)(H':Qa):Prop:=
 H'.get lB=some bl∧lB<H'.next∧Hb.next<=H'.next∧(∀id,id<Hb.next->id≠c->id≠m->H'.get id=Hb.get id)∧∃v,H'.get c=some (.cells [v] eC false)∧LsU 41 Hb (H'.kill lB) v (W.take j) H'.next∧∀id,inB v id->id<H'.next∧Hb.next<=id∧id≠lB
section
variable {Hb:Qa} {c m lB:Nat} {eC:TypeId} {bl:Blk} {W:List Ld}
theorem QAR (hc:c<Hb.next){j:Nat}{H1 H2:Qa}(h:lyR Hb c m lB eC bl W j H1)(hw:H1.Wf)(hx:Ext H1 H2):lyR Hb c m lB eC bl W j H2∧∀id,clO c lB eC H2 id->clO c lB eC H1 id:=by
 obtain⟨h1,hl,h2,h3,v,h5,h6,h7⟩:=h;have hn:=hx.next;have e5:=hx.get c (by omega);refine⟨⟨by rw[hx.get lB hl];exact h1,by omega,by omega,λid a b d=>by rw[hx.get id (by omega)];exact h3 id a b d,v,by rw[e5];exact h5,(h6.of λg=>g.keepS (QuJ hw hx lB)).mono hn,λid hi=>?_⟩,λid hi=>?_⟩
 ·have:=h7 id hi;exact⟨by omega,this.2⟩
 ·rcases hi with h | h | ⟨v',h,hi⟩
  ·exact .inl h
  ·exact .inr (.inl h)
  ·exact .inr (.inr ⟨v',by rw[<- e5];exact h,hi⟩)
theorem QAS (hc:c<Hb.next){j:Nat}{H1:Qa}(h:lyR Hb c m lB eC bl W j H1){id:Nat}(hi:clO c lB eC H1 id):id<H1.next:=by
 obtain⟨h1,hl,h2,h3,v,h5,h6,h7⟩:=h;rcases hi with rfl | rfl | ⟨v',h,hi⟩
 ·omega
 ·omega
 ·rw[h5]at h;cases h;exact(h7 id hi).1
theorem QHD {L:Option Code->Blk}{A:Env}(hc:c<Hb.next)(hcl:c≠lB)(hml:m=lB∨Hb.next<=lB)(hW:W.length<=1000)(hY:YR prog L [18] QHB QHC A)(r6:A 6=.pointer (some ⟨c,0,none⟩)){n0 base:Nat}{items:List Ld}(hb:Hb.next<=base)(hlb:lB<base)(hit:∀ (i:Nat) w,items[i]? = some w->W[n0+i]? = some w):
  Cns base lB items LdV (λi=>lyR Hb c m lB eC (L none) W (n0+i)) (clO c lB eC):=by
 refine⟨λj Ha Hc h hwa hx=>QAR hc h hwa hx,λj Ha id h hi=>QAS hc h hi,?_⟩;rintro j w H0' H1' v0 hj hR hR0 hw0' ⟨s,rfl,hs⟩ hb0 hx0 hO hw1';obtain⟨h1,hl,h2,h3,v,h5,_,h7⟩:=hR;have h6:LsU 41 Hb (H1'.kill lB) v (W.take (n0+j)) H0'.next:=by
  obtain⟨_,_,h2,_,v',h5',h6,_⟩:=hR0;rw[hx0.get c (by omega),h5']at h5;cases h5;exact h6.of λg=>g.keepS (QuJ hw0' hx0 lB)
 refine hY lB _ H1' _ h1 rfl ?_ hw1';have hj':=hit j w hj;have hjl:=(Lk.1 hj').1;have kk:∀id,id≠lB->(H1'.kill lB).get id=H1'.get id:=λid hid=>by rw[WS,Le hid]
 have kn:(H1'.kill lB).get lB=none:=by rw[WS,Lc rfl]
 have hnk:(H1'.kill lB).next=H1'.next:=rfl;have hwk:(H1'.kill lB).Wf:=hw1'.kill _;have k5:=(kk c hcl).trans h5;have ks:Gx 1 5 Hb (H1'.kill lB) s w.b.length (bys w.b):=(hs.down (H0:=Hb) (by omega)).ext λid hid=>kk id (by have:=hs.low hw1' hid;omega);have k3:∀id,id<Hb.next->id≠c->id≠m->id≠lB->(H1'.kill lB).get id=Hb.get id:=λid a b d e=>(kk id e).trans (h3 id a b d);generalize hHk:H1'.kill lB=Hk at *;obtain⟨a,cp,rfl⟩:=ks.slc;obtain⟨av,cv,rfl⟩:=h6.ls.slc;have nz:¬c=Hk.next:=by omega
 simp only[QHB,QHC,QmI,Qpp,Qb,simprocAttr,nz,LN,k5,r6];generalize hH5:Qa.push (Qa.set (Qa.push Hk _) _ _) _=H5;have hx5:Ext Hk H5:=by rw[<- hH5];exact(((Ext.refl Hk).push _).set (Lb _) _).push _
 have hw5:H5.Wf:=by rw[<- hH5];exact((hwk.push _).set (b0:=.cells [.slice none 0 0,.int .i64 0,.int .i64 0] 41 false) (by rw[Qd,Lc rfl]) _).push _
 have g5:H5.get (Hk.next+1)=some (.cells [.slice a w.b.length cp,.int .i64 w.x,.int .i64 w.h] 41 false):=by rw[<- hH5,Qd,Lc (by rw[Qt,Qc])]
 have hn5:H5.next=Hk.next+2:=by rw[<- hH5,Qc,Qt,Qc]
 clear hH5;have hsrc:J4 3 (.slice (some ⟨Hk.next+1,0,none⟩) 1 1) H5=some (1,[.slice a w.b.length cp,.int .i64 w.x,.int .i64 w.h]):=by
  rw[JI g5 (by decide) (by simp)];rfl
 have hlt:(W.take (n0+j)).length<=1000:=by rw[Sb];omega
 obtain⟨Hz,hxz,hnz⟩:∃Hz:Qa,Ext Hz H5∧Hz.next=Hb.next:=⟨⟨Hb.next,H5.tr⟩,⟨by show Hb.next<=H5.next;omega,λid _=>rfl⟩,rfl⟩;have hlz:LsU 41 Hz H5 (.slice av (W.take (n0+j)).length cv) (W.take (n0+j)) H0'.next:=(h6.go hwk hx5).down (by omega);have hsz:Gx 1 5 Hz H5 (.slice a w.b.length cp) w.b.length (bys w.b):=(ks.go hwk hx5).down (by omega);refine QAN (by decide) hlz (U':=Hk.next) (by have:=hx0.next;omega) (λa ha=>by have:=hs.low hw1' ha;omega) hxz hw5 hsz hsrc (by omega) (by omega) ?_;intro v' H6 hl6 hk6;obtain⟨a',c',rfl⟩:=hl6.ls.slc;have htk:W.take (n0+(j+1))=W.take (n0+j)++[w]:=by rw[<- Rh,Nv,hj'];rfl
 rw[<- htk]at hl6 hk6 ⊢;have h65:∀id,id<Hb.next->H6.get id=H5.get id:=λid hid=>(hk6.x.get id (by omega)).trans (hxz.get id (by omega)).symm;have k6c:H6.get c=some (.cells [.slice av (W.take (n0+j)).length cv] eC false):=by rw[h65 _ hc,hx5.get _ (by omega)];exact k5
 have hnk6:=hk6.next;have k6n:H6.get lB=none:=by
  rw[hk6.keep lB (by omega) (λh=>(h7 lB h).2.2 rfl),hx5.get _ (by omega)];exact kn
 simp only[Qb,simprocAttr,QmH,r6,k6c];refine⟨by omega,⟨by rw[Qq,Lc rfl],by rw[Qt,Qt];omega,by rw[Qt,Qt];omega,λid p q r=>?_,.slice a' (W.take (n0+(j+1))).length c',?_,?_,λid hi=>?_⟩,⟨by rw[Qt,Qt];omega,?_,λid p q=>?_,λid hi=>?_⟩⟩
 ·have hlb:id≠lB:=by rcases hml with h | h;rw[<- h];exact r;omega
  rw[Qq,Le hlb,Qq,Le q,h65 _ p,hx5.get _ (by omega)];exact k3 id p q r hlb
 ·rw[Qq,Le hcl,Qq,Lc rfl]
 ·refine((hl6.down (H0:=Hb) (by omega)).of λg=>g.keep2 hk6.w λid hid hid2=>?_).mono (by rw[Qt,Qt];have:=hx5.next;omega);rw[WS]
  by_cases he:id=lB
  ·rw[Lc he,he,k6n]
  ·rw[Le he,Qq,Le he,Qq,Le (by omega)]
 ·obtain⟨ss,_,hg,_⟩:=hl6.it;have:=hg.low hk6.w hi;rw[Qt,Qt];refine⟨this.2,by omega,λhe=>?_⟩;rcases hk6.new id hi with h | h
  ·exact(h7 id h).2.2 he
  ·omega
 ·intro id hid;rw[Qt,Qt]at hid;rw[Qq,Le (by omega),Qq,Le (by omega)];exact hk6.w id hid
 ·have q1:id≠c:=λh=>q (.inl h);have q2:id≠lB:=λh=>q (.inr (.inl h));have q3:¬inB (.slice av (W.take (n0+j)).length cv) id:=λh=>q (.inr (.inr ⟨_,h5,h⟩));rw[Qq,Le q2,Qq,Le q1,hk6.keep id (by omega) q3,hx5.get _ (by omega),kk id q2]
 ·rcases hi with h | h | ⟨v'',h,hi⟩
  ·exact .inl (.inl h)
  ·exact .inl (.inr (.inl h))
  ·rw[Qq,Le hcl,Qq,Lc rfl]at h;cases h;rcases hk6.new id hi with h | h
   ·exact .inl (.inr (.inr ⟨_,h5,h⟩))
   ·exact .inr (by omega)
end
def QJa:PC:=.ops [Om 7 (t 16)]
def QJb:PC:=.block 1 (.seq (.ops [Om 17 (t 7)]) (.block 2 (.rangeF (t 17) [18] QHB QHC)))
def QxT (f:Ld->List Ld)(P:List Ld)(j:Nat):Nat:=((P.take j).flatMap f).length
theorem QHE {f:Ld->List Ld}{P:List Ld}{j:Nat}{w:Ld}(h:P[j]? = some w):QxT f P (j+1)=QxT f P j+(f w).length∧∀ (i:Nat) y,(f w)[i]? = some y->(P.flatMap f)[QxT f P j+i]? = some y:=by
 have h1:P.take (j+1)=P.take j++[w]:=by rw[Nv,h];rfl
 refine⟨by unfold QxT;rw[h1,Bm,Lh];simp,λi y hy=>?_⟩;have hj:=(Lk.1 h).1;have h2:P.flatMap f=(P.take j).flatMap f++(f w++(P.drop (j+1)).flatMap f):=by
  conv=>lhs;rw[<- NW (j+1) P]
  rw[Bm,h1,Bm];simp
 have hi:=(Lk.1 hy).1;rw[h2];unfold QxT;rw[LR (Ro _ _),NL,LY hi];exact hy
section
variable {Hb:Qa} {c m:Nat} {eC:TypeId}
theorem QHF {L:Option Code->Blk}{A:Env}{x:Lf}{op:Int}{va:Value}{l:List Ar}{e:List Int}{Hz:Qa}{P:List Ld}(hc:c<Hb.next)(hm:m<Hb.next)(hcm:c≠m)(hW:(P.flatMap (Qge x.f l e)).length<=1000)(hY:YR prog L [16] QJa QJb A)(r6:A 6=.pointer (some ⟨c,0,none⟩))
  (hf:FOk x.f) (hx:x.At Hz) (ha:Qv Hz va l) (hwz:Hz.Wf) (hva:∀n,Hz.next<=n->Qh n 6 (.agg #[.int .i64 op,va])=true) (hl:l.length<=1000) (hn:x.f.slots.length=l.length) (hel:e.length<=2000)
  (hP:∀w∈P,(0<=w.x∧w.x<2)∧(0<=w.h∧w.h<2)∧(x.f.vex=true->(vxF x.f l w.x w.h).Ok)∧w.b.length<=1000):
  QFD Hb.next m P Hz x op va e (λj=>lyR Hb c m m eC (L none) (P.flatMap (Qge x.f l e)) (QxT (Qge x.f l e) P j)) (clO c m eC):=by
 refine⟨λj Ha Hc h hwa hx=>QAR hc h hwa hx,λj Ha id h hi=>QAS hc h hi,?_⟩;rintro j w H Hs p1 p2 p3 p4 s tl hj hR hF hO hbase;obtain⟨h1,hl1,h2,h3,v,h5,h6,h7⟩:=id hR;intro hw0;refine hY m _ H _ h1 rfl ?_ hw0;have om:clO c m eC H m:=.inr (.inl rfl);have kk:∀id,id≠m->(H.kill m).get id=H.get id:=λid hid=>by rw[WS,Le hid]
 have kn:(H.kill m).get m=none:=by rw[WS,Lc rfl]
 have hnk:(H.kill m).next=H.next:=rfl;have hwk:(H.kill m).Wf:=hF.wf.kill _;generalize H.kill m=Hk at *;simp only[QJa,QJb,QmI,Qpp,KG,simprocAttr,Qg,simprocAttr,QhS];rw[Qr7 252 [] [.pointer (some ⟨p1,0,none⟩),.pointer (some ⟨p2,0,none⟩),.pointer (some ⟨p3,0,none⟩),.pointer (some ⟨p4,0,none⟩)]];intro L2 hY2;refine⟨by kernel_rfl,?_⟩;have hxi:Ext Hk (Hk.push (L2 none)):=(Ext.refl Hk).push _;have hni:(Hk.push (L2 none)).next=H.next+1:=by rw[Qc,hnk]
 have gi:(Hk.push (L2 none)).get Hk.next=some (L2 none):=by rw[Qd,Lc rfl]
 have hwi:=hwk.push (L2 none);generalize Hk.push (L2 none)=Hi at *;have ki:∀id,id≠m->id<H.next->Hi.get id=H.get id:=λid h1 h2=>by rw[hxi.get id (by omega),kk id h1]
 have gic:Hi.get c=some (.cells [v] eC false):=by rw[ki c hcm (by omega)];exact h5
 have nown:∀id,id<H.next->¬clO c m eC H id->¬clO c Hk.next eC Hi id:=λid q1 q2 q3=>by
  rcases q3 with q | q | ⟨v',q,q'⟩
  ·exact q2 (.inl q)
  ·omega
  ·rw[gic]at q;cases q;exact q2 (.inr (.inr ⟨_,h5,q'⟩))
 have ne:∀ {id},¬clO c m eC H id->id≠m:=λq h=>q (h▸om);have hFi:PfF Hz Hs Hi x op va p1 p2 p3 p4 s tl w e:=
  ⟨⟨by have:=hF.z.next;omega,λid hid=>by rw[ki id (ne (hO.z id hid)) (by have:=hF.z.next;omega)];exact hF.z.get id hid⟩,hwi,by rw[ki _ (ne hO.o1) (hF.wf.lt hF.g1)];exact hF.g1,by rw[ki _ (ne hO.o2) (hF.wf.lt hF.g2)];exact hF.g2,by rw[ki _ (ne hO.o3) (hF.wf.lt hF.g3)];exact hF.g3,by rw[ki _ (ne hO.o4) (hF.wf.lt hF.g4)];exact hF.g4,
   hF.s.ext λid hi=>ki id (ne (hO.s id hi)) (hF.s.low hF.wf hi).2,hF.t.ext λid hi=>ki id (ne (hO.t id hi)) (hF.t.low hF.wf hi).2⟩
 have hOi:PfO (clO c Hk.next eC Hi) Hz p1 p2 p3 p4 s tl:=⟨λid q=>nown id (by have:=hF.z.next;omega) (hO.z id q),nown _ (hF.wf.lt hF.g1) hO.o1,nown _ (hF.wf.lt hF.g2) hO.o2,nown _ (hF.wf.lt hF.g3) hO.o3,nown _ (hF.wf.lt hF.g4) hO.o4,λid q=>nown id (hF.s.low hF.wf q).2 (hO.s id q),λid q=>nown id (hF.t.low hF.wf q).2 (hO.t id q)⟩;obtain⟨hc1,hc2⟩:=QHE (f:=Qge x.f l e) hj;obtain⟨hwx,hwh,hwv,hwl⟩:=hP w (Ln hj);generalize hWW:P.flatMap (Qge x.f l e)=W at *;have hcns:=QHD (Hb:=Hb) (c:=c) (m:=m) (lB:=Hk.next) (eC:=eC) (W:=W) (base:=Hi.next) hc (by omega) (.inr (by omega)) hW hY2 (by simp only[Qg,simprocAttr,r6]) (by omega) (by omega) hc2;refine(QxR hcns (Lb _) hf hx ha hwz hva hl hn hwx hwh hwv hwl hel hFi hOi ?_).thenW ?_
 ·refine⟨gi,by omega,by omega,λid a b d=>by rw[ki id d (by omega)];exact h3 id a b d,v,gic,(h6.of λg=>g.keepS λid hid=>?_).mono (by omega),λid hi=>?_⟩
  ·have hlt:id<Hk.next:=Nat.lt_of_not_le λh=>hid (hwk id h);rw[WS,Le (by omega)];exact hxi.get id hlt
  ·have:=h7 id hi;exact⟨by omega,this.2.1,by omega⟩
 ·rintro u H2 hn2 hw2 ⟨hR2,hk2⟩;rw[<- hc1]at hR2;obtain⟨q1,q2,q3,q4,v',q5,q6,q7⟩:=id hR2;refine⟨none,q1,?_⟩;have hm2:H2.get m=none:=by
   rw[hk2.keep m (by omega) ?_,hxi.get m (by omega)]
   ·exact kn
   ·rintro(h | h | ⟨v'',h,h'⟩)
    ·exact hcm h.symm
    ·omega
    ·rw[gic]at h;cases h;have:=h7 m h';omega
  have gf:∀id,id≠m->id≠Hk.next->((H2.kill Hk.next).set m (L none)).get id=H2.get id:=λid a b=>by rw[Qq,Le a,WS,Le b]
  have hnf:((H2.kill Hk.next).set m (L none)).next=H2.next:=rfl;have gm:((H2.kill Hk.next).set m (L none)).get m=some (L none):=by rw[Qq,Lc rfl]
  have hwf:((H2.kill Hk.next).set m (L none)).Wf:=λid hid=>by
   rw[hnf]at hid;rw[gf id (by omega) (by omega)];exact hw2 id hid
  have hkl:∀id,id≠m->id≠Hk.next->(((H2.kill Hk.next).set m (L none)).kill m).get id=H2.get id:=λid a b=>by rw[WS,Le a];exact gf id a b
  simp only[Qb,simprocAttr,Qpo,QmH];generalize (H2.kill Hk.next).set m (L none)=Hf at *;have hn2':=hk2.next;refine⟨by show H.next<=H2.next;omega,⟨gm,by omega,by omega,λid a b d=>by rw[gf id d (by omega)];exact q4 id a b d,v',by rw[gf c hcm (by omega)];exact q5,(q6.of λg=>g.keepS λid hid=>?_).mono (by omega),λid hi=>?_⟩,⟨by omega,hwf,λid a b=>?_,λid a=>?_⟩⟩
  ·rw[WS]at hid;split at hid
   ·exact absurd rfl hid
   ·rename_i q;have q':id≠m:=λh=>hid (h▸hm2);rw[hkl id q' q,WS,Le q]
  ·have:=q7 id hi;exact⟨by omega,this.2.1,by omega⟩
  ·rw[gf id (ne b) (by omega),hk2.keep id (by omega) (nown id a b),ki id (ne b) a]
  ·rcases a with a | a | ⟨v'',a,a'⟩
   ·exact .inl (.inl a)
   ·exact .inl (.inr (.inl a))
   ·rw[gf c hcm (by omega),q5]at a;cases a;rcases hk2.own id (.inr (.inr ⟨_,q5,a'⟩)) with h | h
    ·rcases h with h | h | ⟨v'',h,h'⟩
     ·exact .inl (.inl h)
     ·exact .inr (by omega)
     ·rw[gic]at h;cases h;exact .inl (.inr (.inr ⟨_,h5,h'⟩))
    ·exact .inr (by omega)
end
theorem Qay {f:Fm}{op:Int}{l:List Ar}(h:QcG f op l=true):f.op=op∧f.shapes.length=l.length∧QeY f=0∧Q8 op l=0∧∀i,i<l.length->Qdl (QU op l) (l.getD i Wc) (f.shapes.getD i 0)=true:=by
 unfold QcG at h;simp only[Lm,L0,Li,LU]at h;exact⟨h.1.1.1.1,h.1.1.1.2,h.1.1.2,h.1.2,h.2⟩
theorem QxU (x:Int):∀ (l:List Int) (k:Nat),0<=QdK l x k->(k:Int)<=QdK l x k∧l.getD ((QdK l x k).toNat - k) 0=x
 | [],k,h=>by simp[QdK]at h
 | y::l,k,h=>by
  unfold QdK at h ⊢;split
  ·rename_i e;exact⟨B0 _,by simp[e]⟩
  ·rename_i e;rw[Le e]at h;obtain⟨h1,h2⟩:=QxU x l (k+1) h;refine⟨by omega,?_⟩;have e2:(QdK l x (k+1)).toNat - k=((QdK l x (k+1)).toNat - (k+1))+1:=by omega
   rw[e2,List.getD_cons_succ];exact h2
theorem QFG {l:List Int}{x:Int}(h:0<=Qn l x):l.getD (Qn l x).toNat 0=x:=(QxU x l 0 h).2
theorem QsY:∀ {l:List Ar},Qdk l=0->∀a∈l,Wn a=0
 | [],_,_,h=>by cases h
 | a::l,h,b,hb=>by
  unfold Qdk at h;split at h
  ·rename_i q;rcases LK.1 hb with rfl | hb
   ·simpa using q
   ·exact QsY h b hb
  ·rename_i q;simp[h]at q
theorem QqO {op:Int}{l:List Ar}(h:Q8 op l=0):Qdk l=0∧l.length<=4:=by
 unfold Q8 at h;split at h
 ·simp at h
 ·split at h
  ·simp at h
  ·split at h
   ·rename_i q;simp[h]at q
   ·rename_i h1 h2 h3;exact⟨by simpa using h3,by omega⟩
theorem QDH {r:Rg}(h:XF r=true):0<=r.n∧r.n<16:=by
 unfold XF Qjp at h;simp only[Lv]at h;split at h
 ·simp only at h;omega
 ·split at h
  ·simp only at h;omega
  ·split at h<;>simp only at h<;>omega
theorem QDI {f:Fm}{op:Int}{l:List Ar}(h:QcG f op l=true){s:Int}(hs:s=1∨s=3∨s=4∨s=7)(h0:0<=Qn f.slots s):∃a,l[(Qn f.slots s).toNat]? = some a∧a.k=1∧(1<=a.r.c∧a.r.c<=7)∧XF a.r=true:=by
 obtain⟨_,h2,h3,h4,h5⟩:=Qay h;have hsl:=Qiq h3;have hlt:=QpL f.slots s;obtain⟨j,hj⟩:∃j:Nat,Qn f.slots s=j:=⟨(Qn f.slots s).toNat,by omega⟩;have his:=QFG h0;rw[hj]at his hlt ⊢;have e1:(j:Int).toNat=j:=by omega
 rw[e1]at his ⊢;obtain⟨a,ha⟩:∃a,l[j]? = some a:=⟨_,La (by omega)⟩;refine⟨a,ha,?_⟩;have hm:Qi9 f=true:=Qrw h3 3 (by omega);unfold Qi9 at hm;rw[Lm]at hm;have hg:QfZ (f.shapes.getD j 0) (f.slots.getD j 0)=true:=Li.1 hm.2 j (LU.2 (by omega));rw[his]at hg;have hr:1<=f.shapes.getD j 0∧f.shapes.getD j 0<=6:=by
  unfold QfZ at hg;rw[Le (by omega),Le (by omega),Lc (by omega)]at hg;simpa using hg
 have ht:=h5 j (by omega);unfold Qdl at ht;rw[Lm]at ht;have hgd:l.getD j Wc=a:=by simp[LX,ha]
 rw[hgd]at ht;have hc:a.k=1∧(1<=a.r.c∧a.r.c<=7):=by
  have e:(QtW (QU op l) a).a=a:=by unfold QtW;split<;>rfl
  obtain⟨n,hn⟩:∃n:Nat,(f.shapes.getD j 0).toNat=n:=⟨_,rfl⟩;have ht:=ht.2;rw[hn]at ht;have:n=1∨n=2∨n=3∨n=4∨n=5∨n=6:=by omega
  rcases this with rfl | rfl | rfl | rfl | rfl | rfl
  all_goals
   simp only[ZQ,W3,e,Nw,Lm,L0]at ht;omega
 have hv:=QsY (QqO h4).1 a (Ln ha);unfold Wn at hv;rw[Lc (by simp[hc.1])]at hv;refine⟨hc.1,hc.2,?_⟩;cases hq:XF a.r with
 | true=>rfl
 | false=>rw[hq]at hv;simp at hv
theorem QDJ {f:Fm}{op:Int}{l:List Ar}(h:QcG f op l=true){s:Int}(hs:s=1∨s=3∨s=4∨s=7)(h0:0<=Qn f.slots s):∃a,l[(Qn f.slots s).toNat]? = some a∧a.k=1∧(1<=a.r.c∧a.r.c<=7)∧0<=a.r.n∧a.r.n<16:=by
 obtain⟨a,h1,h2,h3,h4⟩:=QDI h hs h0;exact⟨a,h1,h2,h3,QDH h4⟩
theorem QGB {f:Fm}{op:Int}{l:List Ar}(h:QcG f op l=true)(hv:f.vex=true){a b:Int}(ha:0<=a∧a<2)(hb:0<=b∧b<2):(vxF f l a b).Ok:=by
 obtain⟨_,h2,h3,h4,h5⟩:=Qay h;have hf:=QvL h3;obtain⟨hm,hp,hw,hl⟩:=hf.vx hv;have hmp:=hf.map;refine⟨QoR _ _ _,ha,?_,?_,?_,?_,?_,hp⟩
 ·show 0<=hB f l b∧hB f l b<2;unfold hB;split
  ·exact QoR _ _ _
  ·exact hb
 ·show 1<=f.map∧f.map<4;omega
 ·show 0<=QvK f.w∧QvK f.w<2;unfold QvK;split<;>omega
 ·show 0<=QoQ f l 3∧QoQ f l 3<16;unfold QoQ;split
  ·rename_i h0;obtain⟨c,hc,_,_,hn⟩:=QDJ h (.inr (.inl rfl)) h0;rw[hc];exact hn
  ·omega
 ·show 0<=f.l∧f.l<2;omega
theorem QuK (d:Int):(Kq d 4).1.length<=8:=QkA _ _ (by decide)
def QDK (w:Ld):Prop:=(0<=w.x∧w.x<2)∧(0<=w.h∧w.h<2)∧w.b.length<=100
theorem z02:(0:Int)<=0∧(0:Int)<2:=by decide
theorem QxV (mid:Int)(ix:Rg)(f d:Int):QDK (Qa4 mid ix f d):=by
 have:=QuK d;refine⟨Qia _,z02,?_⟩;unfold Qa4;simp only[Lh,Lo,L9];omega
theorem QpX (mid rm:Int)(sib:List Int)(hs:sib.length<=8)(m:Mm):∀w∈YV mid rm sib m,QDK w:=by
 intro w hw;unfold YV at hw;obtain⟨md,_,h⟩:=NF.1 hw;unfold Zw at h;split at h
 ·have:=Qxy md m;rw[Sa]at h;subst h;refine⟨Qia _,Qia _,?_⟩;simp only[Lh,Lo,L9];omega
 ·cases h
theorem QFH (mid:Int)(m:Mm):∀w∈QdV mid m,QDK w:=by
 intro w hw;unfold QdV at hw;split at hw
 ·rw[Sa]at hw;subst hw;have:=QuK m.d;refine⟨z02,z02,?_⟩;simp only[Lh,Lo,L9];omega
 ·split at hw
  ·rw[Sa]at hw;subst hw;exact QxV _ _ _ _
  ·split at hw
   ·exact QpX _ _ _ (by simp) _ w hw
   ·rcases LI.1 hw with hw | hw
    ·split at hw
     ·cases hw
     ·exact QpX _ _ _ (by simp) _ w hw
    ·rcases LI.1 hw with hw | hw
     ·exact QpX _ _ _ (by simp) _ w hw
     ·split at hw
      ·cases hw
      ·rw[Sa]at hw;subst hw;exact QxV _ _ _ _
theorem QFI (mid:Int)(a:Ar):(QcE mid a).1.length<=8∧∀w∈(QcE mid a).1,QDK w:=by
 unfold QcE;split
 ·simp
 ·split
  ·simp
  ·split
   ·refine⟨by simp,λw hw=>?_⟩;rw[Sa]at hw;subst hw;exact⟨z02,Qia _,by simp⟩
   ·split
    ·exact⟨QsN _ _,QFH _ _⟩
    ·simp
theorem Qlw (f:Fm)(l:List Ar):(W0 f l).length<=8∧∀w∈W0 f l,QDK w:=by
 unfold W0;split
 ·refine⟨by simp,λw hw=>?_⟩;rw[Sa]at hw;subst hw;exact⟨z02,z02,by simp⟩
 ·split
  ·exact QFI _ _
  ·simp
theorem Kb {α β:Type}{f:α->List β}{n:Nat}:∀ (l:List α),(∀a∈l,(f a).length<=n)->(l.flatMap f).length<=l.length * n
 | [],_=>by simp
 | a::l,h=>by
  have h1:=h a (Ny ..);have h2:=Kb l λb hb=>h b (NA _ hb);rw[Ba,Lh,Lo,Ry];omega
def Qk8 (f:Fm)(op:Int)(l:List Ar):List Ld:=if QcG f op l=true then(W0 f l).flatMap (Qge f l (Qax f op l)) else[]
theorem Qis (f:Fm)(op:Int)(l:List Ar):(Qk8 f op l).length<=24:=by
 unfold Qk8;split
 ·have h1:=(Qlw f l).1;have h2:=Kb (f:=Qge f l (Qax f op l)) (n:=3) (W0 f l) λw _=>by unfold Qge;rw[Nn];exact(QuI _ _ _ _).1
  omega
 ·simp
theorem QDL (f:Fm)(op:Int)(l:List Ar):(Qax f op l).length<=2000:=by
 unfold Qax;have:=QAQ (QoU f op l) (tlN f);rw[Lh];split<;>split<;>simp<;>omega
theorem QvW {x:Lf}{op:Int}{va:Value}{l:List Ar}(H:Qa)(hx:x.At H)(hf:x.Fr 0)(ha:Qv H va l)(hva:∀n,H.next<=n->Qh n 6 (.agg #[.int .i64 op,va])=true)(hl:l.length<=1000)(hI:∀a∈l,I64 a.n):
  Qe prog 50 [.agg x.cells.toArray,.agg #[.int .i64 op,va]] H λu H'=>∃v,u=.tuple #[v,.bool (decide (0<(Qk8 x.f op l).length))]∧LsU 41 H H' v (Qk8 x.f op l) H'.next∧Ext H H':=by
 refine QtC λhw=>?_;have ex:(Value.agg x.cells.toArray).cells.toList=x.cells:=rfl;have e10:x.cells.take 10=x.cells:=rfl;have l10:10<=x.cells.length:=Lb _;obtain⟨W,eW⟩:∃W,W=Qk8 x.f op l:=⟨_,rfl⟩;have hWl:W.length<=24:=by rw[eW];exact Qis _ _ _
 rw[<- eW];unfold Qk8 at eW;obtain⟨a0,cap,rfl⟩:=Qu ha;simp only[Ql9,ex,KG,simprocAttr];generalize hH1:Qa.push H (.cells x.cells 45 false)=H1;have g1:H1.get H.next=some (.cells x.cells 45 false):=by rw[<- hH1,Qd,Lc rfl]
 have hx1:Ext H H1:=by rw[<- hH1];exact(Ext.refl H).push _
 have hn1:H1.next=H.next+1:=by rw[<- hH1];rfl
 have hw1:H1.Wf:=by rw[<- hH1];exact hw.push _
 clear hH1;simp only[Qb,simprocAttr,hn1];generalize hH2:Qa.push H1 _=H2;have hx2:Ext H H2:=by rw[<- hH2];exact(hx1.push _)
 have hw2:H2.Wf:=by rw[<- hH2];exact(hw1.push _)
 have g22:H2.get H.next=some (.cells x.cells 45 false):=by rw[<- hH2,Qd,Le (by omega)];exact g1
 have g23:H2.get (H.next+1)=some (.cells [.int .i64 op,.slice a0 l.length cap] 24 false):=by rw[<- hH2,Qd,Lc (by omega)]
 have hn2:H2.next=H.next+2:=by rw[<- hH2,Qc,hn1]
 clear hH2;simp only[Qb,simprocAttr,g1,g22,g23,Lw,e10];refine⟨l10,?_⟩;refine(QvS H2 (hx.ext hw hx2) hf (ha.ext hw hx2) hl hI).thenW ?_;rintro _ H3 hn3 hw3 ⟨rfl,hx23⟩;have hx3:=hx2.trans hx23;cases hq:QcG x.f op l with
 | false=>
  rw[hq,Le (by decide)]at eW;subst eW;simp only[Qb,simprocAttr,LM,Qke];exact .mk hx3.next ⟨_,rfl,LsU.nil _ _ _ _,hx3⟩
 | true=>
  rw[hq,Lc rfl]at eW;have g32:H3.get H.next=some (.cells x.cells 45 false):=by rw[hx23.get _ (by omega)];exact g22
  have g33:H3.get (H.next+1)=some (.cells [.int .i64 op,.slice a0 l.length cap] 24 false):=by rw[hx23.get _ (by omega)];exact g23
  have nz1:¬H.next=H3.next:=by omega
  have nz2:¬H.next+1=H3.next:=by omega
  simp only[Qb,simprocAttr,L8,nz1,nz2,LN,g32,g33,Lw,e10];refine⟨l10,?_⟩;obtain⟨H4,eC,hg4,hx34,hw4,hn4,hH4⟩:∃H4 eC,H4.get H3.next=some (.cells [.slice none 0 0] eC false)∧Ext H3 H4∧H4.Wf∧H4.next=H3.next+1∧H4=H3.push (.cells [.slice none 0 0] _ false):=⟨_,_,by rw[Qd,Lc rfl],(Ext.refl H3).push _,hw3.push _,rfl,rfl⟩;rw[<- hH4];clear hH4;refine(QtZ H4).thenW ?_;rintro _ H5 hn5 hw5 ⟨rfl,hx45,hn45,g5f,g5i⟩;have hx5:=(hx3.trans hx34).trans hx45;have g5c:H5.get H3.next=some (.cells [.slice none 0 0] eC false):=by rw[hx45.get _ (by omega)];exact hg4
  simp only[KG,simprocAttr,Qg,simprocAttr,QhS];rw[Qr7 112 [] [.pointer (some ⟨H4.next,0,none⟩),.pointer (some ⟨H4.next+1,0,none⟩)]];intro L hY;refine⟨by kernel_rfl,?_⟩;have hxb:Ext H5 (H5.push (L none)):=(Ext.refl H5).push _;have hnb:(H5.push (L none)).next=H5.next+1:=rfl;have gb:(H5.push (L none)).get H5.next=some (L none):=by rw[Qd,Lc rfl]
  have hwb:=hw5.push (L none);generalize H5.push (L none)=Hb at *;have gbc:Hb.get H3.next=some (.cells [.slice none 0 0] eC false):=by rw[hxb.get _ (by omega)];exact g5c
  obtain⟨_,_,hs3,_,_⟩:=Qay hq;have hP:∀w∈W0 x.f l,(0<=w.x∧w.x<2)∧(0<=w.h∧w.h<2)∧(x.f.vex=true->(vxF x.f l w.x w.h).Ok)∧w.b.length<=1000:=λw hw=>by
   obtain⟨h1,h2,h3⟩:=(Qlw x.f l).2 w hw;exact⟨h1,h2,λhv=>QGB hq hv h1 h2,by omega⟩
  have hsn:x.f.slots.length=l.length:=by rw[<- Qiq hs3];exact(Qay hq).2.1
  have hout:=QHF (Hb:=Hb) (c:=H3.next) (m:=H5.next) (eC:=eC) (op:=op) (va:=.slice a0 l.length cap) (e:=Qax x.f op l) (Hz:=H) (by omega) (by omega) (by omega) (by rw[<- eW];omega) hY (by simp only[Qg,simprocAttr]) (QvL hs3) hx ha hw hva hl hsn (QDL _ _ _) hP;rw[<- eW]at hout;have hno:∀id,id≠H3.next->id≠H5.next->¬clO H3.next H5.next eC Hb id:=λid p q h=>by
   rcases h with h | h | ⟨v,h,o,n,c,h'⟩
   ·exact p h
   ·exact q h
   ·rw[gbc]at h;cases h;cases h'
  refine(QFE hout (Lb _) hx hf ha hw hva hl hI hsn (by have:=(Qlw x.f l).1;omega) (hx5.trans hxb) (λid hid=>hno id (by have:=hx3.next;omega) (by have:=hx5.next;omega)) (by rw[hxb.get _ (by omega)];exact g5f) (by rw[hxb.get _ (by omega)];exact g5i) (hno _ (by omega) (by omega)) (hno _ (by omega) (by omega)) ?_).thenW ?_
  ·refine⟨gb,by omega,by omega,λ_ _ _ _=>rfl,_,gbc,?_,λid ⟨o,n,c,h⟩=>by cases h⟩;exact LsU.nil _ _ _ _
  ·rintro u H6 hn6 hw6 ⟨hR6,hk6⟩;obtain⟨q1,q2,q3,q4,v',q5,q6,q7⟩:=hR6;refine⟨none,q1,?_⟩;have hcn:QxT (Qge x.f l (Qax x.f op l)) (W0 x.f l) (W0 x.f l).length=W.length:=by unfold QxT;rw[Nr,eW]
   rw[hcn,Nr]at q6;have hxf:Ext H (H6.kill H5.next):=⟨by have:=hx5.next;show H.next<=H6.next;omega,λid hid=>by rw[WS,Le (by have:=hx5.next;omega),q4 id (by have:=hx5.next;omega) (by have:=hx3.next;omega) (by have:=hx5.next;omega)];exact(hx5.trans hxb).get id hid⟩;have g6:(H6.kill H5.next).get H3.next=some (.cells [v'] eC false):=by rw[WS,Le (by omega)];exact q5
   have q6:LsU 41 H (H6.kill H5.next) v' W (H6.kill H5.next).next:=q6.down (H0:=H) (by have:=hx5.next;omega);generalize H6.kill H5.next=H7 at *;obtain⟨a7,c7,rfl⟩:=q6.ls.slc;simp only[Qb,simprocAttr,Qpo,g6,Qke];refine .mk hxf.next ⟨_,?_,q6,hxf⟩;rw[show decide ((0:Int)<(W.length:Int))=decide (0<W.length) by simp]
def GO (op:Int):List Ar->Bool
 | [x,y]=>(op==11)&&(((x.k==1)&&(y.k==1))&&(x.r.c==y.r.c))&&!(x.r.n==y.r.n)
 | _=>false
def Z9 (op:Int)(l:List Ar):List (List Ar):=
 if((Wa op l).2.2==0)=true then[(Wa op l).2.1]++(if GO op (Wa op l).2.1=true then[(Wa op l).2.1.reverse] else[]) else[]
def QxZ (op:Int)(vs:List Value):List Value:=vs.flatMap λs=>[.int .i64 op,s]
def Qv1 (H:Qa)(v:Value)(op:Int)(ws:List (List Ar)):Prop:=∃vs:List Value,vs.length=ws.length∧Qdw H v ws.length (QxZ op vs)∧∀ (j:Nat) s w,vs[j]? = some s->ws[j]? = some w->Qv H s w∧∀n,H.next<=n->Qh n 6 (.agg #[.int .i64 op,s])=true
theorem QuO {op:Int}{l:List Ar}(h:(Wa op l).2.2=0):Wa op l=(op,(Wa op l).2.1,0):=by
 unfold Wa at h ⊢;split
 ·rename_i q;rw[Lc q]at h;simp only at h;rw[h]at q;exact absurd q (by decide)
 ·rename_i q;rw[Le q]at h;split
  ·rename_i q2;rw[Lc q2]at h;simp only at h;rw[h]at q2;exact absurd q2 (by decide)
  ·rfl
theorem QqP {H H':Qa}{op:Int}{v:Value}{l:List Ar}(ha:Qv H' v l)(hf:∀a n c,v=.slice (some a) n c->H.next<=a.block∧a.block<H'.next)(n:Nat)(hn:H'.next<=n):Qh n 6 (.agg #[.int .i64 op,v])=true:=by
 obtain⟨a,cap,rfl,h1⟩:=ha;cases a with
 | none=>simp[Qh,Ab.plain]
 | some a=>
  have:=(hf _ _ _ rfl).2;simp[Qh,Ab.plain];omega
theorem QuP (ib:Int×Bool):∀l:List Ar,(XE ib l).1.length<=l.length
 | []=>Lb _
 | a::l=>by
  unfold XE;split
  ·simpa using QuP ib l
  ·simp
theorem QCn (op:Int)(l:List Ar):(ZR op l).length<=l.length+1:=by
 unfold ZR;split
 ·split<;>simp
 ·split
  ·simp
  ·split<;>simp
theorem Qs0 (op:Int)(l:List Ar):(Wa op l).2.1.length<=5:=by
 unfold Wa;split
 ·simp
 ·rename_i h;split
  ·simp
  ·have:=Qiu (op:=op) (l:=l) (by simpa using h);have:=QuP (QU op l) l;have:=QCn op (XE (QU op l) l).1;simp only;omega
theorem QJ2 {op:Int}{m:List Ar}{W:List (List Ar)}{H H3:Qa}{B:Nat}{a2:Option Addr}{c2:Nat}(hml:m.length<=1000)(eW:W=[m]++if GO op m=true then[m.reverse] else[])(hx3:Ext H H3)(hw3:H3.Wf)(g3:H3.get B=some (.cells [.int .i64 op,.slice a2 m.length c2] 24 false))(ha:Qv H3 (.slice a2 m.length c2) m)(hbl:∀n,H3.next<=n->Qh n 6 (.agg #[.int .i64 op,.slice a2 m.length c2])=true){A:Env}(r3:A 3=.pointer (some ⟨B,0,none⟩)):
  Qm prog GM ⟨Rt prog Tryz.f49 H λu H'=>Qv1 H' u op W∧Ext H H',WJ⟩ (Rt prog Tryz.f49 H λu H'=>Qv1 H' u op W∧Ext H H') A H3:=by
 have lB:=hw3.lt g3;have nB:¬B=H3.next:=by omega
 simp only[GM,Qb,simprocAttr,r3,g3,nB,LN];generalize hH4:H3.push _=H4;have hx4:Ext H3 H4:=by rw[<- hH4];exact(Ext.refl _).push _
 have hw4:H4.Wf:=by rw[<- hH4];exact hw3.push _
 have g4:H4.get H3.next=some (.cells [.int .i64 op,.slice a2 m.length c2] 24 false):=by rw[<- hH4,Qd,Lc rfl]
 have hn4:H4.next=H3.next+1:=by rw[<- hH4];rfl
 clear hH4;refine⟨rfl,?_⟩;refine(QAU _ m H4 (ha.ext hw3 hx4) hml).thenW ?_;rintro u H5 hn5 hw5 ⟨hx5,hcl⟩;obtain⟨ca,cap,cb,rfl,hcb,hca⟩:∃ca cap cb,u=.slice ca m.length cap∧(0<m.length->ca=some ⟨cb,0,none⟩∧H4.next<=cb∧H5.get cb=some (.cells (Qi m) 58 false))∧(∀a,ca=some a->H4.next<=a.block∧a.block<H5.next):=by
  rcases hcl with⟨rfl,rfl | ⟨rfl,rfl⟩⟩ | ⟨hne,rfl,rfl⟩
  ·exact⟨none,0,0,rfl,λh=>absurd h (NX 0),λa h=>by cases h⟩
  ·exact⟨_,0,0,rfl,λh=>absurd h (NX 0),λa h=>by cases h;exact⟨Lb _,by rw[Qc];exact Rq _⟩⟩
  ·refine⟨_,_,H4.next+1,rfl,λ_=>⟨rfl,by omega,by rw[Qd,Lc (by simp only[Qc])]⟩,λa h=>by cases h;simp only[Qc];omega⟩
 clear hcl;simp only[Qb,simprocAttr];refine⟨hx5.eqB,?_⟩;generalize hH6:H5.push _=H6;have hx6:Ext H5 H6:=by rw[<- hH6];exact(Ext.refl _).push _
 have hw6:H6.Wf:=by rw[<- hH6];exact hw5.push _
 have hn6:H6.next=H5.next+1:=by rw[<- hH6];rfl
 have g6:H6.get H5.next=some (.cells [.int .i64 op,.slice ca m.length cap] 97 false):=by rw[<- hH6,Qd,Lc rfl]
 clear hH6;have hx36:=(hx4.trans hx5).trans hx6;have hxe:=hx3.trans hx36;have g6r:H6.get H3.next=some (.cells [.int .i64 op,.slice a2 m.length c2] 24 false):=by rw[hx6.get _ (by omega),hx5.get _ (by omega)];exact g4
 have ha6:=ha.ext hw3 hx36;have hc6:Qv H6 (.slice ca m.length cap) m:=⟨ca,cap,rfl,λh=>⟨cb,_,_,(hcb h).1,by rw[hx6.get _ (hw5.lt (hcb h).2.2)];exact(hcb h).2.2⟩⟩
 -- one spelling
 have hend1:GO op m=false->Qv1 H6 (.slice (some ⟨H3.next,0,none⟩) 1 1) op W:=λh=>by
  rw[eW,Le (by rw[h];decide),Na];refine⟨[.slice a2 m.length c2],rfl,⟨_,1,rfl,λ_=>⟨H3.next,_,_,rfl,g6r⟩⟩,λj s w h1 h2=>?_⟩;rcases j with _ | j
  ·cases h1;cases h2;exact⟨ha6,λn hn=>hbl n (by have:=hx36.next;omega)⟩
  ·simp at h1
 cases h11:op==11 with
 | false=>
  simp only[Qb,simprocAttr,Zi];refine .mk hxe.next ⟨hend1 ?_,hxe⟩;unfold GO;split<;>simp[h11]
 | true=>
  simp only[Qb,simprocAttr];refine(Qe0 H5.next op _ m H6 false g6 hc6 hml).thenW ?_;rintro _ H6 _ _ ⟨rfl,rfl⟩;cases hal:QdF m with
  | false=>
   simp only[Qb,simprocAttr,Zi];refine .mk hxe.next ⟨hend1 ?_,hxe⟩;unfold GO;unfold QdF at hal;split
   ·simp only at hal;rw[hal];simp
   ·rfl
  | true=>
   obtain⟨x,y,rfl⟩:∃x y,m=[x,y]:=by
    unfold QdF at hal;split at hal
    ·exact⟨_,_,rfl⟩
    ·cases hal
   obtain⟨rfl,hcbn,hgcb⟩:=hcb (FH _);have g6c:H6.get cb=some (.cells (Qi [x,y]) 58 false):=by rw[hx6.get _ (hw5.lt hgcb)];exact hgcb
   have e2:(Qi [x,y])[2]? = some (.int .i64 x.r.n):=rfl;have e13:(Qi [x,y])[13]? = some (.int .i64 y.r.n):=rfl;have d0:(0:Int)<=0∧(0:Int)<(([x,y]:List Ar).length:Int):=by simp
   have d1:(0:Int)<=1∧(1:Int)<(([x,y]:List Ar).length:Int):=by simp
   simp only[sxA,sxB,Nat.reduceBEq,Nat.reduceEqDiff,reduceCtorEq,mxA,mxB,Nat.reduceAdd,reduceIte,Nat.reduceLeDiff,splice,g6,g6c];refine⟨d0,_,e2,d1,_,e13,?_⟩;simp only[Qb,simprocAttr];have hal2:((x.k==1)&&(y.k==1)&&(x.r.c==y.r.c))=true:=hal;cases hnn:x.r.n==y.r.n with
   | true=>
    simp only[Qb,simprocAttr,L8,Zi];exact .mk hxe.next ⟨hend1 (by simp[GO,hnn]),hxe⟩
   | false=>
    have htr:GO op [x,y]=true:=by simp only[GO,h11,hal2,hnn];rfl
    simp only[Qb,simprocAttr,LM];simp only[QdL,Qb,simprocAttr];refine(QbK H5.next cb cap op x y H6 false 58 g6 g6c).thenW ?_;rintro _ H7 hn7 hw7 ⟨rfl,hH7⟩;have g7:∀id,id≠cb->H7.get id=H6.get id:=λid h=>by rw[hH7,Qq,Le h,Qq,Le h]
    have g7c:H7.get cb=some (.cells (Qi [y,x]) 58 false):=by rw[hH7,Qq,Lc rfl]
    have hn7':H7.next=H6.next:=by rw[hH7];rfl
    clear hH7;have lc5:=hw5.lt hgcb;have g7d:H7.get H5.next=some (.cells [.int .i64 op,.slice (some ⟨cb,0,none⟩) 2 cap] 97 false):=by rw[g7 _ (by omega)];exact g6
    have g7r:H7.get H3.next=some (.cells [.int .i64 op,.slice a2 2 c2] 24 false):=by rw[g7 _ (by omega)];exact g6r
    simp only[Qb,simprocAttr,g7d];have hx37:Ext H3 H7:=⟨by have:=hx36.next;omega,λid hid=>by rw[g7 id (by omega)];exact hx36.get id hid⟩;generalize hH8:H7.push _=H8;have hx78:Ext H7 H8:=by rw[<- hH8];exact(Ext.refl _).push _
    have hw8:H8.Wf:=by rw[<- hH8];exact hw7.push _
    have g8:H8.get H7.next=some (.cells [.int .i64 op,.slice (some ⟨cb,0,none⟩) 2 cap] 24 false):=by rw[<- hH8,Qd,Lc rfl]
    clear hH8;have l7:=hw7.lt g7r;have g8r:H8.get H3.next=some (.cells [.int .i64 op,.slice a2 2 c2] 24 false):=by rw[hx78.get _ l7];exact g7r
    have hs8:Gx 2 24 H3 H8 (.slice (some ⟨H3.next,0,none⟩) 1 1) 1 [.int .i64 op,.slice a2 2 c2]:=.inr ⟨_,_,rfl,Lb _,g8r,rfl,.inl rfl⟩;have hsrc:J4 2 (.slice (some ⟨H7.next,0,none⟩) 1 1) H8=some (1,[.int .i64 op,.slice (some ⟨cb,0,none⟩) 2 cap]):=by
     rw[JI g8 (by decide) (by simp)];rfl
    refine Qvu hs8 ⟨_,rfl⟩ hw8 hsrc rfl (by decide) rfl (by decide) (by decide) (by decide) ?_;rintro v9 H9 hg9 hx9 hw9 ⟨b9,rfl⟩;have hx39:=(hx37.trans hx78).trans hx9;have hx09:=hx3.trans hx39;have g9c:H9.get cb=some (.cells (Qi [y,x]) 58 false):=by rw[hx9.get _ (by have:=hx78.next;omega),hx78.get _ (by omega)];exact g7c
    simp only[Qb,simprocAttr,Zi];refine .mk hx09.next ⟨?_,hx09⟩;rw[eW,Lc htr];refine⟨[.slice a2 2 c2,.slice (some ⟨cb,0,none⟩) 2 cap],rfl,hg9.sl,λj s w h1 h2=>?_⟩;rcases j with _ | _ | j
    ·cases h1;cases h2;exact⟨ha.ext hw3 hx39,λn hn=>hbl n (by have:=hx39.next;omega)⟩
    ·cases h1;cases h2;refine⟨⟨_,cap,rfl,λ_=>⟨cb,_,_,rfl,g9c⟩⟩,λn hn=>?_⟩;have:=hw9.lt g9c;simp[Qh,Ab.plain];omega
    ·simp at h1
theorem Qp0 {op:Int}{v:Value}{l:List Ar}(H:Qa)(hv:Qv H v l)(hl:l.length<=1000)(hI:∀a∈l,I64 a.n):
  Qe prog 49 [.agg #[.int .i64 op,v]] H λu H'=>Qv1 H' u op (Z9 op l)∧Ext H H':=by
 refine Qn2 λhw=>?_;obtain⟨a0,cap,rfl⟩:=Qu hv;simp only[Qfn,KG,simprocAttr];generalize hH1:Qa.push H _=H1;have g1:H1.get H.next=some (.cells [.int .i64 op,.slice a0 l.length cap] 24 false):=by rw[<- hH1,Qd,Lc rfl];rfl
 have hx1:Ext H H1:=by rw[<- hH1];exact(Ext.refl H).push _
 have hw1:H1.Wf:=by rw[<- hH1];exact hw.push _
 clear hH1;simp only[Qb,simprocAttr,g1];refine(Qv0 op l H1 _ (hv.ext hw hx1) hl hI).thenW ?_;rintro _ H2 hn2 hw2 ⟨hx2,v',rfl,hv2,hfr⟩;have hx02:=hx1.trans hx2;have hbl:=λn hn=>QqP (op:=(Wa op l).1) hv2 hfr n hn;obtain⟨W,eW⟩:∃W,W=Z9 op l:=⟨_,rfl⟩;rw[<- eW];unfold Z9 at eW;obtain⟨a2,c2,rfl⟩:=Qu hv2;cases he:(Wa op l).2.2==0 with
 | false=>
  rw[he,Le (by decide)]at eW;simp only[Qb,simprocAttr,he,Zi];have hx3:=(hx02.push (.cells [.int .i64 0,.slice none 0 0] 24 false)).set hx02.next (.cells [.int .i64 (Wa op l).1,.slice a2 (Wa op l).2.1.length c2] 24 false);exact .mk hx3.next ⟨by rw[eW];exact⟨[],rfl,⟨none,0,rfl,λh=>absurd h (NX 0)⟩,λj s w h=>by simp at h⟩,hx3⟩
 | true=>
  rw[he,Lc rfl]at eW;have ei:=QuO (L0.1 he);have e1:(Wa op l).1=op:=by rw[ei]
  rw[e1]at hbl;simp only[Qb,simprocAttr,he,e1];generalize hm:(Wa op l).2.1=m at *;generalize hH3:(H2.push _).set H2.next _=H3;have hx3:Ext H2 H3:=by rw[<- hH3];exact((Ext.refl H2).push _).set (Lb _) _
  have hw3:H3.Wf:=by rw[<- hH3];exact(hw2.push _).set (b0:=.cells [.int .i64 0,.slice none 0 0] 24 false) (by rw[Qd,Lc rfl]) _
  have g3:H3.get H2.next=some (.cells [.int .i64 op,.slice a2 m.length c2] 24 false):=by rw[<- hH3,Qq,Lc rfl]
  clear hH3;refine QJ2 (by rw[<- hm];have:=Qs0 op l;omega) eW (hx02.trans hx3) hw3 g3 (hv2.ext hw2 hx3) (λn hn=>hbl n (by have:=hx3.next;omega)) ?_;simp only[Qg,simprocAttr]
structure GX (v:Value) (H:Qa) (v':Value) (H':Qa):Prop where
 next:H.next<=H'.next
 keep:∀id,id<H.next->¬inB v id->H'.get id=H.get id
 own:∀id,inB v' id->inB v id∨H.next<=id
theorem QFO {v:Value}{a b:Nat}(ha:inB v a)(hb:inB v b):a=b:=by
 obtain⟨_,_,_,rfl⟩:=ha;obtain⟨_,_,_,h⟩:=hb;cases h;rfl
theorem GX.refl (v:Value)(H:Qa):GX v H v H:=⟨Lb _,λ_ _ _=>rfl,λ_ h=>.inl h⟩
theorem GX.trans {v v' v'':Value}{H H' H'':Qa}(h:GX v H v' H')(h':GX v' H' v'' H''):GX v H v'' H'':=by
 have n1:=h.next;have n2:=h'.next;refine⟨by omega,λid a b=>?_,λid a=>?_⟩
 ·rw[h'.keep id (by omega) (λc=>by rcases h.own id c with d | d;exact b d;omega),h.keep id a b]
 ·rcases h'.own id a with b | b
  ·exact h.own id b
  ·exact .inr (by omega)
theorem GX.ext {v:Value}{H H':Qa}(h:Ext H H'):GX v H v H':=⟨h.next,λid a _=>h.get id a,λ_ h=>.inl h⟩
theorem GX.gk {v v':Value}{H0 H H':Qa}(h:GK v v' H0 H H'):GX v H v' H':=⟨h.next,h.keep,h.new⟩
theorem GX.old {v v':Value}{Hs H H':Qa}(h:GX v H v' H')(hx:Ext Hs H)(hv:∀id,inB v id->Hs.next<=id):Ext Hs H':=
 ⟨by have:=h.next;have:=hx.next;omega,λid hid=>by rw[h.keep id (by have:=hx.next;omega) (λc=>by have:=hv id c;omega)];exact hx.get id hid⟩
theorem Q7.own {e:TypeId}{H0 H:Qa}{v:Value}{ws:List Ld}(h:Q7 e H0 H v ws):∀id,inB v id->H0.next<=id:=λid hi=>by
 obtain⟨ss,h1,h2,h3⟩:=h.it;obtain⟨o,n,c,rfl⟩:=hi;rcases h2 with⟨h,_,_⟩ | ⟨b,c',h,q,_⟩
 ·cases h
 ·cases h;exact q
theorem Q7.gx {e:TypeId}{H0 H H':Qa}{v v' u:Value}{ws:List Ld}(h:Q7 e H0 H u ws)(hw:H.Wf)(hg:GX v H v' H')(hn:∀id,inB v id->id<H0.next):Q7 e H0 H' u ws:=
 h.keep2 hw λid a b=>hg.keep id b λc=>by have:=hn id c;omega
def RgS (A A':Env):Prop:=A' 1=A 1∧A' 7=A 7∧A' 8=A 8∧A' 9=A 9∧A' 15=A 15∧A' 16=A 16∧A' 17=A 17∧A' 21=A 21∧A' 22=A 22∧A' 23=A 23
def VU (k:Int)(w:Ld):Ld:=⟨w.b,k,w.h⟩
section
variable {R:Env->Qa->Prop} {E:Nat->Env->Qa->Prop} {K:Env->Qa->Prop}
theorem QJ3 {Hs H Hc:Qa}{acc cs:List Ld}{v cv:Value}{k:Int}{A:Env}(hcl:acc.length+cs.length<=1000000)(hxs:Ext Hs H)(hw:H.Wf){U0:Nat}(hl:LsU 41 Hs H v acc Hc.next)(hc:LsU 41 Hc H cv cs U0)(hcx:Hs.next<=Hc.next)(hcn:Hc.next<=H.next)(hcv:∀id,inB v id->id<Hc.next)(r5:A 5=v)(r8:A 8=.int .i64 k)(r10:A 10=cv)
  (hk:∀A' H' v',A' 5=v'->RgS A A'->H'.Wf->LsU 41 Hs H' v' (acc++cs.map (VU k)) H'.next->GX v H v' H'->K A' H'):
  Qm prog Qdx ⟨R,E⟩ K A H:=by
 obtain⟨ca,cc,rfl⟩:=hc.ls.slc;obtain⟨ss,hsl,hgss0,hgs0,hinc⟩:=hc.it;simp only[Qdx,Qb,simprocAttr,r10,Wj];refine Qo (λm A' H'=>∃i:Nat,i<=cs.length∧m=cs.length - i∧H'.Wf∧(∃U,U<=H'.next∧LsU 41 Hs H' (A' 5) (acc++(cs.take i).map (VU k)) U∧∀ (j:Nat) s a,i<=j->ss[j]? = some s->inB s a->U<=a)∧GX v H (A' 5) H'∧A' 36=.slice ca cs.length cc∧A' 37=.int .i64 cs.length∧A' 38=.int .i64 i∧RgS A A') cs.length ?_ ?_
 ·refine⟨0,L7 _,by omega,hw,?_,?_,?_,?_,?_,?_⟩
  ·simp only[Qg,simprocAttr,r5,Rb,Bq,Na];refine⟨Hc.next,hcn,hl,λj s a _ hs ha=>?_⟩;obtain⟨w,hw'⟩:∃w,cs[j]? = some w:=⟨_,La (by have:=(Lk.1 hs).1;omega)⟩;exact((hgs0 j s w hs hw').low hw ha).1
  ·simp only[Qg,simprocAttr,r5];exact GX.refl _ _
  ·simp only[Qg,simprocAttr]
  ·simp only[Qg,simprocAttr]
  ·simp only[uxA,uxB,Nat.reduceBEq];rfl
  ·simp only[RgS,Qg,simprocAttr,RU]
 ·rintro m A' H' ⟨i,hi,rfl,hw',⟨U,hU,hl',hlo⟩,hg,r36,r37,r38,hA⟩;simp only[QiL,Qb,simprocAttr,r37,r38];obtain⟨e1,e7,e8,e9,e15,e16,e17,e21,e22,e23⟩:=id hA;refine Qf (λh2=>?_) (λh2=>?_)
  ·have h2:i<cs.length:=by have:=Lg h2;omega
   have hkp:∀ {size e v n cs},Gx size e Hc H v n cs->Gx size e Hc H' v n cs:=λg=>g.keep2 hw λid a b=>hg.keep id b λc=>by have:=hcv id c;omega
   have hxs':=hg.old hxs (r5▸hl.ls.own);have hgss:=hkp hgss0;have hgs:=λj s w a b=>hkp (hgs0 j s w a b);obtain⟨b,hb1,rfl,hgb⟩:∃b,Hc.next<=b∧ca=some ⟨b,0,none⟩∧H'.get b=some (.cells (ldC ss cs) 41 false):=by
    rcases hgss with⟨h,h',_⟩ | ⟨b,c,h,q1,q2,_⟩
    ·omega
    ·cases h;exact⟨b,q1,rfl,q2⟩
   obtain⟨sv,hsv⟩:∃sv,ss[i]? = some sv:=⟨_,La (by omega)⟩;obtain⟨w,hwi⟩:∃w,cs[i]? = some w:=⟨_,La h2⟩;have hs4:=hgs i sv w hsv hwi;have hat:=Qgf ss cs i sv w hsv hwi;have hll:(ldC ss cs).length=cs.length * 3:=by rw[Qf0 _ _ hsl]
   have d1:(0:Int)<=i∧(i:Int)<cs.length:=by omega
   have d3:(i:Int).toNat=i:=by omega
   have ei:IntKind.i64.wrap ((i:Int)+1)=((i+1:Nat):Int):=by rw[w64 (by unfold I64;omega)];omega
   obtain⟨ai,ci,rfl⟩:=hs4.slc;simp only[QiK,Qb,simprocAttr,r36,r38,d1,d3,hgb,hat,e8,r8];refine⟨by omega,?_⟩;generalize hH5:Qa.push (Qa.set (Qa.set (Qa.push H' _) _ _) _ _) _=H5;have hx5:Ext H' H5:=by rw[<- hH5];exact((((Ext.refl H').push _).set (Lb _) _).set (Lb _) _).push _
   have hw5:H5.Wf:=by rw[<- hH5];exact(((hw'.push _).set (b0:=.cells [.slice none 0 0,.int .i64 0,.int .i64 0] 41 false) (by rw[Qd,Lc rfl]) _).set (b0:=.cells [.slice ai w.b.length ci,.int .i64 w.x,.int .i64 w.h] 41 false) (by rw[Qq,Lc rfl]) _).push _
   have g5:H5.get (H'.next+1)=some (.cells [.slice ai w.b.length ci,.int .i64 k,.int .i64 w.h] 41 false):=by rw[<- hH5,Qd,Lc (by simp only[Qt,Qc])]
   clear hH5;have hsrc:J4 3 (.slice (some ⟨H'.next+1,0,none⟩) 1 1) H5=some (1,[.slice ai w.b.length ci,.int .i64 (VU k w).x,.int .i64 (VU k w).h]):=by
    rw[JI g5 (by decide) (by simp)];rfl
   have hlt:(acc++(cs.take i).map (VU k)).length<=1000000:=by rw[Lh,Nn,Sb];omega
   have hs5:Gx 1 5 Hs H5 (.slice ai w.b.length ci) (VU k w).b.length (bys (VU k w).b):=(hs4.go hw' hx5).down hcx;obtain⟨U',hU1,hU2,hU3,hU4⟩:∃U',U<=U'∧U'<=H'.next∧(∀a,inB (.slice ai w.b.length ci) a->U<=a∧a<U')∧∀ (j:Nat) s a,i+1<=j->ss[j]? = some s->inB s a->U'<=a:=by
    by_cases hq:∃a,inB (.slice ai w.b.length ci) a
    ·obtain⟨a,ha⟩:=hq;have h1:=hlo i _ a (Lb _) hsv ha;refine⟨a+1,by omega,(hs4.low hw' ha).2,λb hb=>?_,λj s b hj hs hb=>?_⟩
     ·rw[QFO hb ha];omega
     ·obtain⟨p1,p2⟩:=Lk.1 hsv;obtain⟨p3,p4⟩:=Lk.1 hs;exact BR.1 hinc.1 i j p1 p3 (by omega) a b (p2▸ha) (p4▸hb)
    ·exact⟨U,Lb _,hU,λa ha=>absurd ⟨a,ha⟩ hq,λj s a hj=>hlo j s a (by omega)⟩
   refine QAN (by decide) (hl'.go hw' hx5) hU1 hU3 (hxs'.trans hx5) hw5 hs5 hsrc (by omega) (by omega) ?_;intro v' H6 hl6 hk6;simp only[Qb,simprocAttr,r38,ei];have htk:acc++(cs.take (i+1)).map (VU k)=acc++(cs.take i).map (VU k)++[VU k w]:=by rw[Nv,hwi,N6,LQ];rfl
   refine⟨cs.length - (i+1),by omega,i+1,by omega,rfl,hk6.w,?_,?_,?_,?_,?_,?_⟩
   ·simp only[Qg,simprocAttr];rw[htk];exact⟨U',by have:=hx5.next;have:=hk6.next;omega,hl6,hU4⟩
   ·simp only[Qg,simprocAttr];exact(hg.trans (GX.ext hx5)).trans (GX.gk hk6)
   ·simp only[Qg,simprocAttr,r36]
   ·simp only[Qg,simprocAttr,r37]
   ·simp only[Qg,simprocAttr]
   ·simp only[RgS,Qg,simprocAttr,e1,e7,e8,e9,e15,e16,e17,e21,e22,e23,RU]
  ·have h2:i=cs.length:=by have:=Ll h2;omega
   subst h2;rw[Nr]at hl';simp only[Qb,simprocAttr];refine hk _ _ _ rfl ?_ hw' ?_ ?_
   ·simp only[RgS,Qg,simprocAttr,e1,e7,e8,e9,e15,e16,e17,e21,e22,e23,RU]
   ·simp only[Qg,simprocAttr];exact hl'.mono hU
   ·simp only[Qg,simprocAttr];exact hg
def frm (L:List Fm)(op:Int)(m:List Ar)(k:Nat):List Ld:=match L[k]? with | some f=>(Qk8 f op m).map (VU k) | none=>[]
theorem Qv2 (L:List Fm)(op:Int)(m:List Ar)(k:Nat):(frm L op m k).length<=24:=by
 unfold frm;split
 ·rw[Nn];exact Qis _ _ _
 ·simp
def QcK (L:List Fm)(op:Int)(l:List Ar):List Ld:=(Z9 op l).flatMap λm=>(List.range L.length).flatMap (frm L op m)
def RgO (A A':Env):Prop:=A' 1=A 1∧A' 15=A 15∧A' 16=A 16∧A' 17=A 17
theorem QJ4 {Hs H:Qa}{acc:List Ld}{v fv sv:Value}{xs:List Lf}{op:Int}{m:List Ar}{B:Nat}{A:Env}(hcl:acc.length<=500000)(hxl:xs.length<=6000)(hml:m.length<=1000)(hI:∀a∈m,I64 a.n)(hws:Hs.Wf)(hxs:Ext Hs H)(hw:H.Wf)(hl:LsU 41 Hs H v acc H.next)(hf:QiJ Hs fv xs)(hfr:∀x∈xs,x.Fr 0)(hsv:Qv Hs sv m)(hbl:∀n,Hs.next<=n->Qh n 6 (.agg #[.int .i64 op,sv])=true)
  (gB:H.get B=some (.cells [.int .i64 op,sv] 24 false)) (hB:¬inB v B) (r5:A 5=v) (r7:A 7=.pointer (some ⟨B,0,none⟩)) (r21:A 21=fv) (r22:A 22=.int .i64 xs.length) (r23:A 23=.int .i64 0)
  (hk:∀A' H' v',A' 5=v'->RgO A A'->H'.Wf->LsU 41 Hs H' v' (acc++(List.range xs.length).flatMap (frm (xs.map (·.f)) op m)) H'.next->GX v H v' H'->K A' H'):
  Qm prog (.block 2 (.loop Qdy)) ⟨R,E⟩ K A H:=by
 obtain⟨fa,fc,rfl,hf1⟩:=hf.1;have hf2:=hf.2;simp only[KG,simprocAttr];refine Qo (λq A' H'=>∃i:Nat,i<=xs.length∧q=xs.length - i∧H'.Wf∧LsU 41 Hs H' (A' 5) (acc++(List.range i).flatMap (frm (xs.map (·.f)) op m)) H'.next∧GX v H (A' 5) H'∧A' 7=.pointer (some ⟨B,0,none⟩)∧A' 21=.slice fa xs.length fc∧A' 22=.int .i64 xs.length∧A' 23=.int .i64 i∧RgO A A') xs.length ?_ ?_
 ·refine⟨0,L7 _,by omega,hw,?_,?_,r7,r21,r22,r23,?_⟩
  ·simp only[r5,List.range_zero,DG,Na];exact hl
  ·rw[r5];exact GX.refl _ _
  ·simp only[RgO,RU]
 ·rintro q A' H' ⟨i,hi,rfl,hw',hl',hg,r7,r21,r22,r23,hA⟩;obtain⟨e1,e15,e16,e17⟩:=id hA;simp only[Qdy,Qb,simprocAttr,r22,r23];refine Qf (λh2=>?_) (λh2=>?_)
  ·have h2:i<xs.length:=by have:=Lg h2;omega
   have hxs':=hg.old hxs hl.ls.own;obtain⟨b,e,ro,rfl,hgb0⟩:=hf1 (by omega);have hgb:H'.get b=some (.cells (Ws xs) e ro):=by rw[hxs'.get _ (hws.lt hgb0)];exact hgb0
   obtain⟨x,hxi⟩:∃x,xs[i]? = some x:=⟨_,La h2⟩;have hat:=Qaa xs i x hxi;have hll:=Xc xs;have d1:(0:Int)<=i∧(i:Int)<xs.length:=by omega
   have d3:(i:Int).toNat=i:=by omega
   have ei:IntKind.i64.wrap ((i:Int)+1)=((i+1:Nat):Int):=by rw[w64 (by unfold I64;omega)];omega
   have hgB:H'.get B=some (.cells [.int .i64 op,sv] 24 false):=by rw[hg.keep B (hw.lt gB) hB];exact gB
   have e10:x.cells.take 10=x.cells:=rfl;have lB:=hw'.lt hgB;have nB:¬B=H'.next:=by omega
   have hdr:x.cells++List.drop x.cells.length [.int .i64 0,.slice none 0 0,.slice none 0 0,.int .i64 0,.int .i64 0,.int .i64 0,.int .i64 0,.int .i64 0,.bool false,.int .i64 0]=x.cells:=Na _;simp only[QiM,Qb,simprocAttr,r7,r21,r23,d1,d3,hgb,hat,hgB,nB,LN,Lw,hdr,e10];refine⟨by omega,⟨rfl,Lb _,?_⟩,Lb _,?_⟩
   ·exact Qeu (hf2 x (Ln hxi))
   generalize hH1:Qa.set (Qa.push H' _) _ _=H1;have hx1:Ext H' H1:=by rw[<- hH1];exact((Ext.refl H').push _).set (Lb _) _
   have hw1:H1.Wf:=by rw[<- hH1];exact(hw'.push _).set (b0:=.cells [.int .i64 0,.slice none 0 0,.slice none 0 0,.int .i64 0,.int .i64 0,.int .i64 0,.int .i64 0,.int .i64 0,.bool false,.int .i64 0] 45 false) (by rw[Qd,Lc rfl]) _
   clear hH1;have hx01:=hxs'.trans hx1;have hxm:=Ln hxi;refine(QvW H1 ((hf2 x hxm).ext hws hx01) (hfr x hxm) (hsv.ext hws hx01) (λn hn=>hbl n (by have:=hx01.next;omega)) hml hI).thenW ?_;rintro _ H2 hn2 hw2 ⟨cv,rfl,hc,hx2⟩;have hx12:=hx1.trans hx2;have hfi:(xs.map (·.f))[i]? = some x.f:=by rw[LD,hxi];rfl
   have hfrm:(List.range (i+1)).flatMap (frm (xs.map (·.f)) op m)=(List.range i).flatMap (frm (xs.map (·.f)) op m)++(Qk8 x.f op m).map (VU i):=by
    rw[R0,Bm];simp only[Ba,DG,Na,frm,hfi]
   have hl2:LsU 41 Hs H2 (A' 5) _ H1.next:=(hl'.go hw' hx12).mono hx1.next;simp only[Qb,simprocAttr];cases hz:decide (0<(Qk8 x.f op m).length) with
   | false=>
    have h0:Qk8 x.f op m=[]:=N2.1 (by have:=Ll hz;omega);simp only[Qb,simprocAttr,LM,r23,ei];refine⟨xs.length - (i+1),by omega,i+1,by omega,rfl,hw2,?_,?_,?_,?_,?_,?_,?_⟩
    ·simp only[Qg,simprocAttr];rw[hfrm,h0,Bq,Na];exact hl2.mono hx2.next
    ·simp only[Qg,simprocAttr];exact hg.trans (GX.ext hx12)
    ·simp only[Qg,simprocAttr,r7]
    ·simp only[Qg,simprocAttr,r21]
    ·simp only[Qg,simprocAttr,r22]
    ·simp only[Qg,simprocAttr]
    ·simp only[RgO,Qg,simprocAttr,e1,e15,e16,e17,RU]
   | true=>
    simp only[Qb,simprocAttr,L8];have hlow:∀id,inB (A' 5) id->id<H1.next:=λid h=>by
     obtain⟨ss,_,hq,_⟩:=hl'.it;have:=(hq.low hw' h).2;have:=hx1.next;omega
    refine QJ3 (Hs:=Hs) (v:=A' 5) (k:=(i:Int)) ?_ (hx01.trans hx2) hw2 hl2 hc hx01.next hx2.next hlow ?_ ?_ ?_ ?_
    ·have h1:=Qis x.f op m;have h2:=Kb (f:=frm (xs.map (·.f)) op m) (n:=24) (List.range i) λk _=>Qv2 _ _ _ _;rw[BO]at h2;rw[Lh];omega
    ·simp only[Qg,simprocAttr]
    ·simp only[Qg,simprocAttr]
    ·simp only[Qg,simprocAttr]
    ·rintro A2 H3 v3 rfl ⟨f1,f7,f8,f9,f15,f16,f17,f21,f22,f23⟩ hw3 hl3 hg3;simp only[Qg,simprocAttr]at f1 f7 f15 f16 f17 f21 f22 f23;simp only[Qb,simprocAttr,f23,r23,ei];refine⟨xs.length - (i+1),by omega,i+1,by omega,rfl,hw3,?_,?_,?_,?_,?_,?_,?_⟩
     ·simp only[Qg,simprocAttr];rw[hfrm,<- LQ];exact hl3
     ·simp only[Qg,simprocAttr];exact(hg.trans (GX.ext hx12)).trans hg3
     ·simp only[Qg,simprocAttr,f7,r7]
     ·simp only[Qg,simprocAttr,f21,r21]
     ·simp only[Qg,simprocAttr,f22,r22]
     ·simp only[Qg,simprocAttr]
     ·simp only[RgO,Qg,simprocAttr,f1,f15,f16,f17,e1,e15,e16,e17,RU]
  ·have h2:i=xs.length:=by have:=Ll h2;omega
   subst h2;simp only[Qb,simprocAttr];refine hk _ _ _ rfl ?_ hw' ?_ ?_
   ·simp only[RgO,Qg,simprocAttr,e1,e15,e16,e17,RU]
   ·simp only[Qg,simprocAttr];exact hl'
   ·simp only[Qg,simprocAttr];exact hg
end
theorem Qv3 (op:Int):∀ (vs:List Value) (i:Nat) (s:Value),vs[i]? = some s->((QxZ op vs).drop (i * 2)).take 2=[.int .i64 op,s]
 | [],_,_,h=>by simp at h
 | v::vs,0,_,h=>by cases h;rfl
 | v::vs,i+1,s,h=>by
  have e:QxZ op (v::vs)=[.int .i64 op,v]++QxZ op vs:=rfl;rw[e,show(i+1) * 2=2+i * 2 by omega,<- Rc];exact Qv3 op vs i s h
theorem Qs2 (op:Int):∀vs:List Value,(QxZ op vs).length=vs.length * 2
 | []=>rfl
 | v::vs=>by
  have e:QxZ op (v::vs)=[.int .i64 op,v]++QxZ op vs:=rfl;rw[e,Lh,Qs2 op vs,Lo,Lo,Lo,L9];omega
theorem QzP {ib:Int×Bool}{a:Ar}(h:I64 a.n):I64 (VT ib a).1.n:=by
 have h0:I64 0:=by unfold I64;omega
 have hb:I64 (Wu a).1.n:=by
  unfold Wu QdD;split
  ·split
   ·exact h0
   ·split
    ·exact h0
    ·exact h
  ·exact h0
 unfold VT;simp only;split
 ·exact h
 ·split
  ·exact QsQ _ _ _ hb
  ·exact hb
theorem QqQ {ib:Int×Bool}:∀ {l:List Ar},(∀a∈l,I64 a.n)->∀a∈(XE ib l).1,I64 a.n
 | [],_,a,ha=>by cases ha
 | b::l,h,a,ha=>by
  unfold XE at ha;split at ha
  ·rcases LK.1 ha with rfl | ha
   ·exact QzP (h b (Ny ..))
   ·exact QqQ (λc hc=>h c (NA _ hc)) a ha
  ·cases ha
theorem QCq {op:Int}{l:List Ar}(h:∀a∈l,I64 a.n):∀a∈ZR op l,I64 a.n:=by
 have hr:∀a∈l.reverse,I64 a.n:=λa ha=>h a (List.mem_reverse.1 ha);unfold ZR;split
 ·split
  ·intro a ha;refine h a ?_;simp only[LK,Ns,NN]at ha ⊢;rcases ha with h | h | h<;>simp[h]
  ·exact h
 ·split
  ·exact hr
  ·split
   ·exact hr
   ·exact h
theorem QzQ {op:Int}{l:List Ar}(h:∀a∈l,I64 a.n):∀a∈(Wa op l).2.1,I64 a.n:=by
 unfold Wa;split
 ·intro a ha;cases ha
 ·split
  ·intro a ha;cases ha
  ·exact QCq (QqQ h)
theorem QuQ {op:Int}{l:List Ar}(hI:∀a∈l,I64 a.n):(Z9 op l).length<=2∧∀m∈Z9 op l,m.length<=5∧∀a∈m,I64 a.n:=by
 have h1:=Qs0 op l;have h2:=QzQ (op:=op) hI;unfold Z9;split
 ·refine⟨by split<;>simp,λm hm=>?_⟩;rcases LI.1 hm with hm | hm
  ·rw[Sa]at hm;subst hm;exact⟨h1,h2⟩
  ·split at hm
   ·rw[Sa]at hm;subst hm;exact⟨by rw[List.length_reverse];exact h1,λa ha=>h2 a (List.mem_reverse.1 ha)⟩
   ·cases hm
 ·simp
theorem Qo4 {op:Int}{va fv:Value}{l:List Ar}{xs:List Lf}(H:Qa)(ha:Qv H va l)(hl:l.length<=1000)(hI:∀a∈l,I64 a.n)(hf:QiJ H fv xs)(hfr:∀x∈xs,x.Fr 0)(hxl:xs.length<=6000):
  Qe prog 29 [.agg #[.int .i64 op,va],fv] H λv H'=>LsU 41 H H' v (QcK (xs.map (·.f)) op l) H'.next∧Ext H H':=by
 refine QtB λhw=>?_;obtain⟨a0,cap,rfl⟩:=Qu ha;obtain⟨fa,fc,rfl,_⟩:=id hf.1;simp only[Ql8,KG,simprocAttr];generalize hH1:Qa.push H _=H1;have g1:H1.get H.next=some (.cells [.int .i64 op,.slice a0 l.length cap] 24 false):=by rw[<- hH1,Qd,Lc rfl];rfl
 have hx1:Ext H H1:=by rw[<- hH1];exact(Ext.refl H).push _
 have hw1:H1.Wf:=by rw[<- hH1];exact hw.push _
 clear hH1;simp only[Qb,simprocAttr,g1];refine(Qp0 H1 (ha.ext hw hx1) hl hI).thenW ?_;rintro sv Hs hn2 hws ⟨hsp,hx12⟩;have hxs:=hx1.trans hx12;obtain⟨hspl,hspm⟩:=QuQ (op:=op) hI;obtain⟨vs,hvl,hvi,hva⟩:=hsp;obtain⟨sa,sc,rfl,hs1⟩:=hvi;have eall:QcK (xs.map (·.f)) op l=(Z9 op l).flatMap λm=>(List.range xs.length).flatMap (frm (xs.map (·.f)) op m):=by unfold QcK;rw[Nn]
 rw[eall];generalize Z9 op l=sp at *;simp only[Qb,simprocAttr,Wj];refine Qo (λq A' H'=>∃i:Nat,i<=sp.length∧q=sp.length - i∧H'.Wf∧Ext Hs H'∧LsU 41 Hs H' (A' 5) ((sp.take i).flatMap λm=>(List.range xs.length).flatMap (frm (xs.map (·.f)) op m)) H'.next∧A' 1=.slice fa xs.length fc∧A' 15=.slice sa sp.length sc∧A' 16=.int .i64 sp.length∧A' 17=.int .i64 i) sp.length ?_ ?_
 ·refine⟨0,L7 _,by omega,hws,.refl _,?_,?_,?_,?_,?_⟩
  ·simp only[Qg,simprocAttr];exact LsU.nil _ _ _ _
  all_goals simp only[Qg,simprocAttr]
  all_goals rfl
 ·rintro q A' H' ⟨i,hi,rfl,hw',hx',hl',r1,r15,r16,r17⟩;simp only[QiO,Qb,simprocAttr,r16,r17];refine Qf (λh2=>?_) (λh2=>?_)
  ·have h2:i<sp.length:=by have:=Lg h2;omega
   obtain⟨b,e,ro,rfl,hgb0⟩:=hs1 (by omega);have hgb:H'.get b=some (.cells (QxZ op vs) e ro):=by rw[hx'.get _ (hws.lt hgb0)];exact hgb0
   obtain⟨s,hsi⟩:∃s,vs[i]? = some s:=⟨_,La (by omega)⟩;obtain⟨m,hmi⟩:∃m,sp[i]? = some m:=⟨_,La h2⟩;have hat:=Qv3 op vs i s hsi;have hll:=Qs2 op vs;have d1:(0:Int)<=i∧(i:Int)<sp.length:=by omega
   have d3:(i:Int).toNat=i:=by omega
   have ei:IntKind.i64.wrap ((i:Int)+1)=((i+1:Nat):Int):=by rw[w64 (by unfold I64;omega)];omega
   obtain⟨hsa,hbl⟩:=hva i s m hsi hmi;obtain⟨hm5,hmI⟩:=hspm m (Ln hmi);obtain⟨sa,sc,rfl⟩:=Qu hsa;simp only[QiN,Qb,simprocAttr,r1,r15,r17,d1,d3,hgb,hat,Wj];refine⟨by omega,?_⟩;generalize hH2:Qa.set (Qa.push H' _) _ _=H2;have hx2:Ext H' H2:=by rw[<- hH2];exact((Ext.refl H').push _).set (Lb _) _
   have hw2:H2.Wf:=by rw[<- hH2];exact(hw'.push _).set (b0:=.cells [.int .i64 0,.slice none 0 0] 24 false) (by rw[Qd,Lc rfl]) _
   have g2:H2.get H'.next=some (.cells [.int .i64 op,.slice sa m.length sc] 24 false):=by rw[<- hH2,Qq,Lc rfl]
   clear hH2;have hno:¬inB (A' 5) H'.next:=λh=>by
    obtain⟨ss,_,hq,_⟩:=hl'.it;have:=(hq.low hw' h).2;omega
   have hacc:((sp.take i).flatMap λm=>(List.range xs.length).flatMap (frm (xs.map (·.f)) op m)).length<=500000:=by
    have h1:=Kb (f:=λm=>(List.range xs.length).flatMap (frm (xs.map (·.f)) op m)) (n:=144000) (sp.take i) λm _=>by
     have h2:=Kb (f:=frm (xs.map (·.f)) op m) (n:=24) (List.range xs.length) λk _=>Qv2 _ _ _ _;rw[BO]at h2;omega
    rw[Sb]at h1;omega
   refine QJ4 (Hs:=Hs) (v:=A' 5) (xs:=xs) (m:=m) (B:=H'.next) hacc hxl (by omega) hmI hws (hx'.trans hx2) hw2 ((hl'.go hw' hx2).mono hx2.next) (hf.ext hw hxs) hfr hsa hbl g2 hno ?_ ?_ ?_ ?_ ?_ ?_
   ·simp only[Qg,simprocAttr]
   ·simp only[Qg,simprocAttr]
   ·simp only[Qg,simprocAttr]
   ·simp only[Qg,simprocAttr]
   ·simp only[Qg,simprocAttr]
   ·rintro A2 H3 v3 rfl ⟨f1,f15,f16,f17⟩ hw3 hl3 hg3;simp only[Qg,simprocAttr]at f1 f15 f16 f17;have hx3:=hg3.old (hx'.trans hx2) hl'.ls.own;have htk:(sp.take (i+1)).flatMap (λm=>(List.range xs.length).flatMap (frm (xs.map (·.f)) op m))=(sp.take i).flatMap (λm=>(List.range xs.length).flatMap (frm (xs.map (·.f)) op m))++(List.range xs.length).flatMap (frm (xs.map (·.f)) op m):=by
     rw[Nv,hmi,Bm];simp
    simp only[Qb,simprocAttr,f17,r17,ei];refine⟨sp.length - (i+1),by omega,i+1,by omega,rfl,hw3,hx3,?_,?_,?_,?_,?_⟩
    ·simp only[Qg,simprocAttr];rw[htk];exact hl3
    ·simp only[Qg,simprocAttr,f1,r1]
    ·simp only[Qg,simprocAttr,f15,r15]
    ·simp only[Qg,simprocAttr,f16,r16]
    ·simp only[Qg,simprocAttr]
  ·have h2:i=sp.length:=by have:=Ll h2;omega
   subst h2;rw[Nr]at hl';simp only[Qb,simprocAttr,Qsl];have hxf:=hxs.trans hx';exact .mk hxf.next ⟨hl'.down hxs.next,hxf⟩
def Qnl (L:List Fm)(op:Int)(l:List Ar):List Ld×Int:=
 if(Q8 op l==0)=false then([],Q8 op l) else if(QcK L op l).isEmpty=true then([],8) else(QcK L op l,0)
section
variable {T:Qa->Prop} {L:Int->List Fm} (hT:∀H H',H.Wf->T H->Ext H H'->T H') (hO:∀op H,T H->Qe prog 15 [.int .i64 op] H λu H'=>Qnf H H' u (L op))
include hT hO
theorem Qv4 {op:Int}{va:Value}{l:List Ar}(H:Qa)(hTH:T H)(ha:Qv H va l)(hva:∀n,H.next<=n->Qh n 6 (.agg #[.int .i64 op,va])=true)(hl:l.length<=1000)(hI:∀a∈l,I64 a.n):
  Qe prog 14 [.agg #[.int .i64 op,va]] H λu H'=>∃v,u=.tuple #[v,.int .i64 (Qnl (L op) op l).2]∧LsU 41 H H' v (Qnl (L op) op l).1 H'.next∧Ext H H':=by
 refine QtA λhw=>?_;obtain⟨a0,cap,rfl⟩:=Qu ha;obtain⟨W,eW⟩:∃W,W=Qnl (L op) op l:=⟨_,rfl⟩;rw[<- eW];unfold Qnl at eW;simp only[Ql7,KG,simprocAttr];generalize hH1:Qa.push H _=H1;have g1:H1.get H.next=some (.cells [.int .i64 op,.slice a0 l.length cap] 24 false):=by rw[<- hH1,Qd,Lc rfl];rfl
 have hx1:Ext H H1:=by rw[<- hH1];exact(Ext.refl H).push _
 have hw1:H1.Wf:=by rw[<- hH1];exact hw.push _
 clear hH1;simp only[Qb,simprocAttr,g1];refine(Qd9 op _ l H1 (ha.ext hw hx1) hl hI).thenW ?_;rintro _ _ hn2 hw2 ⟨rfl,kk,rfl⟩;have hx12:Ext H1 (H1.up kk):=(Ext.refl H1).up hn2;generalize H1.up kk=H2 at *;have hx2:=hx1.trans hx12;have g2:H2.get H.next=some (.cells [.int .i64 op,.slice a0 l.length cap] 24 false):=by rw[hx12.get _ (hw1.lt g1)];exact g1
 simp only[Qb,simprocAttr];cases he:Q8 op l==0 with
 | false=>
  rw[he,Lc rfl]at eW;simp only[Qb,simprocAttr,LM,Qez];exact .mk hx2.next ⟨_,by rw[eW],by rw[eW];exact LsU.nil _ _ _ _,hx2⟩
 | true=>
  rw[he,Le (by simp)]at eW;simp only[Qb,simprocAttr,L8,g2];refine⟨hva _ hx2.next,?_⟩;refine(hO op H2 (hT _ _ hw hTH hx2)).thenW ?_;rintro fv H3 hn3 hw3 ⟨hx23,ys,ey,hya,hyl,hyf⟩;have hx3:=hx2.trans hx23;simp only[Qb,simprocAttr];refine⟨hx23.eqB,?_⟩;refine(Qo4 H3 (ha.ext hw hx3) hl hI hya.fms (λx hx=>(hyf x hx).mono (L7 _)) hyl).thenW ?_;rintro v H4 hn4 hw4 ⟨hv,hx34⟩;rw[ey]at hv;have hx4:=hx3.trans hx34;have hv:=hv.down hx3.next;generalize QcK (L op) op l=Q at *;obtain⟨a4,c4,rfl⟩:=hv.ls.slc;simp only[Qb,simprocAttr,Wj];refine Qf (λh=>?_) (λh=>?_)
  ·have h0:Q=[]:=N2.1 (by simpa using h);rw[h0,Lc (show([]:List Ld).isEmpty=true from rfl)]at eW;simp only[Qb,simprocAttr,Qez];exact .mk hx4.next ⟨_,by rw[eW],by rw[eW];exact LsU.nil _ _ _ _,hx4⟩
  ·have h0:Q≠[]:=λh0=>by rw[h0]at h;simp at h
   rw[Le (by simpa using h0)]at eW;simp only[Qb,simprocAttr,Qez];exact .mk hx4.next ⟨_,by rw[eW],by rw[eW];exact hv,hx4⟩
end
def QqR (n:Nat):Option (List Int)->Bool | none=>true | some b=>decide (n<b.length)
def VD (w:Int)(fs:List Fm)(best:Option (List Int))(c:Ld):Option (List Int):=
 if(fs[c.x.toNat]?.elim false λf=>Qja w f c.h)&&QqR c.b.length best then some c.b else best
def QFP:Option (List Int)->List Int×Int | none=>([],8) | some b=>(b,0)
def QjO (L:List Fm)(op:Int)(l:List Ar)(w:Int):List Int×Int:=
 if(Q8 op l==0)=false then([],Q8 op l)
 else if(decide (w<0)||decide (3<w))=true then([],2)
 else QFP ((QcK L op l).foldl (VD w L) none)
theorem QHM {f:Fm}{l:List Ar}{e:List Int}{w c:Ld}(h:c∈Qge f l e w):c.b≠[]:=by
 unfold Qge at h;obtain⟨hd,_,rfl⟩:=N4.1 h;simp
theorem QHN {f:Fm}{op:Int}{l:List Ar}{c:Ld}(h:c∈Qk8 f op l):c.b≠[]:=by
 unfold Qk8 at h;split at h
 ·obtain⟨w,_,h⟩:=NF.1 h;exact QHM h
 ·cases h
theorem Qs3 (op:Int)(l:List Ar):(Z9 op l).length<=2:=by
 unfold Z9;split
 ·split<;>simp
 ·simp
theorem QFQ {L:List Fm}{op:Int}{l:List Ar}(hL:L.length<=6000):(QcK L op l).length<=288000:=by
 unfold QcK;have h0:=Qs3 op l;have h1:=Kb (f:=λm=>(List.range L.length).flatMap (frm L op m)) (n:=144000) (Z9 op l) λm _=>by
  have h2:=Kb (f:=frm L op m) (n:=24) (List.range L.length) λk _=>Qv2 _ _ _ _;rw[BO]at h2;omega
 omega
theorem QFR {L:List Fm}{op:Int}{l:List Ar}{c:Ld}(h:c∈QcK L op l):∃m∈Z9 op l,∃ (k:Nat) (f:Fm),L[k]? = some f∧∃w∈Qk8 f op m,c=VU k w:=by
 unfold QcK at h;obtain⟨m,hm,h⟩:=NF.1 h;obtain⟨k,_,h⟩:=NF.1 h;unfold frm at h;split at h
 ·rename_i f hf;obtain⟨w,hw,rfl⟩:=N4.1 h;exact⟨m,hm,k,f,hf,w,hw,rfl⟩
 ·cases h
def Qx1 (H0 H:Qa)(v:Value):Option (List Int)->Prop
 | none=>v=.slice none 0 0
 | some b=>b≠[]∧Gx 1 5 H0 H v b.length (bys b)
theorem Qx1.go {H0 H H':Qa}{v:Value}{o:Option (List Int)}(h:Qx1 H0 H v o)(hw:H.Wf)(hx:Ext H H'):Qx1 H0 H' v o:=by
 cases o with
 | none=>exact h
 | some b=>exact⟨h.1,h.2.go hw hx⟩
section
variable {T:Qa->Prop} {L:Int->List Fm} (hT:∀H H',H.Wf->T H->Ext H H'->T H') (hO:∀op H,T H->Qe prog 15 [.int .i64 op] H λu H'=>Qnf H H' u (L op))
include hT hO
theorem QJ5 {op:Int}{va:Value}{l:List Ar}{w:Int}{H H2:Qa}{B:Nat}{W:List Int×Int}(hw:H.Wf)(hTH:T H)(ha:Qv H va l)(hl:l.length<=1000)(hI:∀a∈l,I64 a.n)(hx2:Ext H H2)(hw2:H2.Wf)(g2:H2.get B=some (.cells [.int .i64 op,va] 24 false))
  (eW:W=QFP ((QcK (L op) op l).foldl (VD w (L op)) none)) {A:Env} (r1:A 1=.int .i64 w) (r2:A 2=.pointer (some ⟨B,0,none⟩)):
  Qm prog VQ ⟨Rt prog Tryz.f9 H λu H'=>∃v,u=.tuple #[v,.int .i64 W.2]∧Gx 1 5 H H' v W.1.length (bys W.1)∧Ext H H',WJ⟩ (Rt prog Tryz.f9 H λu H'=>∃v,u=.tuple #[v,.int .i64 W.2]∧Gx 1 5 H H' v W.1.length (bys W.1)∧Ext H H') A H2:=by
 obtain⟨a0,cap,rfl⟩:=Qu ha;simp only[VQ,Qb,simprocAttr,r2,g2];refine(hO op H2 (hT _ _ hw hTH hx2)).thenW ?_;rintro fv H3 hn3 hw3 ⟨hx23,ys,ey,hya,hyl,hyf⟩;have hx3:=hx2.trans hx23;have g3:H3.get B=some (.cells [.int .i64 op,.slice a0 l.length cap] 24 false):=by rw[hx23.get _ (hw2.lt g2)];exact g2
 simp only[Qb,simprocAttr,r2,g3];refine(Qo4 H3 (ha.ext hw hx3) hl hI hya.fms (λx hx=>(hyf x hx).mono (L7 _)) hyl).thenW ?_;rintro v H4 hn4 hw4 ⟨hv,hx34⟩;have hv:=hv.ls;rw[ey]at hv;have hx4:=hx3.trans hx34;have hys:=hya.fms.ext hw3 hx34;have hQl:(QcK (L op) op l).length<=288000:=QFQ (by rw[<- ey,Nn];exact hyl);generalize hQ:QcK (L op) op l=Q at *;obtain⟨va4,c4,rfl⟩:=hv.slc;obtain⟨⟨fa,fc,rfl,hf1⟩,hf2⟩:=hys;have hst:Qvt prog 27=true:=by kernel_rfl
 simp only[Qb,simprocAttr,Wj];refine Qo (λq A' H'=>∃i:Nat,i<=Q.length∧q=Q.length - i∧H'.Wf∧Ext H4 H'∧Qx1 H3 H' (A' 8) ((Q.take i).foldl (VD w (L op)) none)∧A' 1=.int .i64 w∧A' 7=.slice fa ys.length fc∧A' 27=.slice va4 Q.length c4∧A' 28=.int .i64 Q.length∧A' 29=.int .i64 i) Q.length ?_ ?_
 ·refine⟨0,L7 _,by omega,hw4,.refl _,?_,?_,?_,?_,?_,?_⟩
  ·simp only[Qg,simprocAttr];rfl
  all_goals simp only[Qg,simprocAttr,r1]
  all_goals rfl
 ·rintro q A' H' ⟨i,hi,rfl,hw',hx',hb,r1,r7,r27,r28,r29⟩;simp only[Qex,Qb,simprocAttr,r28,r29];refine Qf (λh2=>?_) (λh2=>?_)
  ·have h2:i<Q.length:=by have:=Lg h2;omega
   obtain⟨ss,hsl,hgss,hgs⟩:=(hv.go hw4 hx').it;obtain⟨b,rfl,hgb⟩:∃b,va4=some ⟨b,0,none⟩∧H'.get b=some (.cells (ldC ss Q) 41 false):=by
    rcases hgss with⟨h,h',_⟩ | ⟨b,c,h,q1,q2,_⟩
    ·omega
    ·cases h;exact⟨b,rfl,q2⟩
   obtain⟨sv,hsv⟩:∃sv,ss[i]? = some sv:=⟨_,La (by omega)⟩;obtain⟨c,hci⟩:∃c,Q[i]? = some c:=⟨_,La h2⟩;have hs4:=hgs i sv c hsv hci;have hat:=Qgf ss Q i sv c hsv hci;have hll:(ldC ss Q).length=Q.length * 3:=by rw[Qf0 _ _ hsl]
   have hcm:=Ln hci;rw[<- hQ]at hcm;obtain⟨m,_,k,f,hk,w0,hw0,rfl⟩:=QFR hcm;have hne:w0.b≠[]:=QHN hw0;have hpos:0<w0.b.length:=Rj.2 hne;have hky:k<ys.length:=by have:=(Lk.1 hk).1;rw[<- ey,Nn]at this;exact this
   obtain⟨y,hyk⟩:∃y,ys[k]? = some y:=⟨_,La hky⟩;have hyf':y.f=f:=by rw[<- ey,LD,hyk]at hk;exact Ly hk
   obtain⟨bf,ef,rof,rfl,hgf0⟩:=hf1 (by omega);have hgf:H'.get bf=some (.cells (Ws ys) ef rof):=by rw[hx'.get _ (hw4.lt hgf0)];exact hgf0
   have haty:=Qaa ys k y hyk;have hly:=Xc ys;have d1:(0:Int)<=i∧(i:Int)<Q.length:=by omega
   have d2:(0:Int)<=k∧(k:Int)<ys.length:=by omega
   have d3:(i:Int).toNat=i:=by omega
   have d4:(k:Int).toNat=k:=by omega
   have ei:IntKind.i64.wrap ((i:Int)+1)=((i+1:Nat):Int):=by rw[w64 (by unfold I64;omega)];omega
   have ex:(VU (k:Int) w0).x=k:=rfl;have eh:(VU (k:Int) w0).h=w0.h:=rfl;have eb:(VU (k:Int) w0).b=w0.b:=rfl;rw[eb]at hs4;obtain⟨ai,ci,rfl⟩:=hs4.slc;have lf:=hw'.lt hgf;have nf:¬bf=H'.next:=by omega
   rw[ex,eh]at hat;simp only[Qew,Qb,simprocAttr,r1,r7,r27,r29,d1,d2,d3,d4,hgb,hat,hgf,haty,nf,LN];refine⟨by omega,by omega,?_⟩;generalize hH5:Qa.set (Qa.push H' _) _ _=H5;have hx5:Ext H' H5:=by rw[<- hH5];exact((Ext.refl H').push _).set (Lb _) _
   have hw5:H5.Wf:=by rw[<- hH5];exact(hw'.push _).set (b0:=.cells [.slice none 0 0,.int .i64 0,.int .i64 0] 41 false) (by rw[Qd,Lc rfl]) _
   have g5:H5.get H'.next=some (.cells [.slice ai w0.b.length ci,.int .i64 k,.int .i64 w0.h] 41 false):=by rw[<- hH5,Qq,Lc rfl]
   clear hH5;refine(QpW w w0.h H5 ((hf2 y (Ln hyk)).ext hw4 (hx'.trans hx5))).thenW ?_;rintro _ H6 hn6 hw6 ⟨rfl,hx56⟩;have g6:H6.get H'.next=some (.cells [.slice ai w0.b.length ci,.int .i64 k,.int .i64 w0.h] 41 false):=by rw[hx56.get _ (hw5.lt g5)];exact g5
   have hx6:=hx5.trans hx56;have hg6:Gx 1 5 H3 H6 (.slice ai w0.b.length ci) w0.b.length (bys w0.b):=hs4.go hw' hx6;have htk:(Q.take (i+1)).foldl (VD w (L op)) none=VD w (L op) ((Q.take i).foldl (VD w (L op)) none) (VU k w0):=by rw[Nv,hci,List.foldl_append];rfl
   generalize (Q.take i).foldl (VD w (L op)) none=o at *;have hstp:VD w (L op) o (VU k w0)=if Qja w y.f w0.h&&QqR w0.b.length o then some w0.b else o:=by
    unfold VD;rw[ex,d4,hk,hyf',eh,eb];rfl
   simp only[Qb,simprocAttr];cases hp:Qja w y.f w0.h with
   | false=>
    rw[hp,NG,Le (by decide)]at hstp;simp only[Qb,simprocAttr,r29,ei];refine⟨Q.length - (i+1),by omega,i+1,by omega,rfl,hw6,hx'.trans hx6,?_,?_,?_,?_,?_,?_⟩
    ·simp only[Qg,simprocAttr];rw[htk,hstp];exact hb.go hw' hx6
    all_goals simp only[Qg,simprocAttr,r1,r7,r27,r28]
   | true=>
    rw[hp,LJ]at hstp;have hend:QqR w0.b.length o=true->∀A2:Env,A2 8=.slice ai w0.b.length ci->A2 1=.int .i64 w->A2 7=.slice (some ⟨bf,0,none⟩) ys.length fc->A2 27=.slice (some ⟨b,0,none⟩) Q.length c4->A2 28=.int .i64 Q.length->A2 29=.int .i64 (i+1:Nat)->Qqt (λq A' H'=>∃i:Nat,i<=Q.length∧q=Q.length - i∧H'.Wf∧Ext H4 H'∧Qx1 H3 H' (A' 8) ((Q.take i).foldl (VD w (L op)) none)∧A' 1=.int .i64 w∧A' 7=.slice (some ⟨bf,0,none⟩) ys.length fc∧A' 27=.slice (some ⟨b,0,none⟩) Q.length c4∧A' 28=.int .i64 Q.length∧A' 29=.int .i64 i) (Q.length - i) A2 H6:=λh A2 a8 a1 a7 a27 a28 a29=>
     ⟨Q.length - (i+1),by omega,i+1,by omega,rfl,hw6,hx'.trans hx6,by rw[htk,hstp,Lc h,a8];exact⟨hne,hg6⟩,a1,a7,a27,a28,a29⟩
    simp only[Qb,simprocAttr];cases o with
    | none=>
     have hb:A' 8=.slice none 0 0:=hb;rw[Qlq (a:=none) (n:=0) (c:=0) hst (by simp only[Qg,simprocAttr,hb])];simp only[Qb,simprocAttr,RV,g6,r29,ei];refine hend rfl _ ?_ ?_ ?_ ?_ ?_ ?_
     all_goals simp only[Qg,simprocAttr,r1,r7,r27,r28]
    | some b0=>
     obtain⟨hbn,hbg⟩:=id hb;obtain⟨b8,c8,eb8⟩:∃b c,A' 8=.slice (some ⟨b,0,none⟩) b0.length c:=by
      rcases hbg with⟨_,h,_⟩ | ⟨b,c,h,_⟩
      ·exact absurd (N2.1 h) hbn
      ·exact⟨b,c,h⟩
     rw[Qlq (a:=some ⟨b8,0,none⟩) (n:=b0.length) (c:=c8) hst (by simp only[Qg,simprocAttr,eb8])];simp only[Qb,simprocAttr,Ff,g6,eb8,Wj];refine Qf (λh=>?_) (λh=>?_)
     ·have h:=Lg h;simp only[Qb,simprocAttr,g6,r29,ei];refine hend (by show decide (w0.b.length<b0.length)=true;rw[Lv];omega) _ ?_ ?_ ?_ ?_ ?_ ?_
      all_goals simp only[Qg,simprocAttr,r1,r7,r27,r28]
     ·have h:=Ll h;have hls:QqR w0.b.length (some b0)=false:=by show decide (w0.b.length<b0.length)=false;rw[NY];omega
      rw[hls,Le (by decide)]at hstp;simp only[Qb,simprocAttr,r29,ei];refine⟨Q.length - (i+1),by omega,i+1,by omega,rfl,hw6,hx'.trans hx6,?_,?_,?_,?_,?_,?_⟩
      ·simp only[Qg,simprocAttr,eb8];rw[htk,hstp];rw[eb8]at hb;exact hb.go hw' hx6
      all_goals simp only[Qg,simprocAttr,r1,r7,r27,r28]
  ·have h2:i=Q.length:=by have:=Ll h2;omega
   subst h2;rw[Nr]at hb;simp only[Qev,Qb,simprocAttr];generalize Q.foldl (VD w (L op)) none=o at *;have hxf:=hx4.trans hx';cases o with
   | none=>
    have hb:A' 8=.slice none 0 0:=hb;simp only[QFP]at eW;rw[Qlq (a:=none) (n:=0) (c:=0) hst (by simp only[Qg,simprocAttr,hb])];simp only[Qb,simprocAttr,RV,ZK];exact .mk hxf.next ⟨_,by rw[eW],by rw[eW];exact .inl ⟨rfl,rfl,rfl⟩,hxf⟩
   | some bs=>
    obtain⟨hbn,hbg⟩:=hb;simp only[QFP]at eW;obtain⟨b,c,eb,q1,q2,q3⟩:∃b c,A' 8=.slice (some ⟨b,0,none⟩) bs.length c∧True∧True∧True:=by
     rcases hbg with⟨_,h,_⟩ | ⟨b,c,h,_⟩
     ·exact absurd (N2.1 h) hbn
     ·exact⟨b,c,h,trivial,trivial,trivial⟩
    rw[Qlq (a:=some ⟨b,0,none⟩) (n:=bs.length) (c:=c) hst (by simp only[Qg,simprocAttr,eb])];rw[eb]at hbg;simp only[Qb,simprocAttr,Ff,eb,ZK];exact .mk hxf.next ⟨_,by rw[eW],by rw[eW];exact hbg.down hx3.next,hxf⟩
theorem Qjc {op:Int}{va:Value}{l:List Ar}(w:Int)(H:Qa)(hTH:T H)(ha:Qv H va l)(hva:∀n,H.next<=n->Qh n 6 (.agg #[.int .i64 op,va])=true)(hl:l.length<=1000)(hI:∀a∈l,I64 a.n):
  Qe prog 9 [.agg #[.int .i64 op,va],.int .i64 w] H λu H'=>∃v,u=.tuple #[v,.int .i64 (QjO (L op) op l w).2]∧Gx 1 5 H H' v (QjO (L op) op l w).1.length (bys (QjO (L op) op l w).1)∧Ext H H':=by
 refine Qpw λhw=>?_;obtain⟨a0,cap,rfl⟩:=Qu ha;obtain⟨W,eW⟩:∃W,W=QjO (L op) op l w:=⟨_,rfl⟩;rw[<- eW];unfold QjO at eW;have hnil:∀ (H0 H1:Qa),Gx 1 5 H0 H1 (.slice none 0 0) ([]:List Int).length (bys []):=λ_ _=>.inl ⟨rfl,rfl,rfl⟩;simp only[QgS,KG,simprocAttr];generalize hH1:Qa.push H _=H1;have g1:H1.get H.next=some (.cells [.int .i64 op,.slice a0 l.length cap] 24 false):=by rw[<- hH1,Qd,Lc rfl];rfl
 have hx1:Ext H H1:=by rw[<- hH1];exact(Ext.refl H).push _
 have hw1:H1.Wf:=by rw[<- hH1];exact hw.push _
 clear hH1;simp only[Qb,simprocAttr,g1];refine(Qd9 op _ l H1 (ha.ext hw hx1) hl hI).thenW ?_;rintro _ _ hn2 hw2 ⟨rfl,kk,rfl⟩;have hx12:Ext H1 (H1.up kk):=(Ext.refl H1).up hn2;generalize H1.up kk=H2 at *;have hx2:=hx1.trans hx12;have g2:H2.get H.next=some (.cells [.int .i64 op,.slice a0 l.length cap] 24 false):=by rw[hx12.get _ (hw1.lt g1)];exact g1
 simp only[Qb,simprocAttr];cases he:Q8 op l==0 with
 | false=>
  rw[he,Lc rfl]at eW;simp only[Qb,simprocAttr,LM,ZK];exact .mk hx2.next ⟨_,by rw[eW],by rw[eW];exact hnil _ _,hx2⟩
 | true=>
  rw[he,Le (by simp)]at eW;simp only[Qey,Qb,simprocAttr,L8];cases h0:decide (w<0) with
  | true=>
   rw[h0,N1,Lc rfl]at eW;simp only[Qb,simprocAttr,L8,ZK];exact .mk hx2.next ⟨_,by rw[eW],by rw[eW];exact hnil _ _,hx2⟩
  | false=>
   rw[h0,Nt]at eW;simp only[Qb,simprocAttr,LM];refine Qf (λh=>?_) (λh=>?_)
   ·rw[Lc (by simpa using h)]at eW;simp only[Qb,simprocAttr,ZK];exact .mk hx2.next ⟨_,by rw[eW],by rw[eW];exact hnil _ _,hx2⟩
   ·rw[Le (by simpa using h)]at eW;simp only[Qb,simprocAttr];refine QJ5 hT hO hw hTH ha hl hI hx2 hw2 g2 eW ?_ ?_
    all_goals simp only[Qg,simprocAttr]
end
end Go.Proofs.YtgepgbbjfhggfaaGreatDoor.code
