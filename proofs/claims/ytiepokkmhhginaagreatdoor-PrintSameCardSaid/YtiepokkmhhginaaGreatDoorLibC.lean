/- How many bytes stand behind ModRM. -/
import Derived.Test.YtiepokkmhhginaaGreatDoorC5Dec
import Derived.Test.YtiepokkmhhginaaGreatDoorLibA
import Derived.Test.YtiepokkmhhginaaGreatDoorLibB
import Derived.Test.YtiepokkmhhginaaGreatDoorLibN
import Derived.Test.YtiepokkmhhginaaGreatDoorLibI
import Derived.Test.YtiepokkmhhginaaGreatDoorC6One
set_option linter.unusedVariables false
set_option linter.unusedSimpArgs false
set_option maxRecDepth 100000
set_option maxHeartbeats 4000000
noncomputable section
namespace Go.Proofs.YtiepokkmhhginaaGreatDoor.code
open Go.Ab
def tl0 (s:Int):Int:=if(s==20||s==21||s==26)=true then 1 else if(s==22)=true then 2 else if(s==23||s==24||s==27)=true then 4 else if(s==25)=true then 8 else 0
def tl1 (f:Fm):Int:=if(decide (0<=QM f.slots 5)&&decide (QM f.slots 5<f.shapes.length))=true then tl0 (f.shapes.getD (QM f.slots 5).toNat 0) else 0
def tlF (f:Fm):Int:=bif decide (0<=QM f.slots 7) then tl1 f+1 else tl1 f
theorem QEk (s:Int):0<=tl0 s∧tl0 s<=8:=by
 unfold tl0
 repeat' split
 all_goals decide
theorem QAv (f:Fm):0<=tl1 f∧tl1 f<=8:=by
 unfold tl1;split
 ·exact QEk _
 ·decide
theorem Qr4 (x:Lf) (H:Qa) (hx:x.At H):Qg prog QeF [.agg x.cells.toArray] H λu H'=>u=.int .i64 (tlF x.f)∧∃m,H'=H.up m:=by
 refine QpX λhw=>?_;have ex:(Value.agg x.cells.toArray).cells.toList=x.cells:=rfl;have hx0:Ext H (H.push (.cells x.cells Qf false)):=(Ext.refl H).push _;have hg0:(H.push (.cells x.cells Qf false)).get H.next=some (.cells x.cells Qf false):=by rw[Qd,Lc rfl]
 have hw0:=hw.push (.cells x.cells Qf false);obtain⟨l1,l2,h1,h2⟩:=hx.ext hw hx0;obtain⟨a1,c1,e1,s1⟩:=h1;have x1:x.cells[1]? = some (.slice a1 x.f.shapes.length c1):=by rw[<- e1];rfl
 have qs:=Q6 x 5 _ (hx.ext hw hx0);have q7:=λm (hm:(H.push (.cells x.cells Qf false)).next<=m)=>Q6 x 7 _ (hx.ext hw (hx0.up hm));have hs:tlF x.f=bif decide (0<=QM x.f.slots 7) then tl1 x.f+1 else tl1 x.f:=rfl
 have hs1:tl1 x.f=if(decide (0<=QM x.f.slots 5)&&decide (QM x.f.slots 5<x.f.shapes.length))=true then tl0 (x.f.shapes.getD (QM x.f.slots 5).toNat 0) else 0:=rfl
 have hle:=QAv x.f;generalize tl1 x.f=n at *;generalize tlF x.f=r at *;generalize QM x.f.slots 7=i7 at *;simp only[Qia,ex,Qb,simprocAttr,QQ,WD,x1];generalize H.push (.cells x.cells Qf false)=H1 at *;have last:∀ (A:Env) m,H1.next<=m->A 1=.pointer (some ⟨H.next,0,none⟩)->A 3=.int .i64 n->Qs prog Qak ⟨Rt prog QkA H (λu H'=>u=.int .i64 r∧∃m,H'=H.up m),YO⟩ (Rt prog QkA H (λu H'=>u=.int .i64 r∧∃m,H'=H.up m)) A (H1.up m):=by
  intro A m hm a1' a3;simp only[Qak,Qb,simprocAttr,a1',a3,hg0,QQ,WD];refine(q7 m hm).thenW ?_;rintro _ _ hn1 hw1 ⟨rfl,m2,rfl⟩;have hx2:=(hx0.up hm).up hn1;have en:IntKind.i64.wrap (n+1)=n+1:=w64 (by unfold I64;omega);cases z:decide (0<=i7) with
  | true=>
   rw[z]at hs;simp only[Qb,simprocAttr,z,a3,en,QgI];exact .ext hw hx2 ⟨by rw[hs];rfl,_,rfl⟩
  | false=>
   rw[z]at hs;simp only[Qb,simprocAttr,z,a3,QgI];exact .ext hw hx2 ⟨by rw[hs];rfl,_,rfl⟩
 refine qs.thenW ?_;rintro _ _ hn1 hw1 ⟨rfl,m1,rfl⟩;simp only[Qy]at hn1;generalize QM x.f.slots 5=i at *;simp only[Qb,simprocAttr,hg0,x1];refine QG (λh=>?_) (λh=>?_)<;>simp only[Qb,simprocAttr,hg0,x1,h]
 ·have h0:0<=i:=Lg h;refine Qi (λh'=>?_) (λh'=>?_)<;>simp only[Qb,simprocAttr,hg0,x1]
  ·have h1:i<x.f.shapes.length:=Lg h';obtain⟨b1,e1',ro1,rfl,hb1⟩:=s1 (by omega);have g1:=Qdy (l:=x.f.shapes) (i:=i.toNat) (by omega);rw[Lc (by rw[h,h'];rfl)]at hs1;generalize x.f.shapes.getD i.toNat 0=s at *;have hs2:n=if(s==20||s==21||s==26)=true then 1 else if(s==22)=true then 2 else if(s==23||s==24||s==27)=true then 4 else if(s==25)=true then 8 else 0:=hs1
   clear hs1;simp only[QfE,QfD,QfC,QfB,QfA,h0,h1,Qb,simprocAttr,hg0,x1,hb1,g1];cases z1:s==20<;>cases z2:s==21<;>cases z3:s==26<;>cases z4:s==22<;>cases z5:s==23<;>cases z6:s==24<;>cases z7:s==27<;>cases z8:s==25<;>simp only[Qb,simprocAttr,z1,z2,z3,z4,z5,z6,z7,z8]
   all_goals (rw[z1,z2,z3,z4,z5,z6,z7,z8]at hs2;refine last _ m1 hn1 ?_ ?_<;>simp only[Ql,simprocAttr,hs2])
   all_goals rfl
  ·rw[Le (by rw[h,h'];decide)]at hs1;refine last _ m1 hn1 ?_ ?_<;>simp only[Ql,simprocAttr,hs1]
 ·rw[Le (by rw[h];simp)]at hs1;refine last _ m1 hn1 ?_ ?_<;>simp only[Ql,simprocAttr,hs1]
structure Gv where
 a:Ar
 bits:Int
 n:Int
def Gv.cells (g:Gv):List Value:=[.int .i64 g.a.k,.int .i64 g.a.r.c,.int .i64 g.a.r.n,.int .i64 g.a.m.b.c,.int .i64 g.a.m.b.n,.int .i64 g.a.m.i.c,.int .i64 g.a.m.i.n,.int .i64 g.a.m.sc,.int .i64 g.a.m.d,.int .i64 g.a.m.sz,.int .i64 g.a.n,.int .i64 g.bits,.int .i64 g.n]
def WE (g:Gv) (c:Int):Bool:=(g.a.k==1)&&(g.a.r.c==c)
def XD (g:Gv) (z:Int):Bool:=(g.a.k==2)&&(g.a.m.sz==z)
theorem Ye (g:Gv) (c:Int) (H:Qa):Qg prog Qp [.agg g.cells.toArray,.int .i64 c] H λu H'=>u=.bool (WE g c)∧∃k,H'=H.up k:=by
 refine QgG λhw=>?_;unfold WE;obtain⟨⟨k,⟨rc,rn⟩,⟨⟨bc,bn⟩,⟨ic,nn⟩,sc,d,sz⟩,n⟩,bits,gn⟩:=g;simp only[Gv.cells,VI,Qb,simprocAttr];cases h:k==1<;>simp only[Qb,simprocAttr,h,QfY]
 all_goals exact .ext hw ((Ext.refl H).push _) ⟨by simp,_,rfl⟩
theorem Zt (g:Gv) (z:Int) (H:Qa):Qg prog Qv [.agg g.cells.toArray,.int .i64 z] H λu H'=>u=.bool (XD g z)∧∃k,H'=H.up k:=by
 refine QgH λhw=>?_;unfold XD;obtain⟨⟨k,⟨rc,rn⟩,⟨⟨bc,bn⟩,⟨ic,nn⟩,sc,d,sz⟩,n⟩,bits,gn⟩:=g;simp only[Gv.cells,VJ,Qb,simprocAttr];cases h:k==2<;>simp only[Qb,simprocAttr,h,QfZ]
 all_goals exact .ext hw ((Ext.refl H).push _) ⟨by simp,_,rfl⟩
/-! The tests. -/
theorem QGq (g:Gv) (H:Qa):Qg prog VY [.agg g.cells.toArray] H λu H'=>u=.bool (false)∧∃m,H'=H.up m:=by
 refine QlC λhw=>?_;obtain⟨⟨k,⟨rc,rn⟩,⟨⟨bc,bn⟩,⟨ic,nn⟩,sc,d,sz⟩,n⟩,bits,gn⟩:=g;simp only[Gv.cells,QdT,Qb,simprocAttr,Qj8];exact .ext hw ((Ext.refl H).push _) ⟨rfl,_,rfl⟩
theorem QGr (g:Gv) (H:Qa):Qg prog VZ [.agg g.cells.toArray] H λu H'=>u=.bool (WE g 1||WE g 2)∧∃m,H'=H.up m:=by
 refine QlD λhw=>?_;have q0:=Ye g 1;obtain⟨v0,e0⟩:∃v,WE g 1=v:=⟨_,rfl⟩;rw[e0]at q0 ⊢;have q1:=Ye g 2;obtain⟨v1,e1⟩:∃v,WE g 2=v:=⟨_,rfl⟩;rw[e1]at q1 ⊢;clear e0 e1;obtain⟨⟨k,⟨rc,rn⟩,⟨⟨bc,bn⟩,⟨ic,nn⟩,sc,d,sz⟩,n⟩,bits,gn⟩:=g;simp only[Gv.cells]at q0 q1;simp only[Gv.cells,QdU,Qb,simprocAttr];refine(q0 _).thenW ?_;rintro _ _ hn0 hw0 ⟨rfl,k0,rfl⟩;simp only[Qe,Qy]at hn0;cases v0 with
 | true=>
  simp only[Qb,simprocAttr,Qcj];exact .ext hw (((Ext.refl H).push _).up (by simp only[Qe,Qy];omega)) ⟨by simp,_,rfl⟩
 | false=>
  simp only[Qb,simprocAttr];refine(q1 _).thenW ?_;rintro _ _ hn1 hw1 ⟨rfl,k1,rfl⟩;simp only[Qe,Qy]at hn1;simp only[Qb,simprocAttr,Qcj];exact .ext hw ((((Ext.refl H).push _).up (by simp only[Qe,Qy];omega)).up (by simp only[Qe,Qy];omega)) ⟨by simp,_,rfl⟩
theorem QGs (g:Gv) (H:Qa):Qg prog V0 [.agg g.cells.toArray] H λu H'=>u=.bool (WE g 3)∧∃m,H'=H.up m:=by
 refine QlE λhw=>?_;have q0:=Ye g 3;obtain⟨v0,e0⟩:∃v,WE g 3=v:=⟨_,rfl⟩;rw[e0]at q0 ⊢;clear e0;obtain⟨⟨k,⟨rc,rn⟩,⟨⟨bc,bn⟩,⟨ic,nn⟩,sc,d,sz⟩,n⟩,bits,gn⟩:=g;simp only[Gv.cells]at q0;simp only[Gv.cells,QdV,Qb,simprocAttr];refine(q0 _).thenW ?_;rintro _ _ hn0 hw0 ⟨rfl,k0,rfl⟩;simp only[Qe,Qy]at hn0;simp only[Qb,simprocAttr,Qj9];exact .ext hw (((Ext.refl H).push _).up (by simp only[Qe,Qy];omega)) ⟨by simp,_,rfl⟩
theorem QGt (g:Gv) (H:Qa):Qg prog V1 [.agg g.cells.toArray] H λu H'=>u=.bool (WE g 4)∧∃m,H'=H.up m:=by
 refine QlF λhw=>?_;have q0:=Ye g 4;obtain⟨v0,e0⟩:∃v,WE g 4=v:=⟨_,rfl⟩;rw[e0]at q0 ⊢;clear e0;obtain⟨⟨k,⟨rc,rn⟩,⟨⟨bc,bn⟩,⟨ic,nn⟩,sc,d,sz⟩,n⟩,bits,gn⟩:=g;simp only[Gv.cells]at q0;simp only[Gv.cells,QdW,Qb,simprocAttr];refine(q0 _).thenW ?_;rintro _ _ hn0 hw0 ⟨rfl,k0,rfl⟩;simp only[Qe,Qy]at hn0;simp only[Qb,simprocAttr,Qka];exact .ext hw (((Ext.refl H).push _).up (by simp only[Qe,Qy];omega)) ⟨by simp,_,rfl⟩
theorem QGu (g:Gv) (H:Qa):Qg prog V2 [.agg g.cells.toArray] H λu H'=>u=.bool (WE g 5)∧∃m,H'=H.up m:=by
 refine QlG λhw=>?_;have q0:=Ye g 5;obtain⟨v0,e0⟩:∃v,WE g 5=v:=⟨_,rfl⟩;rw[e0]at q0 ⊢;clear e0;obtain⟨⟨k,⟨rc,rn⟩,⟨⟨bc,bn⟩,⟨ic,nn⟩,sc,d,sz⟩,n⟩,bits,gn⟩:=g;simp only[Gv.cells]at q0;simp only[Gv.cells,QdX,Qb,simprocAttr];refine(q0 _).thenW ?_;rintro _ _ hn0 hw0 ⟨rfl,k0,rfl⟩;simp only[Qe,Qy]at hn0;simp only[Qb,simprocAttr,Qkb];exact .ext hw (((Ext.refl H).push _).up (by simp only[Qe,Qy];omega)) ⟨by simp,_,rfl⟩
theorem QGv (g:Gv) (H:Qa):Qg prog V3 [.agg g.cells.toArray] H λu H'=>u=.bool (WE g 6)∧∃m,H'=H.up m:=by
 refine QlH λhw=>?_;have q0:=Ye g 6;obtain⟨v0,e0⟩:∃v,WE g 6=v:=⟨_,rfl⟩;rw[e0]at q0 ⊢;clear e0;obtain⟨⟨k,⟨rc,rn⟩,⟨⟨bc,bn⟩,⟨ic,nn⟩,sc,d,sz⟩,n⟩,bits,gn⟩:=g;simp only[Gv.cells]at q0;simp only[Gv.cells,QdY,Qb,simprocAttr];refine(q0 _).thenW ?_;rintro _ _ hn0 hw0 ⟨rfl,k0,rfl⟩;simp only[Qe,Qy]at hn0;simp only[Qb,simprocAttr,Qkc];exact .ext hw (((Ext.refl H).push _).up (by simp only[Qe,Qy];omega)) ⟨by simp,_,rfl⟩
theorem QGw (g:Gv) (H:Qa):Qg prog V4 [.agg g.cells.toArray] H λu H'=>u=.bool (WE g 7)∧∃m,H'=H.up m:=by
 refine QlI λhw=>?_;have q0:=Ye g 7;obtain⟨v0,e0⟩:∃v,WE g 7=v:=⟨_,rfl⟩;rw[e0]at q0 ⊢;clear e0;obtain⟨⟨k,⟨rc,rn⟩,⟨⟨bc,bn⟩,⟨ic,nn⟩,sc,d,sz⟩,n⟩,bits,gn⟩:=g;simp only[Gv.cells]at q0;simp only[Gv.cells,QdZ,Qb,simprocAttr];refine(q0 _).thenW ?_;rintro _ _ hn0 hw0 ⟨rfl,k0,rfl⟩;simp only[Qe,Qy]at hn0;simp only[Qb,simprocAttr,Qkd];exact .ext hw (((Ext.refl H).push _).up (by simp only[Qe,Qy];omega)) ⟨by simp,_,rfl⟩
theorem QGx (g:Gv) (H:Qa):Qg prog V5 [.agg g.cells.toArray] H λu H'=>u=.bool (WE g 1||WE g 2||XD g 1)∧∃m,H'=H.up m:=by
 refine QlJ λhw=>?_;have q0:=Ye g 1;obtain⟨v0,e0⟩:∃v,WE g 1=v:=⟨_,rfl⟩;rw[e0]at q0 ⊢;have q1:=Ye g 2;obtain⟨v1,e1⟩:∃v,WE g 2=v:=⟨_,rfl⟩;rw[e1]at q1 ⊢;have q2:=Zt g 1;obtain⟨v2,e2⟩:∃v,XD g 1=v:=⟨_,rfl⟩;rw[e2]at q2 ⊢;clear e0 e1 e2;obtain⟨⟨k,⟨rc,rn⟩,⟨⟨bc,bn⟩,⟨ic,nn⟩,sc,d,sz⟩,n⟩,bits,gn⟩:=g;simp only[Gv.cells]at q0 q1 q2;simp only[Gv.cells,Qd0,Qb,simprocAttr];refine(q0 _).thenW ?_;rintro _ _ hn0 hw0 ⟨rfl,k0,rfl⟩;simp only[Qe,Qy]at hn0;cases v0 with
 | true=>
  simp only[Qb,simprocAttr,KL];exact .ext hw (((Ext.refl H).push _).up (by simp only[Qe,Qy];omega)) ⟨by simp,_,rfl⟩
 | false=>
  simp only[Qb,simprocAttr];refine(q1 _).thenW ?_;rintro _ _ hn1 hw1 ⟨rfl,k1,rfl⟩;simp only[Qe,Qy]at hn1;cases v1 with
  | true=>
   simp only[Qb,simprocAttr,KL];exact .ext hw ((((Ext.refl H).push _).up (by simp only[Qe,Qy];omega)).up (by simp only[Qe,Qy];omega)) ⟨by simp,_,rfl⟩
  | false=>
   simp only[Qb,simprocAttr];refine(q2 _).thenW ?_;rintro _ _ hn2 hw2 ⟨rfl,k2,rfl⟩;simp only[Qe,Qy]at hn2;simp only[Qb,simprocAttr,KL];exact .ext hw (((((Ext.refl H).push _).up (by simp only[Qe,Qy];omega)).up (by simp only[Qe,Qy];omega)).up (by simp only[Qe,Qy];omega)) ⟨by simp,_,rfl⟩
theorem QFx (g:Gv) (H:Qa):Qg prog GJ [.agg g.cells.toArray] H λu H'=>u=.bool (WE g 3||XD g 2)∧∃m,H'=H.up m:=by
 refine Qke λhw=>?_;have q0:=Ye g 3;obtain⟨v0,e0⟩:∃v,WE g 3=v:=⟨_,rfl⟩;rw[e0]at q0 ⊢;have q1:=Zt g 2;obtain⟨v1,e1⟩:∃v,XD g 2=v:=⟨_,rfl⟩;rw[e1]at q1 ⊢;clear e0 e1;obtain⟨⟨k,⟨rc,rn⟩,⟨⟨bc,bn⟩,⟨ic,nn⟩,sc,d,sz⟩,n⟩,bits,gn⟩:=g;simp only[Gv.cells]at q0 q1;simp only[Gv.cells,Qck,Qb,simprocAttr];refine(q0 _).thenW ?_;rintro _ _ hn0 hw0 ⟨rfl,k0,rfl⟩;simp only[Qe,Qy]at hn0;cases v0 with
 | true=>
  simp only[Qb,simprocAttr,Qbx];exact .ext hw (((Ext.refl H).push _).up (by simp only[Qe,Qy];omega)) ⟨by simp,_,rfl⟩
 | false=>
  simp only[Qb,simprocAttr];refine(q1 _).thenW ?_;rintro _ _ hn1 hw1 ⟨rfl,k1,rfl⟩;simp only[Qe,Qy]at hn1;simp only[Qb,simprocAttr,Qbx];exact .ext hw ((((Ext.refl H).push _).up (by simp only[Qe,Qy];omega)).up (by simp only[Qe,Qy];omega)) ⟨by simp,_,rfl⟩
theorem QFy (g:Gv) (H:Qa):Qg prog GL [.agg g.cells.toArray] H λu H'=>u=.bool (WE g 4||XD g 4)∧∃m,H'=H.up m:=by
 refine Qkf λhw=>?_;have q0:=Ye g 4;obtain⟨v0,e0⟩:∃v,WE g 4=v:=⟨_,rfl⟩;rw[e0]at q0 ⊢;have q1:=Zt g 4;obtain⟨v1,e1⟩:∃v,XD g 4=v:=⟨_,rfl⟩;rw[e1]at q1 ⊢;clear e0 e1;obtain⟨⟨k,⟨rc,rn⟩,⟨⟨bc,bn⟩,⟨ic,nn⟩,sc,d,sz⟩,n⟩,bits,gn⟩:=g;simp only[Gv.cells]at q0 q1;simp only[Gv.cells,Qcl,Qb,simprocAttr];refine(q0 _).thenW ?_;rintro _ _ hn0 hw0 ⟨rfl,k0,rfl⟩;simp only[Qe,Qy]at hn0;cases v0 with
 | true=>
  simp only[Qb,simprocAttr,Qby];exact .ext hw (((Ext.refl H).push _).up (by simp only[Qe,Qy];omega)) ⟨by simp,_,rfl⟩
 | false=>
  simp only[Qb,simprocAttr];refine(q1 _).thenW ?_;rintro _ _ hn1 hw1 ⟨rfl,k1,rfl⟩;simp only[Qe,Qy]at hn1;simp only[Qb,simprocAttr,Qby];exact .ext hw ((((Ext.refl H).push _).up (by simp only[Qe,Qy];omega)).up (by simp only[Qe,Qy];omega)) ⟨by simp,_,rfl⟩
theorem QFz (g:Gv) (H:Qa):Qg prog GM [.agg g.cells.toArray] H λu H'=>u=.bool (WE g 5||XD g 8)∧∃m,H'=H.up m:=by
 refine Qkg λhw=>?_;have q0:=Ye g 5;obtain⟨v0,e0⟩:∃v,WE g 5=v:=⟨_,rfl⟩;rw[e0]at q0 ⊢;have q1:=Zt g 8;obtain⟨v1,e1⟩:∃v,XD g 8=v:=⟨_,rfl⟩;rw[e1]at q1 ⊢;clear e0 e1;obtain⟨⟨k,⟨rc,rn⟩,⟨⟨bc,bn⟩,⟨ic,nn⟩,sc,d,sz⟩,n⟩,bits,gn⟩:=g;simp only[Gv.cells]at q0 q1;simp only[Gv.cells,Qcm,Qb,simprocAttr];refine(q0 _).thenW ?_;rintro _ _ hn0 hw0 ⟨rfl,k0,rfl⟩;simp only[Qe,Qy]at hn0;cases v0 with
 | true=>
  simp only[Qb,simprocAttr,Qbz];exact .ext hw (((Ext.refl H).push _).up (by simp only[Qe,Qy];omega)) ⟨by simp,_,rfl⟩
 | false=>
  simp only[Qb,simprocAttr];refine(q1 _).thenW ?_;rintro _ _ hn1 hw1 ⟨rfl,k1,rfl⟩;simp only[Qe,Qy]at hn1;simp only[Qb,simprocAttr,Qbz];exact .ext hw ((((Ext.refl H).push _).up (by simp only[Qe,Qy];omega)).up (by simp only[Qe,Qy];omega)) ⟨by simp,_,rfl⟩
theorem QFA (g:Gv) (H:Qa):Qg prog GN [.agg g.cells.toArray] H λu H'=>u=.bool (WE g 6||XD g 4)∧∃m,H'=H.up m:=by
 refine Qkh λhw=>?_;have q0:=Ye g 6;obtain⟨v0,e0⟩:∃v,WE g 6=v:=⟨_,rfl⟩;rw[e0]at q0 ⊢;have q1:=Zt g 4;obtain⟨v1,e1⟩:∃v,XD g 4=v:=⟨_,rfl⟩;rw[e1]at q1 ⊢;clear e0 e1;obtain⟨⟨k,⟨rc,rn⟩,⟨⟨bc,bn⟩,⟨ic,nn⟩,sc,d,sz⟩,n⟩,bits,gn⟩:=g;simp only[Gv.cells]at q0 q1;simp only[Gv.cells,Qcn,Qb,simprocAttr];refine(q0 _).thenW ?_;rintro _ _ hn0 hw0 ⟨rfl,k0,rfl⟩;simp only[Qe,Qy]at hn0;cases v0 with
 | true=>
  simp only[Qb,simprocAttr,QbA];exact .ext hw (((Ext.refl H).push _).up (by simp only[Qe,Qy];omega)) ⟨by simp,_,rfl⟩
 | false=>
  simp only[Qb,simprocAttr];refine(q1 _).thenW ?_;rintro _ _ hn1 hw1 ⟨rfl,k1,rfl⟩;simp only[Qe,Qy]at hn1;simp only[Qb,simprocAttr,QbA];exact .ext hw ((((Ext.refl H).push _).up (by simp only[Qe,Qy];omega)).up (by simp only[Qe,Qy];omega)) ⟨by simp,_,rfl⟩
theorem QFB (g:Gv) (H:Qa):Qg prog GO [.agg g.cells.toArray] H λu H'=>u=.bool (WE g 6||XD g 8)∧∃m,H'=H.up m:=by
 refine Qki λhw=>?_;have q0:=Ye g 6;obtain⟨v0,e0⟩:∃v,WE g 6=v:=⟨_,rfl⟩;rw[e0]at q0 ⊢;have q1:=Zt g 8;obtain⟨v1,e1⟩:∃v,XD g 8=v:=⟨_,rfl⟩;rw[e1]at q1 ⊢;clear e0 e1;obtain⟨⟨k,⟨rc,rn⟩,⟨⟨bc,bn⟩,⟨ic,nn⟩,sc,d,sz⟩,n⟩,bits,gn⟩:=g;simp only[Gv.cells]at q0 q1;simp only[Gv.cells,Qco,Qb,simprocAttr];refine(q0 _).thenW ?_;rintro _ _ hn0 hw0 ⟨rfl,k0,rfl⟩;simp only[Qe,Qy]at hn0;cases v0 with
 | true=>
  simp only[Qb,simprocAttr,QbB];exact .ext hw (((Ext.refl H).push _).up (by simp only[Qe,Qy];omega)) ⟨by simp,_,rfl⟩
 | false=>
  simp only[Qb,simprocAttr];refine(q1 _).thenW ?_;rintro _ _ hn1 hw1 ⟨rfl,k1,rfl⟩;simp only[Qe,Qy]at hn1;simp only[Qb,simprocAttr,QbB];exact .ext hw ((((Ext.refl H).push _).up (by simp only[Qe,Qy];omega)).up (by simp only[Qe,Qy];omega)) ⟨by simp,_,rfl⟩
theorem QFC (g:Gv) (H:Qa):Qg prog GP [.agg g.cells.toArray] H λu H'=>u=.bool (WE g 6||XD g 16)∧∃m,H'=H.up m:=by
 refine Qkj λhw=>?_;have q0:=Ye g 6;obtain⟨v0,e0⟩:∃v,WE g 6=v:=⟨_,rfl⟩;rw[e0]at q0 ⊢;have q1:=Zt g 16;obtain⟨v1,e1⟩:∃v,XD g 16=v:=⟨_,rfl⟩;rw[e1]at q1 ⊢;clear e0 e1;obtain⟨⟨k,⟨rc,rn⟩,⟨⟨bc,bn⟩,⟨ic,nn⟩,sc,d,sz⟩,n⟩,bits,gn⟩:=g;simp only[Gv.cells]at q0 q1;simp only[Gv.cells,Qcp,Qb,simprocAttr];refine(q0 _).thenW ?_;rintro _ _ hn0 hw0 ⟨rfl,k0,rfl⟩;simp only[Qe,Qy]at hn0;cases v0 with
 | true=>
  simp only[Qb,simprocAttr,QbC];exact .ext hw (((Ext.refl H).push _).up (by simp only[Qe,Qy];omega)) ⟨by simp,_,rfl⟩
 | false=>
  simp only[Qb,simprocAttr];refine(q1 _).thenW ?_;rintro _ _ hn1 hw1 ⟨rfl,k1,rfl⟩;simp only[Qe,Qy]at hn1;simp only[Qb,simprocAttr,QbC];exact .ext hw ((((Ext.refl H).push _).up (by simp only[Qe,Qy];omega)).up (by simp only[Qe,Qy];omega)) ⟨by simp,_,rfl⟩
theorem QFD (g:Gv) (H:Qa):Qg prog GQ [.agg g.cells.toArray] H λu H'=>u=.bool (WE g 7||XD g 32)∧∃m,H'=H.up m:=by
 refine Qkk λhw=>?_;have q0:=Ye g 7;obtain⟨v0,e0⟩:∃v,WE g 7=v:=⟨_,rfl⟩;rw[e0]at q0 ⊢;have q1:=Zt g 32;obtain⟨v1,e1⟩:∃v,XD g 32=v:=⟨_,rfl⟩;rw[e1]at q1 ⊢;clear e0 e1;obtain⟨⟨k,⟨rc,rn⟩,⟨⟨bc,bn⟩,⟨ic,nn⟩,sc,d,sz⟩,n⟩,bits,gn⟩:=g;simp only[Gv.cells]at q0 q1;simp only[Gv.cells,Qcq,Qb,simprocAttr];refine(q0 _).thenW ?_;rintro _ _ hn0 hw0 ⟨rfl,k0,rfl⟩;simp only[Qe,Qy]at hn0;cases v0 with
 | true=>
  simp only[Qb,simprocAttr,QbD];exact .ext hw (((Ext.refl H).push _).up (by simp only[Qe,Qy];omega)) ⟨by simp,_,rfl⟩
 | false=>
  simp only[Qb,simprocAttr];refine(q1 _).thenW ?_;rintro _ _ hn1 hw1 ⟨rfl,k1,rfl⟩;simp only[Qe,Qy]at hn1;simp only[Qb,simprocAttr,QbD];exact .ext hw ((((Ext.refl H).push _).up (by simp only[Qe,Qy];omega)).up (by simp only[Qe,Qy];omega)) ⟨by simp,_,rfl⟩
theorem QFE (g:Gv) (H:Qa):Qg prog GR [.agg g.cells.toArray] H λu H'=>u=.bool (XD g 0)∧∃m,H'=H.up m:=by
 refine Qkl λhw=>?_;have q0:=Zt g 0;obtain⟨v0,e0⟩:∃v,XD g 0=v:=⟨_,rfl⟩;rw[e0]at q0 ⊢;clear e0;obtain⟨⟨k,⟨rc,rn⟩,⟨⟨bc,bn⟩,⟨ic,nn⟩,sc,d,sz⟩,n⟩,bits,gn⟩:=g;simp only[Gv.cells]at q0;simp only[Gv.cells,Qcr,Qb,simprocAttr];refine(q0 _).thenW ?_;rintro _ _ hn0 hw0 ⟨rfl,k0,rfl⟩;simp only[Qe,Qy]at hn0;simp only[Qb,simprocAttr,QiY];exact .ext hw (((Ext.refl H).push _).up (by simp only[Qe,Qy];omega)) ⟨by simp,_,rfl⟩
theorem QFF (g:Gv) (H:Qa):Qg prog GS [.agg g.cells.toArray] H λu H'=>u=.bool (XD g 2)∧∃m,H'=H.up m:=by
 refine Qkm λhw=>?_;have q0:=Zt g 2;obtain⟨v0,e0⟩:∃v,XD g 2=v:=⟨_,rfl⟩;rw[e0]at q0 ⊢;clear e0;obtain⟨⟨k,⟨rc,rn⟩,⟨⟨bc,bn⟩,⟨ic,nn⟩,sc,d,sz⟩,n⟩,bits,gn⟩:=g;simp only[Gv.cells]at q0;simp only[Gv.cells,Qcs,Qb,simprocAttr];refine(q0 _).thenW ?_;rintro _ _ hn0 hw0 ⟨rfl,k0,rfl⟩;simp only[Qe,Qy]at hn0;simp only[Qb,simprocAttr,QiZ];exact .ext hw (((Ext.refl H).push _).up (by simp only[Qe,Qy];omega)) ⟨by simp,_,rfl⟩
theorem QFG (g:Gv) (H:Qa):Qg prog GT [.agg g.cells.toArray] H λu H'=>u=.bool (XD g 4)∧∃m,H'=H.up m:=by
 refine Qkn λhw=>?_;have q0:=Zt g 4;obtain⟨v0,e0⟩:∃v,XD g 4=v:=⟨_,rfl⟩;rw[e0]at q0 ⊢;clear e0;obtain⟨⟨k,⟨rc,rn⟩,⟨⟨bc,bn⟩,⟨ic,nn⟩,sc,d,sz⟩,n⟩,bits,gn⟩:=g;simp only[Gv.cells]at q0;simp only[Gv.cells,Qct,Qb,simprocAttr];refine(q0 _).thenW ?_;rintro _ _ hn0 hw0 ⟨rfl,k0,rfl⟩;simp only[Qe,Qy]at hn0;simp only[Qb,simprocAttr,Qi0];exact .ext hw (((Ext.refl H).push _).up (by simp only[Qe,Qy];omega)) ⟨by simp,_,rfl⟩
theorem QFH (g:Gv) (H:Qa):Qg prog GU [.agg g.cells.toArray] H λu H'=>u=.bool (XD g 8)∧∃m,H'=H.up m:=by
 refine Qko λhw=>?_;have q0:=Zt g 8;obtain⟨v0,e0⟩:∃v,XD g 8=v:=⟨_,rfl⟩;rw[e0]at q0 ⊢;clear e0;obtain⟨⟨k,⟨rc,rn⟩,⟨⟨bc,bn⟩,⟨ic,nn⟩,sc,d,sz⟩,n⟩,bits,gn⟩:=g;simp only[Gv.cells]at q0;simp only[Gv.cells,Qcu,Qb,simprocAttr];refine(q0 _).thenW ?_;rintro _ _ hn0 hw0 ⟨rfl,k0,rfl⟩;simp only[Qe,Qy]at hn0;simp only[Qb,simprocAttr,Qi1];exact .ext hw (((Ext.refl H).push _).up (by simp only[Qe,Qy];omega)) ⟨by simp,_,rfl⟩
theorem QFI (g:Gv) (H:Qa):Qg prog GV [.agg g.cells.toArray] H λu H'=>u=.bool (XD g 16)∧∃m,H'=H.up m:=by
 refine Qkp λhw=>?_;have q0:=Zt g 16;obtain⟨v0,e0⟩:∃v,XD g 16=v:=⟨_,rfl⟩;rw[e0]at q0 ⊢;clear e0;obtain⟨⟨k,⟨rc,rn⟩,⟨⟨bc,bn⟩,⟨ic,nn⟩,sc,d,sz⟩,n⟩,bits,gn⟩:=g;simp only[Gv.cells]at q0;simp only[Gv.cells,Qcv,Qb,simprocAttr];refine(q0 _).thenW ?_;rintro _ _ hn0 hw0 ⟨rfl,k0,rfl⟩;simp only[Qe,Qy]at hn0;simp only[Qb,simprocAttr,Qi2];exact .ext hw (((Ext.refl H).push _).up (by simp only[Qe,Qy];omega)) ⟨by simp,_,rfl⟩
theorem QFJ (g:Gv) (H:Qa):Qg prog GW [.agg g.cells.toArray] H λu H'=>u=.bool (XD g 32)∧∃m,H'=H.up m:=by
 refine Qkq λhw=>?_;have q0:=Zt g 32;obtain⟨v0,e0⟩:∃v,XD g 32=v:=⟨_,rfl⟩;rw[e0]at q0 ⊢;clear e0;obtain⟨⟨k,⟨rc,rn⟩,⟨⟨bc,bn⟩,⟨ic,nn⟩,sc,d,sz⟩,n⟩,bits,gn⟩:=g;simp only[Gv.cells]at q0;simp only[Gv.cells,Qcw,Qb,simprocAttr];refine(q0 _).thenW ?_;rintro _ _ hn0 hw0 ⟨rfl,k0,rfl⟩;simp only[Qe,Qy]at hn0;simp only[Qb,simprocAttr,Qi3];exact .ext hw (((Ext.refl H).push _).up (by simp only[Qe,Qy];omega)) ⟨by simp,_,rfl⟩
theorem QFK (g:Gv) (H:Qa):Qg prog GY [.agg g.cells.toArray] H λu H'=>u=.bool ((g.bits==8))∧∃m,H'=H.up m:=by
 refine Qkr λhw=>?_;obtain⟨⟨k,⟨rc,rn⟩,⟨⟨bc,bn⟩,⟨ic,nn⟩,sc,d,sz⟩,n⟩,bits,gn⟩:=g;simp only[Gv.cells,Qcx,Qb,simprocAttr];simp only[Qi4];exact .ext hw ((Ext.refl H).push _) ⟨rfl,_,rfl⟩
theorem QFL (g:Gv) (H:Qa):Qg prog GZ [.agg g.cells.toArray] H λu H'=>u=.bool (decide (8<g.bits)&&decide (-128<=g.n)&&decide (g.n<=127))∧∃m,H'=H.up m:=by
 refine Qks λhw=>?_;obtain⟨⟨k,⟨rc,rn⟩,⟨⟨bc,bn⟩,⟨ic,nn⟩,sc,d,sz⟩,n⟩,bits,gn⟩:=g;simp only[Gv.cells,Qcy,Qb,simprocAttr];cases h0:decide (8<bits)<;>cases h1:decide (-128<=gn)<;>simp only[Qb,simprocAttr,h0,h1,Qi5]
 all_goals exact .ext hw ((Ext.refl H).push _) ⟨by simp,_,rfl⟩
theorem QFM (g:Gv) (H:Qa):Qg prog G0 [.agg g.cells.toArray] H λu H'=>u=.bool ((g.bits==16))∧∃m,H'=H.up m:=by
 refine Qkt λhw=>?_;obtain⟨⟨k,⟨rc,rn⟩,⟨⟨bc,bn⟩,⟨ic,nn⟩,sc,d,sz⟩,n⟩,bits,gn⟩:=g;simp only[Gv.cells,Qcz,Qb,simprocAttr];simp only[Qi6];exact .ext hw ((Ext.refl H).push _) ⟨rfl,_,rfl⟩
theorem QFN (g:Gv) (H:Qa):Qg prog G3 [.agg g.cells.toArray] H λu H'=>u=.bool ((g.bits==32))∧∃m,H'=H.up m:=by
 refine Qku λhw=>?_;obtain⟨⟨k,⟨rc,rn⟩,⟨⟨bc,bn⟩,⟨ic,nn⟩,sc,d,sz⟩,n⟩,bits,gn⟩:=g;simp only[Gv.cells,QcA,Qb,simprocAttr];simp only[Qi7];exact .ext hw ((Ext.refl H).push _) ⟨rfl,_,rfl⟩
theorem QFO (g:Gv) (H:Qa):Qg prog G4 [.agg g.cells.toArray] H λu H'=>u=.bool ((g.bits==64)&&decide (-2147483648<=g.n)&&decide (g.n<=2147483647))∧∃m,H'=H.up m:=by
 refine Qkv λhw=>?_;obtain⟨⟨k,⟨rc,rn⟩,⟨⟨bc,bn⟩,⟨ic,nn⟩,sc,d,sz⟩,n⟩,bits,gn⟩:=g;simp only[Gv.cells,QcB,Qb,simprocAttr];cases h0:bits==64<;>cases h1:decide (-2147483648<=gn)<;>simp only[Qb,simprocAttr,h0,h1,Qi8]
 all_goals exact .ext hw ((Ext.refl H).push _) ⟨by simp,_,rfl⟩
theorem QFP (g:Gv) (H:Qa):Qg prog G5 [.agg g.cells.toArray] H λu H'=>u=.bool ((g.bits==64))∧∃m,H'=H.up m:=by
 refine Qkw λhw=>?_;obtain⟨⟨k,⟨rc,rn⟩,⟨⟨bc,bn⟩,⟨ic,nn⟩,sc,d,sz⟩,n⟩,bits,gn⟩:=g;simp only[Gv.cells,QcC,Qb,simprocAttr];simp only[Qi9];exact .ext hw ((Ext.refl H).push _) ⟨rfl,_,rfl⟩
theorem QFQ (g:Gv) (H:Qa):Qg prog G6 [.agg g.cells.toArray] H λu H'=>u=.bool ((g.a.k==4)&&decide (-128<=g.a.n)&&decide (g.a.n<=127))∧∃m,H'=H.up m:=by
 refine Qkx λhw=>?_;obtain⟨⟨k,⟨rc,rn⟩,⟨⟨bc,bn⟩,⟨ic,nn⟩,sc,d,sz⟩,n⟩,bits,gn⟩:=g;simp only[Gv.cells,QcD,Qb,simprocAttr];cases h0:k==4<;>cases h1:decide (-128<=n)<;>simp only[Qb,simprocAttr,h0,h1,Qja]
 all_goals exact .ext hw ((Ext.refl H).push _) ⟨by simp,_,rfl⟩
theorem QFR (g:Gv) (H:Qa):Qg prog G7 [.agg g.cells.toArray] H λu H'=>u=.bool ((g.a.k==4))∧∃m,H'=H.up m:=by
 refine Qky λhw=>?_;obtain⟨⟨k,⟨rc,rn⟩,⟨⟨bc,bn⟩,⟨ic,nn⟩,sc,d,sz⟩,n⟩,bits,gn⟩:=g;simp only[Gv.cells,QcE,Qb,simprocAttr];simp only[Qjb];exact .ext hw ((Ext.refl H).push _) ⟨rfl,_,rfl⟩
theorem QFS (g:Gv) (H:Qa):Qg prog G8 [.agg g.cells.toArray] H λu H'=>u=.bool (decide (0<g.bits)&&(g.n==1))∧∃m,H'=H.up m:=by
 refine Qkz λhw=>?_;obtain⟨⟨k,⟨rc,rn⟩,⟨⟨bc,bn⟩,⟨ic,nn⟩,sc,d,sz⟩,n⟩,bits,gn⟩:=g;simp only[Gv.cells,QcF,Qb,simprocAttr];cases h0:decide (0<bits)<;>simp only[Qb,simprocAttr,h0,Qjc]
 all_goals exact .ext hw ((Ext.refl H).push _) ⟨by simp,_,rfl⟩
theorem Qo9 (c n:Int) (H:Qa):Qg prog VX [.int .i64 c,.int .i64 n] H λu H'=>∃p q,u=.agg #[.func (.func Xa) #[] #[.pointer (some ⟨p,0,none⟩),.pointer (some ⟨q,0,none⟩)]]∧Ext H H'∧H'.get p=some (.cells [.int .i64 c] 3 false)∧H'.get q=some (.cells [.int .i64 n] 3 false)∧p<H'.next∧q<H'.next:=by
 refine QlB λhw=>?_;simp only[QdS,Qb,simprocAttr,Z0,Y1,Qj7];have hx:∀b,Ext H ((((H.push (.cells [.int .i64 c] 3 false)).push (.cells [.int .i64 n] 3 false)).push (.cells [.nilFunc] YU false)).set (H.next+1+1) b):=λb=>((((Ext.refl H).push _).push _).push _).set (by omega) _;refine .mk (hx _).next ⟨H.next,H.next+1,rfl,hx _,?_,?_,by simp only[QE,Qe];omega,by simp only[QE,Qe];omega⟩
 ·rw[Qn,Le (by omega),Qd,Le (by simp only[Qe];omega),Qd,Le (by simp only[Qe];omega),Qd,Lc rfl]
 ·rw[Qn,Le (by omega),Qd,Le (by simp only[Qe];omega),Qd,Lc (by simp only[Qe])]
theorem QCB (g:Gv) (c n:Int) (p q:Nat) (H:Qa) (hp:H.get p=some (.cells [.int .i64 c] 3 false)) (hq:H.get q=some (.cells [.int .i64 n] 3 false)):Qg prog Xa [.agg g.cells.toArray,.pointer (some ⟨p,0,none⟩),.pointer (some ⟨q,0,none⟩)] H λu H'=>u=.bool (WE g c&&(g.a.r.n==n))∧Ext H H':=by
 refine QiX λhw=>?_;have q1:=Ye g c;obtain⟨v,ev⟩:∃v,WE g c=v:=⟨_,rfl⟩;rw[ev]at q1 ⊢;clear ev;have lp:=hw.lt hp;have lq:=hw.lt hq;have np:¬p=H.next:=by omega
 have nq:¬q=H.next:=by omega
 obtain⟨⟨k,⟨rc,rn⟩,⟨⟨bc,bn⟩,⟨ic,nn⟩,sc,d,sz⟩,n'⟩,bits,gn⟩:=g;simp only[Gv.cells]at q1;simp only[Gv.cells,Qbw,Qb,simprocAttr,np,nq,LN,hp,hq];refine(q1 _).thenW ?_;rintro _ _ hn1 hw1 ⟨rfl,k1,rfl⟩;simp only[Qe,Qy]at hn1;have hx:=((Ext.refl H).push (.cells [.int .i64 k,.int .i64 rc,.int .i64 rn,.int .i64 bc,.int .i64 bn,.int .i64 ic,.int .i64 nn,.int .i64 sc,.int .i64 d,.int .i64 sz,.int .i64 n',.int .i64 bits,.int .i64 gn] Qk false)).up (m:=k1) (by simp only[Qe];omega);cases v with
 | false=>
  simp only[Qb,simprocAttr,Qav];exact .mk hx.next ⟨by simp,hx⟩
 | true=>
  simp only[Qb,simprocAttr,np,nq,LN,hp,hq,Qav];exact .mk hx.next ⟨by simp,hx⟩
def Qee (s:Nat) (g:Gv):Bool:=
 match s with
 | 0=>false
 | 1=>WE g 1||WE g 2 | 2=>WE g 3 | 3=>WE g 4 | 4=>WE g 5 | 5=>WE g 6 | 6=>WE g 7
 | 7=>WE g 1||WE g 2||XD g 1 | 8=>WE g 3||XD g 2 | 9=>WE g 4||XD g 4 | 10=>WE g 5||XD g 8
 | 11=>WE g 6||XD g 4 | 12=>WE g 6||XD g 8 | 13=>WE g 6||XD g 16 | 14=>WE g 7||XD g 32
 | 15=>XD g 0 | 16=>XD g 4 | 17=>XD g 8 | 18=>XD g 16 | 19=>XD g 32
 | 20=>(g.bits==8)
 | 21=>decide (8<g.bits)&&decide (-128<=g.n)&&decide (g.n<=127)
 | 22=>(g.bits==16) | 23=>(g.bits==32)
 | 24=>(g.bits==64)&&decide (-2147483648<=g.n)&&decide (g.n<=2147483647)
 | 25=>(g.bits==64)
 | 26=>(g.a.k==4)&&decide (-128<=g.a.n)&&decide (g.a.n<=127)
 | 27=>(g.a.k==4)
 | 28=>WE g 1&&(g.a.r.n==0) | 29=>WE g 3&&(g.a.r.n==0) | 30=>WE g 4&&(g.a.r.n==0) | 31=>WE g 5&&(g.a.r.n==0) | 32=>WE g 1&&(g.a.r.n==1)
 | 33=>decide (0<g.bits)&&(g.n==1)
 | 34=>XD g 2
 | _=>false
def Qsh (H:Qa) (v:Value) (s:Nat):Prop:=∃ (f:FuncId) (ys:List Value),v=.func (.func f) #[] ys.toArray∧∀ (g:Gv) (H2:Qa),Ext H H2->Qg prog f ([.agg g.cells.toArray]++ys) H2 λu H3=>u=.bool (Qee s g)∧Ext H2 H3
theorem QD {f:FuncId} {s:Nat} (H:Qa) (q:∀ (g:Gv) (H:Qa),Qg prog f [.agg g.cells.toArray] H λu H'=>u=.bool (Qee s g)∧∃m,H'=H.up m):Qsh H (.func (.func f) #[] #[]) s:=by
 refine⟨f,[],rfl,λg H2 _=>?_⟩;intro hw;obtain⟨v,H3,h1,h2,h3,h4,m,rfl⟩:=q g H2 hw;exact⟨v,_,h1,h2,h3,h4,(Ext.refl H2).up h2⟩
theorem Qef {H H':Qa} {p q:Nat} {c n:Int} {s:Nat} (hx:Ext H H') (hp:H.get p=some (.cells [.int .i64 c] 3 false)) (hq:H.get q=some (.cells [.int .i64 n] 3 false)) (lp:p<H.next) (lq:q<H.next) (e:∀g,Qee s g=(WE g c&&(g.a.r.n==n))):Qsh H' (.func (.func Xa) #[] #[.pointer (some ⟨p,0,none⟩),.pointer (some ⟨q,0,none⟩)]) s:=by
 refine⟨Xa,[.pointer (some ⟨p,0,none⟩),.pointer (some ⟨q,0,none⟩)],rfl,λg H2 h2=>?_⟩;rw[e g];exact QCB g c n p q H2 (by rw[(hx.trans h2).get _ lp];exact hp) (by rw[(hx.trans h2).get _ lq];exact hq)
theorem QCC (H:Qa):Qg prog Qc0 [] H λu H'=>∃ (b:Nat) (cs:List Value),u=.slice (some ⟨b,0,none⟩) 35 35∧Ext H H'∧H.next<=b∧H'.get b=some (.cells cs YU false)∧cs.length=35∧∀s,s<35->∃v,cs[s]? = some v∧Qsh H' v s:=by
 refine QoJ λhw=>?_;simp only[QgE,Qb,simprocAttr,Z0,Y1,VC,Nat.reduceMul];refine(Qo9 1 0 H).thenW ?_;rintro _ H1 _ hw1 ⟨p0,r0,rfl,hx0,gp0,gr0,lp0,lr0⟩;simp only[Qb,simprocAttr,Z0,Y1,VC,Nat.reduceMul];refine(Qo9 3 0 H1).thenW ?_;rintro _ H2 _ hw2 ⟨p1,r1,rfl,hx1,gp1,gr1,lp1,lr1⟩;simp only[Qb,simprocAttr,Z0,Y1,VC,Nat.reduceMul];refine(Qo9 4 0 H2).thenW ?_;rintro _ H3 _ hw3 ⟨p2,r2,rfl,hx2,gp2,gr2,lp2,lr2⟩;simp only[Qb,simprocAttr,Z0,Y1,VC,Nat.reduceMul];refine(Qo9 5 0 H3).thenW ?_;rintro _ H4 _ hw4 ⟨p3,r3,rfl,hx3,gp3,gr3,lp3,lr3⟩;simp only[Qb,simprocAttr,Z0,Y1,VC,Nat.reduceMul];refine(Qo9 1 1 H4).thenW ?_;rintro _ H5 _ hw5 ⟨p4,r4,rfl,hx4,gp4,gr4,lp4,lr4⟩;simp only[Qb,simprocAttr,Z0,Y1,VC,Nat.reduceMul];have y1:=hx0;have y5:=(((hx0.trans hx1).trans hx2).trans hx3).trans hx4;simp only[Qm3,Ql,simprocAttr];have hx6:=y5.push;refine .mk (hx6 _).next ⟨H5.next,_,rfl,hx6 _,y5.next,by rw[Qd,Lc rfl],rfl,λs hs=>?_⟩;generalize hK:H5.push _=K;have z5:Ext H5 K:=by rw[<- hK];exact(Ext.refl H5).push _
 clear hK;have z4:=hx4.trans z5;have z3:=hx3.trans z4;have z2:=hx2.trans z3;have z1:=hx1.trans z2;rcases s with _ | _ | _ | _ | _ | _ | _ | _ | _ | _ | _ | _ | _ | _ | _ | _ | _ | _ | _ | _ | _ | _ | _ | _ | _ | _ | _ | _ | _ | _ | _ | _ | _ | _ | _ | s
 ·exact⟨_,rfl,QD K QGq⟩
 ·exact⟨_,rfl,QD K QGr⟩
 ·exact⟨_,rfl,QD K QGs⟩
 ·exact⟨_,rfl,QD K QGt⟩
 ·exact⟨_,rfl,QD K QGu⟩
 ·exact⟨_,rfl,QD K QGv⟩
 ·exact⟨_,rfl,QD K QGw⟩
 ·exact⟨_,rfl,QD K QGx⟩
 ·exact⟨_,rfl,QD K QFx⟩
 ·exact⟨_,rfl,QD K QFy⟩
 ·exact⟨_,rfl,QD K QFz⟩
 ·exact⟨_,rfl,QD K QFA⟩
 ·exact⟨_,rfl,QD K QFB⟩
 ·exact⟨_,rfl,QD K QFC⟩
 ·exact⟨_,rfl,QD K QFD⟩
 ·exact⟨_,rfl,QD K QFE⟩
 ·exact⟨_,rfl,QD K QFG⟩
 ·exact⟨_,rfl,QD K QFH⟩
 ·exact⟨_,rfl,QD K QFI⟩
 ·exact⟨_,rfl,QD K QFJ⟩
 ·exact⟨_,rfl,QD K QFK⟩
 ·exact⟨_,rfl,QD K QFL⟩
 ·exact⟨_,rfl,QD K QFM⟩
 ·exact⟨_,rfl,QD K QFN⟩
 ·exact⟨_,rfl,QD K QFO⟩
 ·exact⟨_,rfl,QD K QFP⟩
 ·exact⟨_,rfl,QD K QFQ⟩
 ·exact⟨_,rfl,QD K QFR⟩
 ·exact⟨_,rfl,Qef z1 gp0 gr0 lp0 lr0 (λ_=>rfl)⟩
 ·exact⟨_,rfl,Qef z2 gp1 gr1 lp1 lr1 (λ_=>rfl)⟩
 ·exact⟨_,rfl,Qef z3 gp2 gr2 lp2 lr2 (λ_=>rfl)⟩
 ·exact⟨_,rfl,Qef z4 gp3 gr3 lp3 lr3 (λ_=>rfl)⟩
 ·exact⟨_,rfl,Qef z5 gp4 gr4 lp4 lr4 (λ_=>rfl)⟩
 ·exact⟨_,rfl,QD K QFS⟩
 ·exact⟨_,rfl,QD K QFF⟩
 ·omega
def Qpa (ib:Int×Bool) (a:Ar):Gv:=if a.k=3 then⟨a,ib.1,(Jt a.n ib.1 ib.2).1⟩ else⟨a,0,0⟩
def Qg8 (ib:Int×Bool) (a:Ar) (s:Int):Bool:=(!(a.k==3)||((Jt a.n ib.1 ib.2).2==0))&&Qee s.toNat (Qpa ib a)
def QkV (f:Fm) (op:Int) (l:List Ar):Bool:=(f.op==op)&&(f.shapes.length==l.length)&&(QlR f==0)&&(Wa op l==0)&&(List.range l.length).all λi=>Qg8 (WC op l) (l.getD i WM) (f.shapes.getD i 0)
section
variable {x:Lf} {op:Int} {va:Value} {l:List Ar} {H:Qa}
abbrev KF (H:Qa) (r:Bool):Env->Qa->Prop:=Rt prog QrW H λv H'=>v=.bool r∧Ext H H'
structure FtF (H H':Qa) (x:Lf) (op:Int) (va:Value) (A:Env):Prop where
 xt:Ext H H'
 w:H'.Wf
 g2:H'.get H.next=some (.cells x.cells Qf false)
 g3:H'.get (H.next+1)=some (.cells [.int .i64 op,va] Qc false)
 lt:H.next+2<=H'.next
 r2:A 2=.pointer (some ⟨H.next,0,none⟩)
 r3:A 3=.pointer (some ⟨H.next+1,0,none⟩)
theorem FtF.go {H' H'':Qa} {A B:Env} (h:FtF H H' x op va A) (hx:Ext H' H'') (hw:H''.Wf) (e2:B 2=A 2) (e3:B 3=A 3):FtF H H'' x op va B:=
 ⟨h.xt.trans hx,hw,by rw[hx.get _ (by have:=h.lt;omega)];exact h.g2,by rw[hx.get _ (by have:=h.lt;omega)];exact h.g3,by have:=h.lt;have:=hx.next;omega,e2.trans h.r2,e3.trans h.r3⟩
theorem QFT {W:Bool} {i tb p:Nat} {cs:List Value} {v:Value} {g:Gv} {H0:Qa} {A:Env} {H1:Qa} {E:Nat->Env->Qa->Prop} {K:Env->Qa->Prop} (hw:H.Wf) (hx:x.At H) (hF:FtF H H1 x op va A) (hi:i<x.f.shapes.length) (hs:1<=x.f.shapes.getD i 0∧x.f.shapes.getD i 0<=34) (r7:A 7=.slice (some ⟨tb,0,none⟩) 35 35) (r8:A 8=.int .i64 i) (hgt:H1.get tb=some (.cells cs YU false)) (hcv:cs[(x.f.shapes.getD i 0).toNat]? = some v) (hT:Qsh H0 v (x.f.shapes.getD i 0).toNat) (h01:Ext H0 H1) (r10:A 10=.pointer (some ⟨p,0,none⟩)) (hg:H1.get p=some (.cells g.cells Qk false)) (h0:Qee (x.f.shapes.getD i 0).toNat g=false->W=false)
  (h1:Qee (x.f.shapes.getD i 0).toNat g=true->∀ (B:Env) (H2:Qa),Ext H1 H2->H2.Wf->B 2=A 2->B 3=A 3->B 5=A 5->B 6=A 6->B 7=A 7->B 42=A 42->B 43=A 43->B 44=A 44->K B H2):
  Qs prog Qah ⟨KF H W,E⟩ K A H1:=by
 obtain⟨hx1,hw1,g2,g3,hn1,r2,r3⟩:=id hF;obtain⟨a1,c1,e1,q1⟩:=id hx.2.2.1;have x1:x.cells[1]? = some (.slice a1 x.f.shapes.length c1):=by rw[<- e1];rfl
 obtain⟨b,e,ro,rfl,hgb0⟩:=q1 (by omega);have hgb:H1.get b=some (.cells (ints x.f.shapes) e ro):=by rw[hx1.get b (hw.lt hgb0)];exact hgb0
 have d1:(0:Int)<=i∧(i:Int)<x.f.shapes.length:=by omega
 have d3:(i:Int).toNat=i:=by omega
 have hsi:(ints x.f.shapes)[i]? = some (.int .i64 (x.f.shapes.getD i 0)):=by
  simp[ints,LD,LX,La hi]
 generalize x.f.shapes.getD i 0=s at *;have d4:(0:Int)<=s∧s<((35:Nat):Int):=by omega
 have g13:g.cells.take 13=g.cells:=rfl;have l13:13<=g.cells.length:=Lb _;obtain⟨f,ys,rfl,hq⟩:=hT;simp only[Qah,sxA,sxB,Nat.reduceBEq,Nat.reduceEqDiff,reduceCtorEq,mxA,mxB,Nat.reduceAdd,reduceIte,Nat.reduceLeDiff,splice,r2,r7,r8,r10,g2,x1,hgb,d1,d3,hsi,hgt,d4,hcv,hg,g13,Lw,Qxh];refine⟨l13,?_⟩;refine(show Qg prog f (.agg g.cells.toArray::ys) H1 _ from hq g H1 h01).thenW ?_;rintro _ H2 hn2 hw2 ⟨rfl,hx2⟩;cases c:Qee s.toNat g with
 | false=>
  simp only[Qb,simprocAttr,Xy];exact .mk (hx1.trans hx2).next ⟨by rw[h0 c],hx1.trans hx2⟩
 | true=>
  simp only[Qb,simprocAttr];refine h1 c _ H2 hx2 hw2 ?_ ?_ ?_ ?_ ?_ ?_ ?_ ?_
  all_goals simp only[Ql,simprocAttr]
theorem QGy (hw:H.Wf) (hx:x.At H) (ha:Q0 H va l) (hl:l.length<=1000) (hI:∀a∈l,I64 a.n) (hs:QlR x.f=0) (hn:x.f.shapes.length=l.length) {W:Bool} (eW:W=(List.range l.length).all λi=>Qg8 (WC op l) (l.getD i WM) (x.f.shapes.getD i 0)) {A:Env} {H1:Qa} (hF:FtF H H1 x op va A):
  Qs prog Qai ⟨KF H W,YO⟩ (KF H W) A H1:=by
 obtain⟨hx1,hw1,g2,g3,hn1,r2,r3⟩:=id hF;obtain⟨a0,cap,rfl⟩:=Q7 ha;simp only[Qai,Qb,simprocAttr,r2,r3,g2,g3,Lw,List.take];refine(Qce op _ l H1 (ha.ext hw hx1) hl).thenW ?_;rintro _ _ hn2 hw2 ⟨rfl,k,rfl⟩;have hx2:Ext H1 (H1.up k):=(Ext.refl H1).up hn2;obtain⟨ib,eib⟩:∃ib,ib=WC op l:=⟨_,rfl⟩;rw[<- eib]at eW ⊢;simp only[Qb,simprocAttr];refine(QCC (H1.up k)).thenW ?_;rintro _ H3 hn3 hw3 ⟨tb,cs,rfl,hx3,htb,hgt,hcl,hT⟩;obtain⟨hx03,_,g32,g33,hn33,_,_⟩:=hF.go (hx2.trans hx3) hw3 (B:=A) rfl rfl;have ltb:=hw3.lt hgt;simp only[Qb,simprocAttr,r2,r3,g32,g33];refine QB (λm A' H'=>∃i:Nat,i<=l.length∧m=l.length - i∧FtF H H' x op (.slice a0 l.length cap) A'∧Ext H3 H'∧A' 5=.int .i64 ib.1∧A' 6=.bool ib.2∧A' 7=.slice (some ⟨tb,0,none⟩) 35 35∧A' 42=.slice a0 l.length cap∧A' 43=.int .i64 l.length∧A' 44=.int .i64 i∧∀j,j<i->Qg8 ib (l.getD j WM) (x.f.shapes.getD j 0)=true) l.length ?_ ?_
 ·refine⟨0,L7 _,by omega,hF.go (hx2.trans hx3) hw3 ?_ ?_,Ext.refl _,?_,?_,?_,?_,?_,?_,λj h=>by omega⟩
  all_goals simp only[Ql,simprocAttr]
  all_goals rfl
 ·rintro m A' H' ⟨i,hi,rfl,hF',hx',r5,r6,r7,r42,r43,r44,hall⟩;obtain⟨hxH,hw',g2',g3',hn',r2',r3'⟩:=id hF';simp only[Qfy,Qb,simprocAttr,r43,r44];refine Qi (λh2=>?_) (λh2=>?_)
  ·have h2:i<l.length:=by have:=Lg h2;omega
   obtain⟨a,hai⟩:∃a,l[i]? = some a:=⟨_,La h2⟩;obtain⟨a0',cap',e0,h1⟩:=ha;cases e0;obtain⟨b,e,ro,rfl,hgb0⟩:=h1 (by omega);have hgb:H'.get b=some (.cells (Qo l) e ro):=by rw[hxH.get b (hw.lt hgb0)];exact hgb0
   have htk:=Xd l i a hai;have hle:i * 11+11<=(Qo l).length:=by rw[QW];omega
   have d1:(0:Int)<=i∧(i:Int)<l.length:=by omega
   have d3:(i:Int).toNat=i:=by omega
   have hga:l.getD i WM=a:=by rw[LX,hai];rfl
   have hIa:I64 a.n:=hI a (Ln hai);have qi:=Vu a.n ib.1 ib.2 hIa;have hfa:Qg8 ib (l.getD i WM) (x.f.shapes.getD i 0)=((!(a.k==3)||((Jt a.n ib.1 ib.2).2==0))&&Qee (x.f.shapes.getD i 0).toNat (Qpa ib a)):=by rw[hga];rfl
   have hsh:=QyY hs i (by omega);obtain⟨gv,egv⟩:∃gv,gv=Qpa ib a:=⟨_,rfl⟩;rw[<- egv]at hfa;obtain⟨ak,⟨rc,rn⟩,⟨⟨bc,bn⟩,⟨ic,nn⟩,sc,d,sz⟩,n⟩:=a;simp only[Ar.cells]at htk;simp only at hfa qi;simp only[Qfx,Qb,simprocAttr,r42,r44,d1,d3,hgb,htk];refine⟨hle,?_⟩;generalize hH4:(Qa.set (Qa.push (Qa.set (Qa.push H' _) _ _) _) _ _)=H4;have hx4:Ext H' H4:=by
    rw[<- hH4];refine Ext.set (Ext.push (Ext.set (Ext.push (Ext.refl H') _) ?_ _) _) ?_ _
    all_goals omega
   have hw4:H4.Wf:=by
    rw[<- hH4];refine Qa.Wf.set (b0:=.cells [.int .i64 0,.int .i64 0,.int .i64 0,.int .i64 0,.int .i64 0,.int .i64 0,.int .i64 0,.int .i64 0,.int .i64 0,.int .i64 0,.int .i64 0,.int .i64 0,.int .i64 0] Qk false) (Qa.Wf.push (hw'.push _ |>.set (b0:=.cells [.int .i64 0,.int .i64 0,.int .i64 0,.int .i64 0,.int .i64 0,.int .i64 0,.int .i64 0,.int .i64 0,.int .i64 0,.int .i64 0,.int .i64 0] Qh false) (by rw[Qd,Lc rfl]) _) _) (by rw[Qd];exact Lc rfl) _
   have g49:H4.get H'.next=some (.cells [.int .i64 ak,.int .i64 rc,.int .i64 rn,.int .i64 bc,.int .i64 bn,.int .i64 ic,.int .i64 nn,.int .i64 sc,.int .i64 d,.int .i64 sz,.int .i64 n] Qh false):=by
    rw[<- hH4,Qn,Le (by omega),Qd,Le (by simp only[QE,Qe];omega),Qn,Lc rfl]
   have g4A:H4.get (H'.next+1)=some (.cells [.int .i64 ak,.int .i64 rc,.int .i64 rn,.int .i64 bc,.int .i64 bn,.int .i64 ic,.int .i64 nn,.int .i64 sc,.int .i64 d,.int .i64 sz,.int .i64 n,.int .i64 0,.int .i64 0] Qk false):=by
    rw[<- hH4,Qn,Lc rfl]
   have hn4:H'.next+2<=H4.next:=by rw[<- hH4];simp only[QE,Qe];omega
   clear hH4;have hend:∀ (B:Env) (H5:Qa),Qg8 ib (l.getD i WM) (x.f.shapes.getD i 0)=true->Ext H' H5->H5.Wf->B 2=A' 2->B 3=A' 3->B 5=A' 5->B 6=A' 6->B 7=A' 7->B 42=A' 42->B 43=A' 43->B 44=.int .i64 ((i+1:Nat):Int)->QwU (λm A' H'=>∃i:Nat,i<=l.length∧m=l.length - i∧FtF H H' x op (.slice (some ⟨b,0,none⟩) l.length cap) A'∧Ext H3 H'∧A' 5=.int .i64 ib.1∧A' 6=.bool ib.2∧A' 7=.slice (some ⟨tb,0,none⟩) 35 35∧A' 42=.slice (some ⟨b,0,none⟩) l.length cap∧A' 43=.int .i64 l.length∧A' 44=.int .i64 i∧∀j,j<i->Qg8 ib (l.getD j WM) (x.f.shapes.getD j 0)=true) (l.length - i) B H5:=by
    intro B H5 hft e1 e2 p2 p3 p5 p6 p7 p42 p43 p44;refine⟨l.length - (i+1),by omega,i+1,by omega,rfl,hF'.go e1 e2 p2 p3,hx'.trans e1,p5.trans r5,p6.trans r6,p7.trans r7,p42.trans r42,p43.trans r43,p44,λj hj=>?_⟩
    by_cases h:j=i
    ·rw[h];exact hft
    ·exact hall j (by omega)
   have ei:IntKind.i64.wrap ((i:Int)+1)=((i+1:Nat):Int):=by rw[w64 (by unfold I64;omega)];omega
   have hbad:Qg8 ib (l.getD i WM) (x.f.shapes.getD i 0)=false->W=false:=λh=>by rw[eW];exact JE h2 h
   obtain⟨tv,htv,hTv⟩:=hT (x.f.shapes.getD i 0).toNat (by omega);have hF4:∀B:Env,B 2=A' 2->B 3=A' 3->FtF H H4 x op (.slice (some ⟨b,0,none⟩) l.length cap) B:=λB e2 e3=>hF'.go hx4 hw4 e2 e3;have hgt4:H4.get tb=some (.cells cs YU false):=((hx'.trans hx4).get tb ltb).trans hgt;cases c:ak==3 with
   | false=>
    have eg:gv=⟨⟨ak,⟨rc,rn⟩,⟨⟨bc,bn⟩,⟨ic,nn⟩,sc,d,sz⟩,n⟩,0,0⟩:=by rw[egv,Qpa,Le (by simpa using c)]
    rw[c,LM,N1,LJ]at hfa;simp only[Qb,simprocAttr];refine QFT (H0:=H3) (g:=gv) (p:=H'.next+1) (i:=i) hw hx (hF4 _ ?_ ?_) (by omega) hsh (tb:=tb) (cs:=cs) (v:=tv) ?_ ?_ hgt4 htv hTv (hx'.trans hx4) ?_ (by rw[eg];exact g4A) (λh=>hbad (hfa.trans h)) ?_
    all_goals (try (simp only[Ql,simprocAttr,r7];done))
    intro h B H5 e1 e2 p2 p3 p5 p6 p7 p42 p43 p44;simp only[Ql,simprocAttr]at p2 p3 p5 p6 p7 p42 p43 p44;simp only[Qb,simprocAttr,p44,r44,ei];refine hend _ H5 (hfa.trans h) (hx4.trans e1) e2 ?_ ?_ ?_ ?_ ?_ ?_ ?_ ?_
    all_goals simp only[Ql,simprocAttr,p2,p3,p5,p6,p7,p42,p43]
   | true=>
    have eg:gv=⟨⟨ak,⟨rc,rn⟩,⟨⟨bc,bn⟩,⟨ic,nn⟩,sc,d,sz⟩,n⟩,ib.1,(Jt n ib.1 ib.2).1⟩:=by rw[egv,Qpa,Lc (by simpa using c)]
    rw[c,L8,Nt]at hfa;simp only[Qfw,Qb,simprocAttr,g49,r5,r6];refine(qi H4).thenW ?_;rintro _ H4' hn6 hw6 ⟨rfl,eH4⟩;rw[eH4];obtain⟨m1,em1⟩:∃m1,m1=(Jt n ib.1 ib.2).1:=⟨_,rfl⟩;obtain⟨m2,em2⟩:∃m2,m2=(Jt n ib.1 ib.2).2:=⟨_,rfl⟩;rw[<- em1]at eg ⊢;rw[<- em2]at hfa ⊢;simp only[Qb,simprocAttr];cases c2:m2==0 with
    | false=>
     simp only[Qb,simprocAttr,c2,Xy];exact .mk (hxH.trans hx4).next ⟨by rw[hbad (by rw[hfa,c2];rfl)],hxH.trans hx4⟩
    | true=>
     rw[c2,LJ]at hfa;simp only[Qb,simprocAttr,c2,r5,g4A];generalize hH6:Qa.set (Qa.set H4 _ _) _ _=H6;have hx6:Ext H' H6:=by
      rw[<- hH6];refine Ext.set (Ext.set hx4 ?_ _) ?_ _
      all_goals omega
     have hw6:H6.Wf:=by
      rw[<- hH6];exact Qa.Wf.set (b0:=.cells _ Qk false) (Qa.Wf.set hw4 g4A _) (by rw[Qn,Lc rfl]) _
     have g6A:H6.get (H'.next+1)=some (.cells [.int .i64 ak,.int .i64 rc,.int .i64 rn,.int .i64 bc,.int .i64 bn,.int .i64 ic,.int .i64 nn,.int .i64 sc,.int .i64 d,.int .i64 sz,.int .i64 n,.int .i64 ib.1,.int .i64 m1] Qk false):=by
      rw[<- hH6,Qn,Lc rfl]
     clear hH6;have hgt6:H6.get tb=some (.cells cs YU false):=((hx'.trans hx6).get tb ltb).trans hgt;refine QFT (H0:=H3) (g:=gv) (p:=H'.next+1) (i:=i) hw hx (hF'.go hx6 hw6 ?_ ?_) (by omega) hsh (tb:=tb) (cs:=cs) (v:=tv) ?_ ?_ hgt6 htv hTv (hx'.trans hx6) ?_ (by rw[eg];exact g6A) (λh=>hbad (hfa.trans h)) ?_
     all_goals (try (simp only[Ql,simprocAttr,r7];done))
     intro h B H5 e1 e2 p2 p3 p5 p6 p7 p42 p43 p44;simp only[Ql,simprocAttr]at p2 p3 p5 p6 p7 p42 p43 p44;simp only[Qb,simprocAttr,p44,r44,ei];refine hend _ H5 (hfa.trans h) (hx6.trans e1) e2 ?_ ?_ ?_ ?_ ?_ ?_ ?_ ?_
     all_goals simp only[Ql,simprocAttr,p2,p3,p5,p6,p7,p42,p43]
  ·have h2:i=l.length:=by have:=Ll h2;omega
   subst h2;have eT:W=true:=by rw[eW];exact KZ λj hj=>hall j hj
   simp only[Qb,simprocAttr,Xy];exact .mk hxH.next ⟨by rw[eT],hxH⟩
theorem QGz (hw:H.Wf) (hx:x.At H) (hf:x.Fr 0) (ha:Q0 H va l) (hl:l.length<=1000) (hI:∀a∈l,I64 a.n) (hn:x.f.shapes.length=l.length) {W:Bool} (eW:W=((QlR x.f==0)&&(Wa op l==0)&&(List.range l.length).all λi=>Qg8 (WC op l) (l.getD i WM) (x.f.shapes.getD i 0))) {A:Env} {H1:Qa} (hF:FtF H H1 x op va A):
  Qs prog Qaj ⟨KF H W,YO⟩ (KF H W) A H1:=by
 obtain⟨hx1,hw1,g2,g3,hn1,r2,r3⟩:=id hF;have e10:x.cells.take 10=x.cells:=rfl;have l10:10<=x.cells.length:=Lb _;simp only[Qaj,Qb,simprocAttr,r2,r3,g2,g3,Lw,e10];refine⟨l10,?_⟩;refine(Qqe x H1 (hx.ext hw hx1) hf).thenW ?_;rintro _ _ hn2 hw2 ⟨rfl,k,rfl⟩;have hx2:Ext H1 (H1.up k):=(Ext.refl H1).up hn2;obtain⟨hx3,_,g22,g23,hn3,_,_⟩:=hF.go hx2 hw2 rfl rfl;cases c:QlR x.f==0 with
 | false=>
  simp only[Qb,simprocAttr,r2,r3,g22,g23,c,Xy];exact .mk hx3.next ⟨by rw[eW,c];rfl,hx3⟩
 | true=>
  simp only[Qb,simprocAttr,r2,r3,g22,g23,c,Lw,List.take];refine(KI op va l _ (ha.ext hw hx3) hl hI).thenW ?_;rintro _ _ hn4 hw4 ⟨rfl,k2,rfl⟩;have hx4:Ext H1 ((H1.up k).up k2):=hx2.up hn4;have hF4:∀B:Env,B 2=A 2->B 3=A 3->FtF H ((H1.up k).up k2) x op va B:=λB e2 e3=>hF.go hx4 hw4 e2 e3;cases c2:Wa op l==0 with
  | false=>
   simp only[Qb,simprocAttr,c2,Xy];exact .mk (hx1.trans hx4).next ⟨by rw[eW,c,c2];rfl,hx1.trans hx4⟩
  | true=>
   simp only[Qb,simprocAttr,c2];refine QGy hw hx ha hl hI (L0.1 c) hn (by rw[eW,c,c2];rfl) (hF4 _ ?_ ?_)
   all_goals simp only[Ql,simprocAttr]
end
theorem Qsi {x:Lf} {op:Int} {va:Value} {l:List Ar} (H:Qa) (hx:x.At H) (hf:x.Fr 0) (ha:Q0 H va l) (hl:l.length<=1000) (hI:∀a∈l,I64 a.n):
  Qg prog QeC [.agg x.cells.toArray,.agg #[.int .i64 op,va]] H λv H'=>v=.bool (QkV x.f op l)∧Ext H H':=by
 refine QpV λhw=>?_;have ex:(Value.agg x.cells.toArray).cells.toList=x.cells:=rfl;have e10:x.cells.take 10=x.cells:=rfl;have x0:x.cells[0]? = some (.int .i64 x.f.op):=rfl;have l10:10<=x.cells.length:=Lb _;obtain⟨a1,c1,e1⟩:=Q7 hx.2.2.1;have x1:x.cells[1]? = some (.slice a1 x.f.shapes.length c1):=by rw[<- e1];rfl
 obtain⟨W,eW⟩:∃W,W=QkV x.f op l:=⟨_,rfl⟩;rw[<- eW];obtain⟨a0,cap,rfl⟩:=Q7 ha;simp only[Qh9,ex,Qba,simprocAttr];generalize hH1:Qa.push H (.cells x.cells Qf false)=H1;have g1:H1.get H.next=some (.cells x.cells Qf false):=by rw[<- hH1,Qd,Lc rfl]
 have hx1:Ext H H1:=by rw[<- hH1];exact(Ext.refl H).push _
 have hn1:H1.next=H.next+1:=by rw[<- hH1];rfl
 have hw1:H1.Wf:=by rw[<- hH1];exact hw.push _
 clear hH1;simp only[Qb,simprocAttr,hn1];generalize hH2:Qa.push H1 _=H2;have hx2:Ext H H2:=by rw[<- hH2];exact(hx1.push _)
 have hw2:H2.Wf:=by rw[<- hH2];exact(hw1.push _)
 have g22:H2.get H.next=some (.cells x.cells Qf false):=by rw[<- hH2,Qd,Le (by omega)];exact g1
 have g23:H2.get (H.next+1)=some (.cells [.int .i64 op,.slice a0 l.length cap] Qc false):=by rw[<- hH2,Qd,Lc (by omega)]
 have hn2:H2.next=H.next+2:=by rw[<- hH2,Qe,hn1]
 clear hH2;simp only[Qb,simprocAttr,g1,g22,g23,Lw,e10,x0,x1];have hF:∀A:Env,A 2=.pointer (some ⟨H.next,0,none⟩)->A 3=.pointer (some ⟨H.next+1,0,none⟩)->FtF H H2 x op (.slice a0 l.length cap) A:=λA e2 e3=>⟨hx2,hw2,g22,g23,by omega,e2,e3⟩;cases c1:x.f.op==op with
 | false=>
  simp only[Qb,simprocAttr,g22,g23,x1,Xy];exact .mk hx2.next ⟨by rw[eW,QkV,c1];rfl,hx2⟩
 | true=>
  simp only[Qb,simprocAttr,g22,g23,x1];have el:((x.f.shapes.length:Int)==(l.length:Int))=(x.f.shapes.length==l.length):=by
   rw[Ni,L0,L0];omega
  rw[el];cases c2:x.f.shapes.length==l.length with
  | false=>
   simp only[Qb,simprocAttr,Xy];exact .mk hx2.next ⟨by rw[eW,QkV,c1,c2];rfl,hx2⟩
  | true=>
   simp only[Qb,simprocAttr];refine QGz hw hx hf ha hl hI (L0.1 c2) (by rw[eW,QkV,c1,c2];rfl) (hF _ ?_ ?_)
   all_goals simp only[Ql,simprocAttr]
def tlN (f:Fm):Int:=if 0<=QM f.slots 7 then tlF f - 1 else tlF f
def QCD (f:Fm) (op:Int) (l:List Ar):Int:=if(l[(QM f.slots 5).toNat]?.getD WM).k=3 then(Jt (l[(QM f.slots 5).toNat]?.getD WM).n (WC op l).1 (WC op l).2).1 else(l[(QM f.slots 5).toNat]?.getD WM).n
def isB (n:Int):Int:=IntKind.u8.wrap (IntKind.i64.wrap (16 * n))
def QaC (f:Fm) (op:Int) (l:List Ar):List Int:=(if 0<=QM f.slots 5 then(Vk (QCD f op l) (tlN f)).1 else[])++(if 0<=QM f.slots 7 then[isB (l[(QM f.slots 7).toNat]?.getD WM).r.n] else[])
theorem Qxj (n sz:Int):(Vk n sz).1.length<=1000:=by
 unfold Vk;split
 ·simp
 ·split
  ·simp
  ·rename_i h _;have h:Qjl sz=true:=by simpa using h
   unfold Qjl at h;simp only[Nw,L0]at h;simp only[Qjm,Nn,BO];omega
section
variable {x:Lf} {op:Int} {va:Value} {l:List Ar} {H:Qa}
abbrev KT (H:Qa) (W:List Int):Env->Qa->Prop:=Rt prog QpW H λv H'=>Gx 1 5 H H' v W.length (bys W)∧Ext H H'
theorem QFU (hw:H.Wf) (ha:Q0 H va l) (hl:l.length<=1000) {W w:List Int} {s:Int} (hs:s<l.length) (hwl:w.length<=1000) (eW:W=w++(if 0<=s then[isB (l[s.toNat]?.getD WM).r.n] else[])) {A:Env} {H1:Qa} {v:Value} (hx1:Ext H H1) (hw1:H1.Wf) (g3:H1.get (H.next+1)=some (.cells [.int .i64 op,va] Qc false)) (r3:A 3=.pointer (some ⟨H.next+1,0,none⟩)) (r5:A 5=v) (r7:A 7=.int .i64 s) (hv:Gx 1 5 H H1 v w.length (bys w)):
  Qs prog ZY ⟨KT H W,YO⟩ (KT H W) A H1:=by
 obtain⟨a0,cap,rfl,h1⟩:=ha;simp only[ZY,Qb,simprocAttr,r7];refine Qi (λh=>?_) (λh=>?_)
 ·have h0:0<=s:=Lg h;rw[Lc h0]at eW;obtain⟨i,rfl⟩:∃i:Nat,s=i:=⟨s.toNat,by omega⟩;have hil:i<l.length:=by omega
  obtain⟨a,hai⟩:∃a,l[i]? = some a:=⟨_,La hil⟩;obtain⟨b,e,ro,rfl,hgb0⟩:=h1 (by omega);have hgb:H1.get b=some (.cells (Qo l) e ro):=by rw[hx1.get b (hw.lt hgb0)];exact hgb0
  have hrg:=QmN hai;have d1:(0:Int)<=i∧(i:Int)<l.length:=by omega
  have d3:(i:Int).toNat=i:=by omega
  have hgd:(l[(i:Int).toNat]?.getD WM).r.n=a.r.n:=by rw[d3,hai];rfl
  rw[hgd]at eW;simp only[QdO,Qb,simprocAttr,r3,r5,r7,g3,d1,d3,hgb,hrg];refine Qdf (ms:=[.int .u8 (isB a.r.n)]) (m:=1) (hv.go hw1 ((Ext.refl H1).push _)) (hx1.push _) (hw1.push _) (Qtq (by rw[Qd,Lc rfl];rfl)) rfl rfl (by omega) (by omega) ?_;intro v2 H2 hv2 hk2;simp only[Qb,simprocAttr,Qfz];have e2:W.length=w.length+1:=by rw[eW,Lh,Bb]
  have e3:bys W=bys w++[.int .u8 (isB a.r.n)]:=by rw[eW,bys,bys,N6];rfl
  exact .mk hk2.x.next ⟨by rw[e2,e3];exact hv2,hk2.x⟩
 ·rw[Le (by have:=Ll h;omega),Na]at eW;simp only[Qb,simprocAttr,r5,Qfz];exact .mk hx1.next ⟨by rw[eW];exact hv,hx1⟩
theorem QFV (hw:H.Wf) (hx:x.At H) (ha:Q0 H va l) (hl:l.length<=1000) (hI:∀a∈l,I64 a.n) (hn:x.f.slots.length=l.length) {W:List Int} (eW:W=QaC x.f op l) {A:Env} {H1:Qa} (hF:FtF H H1 x op va A) (r5:A 5=.slice none 0 0) (r6:A 6=.int .i64 (tlN x.f)) (r7:A 7=.int .i64 (QM x.f.slots 7)):
  Qs prog Vj ⟨KT H W,YO⟩ (KT H W) A H1:=by
 obtain⟨hx1,hw1,g2,g3,hn1,r2,r3⟩:=id hF;have e10:x.cells.take 10=x.cells:=rfl;have l10:10<=x.cells.length:=Lb _;have hlt5:=Qt6 x.f.slots 5;have hlt7:=Qt6 x.f.slots 7;unfold QaC at eW;simp only[Vj,Qb,simprocAttr,r2,g2,Lw,e10];refine⟨l10,?_⟩;refine(Q6 x 5 H1 (hx.ext hw hx1)).thenW ?_;rintro _ _ hn2 hw2 ⟨rfl,k,rfl⟩;have hx2:Ext H1 (H1.up k):=(Ext.refl H1).up hn2;obtain⟨hx3,_,g22,g23,hn3,_,_⟩:=hF.go hx2 hw2 rfl rfl;simp only[Qb,simprocAttr];refine Qi (λh=>?_) (λh=>?_)
 ·have h0:0<=QM x.f.slots 5:=Lg h;rw[Lc h0]at eW;have eN:QCD x.f op l=if(l[(QM x.f.slots 5).toNat]?.getD WM).k=3 then(Jt (l[(QM x.f.slots 5).toNat]?.getD WM).n (WC op l).1 (WC op l).2).1 else(l[(QM x.f.slots 5).toNat]?.getD WM).n:=rfl
  obtain⟨i,hi⟩:∃i:Nat,QM x.f.slots 5=i:=⟨(QM x.f.slots 5).toNat,by omega⟩;rw[hi]at hlt5 eN ⊢;have hil:i<l.length:=by omega
  obtain⟨a,hai⟩:∃a,l[i]? = some a:=⟨_,La hil⟩;have d1:(0:Int)<=i∧(i:Int)<l.length:=by omega
  have d3:(i:Int).toNat=i:=by omega
  have hgd:l[(i:Int).toNat]?.getD WM=a:=by rw[d3,hai];rfl
  rw[hgd]at eN;have hIa:I64 a.n:=hI a (Ln hai);have hIm:=Qow a.n (WC op l).1 (WC op l).2 hIa;have qi:=Vu a.n (WC op l).1 (WC op l).2 hIa;have qb:=λH' (hx:Ext H H')=>Qce op va l H' (ha.ext hw hx) hl;obtain⟨a0,cap,rfl,h1⟩:=id ha;obtain⟨b,e,ro,rfl,hgb0⟩:=h1 (by omega);have hgb:(H1.up k).get b=some (.cells (Qo l) e ro):=by rw[hx3.get b (hw.lt hgb0)];exact hgb0
  have hk0:(Qo l)[i * 11]? = some (.int .i64 a.k):=by
   have:=Xd l i a hai;have h:=congrArg (λz=>z[0]?) this;simpa[Ar.cells,Nl,Nk] using h
  have hk10:(Qo l)[i * 11+10]? = some (.int .i64 a.n):=by
   have:=Xd l i a hai;have h:=congrArg (λz=>z[10]?) this;simpa[Ar.cells,Nl,Nk] using h
  generalize H1.up k=H2 at *;simp only[QdQ,Qb,simprocAttr,r3,g23,d1,d3,hgb,hk0,hk10];obtain⟨N,eNN⟩:∃N,N=QCD x.f op l:=⟨_,rfl⟩;rw[<- eNN]at eN eW;have hIN:I64 N:=by
   rw[eN];split
   ·exact hIm
   ·exact hIa
  have hput:∀ (B:Env) (H5:Qa),Ext H2 H5->H5.Wf->B 3=A 3->B 7=A 7->Qg prog VD [.int .i64 N,.int .i64 (tlN x.f)] H5 (Qml prog [Om 49 (t 52),Ow 53 (.ext (t 49) 0),Ow 54 (.ext (t 49) 1),Om 5 (t 53)] (Qs prog ZY ⟨KT H W,YO⟩ (KT H W)) B (some 52)):=by
   intro B H5 e1 e2 p3 p7;refine(QmM N (tlN x.f) hIN H5).thenW ?_;rintro _ H6 hn6 hw6 ⟨v,rfl,hv,hx6⟩;simp only[Qb,simprocAttr];have hx56:=(hx3.trans e1).trans hx6;have hnn:=(hx3.trans e1).next;refine QFU hw ha hl (by omega) (Qxj N (tlN x.f)) eW (v:=v) hx56 hw6 (by rw[(e1.trans hx6).get _ (by omega)];exact g23) ?_ ?_ ?_ (hv.down hnn)
   all_goals simp only[Ql,simprocAttr,p3,p7,r3,r7]
  cases c:a.k==3 with
  | false=>
   rw[Le (by simpa using c)]at eN;rw[eN]at hput;simp only[Qb,simprocAttr,r6];refine hput _ H2 (Ext.refl _) hw2 ?_ ?_
   all_goals simp only[Ql,simprocAttr]
  | true=>
   rw[Lc (by simpa using c)]at eN;simp only[QdP,Qb,simprocAttr,r3,g23,Lw,List.take];refine(qb H2 hx3).thenW ?_;rintro _ _ hn4 hw4 ⟨rfl,k4,rfl⟩;simp only[Qb,simprocAttr];refine(qi _).thenW ?_;rintro _ H5 hn5 hw5 ⟨rfl,eH5⟩;rw[eH5]at hw5 ⊢;rw[eN]at hput;simp only[Qb,simprocAttr,r6];refine hput _ _ (show Ext H2 (H2.up k4) from(Ext.refl H2).up hn4) hw5 ?_ ?_
   all_goals simp only[Ql,simprocAttr]
 ·rw[Le (by have:=Ll h;omega),LH]at eW;simp only[Qb,simprocAttr];refine QFU hw ha hl (w:=[]) (by omega) (by simp) eW (v:=.slice none 0 0) hx3 hw2 g23 ?_ ?_ ?_ (.inl ⟨rfl,rfl,rfl⟩)
  all_goals simp only[Ql,simprocAttr,r3,r5,r7]
end
theorem QAF {x:Lf} {H:Qa} (hw:H.Wf) (hx:x.At H) (hf:x.Fr 0) (m:Nat) (hm:H.next<=m):Qm m 6 (.agg x.cells.toArray)=true:=by
 have h1:=Qhv hw hf.1 hx.2.2.1 m hm 4;have h2:=Qhv hw hf.2 hx.2.2.2 m hm 4;simp only[Nat.reduceAdd]at h1 h2;obtain⟨f,v1,v2⟩:=x;have e1:SlF 0 v1 f.shapes:=hf.1;have e2:SlF 0 v2 f.slots:=hf.2;clear hx hf;simp only[Lf.cells]at *;rcases e1 with⟨_,rfl⟩ | ⟨_,b1,c1,rfl,_,_⟩<;>rcases e2 with⟨_,rfl⟩ | ⟨_,b2,c2,rfl,_,_⟩
 all_goals (simp only[Qm]at h1 h2;simp[Qm,Ab.plain,h1,h2])
theorem Qqf {x:Lf} {op:Int} {va:Value} {l:List Ar} (H:Qa) (hx:x.At H) (hf:x.Fr 0) (ha:Q0 H va l) (hl:l.length<=1000) (hI:∀a∈l,I64 a.n) (hn:x.f.slots.length=l.length):
  Qg prog Qc1 [.agg x.cells.toArray,.agg #[.int .i64 op,va]] H λv H'=>Gx 1 5 H H' v (QaC x.f op l).length (bys (QaC x.f op l))∧Ext H H':=by
 refine QoK λhw=>?_;have ex:(Value.agg x.cells.toArray).cells.toList=x.cells:=rfl;have e10:x.cells.take 10=x.cells:=rfl;have l10:10<=x.cells.length:=Lb _;obtain⟨W,eW⟩:∃W,W=QaC x.f op l:=⟨_,rfl⟩;rw[<- eW];obtain⟨a0,cap,rfl⟩:=Q7 ha;simp only[QgF,ex,Qba,simprocAttr];generalize hH1:Qa.push H (.cells x.cells Qf false)=H1;have g1:H1.get H.next=some (.cells x.cells Qf false):=by rw[<- hH1,Qd,Lc rfl]
 have hx1:Ext H H1:=by rw[<- hH1];exact(Ext.refl H).push _
 have hn1:H1.next=H.next+1:=by rw[<- hH1];rfl
 have hw1:H1.Wf:=by rw[<- hH1];exact hw.push _
 clear hH1;simp only[Qb,simprocAttr,hn1];generalize hH2:Qa.push H1 _=H2;have hx2:Ext H H2:=by rw[<- hH2];exact(hx1.push _)
 have hw2:H2.Wf:=by rw[<- hH2];exact(hw1.push _)
 have g22:H2.get H.next=some (.cells x.cells Qf false):=by rw[<- hH2,Qd,Le (by omega)];exact g1
 have g23:H2.get (H.next+1)=some (.cells [.int .i64 op,.slice a0 l.length cap] Qc false):=by rw[<- hH2,Qd,Lc (by omega)]
 have hn2:H2.next=H.next+2:=by rw[<- hH2,Qe,hn1]
 clear hH2;simp only[Qb,simprocAttr,g1,g22,g23,Lw,e10];refine⟨l10,by omega,?_⟩;refine(Qr4 x H2 (hx.ext hw hx2)).thenW ?_;rintro _ _ hn3 hw3 ⟨rfl,k,rfl⟩;have hx3:Ext H2 (H2.up k):=(Ext.refl H2).up hn3;refine⟨hx3.eqB,?_⟩;have g32:(H2.up k).get H.next=some (.cells x.cells Qf false):=by rw[Z9];exact g22
 have g33:(H2.up k).get (H.next+1)=some (.cells [.int .i64 op,.slice a0 l.length cap] Qc false):=by rw[Z9];exact g23
 have hk:H2.next<=k:=hn3;simp only[Qb,simprocAttr,g32,Lw,e10];refine⟨l10,QAF hw hx hf k (by omega),?_⟩;refine(Q6 x 7 _ (hx.ext hw (hx2.trans hx3))).thenW ?_;rintro _ _ hn4 hw4 ⟨rfl,k2,rfl⟩;have hx4:Ext H2 ((H2.up k).up k2):=hx3.up hn4;have hF:∀B:Env,B 2=.pointer (some ⟨H.next,0,none⟩)->B 3=.pointer (some ⟨H.next+1,0,none⟩)->FtF H ((H2.up k).up k2) x op (.slice a0 l.length cap) B:=λB e2 e3=>⟨hx2.trans hx4,hw4,by rw[Z9];exact g32,by rw[Z9];exact g33,by have:=hx4.next;omega,e2,e3⟩;have ht:=QAv x.f;have hT:tlF x.f=bif decide (0<=QM x.f.slots 7) then tl1 x.f+1 else tl1 x.f:=rfl
 simp only[Qb,simprocAttr];refine Qi (λh=>?_) (λh=>?_)
 ·have h0:0<=QM x.f.slots 7:=Lg h;have eT:tlN x.f=tlF x.f - 1:=Lc h0;rw[h,Lq]at hT;have ew:IntKind.i64.wrap (tlF x.f - 1)=tlN x.f:=by rw[eT,w64 (by unfold I64;omega)]
  simp only[Qb,simprocAttr,ew];refine QFV hw hx ha hl hI hn eW (hF _ ?_ ?_) ?_ ?_ ?_
  all_goals simp only[Ql,simprocAttr]
 ·have eT:tlN x.f=tlF x.f:=Le (by have:=Ll h;omega);simp only[Qb,simprocAttr];refine QFV hw hx ha hl hI hn eW (hF _ ?_ ?_) ?_ ?_ ?_
  all_goals simp only[Ql,simprocAttr,eT]
def QEA (f:Fm) (l:List Ar):Int:=if 0<=QM f.slots 1 then Xp (l[(QM f.slots 1).toNat]?.getD WM).r else f.digit
def Yf (f:Fm) (l:List Ar):List Ld:=
 if QM f.slots 2<0 then[⟨[],0,0⟩]
 else if((Qnc (QEA f l) (l[(QM f.slots 2).toNat]?.getD WM)).2==0)=true then(Qnc (QEA f l) (l[(QM f.slots 2).toNat]?.getD WM)).1 else[]
section
variable {x:Lf} {op:Int} {va:Value} {l:List Ar} {H:Qa}
abbrev KP (H:Qa) (W:List Ld):Env->Qa->Prop:=Rt prog Qm4 H λv H'=>XP Qq H H' v W∧Ext H H'
theorem QFW (hw:H.Wf) (ha:Q0 H va l) {W:List Ld} {mid:Int} {i:Nat} {a:Ar} (hai:l[i]? = some a) (eW:W=if((Qnc mid a).2==0)=true then(Qnc mid a).1 else[]) {A:Env} {H1:Qa} (hF:FtF H H1 x op va A) (r4:A 4=.slice none 0 0) (r5:A 5=.int .i64 i) (r6:A 6=.int .i64 mid):
  Qs prog JR ⟨KP H W,YO⟩ (KP H W) A H1:=by
 obtain⟨hx1,hw1,g2,g3,hn1,r2,r3⟩:=id hF;have hil:i<l.length:=(Lk.1 hai).1;obtain⟨a0,cap,rfl,h1⟩:=ha;obtain⟨b,e,ro,rfl,hgb0⟩:=h1 (by omega);have hgb:H1.get b=some (.cells (Qo l) e ro):=by rw[hx1.get b (hw.lt hgb0)];exact hgb0
 have d1:(0:Int)<=i∧(i:Int)<l.length:=by omega
 have d3:(i:Int).toNat=i:=by omega
 have htk:=Xd l i a hai;have hle:i * 11+11<=(Qo l).length:=by rw[QW];omega
 simp only[JR,Qb,simprocAttr,r3,r5,r6,g3,d1,d3,hgb,htk];refine⟨hle,?_⟩;refine(Que mid a H1).thenW ?_;rintro _ H2 hn2 hw2 ⟨v,rfl,hv,hx2⟩;simp only[Qb,simprocAttr];cases c:(Qnc mid a).2==0 with
 | false=>
  simp only[Qb,simprocAttr,c,KK];rw[c,Le (by decide)]at eW;exact .mk (hx1.trans hx2).next ⟨by rw[eW];exact XP.nil _ _ _,hx1.trans hx2⟩
 | true=>
  simp only[Qb,simprocAttr,c,KK];rw[c,Lc rfl]at eW;exact .mk (hx1.trans hx2).next ⟨by rw[eW];exact hv.down hx1.next,hx1.trans hx2⟩
theorem QGA (hw:H.Wf) (hx:x.At H) (ha:Q0 H va l) (hl:l.length<=1000) (hn:x.f.slots.length=l.length) {W:List Ld} (h2:0<=QM x.f.slots 2) (eW:W=Yf x.f l) {A:Env} {H1:Qa} (hF:FtF H H1 x op va A) (r4:A 4=.slice none 0 0) (r5:A 5=.int .i64 (QM x.f.slots 2)):
  Qs prog JS ⟨KP H W,YO⟩ (KP H W) A H1:=by
 obtain⟨hx1,hw1,g2,g3,hn1,r2,r3⟩:=id hF;have e10:x.cells.take 10=x.cells:=rfl;have x6:x.cells[6]? = some (.int .i64 x.f.digit):=rfl;have l10:10<=x.cells.length:=Lb _;have hlt2:=Qt6 x.f.slots 2;have hlt1:=Qt6 x.f.slots 1;unfold Yf at eW;rw[Le (by omega)]at eW;obtain⟨i,hi⟩:∃i:Nat,QM x.f.slots 2=i:=⟨(QM x.f.slots 2).toNat,by omega⟩;rw[hi]at eW r5 hlt2;obtain⟨a,hai⟩:∃a,l[i]? = some a:=⟨_,La (by omega)⟩;have hgd:l[(i:Int).toNat]?.getD WM=a:=by rw[show(i:Int).toNat=i by omega,hai];rfl
 rw[hgd]at eW;have em:QEA x.f l=if 0<=QM x.f.slots 1 then Xp (l[(QM x.f.slots 1).toNat]?.getD WM).r else x.f.digit:=rfl
 simp only[JS,Qb,simprocAttr,r2,g2,x6,Lw,e10];refine⟨l10,?_⟩;refine(Q6 x 1 H1 (hx.ext hw hx1)).thenW ?_;rintro _ _ hn2 hw2 ⟨rfl,k,rfl⟩;have hx2:Ext H1 (H1.up k):=(Ext.refl H1).up hn2;obtain⟨hx3,_,g22,g23,hn3,_,_⟩:=hF.go hx2 hw2 rfl rfl;simp only[Qb,simprocAttr];refine Qi (λh=>?_) (λh=>?_)
 ·have h0:0<=QM x.f.slots 1:=Lg h;rw[Lc h0]at em;obtain⟨j,hj⟩:∃j:Nat,QM x.f.slots 1=j:=⟨(QM x.f.slots 1).toNat,by omega⟩;rw[hj]at hlt1 em ⊢;obtain⟨c,haj⟩:∃c,l[j]? = some c:=⟨_,La (by omega)⟩;have hgj:l[(j:Int).toNat]?.getD WM=c:=by rw[show(j:Int).toNat=j by omega,haj];rfl
  rw[hgj]at em;obtain⟨a0,cap,rfl,h1⟩:=id ha;obtain⟨b,e,ro,rfl,hgb0⟩:=h1 (by omega);have hgb:(H1.up k).get b=some (.cells (Qo l) e ro):=by rw[hx3.get b (hw.lt hgb0)];exact hgb0
  have d1:(0:Int)<=j∧(j:Int)<l.length:=by omega
  have d3:(j:Int).toNat=j:=by omega
  have hrg:=Qe3 haj;have hle:j * 11+1+2<=(Qo l).length:=by rw[QW];omega
  have q:=Vl c.r;simp only[Rg.cells]at q;generalize H1.up k=H2 at *;simp only[Qb,simprocAttr,r3,g23,d1,d3,hgb,hrg];refine⟨hle,?_⟩;refine(q H2).thenW ?_;rintro _ _ hn4 hw4 ⟨rfl,k4,rfl⟩;have hx4:Ext H1 (H2.up k4):=hx2.trans ((Ext.refl H2).up hn4);simp only[Qb,simprocAttr];refine QFW hw ha (mid:=Xp c.r) hai (by rw[eW,em]) (hF.go hx4 hw4 ?_ ?_) ?_ ?_ ?_
  all_goals simp only[Ql,simprocAttr,r4,r5]
 ·rw[Le (by have:=Ll h;omega)]at em;simp only[Qb,simprocAttr];refine QFW hw ha (mid:=x.f.digit) hai (by rw[eW,em]) (hF.go hx2 hw2 ?_ ?_) ?_ ?_ ?_
  all_goals simp only[Ql,simprocAttr,r4,r5]
end
theorem Qnd {x:Lf} {op:Int} {va:Value} {l:List Ar} (H:Qa) (hx:x.At H) (ha:Q0 H va l) (hl:l.length<=1000) (hn:x.f.slots.length=l.length):
  Qg prog VV [.agg x.cells.toArray,.agg #[.int .i64 op,va]] H λv H'=>XP Qq H H' v (Yf x.f l)∧Ext H H':=by
 refine QlA λhw=>?_;have ex:(Value.agg x.cells.toArray).cells.toList=x.cells:=rfl;have e10:x.cells.take 10=x.cells:=rfl;have l10:10<=x.cells.length:=Lb _;obtain⟨W,eW⟩:∃W,W=Yf x.f l:=⟨_,rfl⟩;rw[<- eW];obtain⟨a0,cap,rfl⟩:=Q7 ha;simp only[QdR,ex,Qba,simprocAttr];generalize hH1:Qa.push H (.cells x.cells Qf false)=H1;have g1:H1.get H.next=some (.cells x.cells Qf false):=by rw[<- hH1,Qd,Lc rfl]
 have hx1:Ext H H1:=by rw[<- hH1];exact(Ext.refl H).push _
 have hn1:H1.next=H.next+1:=by rw[<- hH1];rfl
 have hw1:H1.Wf:=by rw[<- hH1];exact hw.push _
 clear hH1;simp only[Qb,simprocAttr,hn1];generalize hH2:Qa.push H1 _=H2;have hx2:Ext H H2:=by rw[<- hH2];exact(hx1.push _)
 have hw2:H2.Wf:=by rw[<- hH2];exact(hw1.push _)
 have g22:H2.get H.next=some (.cells x.cells Qf false):=by rw[<- hH2,Qd,Le (by omega)];exact g1
 have g23:H2.get (H.next+1)=some (.cells [.int .i64 op,.slice a0 l.length cap] Qc false):=by rw[<- hH2,Qd,Lc (by omega)]
 have hn2:H2.next=H.next+2:=by rw[<- hH2,Qe,hn1]
 clear hH2;simp only[Qb,simprocAttr,g1,g22,g23,Lw,e10];refine⟨l10,?_⟩;refine(Q6 x 2 H2 (hx.ext hw hx2)).thenW ?_;rintro _ _ hn3 hw3 ⟨rfl,k,rfl⟩;have hx3:Ext H2 (H2.up k):=(Ext.refl H2).up hn3;have hF:∀B:Env,B 2=.pointer (some ⟨H.next,0,none⟩)->B 3=.pointer (some ⟨H.next+1,0,none⟩)->FtF H (H2.up k) x op (.slice a0 l.length cap) B:=λB e2 e3=>⟨hx2.trans hx3,hw3,by rw[Z9];exact g22,by rw[Z9];exact g23,by have:=hx3.next;omega,e2,e3⟩;simp only[Qb,simprocAttr];refine Qi (λh=>?_) (λh=>?_)
 ·have h0:QM x.f.slots 2<0:=Lg h;have eW2:W=[⟨[],0,0⟩]:=by rw[eW];unfold Yf;rw[Lc h0]
  simp only[Qb,simprocAttr,KK];have hx4:=(hx2.trans hx3).push (.cells [.slice none 0 0,.int .i64 0,.int .i64 0] Qq false);refine .mk hx4.next ⟨?_,hx4⟩;rw[eW2];refine⟨[.slice none 0 0],rfl,.inr ⟨(H2.up k).next,1,rfl,(hx2.trans hx3).next,by rw[Qd,Lc rfl];rfl,rfl,.inl rfl⟩,λj s w h1 h2=>?_⟩;cases j with
  | zero=>simp at h1 h2;subst h1;subst h2;exact .inl ⟨rfl,rfl,rfl⟩
  | succ j=>simp at h1
 ·simp only[Qb,simprocAttr];refine QGA hw hx ha hl hn (by have:=Ll h;omega) eW (hF _ ?_ ?_) ?_ ?_
  all_goals simp only[Ql,simprocAttr]
theorem QCG (a:Ar) (H:Qa):Qg prog Wg [.agg a.cells.toArray] H λu H'=>u=.bool (a.k==2)∧Ext H H':=by
 refine Qdd λhw=>?_;obtain⟨ak,⟨rc,rn⟩,⟨⟨bc,bn⟩,⟨ic,nn⟩,sc,d,sz⟩,n⟩:=a;simp only[Ar.cells,Jv,Qb,simprocAttr,QbW];have hx:=(Ext.refl H).push (.cells [.int .i64 ak,.int .i64 rc,.int .i64 rn,.int .i64 bc,.int .i64 bn,.int .i64 ic,.int .i64 nn,.int .i64 sc,.int .i64 d,.int .i64 sz,.int .i64 n] Qh false);exact .mk hx.next ⟨rfl,hx⟩
theorem Qne (va:Value) (l:List Ar) (H:Qa) (ha:Q0 H va l) (hl:l.length<=1000):Qg prog Wy [va,.func (.func Wg) #[] #[]] H λu H'=>∃r:Int,u=.int .i64 r∧decide (0<=r)=(l.any λa=>a.k==2)∧Ext H H':=by
 refine Jw λhw=>?_;obtain⟨a0,cap,rfl,h1⟩:=ha;simp only[Xs,Qb,simprocAttr,QU];refine QB (λm A' H'=>∃i:Nat,i<=l.length∧m=l.length - i∧H'.Wf∧Ext H H'∧A' 0=.slice a0 l.length cap∧A' 1=.func (.func Wg) #[] #[]∧A' 7=.int .i64 l.length∧A' 8=.int .i64 i∧((l.take i).any λa=>a.k==2)=false) l.length ?_ ?_
 ·refine⟨0,L7 _,by omega,hw,Ext.refl H,?_,?_,?_,?_,by simp⟩
  all_goals simp only[Ql,simprocAttr]
  all_goals rfl
 ·rintro m A' H' ⟨i,hi,rfl,hw',hx,r0,r1,r7,r8,hno⟩;simp only[Qb,simprocAttr,r7,r8];refine Qi (λh2=>?_) (λh2=>?_)
  ·have h2:i<l.length:=by have:=Lg h2;omega
   obtain⟨a,hai⟩:∃a,l[i]? = some a:=⟨_,La h2⟩;obtain⟨b,e,ro,rfl,hgb0⟩:=h1 (by omega);have hgb:H'.get b=some (.cells (Qo l) e ro):=by rw[hx.get b (hw.lt hgb0)];exact hgb0
   have htk:=Xd l i a hai;have hle:i * 11+11<=(Qo l).length:=by rw[QW];omega
   have d1:(0:Int)<=i∧(i:Int)<l.length:=by omega
   have d3:(i:Int).toNat=i:=by omega
   have ei:IntKind.i64.wrap ((i:Int)+1)=((i+1:Nat):Int):=by rw[w64 (by unfold I64;omega)];omega
   have htl:l.take (i+1)=l.take i++[a]:=by rw[Nv,hai];rfl
   simp only[Qb,simprocAttr,r0,r1,r8,d1,d3,hgb,htk,QqZ];refine⟨hle,?_⟩;refine(QCG a H').thenW ?_;rintro _ H2 hn2 hw2 ⟨rfl,hx2⟩;cases c:a.k==2 with
   | true=>
    simp only[Qb,simprocAttr,Xl];refine .mk (hx.trans hx2).next ⟨i,rfl,?_,hx.trans hx2⟩;rw[Lp d1.1];exact(Bh.2 ⟨a,Ln hai,c⟩).symm
   | false=>
    simp only[Qb,simprocAttr,r8,ei];refine⟨l.length - (i+1),by omega,i+1,by omega,rfl,hw2,hx.trans hx2,?_,?_,?_,?_,by rw[htl,Rz,hno];simp[c]⟩
    all_goals simp only[Ql,simprocAttr,r0,r1,r7]
  ·have h2:i=l.length:=by have:=Ll h2;omega
   subst h2;rw[Nr]at hno;simp only[Qb,simprocAttr,Xl];exact .mk hx.next ⟨-1,rfl,by rw[hno];rfl,hx⟩
theorem Qjp (va:Value) (l:List Ar) (H:Qa) (ha:Q0 H va l) (hl:l.length<=1000):Qg prog Wl [va,.func (.func Wg) #[] #[]] H λu H'=>u=.bool (l.any λa=>a.k==2)∧Ext H H':=by
 refine ZM λhw=>?_;simp only[W8,Qb,simprocAttr];refine(Qne va l H ha hl).thenW ?_;rintro _ H2 hn2 hw2 ⟨r,rfl,er,hx2⟩;simp only[Qb,simprocAttr,Zv];exact .mk hx2.next ⟨by rw[er],hx2⟩
def QAJ (c:Int):Int:=IntKind.u8.wrap (BitVec.ofInt IntKind.u8.bits c &&& BitVec.ofInt IntKind.u8.bits 7).toNat
def Qpc (l:List Ar) (w:Ld):Int:=
 if(!(l.any λa=>a.k==2)||(w.b.length==0))=true then -1 else if(QAJ (w.b.getD 0 0)==4)=true then(w.b.length:Int) - 2 else(w.b.length:Int) - 1
theorem Qf1 {op:Int} {va:Value} {l:List Ar} {w:Ld} {v:Value} {H0:Qa} (H:Qa) (ha:Q0 H va l) (hl:l.length<=1000) (hv:Gx 1 5 H0 H v w.b.length (bys w.b)) (hwl:w.b.length<=1000):
  Qg prog Ze [.agg #[.int .i64 op,va],.agg #[v,.int .i64 w.x,.int .i64 w.h]] H λu H'=>u=.int .i64 (Qpc l w)∧Ext H H':=by
 refine QeN λhw=>?_;obtain⟨W,eW⟩:∃W,W=Qpc l w:=⟨_,rfl⟩;rw[<- eW];unfold Qpc at eW;obtain⟨a0,cap,rfl⟩:=Q7 ha;obtain⟨a1,c1,rfl,hb1⟩:∃a c,v=.slice a w.b.length c∧(0<w.b.length->∃b,a=some ⟨b,0,none⟩∧H.get b=some (.cells (bys w.b) 5 false)):=by
  rcases hv with⟨rfl,h,_⟩ | ⟨b,c,rfl,_,h,_,_⟩
  ·exact⟨none,0,by rw[h],λh'=>by omega⟩
  ·exact⟨_,c,rfl,λ_=>⟨b,rfl,h⟩⟩
 simp only[KA,Qba,simprocAttr];generalize hH1:Qa.push H _=H1;have g1:H1.get H.next=some (.cells [.int .i64 op,.slice a0 l.length cap] Qc false):=by rw[<- hH1,Qd,Lc rfl];rfl
 have hx1:Ext H H1:=by rw[<- hH1];exact(Ext.refl H).push _
 have hn1:H1.next=H.next+1:=by rw[<- hH1];rfl
 have hw1:H1.Wf:=by rw[<- hH1];exact hw.push _
 clear hH1
 try simp only[Qb,simprocAttr,hn1]
 generalize hH2:Qa.push H1 _=H2;have hx2:Ext H H2:=by rw[<- hH2];exact(hx1.push _)
 have hw2:H2.Wf:=by rw[<- hH2];exact(hw1.push _)
 have g22:H2.get H.next=some (.cells [.int .i64 op,.slice a0 l.length cap] Qc false):=by rw[<- hH2,Qd,Le (by omega)];exact g1
 have g23:H2.get (H.next+1)=some (.cells [.slice a1 w.b.length c1,.int .i64 w.x,.int .i64 w.h] Qq false):=by rw[<- hH2,Qd,Lc (by omega)]
 have hn2:H2.next=H.next+2:=by rw[<- hH2,Qe,hn1]
 clear hH2;simp only[Qb,simprocAttr,g1,g22,g23];refine(Qjp _ l H2 (ha.ext hw hx2) hl).thenW ?_;rintro _ H3 hn3 hw3 ⟨rfl,hx23⟩;have hx3:=hx2.trans hx23;have g33:H3.get (H.next+1)=some (.cells [.slice a1 w.b.length c1,.int .i64 w.x,.int .i64 w.h] Qq false):=by rw[hx23.get _ (by omega)];exact g23
 generalize (l.any λa=>a.k==2)=M at *;cases M with
 | false=>
  simp only[Qb,simprocAttr,Xb];exact .mk hx3.next ⟨by rw[eW];rfl,hx3⟩
 | true=>
  have el:((w.b.length:Int)==0)=(w.b.length==0):=by
   rw[Ni,L0,L0];omega
  simp only[Qb,simprocAttr,g33,el];cases c0:w.b.length==0 with
  | true=>
   simp only[Qb,simprocAttr,Xb];exact .mk hx3.next ⟨by rw[eW,c0];rfl,hx3⟩
  | false=>
   have hpos:0<w.b.length:=by have:=LC.1 c0;omega
   obtain⟨b,rfl,hb⟩:=hb1 hpos;have hgb:H3.get b=some (.cells (bys w.b) 5 false):=by rw[hx3.get b (hw.lt hb)];exact hb
   have h0:(bys w.b)[0]? = some (.int .u8 (w.b.getD 0 0)):=by
    simp[bys,LD,LX,La hpos]
   have d1:(0:Int)<w.b.length:=by omega
   have ea:IntKind.u8.wrap (BitVec.ofInt IntKind.u8.bits (w.b.getD 0 0) &&& BitVec.ofInt IntKind.u8.bits 7).toNat=QAJ (w.b.getD 0 0):=rfl;rw[c0,L8,NI,Le (by decide)]at eW;simp only[sxA,sxB,Nat.reduceBEq,Nat.reduceEqDiff,reduceCtorEq,mxA,mxB,Nat.reduceAdd,reduceIte,Nat.reduceLeDiff,splice,g33,hgb,d1];refine⟨B0 0,_,h0,?_⟩;simp only[Qb,simprocAttr,ea];have e2:IntKind.i64.wrap ((w.b.length:Int) - 2)=(w.b.length:Int) - 2:=w64 (by unfold I64;omega);have e1:IntKind.i64.wrap ((w.b.length:Int) - 1)=(w.b.length:Int) - 1:=w64 (by unfold I64;omega);cases c4:QAJ (w.b.getD 0 0)==4 with
   | true=>
    rw[c4,Lc rfl]at eW;simp only[Qb,simprocAttr,g33,e2,Xb];exact .mk hx3.next ⟨by rw[eW],hx3⟩
   | false=>
    rw[c4,Le (by decide)]at eW;simp only[Qb,simprocAttr,g33,e1,Xb];exact .mk hx3.next ⟨by rw[eW],hx3⟩
theorem Qqh {x:Lf} {op:Int} {va:Value} (H:Qa):Qg prog QcX [.agg x.cells.toArray,.agg #[.int .i64 op,va]] H λu H'=>u=.func (.func Y3) #[] #[.pointer (some ⟨H.next,0,none⟩),.pointer (some ⟨H.next+1,0,none⟩)]∧Ext H H'∧H.next+2<=H'.next∧H'.get H.next=some (.cells x.cells Qf false)∧H'.get (H.next+1)=some (.cells (Value.agg #[.int .i64 op,va]).cells.toList Qc false):=by
 refine QoI λhw=>?_;have ex:(Value.agg x.cells.toArray).cells.toList=x.cells:=rfl;simp only[QgD,ex,Qba,simprocAttr];have hx:=((Ext.refl H).push (.cells x.cells Qf false)).push (.cells (Value.agg #[.int .i64 op,va]).cells.toList Qc false);simp only[Qb,simprocAttr,Qm2];refine .mk hx.next ⟨rfl,hx,by simp only[Qe];omega,?_,?_⟩
 ·rw[Qd,Le (by rw[Qe];omega),Qd,Lc rfl]
 ·rw[Qd,Lc (by rw[Qe])]
theorem QkW {x:Lf} {op:Int} {va s tl:Value} {lx lh:Int} (H:Qa) (hs:s.oneCell'=true) (htl:tl.cells.toList=[tl]):Qg prog Kq [.agg x.cells.toArray,.agg #[.int .i64 op,va],.agg #[s,.int .i64 lx,.int .i64 lh],tl] H λu H'=>u=.func (.func WR) #[] #[.pointer (some ⟨H.next+1,0,none⟩),.pointer (some ⟨H.next+2,0,none⟩),.pointer (some ⟨H.next,0,none⟩),.pointer (some ⟨H.next+3,0,none⟩)]∧Ext H H'∧H.next+4<=H'.next∧H'.get H.next=some (.cells x.cells Qf false)∧H'.get (H.next+1)=some (.cells (Value.agg #[.int .i64 op,va]).cells.toList Qc false)∧H'.get (H.next+2)=some (.cells (Value.agg #[s,.int .i64 lx,.int .i64 lh]).cells.toList Qq false)∧H'.get (H.next+3)=some (.cells [tl] Xe false):=by
 refine QiW λhw=>?_;have ex:(Value.agg x.cells.toArray).cells.toList=x.cells:=rfl;have hx:=((((Ext.refl H).push (.cells x.cells Qf false)).push (.cells (Value.agg #[.int .i64 op,va]).cells.toList Qc false)).push (.cells (Value.agg #[s,.int .i64 lx,.int .i64 lh]).cells.toList Qq false)).push (.cells [tl] Xe false);simp only[Qbv,ex,Qba,simprocAttr];simp only[Qb,simprocAttr,QhG,htl];refine .mk hx.next ⟨rfl,hx,by simp only[Qe];omega,?_,?_,?_,?_⟩
 ·rw[Qd,Le (by simp only[Qe];omega),Qd,Le (by simp only[Qe];omega),Qd,Le (by simp only[Qe];omega),Qd,Lc rfl]
 ·rw[Qd,Le (by simp only[Qe];omega),Qd,Le (by simp only[Qe];omega),Qd,Lc (by simp only[Qe])]
 ·rw[Qd,Le (by simp only[Qe];omega),Qd,Lc (by simp only[Qe])]
 ·rw[Qd,Lc (by simp only[Qe])]
def QAK (P:Program) (ty:TypeId) (size:Nat):Bool:=match P.underlying ty with | some (.slice e)=>(match P.info? e with | some inf=>Nat.beq inf.size size | none=>false) | _=>false
theorem Qv5 {P:Program} {A:Env} {H:Qa} {k:Value->Qa->Prop} {ty:TypeId} {size:Nat} {x hi mx:Operand} {k1 k2:IntKind} {n:Int} {u v:Value} (ht:QAK P ty size=true) (hx:ev A x=u) (hh:ev A hi=.int k1 n) (hm:ev A mx=.int k2 n) (hs:Ki size u none (some n) (some n)=some v):
  pr P (.gen (.slice ty x none (some hi) (some mx))) false A H k=k v H:=by
 unfold QAK at ht;split at ht
 ·rename_i e h1;split at ht
  ·rename_i inf h2;have e0:inf.size=size:=LA ht;subst e0;exact Ve (by
    have b1:QS A (some hi)=some (some n):=by simp[QS,hh]
    have b2:QS A (some mx)=some (some n):=by simp[QS,hm]
    have b0:QS A none=some none:=rfl;simp only[rop,aop,Qep,h1,h2,b0,b1,b2,hx,Yl,hs];rfl)
  ·cases ht
 ·cases ht
def Qeg (f:Fm) (l:List Ar):Int:=if 0<=QM f.slots 4 then IntKind.u8.wrap (IntKind.u8.wrap f.code+IntKind.u8.wrap (Xp (l[(QM f.slots 4).toNat]?.getD WM).r)) else IntKind.u8.wrap f.code
def Qg9 (f:Fm) (l:List Ar) (e:List Int) (w:Ld):List Ld:=(Qe4 f l w.x w.h).map λhd=>⟨hd++[Qeg f l]++w.b++e,0,Qpc l w⟩
theorem QAL (p r:Int):(Qd6 p r).length<=4:=by
 unfold Qd6 QEn
 repeat' split
 all_goals simp
theorem QAM (m:Int):(Qe2 m).length<=2:=by
 unfold Qe2
 repeat' split
 all_goals simp
theorem Qq3 (f:Fm) (l:List Ar) (a b:Int):(Qe4 f l a b).length<=3∧∀hd∈Qe4 f l a b,hd.length<=6:=by
 unfold Qe4;split
 ·unfold Qv1;cases f.w==-1<;>(repeat' split)<;>simp[Qd7]
 ·refine⟨?_,λhd h=>?_⟩
  ·rw[Nn];unfold chF;repeat' split
   all_goals simp
  ·obtain⟨n,_,rfl⟩:=N4.1 h;have:=QAL f.pre n;have:=QAM f.map;rw[Lh];omega
structure PfF (Hz Hs H:Qa) (x:Lf) (op:Int) (va:Value) (p1 p2 p3 p4:Nat) (s tl:Value) (w:Ld) (e:List Int):Prop where
 z:Ext Hz H
 wf:H.Wf
 g1:H.get p1=some (.cells [.int .i64 op,va] Qc false)
 g2:H.get p2=some (.cells [s,.int .i64 w.x,.int .i64 w.h] Qq false)
 g3:H.get p3=some (.cells x.cells Qf false)
 g4:H.get p4=some (.cells [tl] Xe false)
 s:Gx 1 5 Hs H s w.b.length (bys w.b)
 t:Gx 1 5 Hs H tl e.length (bys e)
structure PfO (Own:Nat->Prop) (Hz:Qa) (p1 p2 p3 p4:Nat) (s tl:Value):Prop where
 z:∀id,id<Hz.next->¬Own id
 o1:¬Own p1
 o2:¬Own p2
 o3:¬Own p3
 o4:¬Own p4
 s:∀id,inB s id->¬Own id
 t:∀id,inB tl id->¬Own id
section
variable {Hz Hs H:Qa} {x:Lf} {op:Int} {va:Value} {p1 p2 p3 p4:Nat} {s tl:Value} {w:Ld} {e:List Int} {Own:Qa->Nat->Prop}
theorem PfF.ck {H':Qa} (h:PfF Hz Hs H x op va p1 p2 p3 p4 s tl w e) (ho:PfO (Own H) Hz p1 p2 p3 p4 s tl) (hc:CK Own H H'):PfF Hz Hs H' x op va p1 p2 p3 p4 s tl w e:=by
 have hn:=hc.next;have hz:=h.z.next;refine⟨⟨by omega,λid hid=>?_⟩,hc.w,?_,?_,?_,?_,?_,?_⟩
 ·rw[hc.keep id (by omega) (ho.z id hid)];exact h.z.get id hid
 ·rw[hc.keep _ (h.wf.lt h.g1) ho.o1];exact h.g1
 ·rw[hc.keep _ (h.wf.lt h.g2) ho.o2];exact h.g2
 ·rw[hc.keep _ (h.wf.lt h.g3) ho.o3];exact h.g3
 ·rw[hc.keep _ (h.wf.lt h.g4) ho.o4];exact h.g4
 ·exact h.s.ext λid hi=>hc.keep id (h.s.low h.wf hi).2 (ho.s id hi)
 ·exact h.t.ext λid hi=>hc.keep id (h.t.low h.wf hi).2 (ho.t id hi)
theorem PfO.sub {O O':Nat->Prop} (h:PfO O Hz p1 p2 p3 p4 s tl) (hs:∀id,O' id->O id):PfO O' Hz p1 p2 p3 p4 s tl:=
 ⟨λid h1 h2=>h.z id h1 (hs _ h2),λh1=>h.o1 (hs _ h1),λh1=>h.o2 (hs _ h1),λh1=>h.o3 (hs _ h1),λh1=>h.o4 (hs _ h1),λid h1 h2=>h.s id h1 (hs _ h2),λid h1 h2=>h.t id h1 (hs _ h2)⟩
theorem Gl.keep2 {e:TypeId} {H0 H H':Qa} {v:Value} {ws:List (List Int)} (h:Gl e H0 H v ws) (hw:H.Wf) (hk:∀id,H0.next<=id->id<H.next->H'.get id=H.get id):Gl e H0 H' v ws:=by
 obtain⟨ss,h1,h2,h3⟩:=h.it;exact⟨h.ne,ss,h1,h2.ext λid hi=>hk id (h2.low hw hi).1 (h2.low hw hi).2,λj s w hs hw'=>(h3 j s w hs hw').ext λid hi=>hk id ((h3 j s w hs hw').low hw hi).1 ((h3 j s w hs hw').low hw hi).2⟩
theorem QFX {base lb:Nat} {R:Nat->Qa->Prop} {l:List Ar} (hc:Cns base lb (Qg9 x.f l e w) LdV R Own) (hbase:base<=H.next) (hf:FOk x.f) (hx:x.At Hz) (ha:Q0 Hz va l) (hwz:Hz.Wf) (hva:∀n,Hz.next<=n->Qm n 6 (.agg #[.int .i64 op,va])=true) (hl:l.length<=1000) (hn:x.f.slots.length=l.length)
  (hwx:0<=w.x∧w.x<2) (hwh:0<=w.h∧w.h<2) (hy:x.f.vex=true->(vxF x.f l w.x w.h).Ok) (hwl:w.b.length<=1000) (hel:e.length<=2000)
  {H1:Qa} (hP:PfF Hz Hs H1 x op va p1 p2 p3 p4 s tl w e) (ho:PfO (Own H1) Hz p1 p2 p3 p4 s tl) (hR:R 0 H1) (hk:CK Own H H1)
  {A:Env} (r0:A 0=.func (.yield lb) #[] #[]) (r1:A 1=.pointer (some ⟨p1,0,none⟩)) (r2:A 2=.pointer (some ⟨p2,0,none⟩)) (r3:A 3=.pointer (some ⟨p3,0,none⟩)) (r4:A 4=.pointer (some ⟨p4,0,none⟩)) (r6:A 6=.int .i64 (Qpc l w)) (r7:A 7=.int .u8 (Qeg x.f l)):
  Qs prog Y0 ⟨Rt prog Qaw H λu H'=>R (Qg9 x.f l e w).length H'∧CK Own H H',YO⟩ (Rt prog Qaw H λu H'=>R (Qg9 x.f l e w).length H'∧CK Own H H') A H1:=by
 obtain⟨hz,hw1,g1,g2,g3,g4,hs,ht⟩:=id hP;have e10:x.cells.take 10=x.cells:=rfl;have l10:10<=x.cells.length:=Lb _;obtain⟨sa,sc,rfl⟩:=hs.slc;obtain⟨a0,cap,rfl⟩:=Q7 ha;simp only[Y0,Qb,simprocAttr,r1,r2,r3,g1,g2,g3,Lw,e10];refine⟨l10,?_⟩;have hva:=λn (h:H1.next<=n)=>hva n (N8 hz.next h);refine(Qo2 hf H1 (hx.ext hwz hz) (ha.ext hwz hz) hva hl hn hwx hwh hy).thenW ?_;rintro v H2 hn2 hw2 ⟨hv2,hx2⟩;obtain⟨va2,vc2,rfl⟩:=hv2.slc;obtain⟨hR2,hO2⟩:=hc.ext _ _ _ hR hw1 hx2;have hk2:=hc.ck hR hw1 hx2 hw2;have hP2:=hP.ck ho hk2;obtain⟨hdl,hde⟩:=Qq3 x.f l w.x w.h;generalize hhd:Qe4 x.f l w.x w.h=hd at *;simp only[Qb,simprocAttr,QU];refine QB (λm A' H'=>∃i:Nat,i<=hd.length∧m=hd.length - i∧R i H'∧CK Own H2 H'∧A' 0=.func (.yield lb) #[] #[]∧A' 2=.pointer (some ⟨p2,0,none⟩)∧A' 4=.pointer (some ⟨p4,0,none⟩)∧A' 6=.int .i64 (Qpc l w)∧A' 7=.int .u8 (Qeg x.f l)∧A' 35=.slice va2 hd.length vc2∧A' 36=.int .i64 hd.length∧A' 37=.int .i64 i) hd.length ?_ ?_
 ·refine⟨0,L7 _,by omega,hR2,hc.ck hR2 hw2 (.refl _) hw2,?_,?_,?_,?_,?_,?_,?_,?_⟩
  all_goals simp only[Ql,simprocAttr,r0,r2,r4,r6,r7]
  all_goals rfl
 ·rintro m A' H' ⟨i,hi,rfl,hRi,hk3,r0,r2,r4,r6,r7,r35,r36,r37⟩;have hw3:=hk3.w;simp only[KN,Qb,simprocAttr,r36,r37];refine Qi (λh2=>?_) (λh2=>?_)
  ·have h2:i<hd.length:=by have:=Lg h2;omega
   simp only[KM,Qb,simprocAttr,r0,r2,r4,r6,r7,r35,r36,r37];obtain⟨ss,hsl,hgss,hgs⟩:=hv2.it;obtain⟨b,hb1,rfl,hgb⟩:∃b,H1.next<=b∧va2=some ⟨b,0,none⟩∧H2.get b=some (.cells ss Xe false):=by
    rcases hgss with⟨h,h',_⟩ | ⟨b,c,h,q1,q2,_⟩
    ·omega
    ·cases h;exact⟨b,q1,rfl,q2⟩
   have hno:∀id,H1.next<=id->¬Own H2 id:=λid h1 h2=>by have:=hc.low _ _ _ hR (hO2 _ h2);omega
   have hgb3:H'.get b=some (.cells ss Xe false):=by rw[hk3.keep _ (hw2.lt hgb) (hno _ hb1)];exact hgb
   obtain⟨sv,hsv⟩:∃sv,ss[i]? = some sv:=⟨_,La (by omega)⟩;obtain⟨hi0,hhi⟩:∃h0,hd[i]? = some h0:=⟨_,La h2⟩;have hs3:=(hgs i sv hi0 hsv hhi).ext (H':=H') λid hid=>hk3.keep id ((hgs i sv hi0 hsv hhi).low hw2 hid).2 (hno _ ((hgs i sv hi0 hsv hhi).low hw2 hid).1);have hil:=hde hi0 (Ln hhi);have d1:(0:Int)<=i∧(i:Int)<hd.length:=by omega
   have d3:(i:Int).toNat=i:=by omega
   have ei:IntKind.i64.wrap ((i:Int)+1)=((i+1:Nat):Int):=by rw[w64 (by unfold I64;omega)];omega
   obtain⟨ai,ci,rfl⟩:=hs3.slc;have hl3:hi0.length<UNK:=by unfold UNK;omega
   obtain⟨af,hfs,hff⟩:=QCs hs3 hl3;have hty:QAK prog Xe 1=true:=by kernel_rfl
   have hP3:=hP2.ck (ho.sub hO2) hk3;simp only[Qb,simprocAttr,d1,d3,hgb3,hsv,QU];rw[Qv5 (k1:=.i64) (k2:=.i64) (n:=(hi0.length:Int)) (u:=.slice ai hi0.length ci) hty (by simp only[Ql,simprocAttr]) (by simp only[Ql,simprocAttr]) (by simp only[Ql,simprocAttr]) hfs];simp only[Qb,simprocAttr,r7];have hx4:=(Ext.refl H').push (.cells [.int .u8 (Qeg x.f l)] 5 false);have hw4:=hw3.push (.cells [.int .u8 (Qeg x.f l)] 5 false);have hg4:=Qpb H' (Qeg x.f l);generalize H'.push _=H4 at *;refine QAw (hff.go hw3 hx4) ⟨af,rfl⟩ hw4 hg4.src (QcP _) (by decide) (by rw[JC];rfl) (by omega) (by omega) hl3 ?_;rintro v5 H5 hg5 hx5 hw5 ⟨b5,rfl⟩;have g52:=hP3.g2;have hx35:=hx4.trans hx5;have h53:H5.get p2=some (.cells [.slice sa w.b.length sc,.int .i64 w.x,.int .i64 w.h] Qq false):=by rw[hx35.get _ (hw3.lt g52)];exact g52
   have hs5:=hP3.s.go hw3 hx35;simp only[Qb,simprocAttr,r2,h53];refine Qdf hg5 hx5 hw5 hs5.src (QcP _) (by rw[JC,NH]) (by omega) (by omega) ?_;intro v6 H6 hg6 hk6;have hx36:=hx4.trans hk6.x;have g64:H6.get p4=some (.cells [tl] Xe false):=by rw[hx36.get _ (hw3.lt hP3.g4)];exact hP3.g4
   have ht6:=hP3.t.go hw3 hx36;simp only[Qb,simprocAttr,r4,g64];refine Qdf hg6 hk6.x hk6.w ht6.src (QcP _) (by rw[JC,NH]) (by omega) (by omega) ?_;intro v7 H7 hg7 hk7;have hx37:=hx4.trans hk7.x;obtain⟨a7,c7,rfl⟩:=hg7.slc;have hi7:(Qg9 x.f l e w)[i]? = some ⟨hi0++[Qeg x.f l]++w.b++e,0,Qpc l w⟩:=by unfold Qg9;rw[LD,hhd,hhi];rfl
   obtain⟨hR7,hO7⟩:=hc.ext _ _ _ hRi hw3 hx37;simp only[Qb,simprocAttr,r0,r6,ZT];refine Qhw (hc.go _ _ H' H7 _ hi7 hR7 hRi hw3 ⟨_,rfl,?_⟩ (by have:=hk.next;have:=hk2.next;have:=hk3.next;omega) hx37 hO7) ?_
   ·have e1:(hi0++[Qeg x.f l]++w.b++e).length=hi0.length+1+w.b.length+e.length:=by simp only[Lh,Lo,L9]
    have e2:bys (hi0++[Qeg x.f l]++w.b++e)=bys hi0++bys [Qeg x.f l]++bys w.b++bys e:=by rw[QaT,QaT,QaT]
    show Gx 1 5 H' H7 _ (hi0++[Qeg x.f l]++w.b++e).length (bys (hi0++[Qeg x.f l]++w.b++e));rw[e1,e2];exact hg7.down hx4.next
   rintro _ H8 hn8 hw8 ⟨rfl,hR8,hk8⟩;simp only[Qb,simprocAttr,L8,r37,ei];refine⟨hd.length - (i+1),by omega,i+1,by omega,rfl,hR8,(hk3.trans (hc.ck hRi hw3 hx37 hk7.w)).trans hk8,?_,?_,?_,?_,?_,?_,?_,?_⟩
   all_goals simp only[Ql,simprocAttr,r0,r2,r4,r6,r7,r35,r36]
  ·have h2:i=hd.length:=by have:=Ll h2;omega
   subst h2;simp only[Qb,simprocAttr,Qf0];have hkk:=(hk.trans hk2).trans hk3;exact .mk hkk.next ⟨by unfold Qg9;rw[Nn,hhd];exact hRi,hkk⟩
theorem Quf {base lb:Nat} {R:Nat->Qa->Prop} {l:List Ar} (hc:Cns base lb (Qg9 x.f l e w) LdV R Own) (hbase:base<=H.next) (hf:FOk x.f) (hx:x.At Hz) (ha:Q0 Hz va l) (hwz:Hz.Wf) (hva:∀n,Hz.next<=n->Qm n 6 (.agg #[.int .i64 op,va])=true) (hl:l.length<=1000) (hn:x.f.slots.length=l.length)
  (hwx:0<=w.x∧w.x<2) (hwh:0<=w.h∧w.h<2) (hy:x.f.vex=true->(vxF x.f l w.x w.h).Ok) (hwl:w.b.length<=1000) (hel:e.length<=2000)
  (hP:PfF Hz Hs H x op va p1 p2 p3 p4 s tl w e) (ho:PfO (Own H) Hz p1 p2 p3 p4 s tl) (hR:R 0 H):
  Qg prog WR [.func (.yield lb) #[] #[],.pointer (some ⟨p1,0,none⟩),.pointer (some ⟨p2,0,none⟩),.pointer (some ⟨p3,0,none⟩),.pointer (some ⟨p4,0,none⟩)] H λu H'=>R (Qg9 x.f l e w).length H'∧CK Own H H':=by
 refine QgO λhw=>?_;obtain⟨hz,hw1,g1,g2,g3,g4,hs,ht⟩:=id hP;have e10:x.cells.take 10=x.cells:=rfl;have l10:10<=x.cells.length:=Lb _;have x5:x.cells[5]? = some (.int .i64 x.f.code):=rfl;obtain⟨sa,sc,rfl⟩:=hs.slc;obtain⟨a0,cap,rfl⟩:=Q7 ha;simp only[VK,Qb,simprocAttr,g1,g2,g3,Lw,e10];refine⟨hw.lt g3,?_⟩;refine(Qf1 H (ha.ext hwz hz) hl hs hwl).thenW ?_;rintro _ H2 hn2 hw2 ⟨rfl,hx2⟩;obtain⟨hR2,hO2⟩:=hc.ext _ _ _ hR hw hx2;have hk2:=hc.ck hR hw hx2 hw2;have hP2:=hP.ck ho hk2;have ho2:=ho.sub hO2;obtain⟨hz2,_,g12,g22,g32,g42,hs2,ht2⟩:=id hP2;simp only[Qb,simprocAttr,g32,x5,Lw,e10];refine⟨hx2.eqB,by simp[Qm,Ab.plain],l10,?_⟩;refine(Q6 x 4 H2 (hx.ext hwz hz2)).thenW ?_;rintro _ _ hn3 hw3 ⟨rfl,k,rfl⟩;have hx3:Ext H2 (H2.up k):=(Ext.refl H2).up hn3;obtain⟨hR3,hO3⟩:=hc.ext _ _ _ hR2 hw2 hx3;have hk3:=hc.ck hR2 hw2 hx3 hw3;have hP3:=hP2.ck ho2 hk3;have ho3:=ho2.sub hO3;obtain⟨hz3,_,g13,g23,g33,g43,hs3,ht3⟩:=id hP3;generalize H2.up k=H3 at *;have hlt:=Qt6 x.f.slots 4;have ec:Qeg x.f l=if 0<=QM x.f.slots 4 then IntKind.u8.wrap (IntKind.u8.wrap x.f.code+IntKind.u8.wrap (Xp (l[(QM x.f.slots 4).toNat]?.getD WM).r)) else IntKind.u8.wrap x.f.code:=rfl
 simp only[Qb,simprocAttr];refine Qi (λh=>?_) (λh=>?_)
 ·have h0:0<=QM x.f.slots 4:=Lg h;rw[Lc h0]at ec;obtain⟨j,hj⟩:∃j:Nat,QM x.f.slots 4=j:=⟨(QM x.f.slots 4).toNat,by omega⟩;rw[hj]at hlt ec ⊢;obtain⟨c,haj⟩:∃c,l[j]? = some c:=⟨_,La (by omega)⟩;have hgj:l[(j:Int).toNat]?.getD WM=c:=by rw[show(j:Int).toNat=j by omega,haj];rfl
  rw[hgj]at ec;obtain⟨b,e',ro,eqa,hgb0⟩:=(show 0<l.length->∃b e' ro,a0=some ⟨b,0,none⟩∧Hz.get b=some (.cells (Qo l) e' ro) by obtain⟨_,_,e0,h1⟩:=ha;cases e0;exact h1) (by omega);subst eqa;have hgb:H3.get b=some (.cells (Qo l) e' ro):=by rw[hz3.get b (hwz.lt hgb0)];exact hgb0
  have d1:(0:Int)<=j∧(j:Int)<l.length:=by omega
  have d3:(j:Int).toNat=j:=by omega
  have hrg:=Qe3 haj;have hle:j * 11+1+2<=(Qo l).length:=by rw[QW];omega
  have q:=Vl c.r;simp only[Rg.cells]at q;simp only[Qb,simprocAttr,g13,d1,d3,hgb,hrg];refine⟨hle,?_⟩;refine(q H3).thenW ?_;rintro _ _ hn4 hw4 ⟨rfl,k4,rfl⟩;have hx4:Ext H3 (H3.up k4):=(Ext.refl H3).up hn4;obtain⟨hR4,hO4⟩:=hc.ext _ _ _ hR3 hw3 hx4;have hk4:=hc.ck hR3 hw3 hx4 hw4;simp only[Qb,simprocAttr];refine QFX hc hbase hf hx ha hwz hva hl hn hwx hwh hy hwl hel (hP3.ck ho3 hk4) (ho3.sub hO4) hR4 ((hk2.trans hk3).trans hk4) ?_ ?_ ?_ ?_ ?_ ?_ ?_
  all_goals simp only[Ql,simprocAttr]
  rw[ec]
 ·rw[Le (by have:=Ll h;omega)]at ec;simp only[Qb,simprocAttr];refine QFX hc hbase hf hx ha hwz hva hl hn hwx hwh hy hwl hel hP3 ho3 hR3 (hk2.trans hk3) ?_ ?_ ?_ ?_ ?_ ?_ ?_
  all_goals simp only[Ql,simprocAttr]
  rw[ec]
end
theorem Qv6:∀ (ss:List Value) (ws:List Ld) (i:Nat) (s:Value) (w:Ld),ss[i]? = some s->ws[i]? = some w->((ldC ss ws).drop (i * 3)).take 3=[s,.int .i64 w.x,.int .i64 w.h]
 | [],_,_,_,_,h,_=>by simp at h
 | _::_,[],_,_,_,_,h=>by simp at h
 | s::ss,w::ws,0,_,_,h1,h2=>by cases h1;cases h2;rfl
 | s::ss,w::ws,i+1,s',w',h1,h2=>by
  have e:ldC (s::ss) (w::ws)=[s,.int .i64 w.x,.int .i64 w.h]++ldC ss ws:=rfl;rw[e,show(i+1) * 3=3+i * 3 by omega,<- Rc];exact Qv6 ss ws i s' w' h1 h2
structure QCH (base lb:Nat) (items:List Ld) (Hz:Qa) (x:Lf) (op:Int) (va:Value) (e:List Int) (R:Nat->Qa->Prop) (Own:Qa->Nat->Prop):Prop where
 ext:∀j H H',R j H->H.Wf->Ext H H'->R j H'∧∀id,Own H' id->Own H id
 low:∀j H id,R j H->Own H id->id<H.next
 go:∀j w H Hs p1 p2 p3 p4 s tl,items[j]? = some w->R j H->PfF Hz Hs H x op va p1 p2 p3 p4 s tl w e->PfO (Own H) Hz p1 p2 p3 p4 s tl->base<=H.next->YQ prog lb [.func (.func WR) #[] #[.pointer (some ⟨p1,0,none⟩),.pointer (some ⟨p2,0,none⟩),.pointer (some ⟨p3,0,none⟩),.pointer (some ⟨p4,0,none⟩)]] H λu H'=>u=.bool true∧R (j+1) H'∧CK Own H H'
theorem QCH.ck {base lb:Nat} {items:List Ld} {Hz:Qa} {x:Lf} {op:Int} {va:Value} {e:List Int} {R:Nat->Qa->Prop} {Own:Qa->Nat->Prop} (h:QCH base lb items Hz x op va e R Own) {j:Nat} {H H':Qa} (hR:R j H) (hw:H.Wf) (hx:Ext H H') (hw':H'.Wf):CK Own H H':=
 ⟨hx.next,hw',λid hid _=>hx.get id hid,λid hid=>.inl ((h.ext j H H' hR hw hx).2 id hid)⟩
theorem XP.keep2 {e:TypeId} {H0 H H':Qa} {v:Value} {ws:List Ld} (h:XP e H0 H v ws) (hw:H.Wf) (hk:∀id,H0.next<=id->id<H.next->H'.get id=H.get id):XP e H0 H' v ws:=by
 obtain⟨ss,h1,h2,h3⟩:=h.it;exact⟨ss,h1,h2.ext λid hi=>hk id (h2.low hw hi).1 (h2.low hw hi).2,λj s w hs hw'=>(h3 j s w hs hw').ext λid hi=>hk id ((h3 j s w hs hw').low hw hi).1 ((h3 j s w hs hw').low hw hi).2⟩
theorem QCI {base lb pf pi:Nat} {x:Lf} {op:Int} {va:Value} {l:List Ar} {Hz H:Qa} {R:Nat->Qa->Prop} {Own:Qa->Nat->Prop} (hc:QCH base lb (Yf x.f l) Hz x op va (QaC x.f op l) R Own) (hbase:base<=H.next) (hx:x.At Hz) (hf0:x.Fr 0) (ha:Q0 Hz va l) (hwz:Hz.Wf) (hva:∀n,Hz.next<=n->Qm n 6 (.agg #[.int .i64 op,va])=true) (hl:l.length<=1000) (hI:∀a∈l,I64 a.n) (hn:x.f.slots.length=l.length) (hpl:(Yf x.f l).length<=1000)
  (hz:Ext Hz H) (hzo:∀id,id<Hz.next->¬Own H id) (gf:H.get pf=some (.cells x.cells Qf false)) (gi:H.get pi=some (.cells [.int .i64 op,va] Qc false)) (of:¬Own H pf) (oi:¬Own H pi) (hR:R 0 H):
  Qg prog Y3 [.func (.yield lb) #[] #[],.pointer (some ⟨pf,0,none⟩),.pointer (some ⟨pi,0,none⟩)] H λu H'=>R (Yf x.f l).length H'∧CK Own H H':=by
 refine Qlz λhw=>?_;have e10:x.cells.take 10=x.cells:=rfl;have l10:10<=x.cells.length:=Lb _;obtain⟨a0,cap,rfl⟩:=Q7 ha;simp only[QdN,Qb,simprocAttr,gf,gi,Lw,e10];refine⟨l10,?_⟩;refine(Qqf H (hx.ext hwz hz) hf0 (ha.ext hwz hz) hl hI hn).thenW ?_;rintro tl H2 hn2 hw2 ⟨ht2,hx2⟩;obtain⟨at2,ct2,rfl⟩:=ht2.slc;have gf2:H2.get pf=some (.cells x.cells Qf false):=by rw[hx2.get _ (hw.lt gf)];exact gf
 have gi2:H2.get pi=some (.cells [.int .i64 op,.slice a0 l.length cap] Qc false):=by rw[hx2.get _ (hw.lt gi)];exact gi
 have hz2:=hz.trans hx2;simp only[Qb,simprocAttr,gf2,gi2,Lw,e10];refine⟨l10,?_⟩;refine(Qnd H2 (hx.ext hwz hz2) (ha.ext hwz hz2) hl hn).thenW ?_;rintro v3 H3 hn3 hw3 ⟨hv3,hx23⟩;have hx3:=hx2.trans hx23;have ht3:=ht2.go hw2 hx23;obtain⟨hR3,hO3⟩:=hc.ext _ _ _ hR hw hx3;have hk3:=hc.ck hR hw hx3 hw3;have hv3:=hv3.down hx2.next;have hnew:∀id,H.next<=id->¬Own H3 id:=λid h1 h2=>by have:=hc.low _ _ _ hR (hO3 _ h2);omega
 obtain⟨va3,vc3,rfl⟩:=hv3.slc;have hz3:=hz.trans hx3;have gf3:H3.get pf=some (.cells x.cells Qf false):=by rw[hx3.get _ (hw.lt gf)];exact gf
 have gi3:H3.get pi=some (.cells [.int .i64 op,.slice a0 l.length cap] Qc false):=by rw[hx3.get _ (hw.lt gi)];exact gi
 generalize hpp:Yf x.f l=W at *;simp only[Qb,simprocAttr,QU];refine QB (λm A' H'=>∃i:Nat,i<=W.length∧m=W.length - i∧R i H'∧CK Own H3 H'∧A' 0=.func (.yield lb) #[] #[]∧A' 1=.pointer (some ⟨pf,0,none⟩)∧A' 2=.pointer (some ⟨pi,0,none⟩)∧A' 4=.slice at2 (QaC x.f op l).length ct2∧A' 12=.slice va3 W.length vc3∧A' 13=.int .i64 W.length∧A' 14=.int .i64 i) W.length ?_ ?_
 ·refine⟨0,L7 _,by omega,hR3,hc.ck hR3 hw3 (.refl _) hw3,?_,?_,?_,?_,?_,?_,?_⟩
  all_goals simp only[Ql,simprocAttr]
  all_goals rfl
 ·rintro m A' H' ⟨i,hi,rfl,hRi,hk4,r0,r1,r2,r4,r12,r13,r14⟩;have hw4:=hk4.w;simp only[Qb,simprocAttr,r13,r14];refine Qi (λh2=>?_) (λh2=>?_)
  ·have h2:i<W.length:=by have:=Lg h2;omega
   obtain⟨ss,hsl,hgss,hgs⟩:=hv3.it;obtain⟨b,hb1,rfl,hgb⟩:∃b,H.next<=b∧va3=some ⟨b,0,none⟩∧H3.get b=some (.cells (ldC ss W) Qq false):=by
    rcases hgss with⟨h,h',_⟩ | ⟨b,c,h,q1,q2,_⟩
    ·omega
    ·cases h;exact⟨b,q1,rfl,q2⟩
   have hgb3:H'.get b=some (.cells (ldC ss W) Qq false):=by rw[hk4.keep _ (hw3.lt hgb) (hnew _ hb1)];exact hgb
   obtain⟨sv,hsv⟩:∃sv,ss[i]? = some sv:=⟨_,La (by omega)⟩;obtain⟨w,hwi⟩:∃w,W[i]? = some w:=⟨_,La h2⟩;have hs3:=hgs i sv w hsv hwi;have hs4:=hs3.ext (H':=H') λid hid=>hk4.keep id (hs3.low hw3 hid).2 (hnew _ (hs3.low hw3 hid).1);have ht4:=ht3.ext (H':=H') λid hid=>hk4.keep id (ht3.low hw3 hid).2 (hnew _ (ht3.low hw3 hid).1);have hat:=Qv6 ss W i sv w hsv hwi;have hll:(ldC ss W).length=W.length * 3:=by rw[Qsj _ _ hsl]
   have d1:(0:Int)<=i∧(i:Int)<W.length:=by omega
   have d3:(i:Int).toNat=i:=by omega
   have ei:IntKind.i64.wrap ((i:Int)+1)=((i+1:Nat):Int):=by rw[w64 (by unfold I64;omega)];omega
   have gf4:H'.get pf=some (.cells x.cells Qf false):=by rw[hk4.keep _ (hw3.lt gf3) (λh=>of (hO3 _ h))];exact gf3
   have gi4:H'.get pi=some (.cells [.int .i64 op,.slice a0 l.length cap] Qc false):=by rw[hk4.keep _ (hw3.lt gi3) (λh=>oi (hO3 _ h))];exact gi3
   obtain⟨ai,ci,rfl⟩:=hs4.slc;have lf:=hw4.lt gf4;have li:=hw4.lt gi4;have nf:¬pf=H'.next:=by omega
   have ni:¬pi=H'.next:=by omega
   simp only[Qb,simprocAttr,r0,r1,r2,r4,r12,r13,r14,d1,d3,hgb3,hat,nf,ni,LN,gf4,gi4,Lw,e10];refine⟨by omega,l10,?_⟩;generalize hH5:(H'.push _).set H'.next _=H5;have hx5:Ext H' H5:=by rw[<- hH5];exact((Ext.refl H').push _).set (Lb _) _
   have hw5:H5.Wf:=by rw[<- hH5];exact(hw4.push _).set (b0:=.cells [.slice none 0 0,.int .i64 0,.int .i64 0] Qq false) (by rw[Qd,Lc rfl]) _
   clear hH5;refine(QkW H5 rfl rfl).thenW ?_;rintro _ H6 hn6 hw6 ⟨rfl,hx56,hn56,g6f,g6i,g6l,g6t⟩;have hx6:=hx5.trans hx56;obtain⟨hR6,hO6⟩:=hc.ext _ _ _ hRi hw4 hx6;have hk6:=(hk4.trans (hc.ck hRi hw4 hx6 hw6));have hno6:∀id,H'.next<=id->¬Own H6 id:=λid h1 h2=>by have:=hc.low _ _ _ hRi (hO6 _ h2);omega
   have hnew6:∀id,H.next<=id->id<H3.next->¬Own H6 id:=λid h1 h2 h3=>by
    rcases hk6.own id h3 with h4 | h4
    ·exact hnew id h1 h4
    ·omega
   have hz6:Ext Hz H6:=⟨by have:=hz3.next;have:=hk6.next;omega,λid hid=>by rw[hk6.keep id (by have:=hz3.next;omega) (λh=>hzo id hid (hO3 _ h))];exact hz3.get id hid⟩;have hP:PfF Hz H H6 x op (.slice a0 l.length cap) (H5.next+1) (H5.next+2) H5.next (H5.next+3) (.slice ai w.b.length ci) (.slice at2 (QaC x.f op l).length ct2) w (QaC x.f op l):=⟨hz6,hw6,g6i,g6l,g6f,g6t,hs4.go hw4 hx6,ht4.go hw4 hx6⟩;have hn5:=hx5.next;have ho:PfO (Own H6) Hz (H5.next+1) (H5.next+2) H5.next (H5.next+3) (.slice ai w.b.length ci) (.slice at2 (QaC x.f op l).length ct2):=
    ⟨λid hid h=>by
     rcases hk6.own id h with h4 | h4
     ·exact hzo id hid (hO3 _ h4)
     ·have:=hz3.next;omega,
    hno6 _ (by omega),hno6 _ (by omega),hno6 _ (by omega),hno6 _ (by omega),λid hid=>hnew6 id (hs3.low hw3 hid).1 (hs3.low hw3 hid).2,λid hid=>hnew6 id (ht3.low hw3 hid).1 (ht3.low hw3 hid).2⟩
   simp only[Qb,simprocAttr,r0,ZT];refine Qhw (hc.go i w H6 H _ _ _ _ _ _ hwi hR6 hP ho (by have:=hk3.next;have:=hk6.next;omega)) ?_;rintro _ H7 hn7 hw7 ⟨rfl,hR7,hk7⟩;simp only[Qb,simprocAttr,L8,r14,ei];refine⟨W.length - (i+1),by omega,i+1,by omega,rfl,hR7,hk6.trans hk7,?_,?_,?_,?_,?_,?_,?_⟩
   all_goals simp only[Ql,simprocAttr,r0,r1,r2,r4,r12,r13]
  ·have h2:i=W.length:=by have:=Ll h2;omega
   subst h2;simp only[Qb,simprocAttr,Qj6];have hkk:=hk3.trans hk4;exact .mk hkk.next ⟨hRi,hkk⟩
theorem Gx.keepS {size:Nat} {e:TypeId} {H0 H H':Qa} {v:Value} {n:Nat} {cs:List Value} (h:Gx size e H0 H v n cs) (hk:∀id,H.get id≠none->H'.get id=H.get id):Gx size e H0 H' v n cs:=by
 rcases h with h | ⟨b,c,rfl,h2,h3,h4⟩
 ·exact .inl h
 ·exact .inr ⟨b,c,rfl,h2,by rw[hk b (by rw[h3];simp)];exact h3,h4⟩
theorem XP.keepS {e:TypeId} {H0 H H':Qa} {v:Value} {ws:List Ld} (h:XP e H0 H v ws) (hk:∀id,H.get id≠none->H'.get id=H.get id):XP e H0 H' v ws:=by
 obtain⟨ss,h1,h2,h3⟩:=h.it;exact⟨ss,h1,h2.keepS hk,λj s w hs hw'=>(h3 j s w hs hw').keepS hk⟩
theorem Gx.keep2 {size:Nat} {e:TypeId} {H0 H H':Qa} {v:Value} {n:Nat} {cs:List Value} (h:Gx size e H0 H v n cs) (hw:H.Wf) (hk:∀id,H0.next<=id->id<H.next->H'.get id=H.get id):Gx size e H0 H' v n cs:=h.ext λid hi=>hk id (h.low hw hi).1 (h.low hw hi).2
theorem Qq4 {H1 H2:Qa} (hw:H1.Wf) (hx:Ext H1 H2) (l:Nat) (id:Nat) (hid:(H1.kill l).get id≠none):(H2.kill l).get id=(H1.kill l).get id:=by
 rw[Wd]at hid;rw[Wd,Wd]
 by_cases he:id=l
 ·rw[Lc he,Lc he]
 ·rw[Le he]at hid;rw[Le he,Le he];refine hx.get id ?_;rcases Nq id H1.next with h | h
  ·exact h
  ·exact absurd (hw id h) hid
def QEB:PC:=.ops [Ow 8 (.alloc Qw [.slice none 0 0,.int .i64 0,.int .i64 0]),Ov (.st 3 (t 8) (t 18))]
def QEC:PC:=.block 3 (.ops [Ow 19 (.ld false 1 (t 6)),Ow 20 (.ld true 3 (t 8)),Ow 21 (.bslice Qw 3 1 [.slice none 0 0,.int .i64 0,.int .i64 0] [(0,(t 20))]),Ow 22 (.app Qw 3 40 (t 19) (t 21)),Ov (.st 1 (t 6) (t 22))])
def lyR (Hb:Qa) (c m lB:Nat) (eC:TypeId) (bl:Blk) (W:List Ld) (j:Nat) (H':Qa):Prop:=
 H'.get lB=some bl∧lB<H'.next∧Hb.next<=H'.next∧(∀id,id<Hb.next->id≠c->id≠m->H'.get id=Hb.get id)∧∃v,H'.get c=some (.cells [v] eC false)∧LsU Qw Hb (H'.kill lB) v (W.take j) H'.next∧∀id,inB v id->id<H'.next∧Hb.next<=id∧id≠lB
section
variable {Hb:Qa} {c m lB:Nat} {eC:TypeId} {bl:Blk} {W:List Ld}
theorem Qxm (hc:c<Hb.next) {j:Nat} {H1 H2:Qa} (h:lyR Hb c m lB eC bl W j H1) (hw:H1.Wf) (hx:Ext H1 H2):lyR Hb c m lB eC bl W j H2∧∀id,clO c lB eC H2 id->clO c lB eC H1 id:=by
 obtain⟨h1,hl,h2,h3,v,h5,h6,h7⟩:=h;have hn:=hx.next;have e5:=hx.get c (by omega);refine⟨⟨by rw[hx.get lB hl];exact h1,by omega,by omega,λid a b d=>by rw[hx.get id (by omega)];exact h3 id a b d,v,by rw[e5];exact h5,(h6.of λg=>g.keepS (Qq4 hw hx lB)).mono hn,λid hi=>?_⟩,λid hi=>?_⟩
 ·have:=h7 id hi;exact⟨by omega,this.2⟩
 ·rcases hi with h | h | ⟨v',h,hi⟩
  ·exact .inl h
  ·exact .inr (.inl h)
  ·exact .inr (.inr ⟨v',by rw[<- e5];exact h,hi⟩)
theorem Qxn (hc:c<Hb.next) {j:Nat} {H1:Qa} (h:lyR Hb c m lB eC bl W j H1) {id:Nat} (hi:clO c lB eC H1 id):id<H1.next:=by
 obtain⟨h1,hl,h2,h3,v,h5,h6,h7⟩:=h;rcases hi with rfl | rfl | ⟨v',h,hi⟩
 ·omega
 ·omega
 ·rw[h5]at h;cases h;exact(h7 id hi).1
theorem QED {L:Option Code->Blk} {A:Env} (hc:c<Hb.next) (hcl:c≠lB) (hml:m=lB∨Hb.next<=lB) (hW:W.length<=1000) (hY:YR prog L [18] QEB QEC A) (r6:A 6=.pointer (some ⟨c,0,none⟩)) {n0 base:Nat} {items:List Ld} (hb:Hb.next<=base) (hlb:lB<base) (hit:∀ (i:Nat) w,items[i]? = some w->W[n0+i]? = some w):
  Cns base lB items LdV (λi=>lyR Hb c m lB eC (L none) W (n0+i)) (clO c lB eC):=by
 refine⟨λj Ha Hc h hwa hx=>Qxm hc h hwa hx,λj Ha id h hi=>Qxn hc h hi,?_⟩;rintro j w H0' H1' v0 hj hR hR0 hw0' ⟨s,rfl,hs⟩ hb0 hx0 hO hw1';obtain⟨h1,hl,h2,h3,v,h5,_,h7⟩:=hR;have h6:LsU Qw Hb (H1'.kill lB) v (W.take (n0+j)) H0'.next:=by
  obtain⟨_,_,h2,_,v',h5',h6,_⟩:=hR0;rw[hx0.get c (by omega),h5']at h5;cases h5;exact h6.of λg=>g.keepS (Qq4 hw0' hx0 lB)
 refine hY lB _ H1' _ h1 rfl ?_ hw1';have hj':=hit j w hj;have hjl:=(Lk.1 hj').1;have kk:∀id,id≠lB->(H1'.kill lB).get id=H1'.get id:=λid hid=>by rw[Wd,Le hid]
 have kn:(H1'.kill lB).get lB=none:=by rw[Wd,Lc rfl]
 have hnk:(H1'.kill lB).next=H1'.next:=rfl;have hwk:(H1'.kill lB).Wf:=hw1'.kill _;have k5:=(kk c hcl).trans h5;have ks:Gx 1 5 Hb (H1'.kill lB) s w.b.length (bys w.b):=(hs.down (H0:=Hb) (by omega)).ext λid hid=>kk id (by have:=hs.low hw1' hid;omega);have k3:∀id,id<Hb.next->id≠c->id≠m->id≠lB->(H1'.kill lB).get id=Hb.get id:=λid a b d e=>(kk id e).trans (h3 id a b d);generalize hHk:H1'.kill lB=Hk at *;obtain⟨a,cp,rfl⟩:=ks.slc;obtain⟨av,cv,rfl⟩:=h6.ls.slc;have nz:¬c=Hk.next:=by omega
 simp only[QEB,QEC,Qew,Qhn,Qb,simprocAttr,nz,LN,k5,r6];generalize hH5:Qa.push (Qa.set (Qa.push Hk _) _ _) _=H5;have hx5:Ext Hk H5:=by rw[<- hH5];exact(((Ext.refl Hk).push _).set (Lb _) _).push _
 have hw5:H5.Wf:=by rw[<- hH5];exact((hwk.push _).set (b0:=.cells [.slice none 0 0,.int .i64 0,.int .i64 0] Qw false) (by rw[Qd,Lc rfl]) _).push _
 have g5:H5.get (Hk.next+1)=some (.cells [.slice a w.b.length cp,.int .i64 w.x,.int .i64 w.h] Qw false):=by rw[<- hH5,Qd,Lc (by rw[QE,Qe])]
 have hn5:H5.next=Hk.next+2:=by rw[<- hH5,Qe,QE,Qe]
 clear hH5;have hsrc:ZQ 3 (.slice (some ⟨Hk.next+1,0,none⟩) 1 1) H5=some (1,[.slice a w.b.length cp,.int .i64 w.x,.int .i64 w.h]):=by
  rw[Qb5 g5 (by decide) (by simp)];rfl
 have hlt:(W.take (n0+j)).length<=1000:=by rw[Sb];omega
 obtain⟨Hz,hxz,hnz⟩:∃Hz:Qa,Ext Hz H5∧Hz.next=Hb.next:=⟨⟨Hb.next,H5.tr⟩,⟨by show Hb.next<=H5.next;omega,λid _=>rfl⟩,rfl⟩;have hlz:LsU Qw Hz H5 (.slice av (W.take (n0+j)).length cv) (W.take (n0+j)) H0'.next:=(h6.go hwk hx5).down (by omega);have hsz:Gx 1 5 Hz H5 (.slice a w.b.length cp) w.b.length (bys w.b):=(ks.go hwk hx5).down (by omega);refine Qxl (by decide) hlz (U':=Hk.next) (by have:=hx0.next;omega) (λa ha=>by have:=hs.low hw1' ha;omega) hxz hw5 hsz hsrc (by omega) (by omega) ?_;intro v' H6 hl6 hk6;obtain⟨a',c',rfl⟩:=hl6.ls.slc;have htk:W.take (n0+(j+1))=W.take (n0+j)++[w]:=by rw[<- Rh,Nv,hj'];rfl
 rw[<- htk]at hl6 hk6 ⊢;have h65:∀id,id<Hb.next->H6.get id=H5.get id:=λid hid=>(hk6.x.get id (by omega)).trans (hxz.get id (by omega)).symm;have k6c:H6.get c=some (.cells [.slice av (W.take (n0+j)).length cv] eC false):=by rw[h65 _ hc,hx5.get _ (by omega)];exact k5
 have hnk6:=hk6.next;have k6n:H6.get lB=none:=by
  rw[hk6.keep lB (by omega) (λh=>(h7 lB h).2.2 rfl),hx5.get _ (by omega)];exact kn
 simp only[Qb,simprocAttr,Qev,r6,k6c];refine⟨by omega,⟨by rw[Qn,Lc rfl],by rw[QE,QE];omega,by rw[QE,QE];omega,λid p q r=>?_,.slice a' (W.take (n0+(j+1))).length c',?_,?_,λid hi=>?_⟩,⟨by rw[QE,QE];omega,?_,λid p q=>?_,λid hi=>?_⟩⟩
 ·have hlb:id≠lB:=by rcases hml with h | h;rw[<- h];exact r;omega
  rw[Qn,Le hlb,Qn,Le q,h65 _ p,hx5.get _ (by omega)];exact k3 id p q r hlb
 ·rw[Qn,Le hcl,Qn,Lc rfl]
 ·refine((hl6.down (H0:=Hb) (by omega)).of λg=>g.keep2 hk6.w λid hid hid2=>?_).mono (by rw[QE,QE];have:=hx5.next;omega);rw[Wd]
  by_cases he:id=lB
  ·rw[Lc he,he,k6n]
  ·rw[Le he,Qn,Le he,Qn,Le (by omega)]
 ·obtain⟨ss,_,hg,_⟩:=hl6.it;have:=hg.low hk6.w hi;rw[QE,QE];refine⟨this.2,by omega,λhe=>?_⟩;rcases hk6.new id hi with h | h
  ·exact(h7 id h).2.2 he
  ·omega
 ·intro id hid;rw[QE,QE]at hid;rw[Qn,Le (by omega),Qn,Le (by omega)];exact hk6.w id hid
 ·have q1:id≠c:=λh=>q (.inl h);have q2:id≠lB:=λh=>q (.inr (.inl h));have q3:¬inB (.slice av (W.take (n0+j)).length cv) id:=λh=>q (.inr (.inr ⟨_,h5,h⟩));rw[Qn,Le q2,Qn,Le q1,hk6.keep id (by omega) q3,hx5.get _ (by omega),kk id q2]
 ·rcases hi with h | h | ⟨v'',h,hi⟩
  ·exact .inl (.inl h)
  ·exact .inl (.inr (.inl h))
  ·rw[Qn,Le hcl,Qn,Lc rfl]at h;cases h;rcases hk6.new id hi with h | h
   ·exact .inl (.inr (.inr ⟨_,h5,h⟩))
   ·exact .inr (by omega)
end
def QFY:PC:=.ops [Om 7 (t 16)]
def QFZ:PC:=.block 1 (.seq (.ops [Om 17 (t 7)]) (.block 2 (.rangeF (t 17) [18] QEB QEC)))
def Qug (f:Ld->List Ld) (P:List Ld) (j:Nat):Nat:=((P.take j).flatMap f).length
theorem QEE {f:Ld->List Ld} {P:List Ld} {j:Nat} {w:Ld} (h:P[j]? = some w):Qug f P (j+1)=Qug f P j+(f w).length∧∀ (i:Nat) y,(f w)[i]? = some y->(P.flatMap f)[Qug f P j+i]? = some y:=by
 have h1:P.take (j+1)=P.take j++[w]:=by rw[Nv,h];rfl
 refine⟨by unfold Qug;rw[h1,Bm,Lh];simp,λi y hy=>?_⟩;have hj:=(Lk.1 h).1;have h2:P.flatMap f=(P.take j).flatMap f++(f w++(P.drop (j+1)).flatMap f):=by
  conv=>lhs;rw[<- NW (j+1) P]
  rw[Bm,h1,Bm];simp
 have hi:=(Lk.1 hy).1;rw[h2];unfold Qug;rw[LR (Ro _ _),NL,LY hi];exact hy
section
variable {Hb:Qa} {c m:Nat} {eC:TypeId}
theorem QEF {L:Option Code->Blk} {A:Env} {x:Lf} {op:Int} {va:Value} {l:List Ar} {e:List Int} {Hz:Qa} {P:List Ld} (hc:c<Hb.next) (hm:m<Hb.next) (hcm:c≠m) (hW:(P.flatMap (Qg9 x.f l e)).length<=1000) (hY:YR prog L [16] QFY QFZ A) (r6:A 6=.pointer (some ⟨c,0,none⟩))
  (hf:FOk x.f) (hx:x.At Hz) (ha:Q0 Hz va l) (hwz:Hz.Wf) (hva:∀n,Hz.next<=n->Qm n 6 (.agg #[.int .i64 op,va])=true) (hl:l.length<=1000) (hn:x.f.slots.length=l.length) (hel:e.length<=2000)
  (hP:∀w∈P,(0<=w.x∧w.x<2)∧(0<=w.h∧w.h<2)∧(x.f.vex=true->(vxF x.f l w.x w.h).Ok)∧w.b.length<=1000):
  QCH Hb.next m P Hz x op va e (λj=>lyR Hb c m m eC (L none) (P.flatMap (Qg9 x.f l e)) (Qug (Qg9 x.f l e) P j)) (clO c m eC):=by
 refine⟨λj Ha Hc h hwa hx=>Qxm hc h hwa hx,λj Ha id h hi=>Qxn hc h hi,?_⟩;rintro j w H Hs p1 p2 p3 p4 s tl hj hR hF hO hbase;obtain⟨h1,hl1,h2,h3,v,h5,h6,h7⟩:=id hR;intro hw0;refine hY m _ H _ h1 rfl ?_ hw0;have om:clO c m eC H m:=.inr (.inl rfl);have kk:∀id,id≠m->(H.kill m).get id=H.get id:=λid hid=>by rw[Wd,Le hid]
 have kn:(H.kill m).get m=none:=by rw[Wd,Lc rfl]
 have hnk:(H.kill m).next=H.next:=rfl;have hwk:(H.kill m).Wf:=hF.wf.kill _;generalize H.kill m=Hk at *;simp only[QFY,QFZ,Qew,Qhn,Qba,simprocAttr,Ql,simprocAttr,Kn];rw[Qgi WR [] [.pointer (some ⟨p1,0,none⟩),.pointer (some ⟨p2,0,none⟩),.pointer (some ⟨p3,0,none⟩),.pointer (some ⟨p4,0,none⟩)]];intro L2 hY2;refine⟨by kernel_rfl,?_⟩;have hxi:Ext Hk (Hk.push (L2 none)):=(Ext.refl Hk).push _;have hni:(Hk.push (L2 none)).next=H.next+1:=by rw[Qe,hnk]
 have gi:(Hk.push (L2 none)).get Hk.next=some (L2 none):=by rw[Qd,Lc rfl]
 have hwi:=hwk.push (L2 none);generalize Hk.push (L2 none)=Hi at *;have ki:∀id,id≠m->id<H.next->Hi.get id=H.get id:=λid h1 h2=>by rw[hxi.get id (by omega),kk id h1]
 have gic:Hi.get c=some (.cells [v] eC false):=by rw[ki c hcm (by omega)];exact h5
 have nown:∀id,id<H.next->¬clO c m eC H id->¬clO c Hk.next eC Hi id:=λid q1 q2 q3=>by
  rcases q3 with q | q | ⟨v',q,q'⟩
  ·exact q2 (.inl q)
  ·omega
  ·rw[gic]at q;cases q;exact q2 (.inr (.inr ⟨_,h5,q'⟩))
 have ne:∀ {id},¬clO c m eC H id->id≠m:=λq h=>q (h▸om);have hFi:PfF Hz Hs Hi x op va p1 p2 p3 p4 s tl w e:=
  ⟨⟨by have:=hF.z.next;omega,λid hid=>by rw[ki id (ne (hO.z id hid)) (by have:=hF.z.next;omega)];exact hF.z.get id hid⟩,hwi,by rw[ki _ (ne hO.o1) (hF.wf.lt hF.g1)];exact hF.g1,by rw[ki _ (ne hO.o2) (hF.wf.lt hF.g2)];exact hF.g2,by rw[ki _ (ne hO.o3) (hF.wf.lt hF.g3)];exact hF.g3,by rw[ki _ (ne hO.o4) (hF.wf.lt hF.g4)];exact hF.g4,
   hF.s.ext λid hi=>ki id (ne (hO.s id hi)) (hF.s.low hF.wf hi).2,hF.t.ext λid hi=>ki id (ne (hO.t id hi)) (hF.t.low hF.wf hi).2⟩
 have hOi:PfO (clO c Hk.next eC Hi) Hz p1 p2 p3 p4 s tl:=⟨λid q=>nown id (by have:=hF.z.next;omega) (hO.z id q),nown _ (hF.wf.lt hF.g1) hO.o1,nown _ (hF.wf.lt hF.g2) hO.o2,nown _ (hF.wf.lt hF.g3) hO.o3,nown _ (hF.wf.lt hF.g4) hO.o4,λid q=>nown id (hF.s.low hF.wf q).2 (hO.s id q),λid q=>nown id (hF.t.low hF.wf q).2 (hO.t id q)⟩;obtain⟨hc1,hc2⟩:=QEE (f:=Qg9 x.f l e) hj;obtain⟨hwx,hwh,hwv,hwl⟩:=hP w (Ln hj);generalize hWW:P.flatMap (Qg9 x.f l e)=W at *;have hcns:=QED (Hb:=Hb) (c:=c) (m:=m) (lB:=Hk.next) (eC:=eC) (W:=W) (base:=Hi.next) hc (by omega) (.inr (by omega)) hW hY2 (by simp only[Ql,simprocAttr,r6]) (by omega) (by omega) hc2;refine(Quf hcns (Lb _) hf hx ha hwz hva hl hn hwx hwh hwv hwl hel hFi hOi ?_).thenW ?_
 ·refine⟨gi,by omega,by omega,λid a b d=>by rw[ki id d (by omega)];exact h3 id a b d,v,gic,(h6.of λg=>g.keepS λid hid=>?_).mono (by omega),λid hi=>?_⟩
  ·have hlt:id<Hk.next:=Nat.lt_of_not_le λh=>hid (hwk id h);rw[Wd,Le (by omega)];exact hxi.get id hlt
  ·have:=h7 id hi;exact⟨by omega,this.2.1,by omega⟩
 ·rintro u H2 hn2 hw2 ⟨hR2,hk2⟩;rw[<- hc1]at hR2;obtain⟨q1,q2,q3,q4,v',q5,q6,q7⟩:=id hR2;refine⟨none,q1,?_⟩;have hm2:H2.get m=none:=by
   rw[hk2.keep m (by omega) ?_,hxi.get m (by omega)]
   ·exact kn
   ·rintro(h | h | ⟨v'',h,h'⟩)
    ·exact hcm h.symm
    ·omega
    ·rw[gic]at h;cases h;have:=h7 m h';omega
  have gf:∀id,id≠m->id≠Hk.next->((H2.kill Hk.next).set m (L none)).get id=H2.get id:=λid a b=>by rw[Qn,Le a,Wd,Le b]
  have hnf:((H2.kill Hk.next).set m (L none)).next=H2.next:=rfl;have gm:((H2.kill Hk.next).set m (L none)).get m=some (L none):=by rw[Qn,Lc rfl]
  have hwf:((H2.kill Hk.next).set m (L none)).Wf:=λid hid=>by
   rw[hnf]at hid;rw[gf id (by omega) (by omega)];exact hw2 id hid
  have hkl:∀id,id≠m->id≠Hk.next->(((H2.kill Hk.next).set m (L none)).kill m).get id=H2.get id:=λid a b=>by rw[Wd,Le a];exact gf id a b
  simp only[Qb,simprocAttr,Qhm,Qev];generalize (H2.kill Hk.next).set m (L none)=Hf at *;have hn2':=hk2.next;refine⟨by show H.next<=H2.next;omega,⟨gm,by omega,by omega,λid a b d=>by rw[gf id d (by omega)];exact q4 id a b d,v',by rw[gf c hcm (by omega)];exact q5,(q6.of λg=>g.keepS λid hid=>?_).mono (by omega),λid hi=>?_⟩,⟨by omega,hwf,λid a b=>?_,λid a=>?_⟩⟩
  ·rw[Wd]at hid;split at hid
   ·exact absurd rfl hid
   ·rename_i q;have q':id≠m:=λh=>hid (h▸hm2);rw[hkl id q' q,Wd,Le q]
  ·have:=q7 id hi;exact⟨by omega,this.2.1,by omega⟩
  ·rw[gf id (ne b) (by omega),hk2.keep id (by omega) (nown id a b),ki id (ne b) a]
  ·rcases a with a | a | ⟨v'',a,a'⟩
   ·exact .inl (.inl a)
   ·exact .inl (.inr (.inl a))
   ·rw[gf c hcm (by omega),q5]at a;cases a;rcases hk2.own id (.inr (.inr ⟨_,q5,a'⟩)) with h | h
    ·rcases h with h | h | ⟨v'',h,h'⟩
     ·exact .inl (.inl h)
     ·exact .inr (by omega)
     ·rw[gic]at h;cases h;exact .inl (.inr (.inr ⟨_,h5,h'⟩))
    ·exact .inr (by omega)
end
theorem Qhx {f:Fm} {op:Int} {l:List Ar} (h:QkV f op l=true):f.op=op∧f.shapes.length=l.length∧QlR f=0∧Wa op l=0∧∀i,i<l.length->Qg8 (WC op l) (l.getD i WM) (f.shapes.getD i 0)=true:=by
 unfold QkV at h;simp only[Lm,L0,Li,LU]at h;exact⟨h.1.1.1.1,h.1.1.1.2,h.1.1.2,h.1.2,h.2⟩
theorem Quh (x:Int):∀ (l:List Int) (k:Nat),0<=QaB l x k->(k:Int)<=QaB l x k∧l.getD ((QaB l x k).toNat - k) 0=x
 | [],k,h=>by simp[QaB]at h
 | y::l,k,h=>by
  unfold QaB at h ⊢;split
  ·rename_i e;exact⟨B0 _,by simp[e]⟩
  ·rename_i e;rw[Le e]at h;obtain⟨h1,h2⟩:=Quh x l (k+1) h;refine⟨by omega,?_⟩;have e2:(QaB l x (k+1)).toNat - k=((QaB l x (k+1)).toNat - (k+1))+1:=by omega
   rw[e2,List.getD_cons_succ];exact h2
theorem QCJ {l:List Int} {x:Int} (h:0<=QM l x):l.getD (QM l x).toNat 0=x:=(Quh x l 0 h).2
theorem Qui:∀ {l:List Ar},QiR l=0->∀a∈l,Wv a=0
 | [],_,_,h=>by cases h
 | a::l,h,b,hb=>by
  unfold QiR at h;split at h
  ·rename_i q;rcases LK.1 hb with rfl | hb
   ·simpa using q
   ·exact Qui h b hb
  ·rename_i q;simp[h]at q
theorem Quj {op:Int} {l:List Ar} (h:Wa op l=0):QiR l=0∧l.length<=4:=by
 unfold Wa at h;split at h
 ·simp at h
 ·split at h
  ·simp at h
  ·split at h
   ·rename_i q;simp[h]at q
   ·rename_i h1 h2 h3;exact⟨by simpa using h3,by omega⟩
theorem QAN {r:Rg} (h:Q9 r=true):0<=r.n∧r.n<16:=by
 unfold Q9 QeU at h;simp only[Lv]at h;split at h
 ·simp only at h;omega
 ·split at h
  ·simp only at h;omega
  ·split at h<;>simp only at h<;>omega
theorem QAO {f:Fm} {op:Int} {l:List Ar} (h:QkV f op l=true) {s:Int} (hs:s=1∨s=3∨s=4∨s=7) (h0:0<=QM f.slots s):∃a,l[(QM f.slots s).toNat]? = some a∧a.k=1∧(1<=a.r.c∧a.r.c<=7)∧Q9 a.r=true:=by
 obtain⟨_,h2,h3,h4,h5⟩:=Qhx h;have hsl:=Qsg h3;have hlt:=Qt6 f.slots s;obtain⟨j,hj⟩:∃j:Nat,QM f.slots s=j:=⟨(QM f.slots s).toNat,by omega⟩;have his:=QCJ h0;rw[hj]at his hlt ⊢;have e1:(j:Int).toNat=j:=by omega
 rw[e1]at his ⊢;obtain⟨a,ha⟩:∃a,l[j]? = some a:=⟨_,La (by omega)⟩;refine⟨a,ha,?_⟩;have hm:QfP f=true:=Qny h3 3 (by omega);unfold QfP at hm;rw[Lm]at hm;have hg:QkT (f.shapes.getD j 0) (f.slots.getD j 0)=true:=Li.1 hm.2 j (LU.2 (by omega));rw[his]at hg;have hr:1<=f.shapes.getD j 0∧f.shapes.getD j 0<=6:=by
  unfold QkT at hg;rw[Le (by omega),Le (by omega),Lc (by omega)]at hg;simpa using hg
 have ht:=h5 j (by omega);unfold Qg8 at ht;rw[Lm]at ht;have hgd:l.getD j WM=a:=by simp[LX,ha]
 rw[hgd]at ht;have hc:a.k=1∧(1<=a.r.c∧a.r.c<=7):=by
  have e:(Qpa (WC op l) a).a=a:=by unfold Qpa;split<;>rfl
  obtain⟨n,hn⟩:∃n:Nat,(f.shapes.getD j 0).toNat=n:=⟨_,rfl⟩;have ht:=ht.2;rw[hn]at ht;have:n=1∨n=2∨n=3∨n=4∨n=5∨n=6:=by omega
  rcases this with rfl | rfl | rfl | rfl | rfl | rfl
  all_goals
   simp only[Qee,WE,e,Nw,Lm,L0]at ht;omega
 have hv:=Qui (Quj h4).1 a (Ln ha);unfold Wv at hv;rw[Lc (by simp[hc.1])]at hv;refine⟨hc.1,hc.2,?_⟩;cases hq:Q9 a.r with
 | true=>rfl
 | false=>rw[hq]at hv;simp at hv
theorem QAP {f:Fm} {op:Int} {l:List Ar} (h:QkV f op l=true) {s:Int} (hs:s=1∨s=3∨s=4∨s=7) (h0:0<=QM f.slots s):∃a,l[(QM f.slots s).toNat]? = some a∧a.k=1∧(1<=a.r.c∧a.r.c<=7)∧0<=a.r.n∧a.r.n<16:=by
 obtain⟨a,h1,h2,h3,h4⟩:=QAO h hs h0;exact⟨a,h1,h2,h3,QAN h4⟩
theorem QF0 {f:Fm} {op:Int} {l:List Ar} (h:QkV f op l=true) (hv:f.vex=true) {a b:Int} (ha:0<=a∧a<2) (hb:0<=b∧b<2):(vxF f l a b).Ok:=by
 obtain⟨_,h2,h3,h4,h5⟩:=Qhx h;have hf:=Qxi h3;obtain⟨hm,hp,hw,hl⟩:=hf.vx hv;have hmp:=hf.map;refine⟨Qnx _ _ _,ha,?_,?_,?_,?_,?_,hp⟩
 ·show 0<=hB f l b∧hB f l b<2;unfold hB;split
  ·exact Qnx _ _ _
  ·exact hb
 ·show 1<=f.map∧f.map<4;omega
 ·show 0<=Qt7 f.w∧Qt7 f.w<2;unfold Qt7;split<;>omega
 ·show 0<=Qp8 f l 3∧Qp8 f l 3<16;unfold Qp8;split
  ·rename_i h0;obtain⟨c,hc,_,_,hn⟩:=QAP h (.inr (.inl rfl)) h0;rw[hc];exact hn
  ·omega
 ·show 0<=f.l∧f.l<2;omega
theorem Qq5 (d:Int):(Vk d 4).1.length<=8:=QgZ _ _ (by decide)
def QAQ (w:Ld):Prop:=(0<=w.x∧w.x<2)∧(0<=w.h∧w.h<2)∧w.b.length<=100
theorem z02:(0:Int)<=0∧(0:Int)<2:=by decide
theorem Quk (mid:Int) (ix:Rg) (f d:Int):QAQ (Qe1 mid ix f d):=by
 have:=Qq5 d;refine⟨QkO _,z02,?_⟩;unfold Qe1;simp only[Lh,Lo,L9];omega
theorem QlS (mid rm:Int) (sib:List Int) (hs:sib.length<=8) (m:Mm):∀w∈Zu mid rm sib m,QAQ w:=by
 intro w hw;unfold Zu at hw;obtain⟨md,_,h⟩:=NF.1 hw;unfold Jc at h;split at h
 ·have:=Qub md m;rw[Sa]at h;subst h;refine⟨QkO _,QkO _,?_⟩;simp only[Lh,Lo,L9];omega
 ·cases h
theorem QCK (mid:Int) (m:Mm):∀w∈Qiq mid m,QAQ w:=by
 intro w hw;unfold Qiq at hw;split at hw
 ·rw[Sa]at hw;subst hw;have:=Qq5 m.d;refine⟨z02,z02,?_⟩;simp only[Lh,Lo,L9];omega
 ·split at hw
  ·rw[Sa]at hw;subst hw;exact Quk _ _ _ _
  ·split at hw
   ·exact QlS _ _ _ (by simp) _ w hw
   ·rcases LI.1 hw with hw | hw
    ·split at hw
     ·cases hw
     ·exact QlS _ _ _ (by simp) _ w hw
    ·rcases LI.1 hw with hw | hw
     ·exact QlS _ _ _ (by simp) _ w hw
     ·split at hw
      ·cases hw
      ·rw[Sa]at hw;subst hw;exact Quk _ _ _ _
theorem QCL (mid:Int) (a:Ar):(Qnc mid a).1.length<=8∧∀w∈(Qnc mid a).1,QAQ w:=by
 unfold Qnc;split
 ·simp
 ·split
  ·simp
  ·split
   ·refine⟨by simp,λw hw=>?_⟩;rw[Sa]at hw;subst hw;exact⟨z02,QkO _,by simp⟩
   ·split
    ·exact⟨Qud _ _,QCK _ _⟩
    ·simp
theorem QlT (f:Fm) (l:List Ar):(Yf f l).length<=8∧∀w∈Yf f l,QAQ w:=by
 unfold Yf;split
 ·refine⟨by simp,λw hw=>?_⟩;rw[Sa]at hw;subst hw;exact⟨z02,z02,by simp⟩
 ·split
  ·exact QCL _ _
  ·simp
theorem Qha {α β:Type} {f:α->List β} {n:Nat}:∀ (l:List α),(∀a∈l,(f a).length<=n)->(l.flatMap f).length<=l.length * n
 | [],_=>by simp
 | a::l,h=>by
  have h1:=h a (Ny ..);have h2:=Qha l λb hb=>h b (NA _ hb);rw[Ba,Lh,Lo,Ry];omega
def Qpd (f:Fm) (op:Int) (l:List Ar):List Ld:=if QkV f op l=true then(Yf f l).flatMap (Qg9 f l (QaC f op l)) else[]
theorem Qsl (f:Fm) (op:Int) (l:List Ar):(Qpd f op l).length<=24:=by
 unfold Qpd;split
 ·have h1:=(QlT f l).1;have h2:=Qha (f:=Qg9 f l (QaC f op l)) (n:=3) (Yf f l) λw _=>by unfold Qg9;rw[Nn];exact(Qq3 _ _ _ _).1
  omega
 ·simp
theorem QAR (f:Fm) (op:Int) (l:List Ar):(QaC f op l).length<=2000:=by
 unfold QaC;have:=Qxj (QCD f op l) (tlN f);rw[Lh];split<;>split<;>simp<;>omega
theorem Qsm {x:Lf} {op:Int} {va:Value} {l:List Ar} (H:Qa) (hx:x.At H) (hf:x.Fr 0) (ha:Q0 H va l) (hva:∀n,H.next<=n->Qm n 6 (.agg #[.int .i64 op,va])=true) (hl:l.length<=1000) (hI:∀a∈l,I64 a.n):
  Qg prog Qey [.agg x.cells.toArray,.agg #[.int .i64 op,va]] H λu H'=>∃v,u=.tuple #[v,.bool (decide (0<(Qpd x.f op l).length))]∧LsU Qw H H' v (Qpd x.f op l) H'.next∧Ext H H':=by
 refine QpU λhw=>?_;have ex:(Value.agg x.cells.toArray).cells.toList=x.cells:=rfl;have e10:x.cells.take 10=x.cells:=rfl;have l10:10<=x.cells.length:=Lb _;obtain⟨W,eW⟩:∃W,W=Qpd x.f op l:=⟨_,rfl⟩;have hWl:W.length<=24:=by rw[eW];exact Qsl _ _ _
 rw[<- eW];unfold Qpd at eW;obtain⟨a0,cap,rfl⟩:=Q7 ha;simp only[Qh8,ex,Qba,simprocAttr];generalize hH1:Qa.push H (.cells x.cells Qf false)=H1;have g1:H1.get H.next=some (.cells x.cells Qf false):=by rw[<- hH1,Qd,Lc rfl]
 have hx1:Ext H H1:=by rw[<- hH1];exact(Ext.refl H).push _
 have hn1:H1.next=H.next+1:=by rw[<- hH1];rfl
 have hw1:H1.Wf:=by rw[<- hH1];exact hw.push _
 clear hH1;simp only[Qb,simprocAttr,hn1];generalize hH2:Qa.push H1 _=H2;have hx2:Ext H H2:=by rw[<- hH2];exact(hx1.push _)
 have hw2:H2.Wf:=by rw[<- hH2];exact(hw1.push _)
 have g22:H2.get H.next=some (.cells x.cells Qf false):=by rw[<- hH2,Qd,Le (by omega)];exact g1
 have g23:H2.get (H.next+1)=some (.cells [.int .i64 op,.slice a0 l.length cap] Qc false):=by rw[<- hH2,Qd,Lc (by omega)]
 have hn2:H2.next=H.next+2:=by rw[<- hH2,Qe,hn1]
 clear hH2;simp only[Qb,simprocAttr,g1,g22,g23,Lw,e10];refine⟨l10,?_⟩;refine(Qsi H2 (hx.ext hw hx2) hf (ha.ext hw hx2) hl hI).thenW ?_;rintro _ H3 hn3 hw3 ⟨rfl,hx23⟩;have hx3:=hx2.trans hx23;cases hq:QkV x.f op l with
 | false=>
  rw[hq,Le (by decide)]at eW;subst eW;simp only[Qb,simprocAttr,LM,QgC];exact .mk hx3.next ⟨_,rfl,LsU.nil _ _ _ _,hx3⟩
 | true=>
  rw[hq,Lc rfl]at eW;have g32:H3.get H.next=some (.cells x.cells Qf false):=by rw[hx23.get _ (by omega)];exact g22
  have g33:H3.get (H.next+1)=some (.cells [.int .i64 op,.slice a0 l.length cap] Qc false):=by rw[hx23.get _ (by omega)];exact g23
  have nz1:¬H.next=H3.next:=by omega
  have nz2:¬H.next+1=H3.next:=by omega
  simp only[Qb,simprocAttr,L8,nz1,nz2,LN,g32,g33,Lw,e10];refine⟨l10,?_⟩;obtain⟨H4,eC,hg4,hx34,hw4,hn4,hH4⟩:∃H4 eC,H4.get H3.next=some (.cells [.slice none 0 0] eC false)∧Ext H3 H4∧H4.Wf∧H4.next=H3.next+1∧H4=H3.push (.cells [.slice none 0 0] _ false):=⟨_,_,by rw[Qd,Lc rfl],(Ext.refl H3).push _,hw3.push _,rfl,rfl⟩;rw[<- hH4];clear hH4;refine(Qqh H4).thenW ?_;rintro _ H5 hn5 hw5 ⟨rfl,hx45,hn45,g5f,g5i⟩;have hx5:=(hx3.trans hx34).trans hx45;have g5c:H5.get H3.next=some (.cells [.slice none 0 0] eC false):=by rw[hx45.get _ (by omega)];exact hg4
  simp only[Qba,simprocAttr,Ql,simprocAttr,Kn];rw[Qgi Y3 [] [.pointer (some ⟨H4.next,0,none⟩),.pointer (some ⟨H4.next+1,0,none⟩)]];intro L hY;refine⟨by kernel_rfl,?_⟩;have hxb:Ext H5 (H5.push (L none)):=(Ext.refl H5).push _;have hnb:(H5.push (L none)).next=H5.next+1:=rfl;have gb:(H5.push (L none)).get H5.next=some (L none):=by rw[Qd,Lc rfl]
  have hwb:=hw5.push (L none);generalize H5.push (L none)=Hb at *;have gbc:Hb.get H3.next=some (.cells [.slice none 0 0] eC false):=by rw[hxb.get _ (by omega)];exact g5c
  obtain⟨_,_,hs3,_,_⟩:=Qhx hq;have hP:∀w∈Yf x.f l,(0<=w.x∧w.x<2)∧(0<=w.h∧w.h<2)∧(x.f.vex=true->(vxF x.f l w.x w.h).Ok)∧w.b.length<=1000:=λw hw=>by
   obtain⟨h1,h2,h3⟩:=(QlT x.f l).2 w hw;exact⟨h1,h2,λhv=>QF0 hq hv h1 h2,by omega⟩
  have hsn:x.f.slots.length=l.length:=by rw[<- Qsg hs3];exact(Qhx hq).2.1
  have hout:=QEF (Hb:=Hb) (c:=H3.next) (m:=H5.next) (eC:=eC) (op:=op) (va:=.slice a0 l.length cap) (e:=QaC x.f op l) (Hz:=H) (by omega) (by omega) (by omega) (by rw[<- eW];omega) hY (by simp only[Ql,simprocAttr]) (Qxi hs3) hx ha hw hva hl hsn (QAR _ _ _) hP;rw[<- eW]at hout;have hno:∀id,id≠H3.next->id≠H5.next->¬clO H3.next H5.next eC Hb id:=λid p q h=>by
   rcases h with h | h | ⟨v,h,o,n,c,h'⟩
   ·exact p h
   ·exact q h
   ·rw[gbc]at h;cases h;cases h'
  refine(QCI hout (Lb _) hx hf ha hw hva hl hI hsn (by have:=(QlT x.f l).1;omega) (hx5.trans hxb) (λid hid=>hno id (by have:=hx3.next;omega) (by have:=hx5.next;omega)) (by rw[hxb.get _ (by omega)];exact g5f) (by rw[hxb.get _ (by omega)];exact g5i) (hno _ (by omega) (by omega)) (hno _ (by omega) (by omega)) ?_).thenW ?_
  ·refine⟨gb,by omega,by omega,λ_ _ _ _=>rfl,_,gbc,?_,λid ⟨o,n,c,h⟩=>by cases h⟩;exact LsU.nil _ _ _ _
  ·rintro u H6 hn6 hw6 ⟨hR6,hk6⟩;obtain⟨q1,q2,q3,q4,v',q5,q6,q7⟩:=hR6;refine⟨none,q1,?_⟩;have hcn:Qug (Qg9 x.f l (QaC x.f op l)) (Yf x.f l) (Yf x.f l).length=W.length:=by unfold Qug;rw[Nr,eW]
   rw[hcn,Nr]at q6;have hxf:Ext H (H6.kill H5.next):=⟨by have:=hx5.next;show H.next<=H6.next;omega,λid hid=>by rw[Wd,Le (by have:=hx5.next;omega),q4 id (by have:=hx5.next;omega) (by have:=hx3.next;omega) (by have:=hx5.next;omega)];exact(hx5.trans hxb).get id hid⟩;have g6:(H6.kill H5.next).get H3.next=some (.cells [v'] eC false):=by rw[Wd,Le (by omega)];exact q5
   have q6:LsU Qw H (H6.kill H5.next) v' W (H6.kill H5.next).next:=q6.down (H0:=H) (by have:=hx5.next;omega);generalize H6.kill H5.next=H7 at *;obtain⟨a7,c7,rfl⟩:=q6.ls.slc;simp only[Qb,simprocAttr,Qhm,g6,QgC];refine .mk hxf.next ⟨_,?_,q6,hxf⟩;rw[show decide ((0:Int)<(W.length:Int))=decide (0<W.length) by simp]
def Qhb (op:Int):List Ar->Bool
 | [x,y]=>(op==11)&&(((x.k==1)&&(y.k==1))&&(x.r.c==y.r.c))&&!(x.r.n==y.r.n)
 | _=>false
def Qdg (op:Int) (l:List Ar):List (List Ar):=
 if((Qt op l).2.2==0)=true then[(Qt op l).2.1]++(if Qhb op (Qt op l).2.1=true then[(Qt op l).2.1.reverse] else[]) else[]
def Qul (op:Int) (vs:List Value):List Value:=vs.flatMap λs=>[.int .i64 op,s]
def QCM (H:Qa) (v:Value) (op:Int) (ws:List (List Ar)):Prop:=∃vs:List Value,vs.length=ws.length∧QbV H v ws.length (Qul op vs)∧∀ (j:Nat) s w,vs[j]? = some s->ws[j]? = some w->Q0 H s w∧∀n,H.next<=n->Qm n 6 (.agg #[.int .i64 op,s])=true
theorem Qy1 {op:Int} {l:List Ar} (h:(Qt op l).2.2=0):Qt op l=(op,(Qt op l).2.1,0):=by
 unfold Qt at h ⊢;split
 ·rename_i q;rw[Lc q]at h;simp only at h;rw[h]at q;exact absurd q (by decide)
 ·rename_i q;rw[Le q]at h;split
  ·rename_i q2;rw[Lc q2]at h;simp only at h;rw[h]at q2;exact absurd q2 (by decide)
  ·rfl
theorem Qum {H H':Qa} {op:Int} {v:Value} {l:List Ar} (ha:Q0 H' v l) (hf:∀a n c,v=.slice (some a) n c->H.next<=a.block∧a.block<H'.next) (n:Nat) (hn:H'.next<=n):Qm n 6 (.agg #[.int .i64 op,v])=true:=by
 obtain⟨a,cap,rfl,h1⟩:=ha;cases a with
 | none=>simp[Qm,Ab.plain]
 | some a=>
  have:=(hf _ _ _ rfl).2;simp[Qm,Ab.plain];omega
theorem Qq6 (ib:Int×Bool):∀l:List Ar,(QX ib l).1.length<=l.length
 | []=>Lb _
 | a::l=>by
  unfold QX;split
  ·simpa using Qq6 ib l
  ·simp
theorem Qy2 (op:Int) (l:List Ar):(Ka op l).length<=l.length+1:=by
 unfold Ka;split
 ·split<;>simp
 ·split
  ·simp
  ·split<;>simp
theorem QkX (op:Int) (l:List Ar):(Qt op l).2.1.length<=5:=by
 unfold Qt;split
 ·simp
 ·rename_i h;split
  ·simp
  ·have:=QiU (op:=op) (l:=l) (by simpa using h);have:=Qq6 (WC op l) l;have:=Qy2 op (QX (WC op l) l).1;simp only;omega
theorem QGB {op:Int} {m:List Ar} {W:List (List Ar)} {H H3:Qa} {B:Nat} {a2:Option Addr} {c2:Nat} (hml:m.length<=1000) (eW:W=[m]++if Qhb op m=true then[m.reverse] else[]) (hx3:Ext H H3) (hw3:H3.Wf) (g3:H3.get B=some (.cells [.int .i64 op,.slice a2 m.length c2] Qc false)) (ha:Q0 H3 (.slice a2 m.length c2) m) (hbl:∀n,H3.next<=n->Qm n 6 (.agg #[.int .i64 op,.slice a2 m.length c2])=true) {A:Env} (r3:A 3=.pointer (some ⟨B,0,none⟩)):
  Qs prog Jb ⟨Rt prog QdM H λu H'=>QCM H' u op W∧Ext H H',YO⟩ (Rt prog QdM H λu H'=>QCM H' u op W∧Ext H H') A H3:=by
 have lB:=hw3.lt g3;have nB:¬B=H3.next:=by omega
 simp only[Jb,Qb,simprocAttr,r3,g3,nB,LN];generalize hH4:H3.push _=H4;have hx4:Ext H3 H4:=by rw[<- hH4];exact(Ext.refl _).push _
 have hw4:H4.Wf:=by rw[<- hH4];exact hw3.push _
 have g4:H4.get H3.next=some (.cells [.int .i64 op,.slice a2 m.length c2] Qc false):=by rw[<- hH4,Qd,Lc rfl]
 have hn4:H4.next=H3.next+1:=by rw[<- hH4];rfl
 clear hH4;refine⟨rfl,?_⟩;refine(Qw2 _ m H4 (ha.ext hw3 hx4) hml).thenW ?_;rintro u H5 hn5 hw5 ⟨hx5,hcl⟩;obtain⟨ca,cap,cb,rfl,hcb,hca⟩:∃ca cap cb,u=.slice ca m.length cap∧(0<m.length->ca=some ⟨cb,0,none⟩∧H4.next<=cb∧H5.get cb=some (.cells (Qo m) Qh false))∧(∀a,ca=some a->H4.next<=a.block∧a.block<H5.next):=by
  rcases hcl with⟨rfl,rfl | ⟨rfl,rfl⟩⟩ | ⟨hne,rfl,rfl⟩
  ·exact⟨none,0,0,rfl,λh=>absurd h (NX 0),λa h=>by cases h⟩
  ·exact⟨_,0,0,rfl,λh=>absurd h (NX 0),λa h=>by cases h;exact⟨Lb _,by rw[Qe];exact Rq _⟩⟩
  ·refine⟨_,_,H4.next+1,rfl,λ_=>⟨rfl,by omega,by rw[Qd,Lc (by simp only[Qe])]⟩,λa h=>by cases h;simp only[Qe];omega⟩
 clear hcl;simp only[Qb,simprocAttr];refine⟨hx5.eqB,?_⟩;generalize hH6:H5.push _=H6;have hx6:Ext H5 H6:=by rw[<- hH6];exact(Ext.refl _).push _
 have hw6:H6.Wf:=by rw[<- hH6];exact hw5.push _
 have hn6:H6.next=H5.next+1:=by rw[<- hH6];rfl
 have g6:H6.get H5.next=some (.cells [.int .i64 op,.slice ca m.length cap] QI false):=by rw[<- hH6,Qd,Lc rfl]
 clear hH6;have hx36:=(hx4.trans hx5).trans hx6;have hxe:=hx3.trans hx36;have g6r:H6.get H3.next=some (.cells [.int .i64 op,.slice a2 m.length c2] Qc false):=by rw[hx6.get _ (by omega),hx5.get _ (by omega)];exact g4
 have ha6:=ha.ext hw3 hx36;have hc6:Q0 H6 (.slice ca m.length cap) m:=⟨ca,cap,rfl,λh=>⟨cb,_,_,(hcb h).1,by rw[hx6.get _ (hw5.lt (hcb h).2.2)];exact(hcb h).2.2⟩⟩
 -- one spelling
 have hend1:Qhb op m=false->QCM H6 (.slice (some ⟨H3.next,0,none⟩) 1 1) op W:=λh=>by
  rw[eW,Le (by rw[h];decide),Na];refine⟨[.slice a2 m.length c2],rfl,⟨_,1,rfl,λ_=>⟨H3.next,_,_,rfl,g6r⟩⟩,λj s w h1 h2=>?_⟩;rcases j with _ | j
  ·cases h1;cases h2;exact⟨ha6,λn hn=>hbl n (by have:=hx36.next;omega)⟩
  ·simp at h1
 cases h11:op==11 with
 | false=>
  simp only[Qb,simprocAttr,Xx];refine .mk hxe.next ⟨hend1 ?_,hxe⟩;unfold Qhb;split<;>simp[h11]
 | true=>
  simp only[Qb,simprocAttr];refine(Qbs H5.next op _ m H6 false g6 hc6 hml).thenW ?_;rintro _ H6 _ _ ⟨rfl,rfl⟩;cases hal:Qbr m with
  | false=>
   simp only[Qb,simprocAttr,Xx];refine .mk hxe.next ⟨hend1 ?_,hxe⟩;unfold Qhb;unfold Qbr at hal;split
   ·simp only at hal;rw[hal];simp
   ·rfl
  | true=>
   obtain⟨x,y,rfl⟩:∃x y,m=[x,y]:=by
    unfold Qbr at hal;split at hal
    ·exact⟨_,_,rfl⟩
    ·cases hal
   obtain⟨rfl,hcbn,hgcb⟩:=hcb (FH _);have g6c:H6.get cb=some (.cells (Qo [x,y]) Qh false):=by rw[hx6.get _ (hw5.lt hgcb)];exact hgcb
   have e2:(Qo [x,y])[2]? = some (.int .i64 x.r.n):=rfl;have e13:(Qo [x,y])[13]? = some (.int .i64 y.r.n):=rfl;have d0:(0:Int)<=0∧(0:Int)<(([x,y]:List Ar).length:Int):=by simp
   have d1:(0:Int)<=1∧(1:Int)<(([x,y]:List Ar).length:Int):=by simp
   simp only[sxA,sxB,Nat.reduceBEq,Nat.reduceEqDiff,reduceCtorEq,mxA,mxB,Nat.reduceAdd,reduceIte,Nat.reduceLeDiff,splice,g6,g6c];refine⟨d0,_,e2,d1,_,e13,?_⟩;simp only[Qb,simprocAttr];have hal2:((x.k==1)&&(y.k==1)&&(x.r.c==y.r.c))=true:=hal;cases hnn:x.r.n==y.r.n with
   | true=>
    simp only[Qb,simprocAttr,L8,Xx];exact .mk hxe.next ⟨hend1 (by simp[Qhb,hnn]),hxe⟩
   | false=>
    have htr:Qhb op [x,y]=true:=by simp only[Qhb,h11,hal2,hnn];rfl
    simp only[Qb,simprocAttr,LM];simp only[Qau,Qb,simprocAttr];refine(KJ H5.next cb cap op x y H6 false Qh g6 g6c).thenW ?_;rintro _ H7 hn7 hw7 ⟨rfl,hH7⟩;have g7:∀id,id≠cb->H7.get id=H6.get id:=λid h=>by rw[hH7,Qn,Le h,Qn,Le h]
    have g7c:H7.get cb=some (.cells (Qo [y,x]) Qh false):=by rw[hH7,Qn,Lc rfl]
    have hn7':H7.next=H6.next:=by rw[hH7];rfl
    clear hH7;have lc5:=hw5.lt hgcb;have g7d:H7.get H5.next=some (.cells [.int .i64 op,.slice (some ⟨cb,0,none⟩) 2 cap] QI false):=by rw[g7 _ (by omega)];exact g6
    have g7r:H7.get H3.next=some (.cells [.int .i64 op,.slice a2 2 c2] Qc false):=by rw[g7 _ (by omega)];exact g6r
    simp only[Qb,simprocAttr,g7d];have hx37:Ext H3 H7:=⟨by have:=hx36.next;omega,λid hid=>by rw[g7 id (by omega)];exact hx36.get id hid⟩;generalize hH8:H7.push _=H8;have hx78:Ext H7 H8:=by rw[<- hH8];exact(Ext.refl _).push _
    have hw8:H8.Wf:=by rw[<- hH8];exact hw7.push _
    have g8:H8.get H7.next=some (.cells [.int .i64 op,.slice (some ⟨cb,0,none⟩) 2 cap] Qc false):=by rw[<- hH8,Qd,Lc rfl]
    clear hH8;have l7:=hw7.lt g7r;have g8r:H8.get H3.next=some (.cells [.int .i64 op,.slice a2 2 c2] Qc false):=by rw[hx78.get _ l7];exact g7r
    have hs8:Gx 2 Qc H3 H8 (.slice (some ⟨H3.next,0,none⟩) 1 1) 1 [.int .i64 op,.slice a2 2 c2]:=.inr ⟨_,_,rfl,Lb _,g8r,rfl,.inl rfl⟩;have hsrc:ZQ 2 (.slice (some ⟨H7.next,0,none⟩) 1 1) H8=some (1,[.int .i64 op,.slice (some ⟨cb,0,none⟩) 2 cap]):=by
     rw[Qb5 g8 (by decide) (by simp)];rfl
    refine QAw hs8 ⟨_,rfl⟩ hw8 hsrc rfl (by decide) rfl (by decide) (by decide) (by decide) ?_;rintro v9 H9 hg9 hx9 hw9 ⟨b9,rfl⟩;have hx39:=(hx37.trans hx78).trans hx9;have hx09:=hx3.trans hx39;have g9c:H9.get cb=some (.cells (Qo [y,x]) Qh false):=by rw[hx9.get _ (by have:=hx78.next;omega),hx78.get _ (by omega)];exact g7c
    simp only[Qb,simprocAttr,Xx];refine .mk hx09.next ⟨?_,hx09⟩;rw[eW,Lc htr];refine⟨[.slice a2 2 c2,.slice (some ⟨cb,0,none⟩) 2 cap],rfl,hg9.sl,λj s w h1 h2=>?_⟩;rcases j with _ | _ | j
    ·cases h1;cases h2;exact⟨ha.ext hw3 hx39,λn hn=>hbl n (by have:=hx39.next;omega)⟩
    ·cases h1;cases h2;refine⟨⟨_,cap,rfl,λ_=>⟨cb,_,_,rfl,g9c⟩⟩,λn hn=>?_⟩;have:=hw9.lt g9c;simp[Qm,Ab.plain];omega
    ·simp at h1
theorem QlU {op:Int} {v:Value} {l:List Ar} (H:Qa) (hv:Q0 H v l) (hl:l.length<=1000) (hI:∀a∈l,I64 a.n):
  Qg prog GI [.agg #[.int .i64 op,v]] H λu H'=>QCM H' u op (Qdg op l)∧Ext H H':=by
 refine Qj5 λhw=>?_;obtain⟨a0,cap,rfl⟩:=Q7 hv;simp only[Qci,Qba,simprocAttr];generalize hH1:Qa.push H _=H1;have g1:H1.get H.next=some (.cells [.int .i64 op,.slice a0 l.length cap] Qc false):=by rw[<- hH1,Qd,Lc rfl];rfl
 have hx1:Ext H H1:=by rw[<- hH1];exact(Ext.refl H).push _
 have hw1:H1.Wf:=by rw[<- hH1];exact hw.push _
 clear hH1;simp only[Qb,simprocAttr,g1];refine(QaR op l H1 _ (hv.ext hw hx1) hl hI).thenW ?_;rintro _ H2 hn2 hw2 ⟨hx2,v',rfl,hv2,hfr⟩;have hx02:=hx1.trans hx2;have hbl:=λn hn=>Qum (op:=(Qt op l).1) hv2 hfr n hn;obtain⟨W,eW⟩:∃W,W=Qdg op l:=⟨_,rfl⟩;rw[<- eW];unfold Qdg at eW;obtain⟨a2,c2,rfl⟩:=Q7 hv2;cases he:(Qt op l).2.2==0 with
 | false=>
  rw[he,Le (by decide)]at eW;simp only[Qb,simprocAttr,he,Xx];have hx3:=(hx02.push (.cells [.int .i64 0,.slice none 0 0] Qc false)).set hx02.next (.cells [.int .i64 (Qt op l).1,.slice a2 (Qt op l).2.1.length c2] Qc false);exact .mk hx3.next ⟨by rw[eW];exact⟨[],rfl,⟨none,0,rfl,λh=>absurd h (NX 0)⟩,λj s w h=>by simp at h⟩,hx3⟩
 | true=>
  rw[he,Lc rfl]at eW;have ei:=Qy1 (L0.1 he);have e1:(Qt op l).1=op:=by rw[ei]
  rw[e1]at hbl;simp only[Qb,simprocAttr,he,e1];generalize hm:(Qt op l).2.1=m at *;generalize hH3:(H2.push _).set H2.next _=H3;have hx3:Ext H2 H3:=by rw[<- hH3];exact((Ext.refl H2).push _).set (Lb _) _
  have hw3:H3.Wf:=by rw[<- hH3];exact(hw2.push _).set (b0:=.cells [.int .i64 0,.slice none 0 0] Qc false) (by rw[Qd,Lc rfl]) _
  have g3:H3.get H2.next=some (.cells [.int .i64 op,.slice a2 m.length c2] Qc false):=by rw[<- hH3,Qn,Lc rfl]
  clear hH3;refine QGB (by rw[<- hm];have:=QkX op l;omega) eW (hx02.trans hx3) hw3 g3 (hv2.ext hw2 hx3) (λn hn=>hbl n (by have:=hx3.next;omega)) ?_;simp only[Ql,simprocAttr]
structure GX (v:Value) (H:Qa) (v':Value) (H':Qa):Prop where
 next:H.next<=H'.next
 keep:∀id,id<H.next->¬inB v id->H'.get id=H.get id
 own:∀id,inB v' id->inB v id∨H.next<=id
theorem QCN {v:Value} {a b:Nat} (ha:inB v a) (hb:inB v b):a=b:=by
 obtain⟨_,_,_,rfl⟩:=ha;obtain⟨_,_,_,h⟩:=hb;cases h;rfl
theorem GX.refl (v:Value) (H:Qa):GX v H v H:=⟨Lb _,λ_ _ _=>rfl,λ_ h=>.inl h⟩
theorem GX.trans {v v' v'':Value} {H H' H'':Qa} (h:GX v H v' H') (h':GX v' H' v'' H''):GX v H v'' H'':=by
 have n1:=h.next;have n2:=h'.next;refine⟨by omega,λid a b=>?_,λid a=>?_⟩
 ·rw[h'.keep id (by omega) (λc=>by rcases h.own id c with d | d;exact b d;omega),h.keep id a b]
 ·rcases h'.own id a with b | b
  ·exact h.own id b
  ·exact .inr (by omega)
theorem GX.ext {v:Value} {H H':Qa} (h:Ext H H'):GX v H v H':=⟨h.next,λid a _=>h.get id a,λ_ h=>.inl h⟩
theorem GX.gk {v v':Value} {H0 H H':Qa} (h:GK v v' H0 H H'):GX v H v' H':=⟨h.next,h.keep,h.new⟩
theorem GX.old {v v':Value} {Hs H H':Qa} (h:GX v H v' H') (hx:Ext Hs H) (hv:∀id,inB v id->Hs.next<=id):Ext Hs H':=
 ⟨by have:=h.next;have:=hx.next;omega,λid hid=>by rw[h.keep id (by have:=hx.next;omega) (λc=>by have:=hv id c;omega)];exact hx.get id hid⟩
theorem XP.own {e:TypeId} {H0 H:Qa} {v:Value} {ws:List Ld} (h:XP e H0 H v ws):∀id,inB v id->H0.next<=id:=λid hi=>by
 obtain⟨ss,h1,h2,h3⟩:=h.it;obtain⟨o,n,c,rfl⟩:=hi;rcases h2 with⟨h,_,_⟩ | ⟨b,c',h,q,_⟩
 ·cases h
 ·cases h;exact q
theorem XP.gx {e:TypeId} {H0 H H':Qa} {v v' u:Value} {ws:List Ld} (h:XP e H0 H u ws) (hw:H.Wf) (hg:GX v H v' H') (hn:∀id,inB v id->id<H0.next):XP e H0 H' u ws:=
 h.keep2 hw λid a b=>hg.keep id b λc=>by have:=hn id c;omega
def RgS (A A':Env):Prop:=A' 1=A 1∧A' 7=A 7∧A' 8=A 8∧A' 9=A 9∧A' 15=A 15∧A' 16=A 16∧A' 17=A 17∧A' 21=A 21∧A' 22=A 22∧A' 23=A 23
def Qnf (k:Int) (w:Ld):Ld:=⟨w.b,k,w.h⟩
section
variable {R:Env->Qa->Prop} {E:Nat->Env->Qa->Prop} {K:Env->Qa->Prop}
theorem QGC {Hs H Hc:Qa} {acc cs:List Ld} {v cv:Value} {k:Int} {A:Env} (hcl:acc.length+cs.length<=1000000) (hxs:Ext Hs H) (hw:H.Wf) {U0:Nat} (hl:LsU Qw Hs H v acc Hc.next) (hc:LsU Qw Hc H cv cs U0) (hcx:Hs.next<=Hc.next) (hcn:Hc.next<=H.next) (hcv:∀id,inB v id->id<Hc.next) (r5:A 5=v) (r8:A 8=.int .i64 k) (r10:A 10=cv)
  (hk:∀A' H' v',A' 5=v'->RgS A A'->H'.Wf->LsU Qw Hs H' v' (acc++cs.map (Qnf k)) H'.next->GX v H v' H'->K A' H'):
  Qs prog Qaf ⟨R,E⟩ K A H:=by
 obtain⟨ca,cc,rfl⟩:=hc.ls.slc;obtain⟨ss,hsl,hgss0,hgs0,hinc⟩:=hc.it;simp only[Qaf,Qb,simprocAttr,r10,QU];refine QB (λm A' H'=>∃i:Nat,i<=cs.length∧m=cs.length - i∧H'.Wf∧(∃U,U<=H'.next∧LsU Qw Hs H' (A' 5) (acc++(cs.take i).map (Qnf k)) U∧∀ (j:Nat) s a,i<=j->ss[j]? = some s->inB s a->U<=a)∧GX v H (A' 5) H'∧A' 36=.slice ca cs.length cc∧A' 37=.int .i64 cs.length∧A' 38=.int .i64 i∧RgS A A') cs.length ?_ ?_
 ·refine⟨0,L7 _,by omega,hw,?_,?_,?_,?_,?_,?_⟩
  ·simp only[Ql,simprocAttr,r5,Rb,Bq,Na];refine⟨Hc.next,hcn,hl,λj s a _ hs ha=>?_⟩;obtain⟨w,hw'⟩:∃w,cs[j]? = some w:=⟨_,La (by have:=(Lk.1 hs).1;omega)⟩;exact((hgs0 j s w hs hw').low hw ha).1
  ·simp only[Ql,simprocAttr,r5];exact GX.refl _ _
  ·simp only[Ql,simprocAttr]
  ·simp only[Ql,simprocAttr]
  ·simp only[uxA,uxB,Nat.reduceBEq];rfl
  ·simp only[RgS,Ql,simprocAttr,RU]
 ·rintro m A' H' ⟨i,hi,rfl,hw',⟨U,hU,hl',hlo⟩,hg,r36,r37,r38,hA⟩;simp only[Qfs,Qb,simprocAttr,r37,r38];obtain⟨e1,e7,e8,e9,e15,e16,e17,e21,e22,e23⟩:=id hA;refine Qi (λh2=>?_) (λh2=>?_)
  ·have h2:i<cs.length:=by have:=Lg h2;omega
   have hkp:∀ {size e v n cs},Gx size e Hc H v n cs->Gx size e Hc H' v n cs:=λg=>g.keep2 hw λid a b=>hg.keep id b λc=>by have:=hcv id c;omega
   have hxs':=hg.old hxs (r5▸hl.ls.own);have hgss:=hkp hgss0;have hgs:=λj s w a b=>hkp (hgs0 j s w a b);obtain⟨b,hb1,rfl,hgb⟩:∃b,Hc.next<=b∧ca=some ⟨b,0,none⟩∧H'.get b=some (.cells (ldC ss cs) Qw false):=by
    rcases hgss with⟨h,h',_⟩ | ⟨b,c,h,q1,q2,_⟩
    ·omega
    ·cases h;exact⟨b,q1,rfl,q2⟩
   obtain⟨sv,hsv⟩:∃sv,ss[i]? = some sv:=⟨_,La (by omega)⟩;obtain⟨w,hwi⟩:∃w,cs[i]? = some w:=⟨_,La h2⟩;have hs4:=hgs i sv w hsv hwi;have hat:=Qv6 ss cs i sv w hsv hwi;have hll:(ldC ss cs).length=cs.length * 3:=by rw[Qsj _ _ hsl]
   have d1:(0:Int)<=i∧(i:Int)<cs.length:=by omega
   have d3:(i:Int).toNat=i:=by omega
   have ei:IntKind.i64.wrap ((i:Int)+1)=((i+1:Nat):Int):=by rw[w64 (by unfold I64;omega)];omega
   obtain⟨ai,ci,rfl⟩:=hs4.slc;simp only[Qfr,Qb,simprocAttr,r36,r38,d1,d3,hgb,hat,e8,r8];refine⟨by omega,?_⟩;generalize hH5:Qa.push (Qa.set (Qa.set (Qa.push H' _) _ _) _ _) _=H5;have hx5:Ext H' H5:=by rw[<- hH5];exact((((Ext.refl H').push _).set (Lb _) _).set (Lb _) _).push _
   have hw5:H5.Wf:=by rw[<- hH5];exact(((hw'.push _).set (b0:=.cells [.slice none 0 0,.int .i64 0,.int .i64 0] Qw false) (by rw[Qd,Lc rfl]) _).set (b0:=.cells [.slice ai w.b.length ci,.int .i64 w.x,.int .i64 w.h] Qw false) (by rw[Qn,Lc rfl]) _).push _
   have g5:H5.get (H'.next+1)=some (.cells [.slice ai w.b.length ci,.int .i64 k,.int .i64 w.h] Qw false):=by rw[<- hH5,Qd,Lc (by simp only[QE,Qe])]
   clear hH5;have hsrc:ZQ 3 (.slice (some ⟨H'.next+1,0,none⟩) 1 1) H5=some (1,[.slice ai w.b.length ci,.int .i64 (Qnf k w).x,.int .i64 (Qnf k w).h]):=by
    rw[Qb5 g5 (by decide) (by simp)];rfl
   have hlt:(acc++(cs.take i).map (Qnf k)).length<=1000000:=by rw[Lh,Nn,Sb];omega
   have hs5:Gx 1 5 Hs H5 (.slice ai w.b.length ci) (Qnf k w).b.length (bys (Qnf k w).b):=(hs4.go hw' hx5).down hcx;obtain⟨U',hU1,hU2,hU3,hU4⟩:∃U',U<=U'∧U'<=H'.next∧(∀a,inB (.slice ai w.b.length ci) a->U<=a∧a<U')∧∀ (j:Nat) s a,i+1<=j->ss[j]? = some s->inB s a->U'<=a:=by
    by_cases hq:∃a,inB (.slice ai w.b.length ci) a
    ·obtain⟨a,ha⟩:=hq;have h1:=hlo i _ a (Lb _) hsv ha;refine⟨a+1,by omega,(hs4.low hw' ha).2,λb hb=>?_,λj s b hj hs hb=>?_⟩
     ·rw[QCN hb ha];omega
     ·obtain⟨p1,p2⟩:=Lk.1 hsv;obtain⟨p3,p4⟩:=Lk.1 hs;exact BR.1 hinc.1 i j p1 p3 (by omega) a b (p2▸ha) (p4▸hb)
    ·exact⟨U,Lb _,hU,λa ha=>absurd ⟨a,ha⟩ hq,λj s a hj=>hlo j s a (by omega)⟩
   refine Qxl (by decide) (hl'.go hw' hx5) hU1 hU3 (hxs'.trans hx5) hw5 hs5 hsrc (by omega) (by omega) ?_;intro v' H6 hl6 hk6;simp only[Qb,simprocAttr,r38,ei];have htk:acc++(cs.take (i+1)).map (Qnf k)=acc++(cs.take i).map (Qnf k)++[Qnf k w]:=by rw[Nv,hwi,N6,LQ];rfl
   refine⟨cs.length - (i+1),by omega,i+1,by omega,rfl,hk6.w,?_,?_,?_,?_,?_,?_⟩
   ·simp only[Ql,simprocAttr];rw[htk];exact⟨U',by have:=hx5.next;have:=hk6.next;omega,hl6,hU4⟩
   ·simp only[Ql,simprocAttr];exact(hg.trans (GX.ext hx5)).trans (GX.gk hk6)
   ·simp only[Ql,simprocAttr,r36]
   ·simp only[Ql,simprocAttr,r37]
   ·simp only[Ql,simprocAttr]
   ·simp only[RgS,Ql,simprocAttr,e1,e7,e8,e9,e15,e16,e17,e21,e22,e23,RU]
  ·have h2:i=cs.length:=by have:=Ll h2;omega
   subst h2;rw[Nr]at hl';simp only[Qb,simprocAttr];refine hk _ _ _ rfl ?_ hw' ?_ ?_
   ·simp only[RgS,Ql,simprocAttr,e1,e7,e8,e9,e15,e16,e17,e21,e22,e23,RU]
   ·simp only[Ql,simprocAttr];exact hl'.mono hU
   ·simp only[Ql,simprocAttr];exact hg
def frm (L:List Fm) (op:Int) (m:List Ar) (k:Nat):List Ld:=match L[k]? with | some f=>(Qpd f op m).map (Qnf k) | none=>[]
theorem Qxo (L:List Fm) (op:Int) (m:List Ar) (k:Nat):(frm L op m k).length<=24:=by
 unfold frm;split
 ·rw[Nn];exact Qsl _ _ _
 ·simp
def Qun (L:List Fm) (op:Int) (l:List Ar):List Ld:=(Qdg op l).flatMap λm=>(List.range L.length).flatMap (frm L op m)
def RgO (A A':Env):Prop:=A' 1=A 1∧A' 15=A 15∧A' 16=A 16∧A' 17=A 17
theorem QGD {Hs H:Qa} {acc:List Ld} {v fv sv:Value} {xs:List Lf} {op:Int} {m:List Ar} {B:Nat} {A:Env} (hcl:acc.length<=500000) (hxl:xs.length<=6000) (hml:m.length<=1000) (hI:∀a∈m,I64 a.n) (hws:Hs.Wf) (hxs:Ext Hs H) (hw:H.Wf) (hl:LsU Qw Hs H v acc H.next) (hf:QkM Hs fv xs) (hfr:∀x∈xs,x.Fr 0) (hsv:Q0 Hs sv m) (hbl:∀n,Hs.next<=n->Qm n 6 (.agg #[.int .i64 op,sv])=true)
  (gB:H.get B=some (.cells [.int .i64 op,sv] Qc false)) (hB:¬inB v B) (r5:A 5=v) (r7:A 7=.pointer (some ⟨B,0,none⟩)) (r21:A 21=fv) (r22:A 22=.int .i64 xs.length) (r23:A 23=.int .i64 0)
  (hk:∀A' H' v',A' 5=v'->RgO A A'->H'.Wf->LsU Qw Hs H' v' (acc++(List.range xs.length).flatMap (frm (xs.map (·.f)) op m)) H'.next->GX v H v' H'->K A' H'):
  Qs prog (.block 2 (.loop Qag)) ⟨R,E⟩ K A H:=by
 obtain⟨fa,fc,rfl,hf1⟩:=hf.1;have hf2:=hf.2;simp only[Qba,simprocAttr];refine QB (λq A' H'=>∃i:Nat,i<=xs.length∧q=xs.length - i∧H'.Wf∧LsU Qw Hs H' (A' 5) (acc++(List.range i).flatMap (frm (xs.map (·.f)) op m)) H'.next∧GX v H (A' 5) H'∧A' 7=.pointer (some ⟨B,0,none⟩)∧A' 21=.slice fa xs.length fc∧A' 22=.int .i64 xs.length∧A' 23=.int .i64 i∧RgO A A') xs.length ?_ ?_
 ·refine⟨0,L7 _,by omega,hw,?_,?_,r7,r21,r22,r23,?_⟩
  ·simp only[r5,List.range_zero,DG,Na];exact hl
  ·rw[r5];exact GX.refl _ _
  ·simp only[RgO,RU]
 ·rintro q A' H' ⟨i,hi,rfl,hw',hl',hg,r7,r21,r22,r23,hA⟩;obtain⟨e1,e15,e16,e17⟩:=id hA;simp only[Qag,Qb,simprocAttr,r22,r23];refine Qi (λh2=>?_) (λh2=>?_)
  ·have h2:i<xs.length:=by have:=Lg h2;omega
   have hxs':=hg.old hxs hl.ls.own;obtain⟨b,e,ro,rfl,hgb0⟩:=hf1 (by omega);have hgb:H'.get b=some (.cells (Xi xs) e ro):=by rw[hxs'.get _ (hws.lt hgb0)];exact hgb0
   obtain⟨x,hxi⟩:∃x,xs[i]? = some x:=⟨_,La h2⟩;have hat:=QlN xs i x hxi;have hll:=Vv xs;have d1:(0:Int)<=i∧(i:Int)<xs.length:=by omega
   have d3:(i:Int).toNat=i:=by omega
   have ei:IntKind.i64.wrap ((i:Int)+1)=((i+1:Nat):Int):=by rw[w64 (by unfold I64;omega)];omega
   have hgB:H'.get B=some (.cells [.int .i64 op,sv] Qc false):=by rw[hg.keep B (hw.lt gB) hB];exact gB
   have e10:x.cells.take 10=x.cells:=rfl;have lB:=hw'.lt hgB;have nB:¬B=H'.next:=by omega
   have hdr:x.cells++List.drop x.cells.length [.int .i64 0,.slice none 0 0,.slice none 0 0,.int .i64 0,.int .i64 0,.int .i64 0,.int .i64 0,.int .i64 0,.bool false,.int .i64 0]=x.cells:=Na _;simp only[Qft,Qb,simprocAttr,r7,r21,r23,d1,d3,hgb,hat,hgB,nB,LN,Lw,hdr,e10];refine⟨by omega,⟨rfl,Lb _,?_⟩,Lb _,?_⟩
   ·exact Qjk (hf2 x (Ln hxi))
   generalize hH1:Qa.set (Qa.push H' _) _ _=H1;have hx1:Ext H' H1:=by rw[<- hH1];exact((Ext.refl H').push _).set (Lb _) _
   have hw1:H1.Wf:=by rw[<- hH1];exact(hw'.push _).set (b0:=.cells [.int .i64 0,.slice none 0 0,.slice none 0 0,.int .i64 0,.int .i64 0,.int .i64 0,.int .i64 0,.int .i64 0,.bool false,.int .i64 0] Qf false) (by rw[Qd,Lc rfl]) _
   clear hH1;have hx01:=hxs'.trans hx1;have hxm:=Ln hxi;refine(Qsm H1 ((hf2 x hxm).ext hws hx01) (hfr x hxm) (hsv.ext hws hx01) (λn hn=>hbl n (by have:=hx01.next;omega)) hml hI).thenW ?_;rintro _ H2 hn2 hw2 ⟨cv,rfl,hc,hx2⟩;have hx12:=hx1.trans hx2;have hfi:(xs.map (·.f))[i]? = some x.f:=by rw[LD,hxi];rfl
   have hfrm:(List.range (i+1)).flatMap (frm (xs.map (·.f)) op m)=(List.range i).flatMap (frm (xs.map (·.f)) op m)++(Qpd x.f op m).map (Qnf i):=by
    rw[R0,Bm];simp only[Ba,DG,Na,frm,hfi]
   have hl2:LsU Qw Hs H2 (A' 5) _ H1.next:=(hl'.go hw' hx12).mono hx1.next;simp only[Qb,simprocAttr];cases hz:decide (0<(Qpd x.f op m).length) with
   | false=>
    have h0:Qpd x.f op m=[]:=N2.1 (by have:=Ll hz;omega);simp only[Qb,simprocAttr,LM,r23,ei];refine⟨xs.length - (i+1),by omega,i+1,by omega,rfl,hw2,?_,?_,?_,?_,?_,?_,?_⟩
    ·simp only[Ql,simprocAttr];rw[hfrm,h0,Bq,Na];exact hl2.mono hx2.next
    ·simp only[Ql,simprocAttr];exact hg.trans (GX.ext hx12)
    ·simp only[Ql,simprocAttr,r7]
    ·simp only[Ql,simprocAttr,r21]
    ·simp only[Ql,simprocAttr,r22]
    ·simp only[Ql,simprocAttr]
    ·simp only[RgO,Ql,simprocAttr,e1,e15,e16,e17,RU]
   | true=>
    simp only[Qb,simprocAttr,L8];have hlow:∀id,inB (A' 5) id->id<H1.next:=λid h=>by
     obtain⟨ss,_,hq,_⟩:=hl'.it;have:=(hq.low hw' h).2;have:=hx1.next;omega
    refine QGC (Hs:=Hs) (v:=A' 5) (k:=(i:Int)) ?_ (hx01.trans hx2) hw2 hl2 hc hx01.next hx2.next hlow ?_ ?_ ?_ ?_
    ·have h1:=Qsl x.f op m;have h2:=Qha (f:=frm (xs.map (·.f)) op m) (n:=24) (List.range i) λk _=>Qxo _ _ _ _;rw[BO]at h2;rw[Lh];omega
    ·simp only[Ql,simprocAttr]
    ·simp only[Ql,simprocAttr]
    ·simp only[Ql,simprocAttr]
    ·rintro A2 H3 v3 rfl ⟨f1,f7,f8,f9,f15,f16,f17,f21,f22,f23⟩ hw3 hl3 hg3;simp only[Ql,simprocAttr]at f1 f7 f15 f16 f17 f21 f22 f23;simp only[Qb,simprocAttr,f23,r23,ei];refine⟨xs.length - (i+1),by omega,i+1,by omega,rfl,hw3,?_,?_,?_,?_,?_,?_,?_⟩
     ·simp only[Ql,simprocAttr];rw[hfrm,<- LQ];exact hl3
     ·simp only[Ql,simprocAttr];exact(hg.trans (GX.ext hx12)).trans hg3
     ·simp only[Ql,simprocAttr,f7,r7]
     ·simp only[Ql,simprocAttr,f21,r21]
     ·simp only[Ql,simprocAttr,f22,r22]
     ·simp only[Ql,simprocAttr]
     ·simp only[RgO,Ql,simprocAttr,f1,f15,f16,f17,e1,e15,e16,e17,RU]
  ·have h2:i=xs.length:=by have:=Ll h2;omega
   subst h2;simp only[Qb,simprocAttr];refine hk _ _ _ rfl ?_ hw' ?_ ?_
   ·simp only[RgO,Ql,simprocAttr,e1,e15,e16,e17,RU]
   ·simp only[Ql,simprocAttr];exact hl'
   ·simp only[Ql,simprocAttr];exact hg
end
theorem Qxp (op:Int):∀ (vs:List Value) (i:Nat) (s:Value),vs[i]? = some s->((Qul op vs).drop (i * 2)).take 2=[.int .i64 op,s]
 | [],_,_,h=>by simp at h
 | v::vs,0,_,h=>by cases h;rfl
 | v::vs,i+1,s,h=>by
  have e:Qul op (v::vs)=[.int .i64 op,v]++Qul op vs:=rfl;rw[e,show(i+1) * 2=2+i * 2 by omega,<- Rc];exact Qxp op vs i s h
theorem Quo (op:Int):∀vs:List Value,(Qul op vs).length=vs.length * 2
 | []=>rfl
 | v::vs=>by
  have e:Qul op (v::vs)=[.int .i64 op,v]++Qul op vs:=rfl;rw[e,Lh,Quo op vs,Lo,Lo,Lo,L9];omega
theorem Qv7 {ib:Int×Bool} {a:Ar} (h:I64 a.n):I64 (Yk ib a).1.n:=by
 have h0:I64 0:=by unfold I64;omega
 have hb:I64 (Wc a).1.n:=by
  unfold Wc Zj;split
  ·split
   ·exact h0
   ·split
    ·exact h0
    ·exact h
  ·exact h0
 unfold Yk;simp only;split
 ·exact h
 ·split
  ·exact Qow _ _ _ hb
  ·exact hb
theorem QmP {ib:Int×Bool}:∀ {l:List Ar},(∀a∈l,I64 a.n)->∀a∈(QX ib l).1,I64 a.n
 | [],_,a,ha=>by cases ha
 | b::l,h,a,ha=>by
  unfold QX at ha;split at ha
  ·rcases LK.1 ha with rfl | ha
   ·exact Qv7 (h b (Ny ..))
   ·exact QmP (λc hc=>h c (NA _ hc)) a ha
  ·cases ha
theorem Qy3 {op:Int} {l:List Ar} (h:∀a∈l,I64 a.n):∀a∈Ka op l,I64 a.n:=by
 have hr:∀a∈l.reverse,I64 a.n:=λa ha=>h a (List.mem_reverse.1 ha);unfold Ka;split
 ·split
  ·intro a ha;refine h a ?_;simp only[LK,Ns,NN]at ha ⊢;rcases ha with h | h | h<;>simp[h]
  ·exact h
 ·split
  ·exact hr
  ·split
   ·exact hr
   ·exact h
theorem Qv8 {op:Int} {l:List Ar} (h:∀a∈l,I64 a.n):∀a∈(Qt op l).2.1,I64 a.n:=by
 unfold Qt;split
 ·intro a ha;cases ha
 ·split
  ·intro a ha;cases ha
  ·exact Qy3 (QmP h)
theorem Qy4 {op:Int} {l:List Ar} (hI:∀a∈l,I64 a.n):(Qdg op l).length<=2∧∀m∈Qdg op l,m.length<=5∧∀a∈m,I64 a.n:=by
 have h1:=QkX op l;have h2:=Qv8 (op:=op) hI;unfold Qdg;split
 ·refine⟨by split<;>simp,λm hm=>?_⟩;rcases LI.1 hm with hm | hm
  ·rw[Sa]at hm;subst hm;exact⟨h1,h2⟩
  ·split at hm
   ·rw[Sa]at hm;subst hm;exact⟨by rw[List.length_reverse];exact h1,λa ha=>h2 a (List.mem_reverse.1 ha)⟩
   ·cases hm
 ·simp
theorem Qsn {op:Int} {va fv:Value} {l:List Ar} {xs:List Lf} (H:Qa) (ha:Q0 H va l) (hl:l.length<=1000) (hI:∀a∈l,I64 a.n) (hf:QkM H fv xs) (hfr:∀x∈xs,x.Fr 0) (hxl:xs.length<=6000):
  Qg prog Qex [.agg #[.int .i64 op,va],fv] H λv H'=>LsU Qw H H' v (Qun (xs.map (·.f)) op l) H'.next∧Ext H H':=by
 refine QpT λhw=>?_;obtain⟨a0,cap,rfl⟩:=Q7 ha;obtain⟨fa,fc,rfl,_⟩:=id hf.1;simp only[Qh7,Qba,simprocAttr];generalize hH1:Qa.push H _=H1;have g1:H1.get H.next=some (.cells [.int .i64 op,.slice a0 l.length cap] Qc false):=by rw[<- hH1,Qd,Lc rfl];rfl
 have hx1:Ext H H1:=by rw[<- hH1];exact(Ext.refl H).push _
 have hw1:H1.Wf:=by rw[<- hH1];exact hw.push _
 clear hH1;simp only[Qb,simprocAttr,g1];refine(QlU H1 (ha.ext hw hx1) hl hI).thenW ?_;rintro sv Hs hn2 hws ⟨hsp,hx12⟩;have hxs:=hx1.trans hx12;obtain⟨hspl,hspm⟩:=Qy4 (op:=op) hI;obtain⟨vs,hvl,hvi,hva⟩:=hsp;obtain⟨sa,sc,rfl,hs1⟩:=hvi;have eall:Qun (xs.map (·.f)) op l=(Qdg op l).flatMap λm=>(List.range xs.length).flatMap (frm (xs.map (·.f)) op m):=by unfold Qun;rw[Nn]
 rw[eall];generalize Qdg op l=sp at *;simp only[Qb,simprocAttr,QU];refine QB (λq A' H'=>∃i:Nat,i<=sp.length∧q=sp.length - i∧H'.Wf∧Ext Hs H'∧LsU Qw Hs H' (A' 5) ((sp.take i).flatMap λm=>(List.range xs.length).flatMap (frm (xs.map (·.f)) op m)) H'.next∧A' 1=.slice fa xs.length fc∧A' 15=.slice sa sp.length sc∧A' 16=.int .i64 sp.length∧A' 17=.int .i64 i) sp.length ?_ ?_
 ·refine⟨0,L7 _,by omega,hws,.refl _,?_,?_,?_,?_,?_⟩
  ·simp only[Ql,simprocAttr];exact LsU.nil _ _ _ _
  all_goals simp only[Ql,simprocAttr]
  all_goals rfl
 ·rintro q A' H' ⟨i,hi,rfl,hw',hx',hl',r1,r15,r16,r17⟩;simp only[Qfv,Qb,simprocAttr,r16,r17];refine Qi (λh2=>?_) (λh2=>?_)
  ·have h2:i<sp.length:=by have:=Lg h2;omega
   obtain⟨b,e,ro,rfl,hgb0⟩:=hs1 (by omega);have hgb:H'.get b=some (.cells (Qul op vs) e ro):=by rw[hx'.get _ (hws.lt hgb0)];exact hgb0
   obtain⟨s,hsi⟩:∃s,vs[i]? = some s:=⟨_,La (by omega)⟩;obtain⟨m,hmi⟩:∃m,sp[i]? = some m:=⟨_,La h2⟩;have hat:=Qxp op vs i s hsi;have hll:=Quo op vs;have d1:(0:Int)<=i∧(i:Int)<sp.length:=by omega
   have d3:(i:Int).toNat=i:=by omega
   have ei:IntKind.i64.wrap ((i:Int)+1)=((i+1:Nat):Int):=by rw[w64 (by unfold I64;omega)];omega
   obtain⟨hsa,hbl⟩:=hva i s m hsi hmi;obtain⟨hm5,hmI⟩:=hspm m (Ln hmi);obtain⟨sa,sc,rfl⟩:=Q7 hsa;simp only[Qfu,Qb,simprocAttr,r1,r15,r17,d1,d3,hgb,hat,QU];refine⟨by omega,?_⟩;generalize hH2:Qa.set (Qa.push H' _) _ _=H2;have hx2:Ext H' H2:=by rw[<- hH2];exact((Ext.refl H').push _).set (Lb _) _
   have hw2:H2.Wf:=by rw[<- hH2];exact(hw'.push _).set (b0:=.cells [.int .i64 0,.slice none 0 0] Qc false) (by rw[Qd,Lc rfl]) _
   have g2:H2.get H'.next=some (.cells [.int .i64 op,.slice sa m.length sc] Qc false):=by rw[<- hH2,Qn,Lc rfl]
   clear hH2;have hno:¬inB (A' 5) H'.next:=λh=>by
    obtain⟨ss,_,hq,_⟩:=hl'.it;have:=(hq.low hw' h).2;omega
   have hacc:((sp.take i).flatMap λm=>(List.range xs.length).flatMap (frm (xs.map (·.f)) op m)).length<=500000:=by
    have h1:=Qha (f:=λm=>(List.range xs.length).flatMap (frm (xs.map (·.f)) op m)) (n:=144000) (sp.take i) λm _=>by
     have h2:=Qha (f:=frm (xs.map (·.f)) op m) (n:=24) (List.range xs.length) λk _=>Qxo _ _ _ _;rw[BO]at h2;omega
    rw[Sb]at h1;omega
   refine QGD (Hs:=Hs) (v:=A' 5) (xs:=xs) (m:=m) (B:=H'.next) hacc hxl (by omega) hmI hws (hx'.trans hx2) hw2 ((hl'.go hw' hx2).mono hx2.next) (hf.ext hw hxs) hfr hsa hbl g2 hno ?_ ?_ ?_ ?_ ?_ ?_
   ·simp only[Ql,simprocAttr]
   ·simp only[Ql,simprocAttr]
   ·simp only[Ql,simprocAttr]
   ·simp only[Ql,simprocAttr]
   ·simp only[Ql,simprocAttr]
   ·rintro A2 H3 v3 rfl ⟨f1,f15,f16,f17⟩ hw3 hl3 hg3;simp only[Ql,simprocAttr]at f1 f15 f16 f17;have hx3:=hg3.old (hx'.trans hx2) hl'.ls.own;have htk:(sp.take (i+1)).flatMap (λm=>(List.range xs.length).flatMap (frm (xs.map (·.f)) op m))=(sp.take i).flatMap (λm=>(List.range xs.length).flatMap (frm (xs.map (·.f)) op m))++(List.range xs.length).flatMap (frm (xs.map (·.f)) op m):=by
     rw[Nv,hmi,Bm];simp
    simp only[Qb,simprocAttr,f17,r17,ei];refine⟨sp.length - (i+1),by omega,i+1,by omega,rfl,hw3,hx3,?_,?_,?_,?_,?_⟩
    ·simp only[Ql,simprocAttr];rw[htk];exact hl3
    ·simp only[Ql,simprocAttr,f1,r1]
    ·simp only[Ql,simprocAttr,f15,r15]
    ·simp only[Ql,simprocAttr,f16,r16]
    ·simp only[Ql,simprocAttr]
  ·have h2:i=sp.length:=by have:=Ll h2;omega
   subst h2;rw[Nr]at hl';simp only[Qb,simprocAttr,QoH];have hxf:=hxs.trans hx';exact .mk hxf.next ⟨hl'.down hxs.next,hxf⟩
def Qqi (L:List Fm) (op:Int) (l:List Ar):List Ld×Int:=
 if(Wa op l==0)=false then([],Wa op l) else if(Qun L op l).isEmpty=true then([],8) else(Qun L op l,0)
section
variable {T:Qa->Prop} {L:Int->List Fm} (hT:∀H H',H.Wf->T H->Ext H H'->T H') (hO:∀op H,T H->Qg prog JJ [.int .i64 op] H λu H'=>QyX H H' u (L op))
include hT hO
theorem QkY {op:Int} {va:Value} {l:List Ar} (H:Qa) (hTH:T H) (ha:Q0 H va l) (hva:∀n,H.next<=n->Qm n 6 (.agg #[.int .i64 op,va])=true) (hl:l.length<=1000) (hI:∀a∈l,I64 a.n):
  Qg prog QaK [.agg #[.int .i64 op,va]] H λu H'=>∃v,u=.tuple #[v,.int .i64 (Qqi (L op) op l).2]∧LsU Qw H H' v (Qqi (L op) op l).1 H'.next∧Ext H H':=by
 refine QpS λhw=>?_;obtain⟨a0,cap,rfl⟩:=Q7 ha;obtain⟨W,eW⟩:∃W,W=Qqi (L op) op l:=⟨_,rfl⟩;rw[<- eW];unfold Qqi at eW;simp only[Qh6,Qba,simprocAttr];generalize hH1:Qa.push H _=H1;have g1:H1.get H.next=some (.cells [.int .i64 op,.slice a0 l.length cap] Qc false):=by rw[<- hH1,Qd,Lc rfl];rfl
 have hx1:Ext H H1:=by rw[<- hH1];exact(Ext.refl H).push _
 have hw1:H1.Wf:=by rw[<- hH1];exact hw.push _
 clear hH1;simp only[Qb,simprocAttr,g1];refine(KI op _ l H1 (ha.ext hw hx1) hl hI).thenW ?_;rintro _ _ hn2 hw2 ⟨rfl,kk,rfl⟩;have hx12:Ext H1 (H1.up kk):=(Ext.refl H1).up hn2;generalize H1.up kk=H2 at *;have hx2:=hx1.trans hx12;have g2:H2.get H.next=some (.cells [.int .i64 op,.slice a0 l.length cap] Qc false):=by rw[hx12.get _ (hw1.lt g1)];exact g1
 simp only[Qb,simprocAttr];cases he:Wa op l==0 with
 | false=>
  rw[he,Lc rfl]at eW;simp only[Qb,simprocAttr,LM,Qbu];exact .mk hx2.next ⟨_,by rw[eW],by rw[eW];exact LsU.nil _ _ _ _,hx2⟩
 | true=>
  rw[he,Le (by simp)]at eW;simp only[Qb,simprocAttr,L8,g2];refine⟨hva _ hx2.next,?_⟩;refine(hO op H2 (hT _ _ hw hTH hx2)).thenW ?_;rintro fv H3 hn3 hw3 ⟨hx23,ys,ey,hya,hyl,hyf⟩;have hx3:=hx2.trans hx23;simp only[Qb,simprocAttr];refine⟨hx23.eqB,?_⟩;refine(Qsn H3 (ha.ext hw hx3) hl hI hya.fms (λx hx=>(hyf x hx).mono (L7 _)) hyl).thenW ?_;rintro v H4 hn4 hw4 ⟨hv,hx34⟩;rw[ey]at hv;have hx4:=hx3.trans hx34;have hv:=hv.down hx3.next;generalize Qun (L op) op l=Q at *;obtain⟨a4,c4,rfl⟩:=hv.ls.slc;simp only[Qb,simprocAttr,QU];refine Qi (λh=>?_) (λh=>?_)
  ·have h0:Q=[]:=N2.1 (by simpa using h);rw[h0,Lc (show([]:List Ld).isEmpty=true from rfl)]at eW;simp only[Qb,simprocAttr,Qbu];exact .mk hx4.next ⟨_,by rw[eW],by rw[eW];exact LsU.nil _ _ _ _,hx4⟩
  ·have h0:Q≠[]:=λh0=>by rw[h0]at h;simp at h
   rw[Le (by simpa using h0)]at eW;simp only[Qb,simprocAttr,Qbu];exact .mk hx4.next ⟨_,by rw[eW],by rw[eW];exact hv,hx4⟩
end
def QAS (H0 H:Qa) (v:Value):Option (List Int)->Prop
 | none=>v=.slice none 0 0
 | some b=>b≠[]∧Gx 1 5 H0 H v b.length (bys b)
theorem QAS.go {H0 H H':Qa} {v:Value} {o:Option (List Int)} (h:QAS H0 H v o) (hw:H.Wf) (hx:Ext H H'):QAS H0 H' v o:=by
 cases o with
 | none=>exact h
 | some b=>exact⟨h.1,h.2.go hw hx⟩
section
variable {T:Qa->Prop} {L:Int->List Fm} (hT:∀H H',H.Wf->T H->Ext H H'->T H') (hO:∀op H,T H->Qg prog JJ [.int .i64 op] H λu H'=>QyX H H' u (L op))
include hT hO
end
theorem Qjq {P:Program} {f:Nat} {t:TypeId} {fs:Array Field} {xs ys:Array Value} (h:P.underlying t=some (.struct fs)) (hs:P.stoodInHeld t=false):aeq P (f+1) t (.agg xs) (.agg ys)=WO P (aeq P f) fs.toList xs ys:=by
 unfold aeq;rw[h];simp[hs]
theorem Qe5 {P:Program} {f:Nat} {t:TypeId} {k:IntKind} {a b:Int} (h:P.underlying t=some (.int k)):aeq P (f+1) t (.int k a) (.int k b)=some (a==b):=by
 unfold aeq;rw[h];simp
theorem YG {P:Program} {eq:TypeId->Value->Value->Option Bool} {fd:Field} {fs:List Field} {xs ys:Array Value} {a b:Value} {r s:Bool} (hn:(fd.name == "_")=false) (ha:apart P fd.type xs fd.offset=some a) (hb:apart P fd.type ys fd.offset=some b) (he:eq fd.type a b=some r) (hr:WO P eq fs xs ys=some s):
  WO P eq (fd::fs) xs ys=some (r&&s):=by
 have hn':¬fd.name = "_" := by simpa using hn
 show(if fd.name = "_" then WO P eq fs xs ys else match apart P fd.type xs fd.offset,apart P fd.type ys fd.offset with
  | some a,some b=>match eq fd.type a b with
   | some true=>WO P eq fs xs ys
   | r=>r
  | _,_=>none)=_
 rw[Le hn',ha,hb];simp only[he];cases r
 ·rfl
 ·rw[hr];rfl
theorem Qpe {P:Program} {eq:TypeId->Value->Value->Option Bool} {xs ys:Array Value}:WO P eq [] xs ys=some true:=rfl
theorem Qpf:prog.underlying 3=some (.int .i64):=by kernel_rfl
theorem QEG:prog.underlying QL=some (.struct #[⟨ "Class",3,0,false, "", "",0⟩,⟨ "N",3,1,false, "", "",8⟩]):=by kernel_rfl
theorem QEH:prog.underlying Qx=some (.struct #[⟨ "Base",QL,0,false, "", "",0⟩,⟨ "Index",QL,2,false, "", "",16⟩,⟨ "Scale",3,4,false, "", "",32⟩,⟨ "Disp",3,5,false, "", "",40⟩,⟨ "Size",3,6,false, "", "",48⟩]):=by kernel_rfl
theorem QEI:prog.underlying Qh=some (.struct #[⟨ "Kind",3,0,false, "", "",0⟩,⟨ "R",QL,1,false, "", "",8⟩,⟨ "M",Qx,3,false, "", "",24⟩,⟨ "N",3,10,false, "", "",80⟩]):=by kernel_rfl
theorem Qsp (f:Nat) (a b c d:Int):aeq prog (f+2) QL (.agg #[.int .i64 a,.int .i64 b]) (.agg #[.int .i64 c,.int .i64 d])=some ((a==c)&&((b==d)&&true)):=by
 rw[Qjq QEG (by kernel_rfl)];exact YG (by rfl) (a:=.int .i64 a) (b:=.int .i64 c) (by kernel_rfl) (by kernel_rfl) (Qe5 Qpf) (YG (by rfl) (a:=.int .i64 b) (b:=.int .i64 d) (by kernel_rfl) (by kernel_rfl) (Qe5 Qpf) Qpe)
theorem QCO (f:Nat) (a1 a2 a3 a4 a5 a6 a7 b1 b2 b3 b4 b5 b6 b7:Int):aeq prog (f+3) Qx (.agg #[.int .i64 a1,.int .i64 a2,.int .i64 a3,.int .i64 a4,.int .i64 a5,.int .i64 a6,.int .i64 a7]) (.agg #[.int .i64 b1,.int .i64 b2,.int .i64 b3,.int .i64 b4,.int .i64 b5,.int .i64 b6,.int .i64 b7]) =
  some (((a1==b1)&&((a2==b2)&&true))&&(((a3==b3)&&((a4==b4)&&true))&&((a5==b5)&&((a6==b6)&&((a7==b7)&&true))))):=by
 rw[Qjq QEH (by kernel_rfl)];exact YG (by rfl) (a:=.agg #[.int .i64 a1,.int .i64 a2]) (b:=.agg #[.int .i64 b1,.int .i64 b2]) (by kernel_rfl) (by kernel_rfl) (Qsp f _ _ _ _)
  (YG (by rfl) (a:=.agg #[.int .i64 a3,.int .i64 a4]) (b:=.agg #[.int .i64 b3,.int .i64 b4]) (by kernel_rfl) (by kernel_rfl) (Qsp f _ _ _ _)
  (YG (by rfl) (a:=.int .i64 a5) (b:=.int .i64 b5) (by kernel_rfl) (by kernel_rfl) (Qe5 Qpf)
  (YG (by rfl) (a:=.int .i64 a6) (b:=.int .i64 b6) (by kernel_rfl) (by kernel_rfl) (Qe5 Qpf)
  (YG (by rfl) (a:=.int .i64 a7) (b:=.int .i64 b7) (by kernel_rfl) (by kernel_rfl) (Qe5 Qpf) Qpe))))
theorem QCP (f:Nat) (a b:Ar):aeq prog (f+4) Qh (.agg a.cells.toArray) (.agg b.cells.toArray)=some (decide (a=b)):=by
 obtain⟨k,⟨rc,rn⟩,⟨⟨bc,bn⟩,⟨ic,iN⟩,sc,dd,sz⟩,n⟩:=a;obtain⟨k',⟨rc',rn'⟩,⟨⟨bc',bn'⟩,⟨ic',iN'⟩,sc',dd',sz'⟩,n'⟩:=b;have e:=Qjq (f:=f+3) (xs:=#[.int .i64 k,.int .i64 rc,.int .i64 rn,.int .i64 bc,.int .i64 bn,.int .i64 ic,.int .i64 iN,.int .i64 sc,.int .i64 dd,.int .i64 sz,.int .i64 n]) (ys:=#[.int .i64 k',.int .i64 rc',.int .i64 rn',.int .i64 bc',.int .i64 bn',.int .i64 ic',.int .i64 iN',.int .i64 sc',.int .i64 dd',.int .i64 sz',.int .i64 n']) QEI (by kernel_rfl)
 have e2:=YG (P:=prog) (eq:=aeq prog (f+3)) (fd:=⟨ "Kind",3,0,false, "", "",0⟩) (by rfl) (a:=.int .i64 k) (b:=.int .i64 k') (xs:=#[.int .i64 k,.int .i64 rc,.int .i64 rn,.int .i64 bc,.int .i64 bn,.int .i64 ic,.int .i64 iN,.int .i64 sc,.int .i64 dd,.int .i64 sz,.int .i64 n]) (ys:=#[.int .i64 k',.int .i64 rc',.int .i64 rn',.int .i64 bc',.int .i64 bn',.int .i64 ic',.int .i64 iN',.int .i64 sc',.int .i64 dd',.int .i64 sz',.int .i64 n']) (by kernel_rfl) (by kernel_rfl) (Qe5 Qpf)
  (YG (fd:=⟨ "R",QL,1,false, "", "",8⟩) (by rfl) (a:=.agg #[.int .i64 rc,.int .i64 rn]) (b:=.agg #[.int .i64 rc',.int .i64 rn']) (by kernel_rfl) (by kernel_rfl) (Qsp (f+1) _ _ _ _)
  (YG (fd:=⟨ "M",Qx,3,false, "", "",24⟩) (by rfl) (a:=.agg #[.int .i64 bc,.int .i64 bn,.int .i64 ic,.int .i64 iN,.int .i64 sc,.int .i64 dd,.int .i64 sz]) (b:=.agg #[.int .i64 bc',.int .i64 bn',.int .i64 ic',.int .i64 iN',.int .i64 sc',.int .i64 dd',.int .i64 sz']) (by kernel_rfl) (by kernel_rfl) (QCO f _ _ _ _ _ _ _ _ _ _ _ _ _ _)
  (YG (fd:=⟨ "N",3,10,false, "", "",80⟩) (by rfl) (a:=.int .i64 n) (b:=.int .i64 n') (by kernel_rfl) (by kernel_rfl) (Qe5 Qpf) Qpe)))
 refine(e.trans e2).trans ?_;congr 1;rw[Ni];simp[and_assoc]
theorem QEJ {A:Env} {H:Qa} {k:Value->Qa->Prop} {x y:Operand} {t':TypeId} (a b:Ar) (hc:(QfS x||QfS y)=false) (hx:ev A x=.agg a.cells.toArray) (hy:ev A y=.agg b.cells.toArray):
  pr prog (.gen (.binOp .neq Qh x y t')) false A H k=k (.bool (!decide (a=b))) H:=by
 have hg:Yr prog false Qh (.agg a.cells.toArray) (.agg b.cells.toArray)=true:=by
  have h:prog.eqGuardType prog.depth Qh=false:=by kernel_rfl
  simp[Yr,Qhy,Qpu,h]
 have e:rop prog (.gen (.binOp .neq Qh x y t')) A H=some (.bool (!decide (a=b)),H):=by
  simp only[rop,aop,QaF,Qpw,hx,hy,hc,Qjz,Kj,hg,Bj,N3,QCP 16];rfl
 refine(Wt _).trans ?_;rw[e,QH]
theorem Qsq (va vb:Value) (xs ys:List Ar) (H:Qa) (ha:Q0 H va xs) (hb:Q0 H vb ys) (hlx:xs.length<=1000000) (hly:ys.length<=1000000):Qg prog W0 [va,vb] H λu H'=>u=.bool (decide (xs=ys))∧H'=H:=by
 refine Gm λhw=>?_;obtain⟨aa,acap,rfl,hsa⟩:=ha;obtain⟨ba,bcap,rfl,hsb⟩:=hb;simp only[Yo,Qb,simprocAttr,QU]
 by_cases hne:xs.length=ys.length
 ·have e0:((xs.length:Int)==(ys.length:Int))=true:=by simp[hne]
  simp only[e0,XI,L8,Qb,simprocAttr,QU];refine QB (λm A' H'=>∃i:Nat,i<=xs.length∧m=xs.length - i∧H'=H∧(∀j,j<i->xs[j]? = ys[j]?)∧A' 0=.slice aa xs.length acap∧A' 1=.slice ba ys.length bcap∧A' 12=.int .i64 xs.length∧A' 13=.int .i64 i) xs.length ?_ ?_
  ·refine⟨0,L7 _,by omega,rfl,λj h=>by omega,?_,?_,?_,?_⟩
   all_goals simp only[Ql,simprocAttr]
   all_goals rfl
  ·rintro m A' H' ⟨i,hi,rfl,hEq,hall,r0,r1,r12,r13⟩;subst hEq;simp only[XH,Qb,simprocAttr,r12,r13];refine Qi (λh2=>?_) (λh2=>?_)
   ·have h2:i<xs.length:=by have:=Lg h2;omega
    obtain⟨b1,e1,ro1,rfl,hb1⟩:=hsa (by omega);obtain⟨b2,e2,ro2,rfl,hb2⟩:=hsb (by omega);have c1:(0:Int)<=i∧(i:Int)<xs.length:=by omega
    have c2:(0:Int)<=i∧(i:Int)<ys.length:=by omega
    have c3:(i:Int).toNat=i:=by omega
    have c4:i * 11+11<=xs.length * 11:=by omega
    have c5:i * 11+11<=ys.length * 11:=by omega
    have ei:IntKind.i64.wrap ((i:Int)+1)=((i+1:Nat):Int):=by rw[w64 (by unfold I64;omega)];omega
    have h2':i<ys.length:=by omega
    have p1:=La h2;have p2:=La h2';have d1:=Xd xs i _ p1;have d2:=Xd ys i _ p2;have n1:=QW xs;have n2:=QW ys;generalize xs[i]=x at *;generalize ys[i]=y at *;simp only[XG,Qb,simprocAttr,r0,r1,r13,c1,c2,c3,hb1,hb2,d1,d2];refine⟨by omega,by omega,?_⟩;rw[QEJ x y rfl (by simp only[Ql,simprocAttr]) (by simp only[Ql,simprocAttr])]
    by_cases h3:x=y
    ·have e3:decide (x=y)=true:=Lp h3;simp only[Qb,simprocAttr,e3,L8,r13,ei];refine⟨xs.length - (i+1),by omega,i+1,by omega,rfl,rfl,λj hj=>?_,?_,?_,?_,?_⟩
     ·rcases Nq j i with h | h
      ·exact hall j h
      ·rw[show j=i by omega,p1,p2,h3]
     all_goals simp only[Ql,simprocAttr,r0,r1,r12]
    ·have e3:decide (x=y)=false:=Lj h3;simp only[Qb,simprocAttr,e3,LM,WN];have h4:xs≠ys:=λh=>by
      rw[h,p2]at p1;exact h3 (Ly p1).symm
     exact .mk (Lb _) ⟨by rw[Lj h4],rfl⟩
   ·have h2:i=xs.length:=by have:=Ll h2;omega
    subst h2;simp only[Qb,simprocAttr,WN];have heq:xs=ys:=by
     refine BA λi=>?_
     by_cases h1:i<xs.length
     ·exact hall i h1
     ·rw[N7 (by omega),N7 (by omega)]
    exact .mk (Lb _) ⟨by rw[Lp heq],rfl⟩
 ·have e0:((xs.length:Int)==(ys.length:Int))=false:=by simp;omega
  simp only[e0,LM,Qb,simprocAttr,WN];exact .mk (Lb _) ⟨by rw[Lj (λh=>hne (by rw[h]))],rfl⟩
def Qpg (o p:Int) (xs ys:List Ar):Bool:=((Qt o xs).2.2==0)&&((Qt p ys).2.2==0)&&((Qt o xs).1==(Qt p ys).1)&&decide ((Qt o xs).2.1=(Qt p ys).2.1)
theorem Qup {o p:Int} {va vb:Value} {xs ys:List Ar} (H:Qa) (ha:Q0 H va xs) (hb:Q0 H vb ys) (hlx:xs.length<=1000) (hly:ys.length<=1000) (hIx:∀a∈xs,I64 a.n) (hIy:∀a∈ys,I64 a.n):
  Qg prog Qgj [.agg #[.int .i64 o,va],.agg #[.int .i64 p,vb]] H λu H'=>u=.bool (Qpg o p xs ys)∧Ext H H':=by
 refine Qso λhw=>?_;obtain⟨a0,ca,rfl⟩:=Q7 ha;obtain⟨b0,cb,rfl⟩:=Q7 hb;simp only[QkZ,Qba,simprocAttr];generalize hH1:Qa.push H _=H1;have g1:H1.get H.next=some (.cells [.int .i64 o,.slice a0 xs.length ca] Qc false):=by rw[<- hH1,Qd,Lc rfl];rfl
 have hx1:Ext H H1:=by rw[<- hH1];exact(Ext.refl H).push _
 have hw1:H1.Wf:=by rw[<- hH1];exact hw.push _
 have hn1:H1.next=H.next+1:=by rw[<- hH1];rfl
 clear hH1;simp only[Qb,simprocAttr,hn1];generalize hH2:Qa.push H1 _=H2;have hx2:Ext H H2:=by rw[<- hH2];exact(hx1.push _)
 have hw2:H2.Wf:=by rw[<- hH2];exact(hw1.push _)
 have g22:H2.get H.next=some (.cells [.int .i64 o,.slice a0 xs.length ca] Qc false):=by rw[<- hH2,Qd,Le (by omega)];exact g1
 have g23:H2.get (H.next+1)=some (.cells [.int .i64 p,.slice b0 ys.length cb] Qc false):=by rw[<- hH2,Qd,Lc (by omega)]
 clear hH2;simp only[Qb,simprocAttr,g1,g22];refine(QaR o xs H2 _ (ha.ext hw hx2) hlx hIx).thenW ?_;rintro _ H3 hn3 hw3 ⟨hx23,v3,rfl,hv3,hf3⟩;obtain⟨a3,c3,rfl⟩:=Q7 hv3;have hx3:=hx2.trans hx23;have g33:H3.get (H.next+1)=some (.cells [.int .i64 p,.slice b0 ys.length cb] Qc false):=by rw[hx23.get _ (hw2.lt g23)];exact g23
 have l33:=hw3.lt g33;have nz:¬H.next+1=H3.next:=by omega
 simp only[Qb,simprocAttr,nz,LN,g33];generalize hH4:(H3.push _).set H3.next _=H4;have hx34:Ext H3 H4:=by rw[<- hH4];exact((Ext.refl H3).push _).set (Lb _) _
 have hw4:H4.Wf:=by rw[<- hH4];exact(hw3.push _).set (b0:=.cells [.int .i64 0,.slice none 0 0] Qc false) (by rw[Qd,Lc rfl]) _
 have g4:H4.get H3.next=some (.cells [.int .i64 (Qt o xs).1,.slice a3 (Qt o xs).2.1.length c3] Qc false):=by rw[<- hH4,Qn,Lc rfl]
 clear hH4;have hx4:=hx3.trans hx34;refine(QaR p ys H4 _ (hb.ext hw hx4) hly hIy).thenW ?_;rintro _ H5 hn5 hw5 ⟨hx45,v5,rfl,hv5,hf5⟩;obtain⟨a5,c5,rfl⟩:=Q7 hv5;have g5:H5.get H3.next=some (.cells [.int .i64 (Qt o xs).1,.slice a3 (Qt o xs).2.1.length c3] Qc false):=by rw[hx45.get _ (hw4.lt g4)];exact g4
 have l5:=hw5.lt g5;have nz5:¬H3.next=H5.next:=by omega
 have hv35:=(hv3.ext hw3 hx34).ext hw4 hx45;simp only[Qb,simprocAttr];generalize hH6:(H5.push _).set H5.next _=H6;have hx56:Ext H5 H6:=by rw[<- hH6];exact((Ext.refl H5).push _).set (Lb _) _
 have hw6:H6.Wf:=by rw[<- hH6];exact(hw5.push _).set (b0:=.cells [.int .i64 0,.slice none 0 0] Qc false) (by rw[Qd,Lc rfl]) _
 have g6:H6.get H5.next=some (.cells [.int .i64 (Qt p ys).1,.slice a5 (Qt p ys).2.1.length c5] Qc false):=by rw[<- hH6,Qn,Lc rfl]
 clear hH6;have g63:H6.get H3.next=some (.cells [.int .i64 (Qt o xs).1,.slice a3 (Qt o xs).2.1.length c3] Qc false):=by rw[hx56.get _ l5];exact g5
 have hx6:=(hx4.trans hx45).trans hx56;have hl3:=QkX o xs;have hl5:=QkX p ys;have hs:Qpg o p xs ys=(((Qt o xs).2.2==0)&&((Qt p ys).2.2==0)&&((Qt o xs).1==(Qt p ys).1)&&decide ((Qt o xs).2.1=(Qt p ys).2.1)):=rfl;have hv36:=hv35.ext hw5 hx56;have hv56:=hv5.ext hw5 hx56;generalize Qt o xs=co at *;generalize Qt p ys=cp at *;cases e1:co.2.2==0 with
 | false=>
  rw[e1]at hs;simp only[Qb,simprocAttr,e1,Vw];exact .mk hx6.next ⟨by rw[hs];rfl,hx6⟩
 | true=>
  cases e2:cp.2.2==0 with
  | false=>
   rw[e1,e2]at hs;simp only[Qb,simprocAttr,e1,e2,Vw];exact .mk hx6.next ⟨by rw[hs];rfl,hx6⟩
  | true=>
   cases e3:co.1==cp.1 with
   | false=>
    rw[e1,e2,e3]at hs;simp only[Qb,simprocAttr,e1,e2,e3,g6,g63,Vw];exact .mk hx6.next ⟨by rw[hs];rfl,hx6⟩
   | true=>
    rw[e1,e2,e3]at hs;simp only[Qb,simprocAttr,e1,e2,e3,g6,g63];refine(Qsq _ _ co.2.1 cp.2.1 H6 hv36 hv56 (by omega) (by omega)).thenW ?_;rintro _ H6 _ _ ⟨rfl,rfl⟩;simp only[Qb,simprocAttr,Vw];exact .mk hx6.next ⟨by rw[hs];simp,hx6⟩
end Go.Proofs.YtiepokkmhhginaaGreatDoor.code
