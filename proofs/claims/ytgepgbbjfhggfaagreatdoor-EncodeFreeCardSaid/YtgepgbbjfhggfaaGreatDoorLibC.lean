/- How many bytes stand behind ModRM. -/
import Derived.Test.YtgepgbbjfhggfaaGreatDoorC5Dec
import Derived.Test.YtgepgbbjfhggfaaGreatDoorLibA
import Derived.Test.YtgepgbbjfhggfaaGreatDoorLibB
import Derived.Test.YtgepgbbjfhggfaaGreatDoorLibN
import Derived.Test.YtgepgbbjfhggfaaGreatDoorLibI
import Derived.Test.YtgepgbbjfhggfaaGreatDoorC6Law
set_option linter.unusedVariables false
set_option linter.unusedSimpArgs false
set_option maxRecDepth 100000
set_option maxHeartbeats 4000000
noncomputable section
namespace Go.Proofs.YtgepgbbjfhggfaaGreatDoor.code
open Go.Ab
def tl0 (s:Int):Int:=if(s==20||s==21||s==26)=true then 1 else if(s==22)=true then 2 else if(s==23||s==24||s==27)=true then 4 else if(s==25)=true then 8 else 0
def tl1 (f:Fm):Int:=if(decide (0<=QE f.slots 5)&&decide (QE f.slots 5<f.shapes.length))=true then tl0 (f.shapes.getD (QE f.slots 5).toNat 0) else 0
def tlF (f:Fm):Int:=bif decide (0<=QE f.slots 7) then tl1 f+1 else tl1 f
theorem QB6 (s:Int):0<=tl0 s∧tl0 s<=8:=by
 unfold tl0
 repeat' split
 all_goals decide
theorem Qys (f:Fm):0<=tl1 f∧tl1 f<=8:=by
 unfold tl1;split
 ·exact QB6 _
 ·decide
theorem QqR (x:Lf) (H:Qa) (hx:x.At H):Qf prog Qd4 [.agg x.cells.toArray] H λu H'=>u=.int .i64 (tlF x.f)∧∃m,H'=H.up m:=by
 refine QoR λhw=>?_;have ex:(Value.agg x.cells.toArray).cells.toList=x.cells:=rfl;have hx0:Ext H (H.push (.cells x.cells Qe false)):=(Ext.refl H).push _;have hg0:(H.push (.cells x.cells Qe false)).get H.next=some (.cells x.cells Qe false):=by rw[Qa.get_push,if_pos rfl]
 have hw0:=hw.push (.cells x.cells Qe false);obtain⟨l1,l2,h1,h2⟩:=hx.ext hw hx0;obtain⟨a1,c1,e1,s1⟩:=h1;have x1:x.cells[1]? = some (.slice a1 x.f.shapes.length c1):=by rw[<- e1];rfl
 have qs:=Q6 x 5 _ (hx.ext hw hx0);have q7:=λm (hm:(H.push (.cells x.cells Qe false)).next<=m)=>Q6 x 7 _ (hx.ext hw (hx0.up hm));have hs:tlF x.f=bif decide (0<=QE x.f.slots 7) then tl1 x.f+1 else tl1 x.f:=rfl
 have hs1:tl1 x.f=if(decide (0<=QE x.f.slots 5)&&decide (QE x.f.slots 5<x.f.shapes.length))=true then tl0 (x.f.shapes.getD (QE x.f.slots 5).toNat 0) else 0:=rfl
 have hle:=Qys x.f;generalize tl1 x.f=n at *;generalize tlF x.f=r at *;generalize QE x.f.slots 7=i7 at *;simp only[Qho,ex,Qc,simprocAttr,QQ,Wy,x1];generalize H.push (.cells x.cells Qe false)=H1 at *;have last:∀ (A:Env) m,H1.next<=m->A 1=.pointer (some ⟨H.next,0,none⟩)->A 3=.int .i64 n->Qt prog VY ⟨Rt prog QjK H (λu H'=>u=.int .i64 r∧∃m,H'=H.up m),Z5⟩ (Rt prog QjK H (λu H'=>u=.int .i64 r∧∃m,H'=H.up m)) A (H1.up m):=by
  intro A m hm a1' a3;simp only[VY,Qc,simprocAttr,a1',a3,hg0,QQ,Wy];refine(q7 m hm).thenW ?_;rintro _ _ hn1 hw1 ⟨rfl,m2,rfl⟩;have hx2:=(hx0.up hm).up hn1;have en:IntKind.i64.wrap (n+1)=n+1:=w64 (by unfold I64;omega);cases z:decide (0<=i7) with
  | true=>
   rw[z]at hs;simp only[Qc,simprocAttr,z,a3,en,QfU];exact .ext hw hx2 ⟨by rw[hs];rfl,_,rfl⟩
  | false=>
   rw[z]at hs;simp only[Qc,simprocAttr,z,a3,QfU];exact .ext hw hx2 ⟨by rw[hs];rfl,_,rfl⟩
 refine qs.thenW ?_;rintro _ _ hn1 hw1 ⟨rfl,m1,rfl⟩;simp only[Qa.next_up]at hn1;generalize QE x.f.slots 5=i at *;simp only[Qc,simprocAttr,hg0,x1];refine QG (λh=>?_) (λh=>?_)<;>simp only[Qc,simprocAttr,hg0,x1,h]
 ·have h0:0<=i:=of_decide_eq_true h;refine Qh (λh'=>?_) (λh'=>?_)<;>simp only[Qc,simprocAttr,hg0,x1]
  ·have h1:i<x.f.shapes.length:=of_decide_eq_true h';obtain⟨b1,e1',ro1,rfl,hb1⟩:=s1 (by omega);have g1:=QaP (l:=x.f.shapes) (i:=i.toNat) (by omega);rw[if_pos (by rw[h,h'];rfl)]at hs1;generalize x.f.shapes.getD i.toNat 0=s at *;have hs2:n=if(s==20||s==21||s==26)=true then 1 else if(s==22)=true then 2 else if(s==23||s==24||s==27)=true then 4 else if(s==25)=true then 8 else 0:=hs1
   clear hs1;simp only[QeU,QeT,QeS,QeR,QeQ,h0,h1,Qc,simprocAttr,hg0,x1,hb1,g1];cases z1:s==20<;>cases z2:s==21<;>cases z3:s==26<;>cases z4:s==22<;>cases z5:s==23<;>cases z6:s==24<;>cases z7:s==27<;>cases z8:s==25<;>simp only[Qc,simprocAttr,z1,z2,z3,z4,z5,z6,z7,z8]
   all_goals (rw[z1,z2,z3,z4,z5,z6,z7,z8]at hs2;refine last _ m1 hn1 ?_ ?_<;>simp only[Qq,simprocAttr,hs2])
   all_goals rfl
  ·rw[if_neg (by rw[h,h'];decide)]at hs1;refine last _ m1 hn1 ?_ ?_<;>simp only[Qq,simprocAttr,hs1]
 ·rw[if_neg (by rw[h];simp)]at hs1;refine last _ m1 hn1 ?_ ?_<;>simp only[Qq,simprocAttr,hs1]
structure Gv where
 a:Ar
 bits:Int
 n:Int
def Gv.cells (g:Gv):List Value:=[.int .i64 g.a.k,.int .i64 g.a.r.c,.int .i64 g.a.r.n,.int .i64 g.a.m.b.c,.int .i64 g.a.m.b.n,.int .i64 g.a.m.i.c,.int .i64 g.a.m.i.n,.int .i64 g.a.m.sc,.int .i64 g.a.m.d,.int .i64 g.a.m.sz,.int .i64 g.a.n,.int .i64 g.bits,.int .i64 g.n]
def WH (g:Gv) (c:Int):Bool:=(g.a.k==1)&&(g.a.r.c==c)
def Yc (g:Gv) (z:Int):Bool:=(g.a.k==2)&&(g.a.m.sz==z)
theorem Yd (g:Gv) (c:Int) (H:Qa):Qf prog Qn [.agg g.cells.toArray,.int .i64 c] H λu H'=>u=.bool (WH g c)∧∃k,H'=H.up k:=by
 refine QfS λhw=>?_;unfold WH;obtain⟨⟨k,⟨rc,rn⟩,⟨⟨bc,bn⟩,⟨ic,nn⟩,sc,d,sz⟩,n⟩,bits,gn⟩:=g;simp only[Gv.cells,Vo,Qc,simprocAttr];cases h:k==1<;>simp only[Qc,simprocAttr,h,Qfc]
 all_goals exact .ext hw ((Ext.refl H).push _) ⟨by simp,_,rfl⟩
theorem Zz (g:Gv) (z:Int) (H:Qa):Qf prog Qs [.agg g.cells.toArray,.int .i64 z] H λu H'=>u=.bool (Yc g z)∧∃k,H'=H.up k:=by
 refine QfT λhw=>?_;unfold Yc;obtain⟨⟨k,⟨rc,rn⟩,⟨⟨bc,bn⟩,⟨ic,nn⟩,sc,d,sz⟩,n⟩,bits,gn⟩:=g;simp only[Gv.cells,Vp,Qc,simprocAttr];cases h:k==2<;>simp only[Qc,simprocAttr,h,Qfd]
 all_goals exact .ext hw ((Ext.refl H).push _) ⟨by simp,_,rfl⟩
/-! The tests. -/
theorem QEl (g:Gv) (H:Qa):Qf prog VC [.agg g.cells.toArray] H λu H'=>u=.bool (false)∧∃m,H'=H.up m:=by
 refine QkM λhw=>?_;obtain⟨⟨k,⟨rc,rn⟩,⟨⟨bc,bn⟩,⟨ic,nn⟩,sc,d,sz⟩,n⟩,bits,gn⟩:=g;simp only[Gv.cells,Qdp,Qc,simprocAttr,Qji];exact .ext hw ((Ext.refl H).push _) ⟨rfl,_,rfl⟩
theorem QEm (g:Gv) (H:Qa):Qf prog VD [.agg g.cells.toArray] H λu H'=>u=.bool (WH g 1||WH g 2)∧∃m,H'=H.up m:=by
 refine QkN λhw=>?_;have q0:=Yd g 1;obtain⟨v0,e0⟩:∃v,WH g 1=v:=⟨_,rfl⟩;rw[e0]at q0 ⊢;have q1:=Yd g 2;obtain⟨v1,e1⟩:∃v,WH g 2=v:=⟨_,rfl⟩;rw[e1]at q1 ⊢;clear e0 e1;obtain⟨⟨k,⟨rc,rn⟩,⟨⟨bc,bn⟩,⟨ic,nn⟩,sc,d,sz⟩,n⟩,bits,gn⟩:=g;simp only[Gv.cells]at q0 q1;simp only[Gv.cells,Qdq,Qc,simprocAttr];refine(q0 _).thenW ?_;rintro _ _ hn0 hw0 ⟨rfl,k0,rfl⟩;simp only[Qa.next_push,Qa.next_up]at hn0;cases v0 with
 | true=>
  simp only[Qc,simprocAttr,QbR];exact .ext hw (((Ext.refl H).push _).up (by simp only[Qa.next_push,Qa.next_up];omega)) ⟨by simp,_,rfl⟩
 | false=>
  simp only[Qc,simprocAttr];refine(q1 _).thenW ?_;rintro _ _ hn1 hw1 ⟨rfl,k1,rfl⟩;simp only[Qa.next_push,Qa.next_up]at hn1;simp only[Qc,simprocAttr,QbR];exact .ext hw ((((Ext.refl H).push _).up (by simp only[Qa.next_push,Qa.next_up];omega)).up (by simp only[Qa.next_push,Qa.next_up];omega)) ⟨by simp,_,rfl⟩
theorem QEn (g:Gv) (H:Qa):Qf prog VE [.agg g.cells.toArray] H λu H'=>u=.bool (WH g 3)∧∃m,H'=H.up m:=by
 refine QkO λhw=>?_;have q0:=Yd g 3;obtain⟨v0,e0⟩:∃v,WH g 3=v:=⟨_,rfl⟩;rw[e0]at q0 ⊢;clear e0;obtain⟨⟨k,⟨rc,rn⟩,⟨⟨bc,bn⟩,⟨ic,nn⟩,sc,d,sz⟩,n⟩,bits,gn⟩:=g;simp only[Gv.cells]at q0;simp only[Gv.cells,Qdr,Qc,simprocAttr];refine(q0 _).thenW ?_;rintro _ _ hn0 hw0 ⟨rfl,k0,rfl⟩;simp only[Qa.next_push,Qa.next_up]at hn0;simp only[Qc,simprocAttr,Qjj];exact .ext hw (((Ext.refl H).push _).up (by simp only[Qa.next_push,Qa.next_up];omega)) ⟨by simp,_,rfl⟩
theorem QEo (g:Gv) (H:Qa):Qf prog VF [.agg g.cells.toArray] H λu H'=>u=.bool (WH g 4)∧∃m,H'=H.up m:=by
 refine QkP λhw=>?_;have q0:=Yd g 4;obtain⟨v0,e0⟩:∃v,WH g 4=v:=⟨_,rfl⟩;rw[e0]at q0 ⊢;clear e0;obtain⟨⟨k,⟨rc,rn⟩,⟨⟨bc,bn⟩,⟨ic,nn⟩,sc,d,sz⟩,n⟩,bits,gn⟩:=g;simp only[Gv.cells]at q0;simp only[Gv.cells,Qds,Qc,simprocAttr];refine(q0 _).thenW ?_;rintro _ _ hn0 hw0 ⟨rfl,k0,rfl⟩;simp only[Qa.next_push,Qa.next_up]at hn0;simp only[Qc,simprocAttr,Qjk];exact .ext hw (((Ext.refl H).push _).up (by simp only[Qa.next_push,Qa.next_up];omega)) ⟨by simp,_,rfl⟩
theorem QEp (g:Gv) (H:Qa):Qf prog VG [.agg g.cells.toArray] H λu H'=>u=.bool (WH g 5)∧∃m,H'=H.up m:=by
 refine QkQ λhw=>?_;have q0:=Yd g 5;obtain⟨v0,e0⟩:∃v,WH g 5=v:=⟨_,rfl⟩;rw[e0]at q0 ⊢;clear e0;obtain⟨⟨k,⟨rc,rn⟩,⟨⟨bc,bn⟩,⟨ic,nn⟩,sc,d,sz⟩,n⟩,bits,gn⟩:=g;simp only[Gv.cells]at q0;simp only[Gv.cells,Qdt,Qc,simprocAttr];refine(q0 _).thenW ?_;rintro _ _ hn0 hw0 ⟨rfl,k0,rfl⟩;simp only[Qa.next_push,Qa.next_up]at hn0;simp only[Qc,simprocAttr,Qjl];exact .ext hw (((Ext.refl H).push _).up (by simp only[Qa.next_push,Qa.next_up];omega)) ⟨by simp,_,rfl⟩
theorem QEq (g:Gv) (H:Qa):Qf prog VH [.agg g.cells.toArray] H λu H'=>u=.bool (WH g 6)∧∃m,H'=H.up m:=by
 refine QkR λhw=>?_;have q0:=Yd g 6;obtain⟨v0,e0⟩:∃v,WH g 6=v:=⟨_,rfl⟩;rw[e0]at q0 ⊢;clear e0;obtain⟨⟨k,⟨rc,rn⟩,⟨⟨bc,bn⟩,⟨ic,nn⟩,sc,d,sz⟩,n⟩,bits,gn⟩:=g;simp only[Gv.cells]at q0;simp only[Gv.cells,Qdu,Qc,simprocAttr];refine(q0 _).thenW ?_;rintro _ _ hn0 hw0 ⟨rfl,k0,rfl⟩;simp only[Qa.next_push,Qa.next_up]at hn0;simp only[Qc,simprocAttr,Qjm];exact .ext hw (((Ext.refl H).push _).up (by simp only[Qa.next_push,Qa.next_up];omega)) ⟨by simp,_,rfl⟩
theorem QEr (g:Gv) (H:Qa):Qf prog VI [.agg g.cells.toArray] H λu H'=>u=.bool (WH g 7)∧∃m,H'=H.up m:=by
 refine QkS λhw=>?_;have q0:=Yd g 7;obtain⟨v0,e0⟩:∃v,WH g 7=v:=⟨_,rfl⟩;rw[e0]at q0 ⊢;clear e0;obtain⟨⟨k,⟨rc,rn⟩,⟨⟨bc,bn⟩,⟨ic,nn⟩,sc,d,sz⟩,n⟩,bits,gn⟩:=g;simp only[Gv.cells]at q0;simp only[Gv.cells,Qdv,Qc,simprocAttr];refine(q0 _).thenW ?_;rintro _ _ hn0 hw0 ⟨rfl,k0,rfl⟩;simp only[Qa.next_push,Qa.next_up]at hn0;simp only[Qc,simprocAttr,Qjn];exact .ext hw (((Ext.refl H).push _).up (by simp only[Qa.next_push,Qa.next_up];omega)) ⟨by simp,_,rfl⟩
theorem QEs (g:Gv) (H:Qa):Qf prog VJ [.agg g.cells.toArray] H λu H'=>u=.bool (WH g 1||WH g 2||Yc g 1)∧∃m,H'=H.up m:=by
 refine QkT λhw=>?_;have q0:=Yd g 1;obtain⟨v0,e0⟩:∃v,WH g 1=v:=⟨_,rfl⟩;rw[e0]at q0 ⊢;have q1:=Yd g 2;obtain⟨v1,e1⟩:∃v,WH g 2=v:=⟨_,rfl⟩;rw[e1]at q1 ⊢;have q2:=Zz g 1;obtain⟨v2,e2⟩:∃v,Yc g 1=v:=⟨_,rfl⟩;rw[e2]at q2 ⊢;clear e0 e1 e2;obtain⟨⟨k,⟨rc,rn⟩,⟨⟨bc,bn⟩,⟨ic,nn⟩,sc,d,sz⟩,n⟩,bits,gn⟩:=g;simp only[Gv.cells]at q0 q1 q2;simp only[Gv.cells,Qdw,Qc,simprocAttr];refine(q0 _).thenW ?_;rintro _ _ hn0 hw0 ⟨rfl,k0,rfl⟩;simp only[Qa.next_push,Qa.next_up]at hn0;cases v0 with
 | true=>
  simp only[Qc,simprocAttr,KA];exact .ext hw (((Ext.refl H).push _).up (by simp only[Qa.next_push,Qa.next_up];omega)) ⟨by simp,_,rfl⟩
 | false=>
  simp only[Qc,simprocAttr];refine(q1 _).thenW ?_;rintro _ _ hn1 hw1 ⟨rfl,k1,rfl⟩;simp only[Qa.next_push,Qa.next_up]at hn1;cases v1 with
  | true=>
   simp only[Qc,simprocAttr,KA];exact .ext hw ((((Ext.refl H).push _).up (by simp only[Qa.next_push,Qa.next_up];omega)).up (by simp only[Qa.next_push,Qa.next_up];omega)) ⟨by simp,_,rfl⟩
  | false=>
   simp only[Qc,simprocAttr];refine(q2 _).thenW ?_;rintro _ _ hn2 hw2 ⟨rfl,k2,rfl⟩;simp only[Qa.next_push,Qa.next_up]at hn2;simp only[Qc,simprocAttr,KA];exact .ext hw (((((Ext.refl H).push _).up (by simp only[Qa.next_push,Qa.next_up];omega)).up (by simp only[Qa.next_push,Qa.next_up];omega)).up (by simp only[Qa.next_push,Qa.next_up];omega)) ⟨by simp,_,rfl⟩
theorem QDu (g:Gv) (H:Qa):Qf prog Gi [.agg g.cells.toArray] H λu H'=>u=.bool (WH g 3||Yc g 2)∧∃m,H'=H.up m:=by
 refine Qjo λhw=>?_;have q0:=Yd g 3;obtain⟨v0,e0⟩:∃v,WH g 3=v:=⟨_,rfl⟩;rw[e0]at q0 ⊢;have q1:=Zz g 2;obtain⟨v1,e1⟩:∃v,Yc g 2=v:=⟨_,rfl⟩;rw[e1]at q1 ⊢;clear e0 e1;obtain⟨⟨k,⟨rc,rn⟩,⟨⟨bc,bn⟩,⟨ic,nn⟩,sc,d,sz⟩,n⟩,bits,gn⟩:=g;simp only[Gv.cells]at q0 q1;simp only[Gv.cells,QbS,Qc,simprocAttr];refine(q0 _).thenW ?_;rintro _ _ hn0 hw0 ⟨rfl,k0,rfl⟩;simp only[Qa.next_push,Qa.next_up]at hn0;cases v0 with
 | true=>
  simp only[Qc,simprocAttr,Qa1];exact .ext hw (((Ext.refl H).push _).up (by simp only[Qa.next_push,Qa.next_up];omega)) ⟨by simp,_,rfl⟩
 | false=>
  simp only[Qc,simprocAttr];refine(q1 _).thenW ?_;rintro _ _ hn1 hw1 ⟨rfl,k1,rfl⟩;simp only[Qa.next_push,Qa.next_up]at hn1;simp only[Qc,simprocAttr,Qa1];exact .ext hw ((((Ext.refl H).push _).up (by simp only[Qa.next_push,Qa.next_up];omega)).up (by simp only[Qa.next_push,Qa.next_up];omega)) ⟨by simp,_,rfl⟩
theorem QDv (g:Gv) (H:Qa):Qf prog Gj [.agg g.cells.toArray] H λu H'=>u=.bool (WH g 4||Yc g 4)∧∃m,H'=H.up m:=by
 refine Qjp λhw=>?_;have q0:=Yd g 4;obtain⟨v0,e0⟩:∃v,WH g 4=v:=⟨_,rfl⟩;rw[e0]at q0 ⊢;have q1:=Zz g 4;obtain⟨v1,e1⟩:∃v,Yc g 4=v:=⟨_,rfl⟩;rw[e1]at q1 ⊢;clear e0 e1;obtain⟨⟨k,⟨rc,rn⟩,⟨⟨bc,bn⟩,⟨ic,nn⟩,sc,d,sz⟩,n⟩,bits,gn⟩:=g;simp only[Gv.cells]at q0 q1;simp only[Gv.cells,QbT,Qc,simprocAttr];refine(q0 _).thenW ?_;rintro _ _ hn0 hw0 ⟨rfl,k0,rfl⟩;simp only[Qa.next_push,Qa.next_up]at hn0;cases v0 with
 | true=>
  simp only[Qc,simprocAttr,Qa2];exact .ext hw (((Ext.refl H).push _).up (by simp only[Qa.next_push,Qa.next_up];omega)) ⟨by simp,_,rfl⟩
 | false=>
  simp only[Qc,simprocAttr];refine(q1 _).thenW ?_;rintro _ _ hn1 hw1 ⟨rfl,k1,rfl⟩;simp only[Qa.next_push,Qa.next_up]at hn1;simp only[Qc,simprocAttr,Qa2];exact .ext hw ((((Ext.refl H).push _).up (by simp only[Qa.next_push,Qa.next_up];omega)).up (by simp only[Qa.next_push,Qa.next_up];omega)) ⟨by simp,_,rfl⟩
theorem QDw (g:Gv) (H:Qa):Qf prog Gl [.agg g.cells.toArray] H λu H'=>u=.bool (WH g 5||Yc g 8)∧∃m,H'=H.up m:=by
 refine Qjq λhw=>?_;have q0:=Yd g 5;obtain⟨v0,e0⟩:∃v,WH g 5=v:=⟨_,rfl⟩;rw[e0]at q0 ⊢;have q1:=Zz g 8;obtain⟨v1,e1⟩:∃v,Yc g 8=v:=⟨_,rfl⟩;rw[e1]at q1 ⊢;clear e0 e1;obtain⟨⟨k,⟨rc,rn⟩,⟨⟨bc,bn⟩,⟨ic,nn⟩,sc,d,sz⟩,n⟩,bits,gn⟩:=g;simp only[Gv.cells]at q0 q1;simp only[Gv.cells,QbU,Qc,simprocAttr];refine(q0 _).thenW ?_;rintro _ _ hn0 hw0 ⟨rfl,k0,rfl⟩;simp only[Qa.next_push,Qa.next_up]at hn0;cases v0 with
 | true=>
  simp only[Qc,simprocAttr,Qa3];exact .ext hw (((Ext.refl H).push _).up (by simp only[Qa.next_push,Qa.next_up];omega)) ⟨by simp,_,rfl⟩
 | false=>
  simp only[Qc,simprocAttr];refine(q1 _).thenW ?_;rintro _ _ hn1 hw1 ⟨rfl,k1,rfl⟩;simp only[Qa.next_push,Qa.next_up]at hn1;simp only[Qc,simprocAttr,Qa3];exact .ext hw ((((Ext.refl H).push _).up (by simp only[Qa.next_push,Qa.next_up];omega)).up (by simp only[Qa.next_push,Qa.next_up];omega)) ⟨by simp,_,rfl⟩
theorem QDx (g:Gv) (H:Qa):Qf prog Gm [.agg g.cells.toArray] H λu H'=>u=.bool (WH g 6||Yc g 4)∧∃m,H'=H.up m:=by
 refine Qjr λhw=>?_;have q0:=Yd g 6;obtain⟨v0,e0⟩:∃v,WH g 6=v:=⟨_,rfl⟩;rw[e0]at q0 ⊢;have q1:=Zz g 4;obtain⟨v1,e1⟩:∃v,Yc g 4=v:=⟨_,rfl⟩;rw[e1]at q1 ⊢;clear e0 e1;obtain⟨⟨k,⟨rc,rn⟩,⟨⟨bc,bn⟩,⟨ic,nn⟩,sc,d,sz⟩,n⟩,bits,gn⟩:=g;simp only[Gv.cells]at q0 q1;simp only[Gv.cells,QbV,Qc,simprocAttr];refine(q0 _).thenW ?_;rintro _ _ hn0 hw0 ⟨rfl,k0,rfl⟩;simp only[Qa.next_push,Qa.next_up]at hn0;cases v0 with
 | true=>
  simp only[Qc,simprocAttr,Qa4];exact .ext hw (((Ext.refl H).push _).up (by simp only[Qa.next_push,Qa.next_up];omega)) ⟨by simp,_,rfl⟩
 | false=>
  simp only[Qc,simprocAttr];refine(q1 _).thenW ?_;rintro _ _ hn1 hw1 ⟨rfl,k1,rfl⟩;simp only[Qa.next_push,Qa.next_up]at hn1;simp only[Qc,simprocAttr,Qa4];exact .ext hw ((((Ext.refl H).push _).up (by simp only[Qa.next_push,Qa.next_up];omega)).up (by simp only[Qa.next_push,Qa.next_up];omega)) ⟨by simp,_,rfl⟩
theorem QDy (g:Gv) (H:Qa):Qf prog Gn [.agg g.cells.toArray] H λu H'=>u=.bool (WH g 6||Yc g 8)∧∃m,H'=H.up m:=by
 refine Qjs λhw=>?_;have q0:=Yd g 6;obtain⟨v0,e0⟩:∃v,WH g 6=v:=⟨_,rfl⟩;rw[e0]at q0 ⊢;have q1:=Zz g 8;obtain⟨v1,e1⟩:∃v,Yc g 8=v:=⟨_,rfl⟩;rw[e1]at q1 ⊢;clear e0 e1;obtain⟨⟨k,⟨rc,rn⟩,⟨⟨bc,bn⟩,⟨ic,nn⟩,sc,d,sz⟩,n⟩,bits,gn⟩:=g;simp only[Gv.cells]at q0 q1;simp only[Gv.cells,QbW,Qc,simprocAttr];refine(q0 _).thenW ?_;rintro _ _ hn0 hw0 ⟨rfl,k0,rfl⟩;simp only[Qa.next_push,Qa.next_up]at hn0;cases v0 with
 | true=>
  simp only[Qc,simprocAttr,Qa5];exact .ext hw (((Ext.refl H).push _).up (by simp only[Qa.next_push,Qa.next_up];omega)) ⟨by simp,_,rfl⟩
 | false=>
  simp only[Qc,simprocAttr];refine(q1 _).thenW ?_;rintro _ _ hn1 hw1 ⟨rfl,k1,rfl⟩;simp only[Qa.next_push,Qa.next_up]at hn1;simp only[Qc,simprocAttr,Qa5];exact .ext hw ((((Ext.refl H).push _).up (by simp only[Qa.next_push,Qa.next_up];omega)).up (by simp only[Qa.next_push,Qa.next_up];omega)) ⟨by simp,_,rfl⟩
theorem QDz (g:Gv) (H:Qa):Qf prog Gq [.agg g.cells.toArray] H λu H'=>u=.bool (WH g 6||Yc g 16)∧∃m,H'=H.up m:=by
 refine Qjt λhw=>?_;have q0:=Yd g 6;obtain⟨v0,e0⟩:∃v,WH g 6=v:=⟨_,rfl⟩;rw[e0]at q0 ⊢;have q1:=Zz g 16;obtain⟨v1,e1⟩:∃v,Yc g 16=v:=⟨_,rfl⟩;rw[e1]at q1 ⊢;clear e0 e1;obtain⟨⟨k,⟨rc,rn⟩,⟨⟨bc,bn⟩,⟨ic,nn⟩,sc,d,sz⟩,n⟩,bits,gn⟩:=g;simp only[Gv.cells]at q0 q1;simp only[Gv.cells,QbX,Qc,simprocAttr];refine(q0 _).thenW ?_;rintro _ _ hn0 hw0 ⟨rfl,k0,rfl⟩;simp only[Qa.next_push,Qa.next_up]at hn0;cases v0 with
 | true=>
  simp only[Qc,simprocAttr,Qa6];exact .ext hw (((Ext.refl H).push _).up (by simp only[Qa.next_push,Qa.next_up];omega)) ⟨by simp,_,rfl⟩
 | false=>
  simp only[Qc,simprocAttr];refine(q1 _).thenW ?_;rintro _ _ hn1 hw1 ⟨rfl,k1,rfl⟩;simp only[Qa.next_push,Qa.next_up]at hn1;simp only[Qc,simprocAttr,Qa6];exact .ext hw ((((Ext.refl H).push _).up (by simp only[Qa.next_push,Qa.next_up];omega)).up (by simp only[Qa.next_push,Qa.next_up];omega)) ⟨by simp,_,rfl⟩
theorem QDA (g:Gv) (H:Qa):Qf prog Gs [.agg g.cells.toArray] H λu H'=>u=.bool (WH g 7||Yc g 32)∧∃m,H'=H.up m:=by
 refine Qju λhw=>?_;have q0:=Yd g 7;obtain⟨v0,e0⟩:∃v,WH g 7=v:=⟨_,rfl⟩;rw[e0]at q0 ⊢;have q1:=Zz g 32;obtain⟨v1,e1⟩:∃v,Yc g 32=v:=⟨_,rfl⟩;rw[e1]at q1 ⊢;clear e0 e1;obtain⟨⟨k,⟨rc,rn⟩,⟨⟨bc,bn⟩,⟨ic,nn⟩,sc,d,sz⟩,n⟩,bits,gn⟩:=g;simp only[Gv.cells]at q0 q1;simp only[Gv.cells,QbY,Qc,simprocAttr];refine(q0 _).thenW ?_;rintro _ _ hn0 hw0 ⟨rfl,k0,rfl⟩;simp only[Qa.next_push,Qa.next_up]at hn0;cases v0 with
 | true=>
  simp only[Qc,simprocAttr,Qa7];exact .ext hw (((Ext.refl H).push _).up (by simp only[Qa.next_push,Qa.next_up];omega)) ⟨by simp,_,rfl⟩
 | false=>
  simp only[Qc,simprocAttr];refine(q1 _).thenW ?_;rintro _ _ hn1 hw1 ⟨rfl,k1,rfl⟩;simp only[Qa.next_push,Qa.next_up]at hn1;simp only[Qc,simprocAttr,Qa7];exact .ext hw ((((Ext.refl H).push _).up (by simp only[Qa.next_push,Qa.next_up];omega)).up (by simp only[Qa.next_push,Qa.next_up];omega)) ⟨by simp,_,rfl⟩
theorem QDB (g:Gv) (H:Qa):Qf prog Gt [.agg g.cells.toArray] H λu H'=>u=.bool (Yc g 0)∧∃m,H'=H.up m:=by
 refine Qjv λhw=>?_;have q0:=Zz g 0;obtain⟨v0,e0⟩:∃v,Yc g 0=v:=⟨_,rfl⟩;rw[e0]at q0 ⊢;clear e0;obtain⟨⟨k,⟨rc,rn⟩,⟨⟨bc,bn⟩,⟨ic,nn⟩,sc,d,sz⟩,n⟩,bits,gn⟩:=g;simp only[Gv.cells]at q0;simp only[Gv.cells,QbZ,Qc,simprocAttr];refine(q0 _).thenW ?_;rintro _ _ hn0 hw0 ⟨rfl,k0,rfl⟩;simp only[Qa.next_push,Qa.next_up]at hn0;simp only[Qc,simprocAttr,Qh7];exact .ext hw (((Ext.refl H).push _).up (by simp only[Qa.next_push,Qa.next_up];omega)) ⟨by simp,_,rfl⟩
theorem QDC (g:Gv) (H:Qa):Qf prog Gw [.agg g.cells.toArray] H λu H'=>u=.bool (Yc g 2)∧∃m,H'=H.up m:=by
 refine Qjw λhw=>?_;have q0:=Zz g 2;obtain⟨v0,e0⟩:∃v,Yc g 2=v:=⟨_,rfl⟩;rw[e0]at q0 ⊢;clear e0;obtain⟨⟨k,⟨rc,rn⟩,⟨⟨bc,bn⟩,⟨ic,nn⟩,sc,d,sz⟩,n⟩,bits,gn⟩:=g;simp only[Gv.cells]at q0;simp only[Gv.cells,Qb0,Qc,simprocAttr];refine(q0 _).thenW ?_;rintro _ _ hn0 hw0 ⟨rfl,k0,rfl⟩;simp only[Qa.next_push,Qa.next_up]at hn0;simp only[Qc,simprocAttr,Qh8];exact .ext hw (((Ext.refl H).push _).up (by simp only[Qa.next_push,Qa.next_up];omega)) ⟨by simp,_,rfl⟩
theorem QDD (g:Gv) (H:Qa):Qf prog Gz [.agg g.cells.toArray] H λu H'=>u=.bool (Yc g 4)∧∃m,H'=H.up m:=by
 refine Qjx λhw=>?_;have q0:=Zz g 4;obtain⟨v0,e0⟩:∃v,Yc g 4=v:=⟨_,rfl⟩;rw[e0]at q0 ⊢;clear e0;obtain⟨⟨k,⟨rc,rn⟩,⟨⟨bc,bn⟩,⟨ic,nn⟩,sc,d,sz⟩,n⟩,bits,gn⟩:=g;simp only[Gv.cells]at q0;simp only[Gv.cells,Qb1,Qc,simprocAttr];refine(q0 _).thenW ?_;rintro _ _ hn0 hw0 ⟨rfl,k0,rfl⟩;simp only[Qa.next_push,Qa.next_up]at hn0;simp only[Qc,simprocAttr,Qh9];exact .ext hw (((Ext.refl H).push _).up (by simp only[Qa.next_push,Qa.next_up];omega)) ⟨by simp,_,rfl⟩
theorem QDE (g:Gv) (H:Qa):Qf prog GA [.agg g.cells.toArray] H λu H'=>u=.bool (Yc g 8)∧∃m,H'=H.up m:=by
 refine Qjy λhw=>?_;have q0:=Zz g 8;obtain⟨v0,e0⟩:∃v,Yc g 8=v:=⟨_,rfl⟩;rw[e0]at q0 ⊢;clear e0;obtain⟨⟨k,⟨rc,rn⟩,⟨⟨bc,bn⟩,⟨ic,nn⟩,sc,d,sz⟩,n⟩,bits,gn⟩:=g;simp only[Gv.cells]at q0;simp only[Gv.cells,Qb2,Qc,simprocAttr];refine(q0 _).thenW ?_;rintro _ _ hn0 hw0 ⟨rfl,k0,rfl⟩;simp only[Qa.next_push,Qa.next_up]at hn0;simp only[Qc,simprocAttr,Qia];exact .ext hw (((Ext.refl H).push _).up (by simp only[Qa.next_push,Qa.next_up];omega)) ⟨by simp,_,rfl⟩
theorem QDF (g:Gv) (H:Qa):Qf prog GB [.agg g.cells.toArray] H λu H'=>u=.bool (Yc g 16)∧∃m,H'=H.up m:=by
 refine Qjz λhw=>?_;have q0:=Zz g 16;obtain⟨v0,e0⟩:∃v,Yc g 16=v:=⟨_,rfl⟩;rw[e0]at q0 ⊢;clear e0;obtain⟨⟨k,⟨rc,rn⟩,⟨⟨bc,bn⟩,⟨ic,nn⟩,sc,d,sz⟩,n⟩,bits,gn⟩:=g;simp only[Gv.cells]at q0;simp only[Gv.cells,Qb3,Qc,simprocAttr];refine(q0 _).thenW ?_;rintro _ _ hn0 hw0 ⟨rfl,k0,rfl⟩;simp only[Qa.next_push,Qa.next_up]at hn0;simp only[Qc,simprocAttr,Qib];exact .ext hw (((Ext.refl H).push _).up (by simp only[Qa.next_push,Qa.next_up];omega)) ⟨by simp,_,rfl⟩
theorem QDG (g:Gv) (H:Qa):Qf prog GC [.agg g.cells.toArray] H λu H'=>u=.bool (Yc g 32)∧∃m,H'=H.up m:=by
 refine QjA λhw=>?_;have q0:=Zz g 32;obtain⟨v0,e0⟩:∃v,Yc g 32=v:=⟨_,rfl⟩;rw[e0]at q0 ⊢;clear e0;obtain⟨⟨k,⟨rc,rn⟩,⟨⟨bc,bn⟩,⟨ic,nn⟩,sc,d,sz⟩,n⟩,bits,gn⟩:=g;simp only[Gv.cells]at q0;simp only[Gv.cells,Qb4,Qc,simprocAttr];refine(q0 _).thenW ?_;rintro _ _ hn0 hw0 ⟨rfl,k0,rfl⟩;simp only[Qa.next_push,Qa.next_up]at hn0;simp only[Qc,simprocAttr,Qic];exact .ext hw (((Ext.refl H).push _).up (by simp only[Qa.next_push,Qa.next_up];omega)) ⟨by simp,_,rfl⟩
theorem QDH (g:Gv) (H:Qa):Qf prog GD [.agg g.cells.toArray] H λu H'=>u=.bool ((g.bits==8))∧∃m,H'=H.up m:=by
 refine QjB λhw=>?_;obtain⟨⟨k,⟨rc,rn⟩,⟨⟨bc,bn⟩,⟨ic,nn⟩,sc,d,sz⟩,n⟩,bits,gn⟩:=g;simp only[Gv.cells,Qb5,Qc,simprocAttr];simp only[Qid];exact .ext hw ((Ext.refl H).push _) ⟨rfl,_,rfl⟩
theorem QDI (g:Gv) (H:Qa):Qf prog GE [.agg g.cells.toArray] H λu H'=>u=.bool (decide (8<g.bits)&&decide (-128<=g.n)&&decide (g.n<=127))∧∃m,H'=H.up m:=by
 refine QjC λhw=>?_;obtain⟨⟨k,⟨rc,rn⟩,⟨⟨bc,bn⟩,⟨ic,nn⟩,sc,d,sz⟩,n⟩,bits,gn⟩:=g;simp only[Gv.cells,Qb6,Qc,simprocAttr];cases h0:decide (8<bits)<;>cases h1:decide (-128<=gn)<;>simp only[Qc,simprocAttr,h0,h1,Qie]
 all_goals exact .ext hw ((Ext.refl H).push _) ⟨by simp,_,rfl⟩
theorem QDJ (g:Gv) (H:Qa):Qf prog GF [.agg g.cells.toArray] H λu H'=>u=.bool ((g.bits==16))∧∃m,H'=H.up m:=by
 refine QjD λhw=>?_;obtain⟨⟨k,⟨rc,rn⟩,⟨⟨bc,bn⟩,⟨ic,nn⟩,sc,d,sz⟩,n⟩,bits,gn⟩:=g;simp only[Gv.cells,Qb7,Qc,simprocAttr];simp only[Qif];exact .ext hw ((Ext.refl H).push _) ⟨rfl,_,rfl⟩
theorem QDK (g:Gv) (H:Qa):Qf prog GG [.agg g.cells.toArray] H λu H'=>u=.bool ((g.bits==32))∧∃m,H'=H.up m:=by
 refine QjE λhw=>?_;obtain⟨⟨k,⟨rc,rn⟩,⟨⟨bc,bn⟩,⟨ic,nn⟩,sc,d,sz⟩,n⟩,bits,gn⟩:=g;simp only[Gv.cells,Qb8,Qc,simprocAttr];simp only[Qig];exact .ext hw ((Ext.refl H).push _) ⟨rfl,_,rfl⟩
theorem QDL (g:Gv) (H:Qa):Qf prog GH [.agg g.cells.toArray] H λu H'=>u=.bool ((g.bits==64)&&decide (-2147483648<=g.n)&&decide (g.n<=2147483647))∧∃m,H'=H.up m:=by
 refine QjF λhw=>?_;obtain⟨⟨k,⟨rc,rn⟩,⟨⟨bc,bn⟩,⟨ic,nn⟩,sc,d,sz⟩,n⟩,bits,gn⟩:=g;simp only[Gv.cells,Qb9,Qc,simprocAttr];cases h0:bits==64<;>cases h1:decide (-2147483648<=gn)<;>simp only[Qc,simprocAttr,h0,h1,Qih]
 all_goals exact .ext hw ((Ext.refl H).push _) ⟨by simp,_,rfl⟩
theorem QDM (g:Gv) (H:Qa):Qf prog GI [.agg g.cells.toArray] H λu H'=>u=.bool ((g.bits==64))∧∃m,H'=H.up m:=by
 refine QjG λhw=>?_;obtain⟨⟨k,⟨rc,rn⟩,⟨⟨bc,bn⟩,⟨ic,nn⟩,sc,d,sz⟩,n⟩,bits,gn⟩:=g;simp only[Gv.cells,Qca,Qc,simprocAttr];simp only[Qii];exact .ext hw ((Ext.refl H).push _) ⟨rfl,_,rfl⟩
theorem QDN (g:Gv) (H:Qa):Qf prog GJ [.agg g.cells.toArray] H λu H'=>u=.bool ((g.a.k==4)&&decide (-128<=g.a.n)&&decide (g.a.n<=127))∧∃m,H'=H.up m:=by
 refine QjH λhw=>?_;obtain⟨⟨k,⟨rc,rn⟩,⟨⟨bc,bn⟩,⟨ic,nn⟩,sc,d,sz⟩,n⟩,bits,gn⟩:=g;simp only[Gv.cells,Qcb,Qc,simprocAttr];cases h0:k==4<;>cases h1:decide (-128<=n)<;>simp only[Qc,simprocAttr,h0,h1,Qij]
 all_goals exact .ext hw ((Ext.refl H).push _) ⟨by simp,_,rfl⟩
theorem QDO (g:Gv) (H:Qa):Qf prog GL [.agg g.cells.toArray] H λu H'=>u=.bool ((g.a.k==4))∧∃m,H'=H.up m:=by
 refine QjI λhw=>?_;obtain⟨⟨k,⟨rc,rn⟩,⟨⟨bc,bn⟩,⟨ic,nn⟩,sc,d,sz⟩,n⟩,bits,gn⟩:=g;simp only[Gv.cells,Qcc,Qc,simprocAttr];simp only[Qik];exact .ext hw ((Ext.refl H).push _) ⟨rfl,_,rfl⟩
theorem QDP (g:Gv) (H:Qa):Qf prog GM [.agg g.cells.toArray] H λu H'=>u=.bool (decide (0<g.bits)&&(g.n==1))∧∃m,H'=H.up m:=by
 refine QjJ λhw=>?_;obtain⟨⟨k,⟨rc,rn⟩,⟨⟨bc,bn⟩,⟨ic,nn⟩,sc,d,sz⟩,n⟩,bits,gn⟩:=g;simp only[Gv.cells,Qcd,Qc,simprocAttr];cases h0:decide (0<bits)<;>simp only[Qc,simprocAttr,h0,Qil]
 all_goals exact .ext hw ((Ext.refl H).push _) ⟨by simp,_,rfl⟩
theorem Qn5 (c n:Int) (H:Qa):Qf prog VB [.int .i64 c,.int .i64 n] H λu H'=>∃p q,u=.agg #[.func (.func Xm) #[] #[.pointer (some ⟨p,0,none⟩),.pointer (some ⟨q,0,none⟩)]]∧Ext H H'∧H'.get p=some (.cells [.int .i64 c] 3 false)∧H'.get q=some (.cells [.int .i64 n] 3 false)∧p<H'.next∧q<H'.next:=by
 refine QkL λhw=>?_;simp only[Qdo,Qc,simprocAttr,Jc,Zc,Qjh];have hx:∀b,Ext H ((((H.push (.cells [.int .i64 c] 3 false)).push (.cells [.int .i64 n] 3 false)).push (.cells [.nilFunc] Y2 false)).set (H.next+1+1) b):=λb=>((((Ext.refl H).push _).push _).push _).set (by omega) _;refine .mk (hx _).next ⟨H.next,H.next+1,rfl,hx _,?_,?_,by simp only[Qa.next_set,Qa.next_push];omega,by simp only[Qa.next_set,Qa.next_push];omega⟩
 ·rw[Qa.get_set,if_neg (by omega),Qa.get_push,if_neg (by simp only[Qa.next_push];omega),Qa.get_push,if_neg (by simp only[Qa.next_push];omega),Qa.get_push,if_pos rfl]
 ·rw[Qa.get_set,if_neg (by omega),Qa.get_push,if_neg (by simp only[Qa.next_push];omega),Qa.get_push,if_pos (by simp only[Qa.next_push])]
theorem QAr (g:Gv) (c n:Int) (p q:Nat) (H:Qa) (hp:H.get p=some (.cells [.int .i64 c] 3 false)) (hq:H.get q=some (.cells [.int .i64 n] 3 false)):Qf prog Xm [.agg g.cells.toArray,.pointer (some ⟨p,0,none⟩),.pointer (some ⟨q,0,none⟩)] H λu H'=>u=.bool (WH g c&&(g.a.r.n==n))∧Ext H H':=by
 refine Qh6 λhw=>?_;have q1:=Yd g c;obtain⟨v,ev⟩:∃v,WH g c=v:=⟨_,rfl⟩;rw[ev]at q1 ⊢;clear ev;have lp:=hw.lt hp;have lq:=hw.lt hq;have np:¬p=H.next:=by omega
 have nq:¬q=H.next:=by omega
 obtain⟨⟨k,⟨rc,rn⟩,⟨⟨bc,bn⟩,⟨ic,nn⟩,sc,d,sz⟩,n'⟩,bits,gn⟩:=g;simp only[Gv.cells]at q1;simp only[Gv.cells,Qa0,Qc,simprocAttr,np,nq,if_false,hp,hq];refine(q1 _).thenW ?_;rintro _ _ hn1 hw1 ⟨rfl,k1,rfl⟩;simp only[Qa.next_push,Qa.next_up]at hn1;have hx:=((Ext.refl H).push (.cells [.int .i64 k,.int .i64 rc,.int .i64 rn,.int .i64 bc,.int .i64 bn,.int .i64 ic,.int .i64 nn,.int .i64 sc,.int .i64 d,.int .i64 sz,.int .i64 n',.int .i64 bits,.int .i64 gn] Qk false)).up (m:=k1) (by simp only[Qa.next_push];omega);cases v with
 | false=>
  simp only[Qc,simprocAttr,V7];exact .mk hx.next ⟨by simp,hx⟩
 | true=>
  simp only[Qc,simprocAttr,np,nq,if_false,hp,hq,V7];exact .mk hx.next ⟨by simp,hx⟩
def Qj4 (s:Nat) (g:Gv):Bool:=
 match s with
 | 0=>false
 | 1=>WH g 1||WH g 2 | 2=>WH g 3 | 3=>WH g 4 | 4=>WH g 5 | 5=>WH g 6 | 6=>WH g 7
 | 7=>WH g 1||WH g 2||Yc g 1 | 8=>WH g 3||Yc g 2 | 9=>WH g 4||Yc g 4 | 10=>WH g 5||Yc g 8
 | 11=>WH g 6||Yc g 4 | 12=>WH g 6||Yc g 8 | 13=>WH g 6||Yc g 16 | 14=>WH g 7||Yc g 32
 | 15=>Yc g 0 | 16=>Yc g 4 | 17=>Yc g 8 | 18=>Yc g 16 | 19=>Yc g 32
 | 20=>(g.bits==8)
 | 21=>decide (8<g.bits)&&decide (-128<=g.n)&&decide (g.n<=127)
 | 22=>(g.bits==16) | 23=>(g.bits==32)
 | 24=>(g.bits==64)&&decide (-2147483648<=g.n)&&decide (g.n<=2147483647)
 | 25=>(g.bits==64)
 | 26=>(g.a.k==4)&&decide (-128<=g.a.n)&&decide (g.a.n<=127)
 | 27=>(g.a.k==4)
 | 28=>WH g 1&&(g.a.r.n==0) | 29=>WH g 3&&(g.a.r.n==0) | 30=>WH g 4&&(g.a.r.n==0) | 31=>WH g 5&&(g.a.r.n==0) | 32=>WH g 1&&(g.a.r.n==1)
 | 33=>decide (0<g.bits)&&(g.n==1)
 | 34=>Yc g 2
 | _=>false
def Qq4 (H:Qa) (v:Value) (s:Nat):Prop:=∃ (f:FuncId) (ys:List Value),v=.func (.func f) #[] ys.toArray∧∀ (g:Gv) (H2:Qa),Ext H H2->Qf prog f ([.agg g.cells.toArray]++ys) H2 λu H3=>u=.bool (Qj4 s g)∧Ext H2 H3
theorem Qz {f:FuncId} {s:Nat} (H:Qa) (q:∀ (g:Gv) (H:Qa),Qf prog f [.agg g.cells.toArray] H λu H'=>u=.bool (Qj4 s g)∧∃m,H'=H.up m):Qq4 H (.func (.func f) #[] #[]) s:=by
 refine⟨f,[],rfl,λg H2 _=>?_⟩;intro hw;obtain⟨v,H3,h1,h2,h3,h4,m,rfl⟩:=q g H2 hw;exact⟨v,_,h1,h2,h3,h4,(Ext.refl H2).up h2⟩
theorem QdI {H H':Qa} {p q:Nat} {c n:Int} {s:Nat} (hx:Ext H H') (hp:H.get p=some (.cells [.int .i64 c] 3 false)) (hq:H.get q=some (.cells [.int .i64 n] 3 false)) (lp:p<H.next) (lq:q<H.next) (e:∀g,Qj4 s g=(WH g c&&(g.a.r.n==n))):Qq4 H' (.func (.func Xm) #[] #[.pointer (some ⟨p,0,none⟩),.pointer (some ⟨q,0,none⟩)]) s:=by
 refine⟨Xm,[.pointer (some ⟨p,0,none⟩),.pointer (some ⟨q,0,none⟩)],rfl,λg H2 h2=>?_⟩;rw[e g];exact QAr g c n p q H2 (by rw[(hx.trans h2).get _ lp];exact hp) (by rw[(hx.trans h2).get _ lq];exact hq)
theorem QAs (H:Qa):Qf prog QcB [] H λu H'=>∃ (b:Nat) (cs:List Value),u=.slice (some ⟨b,0,none⟩) 35 35∧Ext H H'∧H.next<=b∧H'.get b=some (.cells cs Y2 false)∧cs.length=35∧∀s,s<35->∃v,cs[s]? = some v∧Qq4 H' v s:=by
 refine QnE λhw=>?_;simp only[QfQ,Qc,simprocAttr,Jc,Zc,Vl,Nat.reduceMul];refine(Qn5 1 0 H).thenW ?_;rintro _ H1 _ hw1 ⟨p0,r0,rfl,hx0,gp0,gr0,lp0,lr0⟩;simp only[Qc,simprocAttr,Jc,Zc,Vl,Nat.reduceMul];refine(Qn5 3 0 H1).thenW ?_;rintro _ H2 _ hw2 ⟨p1,r1,rfl,hx1,gp1,gr1,lp1,lr1⟩;simp only[Qc,simprocAttr,Jc,Zc,Vl,Nat.reduceMul];refine(Qn5 4 0 H2).thenW ?_;rintro _ H3 _ hw3 ⟨p2,r2,rfl,hx2,gp2,gr2,lp2,lr2⟩;simp only[Qc,simprocAttr,Jc,Zc,Vl,Nat.reduceMul];refine(Qn5 5 0 H3).thenW ?_;rintro _ H4 _ hw4 ⟨p3,r3,rfl,hx3,gp3,gr3,lp3,lr3⟩;simp only[Qc,simprocAttr,Jc,Zc,Vl,Nat.reduceMul];refine(Qn5 1 1 H4).thenW ?_;rintro _ H5 _ hw5 ⟨p4,r4,rfl,hx4,gp4,gr4,lp4,lr4⟩;simp only[Qc,simprocAttr,Jc,Zc,Vl,Nat.reduceMul];have y1:=hx0;have y5:=(((hx0.trans hx1).trans hx2).trans hx3).trans hx4;simp only[Ql7,Qq,simprocAttr];have hx6:=y5.push;refine .mk (hx6 _).next ⟨H5.next,_,rfl,hx6 _,y5.next,by rw[Qa.get_push,if_pos rfl],rfl,λs hs=>?_⟩;generalize hK:H5.push _=K;have z5:Ext H5 K:=by rw[<- hK];exact(Ext.refl H5).push _
 clear hK;have z4:=hx4.trans z5;have z3:=hx3.trans z4;have z2:=hx2.trans z3;have z1:=hx1.trans z2;rcases s with _ | _ | _ | _ | _ | _ | _ | _ | _ | _ | _ | _ | _ | _ | _ | _ | _ | _ | _ | _ | _ | _ | _ | _ | _ | _ | _ | _ | _ | _ | _ | _ | _ | _ | _ | s
 ·exact⟨_,rfl,Qz K QEl⟩
 ·exact⟨_,rfl,Qz K QEm⟩
 ·exact⟨_,rfl,Qz K QEn⟩
 ·exact⟨_,rfl,Qz K QEo⟩
 ·exact⟨_,rfl,Qz K QEp⟩
 ·exact⟨_,rfl,Qz K QEq⟩
 ·exact⟨_,rfl,Qz K QEr⟩
 ·exact⟨_,rfl,Qz K QEs⟩
 ·exact⟨_,rfl,Qz K QDu⟩
 ·exact⟨_,rfl,Qz K QDv⟩
 ·exact⟨_,rfl,Qz K QDw⟩
 ·exact⟨_,rfl,Qz K QDx⟩
 ·exact⟨_,rfl,Qz K QDy⟩
 ·exact⟨_,rfl,Qz K QDz⟩
 ·exact⟨_,rfl,Qz K QDA⟩
 ·exact⟨_,rfl,Qz K QDB⟩
 ·exact⟨_,rfl,Qz K QDD⟩
 ·exact⟨_,rfl,Qz K QDE⟩
 ·exact⟨_,rfl,Qz K QDF⟩
 ·exact⟨_,rfl,Qz K QDG⟩
 ·exact⟨_,rfl,Qz K QDH⟩
 ·exact⟨_,rfl,Qz K QDI⟩
 ·exact⟨_,rfl,Qz K QDJ⟩
 ·exact⟨_,rfl,Qz K QDK⟩
 ·exact⟨_,rfl,Qz K QDL⟩
 ·exact⟨_,rfl,Qz K QDM⟩
 ·exact⟨_,rfl,Qz K QDN⟩
 ·exact⟨_,rfl,Qz K QDO⟩
 ·exact⟨_,rfl,QdI z1 gp0 gr0 lp0 lr0 (λ_=>rfl)⟩
 ·exact⟨_,rfl,QdI z2 gp1 gr1 lp1 lr1 (λ_=>rfl)⟩
 ·exact⟨_,rfl,QdI z3 gp2 gr2 lp2 lr2 (λ_=>rfl)⟩
 ·exact⟨_,rfl,QdI z4 gp3 gr3 lp3 lr3 (λ_=>rfl)⟩
 ·exact⟨_,rfl,QdI z5 gp4 gr4 lp4 lr4 (λ_=>rfl)⟩
 ·exact⟨_,rfl,Qz K QDP⟩
 ·exact⟨_,rfl,Qz K QDC⟩
 ·omega
def QuB (ib:Int×Bool) (a:Ar):Gv:=if a.k=3 then⟨a,ib.1,(Kh a.n ib.1 ib.2).1⟩ else⟨a,0,0⟩
def QhE (ib:Int×Bool) (a:Ar) (s:Int):Bool:=(!(a.k==3)||((Kh a.n ib.1 ib.2).2==0))&&Qj4 s.toNat (QuB ib a)
def Qgl (f:Fm) (op:Int) (l:List Ar):Bool:=(f.op==op)&&(f.shapes.length==l.length)&&(Qk1 f==0)&&(QT op l==0)&&(List.range l.length).all λi=>QhE (Xp op l) (l.getD i Wi) (f.shapes.getD i 0)
section
variable {x:Lf} {op:Int} {va:Value} {l:List Ar} {H:Qa}
abbrev KF (H:Qa) (r:Bool):Env->Qa->Prop:=Rt prog QqJ H λv H'=>v=.bool r∧Ext H H'
structure FtF (H H':Qa) (x:Lf) (op:Int) (va:Value) (A:Env):Prop where
 xt:Ext H H'
 w:H'.Wf
 g2:H'.get H.next=some (.cells x.cells Qe false)
 g3:H'.get (H.next+1)=some (.cells [.int .i64 op,va] Qb false)
 lt:H.next+2<=H'.next
 r2:A 2=.pointer (some ⟨H.next,0,none⟩)
 r3:A 3=.pointer (some ⟨H.next+1,0,none⟩)
theorem FtF.go {H' H'':Qa} {A B:Env} (h:FtF H H' x op va A) (hx:Ext H' H'') (hw:H''.Wf) (e2:B 2=A 2) (e3:B 3=A 3):FtF H H'' x op va B:=
 ⟨h.xt.trans hx,hw,by rw[hx.get _ (by have:=h.lt;omega)];exact h.g2,by rw[hx.get _ (by have:=h.lt;omega)];exact h.g3,by have:=h.lt;have:=hx.next;omega,e2.trans h.r2,e3.trans h.r3⟩
theorem QDQ {W:Bool} {i tb p:Nat} {cs:List Value} {v:Value} {g:Gv} {H0:Qa} {A:Env} {H1:Qa} {E:Nat->Env->Qa->Prop} {K:Env->Qa->Prop} (hw:H.Wf) (hx:x.At H) (hF:FtF H H1 x op va A) (hi:i<x.f.shapes.length) (hs:1<=x.f.shapes.getD i 0∧x.f.shapes.getD i 0<=34) (r7:A 7=.slice (some ⟨tb,0,none⟩) 35 35) (r8:A 8=.int .i64 i) (hgt:H1.get tb=some (.cells cs Y2 false)) (hcv:cs[(x.f.shapes.getD i 0).toNat]? = some v) (hT:Qq4 H0 v (x.f.shapes.getD i 0).toNat) (h01:Ext H0 H1) (r10:A 10=.pointer (some ⟨p,0,none⟩)) (hg:H1.get p=some (.cells g.cells Qk false)) (h0:Qj4 (x.f.shapes.getD i 0).toNat g=false->W=false)
  (h1:Qj4 (x.f.shapes.getD i 0).toNat g=true->∀ (B:Env) (H2:Qa),Ext H1 H2->H2.Wf->B 2=A 2->B 3=A 3->B 5=A 5->B 6=A 6->B 7=A 7->B 42=A 42->B 43=A 43->B 44=A 44->K B H2):
  Qt prog VV ⟨KF H W,E⟩ K A H1:=by
 obtain⟨hx1,hw1,g2,g3,hn1,r2,r3⟩:=id hF;obtain⟨a1,c1,e1,q1⟩:=id hx.2.2.1;have x1:x.cells[1]? = some (.slice a1 x.f.shapes.length c1):=by rw[<- e1];rfl
 obtain⟨b,e,ro,rfl,hgb0⟩:=q1 (by omega);have hgb:H1.get b=some (.cells (ints x.f.shapes) e ro):=by rw[hx1.get b (hw.lt hgb0)];exact hgb0
 have d1:(0:Int)<=i∧(i:Int)<x.f.shapes.length:=by omega
 have d3:(i:Int).toNat=i:=by omega
 have hsi:(ints x.f.shapes)[i]? = some (.int .i64 (x.f.shapes.getD i 0)):=by
  simp[ints,List.getElem?_map,List.getD_eq_getElem?_getD,List.getElem?_eq_getElem hi]
 generalize x.f.shapes.getD i 0=s at *;have d4:(0:Int)<=s∧s<((35:Nat):Int):=by omega
 have g13:g.cells.take 13=g.cells:=rfl;have l13:13<=g.cells.length:=Nat.le_refl _;obtain⟨f,ys,rfl,hq⟩:=hT;simp only[VV,sxA,sxB,Nat.reduceBEq,Nat.reduceEqDiff,reduceCtorEq,mxA,mxB,Nat.reduceAdd,reduceIte,Nat.reduceLeDiff,splice,r2,r7,r8,r10,g2,x1,hgb,d1,d3,hsi,hgt,d4,hcv,hg,g13,List.drop_zero,QvK];refine⟨l13,?_⟩;refine(show Qf prog f (.agg g.cells.toArray::ys) H1 _ from hq g H1 h01).thenW ?_;rintro _ H2 hn2 hw2 ⟨rfl,hx2⟩;cases c:Qj4 s.toNat g with
 | false=>
  simp only[sxA,sxB,Nat.reduceBEq,Nat.reduceEqDiff,reduceCtorEq,mxA,mxB,Nat.reduceAdd,reduceIte,Nat.reduceLeDiff,splice,XC];exact .mk (hx1.trans hx2).next ⟨by rw[h0 c],hx1.trans hx2⟩
 | true=>
  simp only[sxA,sxB,Nat.reduceBEq,Nat.reduceEqDiff,reduceCtorEq,mxA,mxB,Nat.reduceAdd,reduceIte,Nat.reduceLeDiff,splice];refine h1 c _ H2 hx2 hw2 ?_ ?_ ?_ ?_ ?_ ?_ ?_ ?_
  all_goals simp only[uxA,uxB,Nat.reduceBEq]
theorem QEt (hw:H.Wf) (hx:x.At H) (ha:QS H va l) (hl:l.length<=1000) (hI:∀a∈l,I64 a.n) (hs:Qk1 x.f=0) (hn:x.f.shapes.length=l.length) {W:Bool} (eW:W=(List.range l.length).all λi=>QhE (Xp op l) (l.getD i Wi) (x.f.shapes.getD i 0)) {A:Env} {H1:Qa} (hF:FtF H H1 x op va A):
  Qt prog VW ⟨KF H W,Z5⟩ (KF H W) A H1:=by
 obtain⟨hx1,hw1,g2,g3,hn1,r2,r3⟩:=id hF;obtain⟨a0,cap,rfl⟩:=Q0 ha;simp only[VW,sxA,sxB,Nat.reduceBEq,Nat.reduceEqDiff,reduceCtorEq,mxA,mxB,Nat.reduceAdd,reduceIte,Nat.reduceLeDiff,splice,r2,r3,g2,g3,List.drop_zero,List.take];refine(QbN op _ l H1 (ha.ext hw hx1) hl).thenW ?_;rintro _ _ hn2 hw2 ⟨rfl,k,rfl⟩;have hx2:Ext H1 (H1.up k):=(Ext.refl H1).up hn2;obtain⟨ib,eib⟩:∃ib,ib=Xp op l:=⟨_,rfl⟩;rw[<- eib]at eW ⊢;simp only[sxA,sxB,Nat.reduceBEq,Nat.reduceEqDiff,reduceCtorEq,mxA,mxB,Nat.reduceAdd,reduceIte,Nat.reduceLeDiff,splice];refine(QAs (H1.up k)).thenW ?_;rintro _ H3 hn3 hw3 ⟨tb,cs,rfl,hx3,htb,hgt,hcl,hT⟩;obtain⟨hx03,_,g32,g33,hn33,_,_⟩:=hF.go (hx2.trans hx3) hw3 (B:=A) rfl rfl;have ltb:=hw3.lt hgt;simp only[sxA,sxB,Nat.reduceBEq,Nat.reduceEqDiff,reduceCtorEq,mxA,mxB,Nat.reduceAdd,reduceIte,Nat.reduceLeDiff,splice,r2,r3,g32,g33];refine Qu (λm A' H'=>∃i:Nat,i<=l.length∧m=l.length - i∧FtF H H' x op (.slice a0 l.length cap) A'∧Ext H3 H'∧A' 5=.int .i64 ib.1∧A' 6=.bool ib.2∧A' 7=.slice (some ⟨tb,0,none⟩) 35 35∧A' 42=.slice a0 l.length cap∧A' 43=.int .i64 l.length∧A' 44=.int .i64 i∧∀j,j<i->QhE ib (l.getD j Wi) (x.f.shapes.getD j 0)=true) l.length ?_ ?_
 ·refine⟨0,Nat.zero_le _,by omega,hF.go (hx2.trans hx3) hw3 ?_ ?_,Ext.refl _,?_,?_,?_,?_,?_,?_,λj h=>by omega⟩
  all_goals simp only[uxA,uxB,Nat.reduceBEq]
  all_goals rfl
 ·rintro m A' H' ⟨i,hi,rfl,hF',hx',r5,r6,r7,r42,r43,r44,hall⟩;obtain⟨hxH,hw',g2',g3',hn',r2',r3'⟩:=id hF';simp only[QeO,sxA,sxB,Nat.reduceBEq,Nat.reduceEqDiff,reduceCtorEq,mxA,mxB,Nat.reduceAdd,reduceIte,Nat.reduceLeDiff,splice,r43,r44];refine Qh (λh2=>?_) (λh2=>?_)
  ·have h2:i<l.length:=by have:=of_decide_eq_true h2;omega
   obtain⟨a,hai⟩:∃a,l[i]? = some a:=⟨_,List.getElem?_eq_getElem h2⟩;obtain⟨a0',cap',e0,h1⟩:=ha;cases e0;obtain⟨b,e,ro,rfl,hgb0⟩:=h1 (by omega);have hgb:H'.get b=some (.cells (Qg l) e ro):=by rw[hxH.get b (hw.lt hgb0)];exact hgb0
   have htk:=Wx l i a hai;have hle:i * 11+11<=(Qg l).length:=by rw[QF];omega
   have d1:(0:Int)<=i∧(i:Int)<l.length:=by omega
   have d3:(i:Int).toNat=i:=by omega
   have hga:l.getD i Wi=a:=by rw[List.getD_eq_getElem?_getD,hai];rfl
   have hIa:I64 a.n:=hI a (List.mem_of_getElem? hai);have qi:=Vd a.n ib.1 ib.2 hIa;have hfa:QhE ib (l.getD i Wi) (x.f.shapes.getD i 0)=((!(a.k==3)||((Kh a.n ib.1 ib.2).2==0))&&Qj4 (x.f.shapes.getD i 0).toNat (QuB ib a)):=by rw[hga];rfl
   have hsh:=Qw3 hs i (by omega);obtain⟨gv,egv⟩:∃gv,gv=QuB ib a:=⟨_,rfl⟩;rw[<- egv]at hfa;obtain⟨ak,⟨rc,rn⟩,⟨⟨bc,bn⟩,⟨ic,nn⟩,sc,d,sz⟩,n⟩:=a;simp only[Ar.cells]at htk;simp only at hfa qi;simp only[QeN,sxA,sxB,Nat.reduceBEq,Nat.reduceEqDiff,reduceCtorEq,mxA,mxB,Nat.reduceAdd,reduceIte,Nat.reduceLeDiff,splice,r42,r44,d1,d3,hgb,htk];refine⟨hle,?_⟩;generalize hH4:(Qa.set (Qa.push (Qa.set (Qa.push H' _) _ _) _) _ _)=H4;have hx4:Ext H' H4:=by
    rw[<- hH4];refine Ext.set (Ext.push (Ext.set (Ext.push (Ext.refl H') _) ?_ _) _) ?_ _
    all_goals omega
   have hw4:H4.Wf:=by
    rw[<- hH4];refine Qa.Wf.set (b0:=.cells [.int .i64 0,.int .i64 0,.int .i64 0,.int .i64 0,.int .i64 0,.int .i64 0,.int .i64 0,.int .i64 0,.int .i64 0,.int .i64 0,.int .i64 0,.int .i64 0,.int .i64 0] Qk false) (Qa.Wf.push (hw'.push _ |>.set (b0:=.cells [.int .i64 0,.int .i64 0,.int .i64 0,.int .i64 0,.int .i64 0,.int .i64 0,.int .i64 0,.int .i64 0,.int .i64 0,.int .i64 0,.int .i64 0] Qd false) (by rw[Qa.get_push,if_pos rfl]) _) _) (by rw[Qa.get_push];exact if_pos rfl) _
   have g49:H4.get H'.next=some (.cells [.int .i64 ak,.int .i64 rc,.int .i64 rn,.int .i64 bc,.int .i64 bn,.int .i64 ic,.int .i64 nn,.int .i64 sc,.int .i64 d,.int .i64 sz,.int .i64 n] Qd false):=by
    rw[<- hH4,Qa.get_set,if_neg (by omega),Qa.get_push,if_neg (by simp only[Qa.next_set,Qa.next_push];omega),Qa.get_set,if_pos rfl]
   have g4A:H4.get (H'.next+1)=some (.cells [.int .i64 ak,.int .i64 rc,.int .i64 rn,.int .i64 bc,.int .i64 bn,.int .i64 ic,.int .i64 nn,.int .i64 sc,.int .i64 d,.int .i64 sz,.int .i64 n,.int .i64 0,.int .i64 0] Qk false):=by
    rw[<- hH4,Qa.get_set,if_pos rfl]
   have hn4:H'.next+2<=H4.next:=by rw[<- hH4];simp only[Qa.next_set,Qa.next_push];omega
   clear hH4;have hend:∀ (B:Env) (H5:Qa),QhE ib (l.getD i Wi) (x.f.shapes.getD i 0)=true->Ext H' H5->H5.Wf->B 2=A' 2->B 3=A' 3->B 5=A' 5->B 6=A' 6->B 7=A' 7->B 42=A' 42->B 43=A' 43->B 44=.int .i64 ((i+1:Nat):Int)->Qsd (λm A' H'=>∃i:Nat,i<=l.length∧m=l.length - i∧FtF H H' x op (.slice (some ⟨b,0,none⟩) l.length cap) A'∧Ext H3 H'∧A' 5=.int .i64 ib.1∧A' 6=.bool ib.2∧A' 7=.slice (some ⟨tb,0,none⟩) 35 35∧A' 42=.slice (some ⟨b,0,none⟩) l.length cap∧A' 43=.int .i64 l.length∧A' 44=.int .i64 i∧∀j,j<i->QhE ib (l.getD j Wi) (x.f.shapes.getD j 0)=true) (l.length - i) B H5:=by
    intro B H5 hft e1 e2 p2 p3 p5 p6 p7 p42 p43 p44;refine⟨l.length - (i+1),by omega,i+1,by omega,rfl,hF'.go e1 e2 p2 p3,hx'.trans e1,p5.trans r5,p6.trans r6,p7.trans r7,p42.trans r42,p43.trans r43,p44,λj hj=>?_⟩
    by_cases h:j=i
    ·rw[h];exact hft
    ·exact hall j (by omega)
   have ei:IntKind.i64.wrap ((i:Int)+1)=((i+1:Nat):Int):=by rw[w64 (by unfold I64;omega)];omega
   have hbad:QhE ib (l.getD i Wi) (x.f.shapes.getD i 0)=false->W=false:=λh=>by rw[eW];exact JQ h2 h
   obtain⟨tv,htv,hTv⟩:=hT (x.f.shapes.getD i 0).toNat (by omega);have hF4:∀B:Env,B 2=A' 2->B 3=A' 3->FtF H H4 x op (.slice (some ⟨b,0,none⟩) l.length cap) B:=λB e2 e3=>hF'.go hx4 hw4 e2 e3;have hgt4:H4.get tb=some (.cells cs Y2 false):=((hx'.trans hx4).get tb ltb).trans hgt;cases c:ak==3 with
   | false=>
    have eg:gv=⟨⟨ak,⟨rc,rn⟩,⟨⟨bc,bn⟩,⟨ic,nn⟩,sc,d,sz⟩,n⟩,0,0⟩:=by rw[egv,QuB,if_neg (by simpa using c)]
    rw[c,Bool.not_false,Bool.true_or,Bool.true_and]at hfa;simp only[sxA,sxB,Nat.reduceBEq,Nat.reduceEqDiff,reduceCtorEq,mxA,mxB,Nat.reduceAdd,reduceIte,Nat.reduceLeDiff,splice];refine QDQ (H0:=H3) (g:=gv) (p:=H'.next+1) (i:=i) hw hx (hF4 _ ?_ ?_) (by omega) hsh (tb:=tb) (cs:=cs) (v:=tv) ?_ ?_ hgt4 htv hTv (hx'.trans hx4) ?_ (by rw[eg];exact g4A) (λh=>hbad (hfa.trans h)) ?_
    all_goals (try (simp only[uxA,uxB,Nat.reduceBEq,r7];done))
    intro h B H5 e1 e2 p2 p3 p5 p6 p7 p42 p43 p44;simp only[uxA,uxB,Nat.reduceBEq]at p2 p3 p5 p6 p7 p42 p43 p44;simp only[sxA,sxB,Nat.reduceBEq,Nat.reduceEqDiff,reduceCtorEq,mxA,mxB,Nat.reduceAdd,reduceIte,Nat.reduceLeDiff,splice,p44,r44,ei];refine hend _ H5 (hfa.trans h) (hx4.trans e1) e2 ?_ ?_ ?_ ?_ ?_ ?_ ?_ ?_
    all_goals simp only[uxA,uxB,Nat.reduceBEq,p2,p3,p5,p6,p7,p42,p43]
   | true=>
    have eg:gv=⟨⟨ak,⟨rc,rn⟩,⟨⟨bc,bn⟩,⟨ic,nn⟩,sc,d,sz⟩,n⟩,ib.1,(Kh n ib.1 ib.2).1⟩:=by rw[egv,QuB,if_pos (by simpa using c)]
    rw[c,Bool.not_true,Bool.false_or]at hfa;simp only[QeM,sxA,sxB,Nat.reduceBEq,Nat.reduceEqDiff,reduceCtorEq,mxA,mxB,Nat.reduceAdd,reduceIte,Nat.reduceLeDiff,splice,g49,r5,r6];refine(qi H4).thenW ?_;rintro _ H4' hn6 hw6 ⟨rfl,eH4⟩;rw[eH4];obtain⟨m1,em1⟩:∃m1,m1=(Kh n ib.1 ib.2).1:=⟨_,rfl⟩;obtain⟨m2,em2⟩:∃m2,m2=(Kh n ib.1 ib.2).2:=⟨_,rfl⟩;rw[<- em1]at eg ⊢;rw[<- em2]at hfa ⊢;simp only[sxA,sxB,Nat.reduceBEq,Nat.reduceEqDiff,reduceCtorEq,mxA,mxB,Nat.reduceAdd,reduceIte,Nat.reduceLeDiff,splice];cases c2:m2==0 with
    | false=>
     simp only[sxA,sxB,Nat.reduceBEq,Nat.reduceEqDiff,reduceCtorEq,mxA,mxB,Nat.reduceAdd,reduceIte,Nat.reduceLeDiff,splice,c2,XC];exact .mk (hxH.trans hx4).next ⟨by rw[hbad (by rw[hfa,c2];rfl)],hxH.trans hx4⟩
    | true=>
     rw[c2,Bool.true_and]at hfa;simp only[sxA,sxB,Nat.reduceBEq,Nat.reduceEqDiff,reduceCtorEq,mxA,mxB,Nat.reduceAdd,reduceIte,Nat.reduceLeDiff,splice,c2,r5,g4A];generalize hH6:Qa.set (Qa.set H4 _ _) _ _=H6;have hx6:Ext H' H6:=by
      rw[<- hH6];refine Ext.set (Ext.set hx4 ?_ _) ?_ _
      all_goals omega
     have hw6:H6.Wf:=by
      rw[<- hH6];exact Qa.Wf.set (b0:=.cells _ Qk false) (Qa.Wf.set hw4 g4A _) (by rw[Qa.get_set,if_pos rfl]) _
     have g6A:H6.get (H'.next+1)=some (.cells [.int .i64 ak,.int .i64 rc,.int .i64 rn,.int .i64 bc,.int .i64 bn,.int .i64 ic,.int .i64 nn,.int .i64 sc,.int .i64 d,.int .i64 sz,.int .i64 n,.int .i64 ib.1,.int .i64 m1] Qk false):=by
      rw[<- hH6,Qa.get_set,if_pos rfl]
     clear hH6;have hgt6:H6.get tb=some (.cells cs Y2 false):=((hx'.trans hx6).get tb ltb).trans hgt;refine QDQ (H0:=H3) (g:=gv) (p:=H'.next+1) (i:=i) hw hx (hF'.go hx6 hw6 ?_ ?_) (by omega) hsh (tb:=tb) (cs:=cs) (v:=tv) ?_ ?_ hgt6 htv hTv (hx'.trans hx6) ?_ (by rw[eg];exact g6A) (λh=>hbad (hfa.trans h)) ?_
     all_goals (try (simp only[uxA,uxB,Nat.reduceBEq,r7];done))
     intro h B H5 e1 e2 p2 p3 p5 p6 p7 p42 p43 p44;simp only[uxA,uxB,Nat.reduceBEq]at p2 p3 p5 p6 p7 p42 p43 p44;simp only[sxA,sxB,Nat.reduceBEq,Nat.reduceEqDiff,reduceCtorEq,mxA,mxB,Nat.reduceAdd,reduceIte,Nat.reduceLeDiff,splice,p44,r44,ei];refine hend _ H5 (hfa.trans h) (hx6.trans e1) e2 ?_ ?_ ?_ ?_ ?_ ?_ ?_ ?_
     all_goals simp only[uxA,uxB,Nat.reduceBEq,p2,p3,p5,p6,p7,p42,p43]
  ·have h2:i=l.length:=by have:=of_decide_eq_false h2;omega
   subst h2;have eT:W=true:=by rw[eW];exact KQ λj hj=>hall j hj
   simp only[sxA,sxB,Nat.reduceBEq,Nat.reduceEqDiff,reduceCtorEq,mxA,mxB,Nat.reduceAdd,reduceIte,Nat.reduceLeDiff,splice,XC];exact .mk hxH.next ⟨by rw[eT],hxH⟩
theorem QEu (hw:H.Wf) (hx:x.At H) (hf:x.Fr 0) (ha:QS H va l) (hl:l.length<=1000) (hI:∀a∈l,I64 a.n) (hn:x.f.shapes.length=l.length) {W:Bool} (eW:W=((Qk1 x.f==0)&&(QT op l==0)&&(List.range l.length).all λi=>QhE (Xp op l) (l.getD i Wi) (x.f.shapes.getD i 0))) {A:Env} {H1:Qa} (hF:FtF H H1 x op va A):
  Qt prog VX ⟨KF H W,Z5⟩ (KF H W) A H1:=by
 obtain⟨hx1,hw1,g2,g3,hn1,r2,r3⟩:=id hF;have e10:x.cells.take 10=x.cells:=rfl;have l10:10<=x.cells.length:=Nat.le_refl _;simp only[VX,sxA,sxB,Nat.reduceBEq,Nat.reduceEqDiff,reduceCtorEq,mxA,mxB,Nat.reduceAdd,reduceIte,Nat.reduceLeDiff,splice,r2,r3,g2,g3,List.drop_zero,e10];refine⟨l10,?_⟩;refine(Qo9 x H1 (hx.ext hw hx1) hf).thenW ?_;rintro _ _ hn2 hw2 ⟨rfl,k,rfl⟩;have hx2:Ext H1 (H1.up k):=(Ext.refl H1).up hn2;obtain⟨hx3,_,g22,g23,hn3,_,_⟩:=hF.go hx2 hw2 rfl rfl;cases c:Qk1 x.f==0 with
 | false=>
  simp only[sxA,sxB,Nat.reduceBEq,Nat.reduceEqDiff,reduceCtorEq,mxA,mxB,Nat.reduceAdd,reduceIte,Nat.reduceLeDiff,splice,r2,r3,g22,g23,c,XC];exact .mk hx3.next ⟨by rw[eW,c];rfl,hx3⟩
 | true=>
  simp only[sxA,sxB,Nat.reduceBEq,Nat.reduceEqDiff,reduceCtorEq,mxA,mxB,Nat.reduceAdd,reduceIte,Nat.reduceLeDiff,splice,r2,r3,g22,g23,c,List.drop_zero,List.take];refine(Za op va l _ (ha.ext hw hx3) hl hI).thenW ?_;rintro _ _ hn4 hw4 ⟨rfl,k2,rfl⟩;have hx4:Ext H1 ((H1.up k).up k2):=hx2.up hn4;have hF4:∀B:Env,B 2=A 2->B 3=A 3->FtF H ((H1.up k).up k2) x op va B:=λB e2 e3=>hF.go hx4 hw4 e2 e3;cases c2:QT op l==0 with
  | false=>
   simp only[sxA,sxB,Nat.reduceBEq,Nat.reduceEqDiff,reduceCtorEq,mxA,mxB,Nat.reduceAdd,reduceIte,Nat.reduceLeDiff,splice,c2,XC];exact .mk (hx1.trans hx4).next ⟨by rw[eW,c,c2];rfl,hx1.trans hx4⟩
  | true=>
   simp only[sxA,sxB,Nat.reduceBEq,Nat.reduceEqDiff,reduceCtorEq,mxA,mxB,Nat.reduceAdd,reduceIte,Nat.reduceLeDiff,splice,c2];refine QEt hw hx ha hl hI (beq_iff_eq.1 c) hn (by rw[eW,c,c2];rfl) (hF4 _ ?_ ?_)
   all_goals simp only[uxA,uxB,Nat.reduceBEq]
end
theorem Qq5 {x:Lf} {op:Int} {va:Value} {l:List Ar} (H:Qa) (hx:x.At H) (hf:x.Fr 0) (ha:QS H va l) (hl:l.length<=1000) (hI:∀a∈l,I64 a.n):
  Qf prog QdZ [.agg x.cells.toArray,.agg #[.int .i64 op,va]] H λv H'=>v=.bool (Qgl x.f op l)∧Ext H H':=by
 refine QoP λhw=>?_;have ex:(Value.agg x.cells.toArray).cells.toList=x.cells:=rfl;have e10:x.cells.take 10=x.cells:=rfl;have x0:x.cells[0]? = some (.int .i64 x.f.op):=rfl;have l10:10<=x.cells.length:=Nat.le_refl _;obtain⟨a1,c1,e1⟩:=Q0 hx.2.2.1;have x1:x.cells[1]? = some (.slice a1 x.f.shapes.length c1):=by rw[<- e1];rfl
 obtain⟨W,eW⟩:∃W,W=Qgl x.f op l:=⟨_,rfl⟩;rw[<- eW];obtain⟨a0,cap,rfl⟩:=Q0 ha;simp only[Qhn,ex,sxA,sxB,Nat.reduceBEq,Nat.reduceEqDiff,reduceCtorEq];generalize hH1:Qa.push H (.cells x.cells Qe false)=H1;have g1:H1.get H.next=some (.cells x.cells Qe false):=by rw[<- hH1,Qa.get_push,if_pos rfl]
 have hx1:Ext H H1:=by rw[<- hH1];exact(Ext.refl H).push _
 have hn1:H1.next=H.next+1:=by rw[<- hH1];rfl
 have hw1:H1.Wf:=by rw[<- hH1];exact hw.push _
 clear hH1;simp only[sxA,sxB,Nat.reduceBEq,Nat.reduceEqDiff,reduceCtorEq,mxA,mxB,Nat.reduceAdd,reduceIte,Nat.reduceLeDiff,splice,hn1];generalize hH2:Qa.push H1 _=H2;have hx2:Ext H H2:=by rw[<- hH2];exact(hx1.push _)
 have hw2:H2.Wf:=by rw[<- hH2];exact(hw1.push _)
 have g22:H2.get H.next=some (.cells x.cells Qe false):=by rw[<- hH2,Qa.get_push,if_neg (by omega)];exact g1
 have g23:H2.get (H.next+1)=some (.cells [.int .i64 op,.slice a0 l.length cap] Qb false):=by rw[<- hH2,Qa.get_push,if_pos (by omega)]
 have hn2:H2.next=H.next+2:=by rw[<- hH2,Qa.next_push,hn1]
 clear hH2;simp only[sxA,sxB,Nat.reduceBEq,Nat.reduceEqDiff,reduceCtorEq,mxA,mxB,Nat.reduceAdd,reduceIte,Nat.reduceLeDiff,splice,g1,g22,g23,List.drop_zero,e10,x0,x1];have hF:∀A:Env,A 2=.pointer (some ⟨H.next,0,none⟩)->A 3=.pointer (some ⟨H.next+1,0,none⟩)->FtF H H2 x op (.slice a0 l.length cap) A:=λA e2 e3=>⟨hx2,hw2,g22,g23,by omega,e2,e3⟩;cases c1:x.f.op==op with
 | false=>
  simp only[sxA,sxB,Nat.reduceBEq,Nat.reduceEqDiff,reduceCtorEq,mxA,mxB,Nat.reduceAdd,reduceIte,Nat.reduceLeDiff,splice,g22,g23,x1,XC];exact .mk hx2.next ⟨by rw[eW,Qgl,c1];rfl,hx2⟩
 | true=>
  simp only[sxA,sxB,Nat.reduceBEq,Nat.reduceEqDiff,reduceCtorEq,mxA,mxB,Nat.reduceAdd,reduceIte,Nat.reduceLeDiff,splice,g22,g23,x1];have el:((x.f.shapes.length:Int)==(l.length:Int))=(x.f.shapes.length==l.length):=by
   rw[Bool.eq_iff_iff,beq_iff_eq,beq_iff_eq];omega
  rw[el];cases c2:x.f.shapes.length==l.length with
  | false=>
   simp only[sxA,sxB,Nat.reduceBEq,Nat.reduceEqDiff,reduceCtorEq,mxA,mxB,Nat.reduceAdd,reduceIte,Nat.reduceLeDiff,splice,XC];exact .mk hx2.next ⟨by rw[eW,Qgl,c1,c2];rfl,hx2⟩
  | true=>
   simp only[sxA,sxB,Nat.reduceBEq,Nat.reduceEqDiff,reduceCtorEq,mxA,mxB,Nat.reduceAdd,reduceIte,Nat.reduceLeDiff,splice];refine QEu hw hx hf ha hl hI (beq_iff_eq.1 c2) (by rw[eW,Qgl,c1,c2];rfl) (hF _ ?_ ?_)
   all_goals simp only[uxA,uxB,Nat.reduceBEq]
def tlN (f:Fm):Int:=if 0<=QE f.slots 7 then tlF f - 1 else tlF f
def QAt (f:Fm) (op:Int) (l:List Ar):Int:=if(l[(QE f.slots 5).toNat]?.getD Wi).k=3 then(Kh (l[(QE f.slots 5).toNat]?.getD Wi).n (Xp op l).1 (Xp op l).2).1 else(l[(QE f.slots 5).toNat]?.getD Wi).n
def isB (n:Int):Int:=IntKind.u8.wrap (IntKind.i64.wrap (16 * n))
def ZZ (f:Fm) (op:Int) (l:List Ar):List Int:=(if 0<=QE f.slots 5 then(KM (QAt f op l) (tlN f)).1 else[])++(if 0<=QE f.slots 7 then[isB (l[(QE f.slots 7).toNat]?.getD Wi).r.n] else[])
theorem QvM (n sz:Int):(KM n sz).1.length<=1000:=by
 unfold KM;split
 ·simp
 ·split
  ·simp
  ·rename_i h _;have h:Qiu sz=true:=by simpa using h
   unfold Qiu at h;simp only[Bool.or_eq_true,beq_iff_eq]at h;simp only[QgX,List.length_map,List.length_range];omega
section
variable {x:Lf} {op:Int} {va:Value} {l:List Ar} {H:Qa}
abbrev KT (H:Qa) (W:List Int):Env->Qa->Prop:=Rt prog QoQ H λv H'=>Gx 1 5 H H' v W.length (bys W)∧Ext H H'
theorem QDR (hw:H.Wf) (ha:QS H va l) (hl:l.length<=1000) {W w:List Int} {s:Int} (hs:s<l.length) (hwl:w.length<=1000) (eW:W=w++(if 0<=s then[isB (l[s.toNat]?.getD Wi).r.n] else[])) {A:Env} {H1:Qa} {v:Value} (hx1:Ext H H1) (hw1:H1.Wf) (g3:H1.get (H.next+1)=some (.cells [.int .i64 op,va] Qb false)) (r3:A 3=.pointer (some ⟨H.next+1,0,none⟩)) (r5:A 5=v) (r7:A 7=.int .i64 s) (hv:Gx 1 5 H H1 v w.length (bys w)):
  Qt prog Ja ⟨KT H W,Z5⟩ (KT H W) A H1:=by
 obtain⟨a0,cap,rfl,h1⟩:=ha;simp only[Ja,Qc,simprocAttr,r7];refine Qh (λh=>?_) (λh=>?_)
 ·have h0:0<=s:=of_decide_eq_true h;rw[if_pos h0]at eW;obtain⟨i,rfl⟩:∃i:Nat,s=i:=⟨s.toNat,by omega⟩;have hil:i<l.length:=by omega
  obtain⟨a,hai⟩:∃a,l[i]? = some a:=⟨_,List.getElem?_eq_getElem hil⟩;obtain⟨b,e,ro,rfl,hgb0⟩:=h1 (by omega);have hgb:H1.get b=some (.cells (Qg l) e ro):=by rw[hx1.get b (hw.lt hgb0)];exact hgb0
  have hrg:=QlR hai;have d1:(0:Int)<=i∧(i:Int)<l.length:=by omega
  have d3:(i:Int).toNat=i:=by omega
  have hgd:(l[(i:Int).toNat]?.getD Wi).r.n=a.r.n:=by rw[d3,hai];rfl
  rw[hgd]at eW;simp only[Qdk,Qc,simprocAttr,r3,r5,r7,g3,d1,d3,hgb,hrg];refine Qbi (ms:=[.int .u8 (isB a.r.n)]) (m:=1) (hv.go hw1 ((Ext.refl H1).push _)) (hx1.push _) (hw1.push _) (Qse (by rw[Qa.get_push,if_pos rfl];rfl)) rfl rfl (by omega) (by omega) ?_;intro v2 H2 hv2 hk2;simp only[Qc,simprocAttr,QeP];have e2:W.length=w.length+1:=by rw[eW,List.length_append,List.length_singleton]
  have e3:bys W=bys w++[.int .u8 (isB a.r.n)]:=by rw[eW,bys,bys,List.map_append];rfl
  exact .mk hk2.x.next ⟨by rw[e2,e3];exact hv2,hk2.x⟩
 ·rw[if_neg (by have:=of_decide_eq_false h;omega),List.append_nil]at eW;simp only[Qc,simprocAttr,r5,QeP];exact .mk hx1.next ⟨by rw[eW];exact hv,hx1⟩
theorem QDS (hw:H.Wf) (hx:x.At H) (ha:QS H va l) (hl:l.length<=1000) (hI:∀a∈l,I64 a.n) (hn:x.f.slots.length=l.length) {W:List Int} (eW:W=ZZ x.f op l) {A:Env} {H1:Qa} (hF:FtF H H1 x op va A) (r5:A 5=.slice none 0 0) (r6:A 6=.int .i64 (tlN x.f)) (r7:A 7=.int .i64 (QE x.f.slots 7)):
  Qt prog GT ⟨KT H W,Z5⟩ (KT H W) A H1:=by
 obtain⟨hx1,hw1,g2,g3,hn1,r2,r3⟩:=id hF;have e10:x.cells.take 10=x.cells:=rfl;have l10:10<=x.cells.length:=Nat.le_refl _;have hlt5:=QsE x.f.slots 5;have hlt7:=QsE x.f.slots 7;unfold ZZ at eW;simp only[GT,Qc,simprocAttr,r2,g2,List.drop_zero,e10];refine⟨l10,?_⟩;refine(Q6 x 5 H1 (hx.ext hw hx1)).thenW ?_;rintro _ _ hn2 hw2 ⟨rfl,k,rfl⟩;have hx2:Ext H1 (H1.up k):=(Ext.refl H1).up hn2;obtain⟨hx3,_,g22,g23,hn3,_,_⟩:=hF.go hx2 hw2 rfl rfl;simp only[Qc,simprocAttr];refine Qh (λh=>?_) (λh=>?_)
 ·have h0:0<=QE x.f.slots 5:=of_decide_eq_true h;rw[if_pos h0]at eW;have eN:QAt x.f op l=if(l[(QE x.f.slots 5).toNat]?.getD Wi).k=3 then(Kh (l[(QE x.f.slots 5).toNat]?.getD Wi).n (Xp op l).1 (Xp op l).2).1 else(l[(QE x.f.slots 5).toNat]?.getD Wi).n:=rfl
  obtain⟨i,hi⟩:∃i:Nat,QE x.f.slots 5=i:=⟨(QE x.f.slots 5).toNat,by omega⟩;rw[hi]at hlt5 eN ⊢;have hil:i<l.length:=by omega
  obtain⟨a,hai⟩:∃a,l[i]? = some a:=⟨_,List.getElem?_eq_getElem hil⟩;have d1:(0:Int)<=i∧(i:Int)<l.length:=by omega
  have d3:(i:Int).toNat=i:=by omega
  have hgd:l[(i:Int).toNat]?.getD Wi=a:=by rw[d3,hai];rfl
  rw[hgd]at eN;have hIa:I64 a.n:=hI a (List.mem_of_getElem? hai);have hIm:=Qss a.n (Xp op l).1 (Xp op l).2 hIa;have qi:=Vd a.n (Xp op l).1 (Xp op l).2 hIa;have qb:=λH' (hx:Ext H H')=>QbN op va l H' (ha.ext hw hx) hl;obtain⟨a0,cap,rfl,h1⟩:=id ha;obtain⟨b,e,ro,rfl,hgb0⟩:=h1 (by omega);have hgb:(H1.up k).get b=some (.cells (Qg l) e ro):=by rw[hx3.get b (hw.lt hgb0)];exact hgb0
  have hk0:(Qg l)[i * 11]? = some (.int .i64 a.k):=by
   have:=Wx l i a hai;have h:=congrArg (λz=>z[0]?) this;simpa[Ar.cells,List.getElem?_take,List.getElem?_drop] using h
  have hk10:(Qg l)[i * 11+10]? = some (.int .i64 a.n):=by
   have:=Wx l i a hai;have h:=congrArg (λz=>z[10]?) this;simpa[Ar.cells,List.getElem?_take,List.getElem?_drop] using h
  generalize H1.up k=H2 at *;simp only[Qdm,Qc,simprocAttr,r3,g23,d1,d3,hgb,hk0,hk10];obtain⟨N,eNN⟩:∃N,N=QAt x.f op l:=⟨_,rfl⟩;rw[<- eNN]at eN eW;have hIN:I64 N:=by
   rw[eN];split
   ·exact hIm
   ·exact hIa
  have hput:∀ (B:Env) (H5:Qa),Ext H2 H5->H5.Wf->B 3=A 3->B 7=A 7->Qf prog Vm [.int .i64 N,.int .i64 (tlN x.f)] H5 (Qlx prog [Om 49 (t 52),Ow 53 (.ext (t 49) 0),Ow 54 (.ext (t 49) 1),Om 5 (t 53)] (Qt prog Ja ⟨KT H W,Z5⟩ (KT H W)) B (some 52)):=by
   intro B H5 e1 e2 p3 p7;refine(QlQ N (tlN x.f) hIN H5).thenW ?_;rintro _ H6 hn6 hw6 ⟨v,rfl,hv,hx6⟩;simp only[Qc,simprocAttr];have hx56:=(hx3.trans e1).trans hx6;have hnn:=(hx3.trans e1).next;refine QDR hw ha hl (by omega) (QvM N (tlN x.f)) eW (v:=v) hx56 hw6 (by rw[(e1.trans hx6).get _ (by omega)];exact g23) ?_ ?_ ?_ (hv.down hnn)
   all_goals simp only[Qq,simprocAttr,p3,p7,r3,r7]
  cases c:a.k==3 with
  | false=>
   rw[if_neg (by simpa using c)]at eN;rw[eN]at hput;simp only[Qc,simprocAttr,r6];refine hput _ H2 (Ext.refl _) hw2 ?_ ?_
   all_goals simp only[Qq,simprocAttr]
  | true=>
   rw[if_pos (by simpa using c)]at eN;simp only[Qdl,Qc,simprocAttr,r3,g23,List.drop_zero,List.take];refine(qb H2 hx3).thenW ?_;rintro _ _ hn4 hw4 ⟨rfl,k4,rfl⟩;simp only[Qc,simprocAttr];refine(qi _).thenW ?_;rintro _ H5 hn5 hw5 ⟨rfl,eH5⟩;rw[eH5]at hw5 ⊢;rw[eN]at hput;simp only[Qc,simprocAttr,r6];refine hput _ _ (show Ext H2 (H2.up k4) from(Ext.refl H2).up hn4) hw5 ?_ ?_
   all_goals simp only[Qq,simprocAttr]
 ·rw[if_neg (by have:=of_decide_eq_false h;omega),List.nil_append]at eW;simp only[Qc,simprocAttr];refine QDR hw ha hl (w:=[]) (by omega) (by simp) eW (v:=.slice none 0 0) hx3 hw2 g23 ?_ ?_ ?_ (.inl ⟨rfl,rfl,rfl⟩)
  all_goals simp only[Qq,simprocAttr,r3,r5,r7]
end
theorem QyB {x:Lf} {H:Qa} (hw:H.Wf) (hx:x.At H) (hf:x.Fr 0) (m:Nat) (hm:H.next<=m):Qj m 6 (.agg x.cells.toArray)=true:=by
 have h1:=QgI hw hf.1 hx.2.2.1 m hm 4;have h2:=QgI hw hf.2 hx.2.2.2 m hm 4;simp only[Nat.reduceAdd]at h1 h2;obtain⟨f,v1,v2⟩:=x;have e1:SlF 0 v1 f.shapes:=hf.1;have e2:SlF 0 v2 f.slots:=hf.2;clear hx hf;simp only[Lf.cells]at *;rcases e1 with⟨_,rfl⟩ | ⟨_,b1,c1,rfl,_,_⟩<;>rcases e2 with⟨_,rfl⟩ | ⟨_,b2,c2,rfl,_,_⟩
 all_goals (simp only[Qj]at h1 h2;simp[Qj,Ab.plain,h1,h2])
theorem Qpa {x:Lf} {op:Int} {va:Value} {l:List Ar} (H:Qa) (hx:x.At H) (hf:x.Fr 0) (ha:QS H va l) (hl:l.length<=1000) (hI:∀a∈l,I64 a.n) (hn:x.f.slots.length=l.length):
  Qf prog QcC [.agg x.cells.toArray,.agg #[.int .i64 op,va]] H λv H'=>Gx 1 5 H H' v (ZZ x.f op l).length (bys (ZZ x.f op l))∧Ext H H':=by
 refine QnF λhw=>?_;have ex:(Value.agg x.cells.toArray).cells.toList=x.cells:=rfl;have e10:x.cells.take 10=x.cells:=rfl;have l10:10<=x.cells.length:=Nat.le_refl _;obtain⟨W,eW⟩:∃W,W=ZZ x.f op l:=⟨_,rfl⟩;rw[<- eW];obtain⟨a0,cap,rfl⟩:=Q0 ha;simp only[QfR,ex,Qbt,simprocAttr];generalize hH1:Qa.push H (.cells x.cells Qe false)=H1;have g1:H1.get H.next=some (.cells x.cells Qe false):=by rw[<- hH1,Qa.get_push,if_pos rfl]
 have hx1:Ext H H1:=by rw[<- hH1];exact(Ext.refl H).push _
 have hn1:H1.next=H.next+1:=by rw[<- hH1];rfl
 have hw1:H1.Wf:=by rw[<- hH1];exact hw.push _
 clear hH1;simp only[Qc,simprocAttr,hn1];generalize hH2:Qa.push H1 _=H2;have hx2:Ext H H2:=by rw[<- hH2];exact(hx1.push _)
 have hw2:H2.Wf:=by rw[<- hH2];exact(hw1.push _)
 have g22:H2.get H.next=some (.cells x.cells Qe false):=by rw[<- hH2,Qa.get_push,if_neg (by omega)];exact g1
 have g23:H2.get (H.next+1)=some (.cells [.int .i64 op,.slice a0 l.length cap] Qb false):=by rw[<- hH2,Qa.get_push,if_pos (by omega)]
 have hn2:H2.next=H.next+2:=by rw[<- hH2,Qa.next_push,hn1]
 clear hH2;simp only[Qc,simprocAttr,g1,g22,g23,List.drop_zero,e10];refine⟨l10,by omega,?_⟩;refine(QqR x H2 (hx.ext hw hx2)).thenW ?_;rintro _ _ hn3 hw3 ⟨rfl,k,rfl⟩;have hx3:Ext H2 (H2.up k):=(Ext.refl H2).up hn3;refine⟨hx3.eqB,?_⟩;have g32:(H2.up k).get H.next=some (.cells x.cells Qe false):=by rw[Qa.get_up];exact g22
 have g33:(H2.up k).get (H.next+1)=some (.cells [.int .i64 op,.slice a0 l.length cap] Qb false):=by rw[Qa.get_up];exact g23
 have hk:H2.next<=k:=hn3;simp only[Qc,simprocAttr,g32,List.drop_zero,e10];refine⟨l10,QyB hw hx hf k (by omega),?_⟩;refine(Q6 x 7 _ (hx.ext hw (hx2.trans hx3))).thenW ?_;rintro _ _ hn4 hw4 ⟨rfl,k2,rfl⟩;have hx4:Ext H2 ((H2.up k).up k2):=hx3.up hn4;have hF:∀B:Env,B 2=.pointer (some ⟨H.next,0,none⟩)->B 3=.pointer (some ⟨H.next+1,0,none⟩)->FtF H ((H2.up k).up k2) x op (.slice a0 l.length cap) B:=λB e2 e3=>⟨hx2.trans hx4,hw4,by rw[Qa.get_up];exact g32,by rw[Qa.get_up];exact g33,by have:=hx4.next;omega,e2,e3⟩;have ht:=Qys x.f;have hT:tlF x.f=bif decide (0<=QE x.f.slots 7) then tl1 x.f+1 else tl1 x.f:=rfl
 simp only[Qc,simprocAttr];refine Qh (λh=>?_) (λh=>?_)
 ·have h0:0<=QE x.f.slots 7:=of_decide_eq_true h;have eT:tlN x.f=tlF x.f - 1:=if_pos h0;rw[h,cond_true]at hT;have ew:IntKind.i64.wrap (tlF x.f - 1)=tlN x.f:=by rw[eT,w64 (by unfold I64;omega)]
  simp only[Qc,simprocAttr,ew];refine QDS hw hx ha hl hI hn eW (hF _ ?_ ?_) ?_ ?_ ?_
  all_goals simp only[Qq,simprocAttr]
 ·have eT:tlN x.f=tlF x.f:=if_neg (by have:=of_decide_eq_false h;omega);simp only[Qc,simprocAttr];refine QDS hw hx ha hl hI hn eW (hF _ ?_ ?_) ?_ ?_ ?_
  all_goals simp only[Qq,simprocAttr,eT]
def QuC (f:Fm) (l:List Ar):Int:=if 0<=QE f.slots 1 then WA (l[(QE f.slots 1).toNat]?.getD Wi).r else f.digit
def Wo (f:Fm) (l:List Ar):List Ld:=
 if QE f.slots 2<0 then[⟨[],0,0⟩]
 else if((QgZ (QuC f l) (l[(QE f.slots 2).toNat]?.getD Wi)).2==0)=true then(QgZ (QuC f l) (l[(QE f.slots 2).toNat]?.getD Wi)).1 else[]
section
variable {x:Lf} {op:Int} {va:Value} {l:List Ar} {H:Qa}
abbrev KP (H:Qa) (W:List Ld):Env->Qa->Prop:=Rt prog Ql8 H λv H'=>XE Qo H H' v W∧Ext H H'
theorem QDT (hw:H.Wf) (ha:QS H va l) {W:List Ld} {mid:Int} {i:Nat} {a:Ar} (hai:l[i]? = some a) (eW:W=if((QgZ mid a).2==0)=true then(QgZ mid a).1 else[]) {A:Env} {H1:Qa} (hF:FtF H H1 x op va A) (r4:A 4=.slice none 0 0) (r5:A 5=.int .i64 i) (r6:A 6=.int .i64 mid):
  Qt prog JX ⟨KP H W,Z5⟩ (KP H W) A H1:=by
 obtain⟨hx1,hw1,g2,g3,hn1,r2,r3⟩:=id hF;have hil:i<l.length:=(List.getElem?_eq_some_iff.1 hai).1;obtain⟨a0,cap,rfl,h1⟩:=ha;obtain⟨b,e,ro,rfl,hgb0⟩:=h1 (by omega);have hgb:H1.get b=some (.cells (Qg l) e ro):=by rw[hx1.get b (hw.lt hgb0)];exact hgb0
 have d1:(0:Int)<=i∧(i:Int)<l.length:=by omega
 have d3:(i:Int).toNat=i:=by omega
 have htk:=Wx l i a hai;have hle:i * 11+11<=(Qg l).length:=by rw[QF];omega
 simp only[JX,Qc,simprocAttr,r3,r5,r6,g3,d1,d3,hgb,htk];refine⟨hle,?_⟩;refine(QsL mid a H1).thenW ?_;rintro _ H2 hn2 hw2 ⟨v,rfl,hv,hx2⟩;simp only[Qc,simprocAttr];cases c:(QgZ mid a).2==0 with
 | false=>
  simp only[Qc,simprocAttr,c,Kz];rw[c,if_neg (by decide)]at eW;exact .mk (hx1.trans hx2).next ⟨by rw[eW];exact XE.nil _ _ _,hx1.trans hx2⟩
 | true=>
  simp only[Qc,simprocAttr,c,Kz];rw[c,if_pos rfl]at eW;exact .mk (hx1.trans hx2).next ⟨by rw[eW];exact hv.down hx1.next,hx1.trans hx2⟩
theorem QEv (hw:H.Wf) (hx:x.At H) (ha:QS H va l) (hl:l.length<=1000) (hn:x.f.slots.length=l.length) {W:List Ld} (h2:0<=QE x.f.slots 2) (eW:W=Wo x.f l) {A:Env} {H1:Qa} (hF:FtF H H1 x op va A) (r4:A 4=.slice none 0 0) (r5:A 5=.int .i64 (QE x.f.slots 2)):
  Qt prog JY ⟨KP H W,Z5⟩ (KP H W) A H1:=by
 obtain⟨hx1,hw1,g2,g3,hn1,r2,r3⟩:=id hF;have e10:x.cells.take 10=x.cells:=rfl;have x6:x.cells[6]? = some (.int .i64 x.f.digit):=rfl;have l10:10<=x.cells.length:=Nat.le_refl _;have hlt2:=QsE x.f.slots 2;have hlt1:=QsE x.f.slots 1;unfold Wo at eW;rw[if_neg (by omega)]at eW;obtain⟨i,hi⟩:∃i:Nat,QE x.f.slots 2=i:=⟨(QE x.f.slots 2).toNat,by omega⟩;rw[hi]at eW r5 hlt2;obtain⟨a,hai⟩:∃a,l[i]? = some a:=⟨_,List.getElem?_eq_getElem (by omega)⟩;have hgd:l[(i:Int).toNat]?.getD Wi=a:=by rw[show(i:Int).toNat=i by omega,hai];rfl
 rw[hgd]at eW;have em:QuC x.f l=if 0<=QE x.f.slots 1 then WA (l[(QE x.f.slots 1).toNat]?.getD Wi).r else x.f.digit:=rfl
 simp only[JY,Qc,simprocAttr,r2,g2,x6,List.drop_zero,e10];refine⟨l10,?_⟩;refine(Q6 x 1 H1 (hx.ext hw hx1)).thenW ?_;rintro _ _ hn2 hw2 ⟨rfl,k,rfl⟩;have hx2:Ext H1 (H1.up k):=(Ext.refl H1).up hn2;obtain⟨hx3,_,g22,g23,hn3,_,_⟩:=hF.go hx2 hw2 rfl rfl;simp only[Qc,simprocAttr];refine Qh (λh=>?_) (λh=>?_)
 ·have h0:0<=QE x.f.slots 1:=of_decide_eq_true h;rw[if_pos h0]at em;obtain⟨j,hj⟩:∃j:Nat,QE x.f.slots 1=j:=⟨(QE x.f.slots 1).toNat,by omega⟩;rw[hj]at hlt1 em ⊢;obtain⟨c,haj⟩:∃c,l[j]? = some c:=⟨_,List.getElem?_eq_getElem (by omega)⟩;have hgj:l[(j:Int).toNat]?.getD Wi=c:=by rw[show(j:Int).toNat=j by omega,haj];rfl
  rw[hgj]at em;obtain⟨a0,cap,rfl,h1⟩:=id ha;obtain⟨b,e,ro,rfl,hgb0⟩:=h1 (by omega);have hgb:(H1.up k).get b=some (.cells (Qg l) e ro):=by rw[hx3.get b (hw.lt hgb0)];exact hgb0
  have d1:(0:Int)<=j∧(j:Int)<l.length:=by omega
  have d3:(j:Int).toNat=j:=by omega
  have hrg:=Qen haj;have hle:j * 11+1+2<=(Qg l).length:=by rw[QF];omega
  have q:=GU c.r;simp only[Rg.cells]at q;generalize H1.up k=H2 at *;simp only[Qc,simprocAttr,r3,g23,d1,d3,hgb,hrg];refine⟨hle,?_⟩;refine(q H2).thenW ?_;rintro _ _ hn4 hw4 ⟨rfl,k4,rfl⟩;have hx4:Ext H1 (H2.up k4):=hx2.trans ((Ext.refl H2).up hn4);simp only[Qc,simprocAttr];refine QDT hw ha (mid:=WA c.r) hai (by rw[eW,em]) (hF.go hx4 hw4 ?_ ?_) ?_ ?_ ?_
  all_goals simp only[Qq,simprocAttr,r4,r5]
 ·rw[if_neg (by have:=of_decide_eq_false h;omega)]at em;simp only[Qc,simprocAttr];refine QDT hw ha (mid:=x.f.digit) hai (by rw[eW,em]) (hF.go hx2 hw2 ?_ ?_) ?_ ?_ ?_
  all_goals simp only[Qq,simprocAttr,r4,r5]
end
theorem Qmg {x:Lf} {op:Int} {va:Value} {l:List Ar} (H:Qa) (hx:x.At H) (ha:QS H va l) (hl:l.length<=1000) (hn:x.f.slots.length=l.length):
  Qf prog VA [.agg x.cells.toArray,.agg #[.int .i64 op,va]] H λv H'=>XE Qo H H' v (Wo x.f l)∧Ext H H':=by
 refine QkK λhw=>?_;have ex:(Value.agg x.cells.toArray).cells.toList=x.cells:=rfl;have e10:x.cells.take 10=x.cells:=rfl;have l10:10<=x.cells.length:=Nat.le_refl _;obtain⟨W,eW⟩:∃W,W=Wo x.f l:=⟨_,rfl⟩;rw[<- eW];obtain⟨a0,cap,rfl⟩:=Q0 ha;simp only[Qdn,ex,Qbt,simprocAttr];generalize hH1:Qa.push H (.cells x.cells Qe false)=H1;have g1:H1.get H.next=some (.cells x.cells Qe false):=by rw[<- hH1,Qa.get_push,if_pos rfl]
 have hx1:Ext H H1:=by rw[<- hH1];exact(Ext.refl H).push _
 have hn1:H1.next=H.next+1:=by rw[<- hH1];rfl
 have hw1:H1.Wf:=by rw[<- hH1];exact hw.push _
 clear hH1;simp only[Qc,simprocAttr,hn1];generalize hH2:Qa.push H1 _=H2;have hx2:Ext H H2:=by rw[<- hH2];exact(hx1.push _)
 have hw2:H2.Wf:=by rw[<- hH2];exact(hw1.push _)
 have g22:H2.get H.next=some (.cells x.cells Qe false):=by rw[<- hH2,Qa.get_push,if_neg (by omega)];exact g1
 have g23:H2.get (H.next+1)=some (.cells [.int .i64 op,.slice a0 l.length cap] Qb false):=by rw[<- hH2,Qa.get_push,if_pos (by omega)]
 have hn2:H2.next=H.next+2:=by rw[<- hH2,Qa.next_push,hn1]
 clear hH2;simp only[Qc,simprocAttr,g1,g22,g23,List.drop_zero,e10];refine⟨l10,?_⟩;refine(Q6 x 2 H2 (hx.ext hw hx2)).thenW ?_;rintro _ _ hn3 hw3 ⟨rfl,k,rfl⟩;have hx3:Ext H2 (H2.up k):=(Ext.refl H2).up hn3;have hF:∀B:Env,B 2=.pointer (some ⟨H.next,0,none⟩)->B 3=.pointer (some ⟨H.next+1,0,none⟩)->FtF H (H2.up k) x op (.slice a0 l.length cap) B:=λB e2 e3=>⟨hx2.trans hx3,hw3,by rw[Qa.get_up];exact g22,by rw[Qa.get_up];exact g23,by have:=hx3.next;omega,e2,e3⟩;simp only[Qc,simprocAttr];refine Qh (λh=>?_) (λh=>?_)
 ·have h0:QE x.f.slots 2<0:=of_decide_eq_true h;have eW2:W=[⟨[],0,0⟩]:=by rw[eW];unfold Wo;rw[if_pos h0]
  simp only[Qc,simprocAttr,Kz];have hx4:=(hx2.trans hx3).push (.cells [.slice none 0 0,.int .i64 0,.int .i64 0] Qo false);refine .mk hx4.next ⟨?_,hx4⟩;rw[eW2];refine⟨[.slice none 0 0],rfl,.inr ⟨(H2.up k).next,1,rfl,(hx2.trans hx3).next,by rw[Qa.get_push,if_pos rfl];rfl,rfl,.inl rfl⟩,λj s w h1 h2=>?_⟩;cases j with
  | zero=>simp at h1 h2;subst h1;subst h2;exact .inl ⟨rfl,rfl,rfl⟩
  | succ j=>simp at h1
 ·simp only[Qc,simprocAttr];refine QEv hw hx ha hl hn (by have:=of_decide_eq_false h;omega) eW (hF _ ?_ ?_) ?_ ?_
  all_goals simp only[Qq,simprocAttr]
def QsM (f:Fm) (s:Int):Bool:=decide (0<=QE f.shapes s)
def QpO (w:Int) (f:Fm) (d:Int):Bool:=
 if(w==1)=true then QsM f 26 else if(w==2)=true then QsM f 27 else if(w==3)=true then(!(QsM f 21||QsM f 26)&&((d==4)||(d==-1))) else true
theorem QyF {H:Qa} {v:Value} {l:List Int} (h:QaQ H v l.length (ints l)):QvL H v l:=by
 obtain⟨a,c,rfl,h1⟩:=h;refine⟨a,c,rfl,λhl=>?_⟩;obtain⟨b,e,ro,rfl,hb⟩:=h1 hl;exact⟨b,e,ro,_,rfl,hb,λj hj=>QaP hj⟩
theorem Qk2 {x:Lf} (w d:Int) (H:Qa) (hx:x.At H):Qf prog Gg [.int .i64 w,.agg x.cells.toArray,.int .i64 d] H λv H'=>v=.bool (QpO w x.f d)∧Ext H H':=by
 refine Qje λhw=>?_;have ex:(Value.agg x.cells.toArray).cells.toList=x.cells:=rfl;obtain⟨a1,c1,e1⟩:=Q0 hx.2.2.1;have x1:x.cells[1]? = some (.slice a1 x.f.shapes.length c1):=by rw[<- e1];rfl
 obtain⟨W,eW⟩:∃W,W=QpO w x.f d:=⟨_,rfl⟩;rw[<- eW];unfold QpO at eW;have hS:=hx.2.2.1;rw[e1]at hS;simp only[QbP,ex,Qbt,simprocAttr];generalize hH1:Qa.push H (.cells x.cells Qe false)=H1;have g1:H1.get H.next=some (.cells x.cells Qe false):=by rw[<- hH1,Qa.get_push,if_pos rfl]
 have hx1:Ext H H1:=by rw[<- hH1];exact(Ext.refl H).push _
 have hw1:H1.Wf:=by rw[<- hH1];exact hw.push _
 clear hH1;have q:=λs=>Qn2 _ _ s H1 (QyF (hS.ext hw hx1)) hx.1;cases c1:w==1 with
 | true=>
  rw[c1,if_pos rfl]at eW;simp only[Qc,simprocAttr,c1,g1,x1];refine(q 26).thenW ?_;rintro _ H2 hn2 hw2 ⟨rfl,e2⟩;rw[e2]at hn2 ⊢;simp only[Qc,simprocAttr,Wu];exact .mk hx1.next ⟨by rw[eW];rfl,hx1⟩
 | false=>
  rw[c1,if_neg (by decide)]at eW;cases c2:w==2 with
  | true=>
   rw[c2,if_pos rfl]at eW;simp only[Qc,simprocAttr,c1,c2,g1,x1];refine(q 27).thenW ?_;rintro _ H2 hn2 hw2 ⟨rfl,e2⟩;rw[e2]at hn2 ⊢;simp only[Qc,simprocAttr,Wu];exact .mk hx1.next ⟨by rw[eW];rfl,hx1⟩
  | false=>
   rw[c2,if_neg (by decide)]at eW;cases c3:w==3 with
   | false=>
    rw[c3,if_neg (by decide)]at eW;simp only[Qc,simprocAttr,c1,c2,c3,Wu];exact .mk hx1.next ⟨by rw[eW],hx1⟩
   | true=>
    rw[c3,if_pos rfl]at eW;simp only[Qc,simprocAttr,c1,c2,c3,g1,x1];refine(q 21).thenW ?_;rintro _ H2 hn2 hw2 ⟨rfl,e2⟩;rw[e2]at hn2 ⊢;have eh:decide (0<=QE x.f.shapes 21)=QsM x.f 21:=rfl;have eh2:decide (0<=QE x.f.shapes 26)=QsM x.f 26:=rfl;rw[eh];cases k1:QsM x.f 21 with
    | true=>
     simp only[Qc,simprocAttr,Wu];exact .mk hx1.next ⟨by rw[eW,k1];rfl,hx1⟩
    | false=>
     simp only[Qc,simprocAttr,g1,x1];refine(q 26).thenW ?_;rintro _ H3 hn3 hw3 ⟨rfl,e3⟩;rw[e3,eh2]at *;cases k2:QsM x.f 26 with
     | true=>
      simp only[Qc,simprocAttr,Wu];exact .mk hx1.next ⟨by rw[eW,k1,k2];rfl,hx1⟩
     | false=>
      cases k3:d==4 with
      | true=>
       simp only[Qc,simprocAttr,k3,Wu];exact .mk hx1.next ⟨by rw[eW,k1,k2,k3];rfl,hx1⟩
      | false=>
       simp only[Qc,simprocAttr,k3,Wu];exact .mk hx1.next ⟨by rw[eW,k1,k2,k3];simp,hx1⟩
theorem QAw (a:Ar) (H:Qa):Qf prog Wc [.agg a.cells.toArray] H λu H'=>u=.bool (a.k==2)∧Ext H H':=by
 refine QcK λhw=>?_;obtain⟨ak,⟨rc,rn⟩,⟨⟨bc,bn⟩,⟨ic,nn⟩,sc,d,sz⟩,n⟩:=a;simp only[Ar.cells,JE,sxA,sxB,Nat.reduceBEq,Nat.reduceEqDiff,reduceCtorEq,mxA,mxB,Nat.reduceAdd,reduceIte,Nat.reduceLeDiff,splice,Qbv];have hx:=(Ext.refl H).push (.cells [.int .i64 ak,.int .i64 rc,.int .i64 rn,.int .i64 bc,.int .i64 bn,.int .i64 ic,.int .i64 nn,.int .i64 sc,.int .i64 d,.int .i64 sz,.int .i64 n] Qd false);exact .mk hx.next ⟨rfl,hx⟩
theorem Qmh (va:Value) (l:List Ar) (H:Qa) (ha:QS H va l) (hl:l.length<=1000):Qf prog QV [va,.func (.func Wc) #[] #[]] H λu H'=>∃r:Int,u=.int .i64 r∧decide (0<=r)=(l.any λa=>a.k==2)∧Ext H H':=by
 refine Xw λhw=>?_;obtain⟨a0,cap,rfl,h1⟩:=ha;simp only[Ws,sxA,sxB,Nat.reduceBEq,Nat.reduceEqDiff,reduceCtorEq,mxA,mxB,Nat.reduceAdd,reduceIte,Nat.reduceLeDiff,splice,Qm];refine Qu (λm A' H'=>∃i:Nat,i<=l.length∧m=l.length - i∧H'.Wf∧Ext H H'∧A' 0=.slice a0 l.length cap∧A' 1=.func (.func Wc) #[] #[]∧A' 7=.int .i64 l.length∧A' 8=.int .i64 i∧((l.take i).any λa=>a.k==2)=false) l.length ?_ ?_
 ·refine⟨0,Nat.zero_le _,by omega,hw,Ext.refl H,?_,?_,?_,?_,by simp⟩
  all_goals simp only[uxA,uxB,Nat.reduceBEq]
  all_goals rfl
 ·rintro m A' H' ⟨i,hi,rfl,hw',hx,r0,r1,r7,r8,hno⟩;simp only[sxA,sxB,Nat.reduceBEq,Nat.reduceEqDiff,reduceCtorEq,mxA,mxB,Nat.reduceAdd,reduceIte,Nat.reduceLeDiff,splice,r7,r8];refine Qh (λh2=>?_) (λh2=>?_)
  ·have h2:i<l.length:=by have:=of_decide_eq_true h2;omega
   obtain⟨a,hai⟩:∃a,l[i]? = some a:=⟨_,List.getElem?_eq_getElem h2⟩;obtain⟨b,e,ro,rfl,hgb0⟩:=h1 (by omega);have hgb:H'.get b=some (.cells (Qg l) e ro):=by rw[hx.get b (hw.lt hgb0)];exact hgb0
   have htk:=Wx l i a hai;have hle:i * 11+11<=(Qg l).length:=by rw[QF];omega
   have d1:(0:Int)<=i∧(i:Int)<l.length:=by omega
   have d3:(i:Int).toNat=i:=by omega
   have ei:IntKind.i64.wrap ((i:Int)+1)=((i+1:Nat):Int):=by rw[w64 (by unfold I64;omega)];omega
   have htl:l.take (i+1)=l.take i++[a]:=by rw[List.take_add_one,hai];rfl
   simp only[sxA,sxB,Nat.reduceBEq,Nat.reduceEqDiff,reduceCtorEq,mxA,mxB,Nat.reduceAdd,reduceIte,Nat.reduceLeDiff,splice,r0,r1,r8,d1,d3,hgb,htk,QkY];refine⟨hle,?_⟩;refine(QAw a H').thenW ?_;rintro _ H2 hn2 hw2 ⟨rfl,hx2⟩;cases c:a.k==2 with
   | true=>
    simp only[sxA,sxB,Nat.reduceBEq,Nat.reduceEqDiff,reduceCtorEq,mxA,mxB,Nat.reduceAdd,reduceIte,Nat.reduceLeDiff,splice,Q4];refine .mk (hx.trans hx2).next ⟨i,rfl,?_,hx.trans hx2⟩;rw[decide_eq_true d1.1];exact(List.any_eq_true.2 ⟨a,List.mem_of_getElem? hai,c⟩).symm
   | false=>
    simp only[sxA,sxB,Nat.reduceBEq,Nat.reduceEqDiff,reduceCtorEq,mxA,mxB,Nat.reduceAdd,reduceIte,Nat.reduceLeDiff,splice,r8,ei];refine⟨l.length - (i+1),by omega,i+1,by omega,rfl,hw2,hx.trans hx2,?_,?_,?_,?_,by rw[htl,List.any_append,hno];simp[c]⟩
    all_goals simp only[uxA,uxB,Nat.reduceBEq,r0,r1,r7]
  ·have h2:i=l.length:=by have:=of_decide_eq_false h2;omega
   subst h2;rw[List.take_length]at hno;simp only[sxA,sxB,Nat.reduceBEq,Nat.reduceEqDiff,reduceCtorEq,mxA,mxB,Nat.reduceAdd,reduceIte,Nat.reduceLeDiff,splice,Q4];exact .mk hx.next ⟨-1,rfl,by rw[hno];rfl,hx⟩
theorem Qiw (va:Value) (l:List Ar) (H:Qa) (ha:QS H va l) (hl:l.length<=1000):Qf prog Wk [va,.func (.func Wc) #[] #[]] H λu H'=>u=.bool (l.any λa=>a.k==2)∧Ext H H':=by
 refine ZW λhw=>?_;simp only[Xd,sxA,sxB,Nat.reduceBEq,Nat.reduceEqDiff,reduceCtorEq,mxA,mxB,Nat.reduceAdd,reduceIte,Nat.reduceLeDiff,splice];refine(Qmh va l H ha hl).thenW ?_;rintro _ H2 hn2 hw2 ⟨r,rfl,er,hx2⟩;simp only[sxA,sxB,Nat.reduceBEq,Nat.reduceEqDiff,reduceCtorEq,mxA,mxB,Nat.reduceAdd,reduceIte,Nat.reduceLeDiff,splice,ZC];exact .mk hx2.next ⟨by rw[er],hx2⟩
def QyG (c:Int):Int:=IntKind.u8.wrap (BitVec.ofInt IntKind.u8.bits c &&& BitVec.ofInt IntKind.u8.bits 7).toNat
def Qn7 (l:List Ar) (w:Ld):Int:=
 if(!(l.any λa=>a.k==2)||(w.b.length==0))=true then -1 else if(QyG (w.b.getD 0 0)==4)=true then(w.b.length:Int) - 2 else(w.b.length:Int) - 1
theorem Qff {op:Int} {va:Value} {l:List Ar} {w:Ld} {v:Value} {H0:Qa} (H:Qa) (ha:QS H va l) (hl:l.length<=1000) (hv:Gx 1 5 H0 H v w.b.length (bys w.b)) (hwl:w.b.length<=1000):
  Qf prog Zo [.agg #[.int .i64 op,va],.agg #[v,.int .i64 w.x,.int .i64 w.h]] H λu H'=>u=.int .i64 (Qn7 l w)∧Ext H H':=by
 refine Qeb λhw=>?_;obtain⟨W,eW⟩:∃W,W=Qn7 l w:=⟨_,rfl⟩;rw[<- eW];unfold Qn7 at eW;obtain⟨a0,cap,rfl⟩:=Q0 ha;obtain⟨a1,c1,rfl,hb1⟩:∃a c,v=.slice a w.b.length c∧(0<w.b.length->∃b,a=some ⟨b,0,none⟩∧H.get b=some (.cells (bys w.b) 5 false)):=by
  rcases hv with⟨rfl,h,_⟩ | ⟨b,c,rfl,_,h,_,_⟩
  ·exact⟨none,0,by rw[h],λh'=>by omega⟩
  ·exact⟨_,c,rfl,λ_=>⟨b,rfl,h⟩⟩
 simp only[Kt,sxA,sxB,Nat.reduceBEq,Nat.reduceEqDiff,reduceCtorEq];generalize hH1:Qa.push H _=H1;have g1:H1.get H.next=some (.cells [.int .i64 op,.slice a0 l.length cap] Qb false):=by rw[<- hH1,Qa.get_push,if_pos rfl];rfl
 have hx1:Ext H H1:=by rw[<- hH1];exact(Ext.refl H).push _
 have hn1:H1.next=H.next+1:=by rw[<- hH1];rfl
 have hw1:H1.Wf:=by rw[<- hH1];exact hw.push _
 clear hH1
 try simp only[sxA,sxB,Nat.reduceBEq,Nat.reduceEqDiff,reduceCtorEq,mxA,mxB,Nat.reduceAdd,reduceIte,Nat.reduceLeDiff,splice,hn1]
 generalize hH2:Qa.push H1 _=H2;have hx2:Ext H H2:=by rw[<- hH2];exact(hx1.push _)
 have hw2:H2.Wf:=by rw[<- hH2];exact(hw1.push _)
 have g22:H2.get H.next=some (.cells [.int .i64 op,.slice a0 l.length cap] Qb false):=by rw[<- hH2,Qa.get_push,if_neg (by omega)];exact g1
 have g23:H2.get (H.next+1)=some (.cells [.slice a1 w.b.length c1,.int .i64 w.x,.int .i64 w.h] Qo false):=by rw[<- hH2,Qa.get_push,if_pos (by omega)]
 have hn2:H2.next=H.next+2:=by rw[<- hH2,Qa.next_push,hn1]
 clear hH2;simp only[sxA,sxB,Nat.reduceBEq,Nat.reduceEqDiff,reduceCtorEq,mxA,mxB,Nat.reduceAdd,reduceIte,Nat.reduceLeDiff,splice,g1,g22,g23];refine(Qiw _ l H2 (ha.ext hw hx2) hl).thenW ?_;rintro _ H3 hn3 hw3 ⟨rfl,hx23⟩;have hx3:=hx2.trans hx23;have g33:H3.get (H.next+1)=some (.cells [.slice a1 w.b.length c1,.int .i64 w.x,.int .i64 w.h] Qo false):=by rw[hx23.get _ (by omega)];exact g23
 generalize (l.any λa=>a.k==2)=M at *;cases M with
 | false=>
  simp only[sxA,sxB,Nat.reduceBEq,Nat.reduceEqDiff,reduceCtorEq,mxA,mxB,Nat.reduceAdd,reduceIte,Nat.reduceLeDiff,splice,Xn];exact .mk hx3.next ⟨by rw[eW];rfl,hx3⟩
 | true=>
  have el:((w.b.length:Int)==0)=(w.b.length==0):=by
   rw[Bool.eq_iff_iff,beq_iff_eq,beq_iff_eq];omega
  simp only[sxA,sxB,Nat.reduceBEq,Nat.reduceEqDiff,reduceCtorEq,mxA,mxB,Nat.reduceAdd,reduceIte,Nat.reduceLeDiff,splice,g33,el];cases c0:w.b.length==0 with
  | true=>
   simp only[sxA,sxB,Nat.reduceBEq,Nat.reduceEqDiff,reduceCtorEq,mxA,mxB,Nat.reduceAdd,reduceIte,Nat.reduceLeDiff,splice,Xn];exact .mk hx3.next ⟨by rw[eW,c0];rfl,hx3⟩
  | false=>
   have hpos:0<w.b.length:=by have:=beq_eq_false_iff_ne.1 c0;omega
   obtain⟨b,rfl,hb⟩:=hb1 hpos;have hgb:H3.get b=some (.cells (bys w.b) 5 false):=by rw[hx3.get b (hw.lt hb)];exact hb
   have h0:(bys w.b)[0]? = some (.int .u8 (w.b.getD 0 0)):=by
    simp[bys,List.getElem?_map,List.getD_eq_getElem?_getD,List.getElem?_eq_getElem hpos]
   have d1:(0:Int)<w.b.length:=by omega
   have ea:IntKind.u8.wrap (BitVec.ofInt IntKind.u8.bits (w.b.getD 0 0) &&& BitVec.ofInt IntKind.u8.bits 7).toNat=QyG (w.b.getD 0 0):=rfl;rw[c0,Bool.not_true,Bool.or_false,if_neg (by decide)]at eW;simp only[sxA,sxB,Nat.reduceBEq,Nat.reduceEqDiff,reduceCtorEq,mxA,mxB,Nat.reduceAdd,reduceIte,Nat.reduceLeDiff,splice,g33,hgb,d1];refine⟨Int.le_refl 0,_,h0,?_⟩;simp only[sxA,sxB,Nat.reduceBEq,Nat.reduceEqDiff,reduceCtorEq,mxA,mxB,Nat.reduceAdd,reduceIte,Nat.reduceLeDiff,splice,ea];have e2:IntKind.i64.wrap ((w.b.length:Int) - 2)=(w.b.length:Int) - 2:=w64 (by unfold I64;omega);have e1:IntKind.i64.wrap ((w.b.length:Int) - 1)=(w.b.length:Int) - 1:=w64 (by unfold I64;omega);cases c4:QyG (w.b.getD 0 0)==4 with
   | true=>
    rw[c4,if_pos rfl]at eW;simp only[sxA,sxB,Nat.reduceBEq,Nat.reduceEqDiff,reduceCtorEq,mxA,mxB,Nat.reduceAdd,reduceIte,Nat.reduceLeDiff,splice,g33,e2,Xn];exact .mk hx3.next ⟨by rw[eW],hx3⟩
   | false=>
    rw[c4,if_neg (by decide)]at eW;simp only[sxA,sxB,Nat.reduceBEq,Nat.reduceEqDiff,reduceCtorEq,mxA,mxB,Nat.reduceAdd,reduceIte,Nat.reduceLeDiff,splice,g33,e1,Xn];exact .mk hx3.next ⟨by rw[eW],hx3⟩
theorem Qpc {x:Lf} {op:Int} {va:Value} (H:Qa):Qf prog Qcy [.agg x.cells.toArray,.agg #[.int .i64 op,va]] H λu H'=>u=.func (.func Zh) #[] #[.pointer (some ⟨H.next,0,none⟩),.pointer (some ⟨H.next+1,0,none⟩)]∧Ext H H'∧H.next+2<=H'.next∧H'.get H.next=some (.cells x.cells Qe false)∧H'.get (H.next+1)=some (.cells (Value.agg #[.int .i64 op,va]).cells.toList Qb false):=by
 refine QnD λhw=>?_;have ex:(Value.agg x.cells.toArray).cells.toList=x.cells:=rfl;simp only[QfP,ex,Qbt,simprocAttr];have hx:=((Ext.refl H).push (.cells x.cells Qe false)).push (.cells (Value.agg #[.int .i64 op,va]).cells.toList Qb false);simp only[Qc,simprocAttr,Ql6];refine .mk hx.next ⟨rfl,hx,by simp only[Qa.next_push];omega,?_,?_⟩
 ·rw[Qa.get_push,if_neg (by rw[Qa.next_push];omega),Qa.get_push,if_pos rfl]
 ·rw[Qa.get_push,if_pos (by rw[Qa.next_push])]
theorem Qj5 {x:Lf} {op:Int} {va s tl:Value} {lx lh:Int} (H:Qa) (hs:s.oneCell'=true) (htl:tl.cells.toList=[tl]):Qf prog Kr [.agg x.cells.toArray,.agg #[.int .i64 op,va],.agg #[s,.int .i64 lx,.int .i64 lh],tl] H λu H'=>u=.func (.func WM) #[] #[.pointer (some ⟨H.next+1,0,none⟩),.pointer (some ⟨H.next+2,0,none⟩),.pointer (some ⟨H.next,0,none⟩),.pointer (some ⟨H.next+3,0,none⟩)]∧Ext H H'∧H.next+4<=H'.next∧H'.get H.next=some (.cells x.cells Qe false)∧H'.get (H.next+1)=some (.cells (Value.agg #[.int .i64 op,va]).cells.toList Qb false)∧H'.get (H.next+2)=some (.cells (Value.agg #[s,.int .i64 lx,.int .i64 lh]).cells.toList Qo false)∧H'.get (H.next+3)=some (.cells [tl] W9 false):=by
 refine Qh5 λhw=>?_;have ex:(Value.agg x.cells.toArray).cells.toList=x.cells:=rfl;have hx:=((((Ext.refl H).push (.cells x.cells Qe false)).push (.cells (Value.agg #[.int .i64 op,va]).cells.toList Qb false)).push (.cells (Value.agg #[s,.int .i64 lx,.int .i64 lh]).cells.toList Qo false)).push (.cells [tl] W9 false);simp only[QaZ,ex,Qbt,simprocAttr];simp only[Qc,simprocAttr,QgQ,htl];refine .mk hx.next ⟨rfl,hx,by simp only[Qa.next_push];omega,?_,?_,?_,?_⟩
 ·rw[Qa.get_push,if_neg (by simp only[Qa.next_push];omega),Qa.get_push,if_neg (by simp only[Qa.next_push];omega),Qa.get_push,if_neg (by simp only[Qa.next_push];omega),Qa.get_push,if_pos rfl]
 ·rw[Qa.get_push,if_neg (by simp only[Qa.next_push];omega),Qa.get_push,if_neg (by simp only[Qa.next_push];omega),Qa.get_push,if_pos (by simp only[Qa.next_push])]
 ·rw[Qa.get_push,if_neg (by simp only[Qa.next_push];omega),Qa.get_push,if_pos (by simp only[Qa.next_push])]
 ·rw[Qa.get_push,if_pos (by simp only[Qa.next_push])]
def QpP (P:Program) (ty:TypeId) (size:Nat):Bool:=match P.underlying ty with | some (.slice e)=>(match P.info? e with | some inf=>Nat.beq inf.size size | none=>false) | _=>false
theorem QuD {P:Program} {A:Env} {H:Qa} {k:Value->Qa->Prop} {ty:TypeId} {size:Nat} {x hi mx:Operand} {k1 k2:IntKind} {n:Int} {u v:Value} (ht:QpP P ty size=true) (hx:ev A x=u) (hh:ev A hi=.int k1 n) (hm:ev A mx=.int k2 n) (hs:Yp size u none (some n) (some n)=some v):
  pr P (.gen (.slice ty x none (some hi) (some mx))) false A H k=k v H:=by
 unfold QpP at ht;split at ht
 ·rename_i e h1;split at ht
  ·rename_i inf h2;have e0:inf.size=size:=Nat.eq_of_beq_eq_true ht;subst e0;exact Quw (by
    have b1:We A (some hi)=some (some n):=by simp[We,hh]
    have b2:We A (some mx)=some (some n):=by simp[We,hm]
    have b0:We A none=some none:=rfl;simp only[rop,aop,QiL,h1,h2,b0,b1,b2,hx,XV,hs];rfl)
  ·cases ht
 ·cases ht
def Zk (f:Fm) (l:List Ar):Int:=if 0<=QE f.slots 4 then IntKind.u8.wrap (IntKind.u8.wrap f.code+IntKind.u8.wrap (WA (l[(QE f.slots 4).toNat]?.getD Wi).r)) else IntKind.u8.wrap f.code
def Qbn (f:Fm) (l:List Ar) (e:List Int) (w:Ld):List Ld:=(Xf f l w.x w.h).map λhd=>⟨hd++[Zk f l]++w.b++e,0,Qn7 l w⟩
theorem QyH (p r:Int):(Qas p r).length<=4:=by
 unfold Qas Qgc
 repeat' split
 all_goals simp
theorem QyI (m:Int):(YG m).length<=2:=by
 unfold YG
 repeat' split
 all_goals simp
theorem QpQ (f:Fm) (l:List Ar) (a b:Int):(Xf f l a b).length<=3∧∀hd∈Xf f l a b,hd.length<=6:=by
 unfold Xf;split
 ·unfold QgY;cases f.w==-1<;>(repeat' split)<;>simp[JH]
 ·refine⟨?_,λhd h=>?_⟩
  ·rw[List.length_map];unfold chF;repeat' split
   all_goals simp
  ·obtain⟨n,_,rfl⟩:=List.mem_map.1 h;have:=QyH f.pre n;have:=QyI f.map;rw[List.length_append];omega
structure PfF (Hz Hs H:Qa) (x:Lf) (op:Int) (va:Value) (p1 p2 p3 p4:Nat) (s tl:Value) (w:Ld) (e:List Int):Prop where
 z:Ext Hz H
 wf:H.Wf
 g1:H.get p1=some (.cells [.int .i64 op,va] Qb false)
 g2:H.get p2=some (.cells [s,.int .i64 w.x,.int .i64 w.h] Qo false)
 g3:H.get p3=some (.cells x.cells Qe false)
 g4:H.get p4=some (.cells [tl] W9 false)
 s:Gx 1 5 Hs H s w.b.length (bys w.b)
 t:Gx 1 5 Hs H tl e.length (bys e)
structure PfO (Own:Nat->Prop) (Hz:Qa) (p1 p2 p3 p4:Nat) (s tl:Value):Prop where
 z:∀id,id<Hz.next->¬Own id
 o1:¬Own p1
 o2:¬Own p2
 o3:¬Own p3
 o4:¬Own p4
 s:∀id,inB s id->¬Own id
 t:∀id,inB tl id->¬Own id
section
variable {Hz Hs H:Qa} {x:Lf} {op:Int} {va:Value} {p1 p2 p3 p4:Nat} {s tl:Value} {w:Ld} {e:List Int} {Own:Qa->Nat->Prop}
theorem PfF.ck {H':Qa} (h:PfF Hz Hs H x op va p1 p2 p3 p4 s tl w e) (ho:PfO (Own H) Hz p1 p2 p3 p4 s tl) (hc:CK Own H H'):PfF Hz Hs H' x op va p1 p2 p3 p4 s tl w e:=by
 have hn:=hc.next;have hz:=h.z.next;refine⟨⟨by omega,λid hid=>?_⟩,hc.w,?_,?_,?_,?_,?_,?_⟩
 ·rw[hc.keep id (by omega) (ho.z id hid)];exact h.z.get id hid
 ·rw[hc.keep _ (h.wf.lt h.g1) ho.o1];exact h.g1
 ·rw[hc.keep _ (h.wf.lt h.g2) ho.o2];exact h.g2
 ·rw[hc.keep _ (h.wf.lt h.g3) ho.o3];exact h.g3
 ·rw[hc.keep _ (h.wf.lt h.g4) ho.o4];exact h.g4
 ·exact h.s.ext λid hi=>hc.keep id (h.s.low h.wf hi).2 (ho.s id hi)
 ·exact h.t.ext λid hi=>hc.keep id (h.t.low h.wf hi).2 (ho.t id hi)
theorem PfO.sub {O O':Nat->Prop} (h:PfO O Hz p1 p2 p3 p4 s tl) (hs:∀id,O' id->O id):PfO O' Hz p1 p2 p3 p4 s tl:=
 ⟨λid h1 h2=>h.z id h1 (hs _ h2),λh1=>h.o1 (hs _ h1),λh1=>h.o2 (hs _ h1),λh1=>h.o3 (hs _ h1),λh1=>h.o4 (hs _ h1),λid h1 h2=>h.s id h1 (hs _ h2),λid h1 h2=>h.t id h1 (hs _ h2)⟩
theorem KX.keep2 {e:TypeId} {H0 H H':Qa} {v:Value} {ws:List (List Int)} (h:KX e H0 H v ws) (hw:H.Wf) (hk:∀id,H0.next<=id->id<H.next->H'.get id=H.get id):KX e H0 H' v ws:=by
 obtain⟨ss,h1,h2,h3⟩:=h.it;exact⟨h.ne,ss,h1,h2.ext λid hi=>hk id (h2.low hw hi).1 (h2.low hw hi).2,λj s w hs hw'=>(h3 j s w hs hw').ext λid hi=>hk id ((h3 j s w hs hw').low hw hi).1 ((h3 j s w hs hw').low hw hi).2⟩
theorem QDU {base lb:Nat} {R:Nat->Qa->Prop} {l:List Ar} (hc:Cns base lb (Qbn x.f l e w) LdV R Own) (hbase:base<=H.next) (hf:FOk x.f) (hx:x.At Hz) (ha:QS Hz va l) (hwz:Hz.Wf) (hva:∀n,Hz.next<=n->Qj n 6 (.agg #[.int .i64 op,va])=true) (hl:l.length<=1000) (hn:x.f.slots.length=l.length)
  (hwx:0<=w.x∧w.x<2) (hwh:0<=w.h∧w.h<2) (hy:x.f.vex=true->(vxF x.f l w.x w.h).Ok) (hwl:w.b.length<=1000) (hel:e.length<=2000)
  {H1:Qa} (hP:PfF Hz Hs H1 x op va p1 p2 p3 p4 s tl w e) (ho:PfO (Own H1) Hz p1 p2 p3 p4 s tl) (hR:R 0 H1) (hk:CK Own H H1)
  {A:Env} (r0:A 0=.func (.yield lb) #[] #[]) (r1:A 1=.pointer (some ⟨p1,0,none⟩)) (r2:A 2=.pointer (some ⟨p2,0,none⟩)) (r3:A 3=.pointer (some ⟨p3,0,none⟩)) (r4:A 4=.pointer (some ⟨p4,0,none⟩)) (r6:A 6=.int .i64 (Qn7 l w)) (r7:A 7=.int .u8 (Zk x.f l)):
  Qt prog Zb ⟨Rt prog V8 H λu H'=>R (Qbn x.f l e w).length H'∧CK Own H H',Z5⟩ (Rt prog V8 H λu H'=>R (Qbn x.f l e w).length H'∧CK Own H H') A H1:=by
 obtain⟨hz,hw1,g1,g2,g3,g4,hs,ht⟩:=id hP;have e10:x.cells.take 10=x.cells:=rfl;have l10:10<=x.cells.length:=Nat.le_refl _;obtain⟨sa,sc,rfl⟩:=hs.slc;obtain⟨a0,cap,rfl⟩:=Q0 ha;simp only[Zb,Qc,simprocAttr,r1,r2,r3,g1,g2,g3,List.drop_zero,e10];refine⟨l10,?_⟩;have hva:=λn (h:H1.next<=n)=>hva n (Nat.le_trans hz.next h);refine(QnX hf H1 (hx.ext hwz hz) (ha.ext hwz hz) hva hl hn hwx hwh hy).thenW ?_;rintro v H2 hn2 hw2 ⟨hv2,hx2⟩;obtain⟨va2,vc2,rfl⟩:=hv2.slc;obtain⟨hR2,hO2⟩:=hc.ext _ _ _ hR hw1 hx2;have hk2:=hc.ck hR hw1 hx2 hw2;have hP2:=hP.ck ho hk2;obtain⟨hdl,hde⟩:=QpQ x.f l w.x w.h;generalize hhd:Xf x.f l w.x w.h=hd at *;simp only[Qc,simprocAttr,Qm];refine Qu (λm A' H'=>∃i:Nat,i<=hd.length∧m=hd.length - i∧R i H'∧CK Own H2 H'∧A' 0=.func (.yield lb) #[] #[]∧A' 2=.pointer (some ⟨p2,0,none⟩)∧A' 4=.pointer (some ⟨p4,0,none⟩)∧A' 6=.int .i64 (Qn7 l w)∧A' 7=.int .u8 (Zk x.f l)∧A' 35=.slice va2 hd.length vc2∧A' 36=.int .i64 hd.length∧A' 37=.int .i64 i) hd.length ?_ ?_
 ·refine⟨0,Nat.zero_le _,by omega,hR2,hc.ck hR2 hw2 (.refl _) hw2,?_,?_,?_,?_,?_,?_,?_,?_⟩
  all_goals simp only[Qq,simprocAttr,r0,r2,r4,r6,r7]
  all_goals rfl
 ·rintro m A' H' ⟨i,hi,rfl,hRi,hk3,r0,r2,r4,r6,r7,r35,r36,r37⟩;have hw3:=hk3.w;simp only[KD,Qc,simprocAttr,r36,r37];refine Qh (λh2=>?_) (λh2=>?_)
  ·have h2:i<hd.length:=by have:=of_decide_eq_true h2;omega
   simp only[KB,Qc,simprocAttr,r0,r2,r4,r6,r7,r35,r36,r37];obtain⟨ss,hsl,hgss,hgs⟩:=hv2.it;obtain⟨b,hb1,rfl,hgb⟩:∃b,H1.next<=b∧va2=some ⟨b,0,none⟩∧H2.get b=some (.cells ss W9 false):=by
    rcases hgss with⟨h,h',_⟩ | ⟨b,c,h,q1,q2,_⟩
    ·omega
    ·cases h;exact⟨b,q1,rfl,q2⟩
   have hno:∀id,H1.next<=id->¬Own H2 id:=λid h1 h2=>by have:=hc.low _ _ _ hR (hO2 _ h2);omega
   have hgb3:H'.get b=some (.cells ss W9 false):=by rw[hk3.keep _ (hw2.lt hgb) (hno _ hb1)];exact hgb
   obtain⟨sv,hsv⟩:∃sv,ss[i]? = some sv:=⟨_,List.getElem?_eq_getElem (by omega)⟩;obtain⟨hi0,hhi⟩:∃h0,hd[i]? = some h0:=⟨_,List.getElem?_eq_getElem h2⟩;have hs3:=(hgs i sv hi0 hsv hhi).ext (H':=H') λid hid=>hk3.keep id ((hgs i sv hi0 hsv hhi).low hw2 hid).2 (hno _ ((hgs i sv hi0 hsv hhi).low hw2 hid).1);have hil:=hde hi0 (List.mem_of_getElem? hhi);have d1:(0:Int)<=i∧(i:Int)<hd.length:=by omega
   have d3:(i:Int).toNat=i:=by omega
   have ei:IntKind.i64.wrap ((i:Int)+1)=((i+1:Nat):Int):=by rw[w64 (by unfold I64;omega)];omega
   obtain⟨ai,ci,rfl⟩:=hs3.slc;have hl3:hi0.length<UNK:=by unfold UNK;omega
   obtain⟨af,hfs,hff⟩:=QAi hs3 hl3;have hty:QpP prog W9 1=true:=by kernel_rfl
   have hP3:=hP2.ck (ho.sub hO2) hk3;simp only[Qc,simprocAttr,d1,d3,hgb3,hsv,Qm];rw[QuD (k1:=.i64) (k2:=.i64) (n:=(hi0.length:Int)) (u:=.slice ai hi0.length ci) hty (by simp only[Qq,simprocAttr]) (by simp only[Qq,simprocAttr]) (by simp only[Qq,simprocAttr]) hfs];simp only[Qc,simprocAttr,r7];have hx4:=(Ext.refl H').push (.cells [.int .u8 (Zk x.f l)] 5 false);have hw4:=hw3.push (.cells [.int .u8 (Zk x.f l)] 5 false);have hg4:=Qn6 H' (Zk x.f l);generalize H'.push _=H4 at *;refine Qyt (hff.go hw3 hx4) ⟨af,rfl⟩ hw4 hg4.src (Qcn _) (by decide) (by rw[Yt];rfl) (by omega) (by omega) hl3 ?_;rintro v5 H5 hg5 hx5 hw5 ⟨b5,rfl⟩;have g52:=hP3.g2;have hx35:=hx4.trans hx5;have h53:H5.get p2=some (.cells [.slice sa w.b.length sc,.int .i64 w.x,.int .i64 w.h] Qo false):=by rw[hx35.get _ (hw3.lt g52)];exact g52
   have hs5:=hP3.s.go hw3 hx35;simp only[Qc,simprocAttr,r2,h53];refine Qbi hg5 hx5 hw5 hs5.src (Qcn _) (by rw[Yt,Nat.mul_one]) (by omega) (by omega) ?_;intro v6 H6 hg6 hk6;have hx36:=hx4.trans hk6.x;have g64:H6.get p4=some (.cells [tl] W9 false):=by rw[hx36.get _ (hw3.lt hP3.g4)];exact hP3.g4
   have ht6:=hP3.t.go hw3 hx36;simp only[Qc,simprocAttr,r4,g64];refine Qbi hg6 hk6.x hk6.w ht6.src (Qcn _) (by rw[Yt,Nat.mul_one]) (by omega) (by omega) ?_;intro v7 H7 hg7 hk7;have hx37:=hx4.trans hk7.x;obtain⟨a7,c7,rfl⟩:=hg7.slc;have hi7:(Qbn x.f l e w)[i]? = some ⟨hi0++[Zk x.f l]++w.b++e,0,Qn7 l w⟩:=by unfold Qbn;rw[List.getElem?_map,hhd,hhi];rfl
   obtain⟨hR7,hO7⟩:=hc.ext _ _ _ hRi hw3 hx37;simp only[Qc,simprocAttr,r0,r6,QaC];refine QgK (hc.go _ _ H' H7 _ hi7 hR7 hRi hw3 ⟨_,rfl,?_⟩ (by have:=hk.next;have:=hk2.next;have:=hk3.next;omega) hx37 hO7) ?_
   ·have e1:(hi0++[Zk x.f l]++w.b++e).length=hi0.length+1+w.b.length+e.length:=by simp only[List.length_append,List.length_cons,List.length_nil]
    have e2:bys (hi0++[Zk x.f l]++w.b++e)=bys hi0++bys [Zk x.f l]++bys w.b++bys e:=by rw[Qar,Qar,Qar]
    show Gx 1 5 H' H7 _ (hi0++[Zk x.f l]++w.b++e).length (bys (hi0++[Zk x.f l]++w.b++e));rw[e1,e2];exact hg7.down hx4.next
   rintro _ H8 hn8 hw8 ⟨rfl,hR8,hk8⟩;simp only[Qc,simprocAttr,Bool.not_true,r37,ei];refine⟨hd.length - (i+1),by omega,i+1,by omega,rfl,hR8,(hk3.trans (hc.ck hRi hw3 hx37 hk7.w)).trans hk8,?_,?_,?_,?_,?_,?_,?_,?_⟩
   all_goals simp only[Qq,simprocAttr,r0,r2,r4,r6,r7,r35,r36]
  ·have h2:i=hd.length:=by have:=of_decide_eq_false h2;omega
   subst h2;simp only[Qc,simprocAttr,Qfe];have hkk:=(hk.trans hk2).trans hk3;exact .mk hkk.next ⟨by unfold Qbn;rw[List.length_map,hhd];exact hRi,hkk⟩
theorem QsN {base lb:Nat} {R:Nat->Qa->Prop} {l:List Ar} (hc:Cns base lb (Qbn x.f l e w) LdV R Own) (hbase:base<=H.next) (hf:FOk x.f) (hx:x.At Hz) (ha:QS Hz va l) (hwz:Hz.Wf) (hva:∀n,Hz.next<=n->Qj n 6 (.agg #[.int .i64 op,va])=true) (hl:l.length<=1000) (hn:x.f.slots.length=l.length)
  (hwx:0<=w.x∧w.x<2) (hwh:0<=w.h∧w.h<2) (hy:x.f.vex=true->(vxF x.f l w.x w.h).Ok) (hwl:w.b.length<=1000) (hel:e.length<=2000)
  (hP:PfF Hz Hs H x op va p1 p2 p3 p4 s tl w e) (ho:PfO (Own H) Hz p1 p2 p3 p4 s tl) (hR:R 0 H):
  Qf prog WM [.func (.yield lb) #[] #[],.pointer (some ⟨p1,0,none⟩),.pointer (some ⟨p2,0,none⟩),.pointer (some ⟨p3,0,none⟩),.pointer (some ⟨p4,0,none⟩)] H λu H'=>R (Qbn x.f l e w).length H'∧CK Own H H':=by
 refine Qf0 λhw=>?_;obtain⟨hz,hw1,g1,g2,g3,g4,hs,ht⟩:=id hP;have e10:x.cells.take 10=x.cells:=rfl;have l10:10<=x.cells.length:=Nat.le_refl _;have x5:x.cells[5]? = some (.int .i64 x.f.code):=rfl;obtain⟨sa,sc,rfl⟩:=hs.slc;obtain⟨a0,cap,rfl⟩:=Q0 ha;simp only[Vq,Qc,simprocAttr,g1,g2,g3,List.drop_zero,e10];refine⟨hw.lt g3,?_⟩;refine(Qff H (ha.ext hwz hz) hl hs hwl).thenW ?_;rintro _ H2 hn2 hw2 ⟨rfl,hx2⟩;obtain⟨hR2,hO2⟩:=hc.ext _ _ _ hR hw hx2;have hk2:=hc.ck hR hw hx2 hw2;have hP2:=hP.ck ho hk2;have ho2:=ho.sub hO2;obtain⟨hz2,_,g12,g22,g32,g42,hs2,ht2⟩:=id hP2;simp only[Qc,simprocAttr,g32,x5,List.drop_zero,e10];refine⟨hx2.eqB,by simp[Qj,Ab.plain],l10,?_⟩;refine(Q6 x 4 H2 (hx.ext hwz hz2)).thenW ?_;rintro _ _ hn3 hw3 ⟨rfl,k,rfl⟩;have hx3:Ext H2 (H2.up k):=(Ext.refl H2).up hn3;obtain⟨hR3,hO3⟩:=hc.ext _ _ _ hR2 hw2 hx3;have hk3:=hc.ck hR2 hw2 hx3 hw3;have hP3:=hP2.ck ho2 hk3;have ho3:=ho2.sub hO3;obtain⟨hz3,_,g13,g23,g33,g43,hs3,ht3⟩:=id hP3;generalize H2.up k=H3 at *;have hlt:=QsE x.f.slots 4;have ec:Zk x.f l=if 0<=QE x.f.slots 4 then IntKind.u8.wrap (IntKind.u8.wrap x.f.code+IntKind.u8.wrap (WA (l[(QE x.f.slots 4).toNat]?.getD Wi).r)) else IntKind.u8.wrap x.f.code:=rfl
 simp only[Qc,simprocAttr];refine Qh (λh=>?_) (λh=>?_)
 ·have h0:0<=QE x.f.slots 4:=of_decide_eq_true h;rw[if_pos h0]at ec;obtain⟨j,hj⟩:∃j:Nat,QE x.f.slots 4=j:=⟨(QE x.f.slots 4).toNat,by omega⟩;rw[hj]at hlt ec ⊢;obtain⟨c,haj⟩:∃c,l[j]? = some c:=⟨_,List.getElem?_eq_getElem (by omega)⟩;have hgj:l[(j:Int).toNat]?.getD Wi=c:=by rw[show(j:Int).toNat=j by omega,haj];rfl
  rw[hgj]at ec;obtain⟨b,e',ro,eqa,hgb0⟩:=(show 0<l.length->∃b e' ro,a0=some ⟨b,0,none⟩∧Hz.get b=some (.cells (Qg l) e' ro) by obtain⟨_,_,e0,h1⟩:=ha;cases e0;exact h1) (by omega);subst eqa;have hgb:H3.get b=some (.cells (Qg l) e' ro):=by rw[hz3.get b (hwz.lt hgb0)];exact hgb0
  have d1:(0:Int)<=j∧(j:Int)<l.length:=by omega
  have d3:(j:Int).toNat=j:=by omega
  have hrg:=Qen haj;have hle:j * 11+1+2<=(Qg l).length:=by rw[QF];omega
  have q:=GU c.r;simp only[Rg.cells]at q;simp only[Qc,simprocAttr,g13,d1,d3,hgb,hrg];refine⟨hle,?_⟩;refine(q H3).thenW ?_;rintro _ _ hn4 hw4 ⟨rfl,k4,rfl⟩;have hx4:Ext H3 (H3.up k4):=(Ext.refl H3).up hn4;obtain⟨hR4,hO4⟩:=hc.ext _ _ _ hR3 hw3 hx4;have hk4:=hc.ck hR3 hw3 hx4 hw4;simp only[Qc,simprocAttr];refine QDU hc hbase hf hx ha hwz hva hl hn hwx hwh hy hwl hel (hP3.ck ho3 hk4) (ho3.sub hO4) hR4 ((hk2.trans hk3).trans hk4) ?_ ?_ ?_ ?_ ?_ ?_ ?_
  all_goals simp only[Qq,simprocAttr]
  rw[ec]
 ·rw[if_neg (by have:=of_decide_eq_false h;omega)]at ec;simp only[Qc,simprocAttr];refine QDU hc hbase hf hx ha hwz hva hl hn hwx hwh hy hwl hel hP3 ho3 hR3 (hk2.trans hk3) ?_ ?_ ?_ ?_ ?_ ?_ ?_
  all_goals simp only[Qq,simprocAttr]
  rw[ec]
end
theorem Qn8:∀ (ss:List Value) (ws:List Ld) (i:Nat) (s:Value) (w:Ld),ss[i]? = some s->ws[i]? = some w->((ldC ss ws).drop (i * 3)).take 3=[s,.int .i64 w.x,.int .i64 w.h]
 | [],_,_,_,_,h,_=>by simp at h
 | _::_,[],_,_,_,_,h=>by simp at h
 | s::ss,w::ws,0,_,_,h1,h2=>by cases h1;cases h2;rfl
 | s::ss,w::ws,i+1,s',w',h1,h2=>by
  have e:ldC (s::ss) (w::ws)=[s,.int .i64 w.x,.int .i64 w.h]++ldC ss ws:=rfl;rw[e,show(i+1) * 3=3+i * 3 by omega,<- List.drop_drop];exact Qn8 ss ws i s' w' h1 h2
structure QAx (base lb:Nat) (items:List Ld) (Hz:Qa) (x:Lf) (op:Int) (va:Value) (e:List Int) (R:Nat->Qa->Prop) (Own:Qa->Nat->Prop):Prop where
 ext:∀j H H',R j H->H.Wf->Ext H H'->R j H'∧∀id,Own H' id->Own H id
 low:∀j H id,R j H->Own H id->id<H.next
 go:∀j w H Hs p1 p2 p3 p4 s tl,items[j]? = some w->R j H->PfF Hz Hs H x op va p1 p2 p3 p4 s tl w e->PfO (Own H) Hz p1 p2 p3 p4 s tl->base<=H.next->YQ prog lb [.func (.func WM) #[] #[.pointer (some ⟨p1,0,none⟩),.pointer (some ⟨p2,0,none⟩),.pointer (some ⟨p3,0,none⟩),.pointer (some ⟨p4,0,none⟩)]] H λu H'=>u=.bool true∧R (j+1) H'∧CK Own H H'
theorem QAx.ck {base lb:Nat} {items:List Ld} {Hz:Qa} {x:Lf} {op:Int} {va:Value} {e:List Int} {R:Nat->Qa->Prop} {Own:Qa->Nat->Prop} (h:QAx base lb items Hz x op va e R Own) {j:Nat} {H H':Qa} (hR:R j H) (hw:H.Wf) (hx:Ext H H') (hw':H'.Wf):CK Own H H':=
 ⟨hx.next,hw',λid hid _=>hx.get id hid,λid hid=>.inl ((h.ext j H H' hR hw hx).2 id hid)⟩
theorem XE.keep2 {e:TypeId} {H0 H H':Qa} {v:Value} {ws:List Ld} (h:XE e H0 H v ws) (hw:H.Wf) (hk:∀id,H0.next<=id->id<H.next->H'.get id=H.get id):XE e H0 H' v ws:=by
 obtain⟨ss,h1,h2,h3⟩:=h.it;exact⟨ss,h1,h2.ext λid hi=>hk id (h2.low hw hi).1 (h2.low hw hi).2,λj s w hs hw'=>(h3 j s w hs hw').ext λid hi=>hk id ((h3 j s w hs hw').low hw hi).1 ((h3 j s w hs hw').low hw hi).2⟩
theorem QAy {base lb pf pi:Nat} {x:Lf} {op:Int} {va:Value} {l:List Ar} {Hz H:Qa} {R:Nat->Qa->Prop} {Own:Qa->Nat->Prop} (hc:QAx base lb (Wo x.f l) Hz x op va (ZZ x.f op l) R Own) (hbase:base<=H.next) (hx:x.At Hz) (hf0:x.Fr 0) (ha:QS Hz va l) (hwz:Hz.Wf) (hva:∀n,Hz.next<=n->Qj n 6 (.agg #[.int .i64 op,va])=true) (hl:l.length<=1000) (hI:∀a∈l,I64 a.n) (hn:x.f.slots.length=l.length) (hpl:(Wo x.f l).length<=1000)
  (hz:Ext Hz H) (hzo:∀id,id<Hz.next->¬Own H id) (gf:H.get pf=some (.cells x.cells Qe false)) (gi:H.get pi=some (.cells [.int .i64 op,va] Qb false)) (of:¬Own H pf) (oi:¬Own H pi) (hR:R 0 H):
  Qf prog Zh [.func (.yield lb) #[] #[],.pointer (some ⟨pf,0,none⟩),.pointer (some ⟨pi,0,none⟩)] H λu H'=>R (Wo x.f l).length H'∧CK Own H H':=by
 refine QkJ λhw=>?_;have e10:x.cells.take 10=x.cells:=rfl;have l10:10<=x.cells.length:=Nat.le_refl _;obtain⟨a0,cap,rfl⟩:=Q0 ha;simp only[Qdj,Qc,simprocAttr,gf,gi,List.drop_zero,e10];refine⟨l10,?_⟩;refine(Qpa H (hx.ext hwz hz) hf0 (ha.ext hwz hz) hl hI hn).thenW ?_;rintro tl H2 hn2 hw2 ⟨ht2,hx2⟩;obtain⟨at2,ct2,rfl⟩:=ht2.slc;have gf2:H2.get pf=some (.cells x.cells Qe false):=by rw[hx2.get _ (hw.lt gf)];exact gf
 have gi2:H2.get pi=some (.cells [.int .i64 op,.slice a0 l.length cap] Qb false):=by rw[hx2.get _ (hw.lt gi)];exact gi
 have hz2:=hz.trans hx2;simp only[Qc,simprocAttr,gf2,gi2,List.drop_zero,e10];refine⟨l10,?_⟩;refine(Qmg H2 (hx.ext hwz hz2) (ha.ext hwz hz2) hl hn).thenW ?_;rintro v3 H3 hn3 hw3 ⟨hv3,hx23⟩;have hx3:=hx2.trans hx23;have ht3:=ht2.go hw2 hx23;obtain⟨hR3,hO3⟩:=hc.ext _ _ _ hR hw hx3;have hk3:=hc.ck hR hw hx3 hw3;have hv3:=hv3.down hx2.next;have hnew:∀id,H.next<=id->¬Own H3 id:=λid h1 h2=>by have:=hc.low _ _ _ hR (hO3 _ h2);omega
 obtain⟨va3,vc3,rfl⟩:=hv3.slc;have hz3:=hz.trans hx3;have gf3:H3.get pf=some (.cells x.cells Qe false):=by rw[hx3.get _ (hw.lt gf)];exact gf
 have gi3:H3.get pi=some (.cells [.int .i64 op,.slice a0 l.length cap] Qb false):=by rw[hx3.get _ (hw.lt gi)];exact gi
 generalize hpp:Wo x.f l=W at *;simp only[Qc,simprocAttr,Qm];refine Qu (λm A' H'=>∃i:Nat,i<=W.length∧m=W.length - i∧R i H'∧CK Own H3 H'∧A' 0=.func (.yield lb) #[] #[]∧A' 1=.pointer (some ⟨pf,0,none⟩)∧A' 2=.pointer (some ⟨pi,0,none⟩)∧A' 4=.slice at2 (ZZ x.f op l).length ct2∧A' 12=.slice va3 W.length vc3∧A' 13=.int .i64 W.length∧A' 14=.int .i64 i) W.length ?_ ?_
 ·refine⟨0,Nat.zero_le _,by omega,hR3,hc.ck hR3 hw3 (.refl _) hw3,?_,?_,?_,?_,?_,?_,?_⟩
  all_goals simp only[Qq,simprocAttr]
  all_goals rfl
 ·rintro m A' H' ⟨i,hi,rfl,hRi,hk4,r0,r1,r2,r4,r12,r13,r14⟩;have hw4:=hk4.w;simp only[Qc,simprocAttr,r13,r14];refine Qh (λh2=>?_) (λh2=>?_)
  ·have h2:i<W.length:=by have:=of_decide_eq_true h2;omega
   obtain⟨ss,hsl,hgss,hgs⟩:=hv3.it;obtain⟨b,hb1,rfl,hgb⟩:∃b,H.next<=b∧va3=some ⟨b,0,none⟩∧H3.get b=some (.cells (ldC ss W) Qo false):=by
    rcases hgss with⟨h,h',_⟩ | ⟨b,c,h,q1,q2,_⟩
    ·omega
    ·cases h;exact⟨b,q1,rfl,q2⟩
   have hgb3:H'.get b=some (.cells (ldC ss W) Qo false):=by rw[hk4.keep _ (hw3.lt hgb) (hnew _ hb1)];exact hgb
   obtain⟨sv,hsv⟩:∃sv,ss[i]? = some sv:=⟨_,List.getElem?_eq_getElem (by omega)⟩;obtain⟨w,hwi⟩:∃w,W[i]? = some w:=⟨_,List.getElem?_eq_getElem h2⟩;have hs3:=hgs i sv w hsv hwi;have hs4:=hs3.ext (H':=H') λid hid=>hk4.keep id (hs3.low hw3 hid).2 (hnew _ (hs3.low hw3 hid).1);have ht4:=ht3.ext (H':=H') λid hid=>hk4.keep id (ht3.low hw3 hid).2 (hnew _ (ht3.low hw3 hid).1);have hat:=Qn8 ss W i sv w hsv hwi;have hll:(ldC ss W).length=W.length * 3:=by rw[QmD _ _ hsl]
   have d1:(0:Int)<=i∧(i:Int)<W.length:=by omega
   have d3:(i:Int).toNat=i:=by omega
   have ei:IntKind.i64.wrap ((i:Int)+1)=((i+1:Nat):Int):=by rw[w64 (by unfold I64;omega)];omega
   have gf4:H'.get pf=some (.cells x.cells Qe false):=by rw[hk4.keep _ (hw3.lt gf3) (λh=>of (hO3 _ h))];exact gf3
   have gi4:H'.get pi=some (.cells [.int .i64 op,.slice a0 l.length cap] Qb false):=by rw[hk4.keep _ (hw3.lt gi3) (λh=>oi (hO3 _ h))];exact gi3
   obtain⟨ai,ci,rfl⟩:=hs4.slc;have lf:=hw4.lt gf4;have li:=hw4.lt gi4;have nf:¬pf=H'.next:=by omega
   have ni:¬pi=H'.next:=by omega
   simp only[Qc,simprocAttr,r0,r1,r2,r4,r12,r13,r14,d1,d3,hgb3,hat,nf,ni,if_false,gf4,gi4,List.drop_zero,e10];refine⟨by omega,l10,?_⟩;generalize hH5:(H'.push _).set H'.next _=H5;have hx5:Ext H' H5:=by rw[<- hH5];exact((Ext.refl H').push _).set (Nat.le_refl _) _
   have hw5:H5.Wf:=by rw[<- hH5];exact(hw4.push _).set (b0:=.cells [.slice none 0 0,.int .i64 0,.int .i64 0] Qo false) (by rw[Qa.get_push,if_pos rfl]) _
   clear hH5;refine(Qj5 H5 rfl rfl).thenW ?_;rintro _ H6 hn6 hw6 ⟨rfl,hx56,hn56,g6f,g6i,g6l,g6t⟩;have hx6:=hx5.trans hx56;obtain⟨hR6,hO6⟩:=hc.ext _ _ _ hRi hw4 hx6;have hk6:=(hk4.trans (hc.ck hRi hw4 hx6 hw6));have hno6:∀id,H'.next<=id->¬Own H6 id:=λid h1 h2=>by have:=hc.low _ _ _ hRi (hO6 _ h2);omega
   have hnew6:∀id,H.next<=id->id<H3.next->¬Own H6 id:=λid h1 h2 h3=>by
    rcases hk6.own id h3 with h4 | h4
    ·exact hnew id h1 h4
    ·omega
   have hz6:Ext Hz H6:=⟨by have:=hz3.next;have:=hk6.next;omega,λid hid=>by rw[hk6.keep id (by have:=hz3.next;omega) (λh=>hzo id hid (hO3 _ h))];exact hz3.get id hid⟩;have hP:PfF Hz H H6 x op (.slice a0 l.length cap) (H5.next+1) (H5.next+2) H5.next (H5.next+3) (.slice ai w.b.length ci) (.slice at2 (ZZ x.f op l).length ct2) w (ZZ x.f op l):=⟨hz6,hw6,g6i,g6l,g6f,g6t,hs4.go hw4 hx6,ht4.go hw4 hx6⟩;have hn5:=hx5.next;have ho:PfO (Own H6) Hz (H5.next+1) (H5.next+2) H5.next (H5.next+3) (.slice ai w.b.length ci) (.slice at2 (ZZ x.f op l).length ct2):=
    ⟨λid hid h=>by
     rcases hk6.own id h with h4 | h4
     ·exact hzo id hid (hO3 _ h4)
     ·have:=hz3.next;omega,
    hno6 _ (by omega),hno6 _ (by omega),hno6 _ (by omega),hno6 _ (by omega),λid hid=>hnew6 id (hs3.low hw3 hid).1 (hs3.low hw3 hid).2,λid hid=>hnew6 id (ht3.low hw3 hid).1 (ht3.low hw3 hid).2⟩
   simp only[Qc,simprocAttr,r0,QaC];refine QgK (hc.go i w H6 H _ _ _ _ _ _ hwi hR6 hP ho (by have:=hk3.next;have:=hk6.next;omega)) ?_;rintro _ H7 hn7 hw7 ⟨rfl,hR7,hk7⟩;simp only[Qc,simprocAttr,Bool.not_true,r14,ei];refine⟨W.length - (i+1),by omega,i+1,by omega,rfl,hR7,hk6.trans hk7,?_,?_,?_,?_,?_,?_,?_⟩
   all_goals simp only[Qq,simprocAttr,r0,r1,r2,r4,r12,r13]
  ·have h2:i=W.length:=by have:=of_decide_eq_false h2;omega
   subst h2;simp only[Qc,simprocAttr,Qjg];have hkk:=hk3.trans hk4;exact .mk hkk.next ⟨hRi,hkk⟩
theorem Gx.keepS {size:Nat} {e:TypeId} {H0 H H':Qa} {v:Value} {n:Nat} {cs:List Value} (h:Gx size e H0 H v n cs) (hk:∀id,H.get id≠none->H'.get id=H.get id):Gx size e H0 H' v n cs:=by
 rcases h with h | ⟨b,c,rfl,h2,h3,h4⟩
 ·exact .inl h
 ·exact .inr ⟨b,c,rfl,h2,by rw[hk b (by rw[h3];simp)];exact h3,h4⟩
theorem XE.keepS {e:TypeId} {H0 H H':Qa} {v:Value} {ws:List Ld} (h:XE e H0 H v ws) (hk:∀id,H.get id≠none->H'.get id=H.get id):XE e H0 H' v ws:=by
 obtain⟨ss,h1,h2,h3⟩:=h.it;exact⟨ss,h1,h2.keepS hk,λj s w hs hw'=>(h3 j s w hs hw').keepS hk⟩
theorem Gx.keep2 {size:Nat} {e:TypeId} {H0 H H':Qa} {v:Value} {n:Nat} {cs:List Value} (h:Gx size e H0 H v n cs) (hw:H.Wf) (hk:∀id,H0.next<=id->id<H.next->H'.get id=H.get id):Gx size e H0 H' v n cs:=h.ext λid hi=>hk id (h.low hw hi).1 (h.low hw hi).2
theorem QpR {H1 H2:Qa} (hw:H1.Wf) (hx:Ext H1 H2) (l:Nat) (id:Nat) (hid:(H1.kill l).get id≠none):(H2.kill l).get id=(H1.kill l).get id:=by
 rw[Qa.get_kill]at hid;rw[Qa.get_kill,Qa.get_kill]
 by_cases he:id=l
 ·rw[if_pos he,if_pos he]
 ·rw[if_neg he]at hid;rw[if_neg he,if_neg he];refine hx.get id ?_;rcases Nat.lt_or_ge id H1.next with h | h
  ·exact h
  ·exact absurd (hw id h) hid
def QCl:PC:=.ops [Ow 8 (.alloc Ql [.slice none 0 0,.int .i64 0,.int .i64 0]),Ov (.st 3 (t 8) (t 18))]
def QCm:PC:=.block 3 (.ops [Ow 19 (.ld false 1 (t 6)),Ow 20 (.ld true 3 (t 8)),Ow 21 (.bslice Ql 3 1 [.slice none 0 0,.int .i64 0,.int .i64 0] [(0,(t 20))]),Ow 22 (.app Ql 3 40 (t 19) (t 21)),Ov (.st 1 (t 6) (t 22))])
def lyR (Hb:Qa) (c m lB:Nat) (eC:TypeId) (bl:Blk) (W:List Ld) (j:Nat) (H':Qa):Prop:=
 H'.get lB=some bl∧lB<H'.next∧Hb.next<=H'.next∧(∀id,id<Hb.next->id≠c->id≠m->H'.get id=Hb.get id)∧∃v,H'.get c=some (.cells [v] eC false)∧LsU Ql Hb (H'.kill lB) v (W.take j) H'.next∧∀id,inB v id->id<H'.next∧Hb.next<=id∧id≠lB
section
variable {Hb:Qa} {c m lB:Nat} {eC:TypeId} {bl:Blk} {W:List Ld}
theorem QvP (hc:c<Hb.next) {j:Nat} {H1 H2:Qa} (h:lyR Hb c m lB eC bl W j H1) (hw:H1.Wf) (hx:Ext H1 H2):lyR Hb c m lB eC bl W j H2∧∀id,clO c lB eC H2 id->clO c lB eC H1 id:=by
 obtain⟨h1,hl,h2,h3,v,h5,h6,h7⟩:=h;have hn:=hx.next;have e5:=hx.get c (by omega);refine⟨⟨by rw[hx.get lB hl];exact h1,by omega,by omega,λid a b d=>by rw[hx.get id (by omega)];exact h3 id a b d,v,by rw[e5];exact h5,(h6.of λg=>g.keepS (QpR hw hx lB)).mono hn,λid hi=>?_⟩,λid hi=>?_⟩
 ·have:=h7 id hi;exact⟨by omega,this.2⟩
 ·rcases hi with h | h | ⟨v',h,hi⟩
  ·exact .inl h
  ·exact .inr (.inl h)
  ·exact .inr (.inr ⟨v',by rw[<- e5];exact h,hi⟩)
theorem QvQ (hc:c<Hb.next) {j:Nat} {H1:Qa} (h:lyR Hb c m lB eC bl W j H1) {id:Nat} (hi:clO c lB eC H1 id):id<H1.next:=by
 obtain⟨h1,hl,h2,h3,v,h5,h6,h7⟩:=h;rcases hi with rfl | rfl | ⟨v',h,hi⟩
 ·omega
 ·omega
 ·rw[h5]at h;cases h;exact(h7 id hi).1
theorem QCn {L:Option Code->Blk} {A:Env} (hc:c<Hb.next) (hcl:c≠lB) (hml:m=lB∨Hb.next<=lB) (hW:W.length<=1000) (hY:YR prog L [18] QCl QCm A) (r6:A 6=.pointer (some ⟨c,0,none⟩)) {n0 base:Nat} {items:List Ld} (hb:Hb.next<=base) (hlb:lB<base) (hit:∀ (i:Nat) w,items[i]? = some w->W[n0+i]? = some w):
  Cns base lB items LdV (λi=>lyR Hb c m lB eC (L none) W (n0+i)) (clO c lB eC):=by
 refine⟨λj Ha Hc h hwa hx=>QvP hc h hwa hx,λj Ha id h hi=>QvQ hc h hi,?_⟩;rintro j w H0' H1' v0 hj hR hR0 hw0' ⟨s,rfl,hs⟩ hb0 hx0 hO hw1';obtain⟨h1,hl,h2,h3,v,h5,_,h7⟩:=hR;have h6:LsU Ql Hb (H1'.kill lB) v (W.take (n0+j)) H0'.next:=by
  obtain⟨_,_,h2,_,v',h5',h6,_⟩:=hR0;rw[hx0.get c (by omega),h5']at h5;cases h5;exact h6.of λg=>g.keepS (QpR hw0' hx0 lB)
 refine hY lB _ H1' _ h1 rfl ?_ hw1';have hj':=hit j w hj;have hjl:=(List.getElem?_eq_some_iff.1 hj').1;have kk:∀id,id≠lB->(H1'.kill lB).get id=H1'.get id:=λid hid=>by rw[Qa.get_kill,if_neg hid]
 have kn:(H1'.kill lB).get lB=none:=by rw[Qa.get_kill,if_pos rfl]
 have hnk:(H1'.kill lB).next=H1'.next:=rfl;have hwk:(H1'.kill lB).Wf:=hw1'.kill _;have k5:=(kk c hcl).trans h5;have ks:Gx 1 5 Hb (H1'.kill lB) s w.b.length (bys w.b):=(hs.down (H0:=Hb) (by omega)).ext λid hid=>kk id (by have:=hs.low hw1' hid;omega);have k3:∀id,id<Hb.next->id≠c->id≠m->id≠lB->(H1'.kill lB).get id=Hb.get id:=λid a b d e=>(kk id e).trans (h3 id a b d);generalize hHk:H1'.kill lB=Hk at *;obtain⟨a,cp,rfl⟩:=ks.slc;obtain⟨av,cv,rfl⟩:=h6.ls.slc;have nz:¬c=Hk.next:=by omega
 simp only[QCl,QCm,QhW,Qkw,Qc,simprocAttr,nz,if_false,k5,r6];generalize hH5:Qa.push (Qa.set (Qa.push Hk _) _ _) _=H5;have hx5:Ext Hk H5:=by rw[<- hH5];exact(((Ext.refl Hk).push _).set (Nat.le_refl _) _).push _
 have hw5:H5.Wf:=by rw[<- hH5];exact((hwk.push _).set (b0:=.cells [.slice none 0 0,.int .i64 0,.int .i64 0] Ql false) (by rw[Qa.get_push,if_pos rfl]) _).push _
 have g5:H5.get (Hk.next+1)=some (.cells [.slice a w.b.length cp,.int .i64 w.x,.int .i64 w.h] Ql false):=by rw[<- hH5,Qa.get_push,if_pos (by rw[Qa.next_set,Qa.next_push])]
 have hn5:H5.next=Hk.next+2:=by rw[<- hH5,Qa.next_push,Qa.next_set,Qa.next_push]
 clear hH5;have hsrc:ZB 3 (.slice (some ⟨Hk.next+1,0,none⟩) 1 1) H5=some (1,[.slice a w.b.length cp,.int .i64 w.x,.int .i64 w.h]):=by
  rw[G6 g5 (by decide) (by simp)];rfl
 have hlt:(W.take (n0+j)).length<=1000:=by rw[List.length_take];omega
 obtain⟨Hz,hxz,hnz⟩:∃Hz:Qa,Ext Hz H5∧Hz.next=Hb.next:=⟨⟨Hb.next,H5.tr⟩,⟨by show Hb.next<=H5.next;omega,λid _=>rfl⟩,rfl⟩;have hlz:LsU Ql Hz H5 (.slice av (W.take (n0+j)).length cv) (W.take (n0+j)) H0'.next:=(h6.go hwk hx5).down (by omega);have hsz:Gx 1 5 Hz H5 (.slice a w.b.length cp) w.b.length (bys w.b):=(ks.go hwk hx5).down (by omega);refine QvO (by decide) hlz (U':=Hk.next) (by have:=hx0.next;omega) (λa ha=>by have:=hs.low hw1' ha;omega) hxz hw5 hsz hsrc (by omega) (by omega) ?_;intro v' H6 hl6 hk6;obtain⟨a',c',rfl⟩:=hl6.ls.slc;have htk:W.take (n0+(j+1))=W.take (n0+j)++[w]:=by rw[<- Nat.add_assoc,List.take_add_one,hj'];rfl
 rw[<- htk]at hl6 hk6 ⊢;have h65:∀id,id<Hb.next->H6.get id=H5.get id:=λid hid=>(hk6.x.get id (by omega)).trans (hxz.get id (by omega)).symm;have k6c:H6.get c=some (.cells [.slice av (W.take (n0+j)).length cv] eC false):=by rw[h65 _ hc,hx5.get _ (by omega)];exact k5
 have hnk6:=hk6.next;have k6n:H6.get lB=none:=by
  rw[hk6.keep lB (by omega) (λh=>(h7 lB h).2.2 rfl),hx5.get _ (by omega)];exact kn
 simp only[Qc,simprocAttr,QhV,r6,k6c];refine⟨by omega,⟨by rw[Qa.get_set,if_pos rfl],by rw[Qa.next_set,Qa.next_set];omega,by rw[Qa.next_set,Qa.next_set];omega,λid p q r=>?_,.slice a' (W.take (n0+(j+1))).length c',?_,?_,λid hi=>?_⟩,⟨by rw[Qa.next_set,Qa.next_set];omega,?_,λid p q=>?_,λid hi=>?_⟩⟩
 ·have hlb:id≠lB:=by rcases hml with h | h;rw[<- h];exact r;omega
  rw[Qa.get_set,if_neg hlb,Qa.get_set,if_neg q,h65 _ p,hx5.get _ (by omega)];exact k3 id p q r hlb
 ·rw[Qa.get_set,if_neg hcl,Qa.get_set,if_pos rfl]
 ·refine((hl6.down (H0:=Hb) (by omega)).of λg=>g.keep2 hk6.w λid hid hid2=>?_).mono (by rw[Qa.next_set,Qa.next_set];have:=hx5.next;omega);rw[Qa.get_kill]
  by_cases he:id=lB
  ·rw[if_pos he,he,k6n]
  ·rw[if_neg he,Qa.get_set,if_neg he,Qa.get_set,if_neg (by omega)]
 ·obtain⟨ss,_,hg,_⟩:=hl6.it;have:=hg.low hk6.w hi;rw[Qa.next_set,Qa.next_set];refine⟨this.2,by omega,λhe=>?_⟩;rcases hk6.new id hi with h | h
  ·exact(h7 id h).2.2 he
  ·omega
 ·intro id hid;rw[Qa.next_set,Qa.next_set]at hid;rw[Qa.get_set,if_neg (by omega),Qa.get_set,if_neg (by omega)];exact hk6.w id hid
 ·have q1:id≠c:=λh=>q (.inl h);have q2:id≠lB:=λh=>q (.inr (.inl h));have q3:¬inB (.slice av (W.take (n0+j)).length cv) id:=λh=>q (.inr (.inr ⟨_,h5,h⟩));rw[Qa.get_set,if_neg q2,Qa.get_set,if_neg q1,hk6.keep id (by omega) q3,hx5.get _ (by omega),kk id q2]
 ·rcases hi with h | h | ⟨v'',h,hi⟩
  ·exact .inl (.inl h)
  ·exact .inl (.inr (.inl h))
  ·rw[Qa.get_set,if_neg hcl,Qa.get_set,if_pos rfl]at h;cases h;rcases hk6.new id hi with h | h
   ·exact .inl (.inr (.inr ⟨_,h5,h⟩))
   ·exact .inr (by omega)
end
def QDV:PC:=.ops [Om 7 (t 16)]
def QDW:PC:=.block 1 (.seq (.ops [Om 17 (t 7)]) (.block 2 (.rangeF (t 17) [18] QCl QCm)))
def QsO (f:Ld->List Ld) (P:List Ld) (j:Nat):Nat:=((P.take j).flatMap f).length
theorem QCo {f:Ld->List Ld} {P:List Ld} {j:Nat} {w:Ld} (h:P[j]? = some w):QsO f P (j+1)=QsO f P j+(f w).length∧∀ (i:Nat) y,(f w)[i]? = some y->(P.flatMap f)[QsO f P j+i]? = some y:=by
 have h1:P.take (j+1)=P.take j++[w]:=by rw[List.take_add_one,h];rfl
 refine⟨by unfold QsO;rw[h1,List.flatMap_append,List.length_append];simp,λi y hy=>?_⟩;have hj:=(List.getElem?_eq_some_iff.1 h).1;have h2:P.flatMap f=(P.take j).flatMap f++(f w++(P.drop (j+1)).flatMap f):=by
  conv=>lhs;rw[<- List.take_append_drop (j+1) P]
  rw[List.flatMap_append,h1,List.flatMap_append];simp
 have hi:=(List.getElem?_eq_some_iff.1 hy).1;rw[h2];unfold QsO;rw[List.getElem?_append_right (Nat.le_add_right _ _),Nat.add_sub_cancel_left,List.getElem?_append_left hi];exact hy
section
variable {Hb:Qa} {c m:Nat} {eC:TypeId}
theorem QCp {L:Option Code->Blk} {A:Env} {x:Lf} {op:Int} {va:Value} {l:List Ar} {e:List Int} {Hz:Qa} {P:List Ld} (hc:c<Hb.next) (hm:m<Hb.next) (hcm:c≠m) (hW:(P.flatMap (Qbn x.f l e)).length<=1000) (hY:YR prog L [16] QDV QDW A) (r6:A 6=.pointer (some ⟨c,0,none⟩))
  (hf:FOk x.f) (hx:x.At Hz) (ha:QS Hz va l) (hwz:Hz.Wf) (hva:∀n,Hz.next<=n->Qj n 6 (.agg #[.int .i64 op,va])=true) (hl:l.length<=1000) (hn:x.f.slots.length=l.length) (hel:e.length<=2000)
  (hP:∀w∈P,(0<=w.x∧w.x<2)∧(0<=w.h∧w.h<2)∧(x.f.vex=true->(vxF x.f l w.x w.h).Ok)∧w.b.length<=1000):
  QAx Hb.next m P Hz x op va e (λj=>lyR Hb c m m eC (L none) (P.flatMap (Qbn x.f l e)) (QsO (Qbn x.f l e) P j)) (clO c m eC):=by
 refine⟨λj Ha Hc h hwa hx=>QvP hc h hwa hx,λj Ha id h hi=>QvQ hc h hi,?_⟩;rintro j w H Hs p1 p2 p3 p4 s tl hj hR hF hO hbase;obtain⟨h1,hl1,h2,h3,v,h5,h6,h7⟩:=id hR;intro hw0;refine hY m _ H _ h1 rfl ?_ hw0;have om:clO c m eC H m:=.inr (.inl rfl);have kk:∀id,id≠m->(H.kill m).get id=H.get id:=λid hid=>by rw[Qa.get_kill,if_neg hid]
 have kn:(H.kill m).get m=none:=by rw[Qa.get_kill,if_pos rfl]
 have hnk:(H.kill m).next=H.next:=rfl;have hwk:(H.kill m).Wf:=hF.wf.kill _;generalize H.kill m=Hk at *;simp only[QDV,QDW,QhW,Qkw,Qbt,simprocAttr,Qq,simprocAttr,QdX];rw[Qnl WM [] [.pointer (some ⟨p1,0,none⟩),.pointer (some ⟨p2,0,none⟩),.pointer (some ⟨p3,0,none⟩),.pointer (some ⟨p4,0,none⟩)]];intro L2 hY2;refine⟨by kernel_rfl,?_⟩;have hxi:Ext Hk (Hk.push (L2 none)):=(Ext.refl Hk).push _;have hni:(Hk.push (L2 none)).next=H.next+1:=by rw[Qa.next_push,hnk]
 have gi:(Hk.push (L2 none)).get Hk.next=some (L2 none):=by rw[Qa.get_push,if_pos rfl]
 have hwi:=hwk.push (L2 none);generalize Hk.push (L2 none)=Hi at *;have ki:∀id,id≠m->id<H.next->Hi.get id=H.get id:=λid h1 h2=>by rw[hxi.get id (by omega),kk id h1]
 have gic:Hi.get c=some (.cells [v] eC false):=by rw[ki c hcm (by omega)];exact h5
 have nown:∀id,id<H.next->¬clO c m eC H id->¬clO c Hk.next eC Hi id:=λid q1 q2 q3=>by
  rcases q3 with q | q | ⟨v',q,q'⟩
  ·exact q2 (.inl q)
  ·omega
  ·rw[gic]at q;cases q;exact q2 (.inr (.inr ⟨_,h5,q'⟩))
 have ne:∀ {id},¬clO c m eC H id->id≠m:=λq h=>q (h▸om);have hFi:PfF Hz Hs Hi x op va p1 p2 p3 p4 s tl w e:=
  ⟨⟨by have:=hF.z.next;omega,λid hid=>by rw[ki id (ne (hO.z id hid)) (by have:=hF.z.next;omega)];exact hF.z.get id hid⟩,hwi,by rw[ki _ (ne hO.o1) (hF.wf.lt hF.g1)];exact hF.g1,by rw[ki _ (ne hO.o2) (hF.wf.lt hF.g2)];exact hF.g2,by rw[ki _ (ne hO.o3) (hF.wf.lt hF.g3)];exact hF.g3,by rw[ki _ (ne hO.o4) (hF.wf.lt hF.g4)];exact hF.g4,
   hF.s.ext λid hi=>ki id (ne (hO.s id hi)) (hF.s.low hF.wf hi).2,hF.t.ext λid hi=>ki id (ne (hO.t id hi)) (hF.t.low hF.wf hi).2⟩
 have hOi:PfO (clO c Hk.next eC Hi) Hz p1 p2 p3 p4 s tl:=⟨λid q=>nown id (by have:=hF.z.next;omega) (hO.z id q),nown _ (hF.wf.lt hF.g1) hO.o1,nown _ (hF.wf.lt hF.g2) hO.o2,nown _ (hF.wf.lt hF.g3) hO.o3,nown _ (hF.wf.lt hF.g4) hO.o4,λid q=>nown id (hF.s.low hF.wf q).2 (hO.s id q),λid q=>nown id (hF.t.low hF.wf q).2 (hO.t id q)⟩;obtain⟨hc1,hc2⟩:=QCo (f:=Qbn x.f l e) hj;obtain⟨hwx,hwh,hwv,hwl⟩:=hP w (List.mem_of_getElem? hj);generalize hWW:P.flatMap (Qbn x.f l e)=W at *;have hcns:=QCn (Hb:=Hb) (c:=c) (m:=m) (lB:=Hk.next) (eC:=eC) (W:=W) (base:=Hi.next) hc (by omega) (.inr (by omega)) hW hY2 (by simp only[Qq,simprocAttr,r6]) (by omega) (by omega) hc2;refine(QsN hcns (Nat.le_refl _) hf hx ha hwz hva hl hn hwx hwh hwv hwl hel hFi hOi ?_).thenW ?_
 ·refine⟨gi,by omega,by omega,λid a b d=>by rw[ki id d (by omega)];exact h3 id a b d,v,gic,(h6.of λg=>g.keepS λid hid=>?_).mono (by omega),λid hi=>?_⟩
  ·have hlt:id<Hk.next:=Nat.lt_of_not_le λh=>hid (hwk id h);rw[Qa.get_kill,if_neg (by omega)];exact hxi.get id hlt
  ·have:=h7 id hi;exact⟨by omega,this.2.1,by omega⟩
 ·rintro u H2 hn2 hw2 ⟨hR2,hk2⟩;rw[<- hc1]at hR2;obtain⟨q1,q2,q3,q4,v',q5,q6,q7⟩:=id hR2;refine⟨none,q1,?_⟩;have hm2:H2.get m=none:=by
   rw[hk2.keep m (by omega) ?_,hxi.get m (by omega)]
   ·exact kn
   ·rintro(h | h | ⟨v'',h,h'⟩)
    ·exact hcm h.symm
    ·omega
    ·rw[gic]at h;cases h;have:=h7 m h';omega
  have gf:∀id,id≠m->id≠Hk.next->((H2.kill Hk.next).set m (L none)).get id=H2.get id:=λid a b=>by rw[Qa.get_set,if_neg a,Qa.get_kill,if_neg b]
  have hnf:((H2.kill Hk.next).set m (L none)).next=H2.next:=rfl;have gm:((H2.kill Hk.next).set m (L none)).get m=some (L none):=by rw[Qa.get_set,if_pos rfl]
  have hwf:((H2.kill Hk.next).set m (L none)).Wf:=λid hid=>by
   rw[hnf]at hid;rw[gf id (by omega) (by omega)];exact hw2 id hid
  have hkl:∀id,id≠m->id≠Hk.next->(((H2.kill Hk.next).set m (L none)).kill m).get id=H2.get id:=λid a b=>by rw[Qa.get_kill,if_neg a];exact gf id a b
  simp only[Qc,simprocAttr,Qkv,QhV];generalize (H2.kill Hk.next).set m (L none)=Hf at *;have hn2':=hk2.next;refine⟨by show H.next<=H2.next;omega,⟨gm,by omega,by omega,λid a b d=>by rw[gf id d (by omega)];exact q4 id a b d,v',by rw[gf c hcm (by omega)];exact q5,(q6.of λg=>g.keepS λid hid=>?_).mono (by omega),λid hi=>?_⟩,⟨by omega,hwf,λid a b=>?_,λid a=>?_⟩⟩
  ·rw[Qa.get_kill]at hid;split at hid
   ·exact absurd rfl hid
   ·rename_i q;have q':id≠m:=λh=>hid (h▸hm2);rw[hkl id q' q,Qa.get_kill,if_neg q]
  ·have:=q7 id hi;exact⟨by omega,this.2.1,by omega⟩
  ·rw[gf id (ne b) (by omega),hk2.keep id (by omega) (nown id a b),ki id (ne b) a]
  ·rcases a with a | a | ⟨v'',a,a'⟩
   ·exact .inl (.inl a)
   ·exact .inl (.inr (.inl a))
   ·rw[gf c hcm (by omega),q5]at a;cases a;rcases hk2.own id (.inr (.inr ⟨_,q5,a'⟩)) with h | h
    ·rcases h with h | h | ⟨v'',h,h'⟩
     ·exact .inl (.inl h)
     ·exact .inr (by omega)
     ·rw[gic]at h;cases h;exact .inl (.inr (.inr ⟨_,h5,h'⟩))
    ·exact .inr (by omega)
end
theorem Jd {f:Fm} {op:Int} {l:List Ar} (h:Qgl f op l=true):f.op=op∧f.shapes.length=l.length∧Qk1 f=0∧QT op l=0∧∀i,i<l.length->QhE (Xp op l) (l.getD i Wi) (f.shapes.getD i 0)=true:=by
 unfold Qgl at h;simp only[Bool.and_eq_true,beq_iff_eq,List.all_eq_true,List.mem_range]at h;exact⟨h.1.1.1.1,h.1.1.1.2,h.1.1.2,h.1.2,h.2⟩
theorem QsP (x:Int):∀ (l:List Int) (k:Nat),0<=Qad l x k->(k:Int)<=Qad l x k∧l.getD ((Qad l x k).toNat - k) 0=x
 | [],k,h=>by simp[Qad]at h
 | y::l,k,h=>by
  unfold Qad at h ⊢;split
  ·rename_i e;exact⟨Int.le_refl _,by simp[e]⟩
  ·rename_i e;rw[if_neg e]at h;obtain⟨h1,h2⟩:=QsP x l (k+1) h;refine⟨by omega,?_⟩;have e2:(Qad l x (k+1)).toNat - k=((Qad l x (k+1)).toNat - (k+1))+1:=by omega
   rw[e2,List.getD_cons_succ];exact h2
theorem QAz {l:List Int} {x:Int} (h:0<=QE l x):l.getD (QE l x).toNat 0=x:=(QsP x l 0 h).2
theorem QsQ:∀ {l:List Ar},Qjc l=0->∀a∈l,Xc a=0
 | [],_,_,h=>by cases h
 | a::l,h,b,hb=>by
  unfold Qjc at h;split at h
  ·rename_i q;rcases List.mem_cons.1 hb with rfl | hb
   ·simpa using q
   ·exact QsQ h b hb
  ·rename_i q;simp[h]at q
theorem QsR {op:Int} {l:List Ar} (h:QT op l=0):Qjc l=0∧l.length<=4:=by
 unfold QT at h;split at h
 ·simp at h
 ·split at h
  ·simp at h
  ·split at h
   ·rename_i q;simp[h]at q
   ·rename_i h1 h2 h3;exact⟨by simpa using h3,by omega⟩
theorem QyJ {r:Rg} (h:Y9 r=true):0<=r.n∧r.n<16:=by
 unfold Y9 QfN at h;simp only[decide_eq_true_eq]at h;split at h
 ·simp only at h;omega
 ·split at h
  ·simp only at h;omega
  ·split at h<;>simp only at h<;>omega
theorem Qn9 {f:Fm} {op:Int} {l:List Ar} (h:Qgl f op l=true) {s:Int} (hs:s=1∨s=3∨s=4∨s=7) (h0:0<=QE f.slots s):∃a,l[(QE f.slots s).toNat]? = some a∧a.k=1∧(1<=a.r.c∧a.r.c<=7)∧Y9 a.r=true:=by
 obtain⟨_,h2,h3,h4,h5⟩:=Jd h;have hsl:=Qq3 h3;have hlt:=QsE f.slots s;obtain⟨j,hj⟩:∃j:Nat,QE f.slots s=j:=⟨(QE f.slots s).toNat,by omega⟩;have his:=QAz h0;rw[hj]at his hlt ⊢;have e1:(j:Int).toNat=j:=by omega
 rw[e1]at his ⊢;obtain⟨a,ha⟩:∃a,l[j]? = some a:=⟨_,List.getElem?_eq_getElem (by omega)⟩;refine⟨a,ha,?_⟩;have hm:Qe5 f=true:=QmC h3 3 (by omega);unfold Qe5 at hm;rw[Bool.and_eq_true]at hm;have hg:Qj2 (f.shapes.getD j 0) (f.slots.getD j 0)=true:=List.all_eq_true.1 hm.2 j (List.mem_range.2 (by omega));rw[his]at hg;have hr:1<=f.shapes.getD j 0∧f.shapes.getD j 0<=6:=by
  unfold Qj2 at hg;rw[if_neg (by omega),if_neg (by omega),if_pos (by omega)]at hg;simpa using hg
 have ht:=h5 j (by omega);unfold QhE at ht;rw[Bool.and_eq_true]at ht;have hgd:l.getD j Wi=a:=by simp[List.getD_eq_getElem?_getD,ha]
 rw[hgd]at ht;have hc:a.k=1∧(1<=a.r.c∧a.r.c<=7):=by
  have e:(QuB (Xp op l) a).a=a:=by unfold QuB;split<;>rfl
  obtain⟨n,hn⟩:∃n:Nat,(f.shapes.getD j 0).toNat=n:=⟨_,rfl⟩;have ht:=ht.2;rw[hn]at ht;have:n=1∨n=2∨n=3∨n=4∨n=5∨n=6:=by omega
  rcases this with rfl | rfl | rfl | rfl | rfl | rfl
  all_goals
   simp only[Qj4,WH,e,Bool.or_eq_true,Bool.and_eq_true,beq_iff_eq]at ht;omega
 have hv:=QsQ (QsR h4).1 a (List.mem_of_getElem? ha);unfold Xc at hv;rw[if_pos (by simp[hc.1])]at hv;refine⟨hc.1,hc.2,?_⟩;cases hq:Y9 a.r with
 | true=>rfl
 | false=>rw[hq]at hv;simp at hv
theorem QyK {f:Fm} {op:Int} {l:List Ar} (h:Qgl f op l=true) {s:Int} (hs:s=1∨s=3∨s=4∨s=7) (h0:0<=QE f.slots s):∃a,l[(QE f.slots s).toNat]? = some a∧a.k=1∧(1<=a.r.c∧a.r.c<=7)∧0<=a.r.n∧a.r.n<16:=by
 obtain⟨a,h1,h2,h3,h4⟩:=Qn9 h hs h0;exact⟨a,h1,h2,h3,QyJ h4⟩
theorem QvR {f:Fm} {op:Int} {l:List Ar} (h:Qgl f op l=true) (hv:f.vex=true) {a b:Int} (ha:0<=a∧a<2) (hb:0<=b∧b<2):(vxF f l a b).Ok:=by
 obtain⟨_,h2,h3,h4,h5⟩:=Jd h;have hf:=QgJ h3;obtain⟨hm,hp,hw,hl⟩:=hf.vx hv;have hmp:=hf.map;refine⟨Ve _ _ _,ha,?_,?_,?_,?_,?_,hp⟩
 ·show 0<=hB f l b∧hB f l b<2;unfold hB;split
  ·exact Ve _ _ _
  ·exact hb
 ·show 1<=f.map∧f.map<4;omega
 ·show 0<=QnW f.w∧QnW f.w<2;unfold QnW;split<;>omega
 ·show 0<=Qo2 f l 3∧Qo2 f l 3<16;unfold Qo2;split
  ·rename_i h0;obtain⟨c,hc,_,_,hn⟩:=QyK h (.inr (.inl rfl)) h0;rw[hc];exact hn
  ·omega
 ·show 0<=f.l∧f.l<2;omega
theorem QpS (d:Int):(KM d 4).1.length<=8:=Qgb _ _ (by decide)
def QyL (w:Ld):Prop:=(0<=w.x∧w.x<2)∧(0<=w.h∧w.h<2)∧w.b.length<=100
theorem z02:(0:Int)<=0∧(0:Int)<2:=by decide
theorem QsS (mid:Int) (ix:Rg) (f d:Int):QyL (VZ mid ix f d):=by
 have:=QpS d;refine⟨Qem _,z02,?_⟩;unfold VZ;simp only[List.length_append,List.length_cons,List.length_nil];omega
theorem Qk3 (mid rm:Int) (sib:List Int) (hs:sib.length<=8) (m:Mm):∀w∈Xa mid rm sib m,QyL w:=by
 intro w hw;unfold Xa at hw;obtain⟨md,_,h⟩:=List.mem_flatMap.1 hw;unfold Zd at h;split at h
 ·have:=QsI md m;rw[List.mem_singleton]at h;subst h;refine⟨Qem _,Qem _,?_⟩;simp only[List.length_append,List.length_cons,List.length_nil];omega
 ·cases h
theorem QAA (mid:Int) (m:Mm):∀w∈Qcr mid m,QyL w:=by
 intro w hw;unfold Qcr at hw;split at hw
 ·rw[List.mem_singleton]at hw;subst hw;have:=QpS m.d;refine⟨z02,z02,?_⟩;simp only[List.length_append,List.length_cons,List.length_nil];omega
 ·split at hw
  ·rw[List.mem_singleton]at hw;subst hw;exact QsS _ _ _ _
  ·split at hw
   ·exact Qk3 _ _ _ (by simp) _ w hw
   ·rcases List.mem_append.1 hw with hw | hw
    ·split at hw
     ·cases hw
     ·exact Qk3 _ _ _ (by simp) _ w hw
    ·rcases List.mem_append.1 hw with hw | hw
     ·exact Qk3 _ _ _ (by simp) _ w hw
     ·split at hw
      ·cases hw
      ·rw[List.mem_singleton]at hw;subst hw;exact QsS _ _ _ _
theorem QAB (mid:Int) (a:Ar):(QgZ mid a).1.length<=8∧∀w∈(QgZ mid a).1,QyL w:=by
 unfold QgZ;split
 ·simp
 ·split
  ·simp
  ·split
   ·refine⟨by simp,λw hw=>?_⟩;rw[List.mem_singleton]at hw;subst hw;exact⟨z02,Qem _,by simp⟩
   ·split
    ·exact⟨QsK _ _,QAA _ _⟩
    ·simp
theorem GY (f:Fm) (l:List Ar):(Wo f l).length<=8∧∀w∈Wo f l,QyL w:=by
 unfold Wo;split
 ·refine⟨by simp,λw hw=>?_⟩;rw[List.mem_singleton]at hw;subst hw;exact⟨z02,z02,by simp⟩
 ·split
  ·exact QAB _ _
  ·simp
theorem Qbo {α β:Type} {f:α->List β} {n:Nat}:∀ (l:List α),(∀a∈l,(f a).length<=n)->(l.flatMap f).length<=l.length * n
 | [],_=>by simp
 | a::l,h=>by
  have h1:=h a (List.mem_cons_self ..);have h2:=Qbo l λb hb=>h b (List.mem_cons_of_mem _ hb);rw[List.flatMap_cons,List.length_append,List.length_cons,Nat.add_mul];omega
def Qau (f:Fm) (op:Int) (l:List Ar):List Ld:=if Qgl f op l=true then(Wo f l).flatMap (Qbn f l (ZZ f op l)) else[]
theorem Qq7 (f:Fm) (op:Int) (l:List Ar):(Qau f op l).length<=24:=by
 unfold Qau;split
 ·have h1:=(GY f l).1;have h2:=Qbo (f:=Qbn f l (ZZ f op l)) (n:=3) (Wo f l) λw _=>by unfold Qbn;rw[List.length_map];exact(QpQ _ _ _ _).1
  omega
 ·simp
theorem QyM (f:Fm) (op:Int) (l:List Ar):(ZZ f op l).length<=2000:=by
 unfold ZZ;have:=QvM (QAt f op l) (tlN f);rw[List.length_append];split<;>split<;>simp<;>omega
theorem Qq8 {x:Lf} {op:Int} {va:Value} {l:List Ar} (H:Qa) (hx:x.At H) (hf:x.Fr 0) (ha:QS H va l) (hva:∀n,H.next<=n->Qj n 6 (.agg #[.int .i64 op,va])=true) (hl:l.length<=1000) (hI:∀a∈l,I64 a.n):
  Qf prog QdY [.agg x.cells.toArray,.agg #[.int .i64 op,va]] H λu H'=>∃v,u=.tuple #[v,.bool (decide (0<(Qau x.f op l).length))]∧LsU Ql H H' v (Qau x.f op l) H'.next∧Ext H H':=by
 refine QoO λhw=>?_;have ex:(Value.agg x.cells.toArray).cells.toList=x.cells:=rfl;have e10:x.cells.take 10=x.cells:=rfl;have l10:10<=x.cells.length:=Nat.le_refl _;obtain⟨W,eW⟩:∃W,W=Qau x.f op l:=⟨_,rfl⟩;have hWl:W.length<=24:=by rw[eW];exact Qq7 _ _ _
 rw[<- eW];unfold Qau at eW;obtain⟨a0,cap,rfl⟩:=Q0 ha;simp only[Qhm,ex,Qbt,simprocAttr];generalize hH1:Qa.push H (.cells x.cells Qe false)=H1;have g1:H1.get H.next=some (.cells x.cells Qe false):=by rw[<- hH1,Qa.get_push,if_pos rfl]
 have hx1:Ext H H1:=by rw[<- hH1];exact(Ext.refl H).push _
 have hn1:H1.next=H.next+1:=by rw[<- hH1];rfl
 have hw1:H1.Wf:=by rw[<- hH1];exact hw.push _
 clear hH1;simp only[Qc,simprocAttr,hn1];generalize hH2:Qa.push H1 _=H2;have hx2:Ext H H2:=by rw[<- hH2];exact(hx1.push _)
 have hw2:H2.Wf:=by rw[<- hH2];exact(hw1.push _)
 have g22:H2.get H.next=some (.cells x.cells Qe false):=by rw[<- hH2,Qa.get_push,if_neg (by omega)];exact g1
 have g23:H2.get (H.next+1)=some (.cells [.int .i64 op,.slice a0 l.length cap] Qb false):=by rw[<- hH2,Qa.get_push,if_pos (by omega)]
 have hn2:H2.next=H.next+2:=by rw[<- hH2,Qa.next_push,hn1]
 clear hH2;simp only[Qc,simprocAttr,g1,g22,g23,List.drop_zero,e10];refine⟨l10,?_⟩;refine(Qq5 H2 (hx.ext hw hx2) hf (ha.ext hw hx2) hl hI).thenW ?_;rintro _ H3 hn3 hw3 ⟨rfl,hx23⟩;have hx3:=hx2.trans hx23;cases hq:Qgl x.f op l with
 | false=>
  rw[hq,if_neg (by decide)]at eW;subst eW;simp only[Qc,simprocAttr,Bool.not_false,QfO];exact .mk hx3.next ⟨_,rfl,LsU.nil _ _ _ _,hx3⟩
 | true=>
  rw[hq,if_pos rfl]at eW;have g32:H3.get H.next=some (.cells x.cells Qe false):=by rw[hx23.get _ (by omega)];exact g22
  have g33:H3.get (H.next+1)=some (.cells [.int .i64 op,.slice a0 l.length cap] Qb false):=by rw[hx23.get _ (by omega)];exact g23
  have nz1:¬H.next=H3.next:=by omega
  have nz2:¬H.next+1=H3.next:=by omega
  simp only[Qc,simprocAttr,Bool.not_true,nz1,nz2,if_false,g32,g33,List.drop_zero,e10];refine⟨l10,?_⟩;obtain⟨H4,eC,hg4,hx34,hw4,hn4,hH4⟩:∃H4 eC,H4.get H3.next=some (.cells [.slice none 0 0] eC false)∧Ext H3 H4∧H4.Wf∧H4.next=H3.next+1∧H4=H3.push (.cells [.slice none 0 0] _ false):=⟨_,_,by rw[Qa.get_push,if_pos rfl],(Ext.refl H3).push _,hw3.push _,rfl,rfl⟩;rw[<- hH4];clear hH4;refine(Qpc H4).thenW ?_;rintro _ H5 hn5 hw5 ⟨rfl,hx45,hn45,g5f,g5i⟩;have hx5:=(hx3.trans hx34).trans hx45;have g5c:H5.get H3.next=some (.cells [.slice none 0 0] eC false):=by rw[hx45.get _ (by omega)];exact hg4
  simp only[Qbt,simprocAttr,Qq,simprocAttr,QdX];rw[Qnl Zh [] [.pointer (some ⟨H4.next,0,none⟩),.pointer (some ⟨H4.next+1,0,none⟩)]];intro L hY;refine⟨by kernel_rfl,?_⟩;have hxb:Ext H5 (H5.push (L none)):=(Ext.refl H5).push _;have hnb:(H5.push (L none)).next=H5.next+1:=rfl;have gb:(H5.push (L none)).get H5.next=some (L none):=by rw[Qa.get_push,if_pos rfl]
  have hwb:=hw5.push (L none);generalize H5.push (L none)=Hb at *;have gbc:Hb.get H3.next=some (.cells [.slice none 0 0] eC false):=by rw[hxb.get _ (by omega)];exact g5c
  obtain⟨_,_,hs3,_,_⟩:=Jd hq;have hP:∀w∈Wo x.f l,(0<=w.x∧w.x<2)∧(0<=w.h∧w.h<2)∧(x.f.vex=true->(vxF x.f l w.x w.h).Ok)∧w.b.length<=1000:=λw hw=>by
   obtain⟨h1,h2,h3⟩:=(GY x.f l).2 w hw;exact⟨h1,h2,λhv=>QvR hq hv h1 h2,by omega⟩
  have hsn:x.f.slots.length=l.length:=by rw[<- Qq3 hs3];exact(Jd hq).2.1
  have hout:=QCp (Hb:=Hb) (c:=H3.next) (m:=H5.next) (eC:=eC) (op:=op) (va:=.slice a0 l.length cap) (e:=ZZ x.f op l) (Hz:=H) (by omega) (by omega) (by omega) (by rw[<- eW];omega) hY (by simp only[Qq,simprocAttr]) (QgJ hs3) hx ha hw hva hl hsn (QyM _ _ _) hP;rw[<- eW]at hout;have hno:∀id,id≠H3.next->id≠H5.next->¬clO H3.next H5.next eC Hb id:=λid p q h=>by
   rcases h with h | h | ⟨v,h,o,n,c,h'⟩
   ·exact p h
   ·exact q h
   ·rw[gbc]at h;cases h;cases h'
  refine(QAy hout (Nat.le_refl _) hx hf ha hw hva hl hI hsn (by have:=(GY x.f l).1;omega) (hx5.trans hxb) (λid hid=>hno id (by have:=hx3.next;omega) (by have:=hx5.next;omega)) (by rw[hxb.get _ (by omega)];exact g5f) (by rw[hxb.get _ (by omega)];exact g5i) (hno _ (by omega) (by omega)) (hno _ (by omega) (by omega)) ?_).thenW ?_
  ·refine⟨gb,by omega,by omega,λ_ _ _ _=>rfl,_,gbc,?_,λid ⟨o,n,c,h⟩=>by cases h⟩;exact LsU.nil _ _ _ _
  ·rintro u H6 hn6 hw6 ⟨hR6,hk6⟩;obtain⟨q1,q2,q3,q4,v',q5,q6,q7⟩:=hR6;refine⟨none,q1,?_⟩;have hcn:QsO (Qbn x.f l (ZZ x.f op l)) (Wo x.f l) (Wo x.f l).length=W.length:=by unfold QsO;rw[List.take_length,eW]
   rw[hcn,List.take_length]at q6;have hxf:Ext H (H6.kill H5.next):=⟨by have:=hx5.next;show H.next<=H6.next;omega,λid hid=>by rw[Qa.get_kill,if_neg (by have:=hx5.next;omega),q4 id (by have:=hx5.next;omega) (by have:=hx3.next;omega) (by have:=hx5.next;omega)];exact(hx5.trans hxb).get id hid⟩;have g6:(H6.kill H5.next).get H3.next=some (.cells [v'] eC false):=by rw[Qa.get_kill,if_neg (by omega)];exact q5
   have q6:LsU Ql H (H6.kill H5.next) v' W (H6.kill H5.next).next:=q6.down (H0:=H) (by have:=hx5.next;omega);generalize H6.kill H5.next=H7 at *;obtain⟨a7,c7,rfl⟩:=q6.ls.slc;simp only[Qc,simprocAttr,Qkv,g6,QfO];refine .mk hxf.next ⟨_,?_,q6,hxf⟩;rw[show decide ((0:Int)<(W.length:Int))=decide (0<W.length) by simp]
def QcM (op:Int):List Ar->Bool
 | [x,y]=>(op==11)&&(((x.k==1)&&(y.k==1))&&(x.r.c==y.r.c))&&!(x.r.n==y.r.n)
 | _=>false
def Z0 (op:Int) (l:List Ar):List (List Ar):=
 if((QI op l).2.2==0)=true then[(QI op l).2.1]++(if QcM op (QI op l).2.1=true then[(QI op l).2.1.reverse] else[]) else[]
def Qmi (op:Int) (vs:List Value):List Value:=vs.flatMap λs=>[.int .i64 op,s]
def QAC (H:Qa) (v:Value) (op:Int) (ws:List (List Ar)):Prop:=∃vs:List Value,vs.length=ws.length∧QaQ H v ws.length (Qmi op vs)∧∀ (j:Nat) s w,vs[j]? = some s->ws[j]? = some w->QS H s w∧∀n,H.next<=n->Qj n 6 (.agg #[.int .i64 op,s])=true
theorem Qk4 {op:Int} {l:List Ar} (h:(QI op l).2.2=0):QI op l=(op,(QI op l).2.1,0):=by
 unfold QI at h ⊢;split
 ·rename_i q;rw[if_pos q]at h;simp only at h;rw[h]at q;exact absurd q (by decide)
 ·rename_i q;rw[if_neg q]at h;split
  ·rename_i q2;rw[if_pos q2]at h;simp only at h;rw[h]at q2;exact absurd q2 (by decide)
  ·rfl
theorem QsT {H H':Qa} {op:Int} {v:Value} {l:List Ar} (ha:QS H' v l) (hf:∀a n c,v=.slice (some a) n c->H.next<=a.block∧a.block<H'.next) (n:Nat) (hn:H'.next<=n):Qj n 6 (.agg #[.int .i64 op,v])=true:=by
 obtain⟨a,cap,rfl,h1⟩:=ha;cases a with
 | none=>simp[Qj,Ab.plain]
 | some a=>
  have:=(hf _ _ _ rfl).2;simp[Qj,Ab.plain];omega
theorem QpT (ib:Int×Bool):∀l:List Ar,(WR ib l).1.length<=l.length
 | []=>Nat.le_refl _
 | a::l=>by
  unfold WR;split
  ·simpa using QpT ib l
  ·simp
theorem Qw6 (op:Int) (l:List Ar):(QaT op l).length<=l.length+1:=by
 unfold QaT;split
 ·split<;>simp
 ·split
  ·simp
  ·split<;>simp
theorem Qj6 (op:Int) (l:List Ar):(QI op l).2.1.length<=5:=by
 unfold QI;split
 ·simp
 ·rename_i h;split
  ·simp
  ·have:=Qh4 (op:=op) (l:=l) (by simpa using h);have:=QpT (Xp op l) l;have:=Qw6 op (WR (Xp op l) l).1;simp only;omega
theorem QEw {op:Int} {m:List Ar} {W:List (List Ar)} {H H3:Qa} {B:Nat} {a2:Option Addr} {c2:Nat} (hml:m.length<=1000) (eW:W=[m]++if QcM op m=true then[m.reverse] else[]) (hx3:Ext H H3) (hw3:H3.Wf) (g3:H3.get B=some (.cells [.int .i64 op,.slice a2 m.length c2] Qb false)) (ha:QS H3 (.slice a2 m.length c2) m) (hbl:∀n,H3.next<=n->Qj n 6 (.agg #[.int .i64 op,.slice a2 m.length c2])=true) {A:Env} (r3:A 3=.pointer (some ⟨B,0,none⟩)):
  Qt prog Jm ⟨Rt prog Qdi H λu H'=>QAC H' u op W∧Ext H H',Z5⟩ (Rt prog Qdi H λu H'=>QAC H' u op W∧Ext H H') A H3:=by
 have lB:=hw3.lt g3;have nB:¬B=H3.next:=by omega
 simp only[Jm,sxA,sxB,Nat.reduceBEq,Nat.reduceEqDiff,reduceCtorEq,mxA,mxB,Nat.reduceAdd,reduceIte,Nat.reduceLeDiff,splice,r3,g3,nB,if_false];generalize hH4:H3.push _=H4;have hx4:Ext H3 H4:=by rw[<- hH4];exact(Ext.refl _).push _
 have hw4:H4.Wf:=by rw[<- hH4];exact hw3.push _
 have g4:H4.get H3.next=some (.cells [.int .i64 op,.slice a2 m.length c2] Qb false):=by rw[<- hH4,Qa.get_push,if_pos rfl]
 have hn4:H4.next=H3.next+1:=by rw[<- hH4];rfl
 clear hH4;refine⟨rfl,?_⟩;refine(QvB _ m H4 (ha.ext hw3 hx4) hml).thenW ?_;rintro u H5 hn5 hw5 ⟨hx5,hcl⟩;obtain⟨ca,cap,cb,rfl,hcb,hca⟩:∃ca cap cb,u=.slice ca m.length cap∧(0<m.length->ca=some ⟨cb,0,none⟩∧H4.next<=cb∧H5.get cb=some (.cells (Qg m) Qd false))∧(∀a,ca=some a->H4.next<=a.block∧a.block<H5.next):=by
  rcases hcl with⟨rfl,rfl | ⟨rfl,rfl⟩⟩ | ⟨hne,rfl,rfl⟩
  ·exact⟨none,0,0,rfl,λh=>absurd h (Nat.lt_irrefl 0),λa h=>by cases h⟩
  ·exact⟨_,0,0,rfl,λh=>absurd h (Nat.lt_irrefl 0),λa h=>by cases h;exact⟨Nat.le_refl _,by rw[Qa.next_push];exact Nat.lt_succ_self _⟩⟩
  ·refine⟨_,_,H4.next+1,rfl,λ_=>⟨rfl,by omega,by rw[Qa.get_push,if_pos (by simp only[Qa.next_push])]⟩,λa h=>by cases h;simp only[Qa.next_push];omega⟩
 clear hcl;simp only[sxA,sxB,Nat.reduceBEq,Nat.reduceEqDiff,reduceCtorEq,mxA,mxB,Nat.reduceAdd,reduceIte,Nat.reduceLeDiff,splice];refine⟨hx5.eqB,?_⟩;generalize hH6:H5.push _=H6;have hx6:Ext H5 H6:=by rw[<- hH6];exact(Ext.refl _).push _
 have hw6:H6.Wf:=by rw[<- hH6];exact hw5.push _
 have hn6:H6.next=H5.next+1:=by rw[<- hH6];rfl
 have g6:H6.get H5.next=some (.cells [.int .i64 op,.slice ca m.length cap] QH false):=by rw[<- hH6,Qa.get_push,if_pos rfl]
 clear hH6;have hx36:=(hx4.trans hx5).trans hx6;have hxe:=hx3.trans hx36;have g6r:H6.get H3.next=some (.cells [.int .i64 op,.slice a2 m.length c2] Qb false):=by rw[hx6.get _ (by omega),hx5.get _ (by omega)];exact g4
 have ha6:=ha.ext hw3 hx36;have hc6:QS H6 (.slice ca m.length cap) m:=⟨ca,cap,rfl,λh=>⟨cb,_,_,(hcb h).1,by rw[hx6.get _ (hw5.lt (hcb h).2.2)];exact(hcb h).2.2⟩⟩
 -- one spelling
 have hend1:QcM op m=false->QAC H6 (.slice (some ⟨H3.next,0,none⟩) 1 1) op W:=λh=>by
  rw[eW,if_neg (by rw[h];decide),List.append_nil];refine⟨[.slice a2 m.length c2],rfl,⟨_,1,rfl,λ_=>⟨H3.next,_,_,rfl,g6r⟩⟩,λj s w h1 h2=>?_⟩;rcases j with _ | j
  ·cases h1;cases h2;exact⟨ha6,λn hn=>hbl n (by have:=hx36.next;omega)⟩
  ·simp at h1
 cases h11:op==11 with
 | false=>
  simp only[sxA,sxB,Nat.reduceBEq,Nat.reduceEqDiff,reduceCtorEq,mxA,mxB,Nat.reduceAdd,reduceIte,Nat.reduceLeDiff,splice,XB];refine .mk hxe.next ⟨hend1 ?_,hxe⟩;unfold QcM;split<;>simp[h11]
 | true=>
  simp only[sxA,sxB,Nat.reduceBEq,Nat.reduceEqDiff,reduceCtorEq,mxA,mxB,Nat.reduceAdd,reduceIte,Nat.reduceLeDiff,splice];refine(QaS H5.next op _ m H6 false g6 hc6 hml).thenW ?_;rintro _ H6 _ _ ⟨rfl,rfl⟩;cases hal:QaR m with
  | false=>
   simp only[sxA,sxB,Nat.reduceBEq,Nat.reduceEqDiff,reduceCtorEq,mxA,mxB,Nat.reduceAdd,reduceIte,Nat.reduceLeDiff,splice,XB];refine .mk hxe.next ⟨hend1 ?_,hxe⟩;unfold QcM;unfold QaR at hal;split
   ·simp only at hal;rw[hal];simp
   ·rfl
  | true=>
   obtain⟨x,y,rfl⟩:∃x y,m=[x,y]:=by
    unfold QaR at hal;split at hal
    ·exact⟨_,_,rfl⟩
    ·cases hal
   obtain⟨rfl,hcbn,hgcb⟩:=hcb (Nat.succ_pos _);have g6c:H6.get cb=some (.cells (Qg [x,y]) Qd false):=by rw[hx6.get _ (hw5.lt hgcb)];exact hgcb
   have e2:(Qg [x,y])[2]? = some (.int .i64 x.r.n):=rfl;have e13:(Qg [x,y])[13]? = some (.int .i64 y.r.n):=rfl;have d0:(0:Int)<=0∧(0:Int)<(([x,y]:List Ar).length:Int):=by simp
   have d1:(0:Int)<=1∧(1:Int)<(([x,y]:List Ar).length:Int):=by simp
   simp only[sxA,sxB,Nat.reduceBEq,Nat.reduceEqDiff,reduceCtorEq,mxA,mxB,Nat.reduceAdd,reduceIte,Nat.reduceLeDiff,splice,g6,g6c];refine⟨d0,_,e2,d1,_,e13,?_⟩;simp only[sxA,sxB,Nat.reduceBEq,Nat.reduceEqDiff,reduceCtorEq,mxA,mxB,Nat.reduceAdd,reduceIte,Nat.reduceLeDiff,splice];have hal2:((x.k==1)&&(y.k==1)&&(x.r.c==y.r.c))=true:=hal;cases hnn:x.r.n==y.r.n with
   | true=>
    simp only[sxA,sxB,Nat.reduceBEq,Nat.reduceEqDiff,reduceCtorEq,mxA,mxB,Nat.reduceAdd,reduceIte,Nat.reduceLeDiff,splice,Bool.not_true,XB];exact .mk hxe.next ⟨hend1 (by simp[QcM,hnn]),hxe⟩
   | false=>
    have htr:QcM op [x,y]=true:=by simp only[QcM,h11,hal2,hnn];rfl
    simp only[sxA,sxB,Nat.reduceBEq,Nat.reduceEqDiff,reduceCtorEq,mxA,mxB,Nat.reduceAdd,reduceIte,Nat.reduceLeDiff,splice,Bool.not_false];simp only[V6,sxA,sxB,Nat.reduceBEq,Nat.reduceEqDiff,reduceCtorEq,mxA,mxB,Nat.reduceAdd,reduceIte,Nat.reduceLeDiff,splice];refine(Ky H5.next cb cap op x y H6 false Qd g6 g6c).thenW ?_;rintro _ H7 hn7 hw7 ⟨rfl,hH7⟩;have g7:∀id,id≠cb->H7.get id=H6.get id:=λid h=>by rw[hH7,Qa.get_set,if_neg h,Qa.get_set,if_neg h]
    have g7c:H7.get cb=some (.cells (Qg [y,x]) Qd false):=by rw[hH7,Qa.get_set,if_pos rfl]
    have hn7':H7.next=H6.next:=by rw[hH7];rfl
    clear hH7;have lc5:=hw5.lt hgcb;have g7d:H7.get H5.next=some (.cells [.int .i64 op,.slice (some ⟨cb,0,none⟩) 2 cap] QH false):=by rw[g7 _ (by omega)];exact g6
    have g7r:H7.get H3.next=some (.cells [.int .i64 op,.slice a2 2 c2] Qb false):=by rw[g7 _ (by omega)];exact g6r
    simp only[sxA,sxB,Nat.reduceBEq,Nat.reduceEqDiff,reduceCtorEq,mxA,mxB,Nat.reduceAdd,reduceIte,Nat.reduceLeDiff,splice,g7d];have hx37:Ext H3 H7:=⟨by have:=hx36.next;omega,λid hid=>by rw[g7 id (by omega)];exact hx36.get id hid⟩;generalize hH8:H7.push _=H8;have hx78:Ext H7 H8:=by rw[<- hH8];exact(Ext.refl _).push _
    have hw8:H8.Wf:=by rw[<- hH8];exact hw7.push _
    have g8:H8.get H7.next=some (.cells [.int .i64 op,.slice (some ⟨cb,0,none⟩) 2 cap] Qb false):=by rw[<- hH8,Qa.get_push,if_pos rfl]
    clear hH8;have l7:=hw7.lt g7r;have g8r:H8.get H3.next=some (.cells [.int .i64 op,.slice a2 2 c2] Qb false):=by rw[hx78.get _ l7];exact g7r
    have hs8:Gx 2 Qb H3 H8 (.slice (some ⟨H3.next,0,none⟩) 1 1) 1 [.int .i64 op,.slice a2 2 c2]:=.inr ⟨_,_,rfl,Nat.le_refl _,g8r,rfl,.inl rfl⟩;have hsrc:ZB 2 (.slice (some ⟨H7.next,0,none⟩) 1 1) H8=some (1,[.int .i64 op,.slice (some ⟨cb,0,none⟩) 2 cap]):=by
     rw[G6 g8 (by decide) (by simp)];rfl
    refine Qyt hs8 ⟨_,rfl⟩ hw8 hsrc rfl (by decide) rfl (by decide) (by decide) (by decide) ?_;rintro v9 H9 hg9 hx9 hw9 ⟨b9,rfl⟩;have hx39:=(hx37.trans hx78).trans hx9;have hx09:=hx3.trans hx39;have g9c:H9.get cb=some (.cells (Qg [y,x]) Qd false):=by rw[hx9.get _ (by have:=hx78.next;omega),hx78.get _ (by omega)];exact g7c
    simp only[sxA,sxB,Nat.reduceBEq,Nat.reduceEqDiff,reduceCtorEq,mxA,mxB,Nat.reduceAdd,reduceIte,Nat.reduceLeDiff,splice,XB];refine .mk hx09.next ⟨?_,hx09⟩;rw[eW,if_pos htr];refine⟨[.slice a2 2 c2,.slice (some ⟨cb,0,none⟩) 2 cap],rfl,hg9.sl,λj s w h1 h2=>?_⟩;rcases j with _ | _ | j
    ·cases h1;cases h2;exact⟨ha.ext hw3 hx39,λn hn=>hbl n (by have:=hx39.next;omega)⟩
    ·cases h1;cases h2;refine⟨⟨_,cap,rfl,λ_=>⟨cb,_,_,rfl,g9c⟩⟩,λn hn=>?_⟩;have:=hw9.lt g9c;simp[Qj,Ab.plain];omega
    ·simp at h1
theorem Qk5 {op:Int} {v:Value} {l:List Ar} (H:Qa) (hv:QS H v l) (hl:l.length<=1000) (hI:∀a∈l,I64 a.n):
  Qf prog Gh [.agg #[.int .i64 op,v]] H λu H'=>QAC H' u op (Z0 op l)∧Ext H H':=by
 refine Qjf λhw=>?_;obtain⟨a0,cap,rfl⟩:=Q0 hv;simp only[QbQ,sxA,sxB,Nat.reduceBEq,Nat.reduceEqDiff,reduceCtorEq];generalize hH1:Qa.push H _=H1;have g1:H1.get H.next=some (.cells [.int .i64 op,.slice a0 l.length cap] Qb false):=by rw[<- hH1,Qa.get_push,if_pos rfl];rfl
 have hx1:Ext H H1:=by rw[<- hH1];exact(Ext.refl H).push _
 have hw1:H1.Wf:=by rw[<- hH1];exact hw.push _
 clear hH1;simp only[sxA,sxB,Nat.reduceBEq,Nat.reduceEqDiff,reduceCtorEq,mxA,mxB,Nat.reduceAdd,reduceIte,Nat.reduceLeDiff,splice,g1];refine(Qej op l H1 _ (hv.ext hw hx1) hl hI).thenW ?_;rintro _ H2 hn2 hw2 ⟨hx2,v',rfl,hv2,hfr⟩;have hx02:=hx1.trans hx2;have hbl:=λn hn=>QsT (op:=(QI op l).1) hv2 hfr n hn;obtain⟨W,eW⟩:∃W,W=Z0 op l:=⟨_,rfl⟩;rw[<- eW];unfold Z0 at eW;obtain⟨a2,c2,rfl⟩:=Q0 hv2;cases he:(QI op l).2.2==0 with
 | false=>
  rw[he,if_neg (by decide)]at eW;simp only[sxA,sxB,Nat.reduceBEq,Nat.reduceEqDiff,reduceCtorEq,mxA,mxB,Nat.reduceAdd,reduceIte,Nat.reduceLeDiff,splice,he,XB];have hx3:=(hx02.push (.cells [.int .i64 0,.slice none 0 0] Qb false)).set hx02.next (.cells [.int .i64 (QI op l).1,.slice a2 (QI op l).2.1.length c2] Qb false);exact .mk hx3.next ⟨by rw[eW];exact⟨[],rfl,⟨none,0,rfl,λh=>absurd h (Nat.lt_irrefl 0)⟩,λj s w h=>by simp at h⟩,hx3⟩
 | true=>
  rw[he,if_pos rfl]at eW;have ei:=Qk4 (beq_iff_eq.1 he);have e1:(QI op l).1=op:=by rw[ei]
  rw[e1]at hbl;simp only[sxA,sxB,Nat.reduceBEq,Nat.reduceEqDiff,reduceCtorEq,mxA,mxB,Nat.reduceAdd,reduceIte,Nat.reduceLeDiff,splice,he,e1];generalize hm:(QI op l).2.1=m at *;generalize hH3:(H2.push _).set H2.next _=H3;have hx3:Ext H2 H3:=by rw[<- hH3];exact((Ext.refl H2).push _).set (Nat.le_refl _) _
  have hw3:H3.Wf:=by rw[<- hH3];exact(hw2.push _).set (b0:=.cells [.int .i64 0,.slice none 0 0] Qb false) (by rw[Qa.get_push,if_pos rfl]) _
  have g3:H3.get H2.next=some (.cells [.int .i64 op,.slice a2 m.length c2] Qb false):=by rw[<- hH3,Qa.get_set,if_pos rfl]
  clear hH3;refine QEw (by rw[<- hm];have:=Qj6 op l;omega) eW (hx02.trans hx3) hw3 g3 (hv2.ext hw2 hx3) (λn hn=>hbl n (by have:=hx3.next;omega)) ?_;simp only[uxA,uxB,Nat.reduceBEq]
structure GX (v:Value) (H:Qa) (v':Value) (H':Qa):Prop where
 next:H.next<=H'.next
 keep:∀id,id<H.next->¬inB v id->H'.get id=H.get id
 own:∀id,inB v' id->inB v id∨H.next<=id
theorem QAD {v:Value} {a b:Nat} (ha:inB v a) (hb:inB v b):a=b:=by
 obtain⟨_,_,_,rfl⟩:=ha;obtain⟨_,_,_,h⟩:=hb;cases h;rfl
theorem GX.refl (v:Value) (H:Qa):GX v H v H:=⟨Nat.le_refl _,λ_ _ _=>rfl,λ_ h=>.inl h⟩
theorem GX.trans {v v' v'':Value} {H H' H'':Qa} (h:GX v H v' H') (h':GX v' H' v'' H''):GX v H v'' H'':=by
 have n1:=h.next;have n2:=h'.next;refine⟨by omega,λid a b=>?_,λid a=>?_⟩
 ·rw[h'.keep id (by omega) (λc=>by rcases h.own id c with d | d;exact b d;omega),h.keep id a b]
 ·rcases h'.own id a with b | b
  ·exact h.own id b
  ·exact .inr (by omega)
theorem GX.ext {v:Value} {H H':Qa} (h:Ext H H'):GX v H v H':=⟨h.next,λid a _=>h.get id a,λ_ h=>.inl h⟩
theorem GX.gk {v v':Value} {H0 H H':Qa} (h:GK v v' H0 H H'):GX v H v' H':=⟨h.next,h.keep,h.new⟩
theorem GX.old {v v':Value} {Hs H H':Qa} (h:GX v H v' H') (hx:Ext Hs H) (hv:∀id,inB v id->Hs.next<=id):Ext Hs H':=
 ⟨by have:=h.next;have:=hx.next;omega,λid hid=>by rw[h.keep id (by have:=hx.next;omega) (λc=>by have:=hv id c;omega)];exact hx.get id hid⟩
theorem XE.own {e:TypeId} {H0 H:Qa} {v:Value} {ws:List Ld} (h:XE e H0 H v ws):∀id,inB v id->H0.next<=id:=λid hi=>by
 obtain⟨ss,h1,h2,h3⟩:=h.it;obtain⟨o,n,c,rfl⟩:=hi;rcases h2 with⟨h,_,_⟩ | ⟨b,c',h,q,_⟩
 ·cases h
 ·cases h;exact q
theorem XE.gx {e:TypeId} {H0 H H':Qa} {v v' u:Value} {ws:List Ld} (h:XE e H0 H u ws) (hw:H.Wf) (hg:GX v H v' H') (hn:∀id,inB v id->id<H0.next):XE e H0 H' u ws:=
 h.keep2 hw λid a b=>hg.keep id b λc=>by have:=hn id c;omega
def RgS (A A':Env):Prop:=A' 1=A 1∧A' 7=A 7∧A' 8=A 8∧A' 9=A 9∧A' 15=A 15∧A' 16=A 16∧A' 17=A 17∧A' 21=A 21∧A' 22=A 22∧A' 23=A 23
def Qeo (k:Int) (w:Ld):Ld:=⟨w.b,k,w.h⟩
section
variable {R:Env->Qa->Prop} {E:Nat->Env->Qa->Prop} {K:Env->Qa->Prop}
theorem QEx {Hs H Hc:Qa} {acc cs:List Ld} {v cv:Value} {k:Int} {A:Env} (hcl:acc.length+cs.length<=1000000) (hxs:Ext Hs H) (hw:H.Wf) {U0:Nat} (hl:LsU Ql Hs H v acc Hc.next) (hc:LsU Ql Hc H cv cs U0) (hcx:Hs.next<=Hc.next) (hcn:Hc.next<=H.next) (hcv:∀id,inB v id->id<Hc.next) (r5:A 5=v) (r8:A 8=.int .i64 k) (r10:A 10=cv)
  (hk:∀A' H' v',A' 5=v'->RgS A A'->H'.Wf->LsU Ql Hs H' v' (acc++cs.map (Qeo k)) H'.next->GX v H v' H'->K A' H'):
  Qt prog VT ⟨R,E⟩ K A H:=by
 obtain⟨ca,cc,rfl⟩:=hc.ls.slc;obtain⟨ss,hsl,hgss0,hgs0,hinc⟩:=hc.it;simp only[VT,sxA,sxB,Nat.reduceBEq,Nat.reduceEqDiff,reduceCtorEq,mxA,mxB,Nat.reduceAdd,reduceIte,Nat.reduceLeDiff,splice,r10,Qm];refine Qu (λm A' H'=>∃i:Nat,i<=cs.length∧m=cs.length - i∧H'.Wf∧(∃U,U<=H'.next∧LsU Ql Hs H' (A' 5) (acc++(cs.take i).map (Qeo k)) U∧∀ (j:Nat) s a,i<=j->ss[j]? = some s->inB s a->U<=a)∧GX v H (A' 5) H'∧A' 36=.slice ca cs.length cc∧A' 37=.int .i64 cs.length∧A' 38=.int .i64 i∧RgS A A') cs.length ?_ ?_
 ·refine⟨0,Nat.zero_le _,by omega,hw,?_,?_,?_,?_,?_,?_⟩
  ·simp only[uxA,uxB,Nat.reduceBEq,r5,List.take_zero,List.map_nil,List.append_nil];refine⟨Hc.next,hcn,hl,λj s a _ hs ha=>?_⟩;obtain⟨w,hw'⟩:∃w,cs[j]? = some w:=⟨_,List.getElem?_eq_getElem (by have:=(List.getElem?_eq_some_iff.1 hs).1;omega)⟩;exact((hgs0 j s w hs hw').low hw ha).1
  ·simp only[uxA,uxB,Nat.reduceBEq,r5];exact GX.refl _ _
  ·simp only[uxA,uxB,Nat.reduceBEq]
  ·simp only[uxA,uxB,Nat.reduceBEq]
  ·simp only[uxA,uxB,Nat.reduceBEq];rfl
  ·simp only[RgS,uxA,uxB,Nat.reduceBEq,and_self]
 ·rintro m A' H' ⟨i,hi,rfl,hw',⟨U,hU,hl',hlo⟩,hg,r36,r37,r38,hA⟩;simp only[QeI,sxA,sxB,Nat.reduceBEq,Nat.reduceEqDiff,reduceCtorEq,mxA,mxB,Nat.reduceAdd,reduceIte,Nat.reduceLeDiff,splice,r37,r38];obtain⟨e1,e7,e8,e9,e15,e16,e17,e21,e22,e23⟩:=id hA;refine Qh (λh2=>?_) (λh2=>?_)
  ·have h2:i<cs.length:=by have:=of_decide_eq_true h2;omega
   have hkp:∀ {size e v n cs},Gx size e Hc H v n cs->Gx size e Hc H' v n cs:=λg=>g.keep2 hw λid a b=>hg.keep id b λc=>by have:=hcv id c;omega
   have hxs':=hg.old hxs (r5▸hl.ls.own);have hgss:=hkp hgss0;have hgs:=λj s w a b=>hkp (hgs0 j s w a b);obtain⟨b,hb1,rfl,hgb⟩:∃b,Hc.next<=b∧ca=some ⟨b,0,none⟩∧H'.get b=some (.cells (ldC ss cs) Ql false):=by
    rcases hgss with⟨h,h',_⟩ | ⟨b,c,h,q1,q2,_⟩
    ·omega
    ·cases h;exact⟨b,q1,rfl,q2⟩
   obtain⟨sv,hsv⟩:∃sv,ss[i]? = some sv:=⟨_,List.getElem?_eq_getElem (by omega)⟩;obtain⟨w,hwi⟩:∃w,cs[i]? = some w:=⟨_,List.getElem?_eq_getElem h2⟩;have hs4:=hgs i sv w hsv hwi;have hat:=Qn8 ss cs i sv w hsv hwi;have hll:(ldC ss cs).length=cs.length * 3:=by rw[QmD _ _ hsl]
   have d1:(0:Int)<=i∧(i:Int)<cs.length:=by omega
   have d3:(i:Int).toNat=i:=by omega
   have ei:IntKind.i64.wrap ((i:Int)+1)=((i+1:Nat):Int):=by rw[w64 (by unfold I64;omega)];omega
   obtain⟨ai,ci,rfl⟩:=hs4.slc;simp only[QeH,sxA,sxB,Nat.reduceBEq,Nat.reduceEqDiff,reduceCtorEq,mxA,mxB,Nat.reduceAdd,reduceIte,Nat.reduceLeDiff,splice,r36,r38,d1,d3,hgb,hat,e8,r8];refine⟨by omega,?_⟩;generalize hH5:Qa.push (Qa.set (Qa.set (Qa.push H' _) _ _) _ _) _=H5;have hx5:Ext H' H5:=by rw[<- hH5];exact((((Ext.refl H').push _).set (Nat.le_refl _) _).set (Nat.le_refl _) _).push _
   have hw5:H5.Wf:=by rw[<- hH5];exact(((hw'.push _).set (b0:=.cells [.slice none 0 0,.int .i64 0,.int .i64 0] Ql false) (by rw[Qa.get_push,if_pos rfl]) _).set (b0:=.cells [.slice ai w.b.length ci,.int .i64 w.x,.int .i64 w.h] Ql false) (by rw[Qa.get_set,if_pos rfl]) _).push _
   have g5:H5.get (H'.next+1)=some (.cells [.slice ai w.b.length ci,.int .i64 k,.int .i64 w.h] Ql false):=by rw[<- hH5,Qa.get_push,if_pos (by simp only[Qa.next_set,Qa.next_push])]
   clear hH5;have hsrc:ZB 3 (.slice (some ⟨H'.next+1,0,none⟩) 1 1) H5=some (1,[.slice ai w.b.length ci,.int .i64 (Qeo k w).x,.int .i64 (Qeo k w).h]):=by
    rw[G6 g5 (by decide) (by simp)];rfl
   have hlt:(acc++(cs.take i).map (Qeo k)).length<=1000000:=by rw[List.length_append,List.length_map,List.length_take];omega
   have hs5:Gx 1 5 Hs H5 (.slice ai w.b.length ci) (Qeo k w).b.length (bys (Qeo k w).b):=(hs4.go hw' hx5).down hcx;obtain⟨U',hU1,hU2,hU3,hU4⟩:∃U',U<=U'∧U'<=H'.next∧(∀a,inB (.slice ai w.b.length ci) a->U<=a∧a<U')∧∀ (j:Nat) s a,i+1<=j->ss[j]? = some s->inB s a->U'<=a:=by
    by_cases hq:∃a,inB (.slice ai w.b.length ci) a
    ·obtain⟨a,ha⟩:=hq;have h1:=hlo i _ a (Nat.le_refl _) hsv ha;refine⟨a+1,by omega,(hs4.low hw' ha).2,λb hb=>?_,λj s b hj hs hb=>?_⟩
     ·rw[QAD hb ha];omega
     ·obtain⟨p1,p2⟩:=List.getElem?_eq_some_iff.1 hsv;obtain⟨p3,p4⟩:=List.getElem?_eq_some_iff.1 hs;exact List.pairwise_iff_getElem.1 hinc.1 i j p1 p3 (by omega) a b (p2▸ha) (p4▸hb)
    ·exact⟨U,Nat.le_refl _,hU,λa ha=>absurd ⟨a,ha⟩ hq,λj s a hj=>hlo j s a (by omega)⟩
   refine QvO (by decide) (hl'.go hw' hx5) hU1 hU3 (hxs'.trans hx5) hw5 hs5 hsrc (by omega) (by omega) ?_;intro v' H6 hl6 hk6;simp only[sxA,sxB,Nat.reduceBEq,Nat.reduceEqDiff,reduceCtorEq,mxA,mxB,Nat.reduceAdd,reduceIte,Nat.reduceLeDiff,splice,r38,ei];have htk:acc++(cs.take (i+1)).map (Qeo k)=acc++(cs.take i).map (Qeo k)++[Qeo k w]:=by rw[List.take_add_one,hwi,List.map_append,List.append_assoc];rfl
   refine⟨cs.length - (i+1),by omega,i+1,by omega,rfl,hk6.w,?_,?_,?_,?_,?_,?_⟩
   ·simp only[uxA,uxB,Nat.reduceBEq];rw[htk];exact⟨U',by have:=hx5.next;have:=hk6.next;omega,hl6,hU4⟩
   ·simp only[uxA,uxB,Nat.reduceBEq];exact(hg.trans (GX.ext hx5)).trans (GX.gk hk6)
   ·simp only[uxA,uxB,Nat.reduceBEq,r36]
   ·simp only[uxA,uxB,Nat.reduceBEq,r37]
   ·simp only[uxA,uxB,Nat.reduceBEq]
   ·simp only[RgS,uxA,uxB,Nat.reduceBEq,e1,e7,e8,e9,e15,e16,e17,e21,e22,e23,and_self]
  ·have h2:i=cs.length:=by have:=of_decide_eq_false h2;omega
   subst h2;rw[List.take_length]at hl';simp only[sxA,sxB,Nat.reduceBEq,Nat.reduceEqDiff,reduceCtorEq,mxA,mxB,Nat.reduceAdd,reduceIte,Nat.reduceLeDiff,splice];refine hk _ _ _ rfl ?_ hw' ?_ ?_
   ·simp only[RgS,uxA,uxB,Nat.reduceBEq,e1,e7,e8,e9,e15,e16,e17,e21,e22,e23,and_self]
   ·simp only[uxA,uxB,Nat.reduceBEq];exact hl'.mono hU
   ·simp only[uxA,uxB,Nat.reduceBEq];exact hg
def frm (L:List Fm) (op:Int) (m:List Ar) (k:Nat):List Ld:=match L[k]? with | some f=>(Qau f op m).map (Qeo k) | none=>[]
theorem Qq9 (L:List Fm) (op:Int) (m:List Ar) (k:Nat):(frm L op m k).length<=24:=by
 unfold frm;split
 ·rw[List.length_map];exact Qq7 _ _ _
 ·simp
def Jn (L:List Fm) (op:Int) (l:List Ar):List Ld:=(Z0 op l).flatMap λm=>(List.range L.length).flatMap (frm L op m)
def RgO (A A':Env):Prop:=A' 1=A 1∧A' 15=A 15∧A' 16=A 16∧A' 17=A 17
theorem QEy {Hs H:Qa} {acc:List Ld} {v fv sv:Value} {xs:List Lf} {op:Int} {m:List Ar} {B:Nat} {A:Env} (hcl:acc.length<=500000) (hxl:xs.length<=6000) (hml:m.length<=1000) (hI:∀a∈m,I64 a.n) (hws:Hs.Wf) (hxs:Ext Hs H) (hw:H.Wf) (hl:LsU Ql Hs H v acc H.next) (hf:QjW Hs fv xs) (hfr:∀x∈xs,x.Fr 0) (hsv:QS Hs sv m) (hbl:∀n,Hs.next<=n->Qj n 6 (.agg #[.int .i64 op,sv])=true)
  (gB:H.get B=some (.cells [.int .i64 op,sv] Qb false)) (hB:¬inB v B) (r5:A 5=v) (r7:A 7=.pointer (some ⟨B,0,none⟩)) (r21:A 21=fv) (r22:A 22=.int .i64 xs.length) (r23:A 23=.int .i64 0)
  (hk:∀A' H' v',A' 5=v'->RgO A A'->H'.Wf->LsU Ql Hs H' v' (acc++(List.range xs.length).flatMap (frm (xs.map (·.f)) op m)) H'.next->GX v H v' H'->K A' H'):
  Qt prog (.block 2 (.loop VU)) ⟨R,E⟩ K A H:=by
 obtain⟨fa,fc,rfl,hf1⟩:=hf.1;have hf2:=hf.2;simp only[sxA,sxB,Nat.reduceBEq,Nat.reduceEqDiff,reduceCtorEq];refine Qu (λq A' H'=>∃i:Nat,i<=xs.length∧q=xs.length - i∧H'.Wf∧LsU Ql Hs H' (A' 5) (acc++(List.range i).flatMap (frm (xs.map (·.f)) op m)) H'.next∧GX v H (A' 5) H'∧A' 7=.pointer (some ⟨B,0,none⟩)∧A' 21=.slice fa xs.length fc∧A' 22=.int .i64 xs.length∧A' 23=.int .i64 i∧RgO A A') xs.length ?_ ?_
 ·refine⟨0,Nat.zero_le _,by omega,hw,?_,?_,r7,r21,r22,r23,?_⟩
  ·simp only[r5,List.range_zero,List.flatMap_nil,List.append_nil];exact hl
  ·rw[r5];exact GX.refl _ _
  ·simp only[RgO,and_self]
 ·rintro q A' H' ⟨i,hi,rfl,hw',hl',hg,r7,r21,r22,r23,hA⟩;obtain⟨e1,e15,e16,e17⟩:=id hA;simp only[VU,sxA,sxB,Nat.reduceBEq,Nat.reduceEqDiff,reduceCtorEq,mxA,mxB,Nat.reduceAdd,reduceIte,Nat.reduceLeDiff,splice,r22,r23];refine Qh (λh2=>?_) (λh2=>?_)
  ·have h2:i<xs.length:=by have:=of_decide_eq_true h2;omega
   have hxs':=hg.old hxs hl.ls.own;obtain⟨b,e,ro,rfl,hgb0⟩:=hf1 (by omega);have hgb:H'.get b=some (.cells (Xe xs) e ro):=by rw[hxs'.get _ (hws.lt hgb0)];exact hgb0
   obtain⟨x,hxi⟩:∃x,xs[i]? = some x:=⟨_,List.getElem?_eq_getElem h2⟩;have hat:=QgG xs i x hxi;have hll:=JF xs;have d1:(0:Int)<=i∧(i:Int)<xs.length:=by omega
   have d3:(i:Int).toNat=i:=by omega
   have ei:IntKind.i64.wrap ((i:Int)+1)=((i+1:Nat):Int):=by rw[w64 (by unfold I64;omega)];omega
   have hgB:H'.get B=some (.cells [.int .i64 op,sv] Qb false):=by rw[hg.keep B (hw.lt gB) hB];exact gB
   have e10:x.cells.take 10=x.cells:=rfl;have lB:=hw'.lt hgB;have nB:¬B=H'.next:=by omega
   have hdr:x.cells++List.drop x.cells.length [.int .i64 0,.slice none 0 0,.slice none 0 0,.int .i64 0,.int .i64 0,.int .i64 0,.int .i64 0,.int .i64 0,.bool false,.int .i64 0]=x.cells:=List.append_nil _;simp only[QeJ,sxA,sxB,Nat.reduceBEq,Nat.reduceEqDiff,reduceCtorEq,mxA,mxB,Nat.reduceAdd,reduceIte,Nat.reduceLeDiff,splice,r7,r21,r23,d1,d3,hgb,hat,hgB,nB,if_false,List.drop_zero,hdr,e10];refine⟨by omega,⟨rfl,Nat.le_refl _,?_⟩,Nat.le_refl _,?_⟩
   ·exact Qit (hf2 x (List.mem_of_getElem? hxi))
   generalize hH1:Qa.set (Qa.push H' _) _ _=H1;have hx1:Ext H' H1:=by rw[<- hH1];exact((Ext.refl H').push _).set (Nat.le_refl _) _
   have hw1:H1.Wf:=by rw[<- hH1];exact(hw'.push _).set (b0:=.cells [.int .i64 0,.slice none 0 0,.slice none 0 0,.int .i64 0,.int .i64 0,.int .i64 0,.int .i64 0,.int .i64 0,.bool false,.int .i64 0] Qe false) (by rw[Qa.get_push,if_pos rfl]) _
   clear hH1;have hx01:=hxs'.trans hx1;have hxm:=List.mem_of_getElem? hxi;refine(Qq8 H1 ((hf2 x hxm).ext hws hx01) (hfr x hxm) (hsv.ext hws hx01) (λn hn=>hbl n (by have:=hx01.next;omega)) hml hI).thenW ?_;rintro _ H2 hn2 hw2 ⟨cv,rfl,hc,hx2⟩;have hx12:=hx1.trans hx2;have hfi:(xs.map (·.f))[i]? = some x.f:=by rw[List.getElem?_map,hxi];rfl
   have hfrm:(List.range (i+1)).flatMap (frm (xs.map (·.f)) op m)=(List.range i).flatMap (frm (xs.map (·.f)) op m)++(Qau x.f op m).map (Qeo i):=by
    rw[List.range_succ,List.flatMap_append];simp only[List.flatMap_cons,List.flatMap_nil,List.append_nil,frm,hfi]
   have hl2:LsU Ql Hs H2 (A' 5) _ H1.next:=(hl'.go hw' hx12).mono hx1.next;simp only[sxA,sxB,Nat.reduceBEq,Nat.reduceEqDiff,reduceCtorEq,mxA,mxB,Nat.reduceAdd,reduceIte,Nat.reduceLeDiff,splice];cases hz:decide (0<(Qau x.f op m).length) with
   | false=>
    have h0:Qau x.f op m=[]:=List.length_eq_zero_iff.1 (by have:=of_decide_eq_false hz;omega);simp only[sxA,sxB,Nat.reduceBEq,Nat.reduceEqDiff,reduceCtorEq,mxA,mxB,Nat.reduceAdd,reduceIte,Nat.reduceLeDiff,splice,Bool.not_false,r23,ei];refine⟨xs.length - (i+1),by omega,i+1,by omega,rfl,hw2,?_,?_,?_,?_,?_,?_,?_⟩
    ·simp only[uxA,uxB,Nat.reduceBEq];rw[hfrm,h0,List.map_nil,List.append_nil];exact hl2.mono hx2.next
    ·simp only[uxA,uxB,Nat.reduceBEq];exact hg.trans (GX.ext hx12)
    ·simp only[uxA,uxB,Nat.reduceBEq,r7]
    ·simp only[uxA,uxB,Nat.reduceBEq,r21]
    ·simp only[uxA,uxB,Nat.reduceBEq,r22]
    ·simp only[uxA,uxB,Nat.reduceBEq]
    ·simp only[RgO,uxA,uxB,Nat.reduceBEq,e1,e15,e16,e17,and_self]
   | true=>
    simp only[sxA,sxB,Nat.reduceBEq,Nat.reduceEqDiff,reduceCtorEq,mxA,mxB,Nat.reduceAdd,reduceIte,Nat.reduceLeDiff,splice,Bool.not_true];have hlow:∀id,inB (A' 5) id->id<H1.next:=λid h=>by
     obtain⟨ss,_,hq,_⟩:=hl'.it;have:=(hq.low hw' h).2;have:=hx1.next;omega
    refine QEx (Hs:=Hs) (v:=A' 5) (k:=(i:Int)) ?_ (hx01.trans hx2) hw2 hl2 hc hx01.next hx2.next hlow ?_ ?_ ?_ ?_
    ·have h1:=Qq7 x.f op m;have h2:=Qbo (f:=frm (xs.map (·.f)) op m) (n:=24) (List.range i) λk _=>Qq9 _ _ _ _;rw[List.length_range]at h2;rw[List.length_append];omega
    ·simp only[uxA,uxB,Nat.reduceBEq]
    ·simp only[uxA,uxB,Nat.reduceBEq]
    ·simp only[uxA,uxB,Nat.reduceBEq]
    ·rintro A2 H3 v3 rfl ⟨f1,f7,f8,f9,f15,f16,f17,f21,f22,f23⟩ hw3 hl3 hg3;simp only[uxA,uxB,Nat.reduceBEq]at f1 f7 f15 f16 f17 f21 f22 f23;simp only[sxA,sxB,Nat.reduceBEq,Nat.reduceEqDiff,reduceCtorEq,mxA,mxB,Nat.reduceAdd,reduceIte,Nat.reduceLeDiff,splice,f23,r23,ei];refine⟨xs.length - (i+1),by omega,i+1,by omega,rfl,hw3,?_,?_,?_,?_,?_,?_,?_⟩
     ·simp only[uxA,uxB,Nat.reduceBEq];rw[hfrm,<- List.append_assoc];exact hl3
     ·simp only[uxA,uxB,Nat.reduceBEq];exact(hg.trans (GX.ext hx12)).trans hg3
     ·simp only[uxA,uxB,Nat.reduceBEq,f7,r7]
     ·simp only[uxA,uxB,Nat.reduceBEq,f21,r21]
     ·simp only[uxA,uxB,Nat.reduceBEq,f22,r22]
     ·simp only[uxA,uxB,Nat.reduceBEq]
     ·simp only[RgO,uxA,uxB,Nat.reduceBEq,f1,f15,f16,f17,e1,e15,e16,e17,and_self]
  ·have h2:i=xs.length:=by have:=of_decide_eq_false h2;omega
   subst h2;simp only[sxA,sxB,Nat.reduceBEq,Nat.reduceEqDiff,reduceCtorEq,mxA,mxB,Nat.reduceAdd,reduceIte,Nat.reduceLeDiff,splice];refine hk _ _ _ rfl ?_ hw' ?_ ?_
   ·simp only[RgO,uxA,uxB,Nat.reduceBEq,e1,e15,e16,e17,and_self]
   ·simp only[uxA,uxB,Nat.reduceBEq];exact hl'
   ·simp only[uxA,uxB,Nat.reduceBEq];exact hg
end
theorem QvS (op:Int):∀ (vs:List Value) (i:Nat) (s:Value),vs[i]? = some s->((Qmi op vs).drop (i * 2)).take 2=[.int .i64 op,s]
 | [],_,_,h=>by simp at h
 | v::vs,0,_,h=>by cases h;rfl
 | v::vs,i+1,s,h=>by
  have e:Qmi op (v::vs)=[.int .i64 op,v]++Qmi op vs:=rfl;rw[e,show(i+1) * 2=2+i * 2 by omega,<- List.drop_drop];exact QvS op vs i s h
theorem QsU (op:Int):∀vs:List Value,(Qmi op vs).length=vs.length * 2
 | []=>rfl
 | v::vs=>by
  have e:Qmi op (v::vs)=[.int .i64 op,v]++Qmi op vs:=rfl;rw[e,List.length_append,QsU op vs,List.length_cons,List.length_cons,List.length_cons,List.length_nil];omega
theorem QuE {ib:Int×Bool} {a:Ar} (h:I64 a.n):I64 (GS ib a).1.n:=by
 have h0:I64 0:=by unfold I64;omega
 have hb:I64 (Yr a).1.n:=by
  unfold Yr Qnx;split
  ·split
   ·exact h0
   ·split
    ·exact h0
    ·exact h
  ·exact h0
 unfold GS;simp only;split
 ·exact h
 ·split
  ·exact Qss _ _ _ hb
  ·exact hb
theorem QlT {ib:Int×Bool}:∀ {l:List Ar},(∀a∈l,I64 a.n)->∀a∈(WR ib l).1,I64 a.n
 | [],_,a,ha=>by cases ha
 | b::l,h,a,ha=>by
  unfold WR at ha;split at ha
  ·rcases List.mem_cons.1 ha with rfl | ha
   ·exact QuE (h b (List.mem_cons_self ..))
   ·exact QlT (λc hc=>h c (List.mem_cons_of_mem _ hc)) a ha
  ·cases ha
theorem Qw7 {op:Int} {l:List Ar} (h:∀a∈l,I64 a.n):∀a∈QaT op l,I64 a.n:=by
 have hr:∀a∈l.reverse,I64 a.n:=λa ha=>h a (List.mem_reverse.1 ha);unfold QaT;split
 ·split
  ·intro a ha;refine h a ?_;simp only[List.mem_cons,List.not_mem_nil,or_false]at ha ⊢;rcases ha with h | h | h<;>simp[h]
  ·exact h
 ·split
  ·exact hr
  ·split
   ·exact hr
   ·exact h
theorem QuF {op:Int} {l:List Ar} (h:∀a∈l,I64 a.n):∀a∈(QI op l).2.1,I64 a.n:=by
 unfold QI;split
 ·intro a ha;cases ha
 ·split
  ·intro a ha;cases ha
  ·exact Qw7 (QlT h)
theorem Qw8 {op:Int} {l:List Ar} (hI:∀a∈l,I64 a.n):(Z0 op l).length<=2∧∀m∈Z0 op l,m.length<=5∧∀a∈m,I64 a.n:=by
 have h1:=Qj6 op l;have h2:=QuF (op:=op) hI;unfold Z0;split
 ·refine⟨by split<;>simp,λm hm=>?_⟩;rcases List.mem_append.1 hm with hm | hm
  ·rw[List.mem_singleton]at hm;subst hm;exact⟨h1,h2⟩
  ·split at hm
   ·rw[List.mem_singleton]at hm;subst hm;exact⟨by rw[List.length_reverse];exact h1,λa ha=>h2 a (List.mem_reverse.1 ha)⟩
   ·cases hm
 ·simp
theorem Qav {op:Int} {va fv:Value} {l:List Ar} {xs:List Lf} (H:Qa) (ha:QS H va l) (hl:l.length<=1000) (hI:∀a∈l,I64 a.n) (hf:QjW H fv xs) (hfr:∀x∈xs,x.Fr 0) (hxl:xs.length<=6000):
  Qf prog Z6 [.agg #[.int .i64 op,va],fv] H λv H'=>LsU Ql H H' v (Jn (xs.map (·.f)) op l) H'.next∧Ext H H':=by
 refine QoN λhw=>?_;obtain⟨a0,cap,rfl⟩:=Q0 ha;obtain⟨fa,fc,rfl,_⟩:=id hf.1;simp only[Qhl,sxA,sxB,Nat.reduceBEq,Nat.reduceEqDiff,reduceCtorEq];generalize hH1:Qa.push H _=H1;have g1:H1.get H.next=some (.cells [.int .i64 op,.slice a0 l.length cap] Qb false):=by rw[<- hH1,Qa.get_push,if_pos rfl];rfl
 have hx1:Ext H H1:=by rw[<- hH1];exact(Ext.refl H).push _
 have hw1:H1.Wf:=by rw[<- hH1];exact hw.push _
 clear hH1;simp only[sxA,sxB,Nat.reduceBEq,Nat.reduceEqDiff,reduceCtorEq,mxA,mxB,Nat.reduceAdd,reduceIte,Nat.reduceLeDiff,splice,g1];refine(Qk5 H1 (ha.ext hw hx1) hl hI).thenW ?_;rintro sv Hs hn2 hws ⟨hsp,hx12⟩;have hxs:=hx1.trans hx12;obtain⟨hspl,hspm⟩:=Qw8 (op:=op) hI;obtain⟨vs,hvl,hvi,hva⟩:=hsp;obtain⟨sa,sc,rfl,hs1⟩:=hvi;have eall:Jn (xs.map (·.f)) op l=(Z0 op l).flatMap λm=>(List.range xs.length).flatMap (frm (xs.map (·.f)) op m):=by unfold Jn;rw[List.length_map]
 rw[eall];generalize Z0 op l=sp at *;simp only[sxA,sxB,Nat.reduceBEq,Nat.reduceEqDiff,reduceCtorEq,mxA,mxB,Nat.reduceAdd,reduceIte,Nat.reduceLeDiff,splice,Qm];refine Qu (λq A' H'=>∃i:Nat,i<=sp.length∧q=sp.length - i∧H'.Wf∧Ext Hs H'∧LsU Ql Hs H' (A' 5) ((sp.take i).flatMap λm=>(List.range xs.length).flatMap (frm (xs.map (·.f)) op m)) H'.next∧A' 1=.slice fa xs.length fc∧A' 15=.slice sa sp.length sc∧A' 16=.int .i64 sp.length∧A' 17=.int .i64 i) sp.length ?_ ?_
 ·refine⟨0,Nat.zero_le _,by omega,hws,.refl _,?_,?_,?_,?_,?_⟩
  ·simp only[uxA,uxB,Nat.reduceBEq];exact LsU.nil _ _ _ _
  all_goals simp only[uxA,uxB,Nat.reduceBEq]
  all_goals rfl
 ·rintro q A' H' ⟨i,hi,rfl,hw',hx',hl',r1,r15,r16,r17⟩;simp only[QeL,sxA,sxB,Nat.reduceBEq,Nat.reduceEqDiff,reduceCtorEq,mxA,mxB,Nat.reduceAdd,reduceIte,Nat.reduceLeDiff,splice,r16,r17];refine Qh (λh2=>?_) (λh2=>?_)
  ·have h2:i<sp.length:=by have:=of_decide_eq_true h2;omega
   obtain⟨b,e,ro,rfl,hgb0⟩:=hs1 (by omega);have hgb:H'.get b=some (.cells (Qmi op vs) e ro):=by rw[hx'.get _ (hws.lt hgb0)];exact hgb0
   obtain⟨s,hsi⟩:∃s,vs[i]? = some s:=⟨_,List.getElem?_eq_getElem (by omega)⟩;obtain⟨m,hmi⟩:∃m,sp[i]? = some m:=⟨_,List.getElem?_eq_getElem h2⟩;have hat:=QvS op vs i s hsi;have hll:=QsU op vs;have d1:(0:Int)<=i∧(i:Int)<sp.length:=by omega
   have d3:(i:Int).toNat=i:=by omega
   have ei:IntKind.i64.wrap ((i:Int)+1)=((i+1:Nat):Int):=by rw[w64 (by unfold I64;omega)];omega
   obtain⟨hsa,hbl⟩:=hva i s m hsi hmi;obtain⟨hm5,hmI⟩:=hspm m (List.mem_of_getElem? hmi);obtain⟨sa,sc,rfl⟩:=Q0 hsa;simp only[QeK,sxA,sxB,Nat.reduceBEq,Nat.reduceEqDiff,reduceCtorEq,mxA,mxB,Nat.reduceAdd,reduceIte,Nat.reduceLeDiff,splice,r1,r15,r17,d1,d3,hgb,hat,Qm];refine⟨by omega,?_⟩;generalize hH2:Qa.set (Qa.push H' _) _ _=H2;have hx2:Ext H' H2:=by rw[<- hH2];exact((Ext.refl H').push _).set (Nat.le_refl _) _
   have hw2:H2.Wf:=by rw[<- hH2];exact(hw'.push _).set (b0:=.cells [.int .i64 0,.slice none 0 0] Qb false) (by rw[Qa.get_push,if_pos rfl]) _
   have g2:H2.get H'.next=some (.cells [.int .i64 op,.slice sa m.length sc] Qb false):=by rw[<- hH2,Qa.get_set,if_pos rfl]
   clear hH2;have hno:¬inB (A' 5) H'.next:=λh=>by
    obtain⟨ss,_,hq,_⟩:=hl'.it;have:=(hq.low hw' h).2;omega
   have hacc:((sp.take i).flatMap λm=>(List.range xs.length).flatMap (frm (xs.map (·.f)) op m)).length<=500000:=by
    have h1:=Qbo (f:=λm=>(List.range xs.length).flatMap (frm (xs.map (·.f)) op m)) (n:=144000) (sp.take i) λm _=>by
     have h2:=Qbo (f:=frm (xs.map (·.f)) op m) (n:=24) (List.range xs.length) λk _=>Qq9 _ _ _ _;rw[List.length_range]at h2;omega
    rw[List.length_take]at h1;omega
   refine QEy (Hs:=Hs) (v:=A' 5) (xs:=xs) (m:=m) (B:=H'.next) hacc hxl (by omega) hmI hws (hx'.trans hx2) hw2 ((hl'.go hw' hx2).mono hx2.next) (hf.ext hw hxs) hfr hsa hbl g2 hno ?_ ?_ ?_ ?_ ?_ ?_
   ·simp only[uxA,uxB,Nat.reduceBEq]
   ·simp only[uxA,uxB,Nat.reduceBEq]
   ·simp only[uxA,uxB,Nat.reduceBEq]
   ·simp only[uxA,uxB,Nat.reduceBEq]
   ·simp only[uxA,uxB,Nat.reduceBEq]
   ·rintro A2 H3 v3 rfl ⟨f1,f15,f16,f17⟩ hw3 hl3 hg3;simp only[uxA,uxB,Nat.reduceBEq]at f1 f15 f16 f17;have hx3:=hg3.old (hx'.trans hx2) hl'.ls.own;have htk:(sp.take (i+1)).flatMap (λm=>(List.range xs.length).flatMap (frm (xs.map (·.f)) op m))=(sp.take i).flatMap (λm=>(List.range xs.length).flatMap (frm (xs.map (·.f)) op m))++(List.range xs.length).flatMap (frm (xs.map (·.f)) op m):=by
     rw[List.take_add_one,hmi,List.flatMap_append];simp
    simp only[sxA,sxB,Nat.reduceBEq,Nat.reduceEqDiff,reduceCtorEq,mxA,mxB,Nat.reduceAdd,reduceIte,Nat.reduceLeDiff,splice,f17,r17,ei];refine⟨sp.length - (i+1),by omega,i+1,by omega,rfl,hw3,hx3,?_,?_,?_,?_,?_⟩
    ·simp only[uxA,uxB,Nat.reduceBEq];rw[htk];exact hl3
    ·simp only[uxA,uxB,Nat.reduceBEq,f1,r1]
    ·simp only[uxA,uxB,Nat.reduceBEq,f15,r15]
    ·simp only[uxA,uxB,Nat.reduceBEq,f16,r16]
    ·simp only[uxA,uxB,Nat.reduceBEq]
  ·have h2:i=sp.length:=by have:=of_decide_eq_false h2;omega
   subst h2;rw[List.take_length]at hl';simp only[sxA,sxB,Nat.reduceBEq,Nat.reduceEqDiff,reduceCtorEq,mxA,mxB,Nat.reduceAdd,reduceIte,Nat.reduceLeDiff,splice,QnC];have hxf:=hxs.trans hx';exact .mk hxf.next ⟨hl'.down hxs.next,hxf⟩
def KR (L:List Fm) (op:Int) (l:List Ar):List Ld×Int:=
 if(QT op l==0)=false then([],QT op l) else if(Jn L op l).isEmpty=true then([],8) else(Jn L op l,0)
section
variable {T:Qa->Prop} {L:Int->List Fm} (hT:∀H H',H.Wf->T H->Ext H H'->T H') (hO:∀op H,T H->Qf prog WY [.int .i64 op] H λu H'=>Qo3 H H' u (L op))
include hT hO
theorem Qep {op:Int} {va:Value} {l:List Ar} (H:Qa) (hTH:T H) (ha:QS H va l) (hva:∀n,H.next<=n->Qj n 6 (.agg #[.int .i64 op,va])=true) (hl:l.length<=1000) (hI:∀a∈l,I64 a.n):
  Qf prog Kn [.agg #[.int .i64 op,va]] H λu H'=>∃v,u=.tuple #[v,.int .i64 (KR (L op) op l).2]∧LsU Ql H H' v (KR (L op) op l).1 H'.next∧Ext H H':=by
 refine QoM λhw=>?_;obtain⟨a0,cap,rfl⟩:=Q0 ha;obtain⟨W,eW⟩:∃W,W=KR (L op) op l:=⟨_,rfl⟩;rw[<- eW];unfold KR at eW;simp only[Qhk,Qbt,simprocAttr];generalize hH1:Qa.push H _=H1;have g1:H1.get H.next=some (.cells [.int .i64 op,.slice a0 l.length cap] Qb false):=by rw[<- hH1,Qa.get_push,if_pos rfl];rfl
 have hx1:Ext H H1:=by rw[<- hH1];exact(Ext.refl H).push _
 have hw1:H1.Wf:=by rw[<- hH1];exact hw.push _
 clear hH1;simp only[Qc,simprocAttr,g1];refine(Za op _ l H1 (ha.ext hw hx1) hl hI).thenW ?_;rintro _ _ hn2 hw2 ⟨rfl,kk,rfl⟩;have hx12:Ext H1 (H1.up kk):=(Ext.refl H1).up hn2;generalize H1.up kk=H2 at *;have hx2:=hx1.trans hx12;have g2:H2.get H.next=some (.cells [.int .i64 op,.slice a0 l.length cap] Qb false):=by rw[hx12.get _ (hw1.lt g1)];exact g1
 simp only[Qc,simprocAttr];cases he:QT op l==0 with
 | false=>
  rw[he,if_pos rfl]at eW;simp only[Qc,simprocAttr,Bool.not_false,QaY];exact .mk hx2.next ⟨_,by rw[eW],by rw[eW];exact LsU.nil _ _ _ _,hx2⟩
 | true=>
  rw[he,if_neg (by simp)]at eW;simp only[Qc,simprocAttr,Bool.not_true,g2];refine⟨hva _ hx2.next,?_⟩;refine(hO op H2 (hT _ _ hw hTH hx2)).thenW ?_;rintro fv H3 hn3 hw3 ⟨hx23,ys,ey,hya,hyl,hyf⟩;have hx3:=hx2.trans hx23;simp only[Qc,simprocAttr];refine⟨hx23.eqB,?_⟩;refine(Qav H3 (ha.ext hw hx3) hl hI hya.fms (λx hx=>(hyf x hx).mono (Nat.zero_le _)) hyl).thenW ?_;rintro v H4 hn4 hw4 ⟨hv,hx34⟩;rw[ey]at hv;have hx4:=hx3.trans hx34;have hv:=hv.down hx3.next;generalize Jn (L op) op l=Q at *;obtain⟨a4,c4,rfl⟩:=hv.ls.slc;simp only[Qc,simprocAttr,Qm];refine Qh (λh=>?_) (λh=>?_)
  ·have h0:Q=[]:=List.length_eq_zero_iff.1 (by simpa using h);rw[h0,if_pos (show([]:List Ld).isEmpty=true from rfl)]at eW;simp only[Qc,simprocAttr,QaY];exact .mk hx4.next ⟨_,by rw[eW],by rw[eW];exact LsU.nil _ _ _ _,hx4⟩
  ·have h0:Q≠[]:=λh0=>by rw[h0]at h;simp at h
   rw[if_neg (by simpa using h0)]at eW;simp only[Qc,simprocAttr,QaY];exact .mk hx4.next ⟨_,by rw[eW],by rw[eW];exact hv,hx4⟩
end
def QvT (n:Nat):Option (List Int)->Bool | none=>true | some b=>decide (n<b.length)
def Qgm (w:Int) (fs:List Fm) (best:Option (List Int)) (c:Ld):Option (List Int):=
 if(fs[c.x.toNat]?.elim false λf=>QpO w f c.h)&&QvT c.b.length best then some c.b else best
def QAE:Option (List Int)->List Int×Int | none=>([],8) | some b=>(b,0)
def Vr (L:List Fm) (op:Int) (l:List Ar) (w:Int):List Int×Int:=
 if(QT op l==0)=false then([],QT op l)
 else if(decide (w<0)||decide (3<w))=true then([],2)
 else QAE ((Jn L op l).foldl (Qgm w L) none)
theorem QCq {f:Fm} {l:List Ar} {e:List Int} {w c:Ld} (h:c∈Qbn f l e w):c.b≠[]:=by
 unfold Qbn at h;obtain⟨hd,_,rfl⟩:=List.mem_map.1 h;simp
theorem QCr {f:Fm} {op:Int} {l:List Ar} {c:Ld} (h:c∈Qau f op l):c.b≠[]:=by
 unfold Qau at h;split at h
 ·obtain⟨w,_,h⟩:=List.mem_flatMap.1 h;exact QCq h
 ·cases h
theorem QuG (op:Int) (l:List Ar):(Z0 op l).length<=2:=by
 unfold Z0;split
 ·split<;>simp
 ·simp
theorem QvU {L:List Fm} {op:Int} {l:List Ar} (hL:L.length<=6000):(Jn L op l).length<=288000:=by
 unfold Jn;have h0:=QuG op l;have h1:=Qbo (f:=λm=>(List.range L.length).flatMap (frm L op m)) (n:=144000) (Z0 op l) λm _=>by
  have h2:=Qbo (f:=frm L op m) (n:=24) (List.range L.length) λk _=>Qq9 _ _ _ _;rw[List.length_range]at h2;omega
 omega
theorem QAF {L:List Fm} {op:Int} {l:List Ar} {c:Ld} (h:c∈Jn L op l):∃m∈Z0 op l,∃ (k:Nat) (f:Fm),L[k]? = some f∧∃w∈Qau f op m,c=Qeo k w:=by
 unfold Jn at h;obtain⟨m,hm,h⟩:=List.mem_flatMap.1 h;obtain⟨k,_,h⟩:=List.mem_flatMap.1 h;unfold frm at h;split at h
 ·rename_i f hf;obtain⟨w,hw,rfl⟩:=List.mem_map.1 h;exact⟨m,hm,k,f,hf,w,hw,rfl⟩
 ·cases h
def QsV (H0 H:Qa) (v:Value):Option (List Int)->Prop
 | none=>v=.slice none 0 0
 | some b=>b≠[]∧Gx 1 5 H0 H v b.length (bys b)
theorem QsV.go {H0 H H':Qa} {v:Value} {o:Option (List Int)} (h:QsV H0 H v o) (hw:H.Wf) (hx:Ext H H'):QsV H0 H' v o:=by
 cases o with
 | none=>exact h
 | some b=>exact⟨h.1,h.2.go hw hx⟩
section
variable {T:Qa->Prop} {L:Int->List Fm} (hT:∀H H',H.Wf->T H->Ext H H'->T H') (hO:∀op H,T H->Qf prog WY [.int .i64 op] H λu H'=>Qo3 H H' u (L op))
include hT hO
theorem QEz {op:Int} {va:Value} {l:List Ar} {w:Int} {H H2:Qa} {B:Nat} {W:List Int×Int} (hw:H.Wf) (hTH:T H) (ha:QS H va l) (hl:l.length<=1000) (hI:∀a∈l,I64 a.n) (hx2:Ext H H2) (hw2:H2.Wf) (g2:H2.get B=some (.cells [.int .i64 op,va] Qb false))
  (eW:W=QAE ((Jn (L op) op l).foldl (Qgm w (L op)) none)) {A:Env} (r1:A 1=.int .i64 w) (r2:A 2=.pointer (some ⟨B,0,none⟩)):
  Qt prog JW ⟨Rt prog QeG H λu H'=>∃v,u=.tuple #[v,.int .i64 W.2]∧Gx 1 5 H H' v W.1.length (bys W.1)∧Ext H H',Z5⟩ (Rt prog QeG H λu H'=>∃v,u=.tuple #[v,.int .i64 W.2]∧Gx 1 5 H H' v W.1.length (bys W.1)∧Ext H H') A H2:=by
 obtain⟨a0,cap,rfl⟩:=Q0 ha;simp only[JW,Qc,simprocAttr,r2,g2];refine(hO op H2 (hT _ _ hw hTH hx2)).thenW ?_;rintro fv H3 hn3 hw3 ⟨hx23,ys,ey,hya,hyl,hyf⟩;have hx3:=hx2.trans hx23;have g3:H3.get B=some (.cells [.int .i64 op,.slice a0 l.length cap] Qb false):=by rw[hx23.get _ (hw2.lt g2)];exact g2
 simp only[Qc,simprocAttr,r2,g3];refine(Qav H3 (ha.ext hw hx3) hl hI hya.fms (λx hx=>(hyf x hx).mono (Nat.zero_le _)) hyl).thenW ?_;rintro v H4 hn4 hw4 ⟨hv,hx34⟩;have hv:=hv.ls;rw[ey]at hv;have hx4:=hx3.trans hx34;have hys:=hya.fms.ext hw3 hx34;have hQl:(Jn (L op) op l).length<=288000:=QvU (by rw[<- ey,List.length_map];exact hyl);generalize hQ:Jn (L op) op l=Q at *;obtain⟨va4,c4,rfl⟩:=hv.slc;obtain⟨⟨fa,fc,rfl,hf1⟩,hf2⟩:=hys;have hst:QqS prog W9=true:=by kernel_rfl
 simp only[Qc,simprocAttr,Qm];refine Qu (λq A' H'=>∃i:Nat,i<=Q.length∧q=Q.length - i∧H'.Wf∧Ext H4 H'∧QsV H3 H' (A' 8) ((Q.take i).foldl (Qgm w (L op)) none)∧A' 1=.int .i64 w∧A' 7=.slice fa ys.length fc∧A' 27=.slice va4 Q.length c4∧A' 28=.int .i64 Q.length∧A' 29=.int .i64 i) Q.length ?_ ?_
 ·refine⟨0,Nat.zero_le _,by omega,hw4,.refl _,?_,?_,?_,?_,?_,?_⟩
  ·simp only[Qq,simprocAttr];rfl
  all_goals simp only[Qq,simprocAttr,r1]
  all_goals rfl
 ·rintro q A' H' ⟨i,hi,rfl,hw',hx',hb,r1,r7,r27,r28,r29⟩;simp only[QaW,Qc,simprocAttr,r28,r29];refine Qh (λh2=>?_) (λh2=>?_)
  ·have h2:i<Q.length:=by have:=of_decide_eq_true h2;omega
   obtain⟨ss,hsl,hgss,hgs⟩:=(hv.go hw4 hx').it;obtain⟨b,rfl,hgb⟩:∃b,va4=some ⟨b,0,none⟩∧H'.get b=some (.cells (ldC ss Q) Ql false):=by
    rcases hgss with⟨h,h',_⟩ | ⟨b,c,h,q1,q2,_⟩
    ·omega
    ·cases h;exact⟨b,rfl,q2⟩
   obtain⟨sv,hsv⟩:∃sv,ss[i]? = some sv:=⟨_,List.getElem?_eq_getElem (by omega)⟩;obtain⟨c,hci⟩:∃c,Q[i]? = some c:=⟨_,List.getElem?_eq_getElem h2⟩;have hs4:=hgs i sv c hsv hci;have hat:=Qn8 ss Q i sv c hsv hci;have hll:(ldC ss Q).length=Q.length * 3:=by rw[QmD _ _ hsl]
   have hcm:=List.mem_of_getElem? hci;rw[<- hQ]at hcm;obtain⟨m,_,k,f,hk,w0,hw0,rfl⟩:=QAF hcm;have hne:w0.b≠[]:=QCr hw0;have hpos:0<w0.b.length:=List.length_pos_iff.2 hne;have hky:k<ys.length:=by have:=(List.getElem?_eq_some_iff.1 hk).1;rw[<- ey,List.length_map]at this;exact this
   obtain⟨y,hyk⟩:∃y,ys[k]? = some y:=⟨_,List.getElem?_eq_getElem hky⟩;have hyf':y.f=f:=by rw[<- ey,List.getElem?_map,hyk]at hk;exact Option.some.inj hk
   obtain⟨bf,ef,rof,rfl,hgf0⟩:=hf1 (by omega);have hgf:H'.get bf=some (.cells (Xe ys) ef rof):=by rw[hx'.get _ (hw4.lt hgf0)];exact hgf0
   have haty:=QgG ys k y hyk;have hly:=JF ys;have d1:(0:Int)<=i∧(i:Int)<Q.length:=by omega
   have d2:(0:Int)<=k∧(k:Int)<ys.length:=by omega
   have d3:(i:Int).toNat=i:=by omega
   have d4:(k:Int).toNat=k:=by omega
   have ei:IntKind.i64.wrap ((i:Int)+1)=((i+1:Nat):Int):=by rw[w64 (by unfold I64;omega)];omega
   have ex:(Qeo (k:Int) w0).x=k:=rfl;have eh:(Qeo (k:Int) w0).h=w0.h:=rfl;have eb:(Qeo (k:Int) w0).b=w0.b:=rfl;rw[eb]at hs4;obtain⟨ai,ci,rfl⟩:=hs4.slc;have lf:=hw'.lt hgf;have nf:¬bf=H'.next:=by omega
   rw[ex,eh]at hat;simp only[QaV,Qc,simprocAttr,r1,r7,r27,r29,d1,d2,d3,d4,hgb,hat,hgf,haty,nf,if_false];refine⟨by omega,by omega,?_⟩;generalize hH5:Qa.set (Qa.push H' _) _ _=H5;have hx5:Ext H' H5:=by rw[<- hH5];exact((Ext.refl H').push _).set (Nat.le_refl _) _
   have hw5:H5.Wf:=by rw[<- hH5];exact(hw'.push _).set (b0:=.cells [.slice none 0 0,.int .i64 0,.int .i64 0] Ql false) (by rw[Qa.get_push,if_pos rfl]) _
   have g5:H5.get H'.next=some (.cells [.slice ai w0.b.length ci,.int .i64 k,.int .i64 w0.h] Ql false):=by rw[<- hH5,Qa.get_set,if_pos rfl]
   clear hH5;refine(Qk2 w w0.h H5 ((hf2 y (List.mem_of_getElem? hyk)).ext hw4 (hx'.trans hx5))).thenW ?_;rintro _ H6 hn6 hw6 ⟨rfl,hx56⟩;have g6:H6.get H'.next=some (.cells [.slice ai w0.b.length ci,.int .i64 k,.int .i64 w0.h] Ql false):=by rw[hx56.get _ (hw5.lt g5)];exact g5
   have hx6:=hx5.trans hx56;have hg6:Gx 1 5 H3 H6 (.slice ai w0.b.length ci) w0.b.length (bys w0.b):=hs4.go hw' hx6;have htk:(Q.take (i+1)).foldl (Qgm w (L op)) none=Qgm w (L op) ((Q.take i).foldl (Qgm w (L op)) none) (Qeo k w0):=by rw[List.take_add_one,hci,List.foldl_append];rfl
   generalize (Q.take i).foldl (Qgm w (L op)) none=o at *;have hstp:Qgm w (L op) o (Qeo k w0)=if QpO w y.f w0.h&&QvT w0.b.length o then some w0.b else o:=by
    unfold Qgm;rw[ex,d4,hk,hyf',eh,eb];rfl
   simp only[Qc,simprocAttr];cases hp:QpO w y.f w0.h with
   | false=>
    rw[hp,Bool.false_and,if_neg (by decide)]at hstp;simp only[Qc,simprocAttr,r29,ei];refine⟨Q.length - (i+1),by omega,i+1,by omega,rfl,hw6,hx'.trans hx6,?_,?_,?_,?_,?_,?_⟩
    ·simp only[Qq,simprocAttr];rw[htk,hstp];exact hb.go hw' hx6
    all_goals simp only[Qq,simprocAttr,r1,r7,r27,r28]
   | true=>
    rw[hp,Bool.true_and]at hstp;have hend:QvT w0.b.length o=true->∀A2:Env,A2 8=.slice ai w0.b.length ci->A2 1=.int .i64 w->A2 7=.slice (some ⟨bf,0,none⟩) ys.length fc->A2 27=.slice (some ⟨b,0,none⟩) Q.length c4->A2 28=.int .i64 Q.length->A2 29=.int .i64 (i+1:Nat)->Qsd (λq A' H'=>∃i:Nat,i<=Q.length∧q=Q.length - i∧H'.Wf∧Ext H4 H'∧QsV H3 H' (A' 8) ((Q.take i).foldl (Qgm w (L op)) none)∧A' 1=.int .i64 w∧A' 7=.slice (some ⟨bf,0,none⟩) ys.length fc∧A' 27=.slice (some ⟨b,0,none⟩) Q.length c4∧A' 28=.int .i64 Q.length∧A' 29=.int .i64 i) (Q.length - i) A2 H6:=λh A2 a8 a1 a7 a27 a28 a29=>
     ⟨Q.length - (i+1),by omega,i+1,by omega,rfl,hw6,hx'.trans hx6,by rw[htk,hstp,if_pos h,a8];exact⟨hne,hg6⟩,a1,a7,a27,a28,a29⟩
    simp only[Qc,simprocAttr];cases o with
    | none=>
     have hb:A' 8=.slice none 0 0:=hb;rw[QgH (a:=none) (n:=0) (c:=0) hst (by simp only[Qq,simprocAttr,hb])];simp only[Qc,simprocAttr,Option.isNone_none,g6,r29,ei];refine hend rfl _ ?_ ?_ ?_ ?_ ?_ ?_
     all_goals simp only[Qq,simprocAttr,r1,r7,r27,r28]
    | some b0=>
     obtain⟨hbn,hbg⟩:=id hb;obtain⟨b8,c8,eb8⟩:∃b c,A' 8=.slice (some ⟨b,0,none⟩) b0.length c:=by
      rcases hbg with⟨_,h,_⟩ | ⟨b,c,h,_⟩
      ·exact absurd (List.length_eq_zero_iff.1 h) hbn
      ·exact⟨b,c,h⟩
     rw[QgH (a:=some ⟨b8,0,none⟩) (n:=b0.length) (c:=c8) hst (by simp only[Qq,simprocAttr,eb8])];simp only[Qc,simprocAttr,Option.isNone_some,g6,eb8,Qm];refine Qh (λh=>?_) (λh=>?_)
     ·have h:=of_decide_eq_true h;simp only[Qc,simprocAttr,g6,r29,ei];refine hend (by show decide (w0.b.length<b0.length)=true;rw[decide_eq_true_eq];omega) _ ?_ ?_ ?_ ?_ ?_ ?_
      all_goals simp only[Qq,simprocAttr,r1,r7,r27,r28]
     ·have h:=of_decide_eq_false h;have hls:QvT w0.b.length (some b0)=false:=by show decide (w0.b.length<b0.length)=false;rw[decide_eq_false_iff_not];omega
      rw[hls,if_neg (by decide)]at hstp;simp only[Qc,simprocAttr,r29,ei];refine⟨Q.length - (i+1),by omega,i+1,by omega,rfl,hw6,hx'.trans hx6,?_,?_,?_,?_,?_,?_⟩
      ·simp only[Qq,simprocAttr,eb8];rw[htk,hstp];rw[eb8]at hb;exact hb.go hw' hx6
      all_goals simp only[Qq,simprocAttr,r1,r7,r27,r28]
  ·have h2:i=Q.length:=by have:=of_decide_eq_false h2;omega
   subst h2;rw[List.take_length]at hb;simp only[QaU,Qc,simprocAttr];generalize Q.foldl (Qgm w (L op)) none=o at *;have hxf:=hx4.trans hx';cases o with
   | none=>
    have hb:A' 8=.slice none 0 0:=hb;simp only[QAE]at eW;rw[QgH (a:=none) (n:=0) (c:=0) hst (by simp only[Qq,simprocAttr,hb])];simp only[Qc,simprocAttr,Option.isNone_none,Ya];exact .mk hxf.next ⟨_,by rw[eW],by rw[eW];exact .inl ⟨rfl,rfl,rfl⟩,hxf⟩
   | some bs=>
    obtain⟨hbn,hbg⟩:=hb;simp only[QAE]at eW;obtain⟨b,c,eb,q1,q2,q3⟩:∃b c,A' 8=.slice (some ⟨b,0,none⟩) bs.length c∧True∧True∧True:=by
     rcases hbg with⟨_,h,_⟩ | ⟨b,c,h,_⟩
     ·exact absurd (List.length_eq_zero_iff.1 h) hbn
     ·exact⟨b,c,h,trivial,trivial,trivial⟩
    rw[QgH (a:=some ⟨b,0,none⟩) (n:=bs.length) (c:=c) hst (by simp only[Qq,simprocAttr,eb])];rw[eb]at hbg;simp only[Qc,simprocAttr,Option.isNone_some,eb,Ya];exact .mk hxf.next ⟨_,by rw[eW],by rw[eW];exact hbg.down hx3.next,hxf⟩
theorem Qe6 {op:Int} {va:Value} {l:List Ar} (w:Int) (H:Qa) (hTH:T H) (ha:QS H va l) (hva:∀n,H.next<=n->Qj n 6 (.agg #[.int .i64 op,va])=true) (hl:l.length<=1000) (hI:∀a∈l,I64 a.n):
  Qf prog JL [.agg #[.int .i64 op,va],.int .i64 w] H λu H'=>∃v,u=.tuple #[v,.int .i64 (Vr (L op) op l w).2]∧Gx 1 5 H H' v (Vr (L op) op l w).1.length (bys (Vr (L op) op l w).1)∧Ext H H':=by
 refine QkI λhw=>?_;obtain⟨a0,cap,rfl⟩:=Q0 ha;obtain⟨W,eW⟩:∃W,W=Vr (L op) op l w:=⟨_,rfl⟩;rw[<- eW];unfold Vr at eW;have hnil:∀ (H0 H1:Qa),Gx 1 5 H0 H1 (.slice none 0 0) ([]:List Int).length (bys []):=λ_ _=>.inl ⟨rfl,rfl,rfl⟩;simp only[Qdh,Qbt,simprocAttr];generalize hH1:Qa.push H _=H1;have g1:H1.get H.next=some (.cells [.int .i64 op,.slice a0 l.length cap] Qb false):=by rw[<- hH1,Qa.get_push,if_pos rfl];rfl
 have hx1:Ext H H1:=by rw[<- hH1];exact(Ext.refl H).push _
 have hw1:H1.Wf:=by rw[<- hH1];exact hw.push _
 clear hH1;simp only[Qc,simprocAttr,g1];refine(Za op _ l H1 (ha.ext hw hx1) hl hI).thenW ?_;rintro _ _ hn2 hw2 ⟨rfl,kk,rfl⟩;have hx12:Ext H1 (H1.up kk):=(Ext.refl H1).up hn2;generalize H1.up kk=H2 at *;have hx2:=hx1.trans hx12;have g2:H2.get H.next=some (.cells [.int .i64 op,.slice a0 l.length cap] Qb false):=by rw[hx12.get _ (hw1.lt g1)];exact g1
 simp only[Qc,simprocAttr];cases he:QT op l==0 with
 | false=>
  rw[he,if_pos rfl]at eW;simp only[Qc,simprocAttr,Bool.not_false,Ya];exact .mk hx2.next ⟨_,by rw[eW],by rw[eW];exact hnil _ _,hx2⟩
 | true=>
  rw[he,if_neg (by simp)]at eW;simp only[QaX,Qc,simprocAttr,Bool.not_true];cases h0:decide (w<0) with
  | true=>
   rw[h0,Bool.true_or,if_pos rfl]at eW;simp only[Qc,simprocAttr,Bool.not_true,Ya];exact .mk hx2.next ⟨_,by rw[eW],by rw[eW];exact hnil _ _,hx2⟩
  | false=>
   rw[h0,Bool.false_or]at eW;simp only[Qc,simprocAttr,Bool.not_false];refine Qh (λh=>?_) (λh=>?_)
   ·rw[if_pos (by simpa using h)]at eW;simp only[Qc,simprocAttr,Ya];exact .mk hx2.next ⟨_,by rw[eW],by rw[eW];exact hnil _ _,hx2⟩
   ·rw[if_neg (by simpa using h)]at eW;simp only[Qc,simprocAttr];refine QEz hT hO hw hTH ha hl hI hx2 hw2 g2 eW ?_ ?_
    all_goals simp only[Qq,simprocAttr]
end
def Qe7 (a b:List Int):Bool:=(a.map λz=>z.toNat.toUInt8)==(b.map λz=>z.toNat.toUInt8)
theorem Qgp:∀l:List Int,Kk (bys l)=some (l.map λz=>z.toNat.toUInt8)
 | []=>rfl
 | z::l=>by
  show(Kk (bys l)).map (z.toNat.toUInt8::·)=_;rw[Qgp l];rfl
theorem QsW {H0 H:Qa} {v:Value} {l:List Int} (h:Gx 1 5 H0 H v l.length (bys l)):∃a n c,v=.slice a n c∧ZH 1 v H=some (bys l):=by
 rcases h with⟨rfl,h,_⟩ | ⟨b,c,rfl,_,h3,_⟩
 ·have:l=[]:=List.length_eq_zero_iff.1 h;subst this;exact⟨none,0,0,rfl,rfl⟩
 ·refine⟨_,_,_,rfl,?_⟩
  by_cases h0:l.length=0
  ·have:l=[]:=by simpa using h0
   subst this;simp[ZH,bys]
  ·have hl:=Yt l;simp only[ZH,h0,if_false,h3];rw[if_pos (by omega),List.drop_zero,List.take_of_length_le (by omega)]
theorem QsX {A:Env} {H0 H:Qa} {k:Value->Qa->Prop} {src dst e:TypeId} {x:Operand} {v:Value} {l:List Int} (hs:prog.underlying src=some (.slice e)) (he:prog.underlying e=some (.int .u8)) (hd:prog.underlying dst=some .string) (hx:ev A x=v) (hr:Gx 1 5 H0 H v l.length (bys l)):
  pr prog (.gen (.convert src dst x)) false A H k=k (.string (mkS (l.map λz=>z.toNat.toUInt8))) H:=by
 obtain⟨a,n,c,rfl,hc⟩:=QsW hr;have e1:rop prog (.gen (.convert src dst x)) A H=some (.string (mkS (l.map λz=>z.toNat.toUInt8)),H):=by
  simp only[rop,aop,QaB,hs,hd,hx,he,hc,Qgp]
 refine(Q9 _).trans ?_;rw[e1,Qw]
theorem QvV {H0 H1:Qa} (va vb:Value) (l m:List Int) (H:Qa) (ha:Gx 1 5 H0 H va l.length (bys l)) (hb:Gx 1 5 H1 H vb m.length (bys m)):Qf prog Wb [va,vb] H λu H'=>u=.bool (Qe7 l m)∧H'=H:=by
 refine JI λhw=>?_;simp only[Yk,Qc,simprocAttr];rw[QsX (e:=5) (v:=va) (by kernel_rfl) (by kernel_rfl) (by kernel_rfl) (by simp only[Qq,simprocAttr]) ha];simp only[Qc,simprocAttr];rw[QsX (e:=5) (v:=vb) (by kernel_rfl) (by kernel_rfl) (by kernel_rfl) (by simp only[Qq,simprocAttr]) hb];simp only[Qc,simprocAttr,Jh];exact .mk (Nat.le_refl _) ⟨by rw[Qp3,Qp3];rfl,rfl⟩
theorem Qoa (l:List Int):Qe7 l l=true:=by unfold Qe7;exact beq_self_eq_true _
section
variable {T:Qa->Prop} {L:Int->List Fm} (hT:∀H H',H.Wf->T H->Ext H H'->T H') (hO:∀op H,T H->Qf prog WY [.int .i64 op] H λu H'=>Qo3 H H' u (L op))
include hT hO
end
theorem V1 (H:Qa) (b b':Blk):Ext H ((H.push b).set H.next b'):=((Ext.refl H).push b).set (Nat.le_refl _) b'
theorem QmE (H:Qa) (bs:List Int):Gx 1 5 H (H.push (.cells (bys bs) 5 false)) (.slice (some ⟨H.next,0,none⟩) bs.length bs.length) bs.length (bys bs):=.inr ⟨_,_,rfl,Nat.le_refl _,by rw[Qa.get_push,if_pos rfl],by rw[Yt,Nat.mul_one],.inl rfl⟩
theorem Ye (c k:Int) (H:Qa):Qf prog Qr [.int .i64 c,.int .i64 k] H λu H'=>u=.agg (Ar.cells ⟨1,⟨c,k⟩,XH,0⟩).toArray∧Ext H H':=by
 refine Qix λhw=>?_;simp only[Qbp,Qc,simprocAttr,Qg2];exact .mk (V1 _ _ _).next ⟨rfl,V1 _ _ _⟩
theorem QmF (k:Int) (H:Qa):Qf prog Xj [.int .i64 k] H λu H'=>u=.agg (Ar.cells ⟨3,⟨0,0⟩,XH,k⟩).toArray∧Ext H H':=by
 refine Qiy λhw=>?_;simp only[Qbq,Qc,simprocAttr,Qg3];exact .mk (V1 _ _ _).next ⟨rfl,V1 _ _ _⟩
theorem Yf (op:Int) (a:Option Addr) (n c:Nat) (H:Qa):Qf prog Qv [.int .i64 op,.slice a n c] H λu H'=>u=.agg #[.int .i64 op,.slice a n c]∧Ext H H':=by
 refine Qg0 λhw=>?_;simp only[Qae,Qc,simprocAttr,Qgn];exact .mk (V1 _ _ _).next ⟨rfl,V1 _ _ _⟩
section
variable {T:Qa->Prop} {L:Int->List Fm} (hT:∀H H',H.Wf->T H->Ext H H'->T H') (hO:∀op H,T H->Qf prog WY [.int .i64 op] H λu H'=>Qo3 H H' u (L op))
include hT hO
theorem Qj7 {op w:Int} {va vb:Value} {l:List Ar} {ws:List Int} {H0 H:Qa} (hTH:T H) (ha:QS H va l) (hva:∀n,H.next<=n->Qj n 6 (.agg #[.int .i64 op,va])=true) (hl:l.length<=1000) (hI:∀a∈l,I64 a.n) (hb:Gx 1 5 H0 H vb ws.length (bys ws)) (he:Vr (L op) op l w=(ws,0)):
  Qf prog QU [.agg #[.int .i64 op,va],.int .i64 w,vb] H λu H'=>u=.bool true∧Ext H H':=by
 refine Qg1 λhw=>?_;obtain⟨a0,cap,rfl⟩:=Q0 ha;simp only[Qaf,Qbt,simprocAttr];generalize hH1:Qa.push H _=H1;have g1:H1.get H.next=some (.cells [.int .i64 op,.slice a0 l.length cap] Qb false):=by rw[<- hH1,Qa.get_push,if_pos rfl];rfl
 have hx1:Ext H H1:=by rw[<- hH1];exact(Ext.refl H).push _
 have hw1:H1.Wf:=by rw[<- hH1];exact hw.push _
 clear hH1;simp only[Qc,simprocAttr,g1];refine(Qe6 hT hO w H1 (hT _ _ hw hTH hx1) (ha.ext hw hx1) (λn hn=>hva n (by have:=hx1.next;omega)) hl hI).thenW ?_;rintro _ H2 hn2 hw2 ⟨v8,rfl,h8,hx12⟩;rw[he]at h8 ⊢;have hx2:=hx1.trans hx12;have z0:((0:Int)==0)=true:=rfl;simp only[Qc,simprocAttr,z0];refine(QvV _ _ ws ws H2 h8 ((hb.go hw hx1).go hw1 hx12)).thenW ?_;rintro _ H2 _ _ ⟨rfl,rfl⟩;rw[Qoa];simp only[Qc,simprocAttr,Qgo];exact .mk hx2.next ⟨rfl,hx2⟩
theorem Qob {op:Int} {va:Value} {l:List Ar} {W:List Ld} {H:Qa} (hTH:T H) (ha:QS H va l) (hva:∀n,H.next<=n->Qj n 6 (.agg #[.int .i64 op,va])=true) (hl:l.length<=1000) (hI:∀a∈l,I64 a.n) (he:KR (L op) op l=(W,0)):
  Qf prog XW [.agg #[.int .i64 op,va]] H λu H'=>u=.int .i64 W.length∧Ext H H':=by
 refine Qfg λhw=>?_;obtain⟨a0,cap,rfl⟩:=Q0 ha;simp only[K2,Qbt,simprocAttr];generalize hH1:Qa.push H _=H1;have g1:H1.get H.next=some (.cells [.int .i64 op,.slice a0 l.length cap] Qb false):=by rw[<- hH1,Qa.get_push,if_pos rfl];rfl
 have hx1:Ext H H1:=by rw[<- hH1];exact(Ext.refl H).push _
 have hw1:H1.Wf:=by rw[<- hH1];exact hw.push _
 clear hH1;simp only[Qc,simprocAttr,g1];refine(Qep hT hO H1 (hT _ _ hw hTH hx1) (ha.ext hw hx1) (λn hn=>hva n (by have:=hx1.next;omega)) hl hI).thenW ?_;rintro _ H2 hn2 hw2 ⟨v8,rfl,h8,hx12⟩;rw[he]at h8 ⊢;have hx2:=hx1.trans hx12;have z0:((0:Int)==0)=true:=rfl;obtain⟨a8,c8,rfl⟩:=h8.ls.slc;simp only[Qc,simprocAttr,z0,Bool.not_true,Qm,Qer];exact .mk hx2.next ⟨rfl,hx2⟩
def exA:Ar:=⟨1,⟨4,0⟩,XH,0⟩
def exB:Ar:=⟨3,⟨0,0⟩,XH,5⟩
def exC:Ar:=⟨4,⟨0,0⟩,XH,5⟩
theorem QsY {W:List Ld} (h1:Vr (L 1) 1 [exA,exB] 0=([131,192,5],0)) (h2:Vr (L 54) 54 [exC] 0=([235,5],0)) (h3:Vr (L 54) 54 [exC] 2=([233,5,0,0,0],0)) (h4:KR (L 50) 50 []=(W,0)) (hW:W.length=2) (H:Qa) (hTH:T H):
  Qf prog XG [] H λu H'=>u=.bool true∧Ext H H':=by
 refine Qeq λhw=>?_;simp only[KS,Qc,simprocAttr];have g0:(H.push (.cells (Qg [exC]) Qd false)).get H.next=some (.cells (Qg [exC]) Qd false):=by rw[Qa.get_push,if_pos rfl]
 have hx0:=(Ext.refl H).push (.cells (Qg [exC]) Qd false);have hw0:=hw.push (.cells (Qg [exC]) Qd false);have e0:H.push (.cells [.int .i64 4,.int .i64 0,.int .i64 0,.int .i64 0,.int .i64 0,.int .i64 0,.int .i64 0,.int .i64 0,.int .i64 0,.int .i64 0,.int .i64 5] Qd false)=H.push (.cells (Qg [exC]) Qd false):=rfl;rw[e0];clear e0;generalize H.push (.cells (Qg [exC]) Qd false)=H1 at *;have l0:=hw0.lt g0;refine(Yf 54 _ _ _ H1).thenW ?_;rintro _ H2 hn2 hw2 ⟨rfl,hx12⟩;simp only[Qc,simprocAttr];generalize hH3:(H2.push _).set H2.next _=H3;have hx23:Ext H2 H3:=by rw[<- hH3];exact V1 _ _ _
 have hw3:H3.Wf:=by rw[<- hH3];exact(hw2.push _).set (b0:=.cells [.int .i64 0,.slice none 0 0] Qb false) (by rw[Qa.get_push,if_pos rfl]) _
 have g3:H3.get H2.next=some (.cells [.int .i64 54,.slice (some ⟨H.next,0,none⟩) 1 1] Qb false):=by rw[<- hH3,Qa.get_set,if_pos rfl]
 clear hH3;refine(Ye 4 0 H3).thenW ?_;rintro _ H4 hn4 hw4 ⟨rfl,hx34⟩;simp only[Qc,simprocAttr];refine(QmF 5 H4).thenW ?_;rintro _ H5 hn5 hw5 ⟨rfl,hx45⟩;simp only[Qc,simprocAttr,Ar.cells,Rg.cells,Mm.cells,XH,List.cons_append,List.nil_append];have hx5:=((hx12.trans hx23).trans hx34).trans hx45;have g65:(H5.push (.cells (Qg [exA,exB]) Qd false)).get H5.next=some (.cells (Qg [exA,exB]) Qd false):=by rw[Qa.get_push,if_pos rfl]
 have hx56:=(Ext.refl H5).push (.cells (Qg [exA,exB]) Qd false);have hw6:=hw5.push (.cells (Qg [exA,exB]) Qd false);have e6:H5.push (.cells [.int .i64 1,.int .i64 4,.int .i64 0,.int .i64 0,.int .i64 0,.int .i64 0,.int .i64 0,.int .i64 0,.int .i64 0,.int .i64 0,.int .i64 0,.int .i64 3,.int .i64 0,.int .i64 0,.int .i64 0,.int .i64 0,.int .i64 0,.int .i64 0,.int .i64 0,.int .i64 0,.int .i64 0,.int .i64 5] Qd false)=H5.push (.cells (Qg [exA,exB]) Qd false):=rfl;rw[e6];clear e6;generalize H5.push (.cells (Qg [exA,exB]) Qd false)=H6 at *;have l5:=hw6.lt g65;refine(Yf 1 _ _ _ H6).thenW ?_;rintro _ H7 hn7 hw7 ⟨rfl,hx67⟩;have e7:H7.push (.cells [.int .u8 131,.int .u8 192,.int .u8 5] 5 false)=H7.push (.cells (bys [131,192,5]) 5 false):=rfl;simp only[Qc,simprocAttr,e7];clear e7;have hg8:=QmE H7 [131,192,5];have hx78:=(Ext.refl H7).push (.cells (bys [131,192,5]) 5 false);have hw8:=hw7.push (.cells (bys [131,192,5]) 5 false);generalize H7.push (.cells (bys [131,192,5]) 5 false)=H8 at *;have hx08:=((hx0.trans hx5).trans hx56).trans (hx67.trans hx78);have gA:H8.get H5.next=some (.cells (Qg [exA,exB]) Qd false):=by rw[hx78.get _ (by have:=hx67.next;omega),hx67.get _ l5];exact g65
 have hbel:∀ (op:Int) (H':Qa) (b n c:Nat),b<H'.next->∀m,H'.next<=m->Qj m 6 (.agg #[.int .i64 op,.slice (some ⟨b,0,none⟩) n c])=true:=λop H' b n c hb m hm=>by
  simp[Qj,Ab.plain];omega
 have hi64:∀a∈[exA,exB],I64 a.n:=by intro a ha;simp only[List.mem_cons,List.not_mem_nil,or_false]at ha;rcases ha with rfl | rfl<;>(unfold I64;decide)
 have hi64c:∀a∈[exC],I64 a.n:=by intro a ha;simp only[List.mem_cons,List.not_mem_nil,or_false]at ha;subst ha;unfold I64;decide
 have lA:=hw8.lt gA;refine(Qj7 hT hO (l:=[exA,exB]) (hT _ _ hw hTH hx08) ⟨_,2,rfl,λ_=>⟨H5.next,_,_,rfl,gA⟩⟩ (hbel 1 H8 _ _ _ lA) (by decide) hi64 hg8 h1).thenW ?_;rintro _ H9 hn9 hw9 ⟨rfl,hx89⟩;have hx39:=(((hx34.trans hx45).trans hx56).trans (hx67.trans hx78)).trans hx89;have hx19:=(hx12.trans hx23).trans hx39;have hx09:=hx0.trans hx19;have g9:H9.get H2.next=some (.cells [.int .i64 54,.slice (some ⟨H.next,0,none⟩) 1 1] Qb false):=by rw[hx39.get _ (hw3.lt g3)];exact g3
 have gC:H9.get H.next=some (.cells (Qg [exC]) Qd false):=by rw[hx19.get _ l0];exact g0
 have l9:=hw9.lt g9;have e10:H9.push (.cells [.int .u8 235,.int .u8 5] 5 false)=H9.push (.cells (bys [235,5]) 5 false):=rfl;simp only[Qc,simprocAttr,g9,e10];clear e10;have hgx:=QmE H9 [235,5];have hx910:=(Ext.refl H9).push (.cells (bys [235,5]) 5 false);have hw10:=hw9.push (.cells (bys [235,5]) 5 false);generalize H9.push (.cells (bys [235,5]) 5 false)=H10 at *;have gC10:H10.get H.next=some (.cells (Qg [exC]) Qd false):=by rw[hx910.get _ (hw9.lt gC)];exact gC
 refine(Qj7 hT hO (l:=[exC]) (hT _ _ hw hTH (hx09.trans hx910)) ⟨_,1,rfl,λ_=>⟨H.next,_,_,rfl,gC10⟩⟩ (hbel 54 H10 _ _ _ (hw10.lt gC10)) (by decide) hi64c hgx h2).thenW ?_;rintro _ H11 hn11 hw11 ⟨rfl,hx1011⟩;have hx911:=hx910.trans hx1011;have g11:H11.get H2.next=some (.cells [.int .i64 54,.slice (some ⟨H.next,0,none⟩) 1 1] Qb false):=by rw[hx911.get _ l9];exact g9
 have gC11:H11.get H.next=some (.cells (Qg [exC]) Qd false):=by rw[hx911.get _ (hw9.lt gC)];exact gC
 have e12:H11.push (.cells [.int .u8 233,.int .u8 5,.int .u8 0,.int .u8 0,.int .u8 0] 5 false)=H11.push (.cells (bys [233,5,0,0,0]) 5 false):=rfl;simp only[Qc,simprocAttr,g11,e12];clear e12;have hgy:=QmE H11 [233,5,0,0,0];have hx1112:=(Ext.refl H11).push (.cells (bys [233,5,0,0,0]) 5 false);have hw12:=hw11.push (.cells (bys [233,5,0,0,0]) 5 false);generalize H11.push (.cells (bys [233,5,0,0,0]) 5 false)=H12 at *;have gC12:H12.get H.next=some (.cells (Qg [exC]) Qd false):=by rw[hx1112.get _ (hw11.lt gC11)];exact gC11
 have hx012:=(hx09.trans hx911).trans hx1112;refine(Qj7 hT hO (l:=[exC]) (hT _ _ hw hTH hx012) ⟨_,1,rfl,λ_=>⟨H.next,_,_,rfl,gC12⟩⟩ (hbel 54 H12 _ _ _ (hw12.lt gC12)) (by decide) hi64c hgy h3).thenW ?_;rintro _ H13 hn13 hw13 ⟨rfl,hx1213⟩;simp only[Qc,simprocAttr];refine(Yf 50 none 0 0 H13).thenW ?_;rintro _ H14 hn14 hw14 ⟨rfl,hx1314⟩;have hx014:=(hx012.trans hx1213).trans hx1314;simp only[Qc,simprocAttr];refine(Qob hT hO (l:=[]) (hT _ _ hw hTH hx014) ⟨none,0,rfl,λh=>absurd h (Nat.lt_irrefl 0)⟩ (λm hm=>by simp[Qj,Ab.plain]) (by decide) (λa ha=>by cases ha) h4).thenW ?_;rintro _ H15 hn15 hw15 ⟨rfl,hx1415⟩;have hx015:=hx014.trans hx1415;rw[hW];simp only[Qc,simprocAttr,QdJ];exact .mk hx015.next ⟨rfl,hx015⟩
end
end Go.Proofs.YtgepgbbjfhggfaaGreatDoor.code
