/- How many bytes stand behind ModRM. -/
import Derived.Test.YtgepgbbjfhggfaaGreatDoorC5Dec
import Derived.Test.YtgepgbbjfhggfaaGreatDoorLibA
import Derived.Test.YtgepgbbjfhggfaaGreatDoorLibB
import Derived.Test.YtgepgbbjfhggfaaGreatDoorLibN
import Derived.Test.YtgepgbbjfhggfaaGreatDoorLibI
import Derived.Test.YtgepgbbjfhggfaaGreatDoorC6Law
set_option linter.unusedVariables false
set_option linter.unusedSimpArgs false
set_option maxRecDepth 100000
set_option maxHeartbeats 4000000
noncomputable section
namespace Go.Proofs.YtgepgbbjfhggfaaGreatDoor.code
open Go.Ab
def tl0 (s:Int):Int:=if(s==20||s==21||s==26)=true then 1 else if(s==22)=true then 2 else if(s==23||s==24||s==27)=true then 4 else if(s==25)=true then 8 else 0
def tl1 (f:Fm):Int:=if(decide (0≤QB f.slots 5)&&decide (QB f.slots 5<f.shapes.length))=true then tl0 (f.shapes.getD (QB f.slots 5).toNat 0) else 0
def tlF (f:Fm):Int:=bif decide (0≤QB f.slots 7) then tl1 f+1 else tl1 f
theorem Qzr (s:Int):0≤tl0 s∧tl0 s≤8:=by
 unfold tl0
 repeat' split
 all_goals decide
theorem Qwf (f:Fm):0≤tl1 f∧tl1 f≤8:=by
 unfold tl1
 split
 ·exact Qzr _
 ·decide
theorem QoU (x:Lf) (H:Qa) (hx:x.At H):Qe prog QcL [.agg x.cells.toArray] H fun u H'=>u=.int .i64 (tlF x.f)∧∃m,H'=H.up m:=by
 refine Qm5 fun hw=>?_
 have ex:(Value.agg x.cells.toArray).cells.toList=x.cells:=rfl
 have hx0:Ext H (H.push (.cells x.cells Qc false)):=(Ext.refl H).push _
 have hg0:(H.push (.cells x.cells Qc false)).get H.next=some (.cells x.cells Qc false):=by rw[Qa.get_push,if_pos rfl]
 have hw0:=hw.push (.cells x.cells Qc false)
 obtain⟨l1,l2,h1,h2⟩:=hx.ext hw hx0
 obtain⟨a1,c1,e1,s1⟩:=h1
 have x1:x.cells[1]? = some (.slice a1 x.f.shapes.length c1):=by rw[← e1];rfl
 have qs:=QU x 5 _ (hx.ext hw hx0)
 have q7:=fun m (hm:(H.push (.cells x.cells Qc false)).next≤m)=>QU x 7 _ (hx.ext hw (hx0.up hm))
 have hs:tlF x.f=bif decide (0≤QB x.f.slots 7) then tl1 x.f+1 else tl1 x.f:=rfl
 have hs1:tl1 x.f=if(decide (0≤QB x.f.slots 5)&&decide (QB x.f.slots 5<x.f.shapes.length))=true then tl0 (x.f.shapes.getD (QB x.f.slots 5).toNat 0) else 0:=rfl
 have hle:=Qwf x.f
 generalize tl1 x.f=n at *
 generalize tlF x.f=r at *
 generalize QB x.f.slots 7=i7 at *
 simp only[QfQ,ex,QBD,simprocAttr,QH,Wm,x1]
 generalize H.push (.cells x.cells Qc false)=H1 at *
 have last:∀ (A:Env) m,H1.next≤m→A 1=.pointer (some ⟨H.next,0,none⟩)→A 3=.int .i64 n→Qp prog GD ⟨Rt prog Qih H (fun u H'=>u=.int .i64 r∧∃m,H'=H.up m),YH⟩ (Rt prog Qih H (fun u H'=>u=.int .i64 r∧∃m,H'=H.up m)) A (H1.up m):=by
  intro A m hm a1' a3
  simp only[GD,QBD,simprocAttr,a1',a3,hg0,QH,Wm]
  refine(q7 m hm).thenW ?_
  rintro _ _ hn1 hw1 ⟨rfl,m2,rfl⟩
  have hx2:=(hx0.up hm).up hn1
  have en:IntKind.i64.wrap (n+1)=n+1:=w64 (by unfold I64;omega)
  cases z:decide (0≤i7) with
  | true=>
   rw[z]at hs
   simp only[QBD,simprocAttr,z,a3,en,Qet]
   exact .ext hw hx2 ⟨by rw[hs];rfl,_,rfl⟩
  | false=>
   rw[z]at hs
   simp only[QBD,simprocAttr,z,a3,Qet]
   exact .ext hw hx2 ⟨by rw[hs];rfl,_,rfl⟩
 refine qs.thenW ?_
 rintro _ _ hn1 hw1 ⟨rfl,m1,rfl⟩
 simp only[Qa.next_up]at hn1
 generalize QB x.f.slots 5=i at *
 simp only[QBD,simprocAttr,hg0,x1]
 refine Qv (fun h=>?_) (fun h=>?_)<;>simp only[QBD,simprocAttr,hg0,x1,h]
 ·have h0:0≤i:=of_decide_eq_true h
  refine Qg (fun h'=>?_) (fun h'=>?_)<;>simp only[QBD,simprocAttr,hg0,x1]
  ·have h1:i<x.f.shapes.length:=of_decide_eq_true h'
   obtain⟨b1,e1',ro1,rfl,hb1⟩:=s1 (by omega)
   have g1:=Vw (l:=x.f.shapes) (i:=i.toNat) (by omega)
   rw[if_pos (by rw[h,h'];rfl)]at hs1
   generalize x.f.shapes.getD i.toNat 0=s at *
   have hs2:n=if(s==20||s==21||s==26)=true then 1 else if(s==22)=true then 2 else if(s==23||s==24||s==27)=true then 4 else if(s==25)=true then 8 else 0:=hs1
   clear hs1
   simp only[Qdx,Qdw,Qdv,Qdu,Qdt,h0,h1,QBD,simprocAttr,hg0,x1,hb1,g1]
   cases z1:s==20<;>cases z2:s==21<;>cases z3:s==26<;>cases z4:s==22<;>cases z5:s==23<;>cases z6:s==24<;>cases z7:s==27<;>cases z8:s==25<;>simp only[QBD,simprocAttr,z1,z2,z3,z4,z5,z6,z7,z8]
   all_goals (rw[z1,z2,z3,z4,z5,z6,z7,z8]at hs2;refine last _ m1 hn1 ?_ ?_<;>simp only[QBE,simprocAttr,hs2])
   all_goals rfl
  ·rw[if_neg (by rw[h,h'];decide)]at hs1
   refine last _ m1 hn1 ?_ ?_<;>simp only[QBE,simprocAttr,hs1]
 ·rw[if_neg (by rw[h];simp)]at hs1
  refine last _ m1 hn1 ?_ ?_<;>simp only[QBE,simprocAttr,hs1]
structure Gv where
 a:Ar
 bits:Int
 n:Int
def Gv.cells (g:Gv):List Value:=[.int .i64 g.a.k,.int .i64 g.a.r.c,.int .i64 g.a.r.n,.int .i64 g.a.m.b.c,.int .i64 g.a.m.b.n,.int .i64 g.a.m.i.c,.int .i64 g.a.m.i.n,.int .i64 g.a.m.sc,.int .i64 g.a.m.d,.int .i64 g.a.m.sz,.int .i64 g.a.n,.int .i64 g.bits,.int .i64 g.n]
def Wu (g:Gv) (c:Int):Bool:=(g.a.k==1)&&(g.a.r.c==c)
def XA (g:Gv) (z:Int):Bool:=(g.a.k==2)&&(g.a.m.sz==z)
theorem XB (g:Gv) (c:Int) (H:Qa):Qe prog Ql [.agg g.cells.toArray,.int .i64 c] H fun u H'=>u=.bool (Wu g c)∧∃k,H'=H.up k:=by
 refine Qer fun hw=>?_
 unfold Wu
 obtain⟨⟨k,⟨rc,rn⟩,⟨⟨bc,bn⟩,⟨ic,nn⟩,sc,d,sz⟩,n⟩,bits,gn⟩:=g
 simp only[Gv.cells,K3,QBD,simprocAttr]
 cases h:k==1<;>simp only[QBD,simprocAttr,h,QdN]
 all_goals exact .ext hw ((Ext.refl H).push _) ⟨by simp,_,rfl⟩
theorem YF (g:Gv) (z:Int) (H:Qa):Qe prog Qo [.agg g.cells.toArray,.int .i64 z] H fun u H'=>u=.bool (XA g z)∧∃k,H'=H.up k:=by
 refine Qes fun hw=>?_
 unfold XA
 obtain⟨⟨k,⟨rc,rn⟩,⟨⟨bc,bn⟩,⟨ic,nn⟩,sc,d,sz⟩,n⟩,bits,gn⟩:=g
 simp only[Gv.cells,K4,QBD,simprocAttr]
 cases h:k==2<;>simp only[QBD,simprocAttr,h,QdO]
 all_goals exact .ext hw ((Ext.refl H).push _) ⟨by simp,_,rfl⟩
/-! The tests. -/
theorem QBm (g:Gv) (H:Qa):Qe prog Gf [.agg g.cells.toArray] H fun u H'=>u=.bool (false)∧∃m,H'=H.up m:=by
 refine Qjf fun hw=>?_
 obtain⟨⟨k,⟨rc,rn⟩,⟨⟨bc,bn⟩,⟨ic,nn⟩,sc,d,sz⟩,n⟩,bits,gn⟩:=g
 simp only[Gv.cells,Qb1,QBD,simprocAttr,QhP]
 exact .ext hw ((Ext.refl H).push _) ⟨rfl,_,rfl⟩
theorem QBn (g:Gv) (H:Qa):Qe prog Gg [.agg g.cells.toArray] H fun u H'=>u=.bool (Wu g 1||Wu g 2)∧∃m,H'=H.up m:=by
 refine Qjg fun hw=>?_
 have q0:=XB g 1
 obtain⟨v0,e0⟩:∃v,Wu g 1=v:=⟨_,rfl⟩
 rw[e0]at q0 ⊢
 have q1:=XB g 2
 obtain⟨v1,e1⟩:∃v,Wu g 2=v:=⟨_,rfl⟩
 rw[e1]at q1 ⊢
 clear e0 e1
 obtain⟨⟨k,⟨rc,rn⟩,⟨⟨bc,bn⟩,⟨ic,nn⟩,sc,d,sz⟩,n⟩,bits,gn⟩:=g
 simp only[Gv.cells]at q0 q1
 simp only[Gv.cells,Qb2,QBD,simprocAttr]
 refine(q0 _).thenW ?_
 rintro _ _ hn0 hw0 ⟨rfl,k0,rfl⟩
 simp only[Qa.next_push,Qa.next_up]at hn0
 cases v0 with
 | true=>
  simp only[QBD,simprocAttr,Qaw]
  exact .ext hw (((Ext.refl H).push _).up (by simp only[Qa.next_push,Qa.next_up];omega)) ⟨by simp,_,rfl⟩
 | false=>
  simp only[QBD,simprocAttr]
  refine(q1 _).thenW ?_
  rintro _ _ hn1 hw1 ⟨rfl,k1,rfl⟩
  simp only[Qa.next_push,Qa.next_up]at hn1
  simp only[QBD,simprocAttr,Qaw]
  exact .ext hw ((((Ext.refl H).push _).up (by simp only[Qa.next_push,Qa.next_up];omega)).up (by simp only[Qa.next_push,Qa.next_up];omega)) ⟨by simp,_,rfl⟩
theorem QBo (g:Gv) (H:Qa):Qe prog Gh [.agg g.cells.toArray] H fun u H'=>u=.bool (Wu g 3)∧∃m,H'=H.up m:=by
 refine Qjh fun hw=>?_
 have q0:=XB g 3
 obtain⟨v0,e0⟩:∃v,Wu g 3=v:=⟨_,rfl⟩
 rw[e0]at q0 ⊢
 clear e0
 obtain⟨⟨k,⟨rc,rn⟩,⟨⟨bc,bn⟩,⟨ic,nn⟩,sc,d,sz⟩,n⟩,bits,gn⟩:=g
 simp only[Gv.cells]at q0
 simp only[Gv.cells,Qb3,QBD,simprocAttr]
 refine(q0 _).thenW ?_
 rintro _ _ hn0 hw0 ⟨rfl,k0,rfl⟩
 simp only[Qa.next_push,Qa.next_up]at hn0
 simp only[QBD,simprocAttr,QhQ]
 exact .ext hw (((Ext.refl H).push _).up (by simp only[Qa.next_push,Qa.next_up];omega)) ⟨by simp,_,rfl⟩
theorem QBp (g:Gv) (H:Qa):Qe prog Gi [.agg g.cells.toArray] H fun u H'=>u=.bool (Wu g 4)∧∃m,H'=H.up m:=by
 refine Qji fun hw=>?_
 have q0:=XB g 4
 obtain⟨v0,e0⟩:∃v,Wu g 4=v:=⟨_,rfl⟩
 rw[e0]at q0 ⊢
 clear e0
 obtain⟨⟨k,⟨rc,rn⟩,⟨⟨bc,bn⟩,⟨ic,nn⟩,sc,d,sz⟩,n⟩,bits,gn⟩:=g
 simp only[Gv.cells]at q0
 simp only[Gv.cells,Qb4,QBD,simprocAttr]
 refine(q0 _).thenW ?_
 rintro _ _ hn0 hw0 ⟨rfl,k0,rfl⟩
 simp only[Qa.next_push,Qa.next_up]at hn0
 simp only[QBD,simprocAttr,QhR]
 exact .ext hw (((Ext.refl H).push _).up (by simp only[Qa.next_push,Qa.next_up];omega)) ⟨by simp,_,rfl⟩
theorem QBq (g:Gv) (H:Qa):Qe prog Gj [.agg g.cells.toArray] H fun u H'=>u=.bool (Wu g 5)∧∃m,H'=H.up m:=by
 refine Qjj fun hw=>?_
 have q0:=XB g 5
 obtain⟨v0,e0⟩:∃v,Wu g 5=v:=⟨_,rfl⟩
 rw[e0]at q0 ⊢
 clear e0
 obtain⟨⟨k,⟨rc,rn⟩,⟨⟨bc,bn⟩,⟨ic,nn⟩,sc,d,sz⟩,n⟩,bits,gn⟩:=g
 simp only[Gv.cells]at q0
 simp only[Gv.cells,Qb5,QBD,simprocAttr]
 refine(q0 _).thenW ?_
 rintro _ _ hn0 hw0 ⟨rfl,k0,rfl⟩
 simp only[Qa.next_push,Qa.next_up]at hn0
 simp only[QBD,simprocAttr,QhS]
 exact .ext hw (((Ext.refl H).push _).up (by simp only[Qa.next_push,Qa.next_up];omega)) ⟨by simp,_,rfl⟩
theorem QBr (g:Gv) (H:Qa):Qe prog Gk [.agg g.cells.toArray] H fun u H'=>u=.bool (Wu g 6)∧∃m,H'=H.up m:=by
 refine Qjk fun hw=>?_
 have q0:=XB g 6
 obtain⟨v0,e0⟩:∃v,Wu g 6=v:=⟨_,rfl⟩
 rw[e0]at q0 ⊢
 clear e0
 obtain⟨⟨k,⟨rc,rn⟩,⟨⟨bc,bn⟩,⟨ic,nn⟩,sc,d,sz⟩,n⟩,bits,gn⟩:=g
 simp only[Gv.cells]at q0
 simp only[Gv.cells,Qb6,QBD,simprocAttr]
 refine(q0 _).thenW ?_
 rintro _ _ hn0 hw0 ⟨rfl,k0,rfl⟩
 simp only[Qa.next_push,Qa.next_up]at hn0
 simp only[QBD,simprocAttr,QhT]
 exact .ext hw (((Ext.refl H).push _).up (by simp only[Qa.next_push,Qa.next_up];omega)) ⟨by simp,_,rfl⟩
theorem QBs (g:Gv) (H:Qa):Qe prog Gl [.agg g.cells.toArray] H fun u H'=>u=.bool (Wu g 7)∧∃m,H'=H.up m:=by
 refine Qjl fun hw=>?_
 have q0:=XB g 7
 obtain⟨v0,e0⟩:∃v,Wu g 7=v:=⟨_,rfl⟩
 rw[e0]at q0 ⊢
 clear e0
 obtain⟨⟨k,⟨rc,rn⟩,⟨⟨bc,bn⟩,⟨ic,nn⟩,sc,d,sz⟩,n⟩,bits,gn⟩:=g
 simp only[Gv.cells]at q0
 simp only[Gv.cells,Qb7,QBD,simprocAttr]
 refine(q0 _).thenW ?_
 rintro _ _ hn0 hw0 ⟨rfl,k0,rfl⟩
 simp only[Qa.next_push,Qa.next_up]at hn0
 simp only[QBD,simprocAttr,QhU]
 exact .ext hw (((Ext.refl H).push _).up (by simp only[Qa.next_push,Qa.next_up];omega)) ⟨by simp,_,rfl⟩
theorem QBt (g:Gv) (H:Qa):Qe prog Gm [.agg g.cells.toArray] H fun u H'=>u=.bool (Wu g 1||Wu g 2||XA g 1)∧∃m,H'=H.up m:=by
 refine Qjm fun hw=>?_
 have q0:=XB g 1
 obtain⟨v0,e0⟩:∃v,Wu g 1=v:=⟨_,rfl⟩
 rw[e0]at q0 ⊢
 have q1:=XB g 2
 obtain⟨v1,e1⟩:∃v,Wu g 2=v:=⟨_,rfl⟩
 rw[e1]at q1 ⊢
 have q2:=YF g 1
 obtain⟨v2,e2⟩:∃v,XA g 1=v:=⟨_,rfl⟩
 rw[e2]at q2 ⊢
 clear e0 e1 e2
 obtain⟨⟨k,⟨rc,rn⟩,⟨⟨bc,bn⟩,⟨ic,nn⟩,sc,d,sz⟩,n⟩,bits,gn⟩:=g
 simp only[Gv.cells]at q0 q1 q2
 simp only[Gv.cells,Qb8,QBD,simprocAttr]
 refine(q0 _).thenW ?_
 rintro _ _ hn0 hw0 ⟨rfl,k0,rfl⟩
 simp only[Qa.next_push,Qa.next_up]at hn0
 cases v0 with
 | true=>
  simp only[QBD,simprocAttr,Jw]
  exact .ext hw (((Ext.refl H).push _).up (by simp only[Qa.next_push,Qa.next_up];omega)) ⟨by simp,_,rfl⟩
 | false=>
  simp only[QBD,simprocAttr]
  refine(q1 _).thenW ?_
  rintro _ _ hn1 hw1 ⟨rfl,k1,rfl⟩
  simp only[Qa.next_push,Qa.next_up]at hn1
  cases v1 with
  | true=>
   simp only[QBD,simprocAttr,Jw]
   exact .ext hw ((((Ext.refl H).push _).up (by simp only[Qa.next_push,Qa.next_up];omega)).up (by simp only[Qa.next_push,Qa.next_up];omega)) ⟨by simp,_,rfl⟩
  | false=>
   simp only[QBD,simprocAttr]
   refine(q2 _).thenW ?_
   rintro _ _ hn2 hw2 ⟨rfl,k2,rfl⟩
   simp only[Qa.next_push,Qa.next_up]at hn2
   simp only[QBD,simprocAttr,Jw]
   exact .ext hw (((((Ext.refl H).push _).up (by simp only[Qa.next_push,Qa.next_up];omega)).up (by simp only[Qa.next_push,Qa.next_up];omega)).up (by simp only[Qa.next_push,Qa.next_up];omega)) ⟨by simp,_,rfl⟩
theorem QAx (g:Gv) (H:Qa):Qe prog J3 [.agg g.cells.toArray] H fun u H'=>u=.bool (Wu g 3||XA g 2)∧∃m,H'=H.up m:=by
 refine QhV fun hw=>?_
 have q0:=XB g 3
 obtain⟨v0,e0⟩:∃v,Wu g 3=v:=⟨_,rfl⟩
 rw[e0]at q0 ⊢
 have q1:=YF g 2
 obtain⟨v1,e1⟩:∃v,XA g 2=v:=⟨_,rfl⟩
 rw[e1]at q1 ⊢
 clear e0 e1
 obtain⟨⟨k,⟨rc,rn⟩,⟨⟨bc,bn⟩,⟨ic,nn⟩,sc,d,sz⟩,n⟩,bits,gn⟩:=g
 simp only[Gv.cells]at q0 q1
 simp only[Gv.cells,Qax,QBD,simprocAttr]
 refine(q0 _).thenW ?_
 rintro _ _ hn0 hw0 ⟨rfl,k0,rfl⟩
 simp only[Qa.next_push,Qa.next_up]at hn0
 cases v0 with
 | true=>
  simp only[QBD,simprocAttr,VJ]
  exact .ext hw (((Ext.refl H).push _).up (by simp only[Qa.next_push,Qa.next_up];omega)) ⟨by simp,_,rfl⟩
 | false=>
  simp only[QBD,simprocAttr]
  refine(q1 _).thenW ?_
  rintro _ _ hn1 hw1 ⟨rfl,k1,rfl⟩
  simp only[Qa.next_push,Qa.next_up]at hn1
  simp only[QBD,simprocAttr,VJ]
  exact .ext hw ((((Ext.refl H).push _).up (by simp only[Qa.next_push,Qa.next_up];omega)).up (by simp only[Qa.next_push,Qa.next_up];omega)) ⟨by simp,_,rfl⟩
theorem QAy (g:Gv) (H:Qa):Qe prog J4 [.agg g.cells.toArray] H fun u H'=>u=.bool (Wu g 4||XA g 4)∧∃m,H'=H.up m:=by
 refine QhW fun hw=>?_
 have q0:=XB g 4
 obtain⟨v0,e0⟩:∃v,Wu g 4=v:=⟨_,rfl⟩
 rw[e0]at q0 ⊢
 have q1:=YF g 4
 obtain⟨v1,e1⟩:∃v,XA g 4=v:=⟨_,rfl⟩
 rw[e1]at q1 ⊢
 clear e0 e1
 obtain⟨⟨k,⟨rc,rn⟩,⟨⟨bc,bn⟩,⟨ic,nn⟩,sc,d,sz⟩,n⟩,bits,gn⟩:=g
 simp only[Gv.cells]at q0 q1
 simp only[Gv.cells,Qay,QBD,simprocAttr]
 refine(q0 _).thenW ?_
 rintro _ _ hn0 hw0 ⟨rfl,k0,rfl⟩
 simp only[Qa.next_push,Qa.next_up]at hn0
 cases v0 with
 | true=>
  simp only[QBD,simprocAttr,VK]
  exact .ext hw (((Ext.refl H).push _).up (by simp only[Qa.next_push,Qa.next_up];omega)) ⟨by simp,_,rfl⟩
 | false=>
  simp only[QBD,simprocAttr]
  refine(q1 _).thenW ?_
  rintro _ _ hn1 hw1 ⟨rfl,k1,rfl⟩
  simp only[Qa.next_push,Qa.next_up]at hn1
  simp only[QBD,simprocAttr,VK]
  exact .ext hw ((((Ext.refl H).push _).up (by simp only[Qa.next_push,Qa.next_up];omega)).up (by simp only[Qa.next_push,Qa.next_up];omega)) ⟨by simp,_,rfl⟩
theorem QAz (g:Gv) (H:Qa):Qe prog J5 [.agg g.cells.toArray] H fun u H'=>u=.bool (Wu g 5||XA g 8)∧∃m,H'=H.up m:=by
 refine QhX fun hw=>?_
 have q0:=XB g 5
 obtain⟨v0,e0⟩:∃v,Wu g 5=v:=⟨_,rfl⟩
 rw[e0]at q0 ⊢
 have q1:=YF g 8
 obtain⟨v1,e1⟩:∃v,XA g 8=v:=⟨_,rfl⟩
 rw[e1]at q1 ⊢
 clear e0 e1
 obtain⟨⟨k,⟨rc,rn⟩,⟨⟨bc,bn⟩,⟨ic,nn⟩,sc,d,sz⟩,n⟩,bits,gn⟩:=g
 simp only[Gv.cells]at q0 q1
 simp only[Gv.cells,Qaz,QBD,simprocAttr]
 refine(q0 _).thenW ?_
 rintro _ _ hn0 hw0 ⟨rfl,k0,rfl⟩
 simp only[Qa.next_push,Qa.next_up]at hn0
 cases v0 with
 | true=>
  simp only[QBD,simprocAttr,VM]
  exact .ext hw (((Ext.refl H).push _).up (by simp only[Qa.next_push,Qa.next_up];omega)) ⟨by simp,_,rfl⟩
 | false=>
  simp only[QBD,simprocAttr]
  refine(q1 _).thenW ?_
  rintro _ _ hn1 hw1 ⟨rfl,k1,rfl⟩
  simp only[Qa.next_push,Qa.next_up]at hn1
  simp only[QBD,simprocAttr,VM]
  exact .ext hw ((((Ext.refl H).push _).up (by simp only[Qa.next_push,Qa.next_up];omega)).up (by simp only[Qa.next_push,Qa.next_up];omega)) ⟨by simp,_,rfl⟩
theorem QAA (g:Gv) (H:Qa):Qe prog J6 [.agg g.cells.toArray] H fun u H'=>u=.bool (Wu g 6||XA g 4)∧∃m,H'=H.up m:=by
 refine QhY fun hw=>?_
 have q0:=XB g 6
 obtain⟨v0,e0⟩:∃v,Wu g 6=v:=⟨_,rfl⟩
 rw[e0]at q0 ⊢
 have q1:=YF g 4
 obtain⟨v1,e1⟩:∃v,XA g 4=v:=⟨_,rfl⟩
 rw[e1]at q1 ⊢
 clear e0 e1
 obtain⟨⟨k,⟨rc,rn⟩,⟨⟨bc,bn⟩,⟨ic,nn⟩,sc,d,sz⟩,n⟩,bits,gn⟩:=g
 simp only[Gv.cells]at q0 q1
 simp only[Gv.cells,QaA,QBD,simprocAttr]
 refine(q0 _).thenW ?_
 rintro _ _ hn0 hw0 ⟨rfl,k0,rfl⟩
 simp only[Qa.next_push,Qa.next_up]at hn0
 cases v0 with
 | true=>
  simp only[QBD,simprocAttr,VN]
  exact .ext hw (((Ext.refl H).push _).up (by simp only[Qa.next_push,Qa.next_up];omega)) ⟨by simp,_,rfl⟩
 | false=>
  simp only[QBD,simprocAttr]
  refine(q1 _).thenW ?_
  rintro _ _ hn1 hw1 ⟨rfl,k1,rfl⟩
  simp only[Qa.next_push,Qa.next_up]at hn1
  simp only[QBD,simprocAttr,VN]
  exact .ext hw ((((Ext.refl H).push _).up (by simp only[Qa.next_push,Qa.next_up];omega)).up (by simp only[Qa.next_push,Qa.next_up];omega)) ⟨by simp,_,rfl⟩
theorem QAB (g:Gv) (H:Qa):Qe prog J7 [.agg g.cells.toArray] H fun u H'=>u=.bool (Wu g 6||XA g 8)∧∃m,H'=H.up m:=by
 refine QhZ fun hw=>?_
 have q0:=XB g 6
 obtain⟨v0,e0⟩:∃v,Wu g 6=v:=⟨_,rfl⟩
 rw[e0]at q0 ⊢
 have q1:=YF g 8
 obtain⟨v1,e1⟩:∃v,XA g 8=v:=⟨_,rfl⟩
 rw[e1]at q1 ⊢
 clear e0 e1
 obtain⟨⟨k,⟨rc,rn⟩,⟨⟨bc,bn⟩,⟨ic,nn⟩,sc,d,sz⟩,n⟩,bits,gn⟩:=g
 simp only[Gv.cells]at q0 q1
 simp only[Gv.cells,QaB,QBD,simprocAttr]
 refine(q0 _).thenW ?_
 rintro _ _ hn0 hw0 ⟨rfl,k0,rfl⟩
 simp only[Qa.next_push,Qa.next_up]at hn0
 cases v0 with
 | true=>
  simp only[QBD,simprocAttr,VO]
  exact .ext hw (((Ext.refl H).push _).up (by simp only[Qa.next_push,Qa.next_up];omega)) ⟨by simp,_,rfl⟩
 | false=>
  simp only[QBD,simprocAttr]
  refine(q1 _).thenW ?_
  rintro _ _ hn1 hw1 ⟨rfl,k1,rfl⟩
  simp only[Qa.next_push,Qa.next_up]at hn1
  simp only[QBD,simprocAttr,VO]
  exact .ext hw ((((Ext.refl H).push _).up (by simp only[Qa.next_push,Qa.next_up];omega)).up (by simp only[Qa.next_push,Qa.next_up];omega)) ⟨by simp,_,rfl⟩
theorem QAC (g:Gv) (H:Qa):Qe prog J8 [.agg g.cells.toArray] H fun u H'=>u=.bool (Wu g 6||XA g 16)∧∃m,H'=H.up m:=by
 refine Qh0 fun hw=>?_
 have q0:=XB g 6
 obtain⟨v0,e0⟩:∃v,Wu g 6=v:=⟨_,rfl⟩
 rw[e0]at q0 ⊢
 have q1:=YF g 16
 obtain⟨v1,e1⟩:∃v,XA g 16=v:=⟨_,rfl⟩
 rw[e1]at q1 ⊢
 clear e0 e1
 obtain⟨⟨k,⟨rc,rn⟩,⟨⟨bc,bn⟩,⟨ic,nn⟩,sc,d,sz⟩,n⟩,bits,gn⟩:=g
 simp only[Gv.cells]at q0 q1
 simp only[Gv.cells,QaC,QBD,simprocAttr]
 refine(q0 _).thenW ?_
 rintro _ _ hn0 hw0 ⟨rfl,k0,rfl⟩
 simp only[Qa.next_push,Qa.next_up]at hn0
 cases v0 with
 | true=>
  simp only[QBD,simprocAttr,VP]
  exact .ext hw (((Ext.refl H).push _).up (by simp only[Qa.next_push,Qa.next_up];omega)) ⟨by simp,_,rfl⟩
 | false=>
  simp only[QBD,simprocAttr]
  refine(q1 _).thenW ?_
  rintro _ _ hn1 hw1 ⟨rfl,k1,rfl⟩
  simp only[Qa.next_push,Qa.next_up]at hn1
  simp only[QBD,simprocAttr,VP]
  exact .ext hw ((((Ext.refl H).push _).up (by simp only[Qa.next_push,Qa.next_up];omega)).up (by simp only[Qa.next_push,Qa.next_up];omega)) ⟨by simp,_,rfl⟩
theorem QAD (g:Gv) (H:Qa):Qe prog J9 [.agg g.cells.toArray] H fun u H'=>u=.bool (Wu g 7||XA g 32)∧∃m,H'=H.up m:=by
 refine Qh1 fun hw=>?_
 have q0:=XB g 7
 obtain⟨v0,e0⟩:∃v,Wu g 7=v:=⟨_,rfl⟩
 rw[e0]at q0 ⊢
 have q1:=YF g 32
 obtain⟨v1,e1⟩:∃v,XA g 32=v:=⟨_,rfl⟩
 rw[e1]at q1 ⊢
 clear e0 e1
 obtain⟨⟨k,⟨rc,rn⟩,⟨⟨bc,bn⟩,⟨ic,nn⟩,sc,d,sz⟩,n⟩,bits,gn⟩:=g
 simp only[Gv.cells]at q0 q1
 simp only[Gv.cells,QaD,QBD,simprocAttr]
 refine(q0 _).thenW ?_
 rintro _ _ hn0 hw0 ⟨rfl,k0,rfl⟩
 simp only[Qa.next_push,Qa.next_up]at hn0
 cases v0 with
 | true=>
  simp only[QBD,simprocAttr,VQ]
  exact .ext hw (((Ext.refl H).push _).up (by simp only[Qa.next_push,Qa.next_up];omega)) ⟨by simp,_,rfl⟩
 | false=>
  simp only[QBD,simprocAttr]
  refine(q1 _).thenW ?_
  rintro _ _ hn1 hw1 ⟨rfl,k1,rfl⟩
  simp only[Qa.next_push,Qa.next_up]at hn1
  simp only[QBD,simprocAttr,VQ]
  exact .ext hw ((((Ext.refl H).push _).up (by simp only[Qa.next_push,Qa.next_up];omega)).up (by simp only[Qa.next_push,Qa.next_up];omega)) ⟨by simp,_,rfl⟩
theorem QAE (g:Gv) (H:Qa):Qe prog Ka [.agg g.cells.toArray] H fun u H'=>u=.bool (XA g 0)∧∃m,H'=H.up m:=by
 refine Qh2 fun hw=>?_
 have q0:=YF g 0
 obtain⟨v0,e0⟩:∃v,XA g 0=v:=⟨_,rfl⟩
 rw[e0]at q0 ⊢
 clear e0
 obtain⟨⟨k,⟨rc,rn⟩,⟨⟨bc,bn⟩,⟨ic,nn⟩,sc,d,sz⟩,n⟩,bits,gn⟩:=g
 simp only[Gv.cells]at q0
 simp only[Gv.cells,QaE,QBD,simprocAttr]
 refine(q0 _).thenW ?_
 rintro _ _ hn0 hw0 ⟨rfl,k0,rfl⟩
 simp only[Qa.next_push,Qa.next_up]at hn0
 simp only[QBD,simprocAttr,QgA]
 exact .ext hw (((Ext.refl H).push _).up (by simp only[Qa.next_push,Qa.next_up];omega)) ⟨by simp,_,rfl⟩
theorem QAF (g:Gv) (H:Qa):Qe prog Kb [.agg g.cells.toArray] H fun u H'=>u=.bool (XA g 2)∧∃m,H'=H.up m:=by
 refine Qh3 fun hw=>?_
 have q0:=YF g 2
 obtain⟨v0,e0⟩:∃v,XA g 2=v:=⟨_,rfl⟩
 rw[e0]at q0 ⊢
 clear e0
 obtain⟨⟨k,⟨rc,rn⟩,⟨⟨bc,bn⟩,⟨ic,nn⟩,sc,d,sz⟩,n⟩,bits,gn⟩:=g
 simp only[Gv.cells]at q0
 simp only[Gv.cells,QaF,QBD,simprocAttr]
 refine(q0 _).thenW ?_
 rintro _ _ hn0 hw0 ⟨rfl,k0,rfl⟩
 simp only[Qa.next_push,Qa.next_up]at hn0
 simp only[QBD,simprocAttr,QgB]
 exact .ext hw (((Ext.refl H).push _).up (by simp only[Qa.next_push,Qa.next_up];omega)) ⟨by simp,_,rfl⟩
theorem QAG (g:Gv) (H:Qa):Qe prog Kc [.agg g.cells.toArray] H fun u H'=>u=.bool (XA g 4)∧∃m,H'=H.up m:=by
 refine Qh4 fun hw=>?_
 have q0:=YF g 4
 obtain⟨v0,e0⟩:∃v,XA g 4=v:=⟨_,rfl⟩
 rw[e0]at q0 ⊢
 clear e0
 obtain⟨⟨k,⟨rc,rn⟩,⟨⟨bc,bn⟩,⟨ic,nn⟩,sc,d,sz⟩,n⟩,bits,gn⟩:=g
 simp only[Gv.cells]at q0
 simp only[Gv.cells,QaG,QBD,simprocAttr]
 refine(q0 _).thenW ?_
 rintro _ _ hn0 hw0 ⟨rfl,k0,rfl⟩
 simp only[Qa.next_push,Qa.next_up]at hn0
 simp only[QBD,simprocAttr,QgC]
 exact .ext hw (((Ext.refl H).push _).up (by simp only[Qa.next_push,Qa.next_up];omega)) ⟨by simp,_,rfl⟩
theorem QAH (g:Gv) (H:Qa):Qe prog Kd [.agg g.cells.toArray] H fun u H'=>u=.bool (XA g 8)∧∃m,H'=H.up m:=by
 refine Qh5 fun hw=>?_
 have q0:=YF g 8
 obtain⟨v0,e0⟩:∃v,XA g 8=v:=⟨_,rfl⟩
 rw[e0]at q0 ⊢
 clear e0
 obtain⟨⟨k,⟨rc,rn⟩,⟨⟨bc,bn⟩,⟨ic,nn⟩,sc,d,sz⟩,n⟩,bits,gn⟩:=g
 simp only[Gv.cells]at q0
 simp only[Gv.cells,QaH,QBD,simprocAttr]
 refine(q0 _).thenW ?_
 rintro _ _ hn0 hw0 ⟨rfl,k0,rfl⟩
 simp only[Qa.next_push,Qa.next_up]at hn0
 simp only[QBD,simprocAttr,QgD]
 exact .ext hw (((Ext.refl H).push _).up (by simp only[Qa.next_push,Qa.next_up];omega)) ⟨by simp,_,rfl⟩
theorem QAI (g:Gv) (H:Qa):Qe prog Ke [.agg g.cells.toArray] H fun u H'=>u=.bool (XA g 16)∧∃m,H'=H.up m:=by
 refine Qh6 fun hw=>?_
 have q0:=YF g 16
 obtain⟨v0,e0⟩:∃v,XA g 16=v:=⟨_,rfl⟩
 rw[e0]at q0 ⊢
 clear e0
 obtain⟨⟨k,⟨rc,rn⟩,⟨⟨bc,bn⟩,⟨ic,nn⟩,sc,d,sz⟩,n⟩,bits,gn⟩:=g
 simp only[Gv.cells]at q0
 simp only[Gv.cells,QaI,QBD,simprocAttr]
 refine(q0 _).thenW ?_
 rintro _ _ hn0 hw0 ⟨rfl,k0,rfl⟩
 simp only[Qa.next_push,Qa.next_up]at hn0
 simp only[QBD,simprocAttr,QgE]
 exact .ext hw (((Ext.refl H).push _).up (by simp only[Qa.next_push,Qa.next_up];omega)) ⟨by simp,_,rfl⟩
theorem QAJ (g:Gv) (H:Qa):Qe prog Kf [.agg g.cells.toArray] H fun u H'=>u=.bool (XA g 32)∧∃m,H'=H.up m:=by
 refine Qh7 fun hw=>?_
 have q0:=YF g 32
 obtain⟨v0,e0⟩:∃v,XA g 32=v:=⟨_,rfl⟩
 rw[e0]at q0 ⊢
 clear e0
 obtain⟨⟨k,⟨rc,rn⟩,⟨⟨bc,bn⟩,⟨ic,nn⟩,sc,d,sz⟩,n⟩,bits,gn⟩:=g
 simp only[Gv.cells]at q0
 simp only[Gv.cells,QaJ,QBD,simprocAttr]
 refine(q0 _).thenW ?_
 rintro _ _ hn0 hw0 ⟨rfl,k0,rfl⟩
 simp only[Qa.next_push,Qa.next_up]at hn0
 simp only[QBD,simprocAttr,QgF]
 exact .ext hw (((Ext.refl H).push _).up (by simp only[Qa.next_push,Qa.next_up];omega)) ⟨by simp,_,rfl⟩
theorem QAK (g:Gv) (H:Qa):Qe prog Kg [.agg g.cells.toArray] H fun u H'=>u=.bool ((g.bits==8))∧∃m,H'=H.up m:=by
 refine Qh8 fun hw=>?_
 obtain⟨⟨k,⟨rc,rn⟩,⟨⟨bc,bn⟩,⟨ic,nn⟩,sc,d,sz⟩,n⟩,bits,gn⟩:=g
 simp only[Gv.cells,QaK,QBD,simprocAttr]
 simp only[QgG]
 exact .ext hw ((Ext.refl H).push _) ⟨rfl,_,rfl⟩
theorem QAL (g:Gv) (H:Qa):Qe prog Kh [.agg g.cells.toArray] H fun u H'=>u=.bool (decide (8<g.bits)&&decide (-128≤g.n)&&decide (g.n≤127))∧∃m,H'=H.up m:=by
 refine Qh9 fun hw=>?_
 obtain⟨⟨k,⟨rc,rn⟩,⟨⟨bc,bn⟩,⟨ic,nn⟩,sc,d,sz⟩,n⟩,bits,gn⟩:=g
 simp only[Gv.cells,QaL,QBD,simprocAttr]
 cases h0:decide (8<bits)<;>cases h1:decide (-128≤gn)<;>simp only[QBD,simprocAttr,h0,h1,QgH]
 all_goals exact .ext hw ((Ext.refl H).push _) ⟨by simp,_,rfl⟩
theorem QAM (g:Gv) (H:Qa):Qe prog Ki [.agg g.cells.toArray] H fun u H'=>u=.bool ((g.bits==16))∧∃m,H'=H.up m:=by
 refine Qia fun hw=>?_
 obtain⟨⟨k,⟨rc,rn⟩,⟨⟨bc,bn⟩,⟨ic,nn⟩,sc,d,sz⟩,n⟩,bits,gn⟩:=g
 simp only[Gv.cells,QaM,QBD,simprocAttr]
 simp only[QgI]
 exact .ext hw ((Ext.refl H).push _) ⟨rfl,_,rfl⟩
theorem QAN (g:Gv) (H:Qa):Qe prog Kj [.agg g.cells.toArray] H fun u H'=>u=.bool ((g.bits==32))∧∃m,H'=H.up m:=by
 refine Qib fun hw=>?_
 obtain⟨⟨k,⟨rc,rn⟩,⟨⟨bc,bn⟩,⟨ic,nn⟩,sc,d,sz⟩,n⟩,bits,gn⟩:=g
 simp only[Gv.cells,QaN,QBD,simprocAttr]
 simp only[QgJ]
 exact .ext hw ((Ext.refl H).push _) ⟨rfl,_,rfl⟩
theorem QAO (g:Gv) (H:Qa):Qe prog Kk [.agg g.cells.toArray] H fun u H'=>u=.bool ((g.bits==64)&&decide (-2147483648≤g.n)&&decide (g.n≤2147483647))∧∃m,H'=H.up m:=by
 refine Qic fun hw=>?_
 obtain⟨⟨k,⟨rc,rn⟩,⟨⟨bc,bn⟩,⟨ic,nn⟩,sc,d,sz⟩,n⟩,bits,gn⟩:=g
 simp only[Gv.cells,QaO,QBD,simprocAttr]
 cases h0:bits==64<;>cases h1:decide (-2147483648≤gn)<;>simp only[QBD,simprocAttr,h0,h1,QgK]
 all_goals exact .ext hw ((Ext.refl H).push _) ⟨by simp,_,rfl⟩
theorem QAP (g:Gv) (H:Qa):Qe prog Kl [.agg g.cells.toArray] H fun u H'=>u=.bool ((g.bits==64))∧∃m,H'=H.up m:=by
 refine Qid fun hw=>?_
 obtain⟨⟨k,⟨rc,rn⟩,⟨⟨bc,bn⟩,⟨ic,nn⟩,sc,d,sz⟩,n⟩,bits,gn⟩:=g
 simp only[Gv.cells,QaP,QBD,simprocAttr]
 simp only[QgL]
 exact .ext hw ((Ext.refl H).push _) ⟨rfl,_,rfl⟩
theorem QAQ (g:Gv) (H:Qa):Qe prog Km [.agg g.cells.toArray] H fun u H'=>u=.bool ((g.a.k==4)&&decide (-128≤g.a.n)&&decide (g.a.n≤127))∧∃m,H'=H.up m:=by
 refine Qie fun hw=>?_
 obtain⟨⟨k,⟨rc,rn⟩,⟨⟨bc,bn⟩,⟨ic,nn⟩,sc,d,sz⟩,n⟩,bits,gn⟩:=g
 simp only[Gv.cells,QaQ,QBD,simprocAttr]
 cases h0:k==4<;>cases h1:decide (-128≤n)<;>simp only[QBD,simprocAttr,h0,h1,QgM]
 all_goals exact .ext hw ((Ext.refl H).push _) ⟨by simp,_,rfl⟩
theorem QAR (g:Gv) (H:Qa):Qe prog Kn [.agg g.cells.toArray] H fun u H'=>u=.bool ((g.a.k==4))∧∃m,H'=H.up m:=by
 refine Qif fun hw=>?_
 obtain⟨⟨k,⟨rc,rn⟩,⟨⟨bc,bn⟩,⟨ic,nn⟩,sc,d,sz⟩,n⟩,bits,gn⟩:=g
 simp only[Gv.cells,QaR,QBD,simprocAttr]
 simp only[QgN]
 exact .ext hw ((Ext.refl H).push _) ⟨rfl,_,rfl⟩
theorem QAS (g:Gv) (H:Qa):Qe prog Ko [.agg g.cells.toArray] H fun u H'=>u=.bool (decide (0<g.bits)&&(g.n==1))∧∃m,H'=H.up m:=by
 refine Qig fun hw=>?_
 obtain⟨⟨k,⟨rc,rn⟩,⟨⟨bc,bn⟩,⟨ic,nn⟩,sc,d,sz⟩,n⟩,bits,gn⟩:=g
 simp only[Gv.cells,QaS,QBD,simprocAttr]
 cases h0:decide (0<bits)<;>simp only[QBD,simprocAttr,h0,QgO]
 all_goals exact .ext hw ((Ext.refl H).push _) ⟨by simp,_,rfl⟩
theorem Qmn (c n:Int) (H:Qa):Qe prog Ge [.int .i64 c,.int .i64 n] H fun u H'=>∃p q,u=.agg #[.func (.func WX) #[] #[.pointer (some ⟨p,0,none⟩),.pointer (some ⟨q,0,none⟩)]]∧Ext H H'∧H'.get p=some (.cells [.int .i64 c] 3 false)∧H'.get q=some (.cells [.int .i64 n] 3 false)∧p<H'.next∧q<H'.next:=by
 refine Qje fun hw=>?_
 simp only[Qb0,QBD,simprocAttr,Ze,Yh,QhO]
 have hx:∀b,Ext H ((((H.push (.cells [.int .i64 c] 3 false)).push (.cells [.int .i64 n] 3 false)).push (.cells [.nilFunc] X9 false)).set (H.next+1+1) b):=fun b=>((((Ext.refl H).push _).push _).push _).set (by omega) _
 refine .mk (hx _).next ⟨H.next,H.next+1,rfl,hx _,?_,?_,by simp only[Qa.next_set,Qa.next_push];omega,by simp only[Qa.next_set,Qa.next_push];omega⟩
 ·rw[Qa.get_set,if_neg (by omega),Qa.get_push,if_neg (by simp only[Qa.next_push];omega),Qa.get_push,if_neg (by simp only[Qa.next_push];omega),Qa.get_push,if_pos rfl]
 ·rw[Qa.get_set,if_neg (by omega),Qa.get_push,if_neg (by simp only[Qa.next_push];omega),Qa.get_push,if_pos (by simp only[Qa.next_push])]
theorem Qx1 (g:Gv) (c n:Int) (p q:Nat) (H:Qa) (hp:H.get p=some (.cells [.int .i64 c] 3 false)) (hq:H.get q=some (.cells [.int .i64 n] 3 false)):Qe prog WX [.agg g.cells.toArray,.pointer (some ⟨p,0,none⟩),.pointer (some ⟨q,0,none⟩)] H fun u H'=>u=.bool (Wu g c&&(g.a.r.n==n))∧Ext H H':=by
 refine Qgz fun hw=>?_
 have q1:=XB g c
 obtain⟨v,ev⟩:∃v,Wu g c=v:=⟨_,rfl⟩
 rw[ev]at q1 ⊢
 clear ev
 have lp:=hw.lt hp
 have lq:=hw.lt hq
 have np:¬p=H.next:=by omega
 have nq:¬q=H.next:=by omega
 obtain⟨⟨k,⟨rc,rn⟩,⟨⟨bc,bn⟩,⟨ic,nn⟩,sc,d,sz⟩,n'⟩,bits,gn⟩:=g
 simp only[Gv.cells]at q1
 simp only[Gv.cells,VI,QBD,simprocAttr,np,nq,if_false,hp,hq]
 refine(q1 _).thenW ?_
 rintro _ _ hn1 hw1 ⟨rfl,k1,rfl⟩
 simp only[Qa.next_push,Qa.next_up]at hn1
 have hx:=((Ext.refl H).push (.cells [.int .i64 k,.int .i64 rc,.int .i64 rn,.int .i64 bc,.int .i64 bn,.int .i64 ic,.int .i64 nn,.int .i64 sc,.int .i64 d,.int .i64 sz,.int .i64 n',.int .i64 bits,.int .i64 gn] Qh false)).up (m:=k1) (by simp only[Qa.next_push];omega)
 cases v with
 | false=>
  simp only[QBD,simprocAttr,GM]
  exact .mk hx.next ⟨by simp,hx⟩
 | true=>
  simp only[QBD,simprocAttr,np,nq,if_false,hp,hq,GM]
  exact .mk hx.next ⟨by simp,hx⟩
def QiC (s:Nat) (g:Gv):Bool:=
 match s with
 | 0=>false
 | 1=>Wu g 1||Wu g 2 | 2=>Wu g 3 | 3=>Wu g 4 | 4=>Wu g 5 | 5=>Wu g 6 | 6=>Wu g 7
 | 7=>Wu g 1||Wu g 2||XA g 1 | 8=>Wu g 3||XA g 2 | 9=>Wu g 4||XA g 4 | 10=>Wu g 5||XA g 8
 | 11=>Wu g 6||XA g 4 | 12=>Wu g 6||XA g 8 | 13=>Wu g 6||XA g 16 | 14=>Wu g 7||XA g 32
 | 15=>XA g 0 | 16=>XA g 4 | 17=>XA g 8 | 18=>XA g 16 | 19=>XA g 32
 | 20=>(g.bits==8)
 | 21=>decide (8<g.bits)&&decide (-128≤g.n)&&decide (g.n≤127)
 | 22=>(g.bits==16) | 23=>(g.bits==32)
 | 24=>(g.bits==64)&&decide (-2147483648≤g.n)&&decide (g.n≤2147483647)
 | 25=>(g.bits==64)
 | 26=>(g.a.k==4)&&decide (-128≤g.a.n)&&decide (g.a.n≤127)
 | 27=>(g.a.k==4)
 | 28=>Wu g 1&&(g.a.r.n==0) | 29=>Wu g 3&&(g.a.r.n==0) | 30=>Wu g 4&&(g.a.r.n==0) | 31=>Wu g 5&&(g.a.r.n==0) | 32=>Wu g 1&&(g.a.r.n==1)
 | 33=>decide (0<g.bits)&&(g.n==1)
 | 34=>XA g 2
 | _=>false
def Qo8 (H:Qa) (v:Value) (s:Nat):Prop:=∃ (f:FuncId) (ys:List Value),v=.func (.func f) #[] ys.toArray∧∀ (g:Gv) (H2:Qa),Ext H H2→Qe prog f ([.agg g.cells.toArray]++ys) H2 fun u H3=>u=.bool (QiC s g)∧Ext H2 H3
theorem Qs {f:FuncId} {s:Nat} (H:Qa) (q:∀ (g:Gv) (H:Qa),Qe prog f [.agg g.cells.toArray] H fun u H'=>u=.bool (QiC s g)∧∃m,H'=H.up m):Qo8 H (.func (.func f) #[] #[]) s:=by
 refine⟨f,[],rfl,fun g H2 _=>?_⟩
 intro hw
 obtain⟨v,H3,h1,h2,h3,h4,m,rfl⟩:=q g H2 hw
 exact⟨v,_,h1,h2,h3,h4,(Ext.refl H2).up h2⟩
theorem Qcn {H H':Qa} {p q:Nat} {c n:Int} {s:Nat} (hx:Ext H H') (hp:H.get p=some (.cells [.int .i64 c] 3 false)) (hq:H.get q=some (.cells [.int .i64 n] 3 false)) (lp:p<H.next) (lq:q<H.next) (e:∀g,QiC s g=(Wu g c&&(g.a.r.n==n))):Qo8 H' (.func (.func WX) #[] #[.pointer (some ⟨p,0,none⟩),.pointer (some ⟨q,0,none⟩)]) s:=by
 refine⟨WX,[.pointer (some ⟨p,0,none⟩),.pointer (some ⟨q,0,none⟩)],rfl,fun g H2 h2=>?_⟩
 rw[e g]
 exact Qx1 g c n p q H2 (by rw[(hx.trans h2).get _ lp];exact hp) (by rw[(hx.trans h2).get _ lq];exact hq)
theorem Qx2 (H:Qa):Qe prog Qbc [] H fun u H'=>∃ (b:Nat) (cs:List Value),u=.slice (some ⟨b,0,none⟩) 35 35∧Ext H H'∧H.next≤b∧H'.get b=some (.cells cs X9 false)∧cs.length=35∧∀s,s<35→∃v,cs[s]? = some v∧Qo8 H' v s:=by
 refine QlW fun hw=>?_
 simp only[Qep,QBD,simprocAttr,Ze,Yh,KX,Nat.reduceMul]
 refine(Qmn 1 0 H).thenW ?_
 rintro _ H1 _ hw1 ⟨p0,r0,rfl,hx0,gp0,gr0,lp0,lr0⟩
 simp only[QBD,simprocAttr,Ze,Yh,KX,Nat.reduceMul]
 refine(Qmn 3 0 H1).thenW ?_
 rintro _ H2 _ hw2 ⟨p1,r1,rfl,hx1,gp1,gr1,lp1,lr1⟩
 simp only[QBD,simprocAttr,Ze,Yh,KX,Nat.reduceMul]
 refine(Qmn 4 0 H2).thenW ?_
 rintro _ H3 _ hw3 ⟨p2,r2,rfl,hx2,gp2,gr2,lp2,lr2⟩
 simp only[QBD,simprocAttr,Ze,Yh,KX,Nat.reduceMul]
 refine(Qmn 5 0 H3).thenW ?_
 rintro _ H4 _ hw4 ⟨p3,r3,rfl,hx3,gp3,gr3,lp3,lr3⟩
 simp only[QBD,simprocAttr,Ze,Yh,KX,Nat.reduceMul]
 refine(Qmn 1 1 H4).thenW ?_
 rintro _ H5 _ hw5 ⟨p4,r4,rfl,hx4,gp4,gr4,lp4,lr4⟩
 simp only[QBD,simprocAttr,Ze,Yh,KX,Nat.reduceMul]
 have y1:=hx0
 have y5:=(((hx0.trans hx1).trans hx2).trans hx3).trans hx4
 simp only[Qku,QBE,simprocAttr]
 have hx6:=y5.push
 refine .mk (hx6 _).next ⟨H5.next,_,rfl,hx6 _,y5.next,by rw[Qa.get_push,if_pos rfl],rfl,fun s hs=>?_⟩
 generalize hK:H5.push _=K
 have z5:Ext H5 K:=by rw[← hK];exact(Ext.refl H5).push _
 clear hK
 have z4:=hx4.trans z5
 have z3:=hx3.trans z4
 have z2:=hx2.trans z3
 have z1:=hx1.trans z2
 rcases s with _ | _ | _ | _ | _ | _ | _ | _ | _ | _ | _ | _ | _ | _ | _ | _ | _ | _ | _ | _ | _ | _ | _ | _ | _ | _ | _ | _ | _ | _ | _ | _ | _ | _ | _ | s
 ·exact⟨_,rfl,Qs K QBm⟩
 ·exact⟨_,rfl,Qs K QBn⟩
 ·exact⟨_,rfl,Qs K QBo⟩
 ·exact⟨_,rfl,Qs K QBp⟩
 ·exact⟨_,rfl,Qs K QBq⟩
 ·exact⟨_,rfl,Qs K QBr⟩
 ·exact⟨_,rfl,Qs K QBs⟩
 ·exact⟨_,rfl,Qs K QBt⟩
 ·exact⟨_,rfl,Qs K QAx⟩
 ·exact⟨_,rfl,Qs K QAy⟩
 ·exact⟨_,rfl,Qs K QAz⟩
 ·exact⟨_,rfl,Qs K QAA⟩
 ·exact⟨_,rfl,Qs K QAB⟩
 ·exact⟨_,rfl,Qs K QAC⟩
 ·exact⟨_,rfl,Qs K QAD⟩
 ·exact⟨_,rfl,Qs K QAE⟩
 ·exact⟨_,rfl,Qs K QAG⟩
 ·exact⟨_,rfl,Qs K QAH⟩
 ·exact⟨_,rfl,Qs K QAI⟩
 ·exact⟨_,rfl,Qs K QAJ⟩
 ·exact⟨_,rfl,Qs K QAK⟩
 ·exact⟨_,rfl,Qs K QAL⟩
 ·exact⟨_,rfl,Qs K QAM⟩
 ·exact⟨_,rfl,Qs K QAN⟩
 ·exact⟨_,rfl,Qs K QAO⟩
 ·exact⟨_,rfl,Qs K QAP⟩
 ·exact⟨_,rfl,Qs K QAQ⟩
 ·exact⟨_,rfl,Qs K QAR⟩
 ·exact⟨_,rfl,Qcn z1 gp0 gr0 lp0 lr0 (fun _=>rfl)⟩
 ·exact⟨_,rfl,Qcn z2 gp1 gr1 lp1 lr1 (fun _=>rfl)⟩
 ·exact⟨_,rfl,Qcn z3 gp2 gr2 lp2 lr2 (fun _=>rfl)⟩
 ·exact⟨_,rfl,Qcn z4 gp3 gr3 lp3 lr3 (fun _=>rfl)⟩
 ·exact⟨_,rfl,Qcn z5 gp4 gr4 lp4 lr4 (fun _=>rfl)⟩
 ·exact⟨_,rfl,Qs K QAS⟩
 ·exact⟨_,rfl,Qs K QAF⟩
 ·omega
def Qsz (ib:Int×Bool) (a:Ar):Gv:=if a.k=3 then⟨a,ib.1,(JL a.n ib.1 ib.2).1⟩ else⟨a,0,0⟩
def Qf6 (ib:Int×Bool) (a:Ar) (s:Int):Bool:=(!(a.k==3)||((JL a.n ib.1 ib.2).2==0))&&QiC s.toNat (Qsz ib a)
def Qmo (f:Fm) (op:Int) (l:List Ar):Bool:=(f.op==op)&&(f.shapes.length==l.length)&&(Qjt f==0)&&(QX op l==0)&&(List.range l.length).all fun i=>Qf6 (W0 op l) (l.getD i WE) (f.shapes.getD i 0)
section
variable {x:Lf} {op:Int} {va:Value} {l:List Ar} {H:Qa}
abbrev KF (H:Qa) (r:Bool):Env→Qa→Prop:=Rt prog QoM H fun v H'=>v=.bool r∧Ext H H'
structure FtF (H H':Qa) (x:Lf) (op:Int) (va:Value) (A:Env):Prop where
 xt:Ext H H'
 w:H'.Wf
 g2:H'.get H.next=some (.cells x.cells Qc false)
 g3:H'.get (H.next+1)=some (.cells [.int .i64 op,va] Qb false)
 lt:H.next+2≤H'.next
 r2:A 2=.pointer (some ⟨H.next,0,none⟩)
 r3:A 3=.pointer (some ⟨H.next+1,0,none⟩)
theorem FtF.go {H' H'':Qa} {A B:Env} (h:FtF H H' x op va A) (hx:Ext H' H'') (hw:H''.Wf) (e2:B 2=A 2) (e3:B 3=A 3):FtF H H'' x op va B:=
 ⟨h.xt.trans hx,hw,by rw[hx.get _ (by have:=h.lt;omega)];exact h.g2,by rw[hx.get _ (by have:=h.lt;omega)];exact h.g3,by have:=h.lt;have:=hx.next;omega,e2.trans h.r2,e3.trans h.r3⟩
theorem QAT {W:Bool} {i tb p:Nat} {cs:List Value} {v:Value} {g:Gv} {H0:Qa} {A:Env} {H1:Qa} {E:Nat→Env→Qa→Prop} {K:Env→Qa→Prop} (hw:H.Wf) (hx:x.At H) (hF:FtF H H1 x op va A) (hi:i<x.f.shapes.length) (hs:1≤x.f.shapes.getD i 0∧x.f.shapes.getD i 0≤34) (r7:A 7=.slice (some ⟨tb,0,none⟩) 35 35) (r8:A 8=.int .i64 i) (hgt:H1.get tb=some (.cells cs X9 false)) (hcv:cs[(x.f.shapes.getD i 0).toNat]? = some v) (hT:Qo8 H0 v (x.f.shapes.getD i 0).toNat) (h01:Ext H0 H1) (r10:A 10=.pointer (some ⟨p,0,none⟩)) (hg:H1.get p=some (.cells g.cells Qh false)) (h0:QiC (x.f.shapes.getD i 0).toNat g=false→W=false)
  (h1:QiC (x.f.shapes.getD i 0).toNat g=true→∀ (B:Env) (H2:Qa),Ext H1 H2→H2.Wf→B 2=A 2→B 3=A 3→B 5=A 5→B 6=A 6→B 7=A 7→B 42=A 42→B 43=A 43→B 44=A 44→K B H2):
  Qp prog GA ⟨KF H W,E⟩ K A H1:=by
 obtain⟨hx1,hw1,g2,g3,hn1,r2,r3⟩:=id hF
 obtain⟨a1,c1,e1,q1⟩:=id hx.2.2.1
 have x1:x.cells[1]? = some (.slice a1 x.f.shapes.length c1):=by rw[← e1];rfl
 obtain⟨b,e,ro,rfl,hgb0⟩:=q1 (by omega)
 have hgb:H1.get b=some (.cells (ints x.f.shapes) e ro):=by rw[hx1.get b (hw.lt hgb0)];exact hgb0
 have d1:(0:Int)≤i∧(i:Int)<x.f.shapes.length:=by omega
 have d3:(i:Int).toNat=i:=by omega
 have hsi:(ints x.f.shapes)[i]? = some (.int .i64 (x.f.shapes.getD i 0)):=by
  simp[ints,List.getElem?_map,List.getD_eq_getElem?_getD,List.getElem?_eq_getElem hi]
 generalize x.f.shapes.getD i 0=s at *
 have d4:(0:Int)≤s∧s<((35:Nat):Int):=by omega
 have g13:g.cells.take 13=g.cells:=rfl
 have l13:13≤g.cells.length:=Nat.le_refl _
 obtain⟨f,ys,rfl,hq⟩:=hT
 simp only[GA,sxA,sxB,Nat.reduceBEq,Nat.reduceEqDiff,reduceCtorEq,mxA,mxB,Nat.reduceAdd,reduceIte,Nat.reduceLeDiff,splice,r2,r7,r8,r10,g2,x1,hgb,d1,d3,hsi,hgt,d4,hcv,hg,g13,List.drop_zero,QtF]
 refine⟨l13,?_⟩
 refine(show Qe prog f (.agg g.cells.toArray::ys) H1 _ from hq g H1 h01).thenW ?_
 rintro _ H2 hn2 hw2 ⟨rfl,hx2⟩
 cases c:QiC s.toNat g with
 | false=>
  simp only[sxA,sxB,Nat.reduceBEq,Nat.reduceEqDiff,reduceCtorEq,mxA,mxB,Nat.reduceAdd,reduceIte,Nat.reduceLeDiff,splice,Xg]
  exact .mk (hx1.trans hx2).next ⟨by rw[h0 c],hx1.trans hx2⟩
 | true=>
  simp only[sxA,sxB,Nat.reduceBEq,Nat.reduceEqDiff,reduceCtorEq,mxA,mxB,Nat.reduceAdd,reduceIte,Nat.reduceLeDiff,splice]
  refine h1 c _ H2 hx2 hw2 ?_ ?_ ?_ ?_ ?_ ?_ ?_ ?_
  all_goals simp only[uxA,uxB,Nat.reduceBEq]
theorem QBu (hw:H.Wf) (hx:x.At H) (ha:QS H va l) (hl:l.length≤1000) (hI:∀a∈l,I64 a.n) (hs:Qjt x.f=0) (hn:x.f.shapes.length=l.length) {W:Bool} (eW:W=(List.range l.length).all fun i=>Qf6 (W0 op l) (l.getD i WE) (x.f.shapes.getD i 0)) {A:Env} {H1:Qa} (hF:FtF H H1 x op va A):
  Qp prog GB ⟨KF H W,YH⟩ (KF H W) A H1:=by
 obtain⟨hx1,hw1,g2,g3,hn1,r2,r3⟩:=id hF
 obtain⟨a0,cap,rfl⟩:=QY ha
 simp only[GB,sxA,sxB,Nat.reduceBEq,Nat.reduceEqDiff,reduceCtorEq,mxA,mxB,Nat.reduceAdd,reduceIte,Nat.reduceLeDiff,splice,r2,r3,g2,g3,List.drop_zero,List.take]
 refine(Qas op _ l H1 (ha.ext hw hx1) hl).thenW ?_
 rintro _ _ hn2 hw2 ⟨rfl,k,rfl⟩
 have hx2:Ext H1 (H1.up k):=(Ext.refl H1).up hn2
 obtain⟨ib,eib⟩:∃ib,ib=W0 op l:=⟨_,rfl⟩
 rw[← eib]at eW ⊢
 simp only[sxA,sxB,Nat.reduceBEq,Nat.reduceEqDiff,reduceCtorEq,mxA,mxB,Nat.reduceAdd,reduceIte,Nat.reduceLeDiff,splice]
 refine(Qx2 (H1.up k)).thenW ?_
 rintro _ H3 hn3 hw3 ⟨tb,cs,rfl,hx3,htb,hgt,hcl,hT⟩
 obtain⟨hx03,_,g32,g33,hn33,_,_⟩:=hF.go (hx2.trans hx3) hw3 (B:=A) rfl rfl
 have ltb:=hw3.lt hgt
 simp only[sxA,sxB,Nat.reduceBEq,Nat.reduceEqDiff,reduceCtorEq,mxA,mxB,Nat.reduceAdd,reduceIte,Nat.reduceLeDiff,splice,r2,r3,g32,g33]
 refine Qy (fun m A' H'=>∃i:Nat,i≤l.length∧m=l.length - i∧FtF H H' x op (.slice a0 l.length cap) A'∧Ext H3 H'∧A' 5=.int .i64 ib.1∧A' 6=.bool ib.2∧A' 7=.slice (some ⟨tb,0,none⟩) 35 35∧A' 42=.slice a0 l.length cap∧A' 43=.int .i64 l.length∧A' 44=.int .i64 i∧∀j,j<i→Qf6 ib (l.getD j WE) (x.f.shapes.getD j 0)=true) l.length ?_ ?_
 ·refine⟨0,Nat.zero_le _,by omega,hF.go (hx2.trans hx3) hw3 ?_ ?_,Ext.refl _,?_,?_,?_,?_,?_,?_,fun j h=>by omega⟩
  all_goals simp only[uxA,uxB,Nat.reduceBEq]
  all_goals rfl
 ·rintro m A' H' ⟨i,hi,rfl,hF',hx',r5,r6,r7,r42,r43,r44,hall⟩
  obtain⟨hxH,hw',g2',g3',hn',r2',r3'⟩:=id hF'
  simp only[Qdr,sxA,sxB,Nat.reduceBEq,Nat.reduceEqDiff,reduceCtorEq,mxA,mxB,Nat.reduceAdd,reduceIte,Nat.reduceLeDiff,splice,r43,r44]
  refine Qg (fun h2=>?_) (fun h2=>?_)
  ·have h2:i<l.length:=by have:=of_decide_eq_true h2;omega
   obtain⟨a,hai⟩:∃a,l[i]? = some a:=⟨_,List.getElem?_eq_getElem h2⟩
   obtain⟨a0',cap',e0,h1⟩:=ha
   cases e0
   obtain⟨b,e,ro,rfl,hgb0⟩:=h1 (by omega)
   have hgb:H'.get b=some (.cells (Qi l) e ro):=by rw[hxH.get b (hw.lt hgb0)];exact hgb0
   have htk:=XS l i a hai
   have hle:i * 11+11≤(Qi l).length:=by rw[QV];omega
   have d1:(0:Int)≤i∧(i:Int)<l.length:=by omega
   have d3:(i:Int).toNat=i:=by omega
   have hga:l.getD i WE=a:=by rw[List.getD_eq_getElem?_getD,hai];rfl
   have hIa:I64 a.n:=hI a (List.mem_of_getElem? hai)
   have qi:=KQ a.n ib.1 ib.2 hIa
   have hfa:Qf6 ib (l.getD i WE) (x.f.shapes.getD i 0)=((!(a.k==3)||((JL a.n ib.1 ib.2).2==0))&&QiC (x.f.shapes.getD i 0).toNat (Qsz ib a)):=by rw[hga];rfl
   have hsh:=QuS hs i (by omega)
   obtain⟨gv,egv⟩:∃gv,gv=Qsz ib a:=⟨_,rfl⟩
   rw[← egv]at hfa
   obtain⟨ak,⟨rc,rn⟩,⟨⟨bc,bn⟩,⟨ic,nn⟩,sc,d,sz⟩,n⟩:=a
   simp only[Ar.cells]at htk
   simp only at hfa qi
   simp only[Qdq,sxA,sxB,Nat.reduceBEq,Nat.reduceEqDiff,reduceCtorEq,mxA,mxB,Nat.reduceAdd,reduceIte,Nat.reduceLeDiff,splice,r42,r44,d1,d3,hgb,htk]
   refine⟨hle,?_⟩
   generalize hH4:(Qa.set (Qa.push (Qa.set (Qa.push H' _) _ _) _) _ _)=H4
   have hx4:Ext H' H4:=by
    rw[← hH4]
    refine Ext.set (Ext.push (Ext.set (Ext.push (Ext.refl H') _) ?_ _) _) ?_ _
    all_goals omega
   have hw4:H4.Wf:=by
    rw[← hH4]
    refine Qa.Wf.set (b0:=.cells [.int .i64 0,.int .i64 0,.int .i64 0,.int .i64 0,.int .i64 0,.int .i64 0,.int .i64 0,.int .i64 0,.int .i64 0,.int .i64 0,.int .i64 0,.int .i64 0,.int .i64 0] Qh false) (Qa.Wf.push (hw'.push _ |>.set (b0:=.cells [.int .i64 0,.int .i64 0,.int .i64 0,.int .i64 0,.int .i64 0,.int .i64 0,.int .i64 0,.int .i64 0,.int .i64 0,.int .i64 0,.int .i64 0] Qd false) (by rw[Qa.get_push,if_pos rfl]) _) _) (by rw[Qa.get_push];exact if_pos rfl) _
   have g49:H4.get H'.next=some (.cells [.int .i64 ak,.int .i64 rc,.int .i64 rn,.int .i64 bc,.int .i64 bn,.int .i64 ic,.int .i64 nn,.int .i64 sc,.int .i64 d,.int .i64 sz,.int .i64 n] Qd false):=by
    rw[← hH4,Qa.get_set,if_neg (by omega),Qa.get_push,if_neg (by simp only[Qa.next_set,Qa.next_push];omega),Qa.get_set,if_pos rfl]
   have g4A:H4.get (H'.next+1)=some (.cells [.int .i64 ak,.int .i64 rc,.int .i64 rn,.int .i64 bc,.int .i64 bn,.int .i64 ic,.int .i64 nn,.int .i64 sc,.int .i64 d,.int .i64 sz,.int .i64 n,.int .i64 0,.int .i64 0] Qh false):=by
    rw[← hH4,Qa.get_set,if_pos rfl]
   have hn4:H'.next+2≤H4.next:=by rw[← hH4];simp only[Qa.next_set,Qa.next_push];omega
   clear hH4
   have hend:∀ (B:Env) (H5:Qa),Qf6 ib (l.getD i WE) (x.f.shapes.getD i 0)=true→Ext H' H5→H5.Wf→B 2=A' 2→B 3=A' 3→B 5=A' 5→B 6=A' 6→B 7=A' 7→B 42=A' 42→B 43=A' 43→B 44=.int .i64 ((i+1:Nat):Int)→Qqf (fun m A' H'=>∃i:Nat,i≤l.length∧m=l.length - i∧FtF H H' x op (.slice (some ⟨b,0,none⟩) l.length cap) A'∧Ext H3 H'∧A' 5=.int .i64 ib.1∧A' 6=.bool ib.2∧A' 7=.slice (some ⟨tb,0,none⟩) 35 35∧A' 42=.slice (some ⟨b,0,none⟩) l.length cap∧A' 43=.int .i64 l.length∧A' 44=.int .i64 i∧∀j,j<i→Qf6 ib (l.getD j WE) (x.f.shapes.getD j 0)=true) (l.length - i) B H5:=by
    intro B H5 hft e1 e2 p2 p3 p5 p6 p7 p42 p43 p44
    refine⟨l.length - (i+1),by omega,i+1,by omega,rfl,hF'.go e1 e2 p2 p3,hx'.trans e1,p5.trans r5,p6.trans r6,p7.trans r7,p42.trans r42,p43.trans r43,p44,fun j hj=>?_⟩
    by_cases h:j=i
    ·rw[h];exact hft
    ·exact hall j (by omega)
   have ei:IntKind.i64.wrap ((i:Int)+1)=((i+1:Nat):Int):=by rw[w64 (by unfold I64;omega)];omega
   have hbad:Qf6 ib (l.getD i WE) (x.f.shapes.getD i 0)=false→W=false:=fun h=>by rw[eW];exact ZN h2 h
   obtain⟨tv,htv,hTv⟩:=hT (x.f.shapes.getD i 0).toNat (by omega)
   have hF4:∀B:Env,B 2=A' 2→B 3=A' 3→FtF H H4 x op (.slice (some ⟨b,0,none⟩) l.length cap) B:=fun B e2 e3=>hF'.go hx4 hw4 e2 e3
   have hgt4:H4.get tb=some (.cells cs X9 false):=((hx'.trans hx4).get tb ltb).trans hgt
   cases c:ak==3 with
   | false=>
    have eg:gv=⟨⟨ak,⟨rc,rn⟩,⟨⟨bc,bn⟩,⟨ic,nn⟩,sc,d,sz⟩,n⟩,0,0⟩:=by rw[egv,Qsz,if_neg (by simpa using c)]
    rw[c,Bool.not_false,Bool.true_or,Bool.true_and]at hfa
    simp only[sxA,sxB,Nat.reduceBEq,Nat.reduceEqDiff,reduceCtorEq,mxA,mxB,Nat.reduceAdd,reduceIte,Nat.reduceLeDiff,splice]
    refine QAT (H0:=H3) (g:=gv) (p:=H'.next+1) (i:=i) hw hx (hF4 _ ?_ ?_) (by omega) hsh (tb:=tb) (cs:=cs) (v:=tv) ?_ ?_ hgt4 htv hTv (hx'.trans hx4) ?_ (by rw[eg];exact g4A) (fun h=>hbad (hfa.trans h)) ?_
    all_goals (try (simp only[uxA,uxB,Nat.reduceBEq,r7];done))
    intro h B H5 e1 e2 p2 p3 p5 p6 p7 p42 p43 p44
    simp only[uxA,uxB,Nat.reduceBEq]at p2 p3 p5 p6 p7 p42 p43 p44
    simp only[sxA,sxB,Nat.reduceBEq,Nat.reduceEqDiff,reduceCtorEq,mxA,mxB,Nat.reduceAdd,reduceIte,Nat.reduceLeDiff,splice,p44,r44,ei]
    refine hend _ H5 (hfa.trans h) (hx4.trans e1) e2 ?_ ?_ ?_ ?_ ?_ ?_ ?_ ?_
    all_goals simp only[uxA,uxB,Nat.reduceBEq,p2,p3,p5,p6,p7,p42,p43]
   | true=>
    have eg:gv=⟨⟨ak,⟨rc,rn⟩,⟨⟨bc,bn⟩,⟨ic,nn⟩,sc,d,sz⟩,n⟩,ib.1,(JL n ib.1 ib.2).1⟩:=by rw[egv,Qsz,if_pos (by simpa using c)]
    rw[c,Bool.not_true,Bool.false_or]at hfa
    simp only[Qdp,sxA,sxB,Nat.reduceBEq,Nat.reduceEqDiff,reduceCtorEq,mxA,mxB,Nat.reduceAdd,reduceIte,Nat.reduceLeDiff,splice,g49,r5,r6]
    refine(qi H4).thenW ?_
    rintro _ H4' hn6 hw6 ⟨rfl,eH4⟩
    rw[eH4]
    obtain⟨m1,em1⟩:∃m1,m1=(JL n ib.1 ib.2).1:=⟨_,rfl⟩
    obtain⟨m2,em2⟩:∃m2,m2=(JL n ib.1 ib.2).2:=⟨_,rfl⟩
    rw[← em1]at eg ⊢
    rw[← em2]at hfa ⊢
    simp only[sxA,sxB,Nat.reduceBEq,Nat.reduceEqDiff,reduceCtorEq,mxA,mxB,Nat.reduceAdd,reduceIte,Nat.reduceLeDiff,splice]
    cases c2:m2==0 with
    | false=>
     simp only[sxA,sxB,Nat.reduceBEq,Nat.reduceEqDiff,reduceCtorEq,mxA,mxB,Nat.reduceAdd,reduceIte,Nat.reduceLeDiff,splice,c2,Xg]
     exact .mk (hxH.trans hx4).next ⟨by rw[hbad (by rw[hfa,c2];rfl)],hxH.trans hx4⟩
    | true=>
     rw[c2,Bool.true_and]at hfa
     simp only[sxA,sxB,Nat.reduceBEq,Nat.reduceEqDiff,reduceCtorEq,mxA,mxB,Nat.reduceAdd,reduceIte,Nat.reduceLeDiff,splice,c2,r5,g4A]
     generalize hH6:Qa.set (Qa.set H4 _ _) _ _=H6
     have hx6:Ext H' H6:=by
      rw[← hH6]
      refine Ext.set (Ext.set hx4 ?_ _) ?_ _
      all_goals omega
     have hw6:H6.Wf:=by
      rw[← hH6]
      exact Qa.Wf.set (b0:=.cells _ Qh false) (Qa.Wf.set hw4 g4A _) (by rw[Qa.get_set,if_pos rfl]) _
     have g6A:H6.get (H'.next+1)=some (.cells [.int .i64 ak,.int .i64 rc,.int .i64 rn,.int .i64 bc,.int .i64 bn,.int .i64 ic,.int .i64 nn,.int .i64 sc,.int .i64 d,.int .i64 sz,.int .i64 n,.int .i64 ib.1,.int .i64 m1] Qh false):=by
      rw[← hH6,Qa.get_set,if_pos rfl]
     clear hH6
     have hgt6:H6.get tb=some (.cells cs X9 false):=((hx'.trans hx6).get tb ltb).trans hgt
     refine QAT (H0:=H3) (g:=gv) (p:=H'.next+1) (i:=i) hw hx (hF'.go hx6 hw6 ?_ ?_) (by omega) hsh (tb:=tb) (cs:=cs) (v:=tv) ?_ ?_ hgt6 htv hTv (hx'.trans hx6) ?_ (by rw[eg];exact g6A) (fun h=>hbad (hfa.trans h)) ?_
     all_goals (try (simp only[uxA,uxB,Nat.reduceBEq,r7];done))
     intro h B H5 e1 e2 p2 p3 p5 p6 p7 p42 p43 p44
     simp only[uxA,uxB,Nat.reduceBEq]at p2 p3 p5 p6 p7 p42 p43 p44
     simp only[sxA,sxB,Nat.reduceBEq,Nat.reduceEqDiff,reduceCtorEq,mxA,mxB,Nat.reduceAdd,reduceIte,Nat.reduceLeDiff,splice,p44,r44,ei]
     refine hend _ H5 (hfa.trans h) (hx6.trans e1) e2 ?_ ?_ ?_ ?_ ?_ ?_ ?_ ?_
     all_goals simp only[uxA,uxB,Nat.reduceBEq,p2,p3,p5,p6,p7,p42,p43]
  ·have h2:i=l.length:=by have:=of_decide_eq_false h2;omega
   subst h2
   have eT:W=true:=by rw[eW];exact JH fun j hj=>hall j hj
   simp only[sxA,sxB,Nat.reduceBEq,Nat.reduceEqDiff,reduceCtorEq,mxA,mxB,Nat.reduceAdd,reduceIte,Nat.reduceLeDiff,splice,Xg]
   exact .mk hxH.next ⟨by rw[eT],hxH⟩
theorem QBv (hw:H.Wf) (hx:x.At H) (hf:x.Fr 0) (ha:QS H va l) (hl:l.length≤1000) (hI:∀a∈l,I64 a.n) (hn:x.f.shapes.length=l.length) {W:Bool} (eW:W=((Qjt x.f==0)&&(QX op l==0)&&(List.range l.length).all fun i=>Qf6 (W0 op l) (l.getD i WE) (x.f.shapes.getD i 0))) {A:Env} {H1:Qa} (hF:FtF H H1 x op va A):
  Qp prog GC ⟨KF H W,YH⟩ (KF H W) A H1:=by
 obtain⟨hx1,hw1,g2,g3,hn1,r2,r3⟩:=id hF
 have e10:x.cells.take 10=x.cells:=rfl
 have l10:10≤x.cells.length:=Nat.le_refl _
 simp only[GC,sxA,sxB,Nat.reduceBEq,Nat.reduceEqDiff,reduceCtorEq,mxA,mxB,Nat.reduceAdd,reduceIte,Nat.reduceLeDiff,splice,r2,r3,g2,g3,List.drop_zero,e10]
 refine⟨l10,?_⟩
 refine(Qnm x H1 (hx.ext hw hx1) hf).thenW ?_
 rintro _ _ hn2 hw2 ⟨rfl,k,rfl⟩
 have hx2:Ext H1 (H1.up k):=(Ext.refl H1).up hn2
 obtain⟨hx3,_,g22,g23,hn3,_,_⟩:=hF.go hx2 hw2 rfl rfl
 cases c:Qjt x.f==0 with
 | false=>
  simp only[sxA,sxB,Nat.reduceBEq,Nat.reduceEqDiff,reduceCtorEq,mxA,mxB,Nat.reduceAdd,reduceIte,Nat.reduceLeDiff,splice,r2,r3,g22,g23,c,Xg]
  exact .mk hx3.next ⟨by rw[eW,c];rfl,hx3⟩
 | true=>
  simp only[sxA,sxB,Nat.reduceBEq,Nat.reduceEqDiff,reduceCtorEq,mxA,mxB,Nat.reduceAdd,reduceIte,Nat.reduceLeDiff,splice,r2,r3,g22,g23,c,List.drop_zero,List.take]
  refine(Vb op va l _ (ha.ext hw hx3) hl hI).thenW ?_
  rintro _ _ hn4 hw4 ⟨rfl,k2,rfl⟩
  have hx4:Ext H1 ((H1.up k).up k2):=hx2.up hn4
  have hF4:∀B:Env,B 2=A 2→B 3=A 3→FtF H ((H1.up k).up k2) x op va B:=fun B e2 e3=>hF.go hx4 hw4 e2 e3
  cases c2:QX op l==0 with
  | false=>
   simp only[sxA,sxB,Nat.reduceBEq,Nat.reduceEqDiff,reduceCtorEq,mxA,mxB,Nat.reduceAdd,reduceIte,Nat.reduceLeDiff,splice,c2,Xg]
   exact .mk (hx1.trans hx4).next ⟨by rw[eW,c,c2];rfl,hx1.trans hx4⟩
  | true=>
   simp only[sxA,sxB,Nat.reduceBEq,Nat.reduceEqDiff,reduceCtorEq,mxA,mxB,Nat.reduceAdd,reduceIte,Nat.reduceLeDiff,splice,c2]
   refine QBu hw hx ha hl hI (beq_iff_eq.1 c) hn (by rw[eW,c,c2];rfl) (hF4 _ ?_ ?_)
   all_goals simp only[uxA,uxB,Nat.reduceBEq]
end
theorem Qo9 {x:Lf} {op:Int} {va:Value} {l:List Ar} (H:Qa) (hx:x.At H) (hf:x.Fr 0) (ha:QS H va l) (hl:l.length≤1000) (hI:∀a∈l,I64 a.n):
  Qe prog QcG [.agg x.cells.toArray,.agg #[.int .i64 op,va]] H fun v H'=>v=.bool (Qmo x.f op l)∧Ext H H':=by
 refine Qm3 fun hw=>?_
 have ex:(Value.agg x.cells.toArray).cells.toList=x.cells:=rfl
 have e10:x.cells.take 10=x.cells:=rfl
 have x0:x.cells[0]? = some (.int .i64 x.f.op):=rfl
 have l10:10≤x.cells.length:=Nat.le_refl _
 obtain⟨a1,c1,e1⟩:=QY hx.2.2.1
 have x1:x.cells[1]? = some (.slice a1 x.f.shapes.length c1):=by rw[← e1];rfl
 obtain⟨W,eW⟩:∃W,W=Qmo x.f op l:=⟨_,rfl⟩
 rw[← eW]
 obtain⟨a0,cap,rfl⟩:=QY ha
 simp only[QfP,ex,sxA,sxB,Nat.reduceBEq,Nat.reduceEqDiff,reduceCtorEq]
 generalize hH1:Qa.push H (.cells x.cells Qc false)=H1
 have g1:H1.get H.next=some (.cells x.cells Qc false):=by rw[← hH1,Qa.get_push,if_pos rfl]
 have hx1:Ext H H1:=by rw[← hH1];exact(Ext.refl H).push _
 have hn1:H1.next=H.next+1:=by rw[← hH1];rfl
 have hw1:H1.Wf:=by rw[← hH1];exact hw.push _
 clear hH1
 simp only[sxA,sxB,Nat.reduceBEq,Nat.reduceEqDiff,reduceCtorEq,mxA,mxB,Nat.reduceAdd,reduceIte,Nat.reduceLeDiff,splice,hn1]
 generalize hH2:Qa.push H1 _=H2
 have hx2:Ext H H2:=by rw[← hH2];exact(hx1.push _)
 have hw2:H2.Wf:=by rw[← hH2];exact(hw1.push _)
 have g22:H2.get H.next=some (.cells x.cells Qc false):=by rw[← hH2,Qa.get_push,if_neg (by omega)];exact g1
 have g23:H2.get (H.next+1)=some (.cells [.int .i64 op,.slice a0 l.length cap] Qb false):=by rw[← hH2,Qa.get_push,if_pos (by omega)]
 have hn2:H2.next=H.next+2:=by rw[← hH2,Qa.next_push,hn1]
 clear hH2
 simp only[sxA,sxB,Nat.reduceBEq,Nat.reduceEqDiff,reduceCtorEq,mxA,mxB,Nat.reduceAdd,reduceIte,Nat.reduceLeDiff,splice,g1,g22,g23,List.drop_zero,e10,x0,x1]
 have hF:∀A:Env,A 2=.pointer (some ⟨H.next,0,none⟩)→A 3=.pointer (some ⟨H.next+1,0,none⟩)→FtF H H2 x op (.slice a0 l.length cap) A:=fun A e2 e3=>⟨hx2,hw2,g22,g23,by omega,e2,e3⟩
 cases c1:x.f.op==op with
 | false=>
  simp only[sxA,sxB,Nat.reduceBEq,Nat.reduceEqDiff,reduceCtorEq,mxA,mxB,Nat.reduceAdd,reduceIte,Nat.reduceLeDiff,splice,g22,g23,x1,Xg]
  exact .mk hx2.next ⟨by rw[eW,Qmo,c1];rfl,hx2⟩
 | true=>
  simp only[sxA,sxB,Nat.reduceBEq,Nat.reduceEqDiff,reduceCtorEq,mxA,mxB,Nat.reduceAdd,reduceIte,Nat.reduceLeDiff,splice,g22,g23,x1]
  have el:((x.f.shapes.length:Int)==(l.length:Int))=(x.f.shapes.length==l.length):=by
   rw[Bool.eq_iff_iff,beq_iff_eq,beq_iff_eq];omega
  rw[el]
  cases c2:x.f.shapes.length==l.length with
  | false=>
   simp only[sxA,sxB,Nat.reduceBEq,Nat.reduceEqDiff,reduceCtorEq,mxA,mxB,Nat.reduceAdd,reduceIte,Nat.reduceLeDiff,splice,Xg]
   exact .mk hx2.next ⟨by rw[eW,Qmo,c1,c2];rfl,hx2⟩
  | true=>
   simp only[sxA,sxB,Nat.reduceBEq,Nat.reduceEqDiff,reduceCtorEq,mxA,mxB,Nat.reduceAdd,reduceIte,Nat.reduceLeDiff,splice]
   refine QBv hw hx hf ha hl hI (beq_iff_eq.1 c2) (by rw[eW,Qmo,c1,c2];rfl) (hF _ ?_ ?_)
   all_goals simp only[uxA,uxB,Nat.reduceBEq]
def tlN (f:Fm):Int:=if 0≤QB f.slots 7 then tlF f - 1 else tlF f
def Qx3 (f:Fm) (op:Int) (l:List Ar):Int:=if(l[(QB f.slots 5).toNat]?.getD WE).k=3 then(JL (l[(QB f.slots 5).toNat]?.getD WE).n (W0 op l).1 (W0 op l).2).1 else(l[(QB f.slots 5).toNat]?.getD WE).n
def isB (n:Int):Int:=IntKind.u8.wrap (IntKind.i64.wrap (16 * n))
def GS (f:Fm) (op:Int) (l:List Ar):List Int:=(if 0≤QB f.slots 5 then(Ky (Qx3 f op l) (tlN f)).1 else[])++(if 0≤QB f.slots 7 then[isB (l[(QB f.slots 7).toNat]?.getD WE).r.n] else[])
theorem QtI (n sz:Int):(Ky n sz).1.length≤1000:=by
 unfold Ky
 split
 ·simp
 ·split
  ·simp
  ·rename_i h _
   have h:QgX sz=true:=by simpa using h
   unfold QgX at h
   simp only[Bool.or_eq_true,beq_iff_eq]at h
   simp only[QgY,List.length_map,List.length_range]
   omega
section
variable {x:Lf} {op:Int} {va:Value} {l:List Ar} {H:Qa}
abbrev KT (H:Qa) (W:List Int):Env→Qa→Prop:=Rt prog Qm4 H fun v H'=>Gx 1 5 H H' v W.length (bys W)∧Ext H H'
theorem QAU (hw:H.Wf) (ha:QS H va l) (hl:l.length≤1000) {W w:List Int} {s:Int} (hs:s<l.length) (hwl:w.length≤1000) (eW:W=w++(if 0≤s then[isB (l[s.toNat]?.getD WE).r.n] else[])) {A:Env} {H1:Qa} {v:Value} (hx1:Ext H H1) (hw1:H1.Wf) (g3:H1.get (H.next+1)=some (.cells [.int .i64 op,va] Qb false)) (r3:A 3=.pointer (some ⟨H.next+1,0,none⟩)) (r5:A 5=v) (r7:A 7=.int .i64 s) (hv:Gx 1 5 H H1 v w.length (bys w)):
  Qp prog Zc ⟨KT H W,YH⟩ (KT H W) A H1:=by
 obtain⟨a0,cap,rfl,h1⟩:=ha
 simp only[Zc,QBD,simprocAttr,r7]
 refine Qg (fun h=>?_) (fun h=>?_)
 ·have h0:0≤s:=of_decide_eq_true h
  rw[if_pos h0]at eW
  obtain⟨i,rfl⟩:∃i:Nat,s=i:=⟨s.toNat,by omega⟩
  have hil:i<l.length:=by omega
  obtain⟨a,hai⟩:∃a,l[i]? = some a:=⟨_,List.getElem?_eq_getElem hil⟩
  obtain⟨b,e,ro,rfl,hgb0⟩:=h1 (by omega)
  have hgb:H1.get b=some (.cells (Qi l) e ro):=by rw[hx1.get b (hw.lt hgb0)];exact hgb0
  have hrg:=Qke hai
  have d1:(0:Int)≤i∧(i:Int)<l.length:=by omega
  have d3:(i:Int).toNat=i:=by omega
  have hgd:(l[(i:Int).toNat]?.getD WE).r.n=a.r.n:=by rw[d3,hai];rfl
  rw[hgd]at eW
  simp only[QbW,QBD,simprocAttr,r3,r5,r7,g3,d1,d3,hgb,hrg]
  refine Qbn (ms:=[.int .u8 (isB a.r.n)]) (m:=1) (hv.go hw1 ((Ext.refl H1).push _)) (hx1.push _) (hw1.push _) (Qqg (by rw[Qa.get_push,if_pos rfl];rfl)) rfl rfl (by omega) (by omega) ?_
  intro v2 H2 hv2 hk2
  simp only[QBD,simprocAttr,Qds]
  have e2:W.length=w.length+1:=by rw[eW,List.length_append,List.length_singleton]
  have e3:bys W=bys w++[.int .u8 (isB a.r.n)]:=by rw[eW,bys,bys,List.map_append];rfl
  exact .mk hk2.x.next ⟨by rw[e2,e3];exact hv2,hk2.x⟩
 ·rw[if_neg (by have:=of_decide_eq_false h;omega),List.append_nil]at eW
  simp only[QBD,simprocAttr,r5,Qds]
  exact .mk hx1.next ⟨by rw[eW];exact hv,hx1⟩
theorem QAV (hw:H.Wf) (hx:x.At H) (ha:QS H va l) (hl:l.length≤1000) (hI:∀a∈l,I64 a.n) (hn:x.f.slots.length=l.length) {W:List Int} (eW:W=GS x.f op l) {A:Env} {H1:Qa} (hF:FtF H H1 x op va A) (r5:A 5=.slice none 0 0) (r6:A 6=.int .i64 (tlN x.f)) (r7:A 7=.int .i64 (QB x.f.slots 7)):
  Qp prog Kx ⟨KT H W,YH⟩ (KT H W) A H1:=by
 obtain⟨hx1,hw1,g2,g3,hn1,r2,r3⟩:=id hF
 have e10:x.cells.take 10=x.cells:=rfl
 have l10:10≤x.cells.length:=Nat.le_refl _
 have hlt5:=QqF x.f.slots 5
 have hlt7:=QqF x.f.slots 7
 unfold GS at eW
 simp only[Kx,QBD,simprocAttr,r2,g2,List.drop_zero,e10]
 refine⟨l10,?_⟩
 refine(QU x 5 H1 (hx.ext hw hx1)).thenW ?_
 rintro _ _ hn2 hw2 ⟨rfl,k,rfl⟩
 have hx2:Ext H1 (H1.up k):=(Ext.refl H1).up hn2
 obtain⟨hx3,_,g22,g23,hn3,_,_⟩:=hF.go hx2 hw2 rfl rfl
 simp only[QBD,simprocAttr]
 refine Qg (fun h=>?_) (fun h=>?_)
 ·have h0:0≤QB x.f.slots 5:=of_decide_eq_true h
  rw[if_pos h0]at eW
  have eN:Qx3 x.f op l=if(l[(QB x.f.slots 5).toNat]?.getD WE).k=3 then(JL (l[(QB x.f.slots 5).toNat]?.getD WE).n (W0 op l).1 (W0 op l).2).1 else(l[(QB x.f.slots 5).toNat]?.getD WE).n:=rfl
  obtain⟨i,hi⟩:∃i:Nat,QB x.f.slots 5=i:=⟨(QB x.f.slots 5).toNat,by omega⟩
  rw[hi]at hlt5 eN ⊢
  have hil:i<l.length:=by omega
  obtain⟨a,hai⟩:∃a,l[i]? = some a:=⟨_,List.getElem?_eq_getElem hil⟩
  have d1:(0:Int)≤i∧(i:Int)<l.length:=by omega
  have d3:(i:Int).toNat=i:=by omega
  have hgd:l[(i:Int).toNat]?.getD WE=a:=by rw[d3,hai];rfl
  rw[hgd]at eN
  have hIa:I64 a.n:=hI a (List.mem_of_getElem? hai)
  have hIm:=Qqt a.n (W0 op l).1 (W0 op l).2 hIa
  have qi:=KQ a.n (W0 op l).1 (W0 op l).2 hIa
  have qb:=fun H' (hx:Ext H H')=>Qas op va l H' (ha.ext hw hx) hl
  obtain⟨a0,cap,rfl,h1⟩:=id ha
  obtain⟨b,e,ro,rfl,hgb0⟩:=h1 (by omega)
  have hgb:(H1.up k).get b=some (.cells (Qi l) e ro):=by rw[hx3.get b (hw.lt hgb0)];exact hgb0
  have hk0:(Qi l)[i * 11]? = some (.int .i64 a.k):=by
   have:=XS l i a hai
   have h:=congrArg (fun z=>z[0]?) this
   simpa[Ar.cells,List.getElem?_take,List.getElem?_drop] using h
  have hk10:(Qi l)[i * 11+10]? = some (.int .i64 a.n):=by
   have:=XS l i a hai
   have h:=congrArg (fun z=>z[10]?) this
   simpa[Ar.cells,List.getElem?_take,List.getElem?_drop] using h
  generalize H1.up k=H2 at *
  simp only[QbY,QBD,simprocAttr,r3,g23,d1,d3,hgb,hk0,hk10]
  obtain⟨N,eNN⟩:∃N,N=Qx3 x.f op l:=⟨_,rfl⟩
  rw[← eNN]at eN eW
  have hIN:I64 N:=by
   rw[eN];split
   ·exact hIm
   ·exact hIa
  have hput:∀ (B:Env) (H5:Qa),Ext H2 H5→H5.Wf→B 3=A 3→B 7=A 7→Qe prog KY [.int .i64 N,.int .i64 (tlN x.f)] H5 (QjU prog [Om 49 (t 52),Ow 53 (.ext (t 49) 0),Ow 54 (.ext (t 49) 1),Om 5 (t 53)] (Qp prog Zc ⟨KT H W,YH⟩ (KT H W)) B (some 52)):=by
   intro B H5 e1 e2 p3 p7
   refine(Qkd N (tlN x.f) hIN H5).thenW ?_
   rintro _ H6 hn6 hw6 ⟨v,rfl,hv,hx6⟩
   simp only[QBD,simprocAttr]
   have hx56:=(hx3.trans e1).trans hx6
   have hnn:=(hx3.trans e1).next
   refine QAU hw ha hl (by omega) (QtI N (tlN x.f)) eW (v:=v) hx56 hw6 (by rw[(e1.trans hx6).get _ (by omega)];exact g23) ?_ ?_ ?_ (hv.down hnn)
   all_goals simp only[QBE,simprocAttr,p3,p7,r3,r7]
  cases c:a.k==3 with
  | false=>
   rw[if_neg (by simpa using c)]at eN
   rw[eN]at hput
   simp only[QBD,simprocAttr,r6]
   refine hput _ H2 (Ext.refl _) hw2 ?_ ?_
   all_goals simp only[QBE,simprocAttr]
  | true=>
   rw[if_pos (by simpa using c)]at eN
   simp only[QbX,QBD,simprocAttr,r3,g23,List.drop_zero,List.take]
   refine(qb H2 hx3).thenW ?_
   rintro _ _ hn4 hw4 ⟨rfl,k4,rfl⟩
   simp only[QBD,simprocAttr]
   refine(qi _).thenW ?_
   rintro _ H5 hn5 hw5 ⟨rfl,eH5⟩
   rw[eH5]at hw5 ⊢
   rw[eN]at hput
   simp only[QBD,simprocAttr,r6]
   refine hput _ _ (show Ext H2 (H2.up k4) from(Ext.refl H2).up hn4) hw5 ?_ ?_
   all_goals simp only[QBE,simprocAttr]
 ·rw[if_neg (by have:=of_decide_eq_false h;omega),List.nil_append]at eW
  simp only[QBD,simprocAttr]
  refine QAU hw ha hl (w:=[]) (by omega) (by simp) eW (v:=.slice none 0 0) hx3 hw2 g23 ?_ ?_ ?_ (.inl ⟨rfl,rfl,rfl⟩)
  all_goals simp only[QBE,simprocAttr,r3,r5,r7]
end
theorem Qwp {x:Lf} {H:Qa} (hw:H.Wf) (hx:x.At H) (hf:x.Fr 0) (m:Nat) (hm:H.next≤m):Qj m 6 (.agg x.cells.toArray)=true:=by
 have h1:=Qfb hw hf.1 hx.2.2.1 m hm 4
 have h2:=Qfb hw hf.2 hx.2.2.2 m hm 4
 simp only[Nat.reduceAdd]at h1 h2
 obtain⟨f,v1,v2⟩:=x
 have e1:SlF 0 v1 f.shapes:=hf.1
 have e2:SlF 0 v2 f.slots:=hf.2
 clear hx hf
 simp only[Lf.cells]at *
 rcases e1 with⟨_,rfl⟩ | ⟨_,b1,c1,rfl,_,_⟩<;>rcases e2 with⟨_,rfl⟩ | ⟨_,b2,c2,rfl,_,_⟩
 all_goals (simp only[Qj]at h1 h2;simp[Qj,Ab.plain,h1,h2])
theorem Qnn {x:Lf} {op:Int} {va:Value} {l:List Ar} (H:Qa) (hx:x.At H) (hf:x.Fr 0) (ha:QS H va l) (hl:l.length≤1000) (hI:∀a∈l,I64 a.n) (hn:x.f.slots.length=l.length):
  Qe prog Qbd [.agg x.cells.toArray,.agg #[.int .i64 op,va]] H fun v H'=>Gx 1 5 H H' v (GS x.f op l).length (bys (GS x.f op l))∧Ext H H':=by
 refine QlX fun hw=>?_
 have ex:(Value.agg x.cells.toArray).cells.toList=x.cells:=rfl
 have e10:x.cells.take 10=x.cells:=rfl
 have l10:10≤x.cells.length:=Nat.le_refl _
 obtain⟨W,eW⟩:∃W,W=GS x.f op l:=⟨_,rfl⟩
 rw[← eW]
 obtain⟨a0,cap,rfl⟩:=QY ha
 simp only[Qeq,ex,QBG,simprocAttr]
 generalize hH1:Qa.push H (.cells x.cells Qc false)=H1
 have g1:H1.get H.next=some (.cells x.cells Qc false):=by rw[← hH1,Qa.get_push,if_pos rfl]
 have hx1:Ext H H1:=by rw[← hH1];exact(Ext.refl H).push _
 have hn1:H1.next=H.next+1:=by rw[← hH1];rfl
 have hw1:H1.Wf:=by rw[← hH1];exact hw.push _
 clear hH1
 simp only[QBD,simprocAttr,hn1]
 generalize hH2:Qa.push H1 _=H2
 have hx2:Ext H H2:=by rw[← hH2];exact(hx1.push _)
 have hw2:H2.Wf:=by rw[← hH2];exact(hw1.push _)
 have g22:H2.get H.next=some (.cells x.cells Qc false):=by rw[← hH2,Qa.get_push,if_neg (by omega)];exact g1
 have g23:H2.get (H.next+1)=some (.cells [.int .i64 op,.slice a0 l.length cap] Qb false):=by rw[← hH2,Qa.get_push,if_pos (by omega)]
 have hn2:H2.next=H.next+2:=by rw[← hH2,Qa.next_push,hn1]
 clear hH2
 simp only[QBD,simprocAttr,g1,g22,g23,List.drop_zero,e10]
 refine⟨l10,by omega,?_⟩
 refine(QoU x H2 (hx.ext hw hx2)).thenW ?_
 rintro _ _ hn3 hw3 ⟨rfl,k,rfl⟩
 have hx3:Ext H2 (H2.up k):=(Ext.refl H2).up hn3
 refine⟨hx3.eqB,?_⟩
 have g32:(H2.up k).get H.next=some (.cells x.cells Qc false):=by rw[Qa.get_up];exact g22
 have g33:(H2.up k).get (H.next+1)=some (.cells [.int .i64 op,.slice a0 l.length cap] Qb false):=by rw[Qa.get_up];exact g23
 have hk:H2.next≤k:=hn3
 simp only[QBD,simprocAttr,g32,List.drop_zero,e10]
 refine⟨l10,Qwp hw hx hf k (by omega),?_⟩
 refine(QU x 7 _ (hx.ext hw (hx2.trans hx3))).thenW ?_
 rintro _ _ hn4 hw4 ⟨rfl,k2,rfl⟩
 have hx4:Ext H2 ((H2.up k).up k2):=hx3.up hn4
 have hF:∀B:Env,B 2=.pointer (some ⟨H.next,0,none⟩)→B 3=.pointer (some ⟨H.next+1,0,none⟩)→FtF H ((H2.up k).up k2) x op (.slice a0 l.length cap) B:=fun B e2 e3=>⟨hx2.trans hx4,hw4,by rw[Qa.get_up];exact g32,by rw[Qa.get_up];exact g33,by have:=hx4.next;omega,e2,e3⟩
 have ht:=Qwf x.f
 have hT:tlF x.f=bif decide (0≤QB x.f.slots 7) then tl1 x.f+1 else tl1 x.f:=rfl
 simp only[QBD,simprocAttr]
 refine Qg (fun h=>?_) (fun h=>?_)
 ·have h0:0≤QB x.f.slots 7:=of_decide_eq_true h
  have eT:tlN x.f=tlF x.f - 1:=if_pos h0
  rw[h,cond_true]at hT
  have ew:IntKind.i64.wrap (tlF x.f - 1)=tlN x.f:=by rw[eT,w64 (by unfold I64;omega)]
  simp only[QBD,simprocAttr,ew]
  refine QAV hw hx ha hl hI hn eW (hF _ ?_ ?_) ?_ ?_ ?_
  all_goals simp only[QBE,simprocAttr]
 ·have eT:tlN x.f=tlF x.f:=if_neg (by have:=of_decide_eq_false h;omega)
  simp only[QBD,simprocAttr]
  refine QAV hw hx ha hl hI hn eW (hF _ ?_ ?_) ?_ ?_ ?_
  all_goals simp only[QBE,simprocAttr,eT]
def QzG (f:Fm) (l:List Ar):Int:=if 0≤QB f.slots 1 then W6 (l[(QB f.slots 1).toNat]?.getD WE).r else f.digit
def XC (f:Fm) (l:List Ar):List Ld:=
 if QB f.slots 2<0 then[⟨[],0,0⟩]
 else if((QkD (QzG f l) (l[(QB f.slots 2).toNat]?.getD WE)).2==0)=true then(QkD (QzG f l) (l[(QB f.slots 2).toNat]?.getD WE)).1 else[]
section
variable {x:Lf} {op:Int} {va:Value} {l:List Ar} {H:Qa}
abbrev KP (H:Qa) (W:List Ld):Env→Qa→Prop:=Rt prog Qkv H fun v H'=>Wh Qm H H' v W∧Ext H H'
theorem QAW (hw:H.Wf) (ha:QS H va l) {W:List Ld} {mid:Int} {i:Nat} {a:Ar} (hai:l[i]? = some a) (eW:W=if((QkD mid a).2==0)=true then(QkD mid a).1 else[]) {A:Env} {H1:Qa} (hF:FtF H H1 x op va A) (r4:A 4=.slice none 0 0) (r5:A 5=.int .i64 i) (r6:A 6=.int .i64 mid):
  Qp prog ZV ⟨KP H W,YH⟩ (KP H W) A H1:=by
 obtain⟨hx1,hw1,g2,g3,hn1,r2,r3⟩:=id hF
 have hil:i<l.length:=(List.getElem?_eq_some_iff.1 hai).1
 obtain⟨a0,cap,rfl,h1⟩:=ha
 obtain⟨b,e,ro,rfl,hgb0⟩:=h1 (by omega)
 have hgb:H1.get b=some (.cells (Qi l) e ro):=by rw[hx1.get b (hw.lt hgb0)];exact hgb0
 have d1:(0:Int)≤i∧(i:Int)<l.length:=by omega
 have d3:(i:Int).toNat=i:=by omega
 have htk:=XS l i a hai
 have hle:i * 11+11≤(Qi l).length:=by rw[QV];omega
 simp only[ZV,QBD,simprocAttr,r3,r5,r6,g3,d1,d3,hgb,htk]
 refine⟨hle,?_⟩
 refine(QqN mid a H1).thenW ?_
 rintro _ H2 hn2 hw2 ⟨v,rfl,hv,hx2⟩
 simp only[QBD,simprocAttr]
 cases c:(QkD mid a).2==0 with
 | false=>
  simp only[QBD,simprocAttr,c,Jv]
  rw[c,if_neg (by decide)]at eW
  exact .mk (hx1.trans hx2).next ⟨by rw[eW];exact Wh.nil _ _ _,hx1.trans hx2⟩
 | true=>
  simp only[QBD,simprocAttr,c,Jv]
  rw[c,if_pos rfl]at eW
  exact .mk (hx1.trans hx2).next ⟨by rw[eW];exact hv.down hx1.next,hx1.trans hx2⟩
theorem QBw (hw:H.Wf) (hx:x.At H) (ha:QS H va l) (hl:l.length≤1000) (hn:x.f.slots.length=l.length) {W:List Ld} (h2:0≤QB x.f.slots 2) (eW:W=XC x.f l) {A:Env} {H1:Qa} (hF:FtF H H1 x op va A) (r4:A 4=.slice none 0 0) (r5:A 5=.int .i64 (QB x.f.slots 2)):
  Qp prog ZW ⟨KP H W,YH⟩ (KP H W) A H1:=by
 obtain⟨hx1,hw1,g2,g3,hn1,r2,r3⟩:=id hF
 have e10:x.cells.take 10=x.cells:=rfl
 have x6:x.cells[6]? = some (.int .i64 x.f.digit):=rfl
 have l10:10≤x.cells.length:=Nat.le_refl _
 have hlt2:=QqF x.f.slots 2
 have hlt1:=QqF x.f.slots 1
 unfold XC at eW
 rw[if_neg (by omega)]at eW
 obtain⟨i,hi⟩:∃i:Nat,QB x.f.slots 2=i:=⟨(QB x.f.slots 2).toNat,by omega⟩
 rw[hi]at eW r5 hlt2
 obtain⟨a,hai⟩:∃a,l[i]? = some a:=⟨_,List.getElem?_eq_getElem (by omega)⟩
 have hgd:l[(i:Int).toNat]?.getD WE=a:=by rw[show(i:Int).toNat=i by omega,hai];rfl
 rw[hgd]at eW
 have em:QzG x.f l=if 0≤QB x.f.slots 1 then W6 (l[(QB x.f.slots 1).toNat]?.getD WE).r else x.f.digit:=rfl
 simp only[ZW,QBD,simprocAttr,r2,g2,x6,List.drop_zero,e10]
 refine⟨l10,?_⟩
 refine(QU x 1 H1 (hx.ext hw hx1)).thenW ?_
 rintro _ _ hn2 hw2 ⟨rfl,k,rfl⟩
 have hx2:Ext H1 (H1.up k):=(Ext.refl H1).up hn2
 obtain⟨hx3,_,g22,g23,hn3,_,_⟩:=hF.go hx2 hw2 rfl rfl
 simp only[QBD,simprocAttr]
 refine Qg (fun h=>?_) (fun h=>?_)
 ·have h0:0≤QB x.f.slots 1:=of_decide_eq_true h
  rw[if_pos h0]at em
  obtain⟨j,hj⟩:∃j:Nat,QB x.f.slots 1=j:=⟨(QB x.f.slots 1).toNat,by omega⟩
  rw[hj]at hlt1 em ⊢
  obtain⟨c,haj⟩:∃c,l[j]? = some c:=⟨_,List.getElem?_eq_getElem (by omega)⟩
  have hgj:l[(j:Int).toNat]?.getD WE=c:=by rw[show(j:Int).toNat=j by omega,haj];rfl
  rw[hgj]at em
  obtain⟨a0,cap,rfl,h1⟩:=id ha
  obtain⟨b,e,ro,rfl,hgb0⟩:=h1 (by omega)
  have hgb:(H1.up k).get b=some (.cells (Qi l) e ro):=by rw[hx3.get b (hw.lt hgb0)];exact hgb0
  have d1:(0:Int)≤j∧(j:Int)<l.length:=by omega
  have d3:(j:Int).toNat=j:=by omega
  have hrg:=Qc4 haj
  have hle:j * 11+1+2≤(Qi l).length:=by rw[QV];omega
  have q:=Kz c.r
  simp only[Rg.cells]at q
  generalize H1.up k=H2 at *
  simp only[QBD,simprocAttr,r3,g23,d1,d3,hgb,hrg]
  refine⟨hle,?_⟩
  refine(q H2).thenW ?_
  rintro _ _ hn4 hw4 ⟨rfl,k4,rfl⟩
  have hx4:Ext H1 (H2.up k4):=hx2.trans ((Ext.refl H2).up hn4)
  simp only[QBD,simprocAttr]
  refine QAW hw ha (mid:=W6 c.r) hai (by rw[eW,em]) (hF.go hx4 hw4 ?_ ?_) ?_ ?_ ?_
  all_goals simp only[QBE,simprocAttr,r4,r5]
 ·rw[if_neg (by have:=of_decide_eq_false h;omega)]at em
  simp only[QBD,simprocAttr]
  refine QAW hw ha (mid:=x.f.digit) hai (by rw[eW,em]) (hF.go hx2 hw2 ?_ ?_) ?_ ?_ ?_
  all_goals simp only[QBE,simprocAttr,r4,r5]
end
theorem QkE {x:Lf} {op:Int} {va:Value} {l:List Ar} (H:Qa) (hx:x.At H) (ha:QS H va l) (hl:l.length≤1000) (hn:x.f.slots.length=l.length):
  Qe prog Gd [.agg x.cells.toArray,.agg #[.int .i64 op,va]] H fun v H'=>Wh Qm H H' v (XC x.f l)∧Ext H H':=by
 refine Qjd fun hw=>?_
 have ex:(Value.agg x.cells.toArray).cells.toList=x.cells:=rfl
 have e10:x.cells.take 10=x.cells:=rfl
 have l10:10≤x.cells.length:=Nat.le_refl _
 obtain⟨W,eW⟩:∃W,W=XC x.f l:=⟨_,rfl⟩
 rw[← eW]
 obtain⟨a0,cap,rfl⟩:=QY ha
 simp only[QbZ,ex,QBG,simprocAttr]
 generalize hH1:Qa.push H (.cells x.cells Qc false)=H1
 have g1:H1.get H.next=some (.cells x.cells Qc false):=by rw[← hH1,Qa.get_push,if_pos rfl]
 have hx1:Ext H H1:=by rw[← hH1];exact(Ext.refl H).push _
 have hn1:H1.next=H.next+1:=by rw[← hH1];rfl
 have hw1:H1.Wf:=by rw[← hH1];exact hw.push _
 clear hH1
 simp only[QBD,simprocAttr,hn1]
 generalize hH2:Qa.push H1 _=H2
 have hx2:Ext H H2:=by rw[← hH2];exact(hx1.push _)
 have hw2:H2.Wf:=by rw[← hH2];exact(hw1.push _)
 have g22:H2.get H.next=some (.cells x.cells Qc false):=by rw[← hH2,Qa.get_push,if_neg (by omega)];exact g1
 have g23:H2.get (H.next+1)=some (.cells [.int .i64 op,.slice a0 l.length cap] Qb false):=by rw[← hH2,Qa.get_push,if_pos (by omega)]
 have hn2:H2.next=H.next+2:=by rw[← hH2,Qa.next_push,hn1]
 clear hH2
 simp only[QBD,simprocAttr,g1,g22,g23,List.drop_zero,e10]
 refine⟨l10,?_⟩
 refine(QU x 2 H2 (hx.ext hw hx2)).thenW ?_
 rintro _ _ hn3 hw3 ⟨rfl,k,rfl⟩
 have hx3:Ext H2 (H2.up k):=(Ext.refl H2).up hn3
 have hF:∀B:Env,B 2=.pointer (some ⟨H.next,0,none⟩)→B 3=.pointer (some ⟨H.next+1,0,none⟩)→FtF H (H2.up k) x op (.slice a0 l.length cap) B:=fun B e2 e3=>⟨hx2.trans hx3,hw3,by rw[Qa.get_up];exact g22,by rw[Qa.get_up];exact g23,by have:=hx3.next;omega,e2,e3⟩
 simp only[QBD,simprocAttr]
 refine Qg (fun h=>?_) (fun h=>?_)
 ·have h0:QB x.f.slots 2<0:=of_decide_eq_true h
  have eW2:W=[⟨[],0,0⟩]:=by rw[eW];unfold XC;rw[if_pos h0]
  simp only[QBD,simprocAttr,Jv]
  have hx4:=(hx2.trans hx3).push (.cells [.slice none 0 0,.int .i64 0,.int .i64 0] Qm false)
  refine .mk hx4.next ⟨?_,hx4⟩
  rw[eW2]
  refine⟨[.slice none 0 0],rfl,.inr ⟨(H2.up k).next,1,rfl,(hx2.trans hx3).next,by rw[Qa.get_push,if_pos rfl];rfl,rfl,.inl rfl⟩,fun j s w h1 h2=>?_⟩
  cases j with
  | zero=>simp at h1 h2;subst h1;subst h2;exact .inl ⟨rfl,rfl,rfl⟩
  | succ j=>simp at h1
 ·simp only[QBD,simprocAttr]
  refine QBw hw hx ha hl hn (by have:=of_decide_eq_false h;omega) eW (hF _ ?_ ?_) ?_ ?_
  all_goals simp only[QBE,simprocAttr]
def Qpb (f:Fm) (s:Int):Bool:=decide (0≤QB f.shapes s)
def GT (w:Int) (f:Fm) (d:Int):Bool:=
 if(w==1)=true then Qpb f 26 else if(w==2)=true then Qpb f 27 else if(w==3)=true then(!(Qpb f 21||Qpb f 26)&&((d==4)||(d==-1))) else true
theorem Qwt {H:Qa} {v:Value} {l:List Int} (h:Vy H v l.length (ints l)):QtG H v l:=by
 obtain⟨a,c,rfl,h1⟩:=h
 refine⟨a,c,rfl,fun hl=>?_⟩
 obtain⟨b,e,ro,rfl,hb⟩:=h1 hl
 exact⟨b,e,ro,_,rfl,hb,fun j hj=>Vw hj⟩
theorem Qju {x:Lf} (w d:Int) (H:Qa) (hx:x.At H):Qe prog J1 [.int .i64 w,.agg x.cells.toArray,.int .i64 d] H fun v H'=>v=.bool (GT w x.f d)∧Ext H H':=by
 refine QhL fun hw=>?_
 have ex:(Value.agg x.cells.toArray).cells.toList=x.cells:=rfl
 obtain⟨a1,c1,e1⟩:=QY hx.2.2.1
 have x1:x.cells[1]? = some (.slice a1 x.f.shapes.length c1):=by rw[← e1];rfl
 obtain⟨W,eW⟩:∃W,W=GT w x.f d:=⟨_,rfl⟩
 rw[← eW]
 unfold GT at eW
 have hS:=hx.2.2.1
 rw[e1]at hS
 simp only[Qau,ex,QBG,simprocAttr]
 generalize hH1:Qa.push H (.cells x.cells Qc false)=H1
 have g1:H1.get H.next=some (.cells x.cells Qc false):=by rw[← hH1,Qa.get_push,if_pos rfl]
 have hx1:Ext H H1:=by rw[← hH1];exact(Ext.refl H).push _
 have hw1:H1.Wf:=by rw[← hH1];exact hw.push _
 clear hH1
 have q:=fun s=>Qmk _ _ s H1 (Qwt (hS.ext hw hx1)) hx.1
 cases c1:w==1 with
 | true=>
  rw[c1,if_pos rfl]at eW
  simp only[QBD,simprocAttr,c1,g1,x1]
  refine(q 26).thenW ?_
  rintro _ H2 hn2 hw2 ⟨rfl,e2⟩
  rw[e2]at hn2 ⊢
  simp only[QBD,simprocAttr,Wj]
  exact .mk hx1.next ⟨by rw[eW];rfl,hx1⟩
 | false=>
  rw[c1,if_neg (by decide)]at eW
  cases c2:w==2 with
  | true=>
   rw[c2,if_pos rfl]at eW
   simp only[QBD,simprocAttr,c1,c2,g1,x1]
   refine(q 27).thenW ?_
   rintro _ H2 hn2 hw2 ⟨rfl,e2⟩
   rw[e2]at hn2 ⊢
   simp only[QBD,simprocAttr,Wj]
   exact .mk hx1.next ⟨by rw[eW];rfl,hx1⟩
  | false=>
   rw[c2,if_neg (by decide)]at eW
   cases c3:w==3 with
   | false=>
    rw[c3,if_neg (by decide)]at eW
    simp only[QBD,simprocAttr,c1,c2,c3,Wj]
    exact .mk hx1.next ⟨by rw[eW],hx1⟩
   | true=>
    rw[c3,if_pos rfl]at eW
    simp only[QBD,simprocAttr,c1,c2,c3,g1,x1]
    refine(q 21).thenW ?_
    rintro _ H2 hn2 hw2 ⟨rfl,e2⟩
    rw[e2]at hn2 ⊢
    have eh:decide (0≤QB x.f.shapes 21)=Qpb x.f 21:=rfl
    have eh2:decide (0≤QB x.f.shapes 26)=Qpb x.f 26:=rfl
    rw[eh]
    cases k1:Qpb x.f 21 with
    | true=>
     simp only[QBD,simprocAttr,Wj]
     exact .mk hx1.next ⟨by rw[eW,k1];rfl,hx1⟩
    | false=>
     simp only[QBD,simprocAttr,g1,x1]
     refine(q 26).thenW ?_
     rintro _ H3 hn3 hw3 ⟨rfl,e3⟩
     rw[e3,eh2]at *
     cases k2:Qpb x.f 26 with
     | true=>
      simp only[QBD,simprocAttr,Wj]
      exact .mk hx1.next ⟨by rw[eW,k1,k2];rfl,hx1⟩
     | false=>
      cases k3:d==4 with
      | true=>
       simp only[QBD,simprocAttr,k3,Wj]
       exact .mk hx1.next ⟨by rw[eW,k1,k2,k3];rfl,hx1⟩
      | false=>
       simp only[QBD,simprocAttr,k3,Wj]
       exact .mk hx1.next ⟨by rw[eW,k1,k2,k3];simp,hx1⟩
theorem Qx6 (a:Ar) (H:Qa):Qe prog Q0 [.agg a.cells.toArray] H fun u H'=>u=.bool (a.k==2)∧Ext H H':=by
 refine Qbl fun hw=>?_
 obtain⟨ak,⟨rc,rn⟩,⟨⟨bc,bn⟩,⟨ic,nn⟩,sc,d,sz⟩,n⟩:=a
 simp only[Ar.cells,ZE,sxA,sxB,Nat.reduceBEq,Nat.reduceEqDiff,reduceCtorEq,mxA,mxB,Nat.reduceAdd,reduceIte,Nat.reduceLeDiff,splice,V9]
 have hx:=(Ext.refl H).push (.cells [.int .i64 ak,.int .i64 rc,.int .i64 rn,.int .i64 bc,.int .i64 bn,.int .i64 ic,.int .i64 nn,.int .i64 sc,.int .i64 d,.int .i64 sz,.int .i64 n] Qd false)
 exact .mk hx.next ⟨rfl,hx⟩
theorem QkF (va:Value) (l:List Ar) (H:Qa) (ha:QS H va l) (hl:l.length≤1000):Qe prog Wi [va,.func (.func Q0) #[] #[]] H fun u H'=>∃r:Int,u=.int .i64 r∧decide (0≤r)=(l.any fun a=>a.k==2)∧Ext H H':=by
 refine ZC fun hw=>?_
 obtain⟨a0,cap,rfl,h1⟩:=ha
 simp only[W8,sxA,sxB,Nat.reduceBEq,Nat.reduceEqDiff,reduceCtorEq,mxA,mxB,Nat.reduceAdd,reduceIte,Nat.reduceLeDiff,splice,Qw]
 refine Qy (fun m A' H'=>∃i:Nat,i≤l.length∧m=l.length - i∧H'.Wf∧Ext H H'∧A' 0=.slice a0 l.length cap∧A' 1=.func (.func Q0) #[] #[]∧A' 7=.int .i64 l.length∧A' 8=.int .i64 i∧((l.take i).any fun a=>a.k==2)=false) l.length ?_ ?_
 ·refine⟨0,Nat.zero_le _,by omega,hw,Ext.refl H,?_,?_,?_,?_,by simp⟩
  all_goals simp only[uxA,uxB,Nat.reduceBEq]
  all_goals rfl
 ·rintro m A' H' ⟨i,hi,rfl,hw',hx,r0,r1,r7,r8,hno⟩
  simp only[sxA,sxB,Nat.reduceBEq,Nat.reduceEqDiff,reduceCtorEq,mxA,mxB,Nat.reduceAdd,reduceIte,Nat.reduceLeDiff,splice,r7,r8]
  refine Qg (fun h2=>?_) (fun h2=>?_)
  ·have h2:i<l.length:=by have:=of_decide_eq_true h2;omega
   obtain⟨a,hai⟩:∃a,l[i]? = some a:=⟨_,List.getElem?_eq_getElem h2⟩
   obtain⟨b,e,ro,rfl,hgb0⟩:=h1 (by omega)
   have hgb:H'.get b=some (.cells (Qi l) e ro):=by rw[hx.get b (hw.lt hgb0)];exact hgb0
   have htk:=XS l i a hai
   have hle:i * 11+11≤(Qi l).length:=by rw[QV];omega
   have d1:(0:Int)≤i∧(i:Int)<l.length:=by omega
   have d3:(i:Int).toNat=i:=by omega
   have ei:IntKind.i64.wrap ((i:Int)+1)=((i+1:Nat):Int):=by rw[w64 (by unfold I64;omega)];omega
   have htl:l.take (i+1)=l.take i++[a]:=by rw[List.take_add_one,hai];rfl
   simp only[sxA,sxB,Nat.reduceBEq,Nat.reduceEqDiff,reduceCtorEq,mxA,mxB,Nat.reduceAdd,reduceIte,Nat.reduceLeDiff,splice,r0,r1,r8,d1,d3,hgb,htk,QnX]
   refine⟨hle,?_⟩
   refine(Qx6 a H').thenW ?_
   rintro _ H2 hn2 hw2 ⟨rfl,hx2⟩
   cases c:a.k==2 with
   | true=>
    simp only[sxA,sxB,Nat.reduceBEq,Nat.reduceEqDiff,reduceCtorEq,mxA,mxB,Nat.reduceAdd,reduceIte,Nat.reduceLeDiff,splice,W2]
    refine .mk (hx.trans hx2).next ⟨i,rfl,?_,hx.trans hx2⟩
    rw[decide_eq_true d1.1]
    exact(List.any_eq_true.2 ⟨a,List.mem_of_getElem? hai,c⟩).symm
   | false=>
    simp only[sxA,sxB,Nat.reduceBEq,Nat.reduceEqDiff,reduceCtorEq,mxA,mxB,Nat.reduceAdd,reduceIte,Nat.reduceLeDiff,splice,r8,ei]
    refine⟨l.length - (i+1),by omega,i+1,by omega,rfl,hw2,hx.trans hx2,?_,?_,?_,?_,by rw[htl,List.any_append,hno];simp[c]⟩
    all_goals simp only[uxA,uxB,Nat.reduceBEq,r0,r1,r7]
  ·have h2:i=l.length:=by have:=of_decide_eq_false h2;omega
   subst h2
   rw[List.take_length]at hno
   simp only[sxA,sxB,Nat.reduceBEq,Nat.reduceEqDiff,reduceCtorEq,mxA,mxB,Nat.reduceAdd,reduceIte,Nat.reduceLeDiff,splice,W2]
   exact .mk hx.next ⟨-1,rfl,by rw[hno];rfl,hx⟩
theorem Qg1 (va:Value) (l:List Ar) (H:Qa) (ha:QS H va l) (hl:l.length≤1000):Qe prog Q8 [va,.func (.func Q0) #[] #[]] H fun u H'=>u=.bool (l.any fun a=>a.k==2)∧Ext H H':=by
 refine Y2 fun hw=>?_
 simp only[WV,sxA,sxB,Nat.reduceBEq,Nat.reduceEqDiff,reduceCtorEq,mxA,mxB,Nat.reduceAdd,reduceIte,Nat.reduceLeDiff,splice]
 refine(QkF va l H ha hl).thenW ?_
 rintro _ H2 hn2 hw2 ⟨r,rfl,er,hx2⟩
 simp only[sxA,sxB,Nat.reduceBEq,Nat.reduceEqDiff,reduceCtorEq,mxA,mxB,Nat.reduceAdd,reduceIte,Nat.reduceLeDiff,splice,YI]
 exact .mk hx2.next ⟨by rw[er],hx2⟩
def Qwu (c:Int):Int:=IntKind.u8.wrap (BitVec.ofInt IntKind.u8.bits c &&& BitVec.ofInt IntKind.u8.bits 7).toNat
def Qmq (l:List Ar) (w:Ld):Int:=
 if(!(l.any fun a=>a.k==2)||(w.b.length==0))=true then -1 else if(Qwu (w.b.getD 0 0)==4)=true then(w.b.length:Int) - 2 else(w.b.length:Int) - 1
theorem QdQ {op:Int} {va:Value} {l:List Ar} {w:Ld} {v:Value} {H0:Qa} (H:Qa) (ha:QS H va l) (hl:l.length≤1000) (hv:Gx 1 5 H0 H v w.b.length (bys w.b)) (hwl:w.b.length≤1000):
  Qe prog Yt [.agg #[.int .i64 op,va],.agg #[v,.int .i64 w.x,.int .i64 w.h]] H fun u H'=>u=.int .i64 (Qmq l w)∧Ext H H':=by
 refine QcS fun hw=>?_
 obtain⟨W,eW⟩:∃W,W=Qmq l w:=⟨_,rfl⟩
 rw[← eW]
 unfold Qmq at eW
 obtain⟨a0,cap,rfl⟩:=QY ha
 obtain⟨a1,c1,rfl,hb1⟩:∃a c,v=.slice a w.b.length c∧(0<w.b.length→∃b,a=some ⟨b,0,none⟩∧H.get b=some (.cells (bys w.b) 5 false)):=by
  rcases hv with⟨rfl,h,_⟩ | ⟨b,c,rfl,_,h,_,_⟩
  ·exact⟨none,0,by rw[h],fun h'=>by omega⟩
  ·exact⟨_,c,rfl,fun _=>⟨b,rfl,h⟩⟩
 simp only[Jp,sxA,sxB,Nat.reduceBEq,Nat.reduceEqDiff,reduceCtorEq]
 generalize hH1:Qa.push H _=H1
 have g1:H1.get H.next=some (.cells [.int .i64 op,.slice a0 l.length cap] Qb false):=by rw[← hH1,Qa.get_push,if_pos rfl];rfl
 have hx1:Ext H H1:=by rw[← hH1];exact(Ext.refl H).push _
 have hn1:H1.next=H.next+1:=by rw[← hH1];rfl
 have hw1:H1.Wf:=by rw[← hH1];exact hw.push _
 clear hH1
 try simp only[sxA,sxB,Nat.reduceBEq,Nat.reduceEqDiff,reduceCtorEq,mxA,mxB,Nat.reduceAdd,reduceIte,Nat.reduceLeDiff,splice,hn1]
 generalize hH2:Qa.push H1 _=H2
 have hx2:Ext H H2:=by rw[← hH2];exact(hx1.push _)
 have hw2:H2.Wf:=by rw[← hH2];exact(hw1.push _)
 have g22:H2.get H.next=some (.cells [.int .i64 op,.slice a0 l.length cap] Qb false):=by rw[← hH2,Qa.get_push,if_neg (by omega)];exact g1
 have g23:H2.get (H.next+1)=some (.cells [.slice a1 w.b.length c1,.int .i64 w.x,.int .i64 w.h] Qm false):=by rw[← hH2,Qa.get_push,if_pos (by omega)]
 have hn2:H2.next=H.next+2:=by rw[← hH2,Qa.next_push,hn1]
 clear hH2
 simp only[sxA,sxB,Nat.reduceBEq,Nat.reduceEqDiff,reduceCtorEq,mxA,mxB,Nat.reduceAdd,reduceIte,Nat.reduceLeDiff,splice,g1,g22,g23]
 refine(Qg1 _ l H2 (ha.ext hw hx2) hl).thenW ?_
 rintro _ H3 hn3 hw3 ⟨rfl,hx23⟩
 have hx3:=hx2.trans hx23
 have g33:H3.get (H.next+1)=some (.cells [.slice a1 w.b.length c1,.int .i64 w.x,.int .i64 w.h] Qm false):=by rw[hx23.get _ (by omega)];exact g23
 generalize (l.any fun a=>a.k==2)=M at *
 cases M with
 | false=>
  simp only[sxA,sxB,Nat.reduceBEq,Nat.reduceEqDiff,reduceCtorEq,mxA,mxB,Nat.reduceAdd,reduceIte,Nat.reduceLeDiff,splice,WY]
  exact .mk hx3.next ⟨by rw[eW];rfl,hx3⟩
 | true=>
  have el:((w.b.length:Int)==0)=(w.b.length==0):=by
   rw[Bool.eq_iff_iff,beq_iff_eq,beq_iff_eq];omega
  simp only[sxA,sxB,Nat.reduceBEq,Nat.reduceEqDiff,reduceCtorEq,mxA,mxB,Nat.reduceAdd,reduceIte,Nat.reduceLeDiff,splice,g33,el]
  cases c0:w.b.length==0 with
  | true=>
   simp only[sxA,sxB,Nat.reduceBEq,Nat.reduceEqDiff,reduceCtorEq,mxA,mxB,Nat.reduceAdd,reduceIte,Nat.reduceLeDiff,splice,WY]
   exact .mk hx3.next ⟨by rw[eW,c0];rfl,hx3⟩
  | false=>
   have hpos:0<w.b.length:=by have:=beq_eq_false_iff_ne.1 c0;omega
   obtain⟨b,rfl,hb⟩:=hb1 hpos
   have hgb:H3.get b=some (.cells (bys w.b) 5 false):=by rw[hx3.get b (hw.lt hb)];exact hb
   have h0:(bys w.b)[0]? = some (.int .u8 (w.b.getD 0 0)):=by
    simp[bys,List.getElem?_map,List.getD_eq_getElem?_getD,List.getElem?_eq_getElem hpos]
   have d1:(0:Int)<w.b.length:=by omega
   have ea:IntKind.u8.wrap (BitVec.ofInt IntKind.u8.bits (w.b.getD 0 0) &&& BitVec.ofInt IntKind.u8.bits 7).toNat=Qwu (w.b.getD 0 0):=rfl
   rw[c0,Bool.not_true,Bool.or_false,if_neg (by decide)]at eW
   simp only[sxA,sxB,Nat.reduceBEq,Nat.reduceEqDiff,reduceCtorEq,mxA,mxB,Nat.reduceAdd,reduceIte,Nat.reduceLeDiff,splice,g33,hgb,d1]
   refine⟨Int.le_refl 0,_,h0,?_⟩
   simp only[sxA,sxB,Nat.reduceBEq,Nat.reduceEqDiff,reduceCtorEq,mxA,mxB,Nat.reduceAdd,reduceIte,Nat.reduceLeDiff,splice,ea]
   have e2:IntKind.i64.wrap ((w.b.length:Int) - 2)=(w.b.length:Int) - 2:=w64 (by unfold I64;omega)
   have e1:IntKind.i64.wrap ((w.b.length:Int) - 1)=(w.b.length:Int) - 1:=w64 (by unfold I64;omega)
   cases c4:Qwu (w.b.getD 0 0)==4 with
   | true=>
    rw[c4,if_pos rfl]at eW
    simp only[sxA,sxB,Nat.reduceBEq,Nat.reduceEqDiff,reduceCtorEq,mxA,mxB,Nat.reduceAdd,reduceIte,Nat.reduceLeDiff,splice,g33,e2,WY]
    exact .mk hx3.next ⟨by rw[eW],hx3⟩
   | false=>
    rw[c4,if_neg (by decide)]at eW
    simp only[sxA,sxB,Nat.reduceBEq,Nat.reduceEqDiff,reduceCtorEq,mxA,mxB,Nat.reduceAdd,reduceIte,Nat.reduceLeDiff,splice,g33,e1,WY]
    exact .mk hx3.next ⟨by rw[eW],hx3⟩
theorem Qnp {x:Lf} {op:Int} {va:Value} (H:Qa):Qe prog Qa9 [.agg x.cells.toArray,.agg #[.int .i64 op,va]] H fun u H'=>u=.func (.func Yk) #[] #[.pointer (some ⟨H.next,0,none⟩),.pointer (some ⟨H.next+1,0,none⟩)]∧Ext H H'∧H.next+2≤H'.next∧H'.get H.next=some (.cells x.cells Qc false)∧H'.get (H.next+1)=some (.cells (Value.agg #[.int .i64 op,va]).cells.toList Qb false):=by
 refine QlV fun hw=>?_
 have ex:(Value.agg x.cells.toArray).cells.toList=x.cells:=rfl
 simp only[Qeo,ex,QBG,simprocAttr]
 have hx:=((Ext.refl H).push (.cells x.cells Qc false)).push (.cells (Value.agg #[.int .i64 op,va]).cells.toList Qb false)
 simp only[QBD,simprocAttr,Qkt]
 refine .mk hx.next ⟨rfl,hx,by simp only[Qa.next_push];omega,?_,?_⟩
 ·rw[Qa.get_push,if_neg (by rw[Qa.next_push];omega),Qa.get_push,if_pos rfl]
 ·rw[Qa.get_push,if_pos (by rw[Qa.next_push])]
theorem QiE {x:Lf} {op:Int} {va s tl:Value} {lx lh:Int} (H:Qa) (hs:s.oneCell'=true) (htl:tl.cells.toList=[tl]):Qe prog Jo [.agg x.cells.toArray,.agg #[.int .i64 op,va],.agg #[s,.int .i64 lx,.int .i64 lh],tl] H fun u H'=>u=.func (.func Wx) #[] #[.pointer (some ⟨H.next+1,0,none⟩),.pointer (some ⟨H.next+2,0,none⟩),.pointer (some ⟨H.next,0,none⟩),.pointer (some ⟨H.next+3,0,none⟩)]∧Ext H H'∧H.next+4≤H'.next∧H'.get H.next=some (.cells x.cells Qc false)∧H'.get (H.next+1)=some (.cells (Value.agg #[.int .i64 op,va]).cells.toList Qb false)∧H'.get (H.next+2)=some (.cells (Value.agg #[s,.int .i64 lx,.int .i64 lh]).cells.toList Qm false)∧H'.get (H.next+3)=some (.cells [tl] WT false):=by
 refine Qgy fun hw=>?_
 have ex:(Value.agg x.cells.toArray).cells.toList=x.cells:=rfl
 have hx:=((((Ext.refl H).push (.cells x.cells Qc false)).push (.cells (Value.agg #[.int .i64 op,va]).cells.toList Qb false)).push (.cells (Value.agg #[s,.int .i64 lx,.int .i64 lh]).cells.toList Qm false)).push (.cells [tl] WT false)
 simp only[VH,ex,QBG,simprocAttr]
 simp only[QBD,simprocAttr,Qfk,htl]
 refine .mk hx.next ⟨rfl,hx,by simp only[Qa.next_push];omega,?_,?_,?_,?_⟩
 ·rw[Qa.get_push,if_neg (by simp only[Qa.next_push];omega),Qa.get_push,if_neg (by simp only[Qa.next_push];omega),Qa.get_push,if_neg (by simp only[Qa.next_push];omega),Qa.get_push,if_pos rfl]
 ·rw[Qa.get_push,if_neg (by simp only[Qa.next_push];omega),Qa.get_push,if_neg (by simp only[Qa.next_push];omega),Qa.get_push,if_pos (by simp only[Qa.next_push])]
 ·rw[Qa.get_push,if_neg (by simp only[Qa.next_push];omega),Qa.get_push,if_pos (by simp only[Qa.next_push])]
 ·rw[Qa.get_push,if_pos (by simp only[Qa.next_push])]
def Qwv (P:Program) (ty:TypeId) (size:Nat):Bool:=match P.underlying ty with | some (.slice e)=>(match P.info? e with | some inf=>Nat.beq inf.size size | none=>false) | _=>false
theorem QsB {P:Program} {A:Env} {H:Qa} {k:Value→Qa→Prop} {ty:TypeId} {size:Nat} {x hi mx:Operand} {k1 k2:IntKind} {n:Int} {u v:Value} (ht:Qwv P ty size=true) (hx:ev A x=u) (hh:ev A hi=.int k1 n) (hm:ev A mx=.int k2 n) (hs:Jg size u none (some n) (some n)=some v):
  pr P (.gen (.slice ty x none (some hi) (some mx))) false A H k=k v H:=by
 unfold Qwv at ht
 split at ht
 ·rename_i e h1
  split at ht
  ·rename_i inf h2
   have e0:inf.size=size:=Nat.eq_of_beq_eq_true ht
   subst e0
   exact Qwg (by
    have b1:Q4 A (some hi)=some (some n):=by simp[Q4,hh]
    have b2:Q4 A (some mx)=some (some n):=by simp[Q4,hm]
    have b0:Q4 A none=some none:=rfl
    simp only[rop,aop,Qhi,h1,h2,b0,b1,b2,hx,Xu,hs]
    rfl)
  ·cases ht
 ·cases ht
def Qco (f:Fm) (l:List Ar):Int:=if 0≤QB f.slots 4 then IntKind.u8.wrap (IntKind.u8.wrap f.code+IntKind.u8.wrap (W6 (l[(QB f.slots 4).toNat]?.getD WE).r)) else IntKind.u8.wrap f.code
def Qc6 (f:Fm) (l:List Ar) (e:List Int) (w:Ld):List Ld:=(Qc5 f l w.x w.h).map fun hd=>⟨hd++[Qco f l]++w.b++e,0,Qmq l w⟩
theorem Qww (p r:Int):(Qcf p r).length≤4:=by
 unfold Qcf Qzu
 repeat' split
 all_goals simp
theorem Qwx (m:Int):(Qc3 m).length≤2:=by
 unfold Qc3
 repeat' split
 all_goals simp
theorem Qn1 (f:Fm) (l:List Ar) (a b:Int):(Qc5 f l a b).length≤3∧∀hd∈Qc5 f l a b,hd.length≤6:=by
 unfold Qc5
 split
 ·unfold Qsv
  cases f.w==-1<;>(repeat' split)<;>simp[Qcg]
 ·refine⟨?_,fun hd h=>?_⟩
  ·rw[List.length_map];unfold chF;repeat' split
   all_goals simp
  ·obtain⟨n,_,rfl⟩:=List.mem_map.1 h
   have:=Qww f.pre n
   have:=Qwx f.map
   rw[List.length_append];omega
structure PfF (Hz Hs H:Qa) (x:Lf) (op:Int) (va:Value) (p1 p2 p3 p4:Nat) (s tl:Value) (w:Ld) (e:List Int):Prop where
 z:Ext Hz H
 wf:H.Wf
 g1:H.get p1=some (.cells [.int .i64 op,va] Qb false)
 g2:H.get p2=some (.cells [s,.int .i64 w.x,.int .i64 w.h] Qm false)
 g3:H.get p3=some (.cells x.cells Qc false)
 g4:H.get p4=some (.cells [tl] WT false)
 s:Gx 1 5 Hs H s w.b.length (bys w.b)
 t:Gx 1 5 Hs H tl e.length (bys e)
structure PfO (Own:Nat→Prop) (Hz:Qa) (p1 p2 p3 p4:Nat) (s tl:Value):Prop where
 z:∀id,id<Hz.next→¬Own id
 o1:¬Own p1
 o2:¬Own p2
 o3:¬Own p3
 o4:¬Own p4
 s:∀id,inB s id→¬Own id
 t:∀id,inB tl id→¬Own id
section
variable {Hz Hs H:Qa} {x:Lf} {op:Int} {va:Value} {p1 p2 p3 p4:Nat} {s tl:Value} {w:Ld} {e:List Int} {Own:Qa→Nat→Prop}
theorem PfF.ck {H':Qa} (h:PfF Hz Hs H x op va p1 p2 p3 p4 s tl w e) (ho:PfO (Own H) Hz p1 p2 p3 p4 s tl) (hc:CK Own H H'):PfF Hz Hs H' x op va p1 p2 p3 p4 s tl w e:=by
 have hn:=hc.next
 have hz:=h.z.next
 refine⟨⟨by omega,fun id hid=>?_⟩,hc.w,?_,?_,?_,?_,?_,?_⟩
 ·rw[hc.keep id (by omega) (ho.z id hid)];exact h.z.get id hid
 ·rw[hc.keep _ (h.wf.lt h.g1) ho.o1];exact h.g1
 ·rw[hc.keep _ (h.wf.lt h.g2) ho.o2];exact h.g2
 ·rw[hc.keep _ (h.wf.lt h.g3) ho.o3];exact h.g3
 ·rw[hc.keep _ (h.wf.lt h.g4) ho.o4];exact h.g4
 ·exact h.s.ext fun id hi=>hc.keep id (h.s.low h.wf hi).2 (ho.s id hi)
 ·exact h.t.ext fun id hi=>hc.keep id (h.t.low h.wf hi).2 (ho.t id hi)
theorem PfO.sub {O O':Nat→Prop} (h:PfO O Hz p1 p2 p3 p4 s tl) (hs:∀id,O' id→O id):PfO O' Hz p1 p2 p3 p4 s tl:=
 ⟨fun id h1 h2=>h.z id h1 (hs _ h2),fun h1=>h.o1 (hs _ h1),fun h1=>h.o2 (hs _ h1),fun h1=>h.o3 (hs _ h1),fun h1=>h.o4 (hs _ h1),fun id h1 h2=>h.s id h1 (hs _ h2),fun id h1 h2=>h.t id h1 (hs _ h2)⟩
theorem JM.keep2 {e:TypeId} {H0 H H':Qa} {v:Value} {ws:List (List Int)} (h:JM e H0 H v ws) (hw:H.Wf) (hk:∀id,H0.next≤id→id<H.next→H'.get id=H.get id):JM e H0 H' v ws:=by
 obtain⟨ss,h1,h2,h3⟩:=h.it
 exact⟨h.ne,ss,h1,h2.ext fun id hi=>hk id (h2.low hw hi).1 (h2.low hw hi).2,fun j s w hs hw'=>(h3 j s w hs hw').ext fun id hi=>hk id ((h3 j s w hs hw').low hw hi).1 ((h3 j s w hs hw').low hw hi).2⟩
theorem QAX {base lb:Nat} {R:Nat→Qa→Prop} {l:List Ar} (hc:Cns base lb (Qc6 x.f l e w) LdV R Own) (hbase:base≤H.next) (hf:FOk x.f) (hx:x.At Hz) (ha:QS Hz va l) (hwz:Hz.Wf) (hva:∀n,Hz.next≤n→Qj n 6 (.agg #[.int .i64 op,va])=true) (hl:l.length≤1000) (hn:x.f.slots.length=l.length)
  (hwx:0≤w.x∧w.x<2) (hwh:0≤w.h∧w.h<2) (hy:x.f.vex=true→(vxF x.f l w.x w.h).Ok) (hwl:w.b.length≤1000) (hel:e.length≤2000)
  {H1:Qa} (hP:PfF Hz Hs H1 x op va p1 p2 p3 p4 s tl w e) (ho:PfO (Own H1) Hz p1 p2 p3 p4 s tl) (hR:R 0 H1) (hk:CK Own H H1)
  {A:Env} (r0:A 0=.func (.yield lb) #[] #[]) (r1:A 1=.pointer (some ⟨p1,0,none⟩)) (r2:A 2=.pointer (some ⟨p2,0,none⟩)) (r3:A 3=.pointer (some ⟨p3,0,none⟩)) (r4:A 4=.pointer (some ⟨p4,0,none⟩)) (r6:A 6=.int .i64 (Qmq l w)) (r7:A 7=.int .u8 (Qco x.f l)):
  Qp prog Yg ⟨Rt prog GN H fun u H'=>R (Qc6 x.f l e w).length H'∧CK Own H H',YH⟩ (Rt prog GN H fun u H'=>R (Qc6 x.f l e w).length H'∧CK Own H H') A H1:=by
 obtain⟨hz,hw1,g1,g2,g3,g4,hs,ht⟩:=id hP
 have e10:x.cells.take 10=x.cells:=rfl
 have l10:10≤x.cells.length:=Nat.le_refl _
 obtain⟨sa,sc,rfl⟩:=hs.slc
 obtain⟨a0,cap,rfl⟩:=QY ha
 simp only[Yg,QBD,simprocAttr,r1,r2,r3,g1,g2,g3,List.drop_zero,e10]
 refine⟨l10,?_⟩
 have hva:=fun n (h:H1.next≤n)=>hva n (Nat.le_trans hz.next h)
 refine(Qmf hf H1 (hx.ext hwz hz) (ha.ext hwz hz) hva hl hn hwx hwh hy).thenW ?_
 rintro v H2 hn2 hw2 ⟨hv2,hx2⟩
 obtain⟨va2,vc2,rfl⟩:=hv2.slc
 obtain⟨hR2,hO2⟩:=hc.ext _ _ _ hR hw1 hx2
 have hk2:=hc.ck hR hw1 hx2 hw2
 have hP2:=hP.ck ho hk2
 obtain⟨hdl,hde⟩:=Qn1 x.f l w.x w.h
 generalize hhd:Qc5 x.f l w.x w.h=hd at *
 simp only[QBD,simprocAttr,Qw]
 refine Qy (fun m A' H'=>∃i:Nat,i≤hd.length∧m=hd.length - i∧R i H'∧CK Own H2 H'∧A' 0=.func (.yield lb) #[] #[]∧A' 2=.pointer (some ⟨p2,0,none⟩)∧A' 4=.pointer (some ⟨p4,0,none⟩)∧A' 6=.int .i64 (Qmq l w)∧A' 7=.int .u8 (Qco x.f l)∧A' 35=.slice va2 hd.length vc2∧A' 36=.int .i64 hd.length∧A' 37=.int .i64 i) hd.length ?_ ?_
 ·refine⟨0,Nat.zero_le _,by omega,hR2,hc.ck hR2 hw2 (.refl _) hw2,?_,?_,?_,?_,?_,?_,?_,?_⟩
  all_goals simp only[QBE,simprocAttr,r0,r2,r4,r6,r7]
  all_goals rfl
 ·rintro m A' H' ⟨i,hi,rfl,hRi,hk3,r0,r2,r4,r6,r7,r35,r36,r37⟩
  have hw3:=hk3.w
  simp only[Jy,QBD,simprocAttr,r36,r37]
  refine Qg (fun h2=>?_) (fun h2=>?_)
  ·have h2:i<hd.length:=by have:=of_decide_eq_true h2;omega
   simp only[Jx,QBD,simprocAttr,r0,r2,r4,r6,r7,r35,r36,r37]
   obtain⟨ss,hsl,hgss,hgs⟩:=hv2.it
   obtain⟨b,hb1,rfl,hgb⟩:∃b,H1.next≤b∧va2=some ⟨b,0,none⟩∧H2.get b=some (.cells ss WT false):=by
    rcases hgss with⟨h,h',_⟩ | ⟨b,c,h,q1,q2,_⟩
    ·omega
    ·cases h;exact⟨b,q1,rfl,q2⟩
   have hno:∀id,H1.next≤id→¬Own H2 id:=fun id h1 h2=>by have:=hc.low _ _ _ hR (hO2 _ h2);omega
   have hgb3:H'.get b=some (.cells ss WT false):=by rw[hk3.keep _ (hw2.lt hgb) (hno _ hb1)];exact hgb
   obtain⟨sv,hsv⟩:∃sv,ss[i]? = some sv:=⟨_,List.getElem?_eq_getElem (by omega)⟩
   obtain⟨hi0,hhi⟩:∃h0,hd[i]? = some h0:=⟨_,List.getElem?_eq_getElem h2⟩
   have hs3:=(hgs i sv hi0 hsv hhi).ext (H':=H') fun id hid=>hk3.keep id ((hgs i sv hi0 hsv hhi).low hw2 hid).2 (hno _ ((hgs i sv hi0 hsv hhi).low hw2 hid).1)
   have hil:=hde hi0 (List.mem_of_getElem? hhi)
   have d1:(0:Int)≤i∧(i:Int)<hd.length:=by omega
   have d3:(i:Int).toNat=i:=by omega
   have ei:IntKind.i64.wrap ((i:Int)+1)=((i+1:Nat):Int):=by rw[w64 (by unfold I64;omega)];omega
   obtain⟨ai,ci,rfl⟩:=hs3.slc
   have hl3:hi0.length<UNK:=by unfold UNK;omega
   obtain⟨af,hfs,hff⟩:=QxS hs3 hl3
   have hty:Qwv prog WT 1=true:=by kernel_rfl
   have hP3:=hP2.ck (ho.sub hO2) hk3
   simp only[QBD,simprocAttr,d1,d3,hgb3,hsv,Qw]
   rw[QsB (k1:=.i64) (k2:=.i64) (n:=(hi0.length:Int)) (u:=.slice ai hi0.length ci) hty (by simp only[QBE,simprocAttr]) (by simp only[QBE,simprocAttr]) (by simp only[QBE,simprocAttr]) hfs]
   simp only[QBD,simprocAttr,r7]
   have hx4:=(Ext.refl H').push (.cells [.int .u8 (Qco x.f l)] 5 false)
   have hw4:=hw3.push (.cells [.int .u8 (Qco x.f l)] 5 false)
   have hg4:=Qmp H' (Qco x.f l)
   generalize H'.push _=H4 at *
   refine Qwh (hff.go hw3 hx4) ⟨af,rfl⟩ hw4 hg4.src (Qa2 _) (by decide) (by rw[YE];rfl) (by omega) (by omega) hl3 ?_
   rintro v5 H5 hg5 hx5 hw5 ⟨b5,rfl⟩
   have g52:=hP3.g2
   have hx35:=hx4.trans hx5
   have h53:H5.get p2=some (.cells [.slice sa w.b.length sc,.int .i64 w.x,.int .i64 w.h] Qm false):=by rw[hx35.get _ (hw3.lt g52)];exact g52
   have hs5:=hP3.s.go hw3 hx35
   simp only[QBD,simprocAttr,r2,h53]
   refine Qbn hg5 hx5 hw5 hs5.src (Qa2 _) (by rw[YE,Nat.mul_one]) (by omega) (by omega) ?_
   intro v6 H6 hg6 hk6
   have hx36:=hx4.trans hk6.x
   have g64:H6.get p4=some (.cells [tl] WT false):=by rw[hx36.get _ (hw3.lt hP3.g4)];exact hP3.g4
   have ht6:=hP3.t.go hw3 hx36
   simp only[QBD,simprocAttr,r4,g64]
   refine Qbn hg6 hk6.x hk6.w ht6.src (Qa2 _) (by rw[YE,Nat.mul_one]) (by omega) (by omega) ?_
   intro v7 H7 hg7 hk7
   have hx37:=hx4.trans hk7.x
   obtain⟨a7,c7,rfl⟩:=hg7.slc
   have hi7:(Qc6 x.f l e w)[i]? = some ⟨hi0++[Qco x.f l]++w.b++e,0,Qmq l w⟩:=by unfold Qc6;rw[List.getElem?_map,hhd,hhi];rfl
   obtain⟨hR7,hO7⟩:=hc.ext _ _ _ hRi hw3 hx37
   simp only[QBD,simprocAttr,r0,r6,Vj]
   refine Qfc (hc.go _ _ H' H7 _ hi7 hR7 ⟨_,rfl,?_⟩ (by have:=hk.next;have:=hk2.next;have:=hk3.next;omega) hx37 hO7) ?_
   ·have e1:(hi0++[Qco x.f l]++w.b++e).length=hi0.length+1+w.b.length+e.length:=by simp only[List.length_append,List.length_cons,List.length_nil]
    have e2:bys (hi0++[Qco x.f l]++w.b++e)=bys hi0++bys [Qco x.f l]++bys w.b++bys e:=by rw[Vd,Vd,Vd]
    show Gx 1 5 H' H7 _ (hi0++[Qco x.f l]++w.b++e).length (bys (hi0++[Qco x.f l]++w.b++e))
    rw[e1,e2]
    exact hg7.down hx4.next
   rintro _ H8 hn8 hw8 ⟨rfl,hR8,hk8⟩
   simp only[QBD,simprocAttr,Bool.not_true,r37,ei]
   refine⟨hd.length - (i+1),by omega,i+1,by omega,rfl,hR8,(hk3.trans (hc.ck hRi hw3 hx37 hk7.w)).trans hk8,?_,?_,?_,?_,?_,?_,?_,?_⟩
   all_goals simp only[QBE,simprocAttr,r0,r2,r4,r6,r7,r35,r36]
  ·have h2:i=hd.length:=by have:=of_decide_eq_false h2;omega
   subst h2
   simp only[QBD,simprocAttr,QdP]
   have hkk:=(hk.trans hk2).trans hk3
   exact .mk hkk.next ⟨by unfold Qc6;rw[List.length_map,hhd];exact hRi,hkk⟩
theorem QqO {base lb:Nat} {R:Nat→Qa→Prop} {l:List Ar} (hc:Cns base lb (Qc6 x.f l e w) LdV R Own) (hbase:base≤H.next) (hf:FOk x.f) (hx:x.At Hz) (ha:QS Hz va l) (hwz:Hz.Wf) (hva:∀n,Hz.next≤n→Qj n 6 (.agg #[.int .i64 op,va])=true) (hl:l.length≤1000) (hn:x.f.slots.length=l.length)
  (hwx:0≤w.x∧w.x<2) (hwh:0≤w.h∧w.h<2) (hy:x.f.vex=true→(vxF x.f l w.x w.h).Ok) (hwl:w.b.length≤1000) (hel:e.length≤2000)
  (hP:PfF Hz Hs H x op va p1 p2 p3 p4 s tl w e) (ho:PfO (Own H) Hz p1 p2 p3 p4 s tl) (hR:R 0 H):
  Qe prog Wx [.func (.yield lb) #[] #[],.pointer (some ⟨p1,0,none⟩),.pointer (some ⟨p2,0,none⟩),.pointer (some ⟨p3,0,none⟩),.pointer (some ⟨p4,0,none⟩)] H fun u H'=>R (Qc6 x.f l e w).length H'∧CK Own H H':=by
 refine Qez fun hw=>?_
 obtain⟨hz,hw1,g1,g2,g3,g4,hs,ht⟩:=id hP
 have e10:x.cells.take 10=x.cells:=rfl
 have l10:10≤x.cells.length:=Nat.le_refl _
 have x5:x.cells[5]? = some (.int .i64 x.f.code):=rfl
 obtain⟨sa,sc,rfl⟩:=hs.slc
 obtain⟨a0,cap,rfl⟩:=QY ha
 simp only[K5,QBD,simprocAttr,g1,g2,g3,List.drop_zero,e10]
 refine⟨hw.lt g3,?_⟩
 refine(QdQ H (ha.ext hwz hz) hl hs hwl).thenW ?_
 rintro _ H2 hn2 hw2 ⟨rfl,hx2⟩
 obtain⟨hR2,hO2⟩:=hc.ext _ _ _ hR hw hx2
 have hk2:=hc.ck hR hw hx2 hw2
 have hP2:=hP.ck ho hk2
 have ho2:=ho.sub hO2
 obtain⟨hz2,_,g12,g22,g32,g42,hs2,ht2⟩:=id hP2
 simp only[QBD,simprocAttr,g32,x5,List.drop_zero,e10]
 refine⟨hx2.eqB,by simp[Qj,Ab.plain],l10,?_⟩
 refine(QU x 4 H2 (hx.ext hwz hz2)).thenW ?_
 rintro _ _ hn3 hw3 ⟨rfl,k,rfl⟩
 have hx3:Ext H2 (H2.up k):=(Ext.refl H2).up hn3
 obtain⟨hR3,hO3⟩:=hc.ext _ _ _ hR2 hw2 hx3
 have hk3:=hc.ck hR2 hw2 hx3 hw3
 have hP3:=hP2.ck ho2 hk3
 have ho3:=ho2.sub hO3
 obtain⟨hz3,_,g13,g23,g33,g43,hs3,ht3⟩:=id hP3
 generalize H2.up k=H3 at *
 have hlt:=QqF x.f.slots 4
 have ec:Qco x.f l=if 0≤QB x.f.slots 4 then IntKind.u8.wrap (IntKind.u8.wrap x.f.code+IntKind.u8.wrap (W6 (l[(QB x.f.slots 4).toNat]?.getD WE).r)) else IntKind.u8.wrap x.f.code:=rfl
 simp only[QBD,simprocAttr]
 refine Qg (fun h=>?_) (fun h=>?_)
 ·have h0:0≤QB x.f.slots 4:=of_decide_eq_true h
  rw[if_pos h0]at ec
  obtain⟨j,hj⟩:∃j:Nat,QB x.f.slots 4=j:=⟨(QB x.f.slots 4).toNat,by omega⟩
  rw[hj]at hlt ec ⊢
  obtain⟨c,haj⟩:∃c,l[j]? = some c:=⟨_,List.getElem?_eq_getElem (by omega)⟩
  have hgj:l[(j:Int).toNat]?.getD WE=c:=by rw[show(j:Int).toNat=j by omega,haj];rfl
  rw[hgj]at ec
  obtain⟨b,e',ro,eqa,hgb0⟩:=(show 0<l.length→∃b e' ro,a0=some ⟨b,0,none⟩∧Hz.get b=some (.cells (Qi l) e' ro) by obtain⟨_,_,e0,h1⟩:=ha;cases e0;exact h1) (by omega)
  subst eqa
  have hgb:H3.get b=some (.cells (Qi l) e' ro):=by rw[hz3.get b (hwz.lt hgb0)];exact hgb0
  have d1:(0:Int)≤j∧(j:Int)<l.length:=by omega
  have d3:(j:Int).toNat=j:=by omega
  have hrg:=Qc4 haj
  have hle:j * 11+1+2≤(Qi l).length:=by rw[QV];omega
  have q:=Kz c.r
  simp only[Rg.cells]at q
  simp only[QBD,simprocAttr,g13,d1,d3,hgb,hrg]
  refine⟨hle,?_⟩
  refine(q H3).thenW ?_
  rintro _ _ hn4 hw4 ⟨rfl,k4,rfl⟩
  have hx4:Ext H3 (H3.up k4):=(Ext.refl H3).up hn4
  obtain⟨hR4,hO4⟩:=hc.ext _ _ _ hR3 hw3 hx4
  have hk4:=hc.ck hR3 hw3 hx4 hw4
  simp only[QBD,simprocAttr]
  refine QAX hc hbase hf hx ha hwz hva hl hn hwx hwh hy hwl hel (hP3.ck ho3 hk4) (ho3.sub hO4) hR4 ((hk2.trans hk3).trans hk4) ?_ ?_ ?_ ?_ ?_ ?_ ?_
  all_goals simp only[QBE,simprocAttr]
  rw[ec]
 ·rw[if_neg (by have:=of_decide_eq_false h;omega)]at ec
  simp only[QBD,simprocAttr]
  refine QAX hc hbase hf hx ha hwz hva hl hn hwx hwh hy hwl hel hP3 ho3 hR3 (hk2.trans hk3) ?_ ?_ ?_ ?_ ?_ ?_ ?_
  all_goals simp only[QBE,simprocAttr]
  rw[ec]
end
theorem Qmr:∀ (ss:List Value) (ws:List Ld) (i:Nat) (s:Value) (w:Ld),ss[i]? = some s→ws[i]? = some w→((ldC ss ws).drop (i * 3)).take 3=[s,.int .i64 w.x,.int .i64 w.h]
 | [],_,_,_,_,h,_=>by simp at h
 | _::_,[],_,_,_,_,h=>by simp at h
 | s::ss,w::ws,0,_,_,h1,h2=>by cases h1;cases h2;rfl
 | s::ss,w::ws,i+1,s',w',h1,h2=>by
  have e:ldC (s::ss) (w::ws)=[s,.int .i64 w.x,.int .i64 w.h]++ldC ss ws:=rfl
  rw[e,show(i+1) * 3=3+i * 3 by omega,← List.drop_drop]
  exact Qmr ss ws i s' w' h1 h2
structure Qx7 (base lb:Nat) (items:List Ld) (Hz:Qa) (x:Lf) (op:Int) (va:Value) (e:List Int) (R:Nat→Qa→Prop) (Own:Qa→Nat→Prop):Prop where
 ext:∀j H H',R j H→H.Wf→Ext H H'→R j H'∧∀id,Own H' id→Own H id
 low:∀j H id,R j H→Own H id→id<H.next
 go:∀j w H Hs p1 p2 p3 p4 s tl,items[j]? = some w→R j H→PfF Hz Hs H x op va p1 p2 p3 p4 s tl w e→PfO (Own H) Hz p1 p2 p3 p4 s tl→base≤H.next→YQ prog lb [.func (.func Wx) #[] #[.pointer (some ⟨p1,0,none⟩),.pointer (some ⟨p2,0,none⟩),.pointer (some ⟨p3,0,none⟩),.pointer (some ⟨p4,0,none⟩)]] H fun u H'=>u=.bool true∧R (j+1) H'∧CK Own H H'
theorem Qx7.ck {base lb:Nat} {items:List Ld} {Hz:Qa} {x:Lf} {op:Int} {va:Value} {e:List Int} {R:Nat→Qa→Prop} {Own:Qa→Nat→Prop} (h:Qx7 base lb items Hz x op va e R Own) {j:Nat} {H H':Qa} (hR:R j H) (hw:H.Wf) (hx:Ext H H') (hw':H'.Wf):CK Own H H':=
 ⟨hx.next,hw',fun id hid _=>hx.get id hid,fun id hid=>.inl ((h.ext j H H' hR hw hx).2 id hid)⟩
theorem Wh.keep2 {e:TypeId} {H0 H H':Qa} {v:Value} {ws:List Ld} (h:Wh e H0 H v ws) (hw:H.Wf) (hk:∀id,H0.next≤id→id<H.next→H'.get id=H.get id):Wh e H0 H' v ws:=by
 obtain⟨ss,h1,h2,h3⟩:=h.it
 exact⟨ss,h1,h2.ext fun id hi=>hk id (h2.low hw hi).1 (h2.low hw hi).2,fun j s w hs hw'=>(h3 j s w hs hw').ext fun id hi=>hk id ((h3 j s w hs hw').low hw hi).1 ((h3 j s w hs hw').low hw hi).2⟩
theorem Qx8 {base lb pf pi:Nat} {x:Lf} {op:Int} {va:Value} {l:List Ar} {Hz H:Qa} {R:Nat→Qa→Prop} {Own:Qa→Nat→Prop} (hc:Qx7 base lb (XC x.f l) Hz x op va (GS x.f op l) R Own) (hbase:base≤H.next) (hx:x.At Hz) (hf0:x.Fr 0) (ha:QS Hz va l) (hwz:Hz.Wf) (hva:∀n,Hz.next≤n→Qj n 6 (.agg #[.int .i64 op,va])=true) (hl:l.length≤1000) (hI:∀a∈l,I64 a.n) (hn:x.f.slots.length=l.length) (hpl:(XC x.f l).length≤1000)
  (hz:Ext Hz H) (hzo:∀id,id<Hz.next→¬Own H id) (gf:H.get pf=some (.cells x.cells Qc false)) (gi:H.get pi=some (.cells [.int .i64 op,va] Qb false)) (of:¬Own H pf) (oi:¬Own H pi) (hR:R 0 H):
  Qe prog Yk [.func (.yield lb) #[] #[],.pointer (some ⟨pf,0,none⟩),.pointer (some ⟨pi,0,none⟩)] H fun u H'=>R (XC x.f l).length H'∧CK Own H H':=by
 refine Qjc fun hw=>?_
 have e10:x.cells.take 10=x.cells:=rfl
 have l10:10≤x.cells.length:=Nat.le_refl _
 obtain⟨a0,cap,rfl⟩:=QY ha
 simp only[QbV,QBD,simprocAttr,gf,gi,List.drop_zero,e10]
 refine⟨l10,?_⟩
 refine(Qnn H (hx.ext hwz hz) hf0 (ha.ext hwz hz) hl hI hn).thenW ?_
 rintro tl H2 hn2 hw2 ⟨ht2,hx2⟩
 obtain⟨at2,ct2,rfl⟩:=ht2.slc
 have gf2:H2.get pf=some (.cells x.cells Qc false):=by rw[hx2.get _ (hw.lt gf)];exact gf
 have gi2:H2.get pi=some (.cells [.int .i64 op,.slice a0 l.length cap] Qb false):=by rw[hx2.get _ (hw.lt gi)];exact gi
 have hz2:=hz.trans hx2
 simp only[QBD,simprocAttr,gf2,gi2,List.drop_zero,e10]
 refine⟨l10,?_⟩
 refine(QkE H2 (hx.ext hwz hz2) (ha.ext hwz hz2) hl hn).thenW ?_
 rintro v3 H3 hn3 hw3 ⟨hv3,hx23⟩
 have hx3:=hx2.trans hx23
 have ht3:=ht2.go hw2 hx23
 obtain⟨hR3,hO3⟩:=hc.ext _ _ _ hR hw hx3
 have hk3:=hc.ck hR hw hx3 hw3
 have hv3:=hv3.down hx2.next
 have hnew:∀id,H.next≤id→¬Own H3 id:=fun id h1 h2=>by have:=hc.low _ _ _ hR (hO3 _ h2);omega
 obtain⟨va3,vc3,rfl⟩:=hv3.slc
 have hz3:=hz.trans hx3
 have gf3:H3.get pf=some (.cells x.cells Qc false):=by rw[hx3.get _ (hw.lt gf)];exact gf
 have gi3:H3.get pi=some (.cells [.int .i64 op,.slice a0 l.length cap] Qb false):=by rw[hx3.get _ (hw.lt gi)];exact gi
 generalize hpp:XC x.f l=W at *
 simp only[QBD,simprocAttr,Qw]
 refine Qy (fun m A' H'=>∃i:Nat,i≤W.length∧m=W.length - i∧R i H'∧CK Own H3 H'∧A' 0=.func (.yield lb) #[] #[]∧A' 1=.pointer (some ⟨pf,0,none⟩)∧A' 2=.pointer (some ⟨pi,0,none⟩)∧A' 4=.slice at2 (GS x.f op l).length ct2∧A' 12=.slice va3 W.length vc3∧A' 13=.int .i64 W.length∧A' 14=.int .i64 i) W.length ?_ ?_
 ·refine⟨0,Nat.zero_le _,by omega,hR3,hc.ck hR3 hw3 (.refl _) hw3,?_,?_,?_,?_,?_,?_,?_⟩
  all_goals simp only[QBE,simprocAttr]
  all_goals rfl
 ·rintro m A' H' ⟨i,hi,rfl,hRi,hk4,r0,r1,r2,r4,r12,r13,r14⟩
  have hw4:=hk4.w
  simp only[QBD,simprocAttr,r13,r14]
  refine Qg (fun h2=>?_) (fun h2=>?_)
  ·have h2:i<W.length:=by have:=of_decide_eq_true h2;omega
   obtain⟨ss,hsl,hgss,hgs⟩:=hv3.it
   obtain⟨b,hb1,rfl,hgb⟩:∃b,H.next≤b∧va3=some ⟨b,0,none⟩∧H3.get b=some (.cells (ldC ss W) Qm false):=by
    rcases hgss with⟨h,h',_⟩ | ⟨b,c,h,q1,q2,_⟩
    ·omega
    ·cases h;exact⟨b,q1,rfl,q2⟩
   have hgb3:H'.get b=some (.cells (ldC ss W) Qm false):=by rw[hk4.keep _ (hw3.lt hgb) (hnew _ hb1)];exact hgb
   obtain⟨sv,hsv⟩:∃sv,ss[i]? = some sv:=⟨_,List.getElem?_eq_getElem (by omega)⟩
   obtain⟨w,hwi⟩:∃w,W[i]? = some w:=⟨_,List.getElem?_eq_getElem h2⟩
   have hs3:=hgs i sv w hsv hwi
   have hs4:=hs3.ext (H':=H') fun id hid=>hk4.keep id (hs3.low hw3 hid).2 (hnew _ (hs3.low hw3 hid).1)
   have ht4:=ht3.ext (H':=H') fun id hid=>hk4.keep id (ht3.low hw3 hid).2 (hnew _ (ht3.low hw3 hid).1)
   have hat:=Qmr ss W i sv w hsv hwi
   have hll:(ldC ss W).length=W.length * 3:=by rw[QiD _ _ hsl]
   have d1:(0:Int)≤i∧(i:Int)<W.length:=by omega
   have d3:(i:Int).toNat=i:=by omega
   have ei:IntKind.i64.wrap ((i:Int)+1)=((i+1:Nat):Int):=by rw[w64 (by unfold I64;omega)];omega
   have gf4:H'.get pf=some (.cells x.cells Qc false):=by rw[hk4.keep _ (hw3.lt gf3) (fun h=>of (hO3 _ h))];exact gf3
   have gi4:H'.get pi=some (.cells [.int .i64 op,.slice a0 l.length cap] Qb false):=by rw[hk4.keep _ (hw3.lt gi3) (fun h=>oi (hO3 _ h))];exact gi3
   obtain⟨ai,ci,rfl⟩:=hs4.slc
   have lf:=hw4.lt gf4
   have li:=hw4.lt gi4
   have nf:¬pf=H'.next:=by omega
   have ni:¬pi=H'.next:=by omega
   simp only[QBD,simprocAttr,r0,r1,r2,r4,r12,r13,r14,d1,d3,hgb3,hat,nf,ni,if_false,gf4,gi4,List.drop_zero,e10]
   refine⟨by omega,l10,?_⟩
   generalize hH5:(H'.push _).set H'.next _=H5
   have hx5:Ext H' H5:=by rw[← hH5];exact((Ext.refl H').push _).set (Nat.le_refl _) _
   have hw5:H5.Wf:=by rw[← hH5];exact(hw4.push _).set (b0:=.cells [.slice none 0 0,.int .i64 0,.int .i64 0] Qm false) (by rw[Qa.get_push,if_pos rfl]) _
   clear hH5
   refine(QiE H5 rfl rfl).thenW ?_
   rintro _ H6 hn6 hw6 ⟨rfl,hx56,hn56,g6f,g6i,g6l,g6t⟩
   have hx6:=hx5.trans hx56
   obtain⟨hR6,hO6⟩:=hc.ext _ _ _ hRi hw4 hx6
   have hk6:=(hk4.trans (hc.ck hRi hw4 hx6 hw6))
   have hno6:∀id,H'.next≤id→¬Own H6 id:=fun id h1 h2=>by have:=hc.low _ _ _ hRi (hO6 _ h2);omega
   have hnew6:∀id,H.next≤id→id<H3.next→¬Own H6 id:=fun id h1 h2 h3=>by
    rcases hk6.own id h3 with h4 | h4
    ·exact hnew id h1 h4
    ·omega
   have hz6:Ext Hz H6:=⟨by have:=hz3.next;have:=hk6.next;omega,fun id hid=>by rw[hk6.keep id (by have:=hz3.next;omega) (fun h=>hzo id hid (hO3 _ h))];exact hz3.get id hid⟩
   have hP:PfF Hz H H6 x op (.slice a0 l.length cap) (H5.next+1) (H5.next+2) H5.next (H5.next+3) (.slice ai w.b.length ci) (.slice at2 (GS x.f op l).length ct2) w (GS x.f op l):=⟨hz6,hw6,g6i,g6l,g6f,g6t,hs4.go hw4 hx6,ht4.go hw4 hx6⟩
   have hn5:=hx5.next
   have ho:PfO (Own H6) Hz (H5.next+1) (H5.next+2) H5.next (H5.next+3) (.slice ai w.b.length ci) (.slice at2 (GS x.f op l).length ct2):=
    ⟨fun id hid h=>by
     rcases hk6.own id h with h4 | h4
     ·exact hzo id hid (hO3 _ h4)
     ·have:=hz3.next;omega,
    hno6 _ (by omega),hno6 _ (by omega),hno6 _ (by omega),hno6 _ (by omega),fun id hid=>hnew6 id (hs3.low hw3 hid).1 (hs3.low hw3 hid).2,fun id hid=>hnew6 id (ht3.low hw3 hid).1 (ht3.low hw3 hid).2⟩
   simp only[QBD,simprocAttr,r0,Vj]
   refine Qfc (hc.go i w H6 H _ _ _ _ _ _ hwi hR6 hP ho (by have:=hk3.next;have:=hk6.next;omega)) ?_
   rintro _ H7 hn7 hw7 ⟨rfl,hR7,hk7⟩
   simp only[QBD,simprocAttr,Bool.not_true,r14,ei]
   refine⟨W.length - (i+1),by omega,i+1,by omega,rfl,hR7,hk6.trans hk7,?_,?_,?_,?_,?_,?_,?_⟩
   all_goals simp only[QBE,simprocAttr,r0,r1,r2,r4,r12,r13]
  ·have h2:i=W.length:=by have:=of_decide_eq_false h2;omega
   subst h2
   simp only[QBD,simprocAttr,QhN]
   have hkk:=hk3.trans hk4
   exact .mk hkk.next ⟨hRi,hkk⟩
theorem Gx.keepS {size:Nat} {e:TypeId} {H0 H H':Qa} {v:Value} {n:Nat} {cs:List Value} (h:Gx size e H0 H v n cs) (hk:∀id,H.get id≠none→H'.get id=H.get id):Gx size e H0 H' v n cs:=by
 rcases h with h | ⟨b,c,rfl,h2,h3,h4⟩
 ·exact .inl h
 ·exact .inr ⟨b,c,rfl,h2,by rw[hk b (by rw[h3];simp)];exact h3,h4⟩
theorem Wh.keepS {e:TypeId} {H0 H H':Qa} {v:Value} {ws:List Ld} (h:Wh e H0 H v ws) (hk:∀id,H.get id≠none→H'.get id=H.get id):Wh e H0 H' v ws:=by
 obtain⟨ss,h1,h2,h3⟩:=h.it
 exact⟨ss,h1,h2.keepS hk,fun j s w hs hw'=>(h3 j s w hs hw').keepS hk⟩
def QzH:PC:=.ops [Ow 8 (.alloc Qk [.slice none 0 0,.int .i64 0,.int .i64 0]),Ov (.st 3 (t 8) (t 18))]
def QzI:PC:=.block 3 (.ops [Ow 19 (.ld false 1 (t 6)),Ow 20 (.ld true 3 (t 8)),Ow 21 (.bslice Qk 3 1 [.slice none 0 0,.int .i64 0,.int .i64 0] [(0,(t 20))]),Ow 22 (.app Qk 3 40 (t 19) (t 21)),Ov (.st 1 (t 6) (t 22))])
def lyR (Hb:Qa) (c m lB:Nat) (eC:TypeId) (bl:Blk) (W:List Ld) (j:Nat) (H':Qa):Prop:=
 H'.get lB=some bl∧lB<H'.next∧Hb.next≤H'.next∧(∀id,id<Hb.next→id≠c→id≠m→H'.get id=Hb.get id)∧∃v,H'.get c=some (.cells [v] eC false)∧Wh Qk Hb (H'.kill lB) v (W.take j)∧∀id,inB v id→id<H'.next∧Hb.next≤id∧id≠lB
section
variable {Hb:Qa} {c m lB:Nat} {eC:TypeId} {bl:Blk} {W:List Ld}
theorem QtJ (hc:c<Hb.next) {j:Nat} {H1 H2:Qa} (h:lyR Hb c m lB eC bl W j H1) (hw:H1.Wf) (hx:Ext H1 H2):lyR Hb c m lB eC bl W j H2∧∀id,clO c lB eC H2 id→clO c lB eC H1 id:=by
 obtain⟨h1,hl,h2,h3,v,h5,h6,h7⟩:=h
 have hn:=hx.next
 have e5:=hx.get c (by omega)
 refine⟨⟨by rw[hx.get lB hl];exact h1,by omega,by omega,fun id a b d=>by rw[hx.get id (by omega)];exact h3 id a b d,v,by rw[e5];exact h5,h6.keepS fun id hid=>?_,fun id hi=>?_⟩,fun id hi=>?_⟩
 ·rw[Qa.get_kill]at hid
  rw[Qa.get_kill,Qa.get_kill]
  by_cases he:id=lB
  ·rw[if_pos he,if_pos he]
  ·rw[if_neg he]at hid
   rw[if_neg he,if_neg he]
   refine hx.get id ?_
   rcases Nat.lt_or_ge id H1.next with h | h
   ·exact h
   ·exact absurd (hw id h) hid
 ·have:=h7 id hi
  exact⟨by omega,this.2⟩
 ·rcases hi with h | h | ⟨v',h,hi⟩
  ·exact .inl h
  ·exact .inr (.inl h)
  ·exact .inr (.inr ⟨v',by rw[← e5];exact h,hi⟩)
theorem QtK (hc:c<Hb.next) {j:Nat} {H1:Qa} (h:lyR Hb c m lB eC bl W j H1) {id:Nat} (hi:clO c lB eC H1 id):id<H1.next:=by
 obtain⟨h1,hl,h2,h3,v,h5,h6,h7⟩:=h
 rcases hi with rfl | rfl | ⟨v',h,hi⟩
 ·omega
 ·omega
 ·rw[h5]at h
  cases h
  exact(h7 id hi).1
theorem QzJ {L:Option Code→Blk} {A:Env} (hc:c<Hb.next) (hcl:c≠lB) (hml:m=lB∨Hb.next≤lB) (hW:W.length≤1000) (hY:YR prog L [18] QzH QzI A) (r6:A 6=.pointer (some ⟨c,0,none⟩)) {n0 base:Nat} {items:List Ld} (hb:Hb.next≤base) (hlb:lB<base) (hit:∀ (i:Nat) w,items[i]? = some w→W[n0+i]? = some w):
  Cns base lB items LdV (fun i=>lyR Hb c m lB eC (L none) W (n0+i)) (clO c lB eC):=by
 refine⟨fun j Ha Hc h hwa hx=>QtJ hc h hwa hx,fun j Ha id h hi=>QtK hc h hi,?_⟩
 rintro j w H0' H1' v0 hj hR ⟨s,rfl,hs⟩ hb0 hx0 hO hw1'
 obtain⟨h1,hl,h2,h3,v,h5,h6,h7⟩:=hR
 refine hY lB _ H1' _ h1 rfl ?_ hw1'
 have hj':=hit j w hj
 have hjl:=(List.getElem?_eq_some_iff.1 hj').1
 have kk:∀id,id≠lB→(H1'.kill lB).get id=H1'.get id:=fun id hid=>by rw[Qa.get_kill,if_neg hid]
 have kn:(H1'.kill lB).get lB=none:=by rw[Qa.get_kill,if_pos rfl]
 have hnk:(H1'.kill lB).next=H1'.next:=rfl
 have hwk:(H1'.kill lB).Wf:=hw1'.kill _
 have k5:=(kk c hcl).trans h5
 have ks:Gx 1 5 Hb (H1'.kill lB) s w.b.length (bys w.b):=(hs.down (H0:=Hb) (by omega)).ext fun id hid=>kk id (by have:=hs.low hw1' hid;omega)
 have k3:∀id,id<Hb.next→id≠c→id≠m→id≠lB→(H1'.kill lB).get id=Hb.get id:=fun id a b d e=>(kk id e).trans (h3 id a b d)
 generalize hHk:H1'.kill lB=Hk at *
 obtain⟨a,cp,rfl⟩:=ks.slc
 obtain⟨av,cv,rfl⟩:=h6.slc
 have nz:¬c=Hk.next:=by omega
 simp only[QzH,QzI,Qgp,Qi0,QBD,simprocAttr,nz,if_false,k5,r6]
 generalize hH5:Qa.push (Qa.set (Qa.push Hk _) _ _) _=H5
 have hx5:Ext Hk H5:=by rw[← hH5];exact(((Ext.refl Hk).push _).set (Nat.le_refl _) _).push _
 have hw5:H5.Wf:=by rw[← hH5];exact((hwk.push _).set (b0:=.cells [.slice none 0 0,.int .i64 0,.int .i64 0] Qk false) (by rw[Qa.get_push,if_pos rfl]) _).push _
 have g5:H5.get (Hk.next+1)=some (.cells [.slice a w.b.length cp,.int .i64 w.x,.int .i64 w.h] Qk false):=by rw[← hH5,Qa.get_push,if_pos (by rw[Qa.next_set,Qa.next_push])]
 have hn5:H5.next=Hk.next+2:=by rw[← hH5,Qa.next_push,Qa.next_set,Qa.next_push]
 clear hH5
 have hsrc:Jh 3 (.slice (some ⟨Hk.next+1,0,none⟩) 1 1) H5=some (1,[.slice a w.b.length cp,.int .i64 w.x,.int .i64 w.h]):=by
  rw[Qam g5 (by decide) (by simp)];rfl
 have hlt:(W.take (n0+j)).length≤1000:=by rw[List.length_take];omega
 obtain⟨Hz,hxz,hnz⟩:∃Hz:Qa,Ext Hz H5∧Hz.next=Hb.next:=⟨⟨Hb.next,H5.tr⟩,⟨by show Hb.next≤H5.next;omega,fun id _=>rfl⟩,rfl⟩
 have hlz:Wh Qk Hz H5 (.slice av (W.take (n0+j)).length cv) (W.take (n0+j)):=(h6.go hwk hx5).down (by omega)
 have hsz:Gx 1 5 Hz H5 (.slice a w.b.length cp) w.b.length (bys w.b):=(ks.go hwk hx5).down (by omega)
 refine QsA (by decide) hlz hxz hw5 hsz hsrc (by omega) (by omega) ?_
 intro v' H6 hl6 hk6
 obtain⟨a',c',rfl⟩:=hl6.slc
 have htk:W.take (n0+(j+1))=W.take (n0+j)++[w]:=by rw[← Nat.add_assoc,List.take_add_one,hj'];rfl
 rw[← htk]at hl6 hk6 ⊢
 have h65:∀id,id<Hb.next→H6.get id=H5.get id:=fun id hid=>(hk6.x.get id (by omega)).trans (hxz.get id (by omega)).symm
 have k6c:H6.get c=some (.cells [.slice av (W.take (n0+j)).length cv] eC false):=by rw[h65 _ hc,hx5.get _ (by omega)];exact k5
 have hnk6:=hk6.next
 have k6n:H6.get lB=none:=by
  rw[hk6.keep lB (by omega) (fun h=>(h7 lB h).2.2 rfl),hx5.get _ (by omega)];exact kn
 simp only[QBD,simprocAttr,Qgo,r6,k6c]
 refine⟨by omega,⟨by rw[Qa.get_set,if_pos rfl],by rw[Qa.next_set,Qa.next_set];omega,by rw[Qa.next_set,Qa.next_set];omega,fun id p q r=>?_,.slice a' (W.take (n0+(j+1))).length c',?_,?_,fun id hi=>?_⟩,⟨by rw[Qa.next_set,Qa.next_set];omega,?_,fun id p q=>?_,fun id hi=>?_⟩⟩
 ·have hlb:id≠lB:=by rcases hml with h | h;rw[← h];exact r;omega
  rw[Qa.get_set,if_neg hlb,Qa.get_set,if_neg q,h65 _ p,hx5.get _ (by omega)]
  exact k3 id p q r hlb
 ·rw[Qa.get_set,if_neg hcl,Qa.get_set,if_pos rfl]
 ·refine Wh.keep2 (H0:=Hb) (H:=H6) (hl6.down (by omega)) hk6.w fun id hid hid2=>?_
  rw[Qa.get_kill]
  by_cases he:id=lB
  ·rw[if_pos he,he,k6n]
  ·rw[if_neg he,Qa.get_set,if_neg he,Qa.get_set,if_neg (by omega)]
 ·obtain⟨ss,_,hg,_⟩:=hl6.it
  have:=hg.low hk6.w hi
  rw[Qa.next_set,Qa.next_set]
  refine⟨this.2,by omega,fun he=>?_⟩
  rcases hk6.new id hi with h | h
  ·exact(h7 id h).2.2 he
  ·omega
 ·intro id hid
  rw[Qa.next_set,Qa.next_set]at hid
  rw[Qa.get_set,if_neg (by omega),Qa.get_set,if_neg (by omega)]
  exact hk6.w id hid
 ·have q1:id≠c:=fun h=>q (.inl h)
  have q2:id≠lB:=fun h=>q (.inr (.inl h))
  have q3:¬inB (.slice av (W.take (n0+j)).length cv) id:=fun h=>q (.inr (.inr ⟨_,h5,h⟩))
  rw[Qa.get_set,if_neg q2,Qa.get_set,if_neg q1,hk6.keep id (by omega) q3,hx5.get _ (by omega),kk id q2]
 ·rcases hi with h | h | ⟨v'',h,hi⟩
  ·exact .inl (.inl h)
  ·exact .inl (.inr (.inl h))
  ·rw[Qa.get_set,if_neg hcl,Qa.get_set,if_pos rfl]at h
   cases h
   rcases hk6.new id hi with h | h
   ·exact .inl (.inr (.inr ⟨_,h5,h⟩))
   ·exact .inr (by omega)
end
def QAY:PC:=.ops [Om 7 (t 16)]
def QAZ:PC:=.block 1 (.seq (.ops [Om 17 (t 7)]) (.block 2 (.rangeF (t 17) [18] QzH QzI)))
def QqP (f:Ld→List Ld) (P:List Ld) (j:Nat):Nat:=((P.take j).flatMap f).length
theorem QzK {f:Ld→List Ld} {P:List Ld} {j:Nat} {w:Ld} (h:P[j]? = some w):QqP f P (j+1)=QqP f P j+(f w).length∧∀ (i:Nat) y,(f w)[i]? = some y→(P.flatMap f)[QqP f P j+i]? = some y:=by
 have h1:P.take (j+1)=P.take j++[w]:=by rw[List.take_add_one,h];rfl
 refine⟨by unfold QqP;rw[h1,List.flatMap_append,List.length_append];simp,fun i y hy=>?_⟩
 have hj:=(List.getElem?_eq_some_iff.1 h).1
 have h2:P.flatMap f=(P.take j).flatMap f++(f w++(P.drop (j+1)).flatMap f):=by
  conv=>lhs;rw[← List.take_append_drop (j+1) P]
  rw[List.flatMap_append,h1,List.flatMap_append];simp
 have hi:=(List.getElem?_eq_some_iff.1 hy).1
 rw[h2]
 unfold QqP
 rw[List.getElem?_append_right (Nat.le_add_right _ _),Nat.add_sub_cancel_left,List.getElem?_append_left hi]
 exact hy
section
variable {Hb:Qa} {c m:Nat} {eC:TypeId}
theorem QzL {L:Option Code→Blk} {A:Env} {x:Lf} {op:Int} {va:Value} {l:List Ar} {e:List Int} {Hz:Qa} {P:List Ld} (hc:c<Hb.next) (hm:m<Hb.next) (hcm:c≠m) (hW:(P.flatMap (Qc6 x.f l e)).length≤1000) (hY:YR prog L [16] QAY QAZ A) (r6:A 6=.pointer (some ⟨c,0,none⟩))
  (hf:FOk x.f) (hx:x.At Hz) (ha:QS Hz va l) (hwz:Hz.Wf) (hva:∀n,Hz.next≤n→Qj n 6 (.agg #[.int .i64 op,va])=true) (hl:l.length≤1000) (hn:x.f.slots.length=l.length) (hel:e.length≤2000)
  (hP:∀w∈P,(0≤w.x∧w.x<2)∧(0≤w.h∧w.h<2)∧(x.f.vex=true→(vxF x.f l w.x w.h).Ok)∧w.b.length≤1000):
  Qx7 Hb.next m P Hz x op va e (fun j=>lyR Hb c m m eC (L none) (P.flatMap (Qc6 x.f l e)) (QqP (Qc6 x.f l e) P j)) (clO c m eC):=by
 refine⟨fun j Ha Hc h hwa hx=>QtJ hc h hwa hx,fun j Ha id h hi=>QtK hc h hi,?_⟩
 rintro j w H Hs p1 p2 p3 p4 s tl hj hR hF hO hbase
 obtain⟨h1,hl1,h2,h3,v,h5,h6,h7⟩:=id hR
 intro hw0
 refine hY m _ H _ h1 rfl ?_ hw0
 have om:clO c m eC H m:=.inr (.inl rfl)
 have kk:∀id,id≠m→(H.kill m).get id=H.get id:=fun id hid=>by rw[Qa.get_kill,if_neg hid]
 have kn:(H.kill m).get m=none:=by rw[Qa.get_kill,if_pos rfl]
 have hnk:(H.kill m).next=H.next:=rfl
 have hwk:(H.kill m).Wf:=hF.wf.kill _
 generalize H.kill m=Hk at *
 simp only[QAY,QAZ,Qgp,Qi0,QBG,simprocAttr,QBE,simprocAttr,QcD]
 rw[QlD Wx [] [.pointer (some ⟨p1,0,none⟩),.pointer (some ⟨p2,0,none⟩),.pointer (some ⟨p3,0,none⟩),.pointer (some ⟨p4,0,none⟩)]]
 intro L2 hY2
 refine⟨by kernel_rfl,?_⟩
 have hxi:Ext Hk (Hk.push (L2 none)):=(Ext.refl Hk).push _
 have hni:(Hk.push (L2 none)).next=H.next+1:=by rw[Qa.next_push,hnk]
 have gi:(Hk.push (L2 none)).get Hk.next=some (L2 none):=by rw[Qa.get_push,if_pos rfl]
 have hwi:=hwk.push (L2 none)
 generalize Hk.push (L2 none)=Hi at *
 have ki:∀id,id≠m→id<H.next→Hi.get id=H.get id:=fun id h1 h2=>by rw[hxi.get id (by omega),kk id h1]
 have gic:Hi.get c=some (.cells [v] eC false):=by rw[ki c hcm (by omega)];exact h5
 have nown:∀id,id<H.next→¬clO c m eC H id→¬clO c Hk.next eC Hi id:=fun id q1 q2 q3=>by
  rcases q3 with q | q | ⟨v',q,q'⟩
  ·exact q2 (.inl q)
  ·omega
  ·rw[gic]at q;cases q;exact q2 (.inr (.inr ⟨_,h5,q'⟩))
 have ne:∀ {id},¬clO c m eC H id→id≠m:=fun q h=>q (h▸om)
 have hFi:PfF Hz Hs Hi x op va p1 p2 p3 p4 s tl w e:=
  ⟨⟨by have:=hF.z.next;omega,fun id hid=>by rw[ki id (ne (hO.z id hid)) (by have:=hF.z.next;omega)];exact hF.z.get id hid⟩,hwi,by rw[ki _ (ne hO.o1) (hF.wf.lt hF.g1)];exact hF.g1,by rw[ki _ (ne hO.o2) (hF.wf.lt hF.g2)];exact hF.g2,by rw[ki _ (ne hO.o3) (hF.wf.lt hF.g3)];exact hF.g3,by rw[ki _ (ne hO.o4) (hF.wf.lt hF.g4)];exact hF.g4,
   hF.s.ext fun id hi=>ki id (ne (hO.s id hi)) (hF.s.low hF.wf hi).2,hF.t.ext fun id hi=>ki id (ne (hO.t id hi)) (hF.t.low hF.wf hi).2⟩
 have hOi:PfO (clO c Hk.next eC Hi) Hz p1 p2 p3 p4 s tl:=⟨fun id q=>nown id (by have:=hF.z.next;omega) (hO.z id q),nown _ (hF.wf.lt hF.g1) hO.o1,nown _ (hF.wf.lt hF.g2) hO.o2,nown _ (hF.wf.lt hF.g3) hO.o3,nown _ (hF.wf.lt hF.g4) hO.o4,fun id q=>nown id (hF.s.low hF.wf q).2 (hO.s id q),fun id q=>nown id (hF.t.low hF.wf q).2 (hO.t id q)⟩
 obtain⟨hc1,hc2⟩:=QzK (f:=Qc6 x.f l e) hj
 obtain⟨hwx,hwh,hwv,hwl⟩:=hP w (List.mem_of_getElem? hj)
 generalize hWW:P.flatMap (Qc6 x.f l e)=W at *
 have hcns:=QzJ (Hb:=Hb) (c:=c) (m:=m) (lB:=Hk.next) (eC:=eC) (W:=W) (base:=Hi.next) hc (by omega) (.inr (by omega)) hW hY2 (by simp only[QBE,simprocAttr,r6]) (by omega) (by omega) hc2
 refine(QqO hcns (Nat.le_refl _) hf hx ha hwz hva hl hn hwx hwh hwv hwl hel hFi hOi ?_).thenW ?_
 ·refine⟨gi,by omega,by omega,fun id a b d=>by rw[ki id d (by omega)];exact h3 id a b d,v,gic,h6.keepS fun id hid=>?_,fun id hi=>?_⟩
  ·have hlt:id<Hk.next:=Nat.lt_of_not_le fun h=>hid (hwk id h)
   rw[Qa.get_kill,if_neg (by omega)]
   exact hxi.get id hlt
  ·have:=h7 id hi
   exact⟨by omega,this.2.1,by omega⟩
 ·rintro u H2 hn2 hw2 ⟨hR2,hk2⟩
  rw[← hc1]at hR2
  obtain⟨q1,q2,q3,q4,v',q5,q6,q7⟩:=id hR2
  refine⟨none,q1,?_⟩
  have hm2:H2.get m=none:=by
   rw[hk2.keep m (by omega) ?_,hxi.get m (by omega)]
   ·exact kn
   ·rintro(h | h | ⟨v'',h,h'⟩)
    ·exact hcm h.symm
    ·omega
    ·rw[gic]at h;cases h;have:=h7 m h';omega
  have gf:∀id,id≠m→id≠Hk.next→((H2.kill Hk.next).set m (L none)).get id=H2.get id:=fun id a b=>by rw[Qa.get_set,if_neg a,Qa.get_kill,if_neg b]
  have hnf:((H2.kill Hk.next).set m (L none)).next=H2.next:=rfl
  have gm:((H2.kill Hk.next).set m (L none)).get m=some (L none):=by rw[Qa.get_set,if_pos rfl]
  have hwf:((H2.kill Hk.next).set m (L none)).Wf:=fun id hid=>by
   rw[hnf]at hid
   rw[gf id (by omega) (by omega)];exact hw2 id hid
  have hkl:∀id,id≠m→id≠Hk.next→(((H2.kill Hk.next).set m (L none)).kill m).get id=H2.get id:=fun id a b=>by rw[Qa.get_kill,if_neg a];exact gf id a b
  simp only[QBD,simprocAttr,QiZ,Qgo]
  generalize (H2.kill Hk.next).set m (L none)=Hf at *
  have hn2':=hk2.next
  refine⟨by show H.next≤H2.next;omega,⟨gm,by omega,by omega,fun id a b d=>by rw[gf id d (by omega)];exact q4 id a b d,v',by rw[gf c hcm (by omega)];exact q5,q6.keepS fun id hid=>?_,fun id hi=>?_⟩,⟨by omega,hwf,fun id a b=>?_,fun id a=>?_⟩⟩
  ·rw[Qa.get_kill]at hid
   split at hid
   ·exact absurd rfl hid
   ·rename_i q
    have q':id≠m:=fun h=>hid (h▸hm2)
    rw[hkl id q' q,Qa.get_kill,if_neg q]
  ·have:=q7 id hi
   exact⟨by omega,this.2.1,by omega⟩
  ·rw[gf id (ne b) (by omega),hk2.keep id (by omega) (nown id a b),ki id (ne b) a]
  ·rcases a with a | a | ⟨v'',a,a'⟩
   ·exact .inl (.inl a)
   ·exact .inl (.inr (.inl a))
   ·rw[gf c hcm (by omega),q5]at a
    cases a
    rcases hk2.own id (.inr (.inr ⟨_,q5,a'⟩)) with h | h
    ·rcases h with h | h | ⟨v'',h,h'⟩
     ·exact .inl (.inl h)
     ·exact .inr (by omega)
     ·rw[gic]at h;cases h;exact .inl (.inr (.inr ⟨_,h5,h'⟩))
    ·exact .inr (by omega)
end
theorem Qfd {f:Fm} {op:Int} {l:List Ar} (h:Qmo f op l=true):f.op=op∧f.shapes.length=l.length∧Qjt f=0∧QX op l=0∧∀i,i<l.length→Qf6 (W0 op l) (l.getD i WE) (f.shapes.getD i 0)=true:=by
 unfold Qmo at h
 simp only[Bool.and_eq_true,beq_iff_eq,List.all_eq_true,List.mem_range]at h
 exact⟨h.1.1.1.1,h.1.1.1.2,h.1.1.2,h.1.2,h.2⟩
theorem QqQ (x:Int):∀ (l:List Int) (k:Nat),0≤JF l x k→(k:Int)≤JF l x k∧l.getD ((JF l x k).toNat - k) 0=x
 | [],k,h=>by simp[JF]at h
 | y::l,k,h=>by
  unfold JF at h ⊢
  split
  ·rename_i e
   exact⟨Int.le_refl _,by simp[e]⟩
  ·rename_i e
   rw[if_neg e]at h
   obtain⟨h1,h2⟩:=QqQ x l (k+1) h
   refine⟨by omega,?_⟩
   have e2:(JF l x (k+1)).toNat - k=((JF l x (k+1)).toNat - (k+1))+1:=by omega
   rw[e2,List.getD_cons_succ];exact h2
theorem Qx9 {l:List Int} {x:Int} (h:0≤QB l x):l.getD (QB l x).toNat 0=x:=(QqQ x l 0 h).2
theorem QqR:∀ {l:List Ar},Qks l=0→∀a∈l,W5 a=0
 | [],_,_,h=>by cases h
 | a::l,h,b,hb=>by
  unfold Qks at h
  split at h
  ·rename_i q
   rcases List.mem_cons.1 hb with rfl | hb
   ·simpa using q
   ·exact QqR h b hb
  ·rename_i q;simp[h]at q
theorem QqS {op:Int} {l:List Ar} (h:QX op l=0):Qks l=0∧l.length≤4:=by
 unfold QX at h
 split at h
 ·simp at h
 ·split at h
  ·simp at h
  ·split at h
   ·rename_i q;simp[h]at q
   ·rename_i h1 h2 h3;exact⟨by simpa using h3,by omega⟩
theorem Qwy {r:Rg} (h:Yu r=true):0≤r.n∧r.n<16:=by
 unfold Yu Qem at h
 simp only[decide_eq_true_eq]at h
 split at h
 ·simp only at h;omega
 ·split at h
  ·simp only at h;omega
  ·split at h<;>simp only at h<;>omega
theorem Qwz {f:Fm} {op:Int} {l:List Ar} (h:Qmo f op l=true) {s:Int} (hs:s=1∨s=3∨s=4∨s=7) (h0:0≤QB f.slots s):∃a,l[(QB f.slots s).toNat]? = some a∧a.k=1∧(1≤a.r.c∧a.r.c≤7)∧0≤a.r.n∧a.r.n<16:=by
 obtain⟨_,h2,h3,h4,h5⟩:=Qfd h
 have hsl:=Qo7 h3
 have hlt:=QqF f.slots s
 obtain⟨j,hj⟩:∃j:Nat,QB f.slots s=j:=⟨(QB f.slots s).toNat,by omega⟩
 have his:=Qx9 h0
 rw[hj]at his hlt ⊢
 have e1:(j:Int).toNat=j:=by omega
 rw[e1]at his ⊢
 obtain⟨a,ha⟩:∃a,l[j]? = some a:=⟨_,List.getElem?_eq_getElem (by omega)⟩
 refine⟨a,ha,?_⟩
 have hm:QdI f=true:=QkZ h3 3 (by omega)
 unfold QdI at hm
 rw[Bool.and_eq_true]at hm
 have hg:QiA (f.shapes.getD j 0) (f.slots.getD j 0)=true:=List.all_eq_true.1 hm.2 j (List.mem_range.2 (by omega))
 rw[his]at hg
 have hr:1≤f.shapes.getD j 0∧f.shapes.getD j 0≤6:=by
  unfold QiA at hg
  rw[if_neg (by omega),if_neg (by omega),if_pos (by omega)]at hg
  simpa using hg
 have ht:=h5 j (by omega)
 unfold Qf6 at ht
 rw[Bool.and_eq_true]at ht
 have hgd:l.getD j WE=a:=by simp[List.getD_eq_getElem?_getD,ha]
 rw[hgd]at ht
 have hc:a.k=1∧(1≤a.r.c∧a.r.c≤7):=by
  have e:(Qsz (W0 op l) a).a=a:=by unfold Qsz;split<;>rfl
  obtain⟨n,hn⟩:∃n:Nat,(f.shapes.getD j 0).toNat=n:=⟨_,rfl⟩
  have ht:=ht.2
  rw[hn]at ht
  have:n=1∨n=2∨n=3∨n=4∨n=5∨n=6:=by omega
  rcases this with rfl | rfl | rfl | rfl | rfl | rfl
  all_goals
   simp only[QiC,Wu,e,Bool.or_eq_true,Bool.and_eq_true,beq_iff_eq]at ht
   omega
 have hv:=QqR (QqS h4).1 a (List.mem_of_getElem? ha)
 unfold W5 at hv
 rw[if_pos (by simp[hc.1])]at hv
 refine⟨hc.1,hc.2,Qwy ?_⟩
 cases hq:Yu a.r with
 | true=>rfl
 | false=>rw[hq]at hv;simp at hv
theorem QA0 {f:Fm} {op:Int} {l:List Ar} (h:Qmo f op l=true) (hv:f.vex=true) {a b:Int} (ha:0≤a∧a<2) (hb:0≤b∧b<2):(vxF f l a b).Ok:=by
 obtain⟨_,h2,h3,h4,h5⟩:=Qfd h
 have hf:=QtH h3
 obtain⟨hm,hp,hw,hl⟩:=hf.vx hv
 have hmp:=hf.map
 refine⟨QkY _ _ _,ha,?_,?_,?_,?_,?_,hp⟩
 ·show 0≤hB f l b∧hB f l b<2
  unfold hB
  split
  ·exact QkY _ _ _
  ·exact hb
 ·show 1≤f.map∧f.map<4
  omega
 ·show 0≤QqG f.w∧QqG f.w<2
  unfold QqG
  split<;>omega
 ·show 0≤Qng f l 3∧Qng f l 3<16
  unfold Qng
  split
  ·rename_i h0
   obtain⟨c,hc,_,_,hn⟩:=Qwz h (.inr (.inl rfl)) h0
   rw[hc];exact hn
  ·omega
 ·show 0≤f.l∧f.l<2
  omega
theorem Qn2 (d:Int):(Ky d 4).1.length≤8:=QeK _ _ (by decide)
def QwA (w:Ld):Prop:=(0≤w.x∧w.x<2)∧(0≤w.h∧w.h<2)∧w.b.length≤100
theorem z02:(0:Int)≤0∧(0:Int)<2:=by decide
theorem QqT (mid:Int) (ix:Rg) (f d:Int):QwA (Qc2 mid ix f d):=by
 have:=Qn2 d
 refine⟨Qiv _,z02,?_⟩
 unfold Qc2
 simp only[List.length_append,List.length_cons,List.length_nil];omega
theorem Qjv (mid rm:Int) (sib:List Int) (hs:sib.length≤8) (m:Mm):∀w∈YG mid rm sib m,QwA w:=by
 intro w hw
 unfold YG at hw
 obtain⟨md,_,h⟩:=List.mem_flatMap.1 hw
 unfold Zm at h
 split at h
 ·have:=QqK md m
  rw[List.mem_singleton]at h
  subst h
  refine⟨Qiv _,Qiv _,?_⟩
  simp only[List.length_append,List.length_cons,List.length_nil];omega
 ·cases h
theorem Qya (mid:Int) (m:Mm):∀w∈Qf7 mid m,QwA w:=by
 intro w hw
 unfold Qf7 at hw
 split at hw
 ·rw[List.mem_singleton]at hw
  subst hw
  have:=Qn2 m.d
  refine⟨z02,z02,?_⟩
  simp only[List.length_append,List.length_cons,List.length_nil];omega
 ·split at hw
  ·rw[List.mem_singleton]at hw
   subst hw;exact QqT _ _ _ _
  ·split at hw
   ·exact Qjv _ _ _ (by simp) _ w hw
   ·rcases List.mem_append.1 hw with hw | hw
    ·split at hw
     ·cases hw
     ·exact Qjv _ _ _ (by simp) _ w hw
    ·rcases List.mem_append.1 hw with hw | hw
     ·exact Qjv _ _ _ (by simp) _ w hw
     ·split at hw
      ·cases hw
      ·rw[List.mem_singleton]at hw
       subst hw;exact QqT _ _ _ _
theorem Qyb (mid:Int) (a:Ar):(QkD mid a).1.length≤8∧∀w∈(QkD mid a).1,QwA w:=by
 unfold QkD
 split
 ·simp
 ·split
  ·simp
  ·split
   ·refine⟨by simp,fun w hw=>?_⟩
    rw[List.mem_singleton]at hw
    subst hw
    exact⟨z02,Qiv _,by simp⟩
   ·split
    ·exact⟨QqM _ _,Qya _ _⟩
    ·simp
theorem Qjw (f:Fm) (l:List Ar):(XC f l).length≤8∧∀w∈XC f l,QwA w:=by
 unfold XC
 split
 ·refine⟨by simp,fun w hw=>?_⟩
  rw[List.mem_singleton]at hw
  subst hw
  exact⟨z02,z02,by simp⟩
 ·split
  ·exact Qyb _ _
  ·simp
theorem V5 {α β:Type} {f:α→List β} {n:Nat}:∀ (l:List α),(∀a∈l,(f a).length≤n)→(l.flatMap f).length≤l.length * n
 | [],_=>by simp
 | a::l,h=>by
  have h1:=h a (List.mem_cons_self ..)
  have h2:=V5 l fun b hb=>h b (List.mem_cons_of_mem _ hb)
  rw[List.flatMap_cons,List.length_append,List.length_cons,Nat.add_mul];omega
def Qjx (f:Fm) (op:Int) (l:List Ar):List Ld:=if Qmo f op l=true then(XC f l).flatMap (Qc6 f l (GS f op l)) else[]
theorem Qpc (f:Fm) (op:Int) (l:List Ar):(Qjx f op l).length≤24:=by
 unfold Qjx
 split
 ·have h1:=(Qjw f l).1
  have h2:=V5 (f:=Qc6 f l (GS f op l)) (n:=3) (XC f l) fun w _=>by unfold Qc6;rw[List.length_map];exact(Qn1 _ _ _ _).1
  omega
 ·simp
theorem QwB (f:Fm) (op:Int) (l:List Ar):(GS f op l).length≤2000:=by
 unfold GS
 have:=QtI (Qx3 f op l) (tlN f)
 rw[List.length_append]
 split<;>split<;>simp<;>omega
theorem Qpd {x:Lf} {op:Int} {va:Value} {l:List Ar} (H:Qa) (hx:x.At H) (hf:x.Fr 0) (ha:QS H va l) (hva:∀n,H.next≤n→Qj n 6 (.agg #[.int .i64 op,va])=true) (hl:l.length≤1000) (hI:∀a∈l,I64 a.n):
  Qe prog QcF [.agg x.cells.toArray,.agg #[.int .i64 op,va]] H fun u H'=>∃v,u=.tuple #[v,.bool (decide (0<(Qjx x.f op l).length))]∧Wh Qk H H' v (Qjx x.f op l)∧Ext H H':=by
 refine Qm2 fun hw=>?_
 have ex:(Value.agg x.cells.toArray).cells.toList=x.cells:=rfl
 have e10:x.cells.take 10=x.cells:=rfl
 have l10:10≤x.cells.length:=Nat.le_refl _
 obtain⟨W,eW⟩:∃W,W=Qjx x.f op l:=⟨_,rfl⟩
 have hWl:W.length≤24:=by rw[eW];exact Qpc _ _ _
 rw[← eW]
 unfold Qjx at eW
 obtain⟨a0,cap,rfl⟩:=QY ha
 simp only[QfO,ex,QBG,simprocAttr]
 generalize hH1:Qa.push H (.cells x.cells Qc false)=H1
 have g1:H1.get H.next=some (.cells x.cells Qc false):=by rw[← hH1,Qa.get_push,if_pos rfl]
 have hx1:Ext H H1:=by rw[← hH1];exact(Ext.refl H).push _
 have hn1:H1.next=H.next+1:=by rw[← hH1];rfl
 have hw1:H1.Wf:=by rw[← hH1];exact hw.push _
 clear hH1
 simp only[QBD,simprocAttr,hn1]
 generalize hH2:Qa.push H1 _=H2
 have hx2:Ext H H2:=by rw[← hH2];exact(hx1.push _)
 have hw2:H2.Wf:=by rw[← hH2];exact(hw1.push _)
 have g22:H2.get H.next=some (.cells x.cells Qc false):=by rw[← hH2,Qa.get_push,if_neg (by omega)];exact g1
 have g23:H2.get (H.next+1)=some (.cells [.int .i64 op,.slice a0 l.length cap] Qb false):=by rw[← hH2,Qa.get_push,if_pos (by omega)]
 have hn2:H2.next=H.next+2:=by rw[← hH2,Qa.next_push,hn1]
 clear hH2
 simp only[QBD,simprocAttr,g1,g22,g23,List.drop_zero,e10]
 refine⟨l10,?_⟩
 refine(Qo9 H2 (hx.ext hw hx2) hf (ha.ext hw hx2) hl hI).thenW ?_
 rintro _ H3 hn3 hw3 ⟨rfl,hx23⟩
 have hx3:=hx2.trans hx23
 cases hq:Qmo x.f op l with
 | false=>
  rw[hq,if_neg (by decide)]at eW
  subst eW
  simp only[QBD,simprocAttr,Bool.not_false,Qen]
  exact .mk hx3.next ⟨_,rfl,Wh.nil _ _ _,hx3⟩
 | true=>
  rw[hq,if_pos rfl]at eW
  have g32:H3.get H.next=some (.cells x.cells Qc false):=by rw[hx23.get _ (by omega)];exact g22
  have g33:H3.get (H.next+1)=some (.cells [.int .i64 op,.slice a0 l.length cap] Qb false):=by rw[hx23.get _ (by omega)];exact g23
  have nz1:¬H.next=H3.next:=by omega
  have nz2:¬H.next+1=H3.next:=by omega
  simp only[QBD,simprocAttr,Bool.not_true,nz1,nz2,if_false,g32,g33,List.drop_zero,e10]
  refine⟨l10,?_⟩
  obtain⟨H4,eC,hg4,hx34,hw4,hn4,hH4⟩:∃H4 eC,H4.get H3.next=some (.cells [.slice none 0 0] eC false)∧Ext H3 H4∧H4.Wf∧H4.next=H3.next+1∧H4=H3.push (.cells [.slice none 0 0] _ false):=⟨_,_,by rw[Qa.get_push,if_pos rfl],(Ext.refl H3).push _,hw3.push _,rfl,rfl⟩
  rw[← hH4]
  clear hH4
  refine(Qnp H4).thenW ?_
  rintro _ H5 hn5 hw5 ⟨rfl,hx45,hn45,g5f,g5i⟩
  have hx5:=(hx3.trans hx34).trans hx45
  have g5c:H5.get H3.next=some (.cells [.slice none 0 0] eC false):=by rw[hx45.get _ (by omega)];exact hg4
  simp only[QBG,simprocAttr,QBE,simprocAttr,QcD]
  rw[QlD Yk [] [.pointer (some ⟨H4.next,0,none⟩),.pointer (some ⟨H4.next+1,0,none⟩)]]
  intro L hY
  refine⟨by kernel_rfl,?_⟩
  have hxb:Ext H5 (H5.push (L none)):=(Ext.refl H5).push _
  have hnb:(H5.push (L none)).next=H5.next+1:=rfl
  have gb:(H5.push (L none)).get H5.next=some (L none):=by rw[Qa.get_push,if_pos rfl]
  have hwb:=hw5.push (L none)
  generalize H5.push (L none)=Hb at *
  have gbc:Hb.get H3.next=some (.cells [.slice none 0 0] eC false):=by rw[hxb.get _ (by omega)];exact g5c
  obtain⟨_,_,hs3,_,_⟩:=Qfd hq
  have hP:∀w∈XC x.f l,(0≤w.x∧w.x<2)∧(0≤w.h∧w.h<2)∧(x.f.vex=true→(vxF x.f l w.x w.h).Ok)∧w.b.length≤1000:=fun w hw=>by
   obtain⟨h1,h2,h3⟩:=(Qjw x.f l).2 w hw
   exact⟨h1,h2,fun hv=>QA0 hq hv h1 h2,by omega⟩
  have hsn:x.f.slots.length=l.length:=by rw[← Qo7 hs3];exact(Qfd hq).2.1
  have hout:=QzL (Hb:=Hb) (c:=H3.next) (m:=H5.next) (eC:=eC) (op:=op) (va:=.slice a0 l.length cap) (e:=GS x.f op l) (Hz:=H) (by omega) (by omega) (by omega) (by rw[← eW];omega) hY (by simp only[QBE,simprocAttr]) (QtH hs3) hx ha hw hva hl hsn (QwB _ _ _) hP
  rw[← eW]at hout
  have hno:∀id,id≠H3.next→id≠H5.next→¬clO H3.next H5.next eC Hb id:=fun id p q h=>by
   rcases h with h | h | ⟨v,h,o,n,c,h'⟩
   ·exact p h
   ·exact q h
   ·rw[gbc]at h;cases h;cases h'
  refine(Qx8 hout (Nat.le_refl _) hx hf ha hw hva hl hI hsn (by have:=(Qjw x.f l).1;omega) (hx5.trans hxb) (fun id hid=>hno id (by have:=hx3.next;omega) (by have:=hx5.next;omega)) (by rw[hxb.get _ (by omega)];exact g5f) (by rw[hxb.get _ (by omega)];exact g5i) (hno _ (by omega) (by omega)) (hno _ (by omega) (by omega)) ?_).thenW ?_
  ·refine⟨gb,by omega,by omega,fun _ _ _ _=>rfl,_,gbc,?_,fun id ⟨o,n,c,h⟩=>by cases h⟩
   exact Wh.nil _ _ _
  ·rintro u H6 hn6 hw6 ⟨hR6,hk6⟩
   obtain⟨q1,q2,q3,q4,v',q5,q6,q7⟩:=hR6
   refine⟨none,q1,?_⟩
   have hcn:QqP (Qc6 x.f l (GS x.f op l)) (XC x.f l) (XC x.f l).length=W.length:=by unfold QqP;rw[List.take_length,eW]
   rw[hcn,List.take_length]at q6
   have hxf:Ext H (H6.kill H5.next):=⟨by have:=hx5.next;show H.next≤H6.next;omega,fun id hid=>by rw[Qa.get_kill,if_neg (by have:=hx5.next;omega),q4 id (by have:=hx5.next;omega) (by have:=hx3.next;omega) (by have:=hx5.next;omega)];exact(hx5.trans hxb).get id hid⟩
   have g6:(H6.kill H5.next).get H3.next=some (.cells [v'] eC false):=by rw[Qa.get_kill,if_neg (by omega)];exact q5
   have q6:=q6.down (H0:=H) (by have:=hx5.next;omega)
   generalize H6.kill H5.next=H7 at *
   obtain⟨a7,c7,rfl⟩:=q6.slc
   simp only[QBD,simprocAttr,QiZ,g6,Qen]
   refine .mk hxf.next ⟨_,?_,q6,hxf⟩
   rw[show decide ((0:Int)<(W.length:Int))=decide (0<W.length) by simp]
def QeT (op:Int):List Ar→Bool
 | [x,y]=>(op==11)&&(((x.k==1)&&(y.k==1))&&(x.r.c==y.r.c))&&!(x.r.n==y.r.n)
 | _=>false
def KD (op:Int) (l:List Ar):List (List Ar):=
 if((Wn op l).2.2==0)=true then[(Wn op l).2.1]++(if QeT op (Wn op l).2.1=true then[(Wn op l).2.1.reverse] else[]) else[]
def QqU (op:Int) (vs:List Value):List Value:=vs.flatMap fun s=>[.int .i64 op,s]
def Qyc (H:Qa) (v:Value) (op:Int) (ws:List (List Ar)):Prop:=∃vs:List Value,vs.length=ws.length∧Vy H v ws.length (QqU op vs)∧∀ (j:Nat) s w,vs[j]? = some s→ws[j]? = some w→QS H s w∧∀n,H.next≤n→Qj n 6 (.agg #[.int .i64 op,s])=true
theorem QuV {op:Int} {l:List Ar} (h:(Wn op l).2.2=0):Wn op l=(op,(Wn op l).2.1,0):=by
 unfold Wn at h ⊢
 split
 ·rename_i q;rw[if_pos q]at h;simp only at h;rw[h]at q;exact absurd q (by decide)
 ·rename_i q
  rw[if_neg q]at h
  split
  ·rename_i q2;rw[if_pos q2]at h;simp only at h;rw[h]at q2;exact absurd q2 (by decide)
  ·rfl
theorem QqV {H H':Qa} {op:Int} {v:Value} {l:List Ar} (ha:QS H' v l) (hf:∀a n c,v=.slice (some a) n c→H.next≤a.block∧a.block<H'.next) (n:Nat) (hn:H'.next≤n):Qj n 6 (.agg #[.int .i64 op,v])=true:=by
 obtain⟨a,cap,rfl,h1⟩:=ha
 cases a with
 | none=>simp[Qj,Ab.plain]
 | some a=>
  have:=(hf _ _ _ rfl).2
  simp[Qj,Ab.plain]
  omega
theorem Qn3 (ib:Int×Bool):∀l:List Ar,(WC ib l).1.length≤l.length
 | []=>Nat.le_refl _
 | a::l=>by
  unfold WC
  split
  ·simpa using Qn3 ib l
  ·simp
theorem QuW (op:Int) (l:List Ar):(VB op l).length≤l.length+1:=by
 unfold VB
 split
 ·split<;>simp
 ·split
  ·simp
  ·split<;>simp
theorem QqW (op:Int) (l:List Ar):(Wn op l).2.1.length≤5:=by
 unfold Wn
 split
 ·simp
 ·rename_i h
  split
  ·simp
  ·have:=Qgx (op:=op) (l:=l) (by simpa using h)
   have:=Qn3 (W0 op l) l
   have:=QuW op (WC (W0 op l) l).1
   simp only;omega
theorem QBx {op:Int} {m:List Ar} {W:List (List Ar)} {H H3:Qa} {B:Nat} {a2:Option Addr} {c2:Nat} (hml:m.length≤1000) (eW:W=[m]++if QeT op m=true then[m.reverse] else[]) (hx3:Ext H H3) (hw3:H3.Wf) (g3:H3.get B=some (.cells [.int .i64 op,.slice a2 m.length c2] Qb false)) (ha:QS H3 (.slice a2 m.length c2) m) (hbl:∀n,H3.next≤n→Qj n 6 (.agg #[.int .i64 op,.slice a2 m.length c2])=true) {A:Env} (r3:A 3=.pointer (some ⟨B,0,none⟩)):
  Qp prog Zl ⟨Rt prog QbU H fun u H'=>Qyc H' u op W∧Ext H H',YH⟩ (Rt prog QbU H fun u H'=>Qyc H' u op W∧Ext H H') A H3:=by
 have lB:=hw3.lt g3
 have nB:¬B=H3.next:=by omega
 simp only[Zl,sxA,sxB,Nat.reduceBEq,Nat.reduceEqDiff,reduceCtorEq,mxA,mxB,Nat.reduceAdd,reduceIte,Nat.reduceLeDiff,splice,r3,g3,nB,if_false]
 generalize hH4:H3.push _=H4
 have hx4:Ext H3 H4:=by rw[← hH4];exact(Ext.refl _).push _
 have hw4:H4.Wf:=by rw[← hH4];exact hw3.push _
 have g4:H4.get H3.next=some (.cells [.int .i64 op,.slice a2 m.length c2] Qb false):=by rw[← hH4,Qa.get_push,if_pos rfl]
 have hn4:H4.next=H3.next+1:=by rw[← hH4];rfl
 clear hH4
 refine⟨rfl,?_⟩
 refine(Qtu _ m H4 (ha.ext hw3 hx4) hml).thenW ?_
 rintro u H5 hn5 hw5 ⟨hx5,hcl⟩
 obtain⟨ca,cap,cb,rfl,hcb,hca⟩:∃ca cap cb,u=.slice ca m.length cap∧(0<m.length→ca=some ⟨cb,0,none⟩∧H4.next≤cb∧H5.get cb=some (.cells (Qi m) Qd false))∧(∀a,ca=some a→H4.next≤a.block∧a.block<H5.next):=by
  rcases hcl with⟨rfl,rfl | ⟨rfl,rfl⟩⟩ | ⟨hne,rfl,rfl⟩
  ·exact⟨none,0,0,rfl,fun h=>absurd h (Nat.lt_irrefl 0),fun a h=>by cases h⟩
  ·exact⟨_,0,0,rfl,fun h=>absurd h (Nat.lt_irrefl 0),fun a h=>by cases h;exact⟨Nat.le_refl _,by rw[Qa.next_push];exact Nat.lt_succ_self _⟩⟩
  ·refine⟨_,_,H4.next+1,rfl,fun _=>⟨rfl,by omega,by rw[Qa.get_push,if_pos (by simp only[Qa.next_push])]⟩,fun a h=>by cases h;simp only[Qa.next_push];omega⟩
 clear hcl
 simp only[sxA,sxB,Nat.reduceBEq,Nat.reduceEqDiff,reduceCtorEq,mxA,mxB,Nat.reduceAdd,reduceIte,Nat.reduceLeDiff,splice]
 refine⟨hx5.eqB,?_⟩
 generalize hH6:H5.push _=H6
 have hx6:Ext H5 H6:=by rw[← hH6];exact(Ext.refl _).push _
 have hw6:H6.Wf:=by rw[← hH6];exact hw5.push _
 have hn6:H6.next=H5.next+1:=by rw[← hH6];rfl
 have g6:H6.get H5.next=some (.cells [.int .i64 op,.slice ca m.length cap] Qz false):=by rw[← hH6,Qa.get_push,if_pos rfl]
 clear hH6
 have hx36:=(hx4.trans hx5).trans hx6
 have hxe:=hx3.trans hx36
 have g6r:H6.get H3.next=some (.cells [.int .i64 op,.slice a2 m.length c2] Qb false):=by rw[hx6.get _ (by omega),hx5.get _ (by omega)];exact g4
 have ha6:=ha.ext hw3 hx36
 have hc6:QS H6 (.slice ca m.length cap) m:=⟨ca,cap,rfl,fun h=>⟨cb,_,_,(hcb h).1,by rw[hx6.get _ (hw5.lt (hcb h).2.2)];exact(hcb h).2.2⟩⟩
 -- one spelling
 have hend1:QeT op m=false→Qyc H6 (.slice (some ⟨H3.next,0,none⟩) 1 1) op W:=fun h=>by
  rw[eW,if_neg (by rw[h];decide),List.append_nil]
  refine⟨[.slice a2 m.length c2],rfl,⟨_,1,rfl,fun _=>⟨H3.next,_,_,rfl,g6r⟩⟩,fun j s w h1 h2=>?_⟩
  rcases j with _ | j
  ·cases h1;cases h2
   exact⟨ha6,fun n hn=>hbl n (by have:=hx36.next;omega)⟩
  ·simp at h1
 cases h11:op==11 with
 | false=>
  simp only[sxA,sxB,Nat.reduceBEq,Nat.reduceEqDiff,reduceCtorEq,mxA,mxB,Nat.reduceAdd,reduceIte,Nat.reduceLeDiff,splice,Xf]
  refine .mk hxe.next ⟨hend1 ?_,hxe⟩
  unfold QeT;split<;>simp[h11]
 | true=>
  simp only[sxA,sxB,Nat.reduceBEq,Nat.reduceEqDiff,reduceCtorEq,mxA,mxB,Nat.reduceAdd,reduceIte,Nat.reduceLeDiff,splice]
  refine(VA H5.next op _ m H6 false g6 hc6 hml).thenW ?_
  rintro _ H6 _ _ ⟨rfl,rfl⟩
  cases hal:Vz m with
  | false=>
   simp only[sxA,sxB,Nat.reduceBEq,Nat.reduceEqDiff,reduceCtorEq,mxA,mxB,Nat.reduceAdd,reduceIte,Nat.reduceLeDiff,splice,Xf]
   refine .mk hxe.next ⟨hend1 ?_,hxe⟩
   unfold QeT
   unfold Vz at hal
   split
   ·simp only at hal;rw[hal];simp
   ·rfl
  | true=>
   obtain⟨x,y,rfl⟩:∃x y,m=[x,y]:=by
    unfold Vz at hal
    split at hal
    ·exact⟨_,_,rfl⟩
    ·cases hal
   obtain⟨rfl,hcbn,hgcb⟩:=hcb (Nat.succ_pos _)
   have g6c:H6.get cb=some (.cells (Qi [x,y]) Qd false):=by rw[hx6.get _ (hw5.lt hgcb)];exact hgcb
   have e2:(Qi [x,y])[2]? = some (.int .i64 x.r.n):=rfl
   have e13:(Qi [x,y])[13]? = some (.int .i64 y.r.n):=rfl
   have d0:(0:Int)≤0∧(0:Int)<(([x,y]:List Ar).length:Int):=by simp
   have d1:(0:Int)≤1∧(1:Int)<(([x,y]:List Ar).length:Int):=by simp
   simp only[sxA,sxB,Nat.reduceBEq,Nat.reduceEqDiff,reduceCtorEq,mxA,mxB,Nat.reduceAdd,reduceIte,Nat.reduceLeDiff,splice,g6,g6c]
   refine⟨d0,_,e2,d1,_,e13,?_⟩
   simp only[sxA,sxB,Nat.reduceBEq,Nat.reduceEqDiff,reduceCtorEq,mxA,mxB,Nat.reduceAdd,reduceIte,Nat.reduceLeDiff,splice]
   have hal2:((x.k==1)&&(y.k==1)&&(x.r.c==y.r.c))=true:=hal
   cases hnn:x.r.n==y.r.n with
   | true=>
    simp only[sxA,sxB,Nat.reduceBEq,Nat.reduceEqDiff,reduceCtorEq,mxA,mxB,Nat.reduceAdd,reduceIte,Nat.reduceLeDiff,splice,Bool.not_true,Xf]
    exact .mk hxe.next ⟨hend1 (by simp[QeT,hnn]),hxe⟩
   | false=>
    have htr:QeT op [x,y]=true:=by simp only[QeT,h11,hal2,hnn];rfl
    simp only[sxA,sxB,Nat.reduceBEq,Nat.reduceEqDiff,reduceCtorEq,mxA,mxB,Nat.reduceAdd,reduceIte,Nat.reduceLeDiff,splice,Bool.not_false]
    simp only[GL,sxA,sxB,Nat.reduceBEq,Nat.reduceEqDiff,reduceCtorEq,mxA,mxB,Nat.reduceAdd,reduceIte,Nat.reduceLeDiff,splice]
    refine(Ju H5.next cb cap op x y H6 false Qd g6 g6c).thenW ?_
    rintro _ H7 hn7 hw7 ⟨rfl,hH7⟩
    have g7:∀id,id≠cb→H7.get id=H6.get id:=fun id h=>by rw[hH7,Qa.get_set,if_neg h,Qa.get_set,if_neg h]
    have g7c:H7.get cb=some (.cells (Qi [y,x]) Qd false):=by rw[hH7,Qa.get_set,if_pos rfl]
    have hn7':H7.next=H6.next:=by rw[hH7];rfl
    clear hH7
    have lc5:=hw5.lt hgcb
    have g7d:H7.get H5.next=some (.cells [.int .i64 op,.slice (some ⟨cb,0,none⟩) 2 cap] Qz false):=by rw[g7 _ (by omega)];exact g6
    have g7r:H7.get H3.next=some (.cells [.int .i64 op,.slice a2 2 c2] Qb false):=by rw[g7 _ (by omega)];exact g6r
    simp only[sxA,sxB,Nat.reduceBEq,Nat.reduceEqDiff,reduceCtorEq,mxA,mxB,Nat.reduceAdd,reduceIte,Nat.reduceLeDiff,splice,g7d]
    have hx37:Ext H3 H7:=⟨by have:=hx36.next;omega,fun id hid=>by rw[g7 id (by omega)];exact hx36.get id hid⟩
    generalize hH8:H7.push _=H8
    have hx78:Ext H7 H8:=by rw[← hH8];exact(Ext.refl _).push _
    have hw8:H8.Wf:=by rw[← hH8];exact hw7.push _
    have g8:H8.get H7.next=some (.cells [.int .i64 op,.slice (some ⟨cb,0,none⟩) 2 cap] Qb false):=by rw[← hH8,Qa.get_push,if_pos rfl]
    clear hH8
    have l7:=hw7.lt g7r
    have g8r:H8.get H3.next=some (.cells [.int .i64 op,.slice a2 2 c2] Qb false):=by rw[hx78.get _ l7];exact g7r
    have hs8:Gx 2 Qb H3 H8 (.slice (some ⟨H3.next,0,none⟩) 1 1) 1 [.int .i64 op,.slice a2 2 c2]:=.inr ⟨_,_,rfl,Nat.le_refl _,g8r,rfl,.inl rfl⟩
    have hsrc:Jh 2 (.slice (some ⟨H7.next,0,none⟩) 1 1) H8=some (1,[.int .i64 op,.slice (some ⟨cb,0,none⟩) 2 cap]):=by
     rw[Qam g8 (by decide) (by simp)];rfl
    refine Qwh hs8 ⟨_,rfl⟩ hw8 hsrc rfl (by decide) rfl (by decide) (by decide) (by decide) ?_
    rintro v9 H9 hg9 hx9 hw9 ⟨b9,rfl⟩
    have hx39:=(hx37.trans hx78).trans hx9
    have hx09:=hx3.trans hx39
    have g9c:H9.get cb=some (.cells (Qi [y,x]) Qd false):=by rw[hx9.get _ (by have:=hx78.next;omega),hx78.get _ (by omega)];exact g7c
    simp only[sxA,sxB,Nat.reduceBEq,Nat.reduceEqDiff,reduceCtorEq,mxA,mxB,Nat.reduceAdd,reduceIte,Nat.reduceLeDiff,splice,Xf]
    refine .mk hx09.next ⟨?_,hx09⟩
    rw[eW,if_pos htr]
    refine⟨[.slice a2 2 c2,.slice (some ⟨cb,0,none⟩) 2 cap],rfl,hg9.sl,fun j s w h1 h2=>?_⟩
    rcases j with _ | _ | j
    ·cases h1;cases h2
     exact⟨ha.ext hw3 hx39,fun n hn=>hbl n (by have:=hx39.next;omega)⟩
    ·cases h1;cases h2
     refine⟨⟨_,cap,rfl,fun _=>⟨cb,_,_,rfl,g9c⟩⟩,fun n hn=>?_⟩
     have:=hw9.lt g9c
     simp[Qj,Ab.plain]
     omega
    ·simp at h1
theorem Qjy {op:Int} {v:Value} {l:List Ar} (H:Qa) (hv:QS H v l) (hl:l.length≤1000) (hI:∀a∈l,I64 a.n):
  Qe prog J2 [.agg #[.int .i64 op,v]] H fun u H'=>Qyc H' u op (KD op l)∧Ext H H':=by
 refine QhM fun hw=>?_
 obtain⟨a0,cap,rfl⟩:=QY hv
 simp only[Qav,sxA,sxB,Nat.reduceBEq,Nat.reduceEqDiff,reduceCtorEq]
 generalize hH1:Qa.push H _=H1
 have g1:H1.get H.next=some (.cells [.int .i64 op,.slice a0 l.length cap] Qb false):=by rw[← hH1,Qa.get_push,if_pos rfl];rfl
 have hx1:Ext H H1:=by rw[← hH1];exact(Ext.refl H).push _
 have hw1:H1.Wf:=by rw[← hH1];exact hw.push _
 clear hH1
 simp only[sxA,sxB,Nat.reduceBEq,Nat.reduceEqDiff,reduceCtorEq,mxA,mxB,Nat.reduceAdd,reduceIte,Nat.reduceLeDiff,splice,g1]
 refine(QoL op l H1 _ (hv.ext hw hx1) hl hI).thenW ?_
 rintro _ H2 hn2 hw2 ⟨hx2,v',rfl,hv2,hfr⟩
 have hx02:=hx1.trans hx2
 have hbl:=fun n hn=>QqV (op:=(Wn op l).1) hv2 hfr n hn
 obtain⟨W,eW⟩:∃W,W=KD op l:=⟨_,rfl⟩
 rw[← eW]
 unfold KD at eW
 obtain⟨a2,c2,rfl⟩:=QY hv2
 cases he:(Wn op l).2.2==0 with
 | false=>
  rw[he,if_neg (by decide)]at eW
  simp only[sxA,sxB,Nat.reduceBEq,Nat.reduceEqDiff,reduceCtorEq,mxA,mxB,Nat.reduceAdd,reduceIte,Nat.reduceLeDiff,splice,he,Xf]
  have hx3:=(hx02.push (.cells [.int .i64 0,.slice none 0 0] Qb false)).set hx02.next (.cells [.int .i64 (Wn op l).1,.slice a2 (Wn op l).2.1.length c2] Qb false)
  exact .mk hx3.next ⟨by rw[eW];exact⟨[],rfl,⟨none,0,rfl,fun h=>absurd h (Nat.lt_irrefl 0)⟩,fun j s w h=>by simp at h⟩,hx3⟩
 | true=>
  rw[he,if_pos rfl]at eW
  have ei:=QuV (beq_iff_eq.1 he)
  have e1:(Wn op l).1=op:=by rw[ei]
  rw[e1]at hbl
  simp only[sxA,sxB,Nat.reduceBEq,Nat.reduceEqDiff,reduceCtorEq,mxA,mxB,Nat.reduceAdd,reduceIte,Nat.reduceLeDiff,splice,he,e1]
  generalize hm:(Wn op l).2.1=m at *
  generalize hH3:(H2.push _).set H2.next _=H3
  have hx3:Ext H2 H3:=by rw[← hH3];exact((Ext.refl H2).push _).set (Nat.le_refl _) _
  have hw3:H3.Wf:=by rw[← hH3];exact(hw2.push _).set (b0:=.cells [.int .i64 0,.slice none 0 0] Qb false) (by rw[Qa.get_push,if_pos rfl]) _
  have g3:H3.get H2.next=some (.cells [.int .i64 op,.slice a2 m.length c2] Qb false):=by rw[← hH3,Qa.get_set,if_pos rfl]
  clear hH3
  refine QBx (by rw[← hm];have:=QqW op l;omega) eW (hx02.trans hx3) hw3 g3 (hv2.ext hw2 hx3) (fun n hn=>hbl n (by have:=hx3.next;omega)) ?_
  simp only[uxA,uxB,Nat.reduceBEq]
structure GX (v:Value) (H:Qa) (v':Value) (H':Qa):Prop where
 next:H.next≤H'.next
 keep:∀id,id<H.next→¬inB v id→H'.get id=H.get id
 own:∀id,inB v' id→inB v id∨H.next≤id
theorem GX.refl (v:Value) (H:Qa):GX v H v H:=⟨Nat.le_refl _,fun _ _ _=>rfl,fun _ h=>.inl h⟩
theorem GX.trans {v v' v'':Value} {H H' H'':Qa} (h:GX v H v' H') (h':GX v' H' v'' H''):GX v H v'' H'':=by
 have n1:=h.next
 have n2:=h'.next
 refine⟨by omega,fun id a b=>?_,fun id a=>?_⟩
 ·rw[h'.keep id (by omega) (fun c=>by rcases h.own id c with d | d;exact b d;omega),h.keep id a b]
 ·rcases h'.own id a with b | b
  ·exact h.own id b
  ·exact .inr (by omega)
theorem GX.ext {v:Value} {H H':Qa} (h:Ext H H'):GX v H v H':=⟨h.next,fun id a _=>h.get id a,fun _ h=>.inl h⟩
theorem GX.gk {v v':Value} {H0 H H':Qa} (h:GK v v' H0 H H'):GX v H v' H':=⟨h.next,h.keep,h.new⟩
theorem GX.old {v v':Value} {Hs H H':Qa} (h:GX v H v' H') (hx:Ext Hs H) (hv:∀id,inB v id→Hs.next≤id):Ext Hs H':=
 ⟨by have:=h.next;have:=hx.next;omega,fun id hid=>by rw[h.keep id (by have:=hx.next;omega) (fun c=>by have:=hv id c;omega)];exact hx.get id hid⟩
theorem Wh.own {e:TypeId} {H0 H:Qa} {v:Value} {ws:List Ld} (h:Wh e H0 H v ws):∀id,inB v id→H0.next≤id:=fun id hi=>by
 obtain⟨ss,h1,h2,h3⟩:=h.it
 obtain⟨o,n,c,rfl⟩:=hi
 rcases h2 with⟨h,_,_⟩ | ⟨b,c',h,q,_⟩
 ·cases h
 ·cases h;exact q
theorem Wh.gx {e:TypeId} {H0 H H':Qa} {v v' u:Value} {ws:List Ld} (h:Wh e H0 H u ws) (hw:H.Wf) (hg:GX v H v' H') (hn:∀id,inB v id→id<H0.next):Wh e H0 H' u ws:=
 h.keep2 hw fun id a b=>hg.keep id b fun c=>by have:=hn id c;omega
def RgS (A A':Env):Prop:=A' 1=A 1∧A' 7=A 7∧A' 8=A 8∧A' 9=A 9∧A' 15=A 15∧A' 16=A 16∧A' 17=A 17∧A' 21=A 21∧A' 22=A 22∧A' 23=A 23
def GF (k:Int) (w:Ld):Ld:=⟨w.b,k,w.h⟩
section
variable {R:Env→Qa→Prop} {E:Nat→Env→Qa→Prop} {K:Env→Qa→Prop}
theorem QBy {Hs H Hc:Qa} {acc cs:List Ld} {v cv:Value} {k:Int} {A:Env} (hcl:acc.length+cs.length≤1000000) (hxs:Ext Hs H) (hw:H.Wf) (hl:Wh Qk Hs H v acc) (hc:Wh Qk Hc H cv cs) (hcx:Hs.next≤Hc.next) (hcv:∀id,inB v id→id<Hc.next) (r5:A 5=v) (r8:A 8=.int .i64 k) (r10:A 10=cv)
  (hk:∀A' H' v',A' 5=v'→RgS A A'→H'.Wf→Wh Qk Hs H' v' (acc++cs.map (GF k))→GX v H v' H'→K A' H'):
  Qp prog Gy ⟨R,E⟩ K A H:=by
 obtain⟨ca,cc,rfl⟩:=hc.slc
 simp only[Gy,sxA,sxB,Nat.reduceBEq,Nat.reduceEqDiff,reduceCtorEq,mxA,mxB,Nat.reduceAdd,reduceIte,Nat.reduceLeDiff,splice,r10,Qw]
 refine Qy (fun m A' H'=>∃i:Nat,i≤cs.length∧m=cs.length - i∧H'.Wf∧Wh Qk Hs H' (A' 5) (acc++(cs.take i).map (GF k))∧GX v H (A' 5) H'∧A' 36=.slice ca cs.length cc∧A' 37=.int .i64 cs.length∧A' 38=.int .i64 i∧RgS A A') cs.length ?_ ?_
 ·refine⟨0,Nat.zero_le _,by omega,hw,?_,?_,?_,?_,?_,?_⟩
  ·simp only[uxA,uxB,Nat.reduceBEq,r5,List.take_zero,List.map_nil,List.append_nil];exact hl
  ·simp only[uxA,uxB,Nat.reduceBEq,r5];exact GX.refl _ _
  ·simp only[uxA,uxB,Nat.reduceBEq]
  ·simp only[uxA,uxB,Nat.reduceBEq]
  ·simp only[uxA,uxB,Nat.reduceBEq];rfl
  ·simp only[RgS,uxA,uxB,Nat.reduceBEq,and_self]
 ·rintro m A' H' ⟨i,hi,rfl,hw',hl',hg,r36,r37,r38,hA⟩
  simp only[Qdl,sxA,sxB,Nat.reduceBEq,Nat.reduceEqDiff,reduceCtorEq,mxA,mxB,Nat.reduceAdd,reduceIte,Nat.reduceLeDiff,splice,r37,r38]
  obtain⟨e1,e7,e8,e9,e15,e16,e17,e21,e22,e23⟩:=id hA
  refine Qg (fun h2=>?_) (fun h2=>?_)
  ·have h2:i<cs.length:=by have:=of_decide_eq_true h2;omega
   have hc':=hc.gx hw hg hcv
   have hxs':=hg.old hxs (r5▸hl.own)
   obtain⟨ss,hsl,hgss,hgs⟩:=hc'.it
   obtain⟨b,hb1,rfl,hgb⟩:∃b,Hc.next≤b∧ca=some ⟨b,0,none⟩∧H'.get b=some (.cells (ldC ss cs) Qk false):=by
    rcases hgss with⟨h,h',_⟩ | ⟨b,c,h,q1,q2,_⟩
    ·omega
    ·cases h;exact⟨b,q1,rfl,q2⟩
   obtain⟨sv,hsv⟩:∃sv,ss[i]? = some sv:=⟨_,List.getElem?_eq_getElem (by omega)⟩
   obtain⟨w,hwi⟩:∃w,cs[i]? = some w:=⟨_,List.getElem?_eq_getElem h2⟩
   have hs4:=hgs i sv w hsv hwi
   have hat:=Qmr ss cs i sv w hsv hwi
   have hll:(ldC ss cs).length=cs.length * 3:=by rw[QiD _ _ hsl]
   have d1:(0:Int)≤i∧(i:Int)<cs.length:=by omega
   have d3:(i:Int).toNat=i:=by omega
   have ei:IntKind.i64.wrap ((i:Int)+1)=((i+1:Nat):Int):=by rw[w64 (by unfold I64;omega)];omega
   obtain⟨ai,ci,rfl⟩:=hs4.slc
   simp only[Qdk,sxA,sxB,Nat.reduceBEq,Nat.reduceEqDiff,reduceCtorEq,mxA,mxB,Nat.reduceAdd,reduceIte,Nat.reduceLeDiff,splice,r36,r38,d1,d3,hgb,hat,e8,r8]
   refine⟨by omega,?_⟩
   generalize hH5:Qa.push (Qa.set (Qa.set (Qa.push H' _) _ _) _ _) _=H5
   have hx5:Ext H' H5:=by rw[← hH5];exact((((Ext.refl H').push _).set (Nat.le_refl _) _).set (Nat.le_refl _) _).push _
   have hw5:H5.Wf:=by rw[← hH5];exact(((hw'.push _).set (b0:=.cells [.slice none 0 0,.int .i64 0,.int .i64 0] Qk false) (by rw[Qa.get_push,if_pos rfl]) _).set (b0:=.cells [.slice ai w.b.length ci,.int .i64 w.x,.int .i64 w.h] Qk false) (by rw[Qa.get_set,if_pos rfl]) _).push _
   have g5:H5.get (H'.next+1)=some (.cells [.slice ai w.b.length ci,.int .i64 k,.int .i64 w.h] Qk false):=by rw[← hH5,Qa.get_push,if_pos (by simp only[Qa.next_set,Qa.next_push])]
   clear hH5
   have hsrc:Jh 3 (.slice (some ⟨H'.next+1,0,none⟩) 1 1) H5=some (1,[.slice ai w.b.length ci,.int .i64 (GF k w).x,.int .i64 (GF k w).h]):=by
    rw[Qam g5 (by decide) (by simp)];rfl
   have hlt:(acc++(cs.take i).map (GF k)).length≤1000000:=by rw[List.length_append,List.length_map,List.length_take];omega
   have hs5:Gx 1 5 Hs H5 (.slice ai w.b.length ci) (GF k w).b.length (bys (GF k w).b):=(hs4.go hw' hx5).down hcx
   refine QsA (by decide) (hl'.go hw' hx5) (hxs'.trans hx5) hw5 hs5 hsrc (by omega) (by omega) ?_
   intro v' H6 hl6 hk6
   simp only[sxA,sxB,Nat.reduceBEq,Nat.reduceEqDiff,reduceCtorEq,mxA,mxB,Nat.reduceAdd,reduceIte,Nat.reduceLeDiff,splice,r38,ei]
   have htk:acc++(cs.take (i+1)).map (GF k)=acc++(cs.take i).map (GF k)++[GF k w]:=by rw[List.take_add_one,hwi,List.map_append,List.append_assoc];rfl
   refine⟨cs.length - (i+1),by omega,i+1,by omega,rfl,hk6.w,?_,?_,?_,?_,?_,?_⟩
   ·simp only[uxA,uxB,Nat.reduceBEq];rw[htk];exact hl6
   ·simp only[uxA,uxB,Nat.reduceBEq];exact(hg.trans (GX.ext hx5)).trans (GX.gk hk6)
   ·simp only[uxA,uxB,Nat.reduceBEq,r36]
   ·simp only[uxA,uxB,Nat.reduceBEq,r37]
   ·simp only[uxA,uxB,Nat.reduceBEq]
   ·simp only[RgS,uxA,uxB,Nat.reduceBEq,e1,e7,e8,e9,e15,e16,e17,e21,e22,e23,and_self]
  ·have h2:i=cs.length:=by have:=of_decide_eq_false h2;omega
   subst h2
   rw[List.take_length]at hl'
   simp only[sxA,sxB,Nat.reduceBEq,Nat.reduceEqDiff,reduceCtorEq,mxA,mxB,Nat.reduceAdd,reduceIte,Nat.reduceLeDiff,splice]
   refine hk _ _ _ rfl ?_ hw' ?_ ?_
   ·simp only[RgS,uxA,uxB,Nat.reduceBEq,e1,e7,e8,e9,e15,e16,e17,e21,e22,e23,and_self]
   ·simp only[uxA,uxB,Nat.reduceBEq];exact hl'
   ·simp only[uxA,uxB,Nat.reduceBEq];exact hg
def frm (L:List Fm) (op:Int) (m:List Ar) (k:Nat):List Ld:=match L[k]? with | some f=>(Qjx f op m).map (GF k) | none=>[]
theorem Qpe (L:List Fm) (op:Int) (m:List Ar) (k:Nat):(frm L op m k).length≤24:=by
 unfold frm
 split
 ·rw[List.length_map];exact Qpc _ _ _
 ·simp
def JN (L:List Fm) (op:Int) (l:List Ar):List Ld:=(KD op l).flatMap fun m=>(List.range L.length).flatMap (frm L op m)
def RgO (A A':Env):Prop:=A' 1=A 1∧A' 15=A 15∧A' 16=A 16∧A' 17=A 17
theorem QBz {Hs H:Qa} {acc:List Ld} {v fv sv:Value} {xs:List Lf} {op:Int} {m:List Ar} {B:Nat} {A:Env} (hcl:acc.length≤500000) (hxl:xs.length≤6000) (hml:m.length≤1000) (hI:∀a∈m,I64 a.n) (hws:Hs.Wf) (hxs:Ext Hs H) (hw:H.Wf) (hl:Wh Qk Hs H v acc) (hf:Qit Hs fv xs) (hfr:∀x∈xs,x.Fr 0) (hsv:QS Hs sv m) (hbl:∀n,Hs.next≤n→Qj n 6 (.agg #[.int .i64 op,sv])=true)
  (gB:H.get B=some (.cells [.int .i64 op,sv] Qb false)) (hB:¬inB v B) (r5:A 5=v) (r7:A 7=.pointer (some ⟨B,0,none⟩)) (r21:A 21=fv) (r22:A 22=.int .i64 xs.length) (r23:A 23=.int .i64 0)
  (hk:∀A' H' v',A' 5=v'→RgO A A'→H'.Wf→Wh Qk Hs H' v' (acc++(List.range xs.length).flatMap (frm (xs.map (·.f)) op m))→GX v H v' H'→K A' H'):
  Qp prog (.block 2 (.loop Gz)) ⟨R,E⟩ K A H:=by
 obtain⟨fa,fc,rfl,hf1⟩:=hf.1
 have hf2:=hf.2
 simp only[sxA,sxB,Nat.reduceBEq,Nat.reduceEqDiff,reduceCtorEq]
 refine Qy (fun q A' H'=>∃i:Nat,i≤xs.length∧q=xs.length - i∧H'.Wf∧Wh Qk Hs H' (A' 5) (acc++(List.range i).flatMap (frm (xs.map (·.f)) op m))∧GX v H (A' 5) H'∧A' 7=.pointer (some ⟨B,0,none⟩)∧A' 21=.slice fa xs.length fc∧A' 22=.int .i64 xs.length∧A' 23=.int .i64 i∧RgO A A') xs.length ?_ ?_
 ·refine⟨0,Nat.zero_le _,by omega,hw,?_,?_,r7,r21,r22,r23,?_⟩
  ·simp only[r5,List.range_zero,List.flatMap_nil,List.append_nil];exact hl
  ·rw[r5];exact GX.refl _ _
  ·simp only[RgO,and_self]
 ·rintro q A' H' ⟨i,hi,rfl,hw',hl',hg,r7,r21,r22,r23,hA⟩
  obtain⟨e1,e15,e16,e17⟩:=id hA
  simp only[Gz,sxA,sxB,Nat.reduceBEq,Nat.reduceEqDiff,reduceCtorEq,mxA,mxB,Nat.reduceAdd,reduceIte,Nat.reduceLeDiff,splice,r22,r23]
  refine Qg (fun h2=>?_) (fun h2=>?_)
  ·have h2:i<xs.length:=by have:=of_decide_eq_true h2;omega
   have hxs':=hg.old hxs hl.own
   obtain⟨b,e,ro,rfl,hgb0⟩:=hf1 (by omega)
   have hgb:H'.get b=some (.cells (WN xs) e ro):=by rw[hxs'.get _ (hws.lt hgb0)];exact hgb0
   obtain⟨x,hxi⟩:∃x,xs[i]? = some x:=⟨_,List.getElem?_eq_getElem h2⟩
   have hat:=Qce xs i x hxi
   have hll:=Yq xs
   have d1:(0:Int)≤i∧(i:Int)<xs.length:=by omega
   have d3:(i:Int).toNat=i:=by omega
   have ei:IntKind.i64.wrap ((i:Int)+1)=((i+1:Nat):Int):=by rw[w64 (by unfold I64;omega)];omega
   have hgB:H'.get B=some (.cells [.int .i64 op,sv] Qb false):=by rw[hg.keep B (hw.lt gB) hB];exact gB
   have e10:x.cells.take 10=x.cells:=rfl
   have lB:=hw'.lt hgB
   have nB:¬B=H'.next:=by omega
   have hdr:x.cells++List.drop x.cells.length [.int .i64 0,.slice none 0 0,.slice none 0 0,.int .i64 0,.int .i64 0,.int .i64 0,.int .i64 0,.int .i64 0,.bool false,.int .i64 0]=x.cells:=List.append_nil _
   simp only[Qdm,sxA,sxB,Nat.reduceBEq,Nat.reduceEqDiff,reduceCtorEq,mxA,mxB,Nat.reduceAdd,reduceIte,Nat.reduceLeDiff,splice,r7,r21,r23,d1,d3,hgb,hat,hgB,nB,if_false,List.drop_zero,hdr,e10]
   refine⟨by omega,⟨rfl,Nat.le_refl _,?_⟩,Nat.le_refl _,?_⟩
   ·exact QgW (hf2 x (List.mem_of_getElem? hxi))
   generalize hH1:Qa.set (Qa.push H' _) _ _=H1
   have hx1:Ext H' H1:=by rw[← hH1];exact((Ext.refl H').push _).set (Nat.le_refl _) _
   have hw1:H1.Wf:=by rw[← hH1];exact(hw'.push _).set (b0:=.cells [.int .i64 0,.slice none 0 0,.slice none 0 0,.int .i64 0,.int .i64 0,.int .i64 0,.int .i64 0,.int .i64 0,.bool false,.int .i64 0] Qc false) (by rw[Qa.get_push,if_pos rfl]) _
   clear hH1
   have hx01:=hxs'.trans hx1
   have hxm:=List.mem_of_getElem? hxi
   refine(Qpd H1 ((hf2 x hxm).ext hws hx01) (hfr x hxm) (hsv.ext hws hx01) (fun n hn=>hbl n (by have:=hx01.next;omega)) hml hI).thenW ?_
   rintro _ H2 hn2 hw2 ⟨cv,rfl,hc,hx2⟩
   have hx12:=hx1.trans hx2
   have hfi:(xs.map (·.f))[i]? = some x.f:=by rw[List.getElem?_map,hxi];rfl
   have hfrm:(List.range (i+1)).flatMap (frm (xs.map (·.f)) op m)=(List.range i).flatMap (frm (xs.map (·.f)) op m)++(Qjx x.f op m).map (GF i):=by
    rw[List.range_succ,List.flatMap_append]
    simp only[List.flatMap_cons,List.flatMap_nil,List.append_nil,frm,hfi]
   have hl2:=hl'.go hw' hx12
   simp only[sxA,sxB,Nat.reduceBEq,Nat.reduceEqDiff,reduceCtorEq,mxA,mxB,Nat.reduceAdd,reduceIte,Nat.reduceLeDiff,splice]
   cases hz:decide (0<(Qjx x.f op m).length) with
   | false=>
    have h0:Qjx x.f op m=[]:=List.length_eq_zero_iff.1 (by have:=of_decide_eq_false hz;omega)
    simp only[sxA,sxB,Nat.reduceBEq,Nat.reduceEqDiff,reduceCtorEq,mxA,mxB,Nat.reduceAdd,reduceIte,Nat.reduceLeDiff,splice,Bool.not_false,r23,ei]
    refine⟨xs.length - (i+1),by omega,i+1,by omega,rfl,hw2,?_,?_,?_,?_,?_,?_,?_⟩
    ·simp only[uxA,uxB,Nat.reduceBEq];rw[hfrm,h0,List.map_nil,List.append_nil];exact hl2
    ·simp only[uxA,uxB,Nat.reduceBEq];exact hg.trans (GX.ext hx12)
    ·simp only[uxA,uxB,Nat.reduceBEq,r7]
    ·simp only[uxA,uxB,Nat.reduceBEq,r21]
    ·simp only[uxA,uxB,Nat.reduceBEq,r22]
    ·simp only[uxA,uxB,Nat.reduceBEq]
    ·simp only[RgO,uxA,uxB,Nat.reduceBEq,e1,e15,e16,e17,and_self]
   | true=>
    simp only[sxA,sxB,Nat.reduceBEq,Nat.reduceEqDiff,reduceCtorEq,mxA,mxB,Nat.reduceAdd,reduceIte,Nat.reduceLeDiff,splice,Bool.not_true]
    have hlow:∀id,inB (A' 5) id→id<H1.next:=fun id h=>by
     obtain⟨ss,_,hq,_⟩:=hl'.it
     have:=(hq.low hw' h).2
     have:=hx1.next;omega
    refine QBy (Hs:=Hs) (v:=A' 5) (k:=(i:Int)) ?_ (hx01.trans hx2) hw2 hl2 hc hx01.next hlow ?_ ?_ ?_ ?_
    ·have h1:=Qpc x.f op m
     have h2:=V5 (f:=frm (xs.map (·.f)) op m) (n:=24) (List.range i) fun k _=>Qpe _ _ _ _
     rw[List.length_range]at h2
     rw[List.length_append];omega
    ·simp only[uxA,uxB,Nat.reduceBEq]
    ·simp only[uxA,uxB,Nat.reduceBEq]
    ·simp only[uxA,uxB,Nat.reduceBEq]
    ·rintro A2 H3 v3 rfl ⟨f1,f7,f8,f9,f15,f16,f17,f21,f22,f23⟩ hw3 hl3 hg3
     simp only[uxA,uxB,Nat.reduceBEq]at f1 f7 f15 f16 f17 f21 f22 f23
     simp only[sxA,sxB,Nat.reduceBEq,Nat.reduceEqDiff,reduceCtorEq,mxA,mxB,Nat.reduceAdd,reduceIte,Nat.reduceLeDiff,splice,f23,r23,ei]
     refine⟨xs.length - (i+1),by omega,i+1,by omega,rfl,hw3,?_,?_,?_,?_,?_,?_,?_⟩
     ·simp only[uxA,uxB,Nat.reduceBEq];rw[hfrm,← List.append_assoc];exact hl3
     ·simp only[uxA,uxB,Nat.reduceBEq];exact(hg.trans (GX.ext hx12)).trans hg3
     ·simp only[uxA,uxB,Nat.reduceBEq,f7,r7]
     ·simp only[uxA,uxB,Nat.reduceBEq,f21,r21]
     ·simp only[uxA,uxB,Nat.reduceBEq,f22,r22]
     ·simp only[uxA,uxB,Nat.reduceBEq]
     ·simp only[RgO,uxA,uxB,Nat.reduceBEq,f1,f15,f16,f17,e1,e15,e16,e17,and_self]
  ·have h2:i=xs.length:=by have:=of_decide_eq_false h2;omega
   subst h2
   simp only[sxA,sxB,Nat.reduceBEq,Nat.reduceEqDiff,reduceCtorEq,mxA,mxB,Nat.reduceAdd,reduceIte,Nat.reduceLeDiff,splice]
   refine hk _ _ _ rfl ?_ hw' ?_ ?_
   ·simp only[RgO,uxA,uxB,Nat.reduceBEq,e1,e15,e16,e17,and_self]
   ·simp only[uxA,uxB,Nat.reduceBEq];exact hl'
   ·simp only[uxA,uxB,Nat.reduceBEq];exact hg
end
theorem QtL (op:Int):∀ (vs:List Value) (i:Nat) (s:Value),vs[i]? = some s→((QqU op vs).drop (i * 2)).take 2=[.int .i64 op,s]
 | [],_,_,h=>by simp at h
 | v::vs,0,_,h=>by cases h;rfl
 | v::vs,i+1,s,h=>by
  have e:QqU op (v::vs)=[.int .i64 op,v]++QqU op vs:=rfl
  rw[e,show(i+1) * 2=2+i * 2 by omega,← List.drop_drop]
  exact QtL op vs i s h
theorem QqX (op:Int):∀vs:List Value,(QqU op vs).length=vs.length * 2
 | []=>rfl
 | v::vs=>by
  have e:QqU op (v::vs)=[.int .i64 op,v]++QqU op vs:=rfl
  rw[e,List.length_append,QqX op vs,List.length_cons,List.length_cons,List.length_cons,List.length_nil];omega
theorem QsC {ib:Int×Bool} {a:Ar} (h:I64 a.n):I64 (Kw ib a).1.n:=by
 have h0:I64 0:=by unfold I64;omega
 have hb:I64 (XK a).1.n:=by
  unfold XK QlP
  split
  ·split
   ·exact h0
   ·split
    ·exact h0
    ·exact h
  ·exact h0
 unfold Kw
 simp only
 split
 ·exact h
 ·split
  ·exact Qqt _ _ _ hb
  ·exact hb
theorem Qkg {ib:Int×Bool}:∀ {l:List Ar},(∀a∈l,I64 a.n)→∀a∈(WC ib l).1,I64 a.n
 | [],_,a,ha=>by cases ha
 | b::l,h,a,ha=>by
  unfold WC at ha
  split at ha
  ·rcases List.mem_cons.1 ha with rfl | ha
   ·exact QsC (h b (List.mem_cons_self ..))
   ·exact Qkg (fun c hc=>h c (List.mem_cons_of_mem _ hc)) a ha
  ·cases ha
theorem QuX {op:Int} {l:List Ar} (h:∀a∈l,I64 a.n):∀a∈VB op l,I64 a.n:=by
 have hr:∀a∈l.reverse,I64 a.n:=fun a ha=>h a (List.mem_reverse.1 ha)
 unfold VB
 split
 ·split
  ·intro a ha
   refine h a ?_
   simp only[List.mem_cons,List.not_mem_nil,or_false]at ha ⊢
   rcases ha with h | h | h<;>simp[h]
  ·exact h
 ·split
  ·exact hr
  ·split
   ·exact hr
   ·exact h
theorem QsD {op:Int} {l:List Ar} (h:∀a∈l,I64 a.n):∀a∈(Wn op l).2.1,I64 a.n:=by
 unfold Wn
 split
 ·intro a ha;cases ha
 ·split
  ·intro a ha;cases ha
  ·exact QuX (Qkg h)
theorem QuY {op:Int} {l:List Ar} (hI:∀a∈l,I64 a.n):(KD op l).length≤2∧∀m∈KD op l,m.length≤5∧∀a∈m,I64 a.n:=by
 have h1:=QqW op l
 have h2:=QsD (op:=op) hI
 unfold KD
 split
 ·refine⟨by split<;>simp,fun m hm=>?_⟩
  rcases List.mem_append.1 hm with hm | hm
  ·rw[List.mem_singleton]at hm;subst hm;exact⟨h1,h2⟩
  ·split at hm
   ·rw[List.mem_singleton]at hm;subst hm
    exact⟨by rw[List.length_reverse];exact h1,fun a ha=>h2 a (List.mem_reverse.1 ha)⟩
   ·cases hm
 ·simp
theorem QiF {op:Int} {va fv:Value} {l:List Ar} {xs:List Lf} (H:Qa) (ha:QS H va l) (hl:l.length≤1000) (hI:∀a∈l,I64 a.n) (hf:Qit H fv xs) (hfr:∀x∈xs,x.Fr 0) (hxl:xs.length≤6000):
  Qe prog G5 [.agg #[.int .i64 op,va],fv] H fun v H'=>Wh Qk H H' v (JN (xs.map (·.f)) op l)∧Ext H H':=by
 refine Qm1 fun hw=>?_
 obtain⟨a0,cap,rfl⟩:=QY ha
 obtain⟨fa,fc,rfl,_⟩:=id hf.1
 simp only[QfN,sxA,sxB,Nat.reduceBEq,Nat.reduceEqDiff,reduceCtorEq]
 generalize hH1:Qa.push H _=H1
 have g1:H1.get H.next=some (.cells [.int .i64 op,.slice a0 l.length cap] Qb false):=by rw[← hH1,Qa.get_push,if_pos rfl];rfl
 have hx1:Ext H H1:=by rw[← hH1];exact(Ext.refl H).push _
 have hw1:H1.Wf:=by rw[← hH1];exact hw.push _
 clear hH1
 simp only[sxA,sxB,Nat.reduceBEq,Nat.reduceEqDiff,reduceCtorEq,mxA,mxB,Nat.reduceAdd,reduceIte,Nat.reduceLeDiff,splice,g1]
 refine(Qjy H1 (ha.ext hw hx1) hl hI).thenW ?_
 rintro sv Hs hn2 hws ⟨hsp,hx12⟩
 have hxs:=hx1.trans hx12
 obtain⟨hspl,hspm⟩:=QuY (op:=op) hI
 obtain⟨vs,hvl,hvi,hva⟩:=hsp
 obtain⟨sa,sc,rfl,hs1⟩:=hvi
 have eall:JN (xs.map (·.f)) op l=(KD op l).flatMap fun m=>(List.range xs.length).flatMap (frm (xs.map (·.f)) op m):=by unfold JN;rw[List.length_map]
 rw[eall]
 generalize KD op l=sp at *
 simp only[sxA,sxB,Nat.reduceBEq,Nat.reduceEqDiff,reduceCtorEq,mxA,mxB,Nat.reduceAdd,reduceIte,Nat.reduceLeDiff,splice,Qw]
 refine Qy (fun q A' H'=>∃i:Nat,i≤sp.length∧q=sp.length - i∧H'.Wf∧Ext Hs H'∧Wh Qk Hs H' (A' 5) ((sp.take i).flatMap fun m=>(List.range xs.length).flatMap (frm (xs.map (·.f)) op m))∧A' 1=.slice fa xs.length fc∧A' 15=.slice sa sp.length sc∧A' 16=.int .i64 sp.length∧A' 17=.int .i64 i) sp.length ?_ ?_
 ·refine⟨0,Nat.zero_le _,by omega,hws,.refl _,?_,?_,?_,?_,?_⟩
  ·simp only[uxA,uxB,Nat.reduceBEq];exact Wh.nil _ _ _
  all_goals simp only[uxA,uxB,Nat.reduceBEq]
  all_goals rfl
 ·rintro q A' H' ⟨i,hi,rfl,hw',hx',hl',r1,r15,r16,r17⟩
  simp only[Qdo,sxA,sxB,Nat.reduceBEq,Nat.reduceEqDiff,reduceCtorEq,mxA,mxB,Nat.reduceAdd,reduceIte,Nat.reduceLeDiff,splice,r16,r17]
  refine Qg (fun h2=>?_) (fun h2=>?_)
  ·have h2:i<sp.length:=by have:=of_decide_eq_true h2;omega
   obtain⟨b,e,ro,rfl,hgb0⟩:=hs1 (by omega)
   have hgb:H'.get b=some (.cells (QqU op vs) e ro):=by rw[hx'.get _ (hws.lt hgb0)];exact hgb0
   obtain⟨s,hsi⟩:∃s,vs[i]? = some s:=⟨_,List.getElem?_eq_getElem (by omega)⟩
   obtain⟨m,hmi⟩:∃m,sp[i]? = some m:=⟨_,List.getElem?_eq_getElem h2⟩
   have hat:=QtL op vs i s hsi
   have hll:=QqX op vs
   have d1:(0:Int)≤i∧(i:Int)<sp.length:=by omega
   have d3:(i:Int).toNat=i:=by omega
   have ei:IntKind.i64.wrap ((i:Int)+1)=((i+1:Nat):Int):=by rw[w64 (by unfold I64;omega)];omega
   obtain⟨hsa,hbl⟩:=hva i s m hsi hmi
   obtain⟨hm5,hmI⟩:=hspm m (List.mem_of_getElem? hmi)
   obtain⟨sa,sc,rfl⟩:=QY hsa
   simp only[Qdn,sxA,sxB,Nat.reduceBEq,Nat.reduceEqDiff,reduceCtorEq,mxA,mxB,Nat.reduceAdd,reduceIte,Nat.reduceLeDiff,splice,r1,r15,r17,d1,d3,hgb,hat,Qw]
   refine⟨by omega,?_⟩
   generalize hH2:Qa.set (Qa.push H' _) _ _=H2
   have hx2:Ext H' H2:=by rw[← hH2];exact((Ext.refl H').push _).set (Nat.le_refl _) _
   have hw2:H2.Wf:=by rw[← hH2];exact(hw'.push _).set (b0:=.cells [.int .i64 0,.slice none 0 0] Qb false) (by rw[Qa.get_push,if_pos rfl]) _
   have g2:H2.get H'.next=some (.cells [.int .i64 op,.slice sa m.length sc] Qb false):=by rw[← hH2,Qa.get_set,if_pos rfl]
   clear hH2
   have hno:¬inB (A' 5) H'.next:=fun h=>by
    obtain⟨ss,_,hq,_⟩:=hl'.it
    have:=(hq.low hw' h).2
    omega
   have hacc:((sp.take i).flatMap fun m=>(List.range xs.length).flatMap (frm (xs.map (·.f)) op m)).length≤500000:=by
    have h1:=V5 (f:=fun m=>(List.range xs.length).flatMap (frm (xs.map (·.f)) op m)) (n:=144000) (sp.take i) fun m _=>by
     have h2:=V5 (f:=frm (xs.map (·.f)) op m) (n:=24) (List.range xs.length) fun k _=>Qpe _ _ _ _
     rw[List.length_range]at h2
     omega
    rw[List.length_take]at h1
    omega
   refine QBz (Hs:=Hs) (v:=A' 5) (xs:=xs) (m:=m) (B:=H'.next) hacc hxl (by omega) hmI hws (hx'.trans hx2) hw2 (hl'.go hw' hx2) (hf.ext hw hxs) hfr hsa hbl g2 hno ?_ ?_ ?_ ?_ ?_ ?_
   ·simp only[uxA,uxB,Nat.reduceBEq]
   ·simp only[uxA,uxB,Nat.reduceBEq]
   ·simp only[uxA,uxB,Nat.reduceBEq]
   ·simp only[uxA,uxB,Nat.reduceBEq]
   ·simp only[uxA,uxB,Nat.reduceBEq]
   ·rintro A2 H3 v3 rfl ⟨f1,f15,f16,f17⟩ hw3 hl3 hg3
    simp only[uxA,uxB,Nat.reduceBEq]at f1 f15 f16 f17
    have hx3:=hg3.old (hx'.trans hx2) hl'.own
    have htk:(sp.take (i+1)).flatMap (fun m=>(List.range xs.length).flatMap (frm (xs.map (·.f)) op m))=(sp.take i).flatMap (fun m=>(List.range xs.length).flatMap (frm (xs.map (·.f)) op m))++(List.range xs.length).flatMap (frm (xs.map (·.f)) op m):=by
     rw[List.take_add_one,hmi,List.flatMap_append];simp
    simp only[sxA,sxB,Nat.reduceBEq,Nat.reduceEqDiff,reduceCtorEq,mxA,mxB,Nat.reduceAdd,reduceIte,Nat.reduceLeDiff,splice,f17,r17,ei]
    refine⟨sp.length - (i+1),by omega,i+1,by omega,rfl,hw3,hx3,?_,?_,?_,?_,?_⟩
    ·simp only[uxA,uxB,Nat.reduceBEq];rw[htk];exact hl3
    ·simp only[uxA,uxB,Nat.reduceBEq,f1,r1]
    ·simp only[uxA,uxB,Nat.reduceBEq,f15,r15]
    ·simp only[uxA,uxB,Nat.reduceBEq,f16,r16]
    ·simp only[uxA,uxB,Nat.reduceBEq]
  ·have h2:i=sp.length:=by have:=of_decide_eq_false h2;omega
   subst h2
   rw[List.take_length]at hl'
   simp only[sxA,sxB,Nat.reduceBEq,Nat.reduceEqDiff,reduceCtorEq,mxA,mxB,Nat.reduceAdd,reduceIte,Nat.reduceLeDiff,splice,QlU]
   have hxf:=hxs.trans hx'
   exact .mk hxf.next ⟨hl'.down hxs.next,hxf⟩
def Qg2 (L:List Fm) (op:Int) (l:List Ar):List Ld×Int:=
 if(QX op l==0)=false then([],QX op l) else if(JN L op l).isEmpty=true then([],8) else(JN L op l,0)
section
variable {T:Qa→Prop} {L:Int→List Fm} (hT:∀H H',H.Wf→T H→Ext H H'→T H') (hO:∀op H,T H→Qe prog XF [.int .i64 op] H fun u H'=>Qsw H H' u (L op))
include hT hO
theorem QiG {op:Int} {va:Value} {l:List Ar} (H:Qa) (hTH:T H) (ha:QS H va l) (hva:∀n,H.next≤n→Qj n 6 (.agg #[.int .i64 op,va])=true) (hl:l.length≤1000) (hI:∀a∈l,I64 a.n):
  Qe prog G4 [.agg #[.int .i64 op,va]] H fun u H'=>∃v,u=.tuple #[v,.int .i64 (Qg2 (L op) op l).2]∧Wh Qk H H' v (Qg2 (L op) op l).1∧Ext H H':=by
 refine Qm0 fun hw=>?_
 obtain⟨a0,cap,rfl⟩:=QY ha
 obtain⟨W,eW⟩:∃W,W=Qg2 (L op) op l:=⟨_,rfl⟩
 rw[← eW]
 unfold Qg2 at eW
 simp only[QfM,QBG,simprocAttr]
 generalize hH1:Qa.push H _=H1
 have g1:H1.get H.next=some (.cells [.int .i64 op,.slice a0 l.length cap] Qb false):=by rw[← hH1,Qa.get_push,if_pos rfl];rfl
 have hx1:Ext H H1:=by rw[← hH1];exact(Ext.refl H).push _
 have hw1:H1.Wf:=by rw[← hH1];exact hw.push _
 clear hH1
 simp only[QBD,simprocAttr,g1]
 refine(Vb op _ l H1 (ha.ext hw hx1) hl hI).thenW ?_
 rintro _ _ hn2 hw2 ⟨rfl,kk,rfl⟩
 have hx12:Ext H1 (H1.up kk):=(Ext.refl H1).up hn2
 generalize H1.up kk=H2 at *
 have hx2:=hx1.trans hx12
 have g2:H2.get H.next=some (.cells [.int .i64 op,.slice a0 l.length cap] Qb false):=by rw[hx12.get _ (hw1.lt g1)];exact g1
 simp only[QBD,simprocAttr]
 cases he:QX op l==0 with
 | false=>
  rw[he,if_pos rfl]at eW
  simp only[QBD,simprocAttr,Bool.not_false,VG]
  exact .mk hx2.next ⟨_,by rw[eW],by rw[eW];exact Wh.nil _ _ _,hx2⟩
 | true=>
  rw[he,if_neg (by simp)]at eW
  simp only[QBD,simprocAttr,Bool.not_true,g2]
  refine⟨hva _ hx2.next,?_⟩
  refine(hO op H2 (hT _ _ hw hTH hx2)).thenW ?_
  rintro fv H3 hn3 hw3 ⟨hx23,ys,ey,hya,hyl,hyf⟩
  have hx3:=hx2.trans hx23
  simp only[QBD,simprocAttr]
  refine⟨hx23.eqB,?_⟩
  refine(QiF H3 (ha.ext hw hx3) hl hI hya.fms (fun x hx=>(hyf x hx).mono (Nat.zero_le _)) hyl).thenW ?_
  rintro v H4 hn4 hw4 ⟨hv,hx34⟩
  rw[ey]at hv
  have hx4:=hx3.trans hx34
  have hv:=hv.down hx3.next
  generalize JN (L op) op l=Q at *
  obtain⟨a4,c4,rfl⟩:=hv.slc
  simp only[QBD,simprocAttr,Qw]
  refine Qg (fun h=>?_) (fun h=>?_)
  ·have h0:Q=[]:=List.length_eq_zero_iff.1 (by simpa using h)
   rw[h0,if_pos (show([]:List Ld).isEmpty=true from rfl)]at eW
   simp only[QBD,simprocAttr,VG]
   exact .mk hx4.next ⟨_,by rw[eW],by rw[eW];exact Wh.nil _ _ _,hx4⟩
  ·have h0:Q≠[]:=fun h0=>by rw[h0]at h;simp at h
   rw[if_neg (by simpa using h0)]at eW
   simp only[QBD,simprocAttr,VG]
   exact .mk hx4.next ⟨_,by rw[eW],by rw[eW];exact hv,hx4⟩
end
def Qms (n:Nat):Option (List Int)→Bool | none=>true | some b=>decide (n<b.length)
def ZF (w:Int) (fs:List Fm) (best:Option (List Int)) (c:Ld):Option (List Int):=
 if(fs[c.x.toNat]?.elim false fun f=>GT w f c.h)&&Qms c.b.length best then some c.b else best
def Qnq:Option (List Int)→List Int×Int | none=>([],8) | some b=>(b,0)
def Qfr (L:List Fm) (op:Int) (l:List Ar) (w:Int):List Int×Int:=
 if(QX op l==0)=false then([],QX op l)
 else if(decide (w<0)||decide (3<w))=true then([],2)
 else Qnq ((JN L op l).foldl (ZF w L) none)
theorem QzM {f:Fm} {l:List Ar} {e:List Int} {w c:Ld} (h:c∈Qc6 f l e w):c.b≠[]:=by
 unfold Qc6 at h
 obtain⟨hd,_,rfl⟩:=List.mem_map.1 h
 simp
theorem QzN {f:Fm} {op:Int} {l:List Ar} {c:Ld} (h:c∈Qjx f op l):c.b≠[]:=by
 unfold Qjx at h
 split at h
 ·obtain⟨w,_,h⟩:=List.mem_flatMap.1 h
  exact QzM h
 ·cases h
theorem QsE (op:Int) (l:List Ar):(KD op l).length≤2:=by
 unfold KD
 split
 ·split<;>simp
 ·simp
theorem QtM {L:List Fm} {op:Int} {l:List Ar} (hL:L.length≤6000):(JN L op l).length≤288000:=by
 unfold JN
 have h0:=QsE op l
 have h1:=V5 (f:=fun m=>(List.range L.length).flatMap (frm L op m)) (n:=144000) (KD op l) fun m _=>by
  have h2:=V5 (f:=frm L op m) (n:=24) (List.range L.length) fun k _=>Qpe _ _ _ _
  rw[List.length_range]at h2
  omega
 omega
theorem Qpf {L:List Fm} {op:Int} {l:List Ar} {c:Ld} (h:c∈JN L op l):∃m∈KD op l,∃ (k:Nat) (f:Fm),L[k]? = some f∧∃w∈Qjx f op m,c=GF k w:=by
 unfold JN at h
 obtain⟨m,hm,h⟩:=List.mem_flatMap.1 h
 obtain⟨k,_,h⟩:=List.mem_flatMap.1 h
 unfold frm at h
 split at h
 ·rename_i f hf
  obtain⟨w,hw,rfl⟩:=List.mem_map.1 h
  exact⟨m,hm,k,f,hf,w,hw,rfl⟩
 ·cases h
def QqY (H0 H:Qa) (v:Value):Option (List Int)→Prop
 | none=>v=.slice none 0 0
 | some b=>b≠[]∧Gx 1 5 H0 H v b.length (bys b)
theorem QqY.go {H0 H H':Qa} {v:Value} {o:Option (List Int)} (h:QqY H0 H v o) (hw:H.Wf) (hx:Ext H H'):QqY H0 H' v o:=by
 cases o with
 | none=>exact h
 | some b=>exact⟨h.1,h.2.go hw hx⟩
section
variable {T:Qa→Prop} {L:Int→List Fm} (hT:∀H H',H.Wf→T H→Ext H H'→T H') (hO:∀op H,T H→Qe prog XF [.int .i64 op] H fun u H'=>Qsw H H' u (L op))
include hT hO
theorem QBA {op:Int} {va:Value} {l:List Ar} {w:Int} {H H2:Qa} {B:Nat} {W:List Int×Int} (hw:H.Wf) (hTH:T H) (ha:QS H va l) (hl:l.length≤1000) (hI:∀a∈l,I64 a.n) (hx2:Ext H H2) (hw2:H2.Wf) (g2:H2.get B=some (.cells [.int .i64 op,va] Qb false))
  (eW:W=Qnq ((JN (L op) op l).foldl (ZF w (L op)) none)) {A:Env} (r1:A 1=.int .i64 w) (r2:A 2=.pointer (some ⟨B,0,none⟩)):
  Qp prog ZU ⟨Rt prog Qdj H fun u H'=>∃v,u=.tuple #[v,.int .i64 W.2]∧Gx 1 5 H H' v W.1.length (bys W.1)∧Ext H H',YH⟩ (Rt prog Qdj H fun u H'=>∃v,u=.tuple #[v,.int .i64 W.2]∧Gx 1 5 H H' v W.1.length (bys W.1)∧Ext H H') A H2:=by
 obtain⟨a0,cap,rfl⟩:=QY ha
 simp only[ZU,QBD,simprocAttr,r2,g2]
 refine(hO op H2 (hT _ _ hw hTH hx2)).thenW ?_
 rintro fv H3 hn3 hw3 ⟨hx23,ys,ey,hya,hyl,hyf⟩
 have hx3:=hx2.trans hx23
 have g3:H3.get B=some (.cells [.int .i64 op,.slice a0 l.length cap] Qb false):=by rw[hx23.get _ (hw2.lt g2)];exact g2
 simp only[QBD,simprocAttr,r2,g3]
 refine(QiF H3 (ha.ext hw hx3) hl hI hya.fms (fun x hx=>(hyf x hx).mono (Nat.zero_le _)) hyl).thenW ?_
 rintro v H4 hn4 hw4 ⟨hv,hx34⟩
 rw[ey]at hv
 have hx4:=hx3.trans hx34
 have hys:=hya.fms.ext hw3 hx34
 have hQl:(JN (L op) op l).length≤288000:=QtM (by rw[← ey,List.length_map];exact hyl)
 generalize hQ:JN (L op) op l=Q at *
 obtain⟨va4,c4,rfl⟩:=hv.slc
 obtain⟨⟨fa,fc,rfl,hf1⟩,hf2⟩:=hys
 have hst:QoV prog WT=true:=by kernel_rfl
 simp only[QBD,simprocAttr,Qw]
 refine Qy (fun q A' H'=>∃i:Nat,i≤Q.length∧q=Q.length - i∧H'.Wf∧Ext H4 H'∧QqY H3 H' (A' 8) ((Q.take i).foldl (ZF w (L op)) none)∧A' 1=.int .i64 w∧A' 7=.slice fa ys.length fc∧A' 27=.slice va4 Q.length c4∧A' 28=.int .i64 Q.length∧A' 29=.int .i64 i) Q.length ?_ ?_
 ·refine⟨0,Nat.zero_le _,by omega,hw4,.refl _,?_,?_,?_,?_,?_,?_⟩
  ·simp only[QBE,simprocAttr];rfl
  all_goals simp only[QBE,simprocAttr,r1]
  all_goals rfl
 ·rintro q A' H' ⟨i,hi,rfl,hw',hx',hb,r1,r7,r27,r28,r29⟩
  simp only[VE,QBD,simprocAttr,r28,r29]
  refine Qg (fun h2=>?_) (fun h2=>?_)
  ·have h2:i<Q.length:=by have:=of_decide_eq_true h2;omega
   obtain⟨ss,hsl,hgss,hgs⟩:=(hv.go hw4 hx').it
   obtain⟨b,rfl,hgb⟩:∃b,va4=some ⟨b,0,none⟩∧H'.get b=some (.cells (ldC ss Q) Qk false):=by
    rcases hgss with⟨h,h',_⟩ | ⟨b,c,h,q1,q2,_⟩
    ·omega
    ·cases h;exact⟨b,rfl,q2⟩
   obtain⟨sv,hsv⟩:∃sv,ss[i]? = some sv:=⟨_,List.getElem?_eq_getElem (by omega)⟩
   obtain⟨c,hci⟩:∃c,Q[i]? = some c:=⟨_,List.getElem?_eq_getElem h2⟩
   have hs4:=hgs i sv c hsv hci
   have hat:=Qmr ss Q i sv c hsv hci
   have hll:(ldC ss Q).length=Q.length * 3:=by rw[QiD _ _ hsl]
   have hcm:=List.mem_of_getElem? hci
   rw[← hQ]at hcm
   obtain⟨m,_,k,f,hk,w0,hw0,rfl⟩:=Qpf hcm
   have hne:w0.b≠[]:=QzN hw0
   have hpos:0<w0.b.length:=List.length_pos_iff.2 hne
   have hky:k<ys.length:=by have:=(List.getElem?_eq_some_iff.1 hk).1;rw[← ey,List.length_map]at this;exact this
   obtain⟨y,hyk⟩:∃y,ys[k]? = some y:=⟨_,List.getElem?_eq_getElem hky⟩
   have hyf':y.f=f:=by rw[← ey,List.getElem?_map,hyk]at hk;exact Option.some.inj hk
   obtain⟨bf,ef,rof,rfl,hgf0⟩:=hf1 (by omega)
   have hgf:H'.get bf=some (.cells (WN ys) ef rof):=by rw[hx'.get _ (hw4.lt hgf0)];exact hgf0
   have haty:=Qce ys k y hyk
   have hly:=Yq ys
   have d1:(0:Int)≤i∧(i:Int)<Q.length:=by omega
   have d2:(0:Int)≤k∧(k:Int)<ys.length:=by omega
   have d3:(i:Int).toNat=i:=by omega
   have d4:(k:Int).toNat=k:=by omega
   have ei:IntKind.i64.wrap ((i:Int)+1)=((i+1:Nat):Int):=by rw[w64 (by unfold I64;omega)];omega
   have ex:(GF (k:Int) w0).x=k:=rfl
   have eh:(GF (k:Int) w0).h=w0.h:=rfl
   have eb:(GF (k:Int) w0).b=w0.b:=rfl
   rw[eb]at hs4
   obtain⟨ai,ci,rfl⟩:=hs4.slc
   have lf:=hw'.lt hgf
   have nf:¬bf=H'.next:=by omega
   rw[ex,eh]at hat
   simp only[VD,QBD,simprocAttr,r1,r7,r27,r29,d1,d2,d3,d4,hgb,hat,hgf,haty,nf,if_false]
   refine⟨by omega,by omega,?_⟩
   generalize hH5:Qa.set (Qa.push H' _) _ _=H5
   have hx5:Ext H' H5:=by rw[← hH5];exact((Ext.refl H').push _).set (Nat.le_refl _) _
   have hw5:H5.Wf:=by rw[← hH5];exact(hw'.push _).set (b0:=.cells [.slice none 0 0,.int .i64 0,.int .i64 0] Qk false) (by rw[Qa.get_push,if_pos rfl]) _
   have g5:H5.get H'.next=some (.cells [.slice ai w0.b.length ci,.int .i64 k,.int .i64 w0.h] Qk false):=by rw[← hH5,Qa.get_set,if_pos rfl]
   clear hH5
   refine(Qju w w0.h H5 ((hf2 y (List.mem_of_getElem? hyk)).ext hw4 (hx'.trans hx5))).thenW ?_
   rintro _ H6 hn6 hw6 ⟨rfl,hx56⟩
   have g6:H6.get H'.next=some (.cells [.slice ai w0.b.length ci,.int .i64 k,.int .i64 w0.h] Qk false):=by rw[hx56.get _ (hw5.lt g5)];exact g5
   have hx6:=hx5.trans hx56
   have hg6:Gx 1 5 H3 H6 (.slice ai w0.b.length ci) w0.b.length (bys w0.b):=hs4.go hw' hx6
   have htk:(Q.take (i+1)).foldl (ZF w (L op)) none=ZF w (L op) ((Q.take i).foldl (ZF w (L op)) none) (GF k w0):=by rw[List.take_add_one,hci,List.foldl_append];rfl
   generalize (Q.take i).foldl (ZF w (L op)) none=o at *
   have hstp:ZF w (L op) o (GF k w0)=if GT w y.f w0.h&&Qms w0.b.length o then some w0.b else o:=by
    unfold ZF
    rw[ex,d4,hk,hyf',eh,eb];rfl
   simp only[QBD,simprocAttr]
   cases hp:GT w y.f w0.h with
   | false=>
    rw[hp,Bool.false_and,if_neg (by decide)]at hstp
    simp only[QBD,simprocAttr,r29,ei]
    refine⟨Q.length - (i+1),by omega,i+1,by omega,rfl,hw6,hx'.trans hx6,?_,?_,?_,?_,?_,?_⟩
    ·simp only[QBE,simprocAttr];rw[htk,hstp];exact hb.go hw' hx6
    all_goals simp only[QBE,simprocAttr,r1,r7,r27,r28]
   | true=>
    rw[hp,Bool.true_and]at hstp
    have hend:Qms w0.b.length o=true→∀A2:Env,A2 8=.slice ai w0.b.length ci→A2 1=.int .i64 w→A2 7=.slice (some ⟨bf,0,none⟩) ys.length fc→A2 27=.slice (some ⟨b,0,none⟩) Q.length c4→A2 28=.int .i64 Q.length→A2 29=.int .i64 (i+1:Nat)→Qqf (fun q A' H'=>∃i:Nat,i≤Q.length∧q=Q.length - i∧H'.Wf∧Ext H4 H'∧QqY H3 H' (A' 8) ((Q.take i).foldl (ZF w (L op)) none)∧A' 1=.int .i64 w∧A' 7=.slice (some ⟨bf,0,none⟩) ys.length fc∧A' 27=.slice (some ⟨b,0,none⟩) Q.length c4∧A' 28=.int .i64 Q.length∧A' 29=.int .i64 i) (Q.length - i) A2 H6:=fun h A2 a8 a1 a7 a27 a28 a29=>
     ⟨Q.length - (i+1),by omega,i+1,by omega,rfl,hw6,hx'.trans hx6,by rw[htk,hstp,if_pos h,a8];exact⟨hne,hg6⟩,a1,a7,a27,a28,a29⟩
    simp only[QBD,simprocAttr]
    cases o with
    | none=>
     have hb:A' 8=.slice none 0 0:=hb
     rw[Qfa (a:=none) (n:=0) (c:=0) hst (by simp only[QBE,simprocAttr,hb])]
     simp only[QBD,simprocAttr,Option.isNone_none,g6,r29,ei]
     refine hend rfl _ ?_ ?_ ?_ ?_ ?_ ?_
     all_goals simp only[QBE,simprocAttr,r1,r7,r27,r28]
    | some b0=>
     obtain⟨hbn,hbg⟩:=id hb
     obtain⟨b8,c8,eb8⟩:∃b c,A' 8=.slice (some ⟨b,0,none⟩) b0.length c:=by
      rcases hbg with⟨_,h,_⟩ | ⟨b,c,h,_⟩
      ·exact absurd (List.length_eq_zero_iff.1 h) hbn
      ·exact⟨b,c,h⟩
     rw[Qfa (a:=some ⟨b8,0,none⟩) (n:=b0.length) (c:=c8) hst (by simp only[QBE,simprocAttr,eb8])]
     simp only[QBD,simprocAttr,Option.isNone_some,g6,eb8,Qw]
     refine Qg (fun h=>?_) (fun h=>?_)
     ·have h:=of_decide_eq_true h
      simp only[QBD,simprocAttr,g6,r29,ei]
      refine hend (by show decide (w0.b.length<b0.length)=true;rw[decide_eq_true_eq];omega) _ ?_ ?_ ?_ ?_ ?_ ?_
      all_goals simp only[QBE,simprocAttr,r1,r7,r27,r28]
     ·have h:=of_decide_eq_false h
      have hls:Qms w0.b.length (some b0)=false:=by show decide (w0.b.length<b0.length)=false;rw[decide_eq_false_iff_not];omega
      rw[hls,if_neg (by decide)]at hstp
      simp only[QBD,simprocAttr,r29,ei]
      refine⟨Q.length - (i+1),by omega,i+1,by omega,rfl,hw6,hx'.trans hx6,?_,?_,?_,?_,?_,?_⟩
      ·simp only[QBE,simprocAttr,eb8];rw[htk,hstp];rw[eb8]at hb;exact hb.go hw' hx6
      all_goals simp only[QBE,simprocAttr,r1,r7,r27,r28]
  ·have h2:i=Q.length:=by have:=of_decide_eq_false h2;omega
   subst h2
   rw[List.take_length]at hb
   simp only[VC,QBD,simprocAttr]
   generalize Q.foldl (ZF w (L op)) none=o at *
   have hxf:=hx4.trans hx'
   cases o with
   | none=>
    have hb:A' 8=.slice none 0 0:=hb
    simp only[Qnq]at eW
    rw[Qfa (a:=none) (n:=0) (c:=0) hst (by simp only[QBE,simprocAttr,hb])]
    simp only[QBD,simprocAttr,Option.isNone_none,Xy]
    exact .mk hxf.next ⟨_,by rw[eW],by rw[eW];exact .inl ⟨rfl,rfl,rfl⟩,hxf⟩
   | some bs=>
    obtain⟨hbn,hbg⟩:=hb
    simp only[Qnq]at eW
    obtain⟨b,c,eb,q1,q2,q3⟩:∃b c,A' 8=.slice (some ⟨b,0,none⟩) bs.length c∧True∧True∧True:=by
     rcases hbg with⟨_,h,_⟩ | ⟨b,c,h,_⟩
     ·exact absurd (List.length_eq_zero_iff.1 h) hbn
     ·exact⟨b,c,h,trivial,trivial,trivial⟩
    rw[Qfa (a:=some ⟨b,0,none⟩) (n:=bs.length) (c:=c) hst (by simp only[QBE,simprocAttr,eb])]
    rw[eb]at hbg
    simp only[QBD,simprocAttr,Option.isNone_some,eb,Xy]
    exact .mk hxf.next ⟨_,by rw[eW],by rw[eW];exact hbg.down hx3.next,hxf⟩
theorem QdJ {op:Int} {va:Value} {l:List Ar} (w:Int) (H:Qa) (hTH:T H) (ha:QS H va l) (hva:∀n,H.next≤n→Qj n 6 (.agg #[.int .i64 op,va])=true) (hl:l.length≤1000) (hI:∀a∈l,I64 a.n):
  Qe prog ZI [.agg #[.int .i64 op,va],.int .i64 w] H fun u H'=>∃v,u=.tuple #[v,.int .i64 (Qfr (L op) op l w).2]∧Gx 1 5 H H' v (Qfr (L op) op l w).1.length (bys (Qfr (L op) op l w).1)∧Ext H H':=by
 refine Qjb fun hw=>?_
 obtain⟨a0,cap,rfl⟩:=QY ha
 obtain⟨W,eW⟩:∃W,W=Qfr (L op) op l w:=⟨_,rfl⟩
 rw[← eW]
 unfold Qfr at eW
 have hnil:∀ (H0 H1:Qa),Gx 1 5 H0 H1 (.slice none 0 0) ([]:List Int).length (bys []):=fun _ _=>.inl ⟨rfl,rfl,rfl⟩
 simp only[QbT,QBG,simprocAttr]
 generalize hH1:Qa.push H _=H1
 have g1:H1.get H.next=some (.cells [.int .i64 op,.slice a0 l.length cap] Qb false):=by rw[← hH1,Qa.get_push,if_pos rfl];rfl
 have hx1:Ext H H1:=by rw[← hH1];exact(Ext.refl H).push _
 have hw1:H1.Wf:=by rw[← hH1];exact hw.push _
 clear hH1
 simp only[QBD,simprocAttr,g1]
 refine(Vb op _ l H1 (ha.ext hw hx1) hl hI).thenW ?_
 rintro _ _ hn2 hw2 ⟨rfl,kk,rfl⟩
 have hx12:Ext H1 (H1.up kk):=(Ext.refl H1).up hn2
 generalize H1.up kk=H2 at *
 have hx2:=hx1.trans hx12
 have g2:H2.get H.next=some (.cells [.int .i64 op,.slice a0 l.length cap] Qb false):=by rw[hx12.get _ (hw1.lt g1)];exact g1
 simp only[QBD,simprocAttr]
 cases he:QX op l==0 with
 | false=>
  rw[he,if_pos rfl]at eW
  simp only[QBD,simprocAttr,Bool.not_false,Xy]
  exact .mk hx2.next ⟨_,by rw[eW],by rw[eW];exact hnil _ _,hx2⟩
 | true=>
  rw[he,if_neg (by simp)]at eW
  simp only[VF,QBD,simprocAttr,Bool.not_true]
  cases h0:decide (w<0) with
  | true=>
   rw[h0,Bool.true_or,if_pos rfl]at eW
   simp only[QBD,simprocAttr,Bool.not_true,Xy]
   exact .mk hx2.next ⟨_,by rw[eW],by rw[eW];exact hnil _ _,hx2⟩
  | false=>
   rw[h0,Bool.false_or]at eW
   simp only[QBD,simprocAttr,Bool.not_false]
   refine Qg (fun h=>?_) (fun h=>?_)
   ·rw[if_pos (by simpa using h)]at eW
    simp only[QBD,simprocAttr,Xy]
    exact .mk hx2.next ⟨_,by rw[eW],by rw[eW];exact hnil _ _,hx2⟩
   ·rw[if_neg (by simpa using h)]at eW
    simp only[QBD,simprocAttr]
    refine QBA hT hO hw hTH ha hl hI hx2 hw2 g2 eW ?_ ?_
    all_goals simp only[QBE,simprocAttr]
end
theorem Qn4 (x:Int):∀ (l:List Int) (k:Nat),decide (0≤JF l x k)=l.any (·==x)
 | [],k=>by simp[JF]
 | y::l,k=>by
  unfold JF
  rw[List.any_cons]
  split
  ·rename_i h
   subst h
   simp
  ·rename_i h
   rw[Qn4 x l (k+1)]
   have:(y==x)=false:=by rw[beq_eq_false_iff_ne];exact fun e=>h e.symm
   rw[this,Bool.false_or]
theorem Qmt (f:Fm) (s:Int):Qpb f s=f.shapes.any (·==s):=Qn4 s f.shapes 0
theorem Qmu {l:List Int} {i:Nat} {x y:Int} (h:l[i]? = some x):(l.take (i+1)).any (·==y)=((l.take i).any (·==y)||(x==y)):=by
 rw[List.take_add_one,h,List.any_append];simp
theorem QzO {x:Lf} {s:Value} {cx d w:Int} (H:Qa) (hx:x.At H) (hs:s.oneCell'=true) (hw0:0≤w∧w<4):
  Qe prog YM [.agg x.cells.toArray,.agg #[s,.int .i64 cx,.int .i64 d],.int .i64 w] H fun v H'=>v=.bool (GT w x.f d)∧Ext H H':=by
 refine QdR fun hw=>?_
 have ex:(Value.agg x.cells.toArray).cells.toList=x.cells:=rfl
 have x1:x.cells[1]? = some x.sv:=rfl
 obtain⟨a1,c1,e1,hb1⟩:=id hx.2.2.1
 simp only[JQ,ex,QBG,simprocAttr]
 generalize hH1:Qa.push H (.cells x.cells Qc false)=H1
 have g1:H1.get H.next=some (.cells x.cells Qc false):=by rw[← hH1,Qa.get_push,if_pos rfl]
 have hx1:Ext H H1:=by rw[← hH1];exact(Ext.refl H).push _
 have hn1:H1.next=H.next+1:=by rw[← hH1];rfl
 have hw1:H1.Wf:=by rw[← hH1];exact hw.push _
 clear hH1
 simp only[QBD,simprocAttr,hn1]
 generalize hH2:Qa.push H1 _=H2
 have hx2:Ext H H2:=by rw[← hH2];exact(hx1.push _)
 have hw2:H2.Wf:=by rw[← hH2];exact(hw1.push _)
 have g3:H2.get H.next=some (.cells x.cells Qc false):=by rw[← hH2,Qa.get_push,if_neg (by omega)];exact g1
 have g4:H2.get (H.next+1)=some (.cells [s,.int .i64 cx,.int .i64 d] Qk false):=by rw[← hH2,Qa.get_push,if_pos (by omega)]
 clear hH2
 have hlen:x.f.shapes.length≤1000:=hx.1
 have hP:GT w x.f d=if(w==1)=true then x.f.shapes.any (·==26) else if(w==2)=true then x.f.shapes.any (·==27) else if(w==3)=true then(!(x.f.shapes.any (·==21)||x.f.shapes.any (·==26))&&((d==4)||(d==-1))) else true:=by
  unfold GT;rw[Qmt,Qmt,Qmt]
 refine Qy (fun q A' H'=>∃i:Nat,i≤x.f.shapes.length∧q=x.f.shapes.length - i∧H'=H2∧A' 2=.int .i64 w∧A' 3=.pointer (some ⟨H.next,0,none⟩)∧A' 4=.pointer (some ⟨H.next+1,0,none⟩)∧A' 7=.bool ((x.f.shapes.take i).any (·==26))∧A' 8=.bool ((x.f.shapes.take i).any (·==27))∧A' 9=.bool ((x.f.shapes.take i).any (·==21))∧A' 10=.int .i64 i) x.f.shapes.length ?_ ?_
 ·refine⟨0,Nat.zero_le _,by omega,rfl,?_,?_,?_,?_,?_,?_,?_⟩
  all_goals simp only[QBE,simprocAttr,List.take_zero,List.any_nil]
  all_goals rfl
 ·rintro q A' H' ⟨i,hi,rfl,rfl,r2,r3,r4,r7,r8,r9,r10⟩
  simp only[Je,QBD,simprocAttr,r3,r10,g3,x1,e1,Qw]
  refine Qg (fun h2=>?_) (fun h2=>?_)
  ·have h2:i<x.f.shapes.length:=by have:=of_decide_eq_true h2;omega
   obtain⟨b,e,ro,rfl,hgb0⟩:=hb1 (by omega)
   have hgb:H'.get b=some (.cells (ints x.f.shapes) e ro):=by rw[hx2.get _ (hw.lt hgb0)];exact hgb0
   obtain⟨y,hy⟩:∃y,x.f.shapes[i]? = some y:=⟨_,List.getElem?_eq_getElem h2⟩
   have hyc:(ints x.f.shapes)[i]? = some (.int .i64 y):=by unfold ints;rw[List.getElem?_map,hy];rfl
   have d1:(0:Int)≤i∧(i:Int)<x.f.shapes.length:=by omega
   have d3:(i:Int).toNat=i:=by omega
   have ei:IntKind.i64.wrap ((i:Int)+1)=((i+1:Nat):Int):=by rw[w64 (by unfold I64;omega)];omega
   have t26:=Qmu (y:=26) hy
   have t27:=Qmu (y:=27) hy
   have t21:=Qmu (y:=21) hy
   generalize (x.f.shapes.take i).any (·==26)=b26 at *
   generalize (x.f.shapes.take i).any (·==27)=b27 at *
   generalize (x.f.shapes.take i).any (·==21)=b21 at *
   simp only[Jd,QBD,simprocAttr,r7,r8,r9,r10,r3]
   cases b26<;>cases b27<;>cases b21
   all_goals simp only[QBD,simprocAttr,r7,r8,r9,r10,r3,g3,x1,e1,d1,d3,hgb,hyc,ei]
   all_goals refine⟨x.f.shapes.length - (i+1),by omega,i+1,by omega,rfl,rfl,?_,?_,?_,?_,?_,?_,?_⟩
   all_goals simp only[QBE,simprocAttr,r2,r3,r4,r7,r8,r9,t26,t27,t21,Bool.true_or,Bool.false_or]
  ·have h2:i=x.f.shapes.length:=by have:=of_decide_eq_false h2;omega
   subst h2
   rw[List.take_length]at r7 r8 r9
   generalize x.f.shapes.any (·==26)=b26 at *
   generalize x.f.shapes.any (·==27)=b27 at *
   generalize x.f.shapes.any (·==21)=b21 at *
   simp only[Jc,QBD,simprocAttr,r2]
   cases hq1:w==1 with
   | true=>
    rw[hq1,if_pos rfl]at hP
    simp only[QBD,simprocAttr,r7,QP]
    exact .mk hx2.next ⟨by rw[hP],hx2⟩
   | false=>
    rw[hq1,if_neg (by simp)]at hP
    simp only[Jb,QBD,simprocAttr,r7,r8]
    cases hq2:w==2 with
    | true=>
     rw[hq2,if_pos rfl]at hP
     simp only[QBD,simprocAttr,r8,QP]
     exact .mk hx2.next ⟨by rw[hP],hx2⟩
    | false=>
     rw[hq2,if_neg (by simp)]at hP
     simp only[Ja,QBD,simprocAttr,r7,r8]
     cases hq3:w==3 with
     | false=>
      rw[hq3,if_neg (by simp)]at hP
      simp only[QBD,simprocAttr,QP]
      exact .mk hx2.next ⟨by rw[hP],hx2⟩
     | true=>
      rw[hq3,if_pos rfl]at hP
      simp only[Z9,QBD,simprocAttr,r4,r7,r9,g4]
      have hfin:∀u:Bool,u=(!(b21||b26)&&((d==4)||(d==-1)))→Value.bool u=.bool (GT w x.f d):=fun u e=>by rw[hP,e]
      cases b21 with
      | true=>
       simp only[QBD,simprocAttr,Bool.not_true,r4,r7,r9,g4,QP]
       exact .mk hx2.next ⟨hfin _ (by simp),hx2⟩
      | false=>
       cases b26 with
       | true=>
        simp only[QBD,simprocAttr,Bool.not_true,Bool.not_false,r4,r7,r9,g4,QP]
        exact .mk hx2.next ⟨hfin _ (by simp),hx2⟩
       | false=>
        simp only[QBD,simprocAttr,Bool.not_true,Bool.not_false,r4,r7,r9,g4,QP]
        cases h4:d==4 with
        | true=>
         simp only[QBD,simprocAttr,Bool.not_true,r4,g4,QP]
         exact .mk hx2.next ⟨hfin _ (by simp[h4]),hx2⟩
        | false=>
         simp only[QBD,simprocAttr,Bool.not_false,r4,g4,QP]
         exact .mk hx2.next ⟨hfin _ (by simp[h4]),hx2⟩
def QqZ (a b:List Int):Bool:=(a.map fun z=>z.toNat.toUInt8)==(b.map fun z=>z.toNat.toUInt8)
theorem Qkh:∀l:List Int,Ji (bys l)=some (l.map fun z=>z.toNat.toUInt8)
 | []=>rfl
 | z::l=>by
  show(Ji (bys l)).map (z.toNat.toUInt8::·)=_
  rw[Qkh l]
  rfl
theorem QwC {H0 H:Qa} {v:Value} {l:List Int} (h:Gx 1 5 H0 H v l.length (bys l)):∃a n c,v=.slice a n c∧JW 1 v H=some (bys l):=by
 rcases h with⟨rfl,h,_⟩ | ⟨b,c,rfl,_,h3,_⟩
 ·have:l=[]:=List.length_eq_zero_iff.1 h
  subst this
  exact⟨none,0,0,rfl,rfl⟩
 ·refine⟨_,_,_,rfl,?_⟩
  by_cases h0:l.length=0
  ·have:l=[]:=by simpa using h0
   subst this
   simp[JW,bys]
  ·have hl:=YE l
   simp only[JW,h0,if_false,h3]
   rw[if_pos (by omega),List.drop_zero,List.take_of_length_le (by omega)]
theorem Qq0 {A:Env} {H0 H:Qa} {k:Value→Qa→Prop} {src dst e:TypeId} {x:Operand} {v:Value} {l:List Int} (hs:prog.underlying src=some (.slice e)) (he:prog.underlying e=some (.int .u8)) (hd:prog.underlying dst=some .string) (hx:ev A x=v) (hr:Gx 1 5 H0 H v l.length (bys l)):
  pr prog (.gen (.convert src dst x)) false A H k=k (.string (mkS (l.map fun z=>z.toNat.toUInt8))) H:=by
 obtain⟨a,n,c,rfl,hc⟩:=QwC hr
 have e1:rop prog (.gen (.convert src dst x)) A H=some (.string (mkS (l.map fun z=>z.toNat.toUInt8)),H):=by
  simp only[rop,aop,Qby,hs,hd,hx,he,hc,Qkh]
 refine(Q6 _).trans ?_
 rw[e1,Qr]
theorem QtN {H0 H1:Qa} (va vb:Value) (l m:List Int) (H:Qa) (ha:Gx 1 5 H0 H va l.length (bys l)) (hb:Gx 1 5 H1 H vb m.length (bys m)):Qe prog WW [va,vb] H fun u H'=>u=.bool (QqZ l m)∧H'=H:=by
 refine Qbo fun hw=>?_
 simp only[ZG,QBD,simprocAttr]
 rw[Qq0 (e:=5) (v:=va) (by kernel_rfl) (by kernel_rfl) (by kernel_rfl) (by simp only[QBE,simprocAttr]) ha]
 simp only[QBD,simprocAttr]
 rw[Qq0 (e:=5) (v:=vb) (by kernel_rfl) (by kernel_rfl) (by kernel_rfl) (by simp only[QBE,simprocAttr]) hb]
 simp only[QBD,simprocAttr,Qaa]
 exact .mk (Nat.le_refl _) ⟨by rw[Qu2,Qu2];rfl,rfl⟩
theorem Qmv (l:List Int):QqZ l l=true:=by unfold QqZ;exact beq_self_eq_true _
def lfF (w:Int) (fs:List Fm) (c:Ld):Bool:=fs[c.x.toNat]?.elim false fun f=>GT w f c.h
theorem QwD (w:Int) (fs:List Fm) (o:Option (List Int)) (c:Ld):ZF w fs o c=if(lfF w fs c&&Qms c.b.length o)=true then some c.b else o:=rfl
theorem Qfe (w:Int) (fs:List Fm):∀ (Q:List Ld) (o:Option (List Int)),match Q.foldl (ZF w fs) o with
  | none=>o=none∧∀c∈Q,lfF w fs c=false
  | some b=>(o=some b∨∃c∈Q,lfF w fs c=true∧c.b=b)∧(∀c∈Q,lfF w fs c=true→b.length≤c.b.length)∧∀b0,o=some b0→b.length≤b0.length
 | [],o=>by
  cases o with
  | none=>exact⟨rfl,fun c hc=>by cases hc⟩
  | some b=>exact⟨.inl rfl,(fun c hc=>by cases hc),fun b0 h=>by cases h;exact Nat.le_refl _⟩
 | c::Q,o=>by
  have ih:=Qfe w fs Q (ZF w fs o c)
  rw[List.foldl_cons]
  rw[QwD]at ih ⊢
  generalize hz:Q.foldl (ZF w fs) (if(lfF w fs c&&Qms c.b.length o)=true then some c.b else o)=z at *
  cases hl:lfF w fs c with
  | false=>
   rw[hl,Bool.false_and,if_neg (by decide)]at ih
   cases z with
   | none=>
    obtain⟨h1,h2⟩:=ih
    exact⟨h1,fun d hd=>by rcases List.mem_cons.1 hd with rfl | hd;exact hl;exact h2 d hd⟩
   | some b=>
    obtain⟨h1,h2,h3⟩:=ih
    refine⟨?_,fun d hd hd2=>?_,h3⟩
    ·rcases h1 with h1 | ⟨d,hd,h1⟩
     ·exact .inl h1
     ·exact .inr ⟨d,List.mem_cons_of_mem _ hd,h1⟩
    ·rcases List.mem_cons.1 hd with rfl | hd
     ·rw[hl]at hd2;cases hd2
     ·exact h2 d hd hd2
  | true=>
   rw[hl,Bool.true_and]at ih
   cases hs:Qms c.b.length o with
   | true=>
    rw[hs,if_pos rfl]at ih
    cases z with
    | none=>cases ih.1
    | some b=>
     obtain⟨h1,h2,h3⟩:=ih
     have hbc:=h3 _ rfl
     refine⟨?_,fun d hd hd2=>?_,fun b0 h=>?_⟩
     ·rcases h1 with h1 | ⟨d,hd,h1⟩
      ·cases h1;exact .inr ⟨c,List.mem_cons_self ..,hl,rfl⟩
      ·exact .inr ⟨d,List.mem_cons_of_mem _ hd,h1⟩
     ·rcases List.mem_cons.1 hd with rfl | hd
      ·exact hbc
      ·exact h2 d hd hd2
     ·rw[h]at hs
      have:c.b.length<b0.length:=of_decide_eq_true hs
      omega
   | false=>
    rw[hs,if_neg (by decide)]at ih
    cases o with
    | none=>cases hs
    | some b0=>
     have h0:¬c.b.length<b0.length:=of_decide_eq_false hs
     cases z with
     | none=>cases ih.1
     | some b=>
      obtain⟨h1,h2,h3⟩:=ih
      have hb0:=h3 _ rfl
      refine⟨?_,fun d hd hd2=>?_,h3⟩
      ·rcases h1 with h1 | ⟨d,hd,h1⟩
       ·exact .inl h1
       ·exact .inr ⟨d,List.mem_cons_of_mem _ hd,h1⟩
      ·rcases List.mem_cons.1 hd with rfl | hd
       ·omega
       ·exact h2 d hd hd2
def QsF (w:Int) (fs:List Fm) (b:List Int) (Q:List Ld):Bool:=Q.any fun c=>lfF w fs c&&QqZ c.b b
def Qpg (w:Int) (fs:List Fm) (e:Int) (b:List Int) (Q:List Ld):Bool:=Q.any fun c=>lfF w fs c&&(!(e==0)||decide ((c.b.length:Int)<b.length))
theorem QwE {w:Int} {fs:List Fm} {Q:List Ld} (h:Q.foldl (ZF w fs) none=none) (b:List Int):Qpg w fs 8 b Q=false:=by
 have:=Qfe w fs Q none
 rw[h]at this
 unfold Qpg
 rw[List.any_eq_false]
 intro c hc
 rw[this.2 c hc];simp
theorem QwF {w:Int} {fs:List Fm} {Q:List Ld} {b:List Int} (h:Q.foldl (ZF w fs) none=some b):QsF w fs b Q=true∧Qpg w fs 0 b Q=false:=by
 have:=Qfe w fs Q none
 rw[h]at this
 obtain⟨h1,h2,_⟩:=this
 refine⟨?_,?_⟩
 ·rcases h1 with h1 | ⟨c,hc,h3,rfl⟩
  ·cases h1
  ·unfold QsF
   rw[List.any_eq_true]
   exact⟨c,hc,by rw[h3,Qmv];rfl⟩
 ·unfold Qpg
  rw[List.any_eq_false]
  intro c hc
  cases hl:lfF w fs c with
  | false=>simp
  | true=>
   have:=h2 c hc hl
   simp
   omega
abbrev KE (H:Qa):Env→Qa→Prop:=Rt prog Vf H fun u H'=>u=.bool true∧Ext H H'
section
variable {T:Qa→Prop} {L:Int→List Fm} (hT:∀H H',H.Wf→T H→Ext H H'→T H') (hO:∀op H,T H→Qe prog XF [.int .i64 op] H fun u H'=>Qsw H H' u (L op))
include hT hO
theorem QBB {op w:Int} {va:Value} {l:List Ar} {H H2 Ha Hb:Qa} {B:Nat} {v6 v8:Value} (hw:H.Wf) (hTH:T H) (hw0:0≤w∧w<4) (hx2:Ext H H2) (hw2:H2.Wf) (g2:H2.get B=some (.cells [.int .i64 op,va] Qb false)) (hva:va.oneCell'=true)
  (hnz:JN (L op) op l≠[]) (h6:Wh Qk Ha H2 v6 (JN (L op) op l)) {W:List Int×Int} (eW:W=Qnq ((JN (L op) op l).foldl (ZF w (L op)) none)) (h8:Gx 1 5 Hb H2 v8 W.1.length (bys W.1))
  {A:Env} (r1:A 1=.int .i64 w) (r2:A 2=.pointer (some ⟨B,0,none⟩)) (r5:A 5=.bool true) (r6:A 6=v6) (r8:A 8=v8) (r9:A 9=.int .i64 W.2):
  Qp prog WO ⟨KE H,YH⟩ (KE H) A H2:=by
 simp only[WO,QBD,simprocAttr,r2,g2]
 refine(hO op H2 (hT _ _ hw hTH hx2)).thenW ?_
 rintro fv H4 hn3 hw4 ⟨hx24,ys,ey,hya,hyl,hyf⟩
 have hx4:=hx2.trans hx24
 have h6:=h6.go hw2 hx24
 have h8:=h8.go hw2 hx24
 have hQl:(JN (L op) op l).length≤288000:=QtM (by rw[← ey,List.length_map];exact hyl)
 have hfold0:=@QwE w (L op) (JN (L op) op l)
 have hfold1:=@QwF w (L op) (JN (L op) op l)
 have hfold2:=Qfe w (L op) (JN (L op) op l) none
 generalize hQ:JN (L op) op l=Q at *
 obtain⟨va6,c6,rfl⟩:=h6.slc
 obtain⟨va8,c8,rfl⟩:=h8.slc
 obtain⟨⟨fa,fc,rfl,hf1⟩,hf2⟩:=hya.fms
 simp only[QBD,simprocAttr]
 refine Qy (fun q A' H'=>∃i:Nat,i≤Q.length∧q=Q.length - i∧H'.Wf∧Ext H4 H'∧A' 11=.bool (QsF w (L op) W.1 (Q.take i))∧A' 12=.bool (Qpg w (L op) W.2 W.1 (Q.take i))∧A' 1=.int .i64 w∧A' 5=.bool true∧A' 6=.slice va6 Q.length c6∧A' 8=.slice va8 W.1.length c8∧A' 9=.int .i64 W.2∧A' 10=.slice fa ys.length fc∧A' 13=.int .i64 i) Q.length ?_ ?_
 ·refine⟨0,Nat.zero_le _,by omega,hw4,.refl _,?_,?_,?_,?_,?_,?_,?_,?_,?_⟩
  all_goals simp only[QBE,simprocAttr,r1,r5,r6,r8,r9]
  all_goals rfl
 ·rintro q A' H' ⟨i,hi,rfl,hw',hx',r11,r12,r1,r5,r6,r8,r9,r10,r13⟩
  simp only[XZ,QBD,simprocAttr,r6,r13,Qw]
  refine Qg (fun h2=>?_) (fun h2=>?_)
  ·have h2:i<Q.length:=by have:=of_decide_eq_true h2;omega
   obtain⟨ss,hsl,hgss,hgs⟩:=(h6.go hw4 hx').it
   obtain⟨b,rfl,hgb⟩:∃b,va6=some ⟨b,0,none⟩∧H'.get b=some (.cells (ldC ss Q) Qk false):=by
    rcases hgss with⟨h,h',_⟩ | ⟨b,c,h,q1,q2,_⟩
    ·omega
    ·cases h;exact⟨b,rfl,q2⟩
   obtain⟨sv,hsv⟩:∃sv,ss[i]? = some sv:=⟨_,List.getElem?_eq_getElem (by omega)⟩
   obtain⟨c,hci⟩:∃c,Q[i]? = some c:=⟨_,List.getElem?_eq_getElem h2⟩
   have hs4:=hgs i sv c hsv hci
   have hat:=Qmr ss Q i sv c hsv hci
   have hll:(ldC ss Q).length=Q.length * 3:=by rw[QiD _ _ hsl]
   have hcm:=List.mem_of_getElem? hci
   rw[← hQ]at hcm
   obtain⟨m,_,k,f,hk,w0,hw0m,rfl⟩:=Qpf hcm
   have hky:k<ys.length:=by have:=(List.getElem?_eq_some_iff.1 hk).1;rw[← ey,List.length_map]at this;exact this
   obtain⟨y,hyk⟩:∃y,ys[k]? = some y:=⟨_,List.getElem?_eq_getElem hky⟩
   have hyf':y.f=f:=by rw[← ey,List.getElem?_map,hyk]at hk;exact Option.some.inj hk
   obtain⟨bf,ef,rof,rfl,hgf0⟩:=hf1 (by omega)
   have hgf:H'.get bf=some (.cells (WN ys) ef rof):=by rw[hx'.get _ (hw4.lt hgf0)];exact hgf0
   have haty:=Qce ys k y hyk
   have hly:=Yq ys
   have d1:(0:Int)≤i∧(i:Int)<Q.length:=by omega
   have d2:(0:Int)≤k∧(k:Int)<ys.length:=by omega
   have d3:(i:Int).toNat=i:=by omega
   have d4:(k:Int).toNat=k:=by omega
   have d5:decide ((k:Int)<0)=false:=by rw[decide_eq_false_iff_not];omega
   have d6:decide ((ys.length:Int)≤(k:Int))=false:=by rw[decide_eq_false_iff_not];omega
   have ei:IntKind.i64.wrap ((i:Int)+1)=((i+1:Nat):Int):=by rw[w64 (by unfold I64;omega)];omega
   have hl1:(ldC ss Q)[i * 3]? = some sv:=by
    have:=congrArg (fun l=>l[0]?) hat
    simpa[List.getElem?_take,List.getElem?_drop] using this
   have hl2:(ldC ss Q)[i * 3+1]? = some (.int .i64 k):=by
    have:=congrArg (fun l=>l[1]?) hat
    simpa[List.getElem?_take,List.getElem?_drop,GF] using this
   have eh:(GF (k:Int) w0).h=w0.h:=rfl
   have eb:(GF (k:Int) w0).b=w0.b:=rfl
   have hlf:lfF w (L op) (GF (k:Int) w0)=GT w y.f w0.h:=by unfold lfF;rw[show(GF (k:Int) w0).x.toNat=k from d4,hk,hyf',eh];rfl
   have ex:(GF (k:Int) w0).x=k:=rfl
   rw[ex,eh]at hat
   rw[eb]at hs4
   obtain⟨ai,ci,rfl⟩:=hs4.slc
   have t11:QsF w (L op) W.1 (Q.take (i+1))=(QsF w (L op) W.1 (Q.take i)||(GT w y.f w0.h&&QqZ w0.b W.1)):=by unfold QsF;rw[List.take_add_one,hci,List.any_append,← hlf];simp[eb]
   have t12:Qpg w (L op) W.2 W.1 (Q.take (i+1))=(Qpg w (L op) W.2 W.1 (Q.take i)||(GT w y.f w0.h&&(!(W.2==0)||decide ((w0.b.length:Int)<W.1.length)))):=by unfold Qpg;rw[List.take_add_one,hci,List.any_append,← hlf];simp[eb]
   generalize QsF w (L op) W.1 (Q.take i)=fnd at *
   generalize Qpg w (L op) W.2 W.1 (Q.take i)=lss at *
   simp only[XY,QBD,simprocAttr,r1,r6,r10,r13,d1,d2,d3,d4,d5,d6,hgb,hl2]
   simp only[XX,QBD,simprocAttr,r1,r6,r10,r13,d1,d2,d3,d4,hgb,hat,hl2,hgf,haty]
   refine⟨by omega,by omega,?_⟩
   refine(QzO H' ((hf2 y (List.mem_of_getElem? hyk)).ext hw4 hx') rfl hw0).thenW ?_
   rintro _ H6 hn6 hw6 ⟨rfl,hx6⟩
   have hgb6:H6.get b=some (.cells (ldC ss Q) Qk false):=by rw[hx6.get _ (hw'.lt hgb)];exact hgb
   have hs6:=hs4.go hw' hx6
   have h86:=h8.go hw4 (hx'.trans hx6)
   simp only[QBD,simprocAttr]
   cases hp:GT w y.f w0.h with
   | false=>
    rw[hp,Bool.false_and,Bool.or_false]at t11 t12
    simp only[QBD,simprocAttr,Bool.not_false,r13,ei]
    refine⟨Q.length - (i+1),by omega,i+1,by omega,rfl,hw6,hx'.trans hx6,?_,?_,?_,?_,?_,?_,?_,?_,?_⟩
    all_goals simp only[QBE,simprocAttr,r1,r5,r6,r8,r9,r10,r11,r12,t11,t12]
   | true=>
    rw[hp,Bool.true_and]at t11 t12
    have hq:=QtN _ _ w0.b W.1 H6 hs6 h86
    simp only[XW,QBD,simprocAttr,Bool.not_true,r11]
    cases fnd with
    | false=>
     simp only[QBD,simprocAttr,r6,r8,r13,d1,d3,hgb6,hl1]
     refine hq.thenW ?_
     rintro _ H6 _ _ ⟨rfl,rfl⟩
     simp only[QBD,simprocAttr,r12]
     cases lss with
     | true=>
      simp only[QBD,simprocAttr,Bool.not_true,Bool.not_false,r6,r8,r9,r13,ei]
      refine⟨Q.length - (i+1),by omega,i+1,by omega,rfl,hw6,hx'.trans hx6,?_,?_,?_,?_,?_,?_,?_,?_,?_⟩
      all_goals simp only[QBE,simprocAttr,r1,r5,r6,r8,r9,r10,r11,r12,t11,t12,Bool.true_or,Bool.false_or]
     | false=>
      simp only[QBD,simprocAttr,Bool.not_true,Bool.not_false,r9]
      cases he:W.2==0 with
      | false=>
       simp only[QBD,simprocAttr,Bool.not_true,Bool.not_false,r6,r8,r9,r13,ei]
       refine⟨Q.length - (i+1),by omega,i+1,by omega,rfl,hw6,hx'.trans hx6,?_,?_,?_,?_,?_,?_,?_,?_,?_⟩
       all_goals simp only[QBE,simprocAttr,r1,r5,r6,r8,r9,r10,r11,r12,t11,t12,he,Bool.true_or,Bool.false_or,Bool.not_false]
      | true=>
       simp only[QBD,simprocAttr,Bool.not_true,Bool.not_false,r6,r8,r9,r13,ei,d1,d3,hgb6,hl1,Qw]
       refine⟨Q.length - (i+1),by omega,i+1,by omega,rfl,hw6,hx'.trans hx6,?_,?_,?_,?_,?_,?_,?_,?_,?_⟩
       all_goals simp only[QBE,simprocAttr,r1,r5,r6,r8,r9,r10,r11,r12,t11,t12,he,Bool.true_or,Bool.false_or,Bool.not_true]
    | true=>
     simp only[QBD,simprocAttr,r12]
     cases lss with
     | true=>
      simp only[QBD,simprocAttr,Bool.not_true,Bool.not_false,r6,r8,r9,r13,ei]
      refine⟨Q.length - (i+1),by omega,i+1,by omega,rfl,hw6,hx'.trans hx6,?_,?_,?_,?_,?_,?_,?_,?_,?_⟩
      all_goals simp only[QBE,simprocAttr,r1,r5,r6,r8,r9,r10,r11,r12,t11,t12,Bool.true_or,Bool.false_or]
     | false=>
      simp only[QBD,simprocAttr,Bool.not_true,Bool.not_false,r9]
      cases he:W.2==0 with
      | false=>
       simp only[QBD,simprocAttr,Bool.not_true,Bool.not_false,r6,r8,r9,r13,ei]
       refine⟨Q.length - (i+1),by omega,i+1,by omega,rfl,hw6,hx'.trans hx6,?_,?_,?_,?_,?_,?_,?_,?_,?_⟩
       all_goals simp only[QBE,simprocAttr,r1,r5,r6,r8,r9,r10,r11,r12,t11,t12,he,Bool.true_or,Bool.false_or,Bool.not_false]
      | true=>
       simp only[QBD,simprocAttr,Bool.not_true,Bool.not_false,r6,r8,r9,r13,ei,d1,d3,hgb6,hl1,Qw]
       refine⟨Q.length - (i+1),by omega,i+1,by omega,rfl,hw6,hx'.trans hx6,?_,?_,?_,?_,?_,?_,?_,?_,?_⟩
       all_goals simp only[QBE,simprocAttr,r1,r5,r6,r8,r9,r10,r11,r12,t11,t12,he,Bool.true_or,Bool.false_or,Bool.not_true]
  ·have h2:i=Q.length:=by have:=of_decide_eq_false h2;omega
   subst h2
   rw[List.take_length]at r11 r12
   have hxf:=hx4.trans hx'
   simp only[XV,QBD,simprocAttr,r9]
   have z0:((0:Int)==0)=true:=rfl
   have z8:((8:Int)==0)=false:=rfl
   have z88:((8:Int)==8)=true:=rfl
   cases ho:Q.foldl (ZF w (L op)) none with
   | none=>
    rw[ho]at eW
    simp only[Qnq]at eW
    have f0:=hfold0 ho []
    subst eW
    rw[f0]at r12
    have hw1:(w==0)=false:=by
     rw[ho]at hfold2
     cases hq:w==0 with
     | false=>rfl
     | true=>
      have e0:w=0:=by simpa using hq
      obtain⟨c,hc⟩:=List.exists_mem_of_ne_nil Q hnz
      have h1:=hfold2.2 c hc
      rw[← hQ]at hc
      obtain⟨m,_,k,f,hk,w0,_,rfl⟩:=Qpf hc
      unfold lfF at h1
      rw[show(GF (k:Int) w0).x.toNat=k from Int.toNat_natCast k,hk,e0]at h1
      exact absurd h1 (by simp[GT])
    simp only[XU,QBD,simprocAttr,z0,z8,z88,hw1,Bool.not_false,r1,r5,r8,r9,r12,Qw,QT]
    exact .mk hxf.next ⟨rfl,hxf⟩
   | some b=>
    rw[ho]at eW
    simp only[Qnq]at eW
    obtain⟨f1,f2⟩:=hfold1 ho
    subst eW
    rw[f1]at r11
    rw[f2]at r12
    simp only[QBD,simprocAttr,z0,Bool.not_true,Bool.not_false,r5,r11,r12,QT]
    exact .mk hxf.next ⟨rfl,hxf⟩
theorem QBC {op hint:Int} {va:Value} {l:List Ar} {H H2:Qa} {B:Nat} (hh:I64 hint) (hw:H.Wf) (hTH:T H) (ha:QS H va l) (hva:∀n,H.next≤n→Qj n 6 (.agg #[.int .i64 op,va])=true) (hl:l.length≤1000) (hI:∀a∈l,I64 a.n) (hx2:Ext H H2) (hw2:H2.Wf) (g2:H2.get B=some (.cells [.int .i64 op,va] Qb false))
  {A:Env} (r1:A 1=.int .i64 hint) (r2:A 2=.pointer (some ⟨B,0,none⟩)) (r5:A 5=.bool true):
  Qp prog WQ ⟨KE H,YH⟩ (KE H) A H2:=by
 obtain⟨a0,cap,rfl⟩:=QY ha
 simp only[WQ,QBD,simprocAttr,r1]
 refine(Qg5 hint 4 hh ⟨by decide,by decide⟩ H2).thenW ?_
 rintro _ H2 _ _ ⟨rfl,rfl⟩
 have hw0:0≤hint % 4∧hint % 4<4:=by omega
 generalize hint % 4=w at *
 have lB:=hw2.lt g2
 simp only[QBD,simprocAttr,r2,g2]
 refine(QiG hT hO H2 (hT _ _ hw hTH hx2) (ha.ext hw hx2) (fun n hn=>hva n (by have:=hx2.next;omega)) hl hI).thenW ?_
 rintro _ H3 hn3 hw3 ⟨v6,rfl,h6,hx23⟩
 have hx3:=hx2.trans hx23
 have g3:H3.get B=some (.cells [.int .i64 op,.slice a0 l.length cap] Qb false):=by rw[hx23.get _ lB];exact g2
 simp only[QBD,simprocAttr,r2,g3]
 refine(QdJ hT hO w H3 (hT _ _ hw hTH hx3) (ha.ext hw hx3) (fun n hn=>hva n (by have:=hx3.next;omega)) hl hI).thenW ?_
 rintro _ H4 hn4 hw4 ⟨v8,rfl,h8,hx34⟩
 have hx4:=hx3.trans hx34
 have g4:H4.get B=some (.cells [.int .i64 op,.slice a0 l.length cap] Qb false):=by rw[hx34.get _ (hw3.lt g3)];exact g3
 have h64:=h6.go hw3 hx34
 have z0:((0:Int)==0)=true:=rfl
 have z8:((8:Int)==0)=false:=rfl
 have z88:((8:Int)==8)=true:=rfl
 simp only[QBD,simprocAttr]
 have hwd:(decide (w<0)||decide (3<w))=false:=by simp;omega
 cases he:QX op l==0 with
 | false=>
  have eA:Qg2 (L op) op l=([],QX op l):=by unfold Qg2;rw[he,if_pos rfl]
  have eE:Qfr (L op) op l w=([],QX op l):=by unfold Qfr;rw[he,if_pos rfl]
  rw[eA]at h64 ⊢
  rw[eE]at h8 ⊢
  obtain⟨va8,c8,rfl⟩:=h8.slc
  have hee:(QX op l==QX op l)=true:=by simp
  simp only[QBD,simprocAttr,he,Bool.not_false]
  simp only[WP,QBD,simprocAttr,he,hee,Bool.not_false,r5,Qw,QT]
  exact .mk hx4.next ⟨rfl,hx4⟩
 | true=>
  have eE:Qfr (L op) op l w=Qnq ((JN (L op) op l).foldl (ZF w (L op)) none):=by
   unfold Qfr;rw[he,if_neg (by decide),hwd,if_neg (by decide)]
  rw[eE]at h8 ⊢
  cases hem:(JN (L op) op l).isEmpty with
  | true=>
   have h0:JN (L op) op l=[]:=by simpa using hem
   have eA:Qg2 (L op) op l=([],8):=by unfold Qg2;rw[he,if_neg (by decide),hem,if_pos rfl]
   rw[eA]at h64 ⊢
   rw[h0,List.foldl_nil,show Qnq none=([],8) from rfl]at h8 ⊢
   obtain⟨va8,c8,rfl⟩:=h8.slc
   simp only[QBD,simprocAttr,z8,Bool.not_false]
   simp only[WP,QBD,simprocAttr,z8,z88,Bool.not_false,r5,Qw,QT]
   exact .mk hx4.next ⟨rfl,hx4⟩
  | false=>
   have h0:JN (L op) op l≠[]:=fun h=>by rw[h]at hem;cases hem
   have eA:Qg2 (L op) op l=(JN (L op) op l,0):=by unfold Qg2;rw[he,if_neg (by decide),hem,if_neg (by decide)]
   rw[eA]at h64 ⊢
   simp only[QBD,simprocAttr,z0,Bool.not_true]
   generalize hW:Qnq ((JN (L op) op l).foldl (ZF w (L op)) none)=W at *
   refine QBB hT hO hw hTH hw0 hx4 hw4 g4 rfl h0 h64 hW.symm h8 ?_ ?_ ?_ ?_ ?_ ?_
   all_goals simp only[QBE,simprocAttr,r2,r5]
theorem Qnr {op hint:Int} {va:Value} {l:List Ar} (H:Qa) (hA:∀H,T H→Qe prog Xi [] H fun u H'=>u=.bool true∧Ext H H') (hTH:T H) (hh:I64 hint) (ha:QS H va l) (hva:∀n,H.next≤n→Qj n 6 (.agg #[.int .i64 op,va])=true) (hI:∀a∈l,I64 a.n):
  Qe prog W4 [.agg #[.int .i64 op,va],.int .i64 hint] H fun u H'=>u=.bool true∧Ext H H':=by
 refine GG fun hw=>?_
 obtain⟨a0,cap,rfl⟩:=QY ha
 simp only[Yn,QBG,simprocAttr]
 generalize hH1:Qa.push H _=H1
 have g1:H1.get H.next=some (.cells [.int .i64 op,.slice a0 l.length cap] Qb false):=by rw[← hH1,Qa.get_push,if_pos rfl];rfl
 have hx1:Ext H H1:=by rw[← hH1];exact(Ext.refl H).push _
 have hw1:H1.Wf:=by rw[← hH1];exact hw.push _
 clear hH1
 try simp only[QBD,simprocAttr]
 refine(hA H1 (hT _ _ hw hTH hx1)).thenW ?_
 rintro _ H2 hn2 hw2 ⟨rfl,hx12⟩
 have hx2:=hx1.trans hx12
 have g2:H2.get H.next=some (.cells [.int .i64 op,.slice a0 l.length cap] Qb false):=by rw[hx12.get _ (hw1.lt g1)];exact g1
 simp only[QBD,simprocAttr,g2,Qw]
 refine Qg (fun h=>?_) (fun h=>?_)
 ·simp only[QBD,simprocAttr,QT]
  exact .mk hx2.next ⟨rfl,hx2⟩
 ·have h9:l.length≤1000:=by have:=of_decide_eq_false h;omega
  simp only[QBD,simprocAttr]
  refine QBC hT hO hh hw hTH ha hva h9 hI hx2 hw2 g2 ?_ ?_ ?_
  all_goals simp only[QBE,simprocAttr]
end
theorem Qg6 (H:Qa) (b b':Blk):Ext H ((H.push b).set H.next b'):=((Ext.refl H).push b).set (Nat.le_refl _) b'
theorem Qph (H:Qa) (bs:List Int):Gx 1 5 H (H.push (.cells (bys bs) 5 false)) (.slice (some ⟨H.next,0,none⟩) bs.length bs.length) bs.length (bys bs):=.inr ⟨_,_,rfl,Nat.le_refl _,by rw[Qa.get_push,if_pos rfl],by rw[YE,Nat.mul_one],.inl rfl⟩
theorem Qyd (c k:Int) (H:Qa):Qe prog Jl [.int .i64 c,.int .i64 k] H fun u H'=>u=.agg (Ar.cells ⟨1,⟨c,k⟩,K2,0⟩).toArray∧Ext H H':=by
 refine Qg3 fun hw=>?_
 simp only[V6,QBD,simprocAttr,Qfu]
 exact .mk (Qg6 _ _ _).next ⟨rfl,Qg6 _ _ _⟩
theorem Qye (k:Int) (H:Qa):Qe prog Jm [.int .i64 k] H fun u H'=>u=.agg (Ar.cells ⟨3,⟨0,0⟩,K2,k⟩).toArray∧Ext H H':=by
 refine Qg4 fun hw=>?_
 simp only[V7,QBD,simprocAttr,Qfv]
 exact .mk (Qg6 _ _ _).next ⟨rfl,Qg6 _ _ _⟩
theorem Qmw (op:Int) (a:Option Addr) (n c:Nat) (H:Qa):Qe prog Xc [.int .i64 op,.slice a n c] H fun u H'=>u=.agg #[.int .i64 op,.slice a n c]∧Ext H H':=by
 refine Qfs fun hw=>?_
 simp only[GU,QBD,simprocAttr,QeU]
 exact .mk (Qg6 _ _ _).next ⟨rfl,Qg6 _ _ _⟩
section
variable {T:Qa→Prop} {L:Int→List Fm} (hT:∀H H',H.Wf→T H→Ext H H'→T H') (hO:∀op H,T H→Qe prog XF [.int .i64 op] H fun u H'=>Qsw H H' u (L op))
include hT hO
theorem Qmx {op w:Int} {va vb:Value} {l:List Ar} {ws:List Int} {H0 H:Qa} (hTH:T H) (ha:QS H va l) (hva:∀n,H.next≤n→Qj n 6 (.agg #[.int .i64 op,va])=true) (hl:l.length≤1000) (hI:∀a∈l,I64 a.n) (hb:Gx 1 5 H0 H vb ws.length (bys ws)) (he:Qfr (L op) op l w=(ws,0)):
  Qe prog Xd [.agg #[.int .i64 op,va],.int .i64 w,vb] H fun u H'=>u=.bool true∧Ext H H':=by
 refine Qft fun hw=>?_
 obtain⟨a0,cap,rfl⟩:=QY ha
 simp only[GV,QBG,simprocAttr]
 generalize hH1:Qa.push H _=H1
 have g1:H1.get H.next=some (.cells [.int .i64 op,.slice a0 l.length cap] Qb false):=by rw[← hH1,Qa.get_push,if_pos rfl];rfl
 have hx1:Ext H H1:=by rw[← hH1];exact(Ext.refl H).push _
 have hw1:H1.Wf:=by rw[← hH1];exact hw.push _
 clear hH1
 simp only[QBD,simprocAttr,g1]
 refine(QdJ hT hO w H1 (hT _ _ hw hTH hx1) (ha.ext hw hx1) (fun n hn=>hva n (by have:=hx1.next;omega)) hl hI).thenW ?_
 rintro _ H2 hn2 hw2 ⟨v8,rfl,h8,hx12⟩
 rw[he]at h8 ⊢
 have hx2:=hx1.trans hx12
 have z0:((0:Int)==0)=true:=rfl
 simp only[QBD,simprocAttr,z0]
 refine(QtN _ _ ws ws H2 h8 ((hb.go hw hx1).go hw1 hx12)).thenW ?_
 rintro _ H2 _ _ ⟨rfl,rfl⟩
 rw[Qmv]
 simp only[QBD,simprocAttr,QeV]
 exact .mk hx2.next ⟨rfl,hx2⟩
theorem QsG {op:Int} {va:Value} {l:List Ar} {W:List Ld} {H:Qa} (hTH:T H) (ha:QS H va l) (hva:∀n,H.next≤n→Qj n 6 (.agg #[.int .i64 op,va])=true) (hl:l.length≤1000) (hI:∀a∈l,I64 a.n) (he:Qg2 (L op) op l=(W,0)):
  Qe prog YN [.agg #[.int .i64 op,va]] H fun u H'=>u=.int .i64 W.length∧Ext H H':=by
 refine QdS fun hw=>?_
 obtain⟨a0,cap,rfl⟩:=QY ha
 simp only[JR,QBG,simprocAttr]
 generalize hH1:Qa.push H _=H1
 have g1:H1.get H.next=some (.cells [.int .i64 op,.slice a0 l.length cap] Qb false):=by rw[← hH1,Qa.get_push,if_pos rfl];rfl
 have hx1:Ext H H1:=by rw[← hH1];exact(Ext.refl H).push _
 have hw1:H1.Wf:=by rw[← hH1];exact hw.push _
 clear hH1
 simp only[QBD,simprocAttr,g1]
 refine(QiG hT hO H1 (hT _ _ hw hTH hx1) (ha.ext hw hx1) (fun n hn=>hva n (by have:=hx1.next;omega)) hl hI).thenW ?_
 rintro _ H2 hn2 hw2 ⟨v8,rfl,h8,hx12⟩
 rw[he]at h8 ⊢
 have hx2:=hx1.trans hx12
 have z0:((0:Int)==0)=true:=rfl
 obtain⟨a8,c8,rfl⟩:=h8.slc
 simp only[QBD,simprocAttr,z0,Bool.not_true,Qw,Qc8]
 exact .mk hx2.next ⟨rfl,hx2⟩
def exA:Ar:=⟨1,⟨4,0⟩,K2,0⟩
def exB:Ar:=⟨3,⟨0,0⟩,K2,5⟩
def exC:Ar:=⟨4,⟨0,0⟩,K2,5⟩
theorem Qq1 {W:List Ld} (h1:Qfr (L 1) 1 [exA,exB] 0=([131,192,5],0)) (h2:Qfr (L 54) 54 [exC] 0=([235,5],0)) (h3:Qfr (L 54) 54 [exC] 2=([233,5,0,0,0],0)) (h4:Qg2 (L 50) 50 []=(W,0)) (hW:W.length=2) (H:Qa) (hTH:T H):
  Qe prog Xi [] H fun u H'=>u=.bool true∧Ext H H':=by
 refine Qc7 fun hw=>?_
 simp only[JI,QBD,simprocAttr]
 have g0:(H.push (.cells (Qi [exC]) Qd false)).get H.next=some (.cells (Qi [exC]) Qd false):=by rw[Qa.get_push,if_pos rfl]
 have hx0:=(Ext.refl H).push (.cells (Qi [exC]) Qd false)
 have hw0:=hw.push (.cells (Qi [exC]) Qd false)
 have e0:H.push (.cells [.int .i64 4,.int .i64 0,.int .i64 0,.int .i64 0,.int .i64 0,.int .i64 0,.int .i64 0,.int .i64 0,.int .i64 0,.int .i64 0,.int .i64 5] Qd false)=H.push (.cells (Qi [exC]) Qd false):=rfl
 rw[e0]
 clear e0
 generalize H.push (.cells (Qi [exC]) Qd false)=H1 at *
 have l0:=hw0.lt g0
 refine(Qmw 54 _ _ _ H1).thenW ?_
 rintro _ H2 hn2 hw2 ⟨rfl,hx12⟩
 simp only[QBD,simprocAttr]
 generalize hH3:(H2.push _).set H2.next _=H3
 have hx23:Ext H2 H3:=by rw[← hH3];exact Qg6 _ _ _
 have hw3:H3.Wf:=by rw[← hH3];exact(hw2.push _).set (b0:=.cells [.int .i64 0,.slice none 0 0] Qb false) (by rw[Qa.get_push,if_pos rfl]) _
 have g3:H3.get H2.next=some (.cells [.int .i64 54,.slice (some ⟨H.next,0,none⟩) 1 1] Qb false):=by rw[← hH3,Qa.get_set,if_pos rfl]
 clear hH3
 refine(Qyd 4 0 H3).thenW ?_
 rintro _ H4 hn4 hw4 ⟨rfl,hx34⟩
 simp only[QBD,simprocAttr]
 refine(Qye 5 H4).thenW ?_
 rintro _ H5 hn5 hw5 ⟨rfl,hx45⟩
 simp only[QBD,simprocAttr,Ar.cells,Rg.cells,Mm.cells,K2,List.cons_append,List.nil_append]
 have hx5:=((hx12.trans hx23).trans hx34).trans hx45
 have g65:(H5.push (.cells (Qi [exA,exB]) Qd false)).get H5.next=some (.cells (Qi [exA,exB]) Qd false):=by rw[Qa.get_push,if_pos rfl]
 have hx56:=(Ext.refl H5).push (.cells (Qi [exA,exB]) Qd false)
 have hw6:=hw5.push (.cells (Qi [exA,exB]) Qd false)
 have e6:H5.push (.cells [.int .i64 1,.int .i64 4,.int .i64 0,.int .i64 0,.int .i64 0,.int .i64 0,.int .i64 0,.int .i64 0,.int .i64 0,.int .i64 0,.int .i64 0,.int .i64 3,.int .i64 0,.int .i64 0,.int .i64 0,.int .i64 0,.int .i64 0,.int .i64 0,.int .i64 0,.int .i64 0,.int .i64 0,.int .i64 5] Qd false)=H5.push (.cells (Qi [exA,exB]) Qd false):=rfl
 rw[e6]
 clear e6
 generalize H5.push (.cells (Qi [exA,exB]) Qd false)=H6 at *
 have l5:=hw6.lt g65
 refine(Qmw 1 _ _ _ H6).thenW ?_
 rintro _ H7 hn7 hw7 ⟨rfl,hx67⟩
 have e7:H7.push (.cells [.int .u8 131,.int .u8 192,.int .u8 5] 5 false)=H7.push (.cells (bys [131,192,5]) 5 false):=rfl
 simp only[QBD,simprocAttr,e7]
 clear e7
 have hg8:=Qph H7 [131,192,5]
 have hx78:=(Ext.refl H7).push (.cells (bys [131,192,5]) 5 false)
 have hw8:=hw7.push (.cells (bys [131,192,5]) 5 false)
 generalize H7.push (.cells (bys [131,192,5]) 5 false)=H8 at *
 have hx08:=((hx0.trans hx5).trans hx56).trans (hx67.trans hx78)
 have gA:H8.get H5.next=some (.cells (Qi [exA,exB]) Qd false):=by rw[hx78.get _ (by have:=hx67.next;omega),hx67.get _ l5];exact g65
 have hbel:∀ (op:Int) (H':Qa) (b n c:Nat),b<H'.next→∀m,H'.next≤m→Qj m 6 (.agg #[.int .i64 op,.slice (some ⟨b,0,none⟩) n c])=true:=fun op H' b n c hb m hm=>by
  simp[Qj,Ab.plain]
  omega
 have hi64:∀a∈[exA,exB],I64 a.n:=by intro a ha;simp only[List.mem_cons,List.not_mem_nil,or_false]at ha;rcases ha with rfl | rfl<;>(unfold I64;decide)
 have hi64c:∀a∈[exC],I64 a.n:=by intro a ha;simp only[List.mem_cons,List.not_mem_nil,or_false]at ha;subst ha;unfold I64;decide
 have lA:=hw8.lt gA
 refine(Qmx hT hO (l:=[exA,exB]) (hT _ _ hw hTH hx08) ⟨_,2,rfl,fun _=>⟨H5.next,_,_,rfl,gA⟩⟩ (hbel 1 H8 _ _ _ lA) (by decide) hi64 hg8 h1).thenW ?_
 rintro _ H9 hn9 hw9 ⟨rfl,hx89⟩
 have hx39:=(((hx34.trans hx45).trans hx56).trans (hx67.trans hx78)).trans hx89
 have hx19:=(hx12.trans hx23).trans hx39
 have hx09:=hx0.trans hx19
 have g9:H9.get H2.next=some (.cells [.int .i64 54,.slice (some ⟨H.next,0,none⟩) 1 1] Qb false):=by rw[hx39.get _ (hw3.lt g3)];exact g3
 have gC:H9.get H.next=some (.cells (Qi [exC]) Qd false):=by rw[hx19.get _ l0];exact g0
 have l9:=hw9.lt g9
 have e10:H9.push (.cells [.int .u8 235,.int .u8 5] 5 false)=H9.push (.cells (bys [235,5]) 5 false):=rfl
 simp only[QBD,simprocAttr,g9,e10]
 clear e10
 have hgx:=Qph H9 [235,5]
 have hx910:=(Ext.refl H9).push (.cells (bys [235,5]) 5 false)
 have hw10:=hw9.push (.cells (bys [235,5]) 5 false)
 generalize H9.push (.cells (bys [235,5]) 5 false)=H10 at *
 have gC10:H10.get H.next=some (.cells (Qi [exC]) Qd false):=by rw[hx910.get _ (hw9.lt gC)];exact gC
 refine(Qmx hT hO (l:=[exC]) (hT _ _ hw hTH (hx09.trans hx910)) ⟨_,1,rfl,fun _=>⟨H.next,_,_,rfl,gC10⟩⟩ (hbel 54 H10 _ _ _ (hw10.lt gC10)) (by decide) hi64c hgx h2).thenW ?_
 rintro _ H11 hn11 hw11 ⟨rfl,hx1011⟩
 have hx911:=hx910.trans hx1011
 have g11:H11.get H2.next=some (.cells [.int .i64 54,.slice (some ⟨H.next,0,none⟩) 1 1] Qb false):=by rw[hx911.get _ l9];exact g9
 have gC11:H11.get H.next=some (.cells (Qi [exC]) Qd false):=by rw[hx911.get _ (hw9.lt gC)];exact gC
 have e12:H11.push (.cells [.int .u8 233,.int .u8 5,.int .u8 0,.int .u8 0,.int .u8 0] 5 false)=H11.push (.cells (bys [233,5,0,0,0]) 5 false):=rfl
 simp only[QBD,simprocAttr,g11,e12]
 clear e12
 have hgy:=Qph H11 [233,5,0,0,0]
 have hx1112:=(Ext.refl H11).push (.cells (bys [233,5,0,0,0]) 5 false)
 have hw12:=hw11.push (.cells (bys [233,5,0,0,0]) 5 false)
 generalize H11.push (.cells (bys [233,5,0,0,0]) 5 false)=H12 at *
 have gC12:H12.get H.next=some (.cells (Qi [exC]) Qd false):=by rw[hx1112.get _ (hw11.lt gC11)];exact gC11
 have hx012:=(hx09.trans hx911).trans hx1112
 refine(Qmx hT hO (l:=[exC]) (hT _ _ hw hTH hx012) ⟨_,1,rfl,fun _=>⟨H.next,_,_,rfl,gC12⟩⟩ (hbel 54 H12 _ _ _ (hw12.lt gC12)) (by decide) hi64c hgy h3).thenW ?_
 rintro _ H13 hn13 hw13 ⟨rfl,hx1213⟩
 simp only[QBD,simprocAttr]
 refine(Qmw 50 none 0 0 H13).thenW ?_
 rintro _ H14 hn14 hw14 ⟨rfl,hx1314⟩
 have hx014:=(hx012.trans hx1213).trans hx1314
 simp only[QBD,simprocAttr]
 refine(QsG hT hO (l:=[]) (hT _ _ hw hTH hx014) ⟨none,0,rfl,fun h=>absurd h (Nat.lt_irrefl 0)⟩ (fun m hm=>by simp[Qj,Ab.plain]) (by decide) (fun a ha=>by cases ha) h4).thenW ?_
 rintro _ H15 hn15 hw15 ⟨rfl,hx1415⟩
 have hx015:=hx014.trans hx1415
 rw[hW]
 simp only[QBD,simprocAttr,Qcp]
 exact .mk hx015.next ⟨rfl,hx015⟩
end
end Go.Proofs.YtgepgbbjfhggfaaGreatDoor.code
