/- Registers. -/
import Derived.Test.YtgepgbbjfhggfaaGreatDoorC2Code
import Derived.Test.YtgepgbbjfhggfaaGreatDoorLibA
import Derived.Test.YtgepgbbjfhggfaaGreatDoorC0Code
set_option linter.unusedVariables false
set_option linter.unusedSimpArgs false
set_option maxRecDepth 100000
set_option maxHeartbeats 2000000
set_option maxHeartbeats 4000000
noncomputable section
namespace Go.Proofs.YtgepgbbjfhggfaaGreatDoor.code
open Go.Ab
structure Rg where
 c:Int
 n:Int
 deriving DecidableEq
def Rg.cells (r:Rg):List Value:=[.int .i64 r.c,.int .i64 r.n]
def Qem (c:Int):Int×Int:=if c=2 then(4,4) else if c=8 then(0,1) else if c=1∨c=3∨c=4∨c=5∨c=6∨c=7 then(0,16) else(0,0)
def Yu (r:Rg):Bool:=decide ((Qem r.c).1≤r.n∧r.n<(Qem r.c).1+(Qem r.c).2)
theorem QmX (c:Int) (H:Qa):Qe prog Qba [.int .i64 c] H fun u H'=>u=.tuple #[.int .i64 (Qem c).1,.int .i64 (Qem c).2]∧H'=H:=by
 refine QlI fun hw=>?_
 simp only[Qel,QBD,simprocAttr,Gu]
 repeat' (first | (refine Qv (fun h=>?_) (fun h=>?_)<;>simp only[QBD,simprocAttr,Gu]) | (refine Qg (fun h=>?_) (fun h=>?_)<;>simp only[QBD,simprocAttr,Gu]))
 all_goals refine .mk (Nat.le_refl _) ⟨?_,rfl⟩
 all_goals simp_all [Qem]
theorem QxR (c:Int):0≤(Qem c).1∧(Qem c).1≤4∧0≤(Qem c).2∧(Qem c).2≤16:=by
 unfold Qem
 split
 ·decide
 split
 ·decide
 split<;>decide
theorem Z5 (r:Rg) (H:Qa):Qe prog X2 [.agg r.cells.toArray] H fun u H'=>u=.bool (Yu r)∧∃m,H'=H.up m:=by
 refine QoB fun hw=>?_
 obtain⟨c,n⟩:=r
 have hb:=QxR c
 have e1:IntKind.i64.wrap ((Qem c).1+(Qem c).2)=(Qem c).1+(Qem c).2:=w64 (by unfold I64;omega)
 simp only[Rg.cells,QhC,QBD,simprocAttr]
 refine(QmX c _).thenW ?_
 rintro _ H1 hn1 hw1 ⟨rfl,rfl⟩
 simp only[QBD,simprocAttr,QfJ,e1]
 refine Qv (fun h=>?_) (fun h=>?_)
 all_goals simp only[QBD,simprocAttr,QfJ,e1,h]
 all_goals refine .ext hw ((Ext.refl H).push _) ⟨?_,_,rfl⟩
 all_goals (simp_all [Yu]<;>omega)
def QhI (r:Rg):Int:=if Yu r=false then 0 else if r.c=7 then 32 else if r.c=6 then 16 else if r.c=5∨r.c=8 then 8 else if r.c=4 then 4 else if r.c=3 then 2 else 1
theorem Qsk (r:Rg) (H:Qa):Qe prog Qgs [.agg r.cells.toArray] H fun u H'=>u=.int .i64 (QhI r)∧∃m,H'=H.up m:=by
 refine Qqm fun hw=>?_
 have q:=Z5 r
 obtain⟨v,hv⟩:∃v,Yu r=v:=⟨_,rfl⟩
 rw[hv]at q
 obtain⟨c,n⟩:=r
 simp only[Rg.cells]at q
 simp only[Rg.cells,Qj3,Zz,ZA,ZB,QBD,simprocAttr]
 refine(q _).thenW ?_
 rintro _ H1 hn1 hw1 ⟨rfl,m,rfl⟩
 simp only[Qa.next_push]at hn1
 have hx:Ext H ((H.push (.cells [.int .i64 c,.int .i64 n] QM false)).up m):=((Ext.refl H).push _).up (by simp only[Qa.next_push];exact hn1)
 simp only[QBD,simprocAttr,Va]
 cases v
 all_goals simp only[QBD,simprocAttr,Va,Zz,ZA,ZB]
 ·exact .ext hw hx ⟨by simp[QhI,hv],_,rfl⟩
 repeat' (first | (refine Qv (fun h=>?_) (fun h=>?_)<;>simp only[QBD,simprocAttr,Va,Zz,ZA,ZB,h]) | (refine Qg (fun h=>?_) (fun h=>?_)<;>simp only[QBD,simprocAttr,Va,Zz,ZA,ZB,h]))
 all_goals refine .ext hw hx ⟨?_,_,rfl⟩
 all_goals (simp_all [QhI]<;>decide)
theorem Qu (ne:Bool) (a b c d:Int) (H:Qa) (k:Value→Qa→Prop):Qxz ne [.i,.i] (.agg #[.int .i64 a,.int .i64 b]) (.agg #[.int .i64 c,.int .i64 d]) H k=k (.bool (bif ne then !((a==c)&&(b==d)) else((a==c)&&(b==d)))) H:=by
 refine Qus ?_
 by_cases h:a=c<;>by_cases g:b=d<;>simp[G0,Qw2,h,g]
/-! ### Places -/
structure Mm where
 b:Rg
 i:Rg
 sc:Int
 d:Int
 sz:Int
 deriving DecidableEq
def Mm.cells (m:Mm):List Value:=[.int .i64 m.b.c,.int .i64 m.b.n,.int .i64 m.i.c,.int .i64 m.i.n,.int .i64 m.sc,.int .i64 m.d,.int .i64 m.sz]
def GJ (r:Rg):Bool:=(r.c==5)&&Yu r
theorem Qsl (r:Rg) (H:Qa):Qe prog QcJ [.agg r.cells.toArray] H fun u H'=>u=.bool (GJ r)∧∃m,H'=H.up m:=by
 refine Qql fun hw=>?_
 have q:=Z5 r
 obtain⟨v,hv⟩:∃v,Yu r=v:=⟨_,rfl⟩
 rw[hv]at q
 obtain⟨c,n⟩:=r
 simp only[Rg.cells]at q
 simp only[Rg.cells,Qj2,QBD,simprocAttr,QcV]
 refine Qv (fun h=>?_) (fun h=>?_)
 all_goals simp only[QBD,simprocAttr,QcV,h]
 ·refine(q _).thenW ?_
  rintro _ H1 hn1 hw1 ⟨rfl,m,rfl⟩
  simp only[Qa.next_push]at hn1
  have hx:Ext H ((H.push (.cells [.int .i64 c,.int .i64 n] QM false)).up m):=((Ext.refl H).push _).up (by simp only[Qa.next_push];exact hn1)
  simp only[QBD,simprocAttr,QcV,h]
  exact .ext hw hx ⟨by simp[GJ,hv,h],_,rfl⟩
 ·exact .ext hw ((Ext.refl H).push _) ⟨by simp[GJ,h],_,rfl⟩
def Jt (n:Int):Bool:=n==0||n==1||n==2||n==4||n==8||n==16||n==32
theorem Qqo (n:Int) (H:Qa):Qe prog Qec [.int .i64 n] H fun u H'=>u=.bool (Jt n)∧H'=H:=by
 refine QoD fun hw=>?_
 simp only[QhE,QBD,simprocAttr,Qbj]
 repeat' (first | (refine Qv (fun h=>?_) (fun h=>?_)<;>simp only[QBD,simprocAttr,Qbj,h]) | (refine Qg (fun h=>?_) (fun h=>?_)<;>simp only[QBD,simprocAttr,Qbj,h]))
 all_goals refine .mk (Nat.le_refl _) ⟨?_,rfl⟩
 all_goals simp_all [Jt]
def WZ (n:Int):Bool:=n==1||n==2||n==4||n==8
theorem QoH (n:Int) (H:Qa):Qe prog QcK [.int .i64 n] H fun u H'=>u=.bool (WZ n)∧∃m,H'=H.up m:=by
 refine QmU fun hw=>?_
 have t1:prog.underlying Qqi=some (.map QkU QkU):=by kernel_rfl
 have t2:prog.underlying QkU=some (.int .i64):=by kernel_rfl
 have t3:(prog.info? QkU).map (·.zero)=some (some (.int .i64 0)):=by kernel_rfl
 obtain⟨inf,t4,t5⟩:=Option.map_eq_some_iff.1 t3
 simp only[QfK,QBD,simprocAttr,Xe]
 rw[Qhx (m:=H.next) (n:=1) (es:=[]) t1 t2 (by simp only[QBE,simprocAttr]) (by simp only[QBE,simprocAttr]) (by rw[Qa.get_push,if_pos rfl]) rfl]
 simp only[QBD,simprocAttr,Xe]
 rw[Qhx (m:=H.next) (n:=2) (es:=_) t1 t2 (by simp only[QBE,simprocAttr]) (by simp only[QBE,simprocAttr]) (by rw[Qa.get_set,if_pos rfl]) rfl]
 simp only[QBD,simprocAttr,Xe]
 rw[Qhx (m:=H.next) (n:=4) (es:=_) t1 t2 (by simp only[QBE,simprocAttr]) (by simp only[QBE,simprocAttr]) (by rw[Qa.get_set,if_pos rfl]) rfl]
 simp only[QBD,simprocAttr,Xe]
 rw[Qhx (m:=H.next) (n:=8) (es:=_) t1 t2 (by simp only[QBE,simprocAttr]) (by simp only[QBE,simprocAttr]) (by rw[Qa.get_set,if_pos rfl]) rfl]
 simp only[QBD,simprocAttr,Xe]
 have hr:∃r,Qox n [(Value.int IntKind.i64 1,Value.int IntKind.i64 0),(Value.int IntKind.i64 2,Value.int IntKind.i64 1),(Value.int IntKind.i64 4,Value.int IntKind.i64 2),(Value.int IntKind.i64 8,Value.int IntKind.i64 3)] 0=some r∧r.isSome=WZ n:=by
  simp only[Qox]
  split
  ·exact⟨_,rfl,by simp_all [WZ]⟩
  split
  ·exact⟨_,rfl,by simp_all [WZ]⟩
  split
  ·exact⟨_,rfl,by simp_all [WZ]⟩
  split
  ·exact⟨_,rfl,by simp_all [WZ]⟩
  ·exact⟨_,rfl,by simp_all [WZ]⟩
 obtain⟨r,h1,h2⟩:=hr
 rw[QuC (m:=H.next) (n:=n) (es:=_) t1 t2 t4 t5 rfl (by simp only[QBE,simprocAttr]) (by simp only[QBE,simprocAttr]) (by rw[Qa.get_set,if_pos rfl]) h1]
 have hx:∀a b c d e,Ext H (((((H.push a).set H.next b).set H.next c).set H.next d).set H.next e):=fun a b c d e=>(((((Ext.refl H).push a).set (Nat.le_refl _) b).set (Nat.le_refl _) c).set (Nat.le_refl _) d).set (Nat.le_refl _) e
 cases r with
 | none=>
  simp only[Qqc,QBD,simprocAttr,Xe]
  exact .ext hw (hx _ _ _ _ _) ⟨by rw[← h2];rfl,_,rfl⟩
 | some q=>
  obtain⟨q1,q2⟩:=q
  simp only[Qqc,QBD,simprocAttr,Xe]
  exact .ext hw (hx _ _ _ _ _) ⟨by rw[← h2];rfl,_,rfl⟩
def isR (r:Rg) (c n:Int):Bool:=(r.c==c)&&(r.n==n)
def QC (m:Mm):Int:=
 if(decide (m.d < -2147483648)||decide (m.d>2147483647))=true then 5
 else if Jt m.sz=false then 2
 else if(!isR m.b 0 0&&!isR m.b 8 0&&!GJ m.b)=true then 2
 else if(isR m.i 0 0&&!(m.sc==0))=true then 2
 else if isR m.i 0 0=true then 0
 else if(!GJ m.i||!WZ m.sc||isR m.b 8 0)=true then 2
 else if(isR m.i 5 4&&(!(m.sc==1)||isR m.b 5 4))=true then 2
 else 0
def mcF (H:Qa) (c:List Value) (A:Env) (H':Qa):Prop:=Ext H H'∧A 1=.pointer (some ⟨H.next,0,none⟩)∧A 3=.pointer (some ⟨H.next+1,0,none⟩)∧A 4=.pointer (some ⟨H.next+2,0,none⟩)∧A 5=.pointer (some ⟨H.next+3,0,none⟩)∧
 H'.get H.next=some (.cells c QJ false)∧H'.get (H.next+1)=some (.cells [.int .i64 0,.int .i64 0] QM false)∧H'.get (H.next+2)=some (.cells [.int .i64 8,.int .i64 0] QM false)∧H'.get (H.next+3)=some (.cells [.int .i64 5,.int .i64 4] QM false)
theorem mcF.up {H H':Qa} {c:List Value} {A:Env} (h:mcF H c A H') {k:Nat} (hk:H'.next≤k):mcF H c A (H'.up k):=by
 obtain⟨hx,r1,r3,r4,r5,g0,g1,g2,g3⟩:=h
 exact⟨hx.up hk,r1,r3,r4,r5,g0,g1,g2,g3⟩
theorem mcF.env {H H':Qa} {c:List Value} {A B:Env} (h:mcF H c A H') (h1:B 1=A 1) (h3:B 3=A 3) (h4:B 4=A 4) (h5:B 5=A 5):mcF H c B H':=by
 obtain⟨hx,r1,r3,r4,r5,g0,g1,g2,g3⟩:=h
 exact⟨hx,h1.trans r1,h3.trans r3,h4.trans r4,h5.trans r5,g0,g1,g2,g3⟩
theorem Qj5 (m:Mm) (H:Qa):Qe prog Qan [.agg m.cells.toArray] H fun u H'=>u=.int .i64 (QC m)∧∃k,H'=H.up k:=by
 refine QoC fun hw=>?_
 have qs:=Qqo m.sz
 have qw:=fun r=>Qsl r
 have qc:=QoH m.sc
 obtain⟨⟨bc,bn⟩,⟨ic,nn⟩,sc,d,sz⟩:=m
 simp only at qs qc
 simp only[Mm.cells,QhD,QBD,simprocAttr,Qf,Nat.add_assoc,Nat.add_eq_left,Nat.left_eq_add]
 obtain⟨cs,hcs⟩:∃cs,cs=[Value.int .i64 bc,.int .i64 bn,.int .i64 ic,.int .i64 nn,.int .i64 sc,.int .i64 d,.int .i64 sz]:=⟨_,rfl⟩
 generalize hE:exK 0 _ YH=E0
 generalize hK:Qp prog _ _ (Rt prog _ H _)=K0
 have hret:∀A H',Ext H H'→QC ⟨⟨bc,bn⟩,⟨ic,nn⟩,sc,d,sz⟩=0→K0 A H':=by
  intro A H' hx h0
  rw[← hK]
  simp only[QBD,simprocAttr,Qf]
  exact .ext hw hx ⟨by rw[h0],_,rfl⟩
 have P1:∀A H',mcF H cs A H'→(decide (d < -2147483648)||decide (2147483647<d))=false→Jt sz=true→(!isR ⟨bc,bn⟩ 0 0&&!isR ⟨bc,bn⟩ 8 0&&!GJ ⟨bc,bn⟩)=false→(isR ⟨ic,nn⟩ 0 0&&!(sc==0))=false→isR ⟨ic,nn⟩ 0 0=false→(!GJ ⟨ic,nn⟩||!WZ sc||isR ⟨bc,bn⟩ 8 0)=false→Qp prog Vp ⟨Rt prog Z4 H fun u H'=>u=.int .i64 (QC ⟨⟨bc,bn⟩,⟨ic,nn⟩,sc,d,sz⟩)∧∃k,H'=H.up k,E0⟩ K0 A H':=by
  rintro A H' ⟨hx,r1,r3,r4,r5,g0,g1,g2,g3⟩ c0 c1 c2 c3 c4 c5
  rw[hcs]at g0
  simp only[Vp]
  simp only[QBD,simprocAttr,Qf,Qu,r1,r3,r4,r5,g0,g1,g2,g3]
  repeat' (first
   | (refine Qv (fun h=>?_) (fun h=>?_)<;>(try simp only[Bool.not_eq_true',Bool.not_eq_false']at h)<;>simp only[QBD,simprocAttr,Qf,Qu,r1,r3,r4,r5,g0,g1,g2,g3,h])
   | (refine Qg (fun h=>?_) (fun h=>?_)<;>(try simp only[Bool.not_eq_true',Bool.not_eq_false']at h)<;>simp only[QBD,simprocAttr,Qf,Qu,r1,r3,r4,r5,g0,g1,g2,g3,h])
   | (refine(qs _).thenW ?_;rintro _ _ hn hw2 ⟨rfl,rfl⟩;simp only[QBD,simprocAttr,Qf,Qu,r1,r3,r4,r5,g0,g1,g2,g3])
   | (refine(qw ⟨bc,bn⟩ _).thenW ?_;rintro _ _ hn hw2 ⟨rfl,k,rfl⟩;have hx:=hx.up (show _≤k from hn);simp only[QBD,simprocAttr,Qf,Qu,r1,r3,r4,r5,g0,g1,g2,g3])
   | (refine(qw ⟨ic,nn⟩ _).thenW ?_;rintro _ _ hn hw2 ⟨rfl,k,rfl⟩;have hx:=hx.up (show _≤k from hn);simp only[QBD,simprocAttr,Qf,Qu,r1,r3,r4,r5,g0,g1,g2,g3])
   | (refine(qc _).thenW ?_;rintro _ _ hn hw2 ⟨rfl,k,rfl⟩;have hx:=hx.up (show _≤k from hn);simp only[QBD,simprocAttr,Qf,Qu,r1,r3,r4,r5,g0,g1,g2,g3]))
  all_goals first
   | (have hb:(isR ⟨ic,nn⟩ 5 4&&(!(sc==1)||isR ⟨bc,bn⟩ 5 4))=true:=(by(try simp only[isR]);simp[*]);exact .ext hw hx ⟨by first | (simp only[QC,c0,c1,c2,c3,c4,c5,hb,Bool.false_eq_true,if_false,if_true,Bool.false_and,Bool.true_and,Bool.and_false,Bool.and_true,Bool.false_or,Bool.true_or,Bool.or_false,Bool.or_true,Bool.not_true,Bool.not_false,reduceCtorEq,gt_iff_lt,eq_self];done) | (have c9:=c3;simp only[hb,Bool.true_and]at c9;simp only[QC,c0,c1,c2,hb,c9,Bool.false_eq_true,if_false,if_true,Bool.true_and,reduceCtorEq,gt_iff_lt,eq_self]),_,rfl⟩)
   | (have hb:(isR ⟨ic,nn⟩ 5 4&&(!(sc==1)||isR ⟨bc,bn⟩ 5 4))=false:=(by(try simp only[isR]);simp[*]);exact .ext hw hx ⟨by first | (simp only[QC,c0,c1,c2,c3,c4,c5,hb,Bool.false_eq_true,if_false,if_true,Bool.false_and,Bool.true_and,Bool.and_false,Bool.and_true,Bool.false_or,Bool.true_or,Bool.or_false,Bool.or_true,Bool.not_true,Bool.not_false,reduceCtorEq,gt_iff_lt,eq_self];done) | (have c9:=c3;simp only[hb,Bool.true_and]at c9;simp only[QC,c0,c1,c2,hb,c9,Bool.false_eq_true,if_false,if_true,Bool.true_and,reduceCtorEq,gt_iff_lt,eq_self]),_,rfl⟩)
   | (have hb:(isR ⟨ic,nn⟩ 5 4&&(!(sc==1)||isR ⟨bc,bn⟩ 5 4))=false:=(by(try simp only[isR]);simp[*]);exact hret _ _ hx (by simp only[QC,c0,c1,c2,c3,c4,c5,hb,Bool.false_eq_true,if_false,if_true,Bool.false_and,Bool.true_and,Bool.and_false,Bool.and_true,Bool.false_or,Bool.true_or,Bool.or_false,Bool.or_true,Bool.not_true,Bool.not_false,reduceCtorEq,gt_iff_lt,eq_self]))
 have P2:∀A H',mcF H cs A H'→(decide (d < -2147483648)||decide (2147483647<d))=false→Jt sz=true→(!isR ⟨bc,bn⟩ 0 0&&!isR ⟨bc,bn⟩ 8 0&&!GJ ⟨bc,bn⟩)=false→(isR ⟨ic,nn⟩ 0 0&&!(sc==0))=false→isR ⟨ic,nn⟩ 0 0=false→Qp prog Vq ⟨Rt prog Z4 H fun u H'=>u=.int .i64 (QC ⟨⟨bc,bn⟩,⟨ic,nn⟩,sc,d,sz⟩)∧∃k,H'=H.up k,E0⟩ K0 A H':=by
  rintro A H' ⟨hx,r1,r3,r4,r5,g0,g1,g2,g3⟩ c0 c1 c2 c3 c4
  rw[hcs]at g0
  simp only[Vq]
  simp only[QBD,simprocAttr,Qf,Qu,r1,r3,r4,r5,g0,g1,g2,g3]
  repeat' (first
   | (refine Qv (fun h=>?_) (fun h=>?_)<;>(try simp only[Bool.not_eq_true',Bool.not_eq_false']at h)<;>simp only[QBD,simprocAttr,Qf,Qu,r1,r3,r4,r5,g0,g1,g2,g3,h])
   | (refine Qg (fun h=>?_) (fun h=>?_)<;>(try simp only[Bool.not_eq_true',Bool.not_eq_false']at h)<;>simp only[QBD,simprocAttr,Qf,Qu,r1,r3,r4,r5,g0,g1,g2,g3,h])
   | (refine(qs _).thenW ?_;rintro _ _ hn hw2 ⟨rfl,rfl⟩;simp only[QBD,simprocAttr,Qf,Qu,r1,r3,r4,r5,g0,g1,g2,g3])
   | (refine(qw ⟨bc,bn⟩ _).thenW ?_;rintro _ _ hn hw2 ⟨rfl,k,rfl⟩;have hx:=hx.up (show _≤k from hn);simp only[QBD,simprocAttr,Qf,Qu,r1,r3,r4,r5,g0,g1,g2,g3])
   | (refine(qw ⟨ic,nn⟩ _).thenW ?_;rintro _ _ hn hw2 ⟨rfl,k,rfl⟩;have hx:=hx.up (show _≤k from hn);simp only[QBD,simprocAttr,Qf,Qu,r1,r3,r4,r5,g0,g1,g2,g3])
   | (refine(qc _).thenW ?_;rintro _ _ hn hw2 ⟨rfl,k,rfl⟩;have hx:=hx.up (show _≤k from hn);simp only[QBD,simprocAttr,Qf,Qu,r1,r3,r4,r5,g0,g1,g2,g3]))
  all_goals first
   | (have hb:(!GJ ⟨ic,nn⟩||!WZ sc||isR ⟨bc,bn⟩ 8 0)=true:=(by(try simp only[isR]);simp[*]);exact .ext hw hx ⟨by first | (simp only[QC,c0,c1,c2,c3,c4,hb,Bool.false_eq_true,if_false,if_true,Bool.false_and,Bool.true_and,Bool.and_false,Bool.and_true,Bool.false_or,Bool.true_or,Bool.or_false,Bool.or_true,Bool.not_true,Bool.not_false,reduceCtorEq,gt_iff_lt,eq_self];done) | (have c9:=c3;simp only[hb,Bool.true_and]at c9;simp only[QC,c0,c1,c2,hb,c9,Bool.false_eq_true,if_false,if_true,Bool.true_and,reduceCtorEq,gt_iff_lt,eq_self]),_,rfl⟩)
   | (have hb:(!GJ ⟨ic,nn⟩||!WZ sc||isR ⟨bc,bn⟩ 8 0)=false:=(by(try simp only[isR]);simp[*]);exact .ext hw hx ⟨by first | (simp only[QC,c0,c1,c2,c3,c4,hb,Bool.false_eq_true,if_false,if_true,Bool.false_and,Bool.true_and,Bool.and_false,Bool.and_true,Bool.false_or,Bool.true_or,Bool.or_false,Bool.or_true,Bool.not_true,Bool.not_false,reduceCtorEq,gt_iff_lt,eq_self];done) | (have c9:=c3;simp only[hb,Bool.true_and]at c9;simp only[QC,c0,c1,c2,hb,c9,Bool.false_eq_true,if_false,if_true,Bool.true_and,reduceCtorEq,gt_iff_lt,eq_self]),_,rfl⟩)
   | (have hb:(!GJ ⟨ic,nn⟩||!WZ sc||isR ⟨bc,bn⟩ 8 0)=false:=(by(try simp only[isR]);simp[*]);exact P1 _ _ (mcF.env ⟨hx,r1,r3,r4,r5,by rw[hcs];exact g0,g1,g2,g3⟩ (by simp only[QBE,simprocAttr]) (by simp only[QBE,simprocAttr]) (by simp only[QBE,simprocAttr]) (by simp only[QBE,simprocAttr])) c0 c1 c2 c3 c4 hb)
 have P3:∀A H',mcF H cs A H'→(decide (d < -2147483648)||decide (2147483647<d))=false→Jt sz=true→(!isR ⟨bc,bn⟩ 0 0&&!isR ⟨bc,bn⟩ 8 0&&!GJ ⟨bc,bn⟩)=false→(isR ⟨ic,nn⟩ 0 0&&!(sc==0))=false→Qp prog Vr ⟨Rt prog Z4 H fun u H'=>u=.int .i64 (QC ⟨⟨bc,bn⟩,⟨ic,nn⟩,sc,d,sz⟩)∧∃k,H'=H.up k,E0⟩ K0 A H':=by
  rintro A H' ⟨hx,r1,r3,r4,r5,g0,g1,g2,g3⟩ c0 c1 c2 c3
  rw[hcs]at g0
  simp only[Vr]
  simp only[QBD,simprocAttr,Qf,Qu,r1,r3,r4,r5,g0,g1,g2,g3]
  repeat' (first
   | (refine Qv (fun h=>?_) (fun h=>?_)<;>(try simp only[Bool.not_eq_true',Bool.not_eq_false']at h)<;>simp only[QBD,simprocAttr,Qf,Qu,r1,r3,r4,r5,g0,g1,g2,g3,h])
   | (refine Qg (fun h=>?_) (fun h=>?_)<;>(try simp only[Bool.not_eq_true',Bool.not_eq_false']at h)<;>simp only[QBD,simprocAttr,Qf,Qu,r1,r3,r4,r5,g0,g1,g2,g3,h])
   | (refine(qs _).thenW ?_;rintro _ _ hn hw2 ⟨rfl,rfl⟩;simp only[QBD,simprocAttr,Qf,Qu,r1,r3,r4,r5,g0,g1,g2,g3])
   | (refine(qw ⟨bc,bn⟩ _).thenW ?_;rintro _ _ hn hw2 ⟨rfl,k,rfl⟩;have hx:=hx.up (show _≤k from hn);simp only[QBD,simprocAttr,Qf,Qu,r1,r3,r4,r5,g0,g1,g2,g3])
   | (refine(qw ⟨ic,nn⟩ _).thenW ?_;rintro _ _ hn hw2 ⟨rfl,k,rfl⟩;have hx:=hx.up (show _≤k from hn);simp only[QBD,simprocAttr,Qf,Qu,r1,r3,r4,r5,g0,g1,g2,g3])
   | (refine(qc _).thenW ?_;rintro _ _ hn hw2 ⟨rfl,k,rfl⟩;have hx:=hx.up (show _≤k from hn);simp only[QBD,simprocAttr,Qf,Qu,r1,r3,r4,r5,g0,g1,g2,g3]))
  all_goals first
   | (have hb:isR ⟨ic,nn⟩ 0 0=true:=(by(try simp only[isR]);simp[*]);exact .ext hw hx ⟨by first | (simp only[QC,c0,c1,c2,c3,hb,Bool.false_eq_true,if_false,if_true,Bool.false_and,Bool.true_and,Bool.and_false,Bool.and_true,Bool.false_or,Bool.true_or,Bool.or_false,Bool.or_true,Bool.not_true,Bool.not_false,reduceCtorEq,gt_iff_lt,eq_self];done) | (have c9:=c3;simp only[hb,Bool.true_and]at c9;simp only[QC,c0,c1,c2,hb,c9,Bool.false_eq_true,if_false,if_true,Bool.true_and,reduceCtorEq,gt_iff_lt,eq_self]),_,rfl⟩)
   | (have hb:isR ⟨ic,nn⟩ 0 0=false:=(by(try simp only[isR]);simp[*]);exact .ext hw hx ⟨by first | (simp only[QC,c0,c1,c2,c3,hb,Bool.false_eq_true,if_false,if_true,Bool.false_and,Bool.true_and,Bool.and_false,Bool.and_true,Bool.false_or,Bool.true_or,Bool.or_false,Bool.or_true,Bool.not_true,Bool.not_false,reduceCtorEq,gt_iff_lt,eq_self];done) | (have c9:=c3;simp only[hb,Bool.true_and]at c9;simp only[QC,c0,c1,c2,hb,c9,Bool.false_eq_true,if_false,if_true,Bool.true_and,reduceCtorEq,gt_iff_lt,eq_self]),_,rfl⟩)
   | (have hb:isR ⟨ic,nn⟩ 0 0=false:=(by(try simp only[isR]);simp[*]);exact P2 _ _ (mcF.env ⟨hx,r1,r3,r4,r5,by rw[hcs];exact g0,g1,g2,g3⟩ (by simp only[QBE,simprocAttr]) (by simp only[QBE,simprocAttr]) (by simp only[QBE,simprocAttr]) (by simp only[QBE,simprocAttr])) c0 c1 c2 c3 hb)
 have P4:∀A H',mcF H cs A H'→(decide (d < -2147483648)||decide (2147483647<d))=false→Jt sz=true→(!isR ⟨bc,bn⟩ 0 0&&!isR ⟨bc,bn⟩ 8 0&&!GJ ⟨bc,bn⟩)=false→Qp prog Vs ⟨Rt prog Z4 H fun u H'=>u=.int .i64 (QC ⟨⟨bc,bn⟩,⟨ic,nn⟩,sc,d,sz⟩)∧∃k,H'=H.up k,E0⟩ K0 A H':=by
  rintro A H' ⟨hx,r1,r3,r4,r5,g0,g1,g2,g3⟩ c0 c1 c2
  rw[hcs]at g0
  simp only[Vs]
  simp only[QBD,simprocAttr,Qf,Qu,r1,r3,r4,r5,g0,g1,g2,g3]
  repeat' (first
   | (refine Qv (fun h=>?_) (fun h=>?_)<;>(try simp only[Bool.not_eq_true',Bool.not_eq_false']at h)<;>simp only[QBD,simprocAttr,Qf,Qu,r1,r3,r4,r5,g0,g1,g2,g3,h])
   | (refine Qg (fun h=>?_) (fun h=>?_)<;>(try simp only[Bool.not_eq_true',Bool.not_eq_false']at h)<;>simp only[QBD,simprocAttr,Qf,Qu,r1,r3,r4,r5,g0,g1,g2,g3,h])
   | (refine(qs _).thenW ?_;rintro _ _ hn hw2 ⟨rfl,rfl⟩;simp only[QBD,simprocAttr,Qf,Qu,r1,r3,r4,r5,g0,g1,g2,g3])
   | (refine(qw ⟨bc,bn⟩ _).thenW ?_;rintro _ _ hn hw2 ⟨rfl,k,rfl⟩;have hx:=hx.up (show _≤k from hn);simp only[QBD,simprocAttr,Qf,Qu,r1,r3,r4,r5,g0,g1,g2,g3])
   | (refine(qw ⟨ic,nn⟩ _).thenW ?_;rintro _ _ hn hw2 ⟨rfl,k,rfl⟩;have hx:=hx.up (show _≤k from hn);simp only[QBD,simprocAttr,Qf,Qu,r1,r3,r4,r5,g0,g1,g2,g3])
   | (refine(qc _).thenW ?_;rintro _ _ hn hw2 ⟨rfl,k,rfl⟩;have hx:=hx.up (show _≤k from hn);simp only[QBD,simprocAttr,Qf,Qu,r1,r3,r4,r5,g0,g1,g2,g3]))
  all_goals first
   | (have hb:(isR ⟨ic,nn⟩ 0 0&&!(sc==0))=true:=(by(try simp only[isR]);simp[*]);exact .ext hw hx ⟨by first | (simp only[QC,c0,c1,c2,hb,Bool.false_eq_true,if_false,if_true,Bool.false_and,Bool.true_and,Bool.and_false,Bool.and_true,Bool.false_or,Bool.true_or,Bool.or_false,Bool.or_true,Bool.not_true,Bool.not_false,reduceCtorEq,gt_iff_lt,eq_self];done) | (have c9:=c3;simp only[hb,Bool.true_and]at c9;simp only[QC,c0,c1,c2,hb,c9,Bool.false_eq_true,if_false,if_true,Bool.true_and,reduceCtorEq,gt_iff_lt,eq_self]),_,rfl⟩)
   | (have hb:(isR ⟨ic,nn⟩ 0 0&&!(sc==0))=false:=(by(try simp only[isR]);simp[*]);exact .ext hw hx ⟨by first | (simp only[QC,c0,c1,c2,hb,Bool.false_eq_true,if_false,if_true,Bool.false_and,Bool.true_and,Bool.and_false,Bool.and_true,Bool.false_or,Bool.true_or,Bool.or_false,Bool.or_true,Bool.not_true,Bool.not_false,reduceCtorEq,gt_iff_lt,eq_self];done) | (have c9:=c3;simp only[hb,Bool.true_and]at c9;simp only[QC,c0,c1,c2,hb,c9,Bool.false_eq_true,if_false,if_true,Bool.true_and,reduceCtorEq,gt_iff_lt,eq_self]),_,rfl⟩)
   | (have hb:(isR ⟨ic,nn⟩ 0 0&&!(sc==0))=false:=(by(try simp only[isR]);simp[*]);exact P3 _ _ (mcF.env ⟨hx,r1,r3,r4,r5,by rw[hcs];exact g0,g1,g2,g3⟩ (by simp only[QBE,simprocAttr]) (by simp only[QBE,simprocAttr]) (by simp only[QBE,simprocAttr]) (by simp only[QBE,simprocAttr])) c0 c1 c2 hb)
 have P5:∀A H',mcF H cs A H'→(decide (d < -2147483648)||decide (2147483647<d))=false→Jt sz=true→Qp prog Vt ⟨Rt prog Z4 H fun u H'=>u=.int .i64 (QC ⟨⟨bc,bn⟩,⟨ic,nn⟩,sc,d,sz⟩)∧∃k,H'=H.up k,E0⟩ K0 A H':=by
  rintro A H' ⟨hx,r1,r3,r4,r5,g0,g1,g2,g3⟩ c0 c1
  rw[hcs]at g0
  simp only[Vt]
  simp only[QBD,simprocAttr,Qf,Qu,r1,r3,r4,r5,g0,g1,g2,g3]
  repeat' (first
   | (refine Qv (fun h=>?_) (fun h=>?_)<;>(try simp only[Bool.not_eq_true',Bool.not_eq_false']at h)<;>simp only[QBD,simprocAttr,Qf,Qu,r1,r3,r4,r5,g0,g1,g2,g3,h])
   | (refine Qg (fun h=>?_) (fun h=>?_)<;>(try simp only[Bool.not_eq_true',Bool.not_eq_false']at h)<;>simp only[QBD,simprocAttr,Qf,Qu,r1,r3,r4,r5,g0,g1,g2,g3,h])
   | (refine(qs _).thenW ?_;rintro _ _ hn hw2 ⟨rfl,rfl⟩;simp only[QBD,simprocAttr,Qf,Qu,r1,r3,r4,r5,g0,g1,g2,g3])
   | (refine(qw ⟨bc,bn⟩ _).thenW ?_;rintro _ _ hn hw2 ⟨rfl,k,rfl⟩;have hx:=hx.up (show _≤k from hn);simp only[QBD,simprocAttr,Qf,Qu,r1,r3,r4,r5,g0,g1,g2,g3])
   | (refine(qw ⟨ic,nn⟩ _).thenW ?_;rintro _ _ hn hw2 ⟨rfl,k,rfl⟩;have hx:=hx.up (show _≤k from hn);simp only[QBD,simprocAttr,Qf,Qu,r1,r3,r4,r5,g0,g1,g2,g3])
   | (refine(qc _).thenW ?_;rintro _ _ hn hw2 ⟨rfl,k,rfl⟩;have hx:=hx.up (show _≤k from hn);simp only[QBD,simprocAttr,Qf,Qu,r1,r3,r4,r5,g0,g1,g2,g3]))
  all_goals first
   | (have hb:(!isR ⟨bc,bn⟩ 0 0&&!isR ⟨bc,bn⟩ 8 0&&!GJ ⟨bc,bn⟩)=true:=(by(try simp only[isR]);simp[*]);exact .ext hw hx ⟨by first | (simp only[QC,c0,c1,hb,Bool.false_eq_true,if_false,if_true,Bool.false_and,Bool.true_and,Bool.and_false,Bool.and_true,Bool.false_or,Bool.true_or,Bool.or_false,Bool.or_true,Bool.not_true,Bool.not_false,reduceCtorEq,gt_iff_lt,eq_self];done) | (have c9:=c3;simp only[hb,Bool.true_and]at c9;simp only[QC,c0,c1,c2,hb,c9,Bool.false_eq_true,if_false,if_true,Bool.true_and,reduceCtorEq,gt_iff_lt,eq_self]),_,rfl⟩)
   | (have hb:(!isR ⟨bc,bn⟩ 0 0&&!isR ⟨bc,bn⟩ 8 0&&!GJ ⟨bc,bn⟩)=false:=(by(try simp only[isR]);simp[*]);exact .ext hw hx ⟨by first | (simp only[QC,c0,c1,hb,Bool.false_eq_true,if_false,if_true,Bool.false_and,Bool.true_and,Bool.and_false,Bool.and_true,Bool.false_or,Bool.true_or,Bool.or_false,Bool.or_true,Bool.not_true,Bool.not_false,reduceCtorEq,gt_iff_lt,eq_self];done) | (have c9:=c3;simp only[hb,Bool.true_and]at c9;simp only[QC,c0,c1,c2,hb,c9,Bool.false_eq_true,if_false,if_true,Bool.true_and,reduceCtorEq,gt_iff_lt,eq_self]),_,rfl⟩)
   | (have hb:(!isR ⟨bc,bn⟩ 0 0&&!isR ⟨bc,bn⟩ 8 0&&!GJ ⟨bc,bn⟩)=false:=(by(try simp only[isR]);simp[*]);exact P4 _ _ (mcF.env ⟨hx,r1,r3,r4,r5,by rw[hcs];exact g0,g1,g2,g3⟩ (by simp only[QBE,simprocAttr]) (by simp only[QBE,simprocAttr]) (by simp only[QBE,simprocAttr]) (by simp only[QBE,simprocAttr])) c0 c1 hb)
 have P6:∀A H',mcF H cs A H'→(decide (d < -2147483648)||decide (2147483647<d))=false→Qp prog Vu ⟨Rt prog Z4 H fun u H'=>u=.int .i64 (QC ⟨⟨bc,bn⟩,⟨ic,nn⟩,sc,d,sz⟩)∧∃k,H'=H.up k,E0⟩ K0 A H':=by
  rintro A H' ⟨hx,r1,r3,r4,r5,g0,g1,g2,g3⟩ c0
  rw[hcs]at g0
  simp only[Vu]
  simp only[QBD,simprocAttr,Qf,Qu,r1,r3,r4,r5,g0,g1,g2,g3]
  repeat' (first
   | (refine Qv (fun h=>?_) (fun h=>?_)<;>(try simp only[Bool.not_eq_true',Bool.not_eq_false']at h)<;>simp only[QBD,simprocAttr,Qf,Qu,r1,r3,r4,r5,g0,g1,g2,g3,h])
   | (refine Qg (fun h=>?_) (fun h=>?_)<;>(try simp only[Bool.not_eq_true',Bool.not_eq_false']at h)<;>simp only[QBD,simprocAttr,Qf,Qu,r1,r3,r4,r5,g0,g1,g2,g3,h])
   | (refine(qs _).thenW ?_;rintro _ _ hn hw2 ⟨rfl,rfl⟩;simp only[QBD,simprocAttr,Qf,Qu,r1,r3,r4,r5,g0,g1,g2,g3])
   | (refine(qw ⟨bc,bn⟩ _).thenW ?_;rintro _ _ hn hw2 ⟨rfl,k,rfl⟩;have hx:=hx.up (show _≤k from hn);simp only[QBD,simprocAttr,Qf,Qu,r1,r3,r4,r5,g0,g1,g2,g3])
   | (refine(qw ⟨ic,nn⟩ _).thenW ?_;rintro _ _ hn hw2 ⟨rfl,k,rfl⟩;have hx:=hx.up (show _≤k from hn);simp only[QBD,simprocAttr,Qf,Qu,r1,r3,r4,r5,g0,g1,g2,g3])
   | (refine(qc _).thenW ?_;rintro _ _ hn hw2 ⟨rfl,k,rfl⟩;have hx:=hx.up (show _≤k from hn);simp only[QBD,simprocAttr,Qf,Qu,r1,r3,r4,r5,g0,g1,g2,g3]))
  all_goals first
   | (have hb:Jt sz=true:=(by(try simp only[isR]);simp[*]);exact .ext hw hx ⟨by first | (simp only[QC,c0,hb,Bool.false_eq_true,if_false,if_true,Bool.false_and,Bool.true_and,Bool.and_false,Bool.and_true,Bool.false_or,Bool.true_or,Bool.or_false,Bool.or_true,Bool.not_true,Bool.not_false,reduceCtorEq,gt_iff_lt,eq_self];done) | (have c9:=c3;simp only[hb,Bool.true_and]at c9;simp only[QC,c0,c1,c2,hb,c9,Bool.false_eq_true,if_false,if_true,Bool.true_and,reduceCtorEq,gt_iff_lt,eq_self]),_,rfl⟩)
   | (have hb:Jt sz=false:=(by(try simp only[isR]);simp[*]);exact .ext hw hx ⟨by first | (simp only[QC,c0,hb,Bool.false_eq_true,if_false,if_true,Bool.false_and,Bool.true_and,Bool.and_false,Bool.and_true,Bool.false_or,Bool.true_or,Bool.or_false,Bool.or_true,Bool.not_true,Bool.not_false,reduceCtorEq,gt_iff_lt,eq_self];done) | (have c9:=c3;simp only[hb,Bool.true_and]at c9;simp only[QC,c0,c1,c2,hb,c9,Bool.false_eq_true,if_false,if_true,Bool.true_and,reduceCtorEq,gt_iff_lt,eq_self]),_,rfl⟩)
   | (have hb:Jt sz=true:=(by(try simp only[isR]);simp[*]);exact P5 _ _ (mcF.env ⟨hx,r1,r3,r4,r5,by rw[hcs];exact g0,g1,g2,g3⟩ (by simp only[QBE,simprocAttr]) (by simp only[QBE,simprocAttr]) (by simp only[QBE,simprocAttr]) (by simp only[QBE,simprocAttr])) c0 hb)
 have hx0:∀b c d e f g h,Ext H (((((((H.push b).push c).set (H.next+1) d).push e).set (H.next+2) f).push g).set (H.next+3) h):=fun b c d e f g h=>
  (((((((Ext.refl H).push b).push c).set (by omega) d).push e).set (by omega) f).push g).set (by omega) h
 have fin:∀A,A 1=.pointer (some ⟨H.next,0,none⟩)→A 3=.pointer (some ⟨H.next+1,0,none⟩)→A 4=.pointer (some ⟨H.next+2,0,none⟩)→A 5=.pointer (some ⟨H.next+3,0,none⟩)→∀d e f,mcF H cs A (((((((H.push (.cells cs QJ false)).push d).set (H.next+1) (.cells [.int .i64 0,.int .i64 0] QM false)).push e).set (H.next+2) (.cells [.int .i64 8,.int .i64 0] QM false)).push f).set (H.next+3) (.cells [.int .i64 5,.int .i64 4] QM false)):=by
  intro A r1 r3 r4 r5 d e f
  refine⟨hx0 _ _ _ _ _ _ _,r1,r3,r4,r5,?_,?_,?_,?_⟩<;>simp[Qa.get_set,Qa.get_push,Nat.add_assoc]
 rw[← hcs]
 refine Qv (fun h=>?_) (fun h=>?_)<;>(try simp only[Bool.not_eq_true',Bool.not_eq_false']at h)<;>simp only[QBD,simprocAttr,Qf,Nat.add_assoc,Nat.add_eq_left,Nat.left_eq_add,h,hcs]
 ·refine Qg (fun h2=>?_) (fun h2=>?_)<;>simp only[QBD,simprocAttr,Qf,h2]
  ·exact .ext hw (hx0 _ _ _ _ _ _ _) ⟨by simp only[QC,h,gt_iff_lt,h2,Bool.or_true,if_true],_,rfl⟩
  ·rw[← hcs]
   exact P6 _ _ (fin _ (by simp only[QBE,simprocAttr]) (by simp only[QBE,simprocAttr]) (by simp only[QBE,simprocAttr]) (by simp only[QBE,simprocAttr]) _ _ _) (by simp only[h,h2,Bool.or_false])
 ·exact .ext hw (hx0 _ _ _ _ _ _ _) ⟨by simp only[QC,h,Bool.true_or,if_true],_,rfl⟩
def K2:Mm:=⟨⟨0,0⟩,⟨0,0⟩,0,0,0⟩
def ZT (m:Mm):Mm:=
 if(isR m.i 0 0||!(m.sc==1))=true then m else if isR m.b 0 0=true then⟨m.i,⟨0,0⟩,0,m.d,m.sz⟩ else if(m.i.n==4)=true then⟨m.i,m.b,m.sc,m.d,m.sz⟩ else m
def QhJ (m:Mm):Mm×Int:=if QC m=0 then(ZT m,0) else(K2,QC m)
theorem Qj6 (m:Mm) (H:Qa):Qe prog Qaq [.agg m.cells.toArray] H fun u H'=>u=.tuple #[.agg (QhJ m).1.cells.toArray,.int .i64 (QhJ m).2]∧∃k,H'=H.up k:=by
 refine QoE fun hw=>?_
 have q:=Qj5 m
 obtain⟨e,he⟩:∃e,QC m=e:=⟨_,rfl⟩
 rw[he]at q
 have hc:QhJ m=if e=0 then(ZT m,0) else(K2,e):=by rw[← he];rfl
 rw[hc]
 clear hc he
 obtain⟨⟨bc,bn⟩,⟨ic,nn⟩,sc,d,sz⟩:=m
 simp only[Mm.cells]at q
 simp only[Mm.cells,QhF,YX,YY,YZ,Y0,QBD,simprocAttr,KN]
 refine(q _).thenW ?_
 rintro _ _ hn hw2 ⟨rfl,k,rfl⟩
 simp only[Qa.next_push,Qa.next_up]at hn
 have k0:¬H.next=k:=by omega
 have k1:¬H.next+1=k:=by omega
 have k2:¬H.next=k+1:=by omega
 have k3:¬H.next+1=k+1:=by omega
 simp only[QBD,simprocAttr,KN,YX,YY,YZ,Y0,Qu,Nat.add_assoc,Nat.add_eq_left,Nat.left_eq_add,k0,k1,k2,k3]
 repeat' (first
   | refine⟨by simp[Qj,plain],by omega,?_⟩
   | (refine Qv (fun h=>?_) (fun h=>?_)<;>(try simp only[Bool.not_eq_true',Bool.not_eq_false']at h)<;>simp only[QBD,simprocAttr,KN,YX,YY,YZ,Y0,Qu,Nat.add_assoc,Nat.add_eq_left,Nat.left_eq_add,k0,k1,k2,k3,h])
   | (refine Qg (fun h=>?_) (fun h=>?_)<;>(try simp only[Bool.not_eq_true',Bool.not_eq_false']at h)<;>simp only[QBD,simprocAttr,KN,YX,YY,YZ,Y0,Qu,Nat.add_assoc,Nat.add_eq_left,Nat.left_eq_add,k0,k1,k2,k3,h]))
 all_goals refine .ext hw ?_ ⟨?_,_,rfl⟩
 all_goals try (repeat' (first | exact Ext.refl _ | refine Ext.push ?_ _ | refine Ext.up ?_ (by first | assumption | (simp only[Qa.next_push,Qa.next_set];omega)) | refine Ext.set ?_ (by omega) _))
 all_goals (try have he0:e=0:=by simpa using ‹(e==0)=true›)<;>(try have he0:¬e=0:=by simpa using ‹(e==0)=false›)
 all_goals (simp only[ZT,K2,isR,Mm.cells, *,Bool.false_eq_true,if_false,if_true,Bool.false_and,Bool.true_and,Bool.and_false,Bool.and_true,Bool.false_or,Bool.true_or,Bool.or_false,Bool.or_true,Bool.not_true,Bool.not_false,reduceCtorEq,eq_self];done)
structure Ar where
 k:Int
 r:Rg
 m:Mm
 n:Int
 deriving DecidableEq
def Ar.cells (a:Ar):List Value:=[.int .i64 a.k,.int .i64 a.r.c,.int .i64 a.r.n,.int .i64 a.m.b.c,.int .i64 a.m.b.n,.int .i64 a.m.i.c,.int .i64 a.m.i.n,.int .i64 a.m.sc,.int .i64 a.m.d,.int .i64 a.m.sz,.int .i64 a.n]
def W5 (a:Ar):Int:=
 if(a.k==1)=true then(if(!Yu a.r||(a.r.c==8))=true then 2 else 0)
 else if(a.k==2)=true then QC a.m
 else if(a.k==3)=true then 0
 else if(a.k==4)=true then(if(decide (a.n < -2147483648)||decide (2147483647<a.n))=true then 5 else 0)
 else 2
theorem ZL (a:Ar) (H:Qa):Qe prog Xm [.agg a.cells.toArray] H fun u H'=>u=.int .i64 (W5 a)∧∃k,H'=H.up k:=by
 refine Qi5 fun hw=>?_
 have q1:=Z5 a.r
 have q2:=Qj5 a.m
 obtain⟨k,⟨rc,rn⟩,⟨⟨bc,bn⟩,⟨ic,nn⟩,sc,d,sz⟩,n⟩:=a
 simp only[Rg.cells,Mm.cells]at q1 q2
 simp(disch:=omega) only[Ar.cells,QbJ,Ya,Yb,Yc,Yd,Ye,QBF,simprocAttr,Xw]
 repeat' (first
   | (refine Qv (fun h=>?_) (fun h=>?_)<;>(try simp only[Bool.not_eq_true',Bool.not_eq_false']at h)<;>simp(disch:=omega) only[QBF,simprocAttr,Xw,Ya,Yb,Yc,Yd,Ye,h])
   | (refine Qg (fun h=>?_) (fun h=>?_)<;>(try simp only[Bool.not_eq_true',Bool.not_eq_false']at h)<;>simp(disch:=omega) only[QBF,simprocAttr,Xw,Ya,Yb,Yc,Yd,Ye,h])
   | (refine(q1 _).thenW ?_;rintro _ _ hn hw2 ⟨rfl,k,rfl⟩;simp only[Qa.next_push,Qa.next_up,Qa.next_set]at hn;simp(disch:=omega) only[QBF,simprocAttr,Xw])
   | (refine(q2 _).thenW ?_;rintro _ _ hn hw2 ⟨rfl,k,rfl⟩;simp only[Qa.next_push,Qa.next_up,Qa.next_set]at hn;simp(disch:=omega) only[QBF,simprocAttr,Xw]))
 all_goals refine .ext hw ?_ ⟨?_,_,rfl⟩
 all_goals try (repeat' (first | exact Ext.refl _ | refine Ext.push ?_ _ | refine Ext.up ?_ (by simp only[Qa.next_push,Qa.next_set,Qa.next_up];omega) | refine Ext.set ?_ (by omega) _))
 all_goals (simp only[W5, *,Bool.false_eq_true,if_false,if_true,Bool.false_and,Bool.true_and,Bool.and_false,Bool.and_true,Bool.false_or,Bool.true_or,Bool.or_false,Bool.or_true,Bool.not_true,Bool.not_false,reduceCtorEq,eq_self])
/-! ### Canon -/
def WE:Ar:=⟨0,⟨0,0⟩,K2,0⟩
def QlP (a:Ar):Ar:=if(a.k==1)=true then⟨a.k,a.r,K2,0⟩ else if(a.k==2)=true then⟨a.k,⟨0,0⟩,ZT a.m,0⟩ else⟨a.k,⟨0,0⟩,K2,a.n⟩
def XK (a:Ar):Ar×Int:=if(W5 a==0)=true then(QlP a,0) else(WE,W5 a)
theorem QlQ {a:Ar} (hk:(a.k==2)=true):W5 a=QC a.m:=by
 have:a.k=2:=by simpa using hk
 simp[W5,this]
theorem Qkr (a:Ar) (H:Qa):Qe prog Gc [.agg a.cells.toArray] H fun u H'=>u=.tuple #[.agg (XK a).1.cells.toArray,.int .i64 (XK a).2]∧∃k,H'=H.up k:=by
 refine Qi6 fun hw=>?_
 have q1:=ZL a
 have q2:=Qj6 a.m
 have hm:=@QlQ a
 have hcc:QhJ a.m=if QC a.m=0 then(ZT a.m,0) else(K2,QC a.m):=rfl
 have hce:XK a=if(W5 a==0)=true then(QlP a,0) else(WE,W5 a):=rfl
 rw[hce]
 rw[hcc]at q2
 clear hce hcc
 generalize W5 a=e at *
 generalize QC a.m=f at *
 have hca:QlP a=if(a.k==1)=true then⟨a.k,a.r,K2,0⟩ else if(a.k==2)=true then⟨a.k,⟨0,0⟩,ZT a.m,0⟩ else⟨a.k,⟨0,0⟩,K2,a.n⟩:=rfl
 rw[hca]
 clear hca
 generalize ZT a.m=mc at *
 obtain⟨k,⟨rc,rn⟩,⟨⟨bc,bn⟩,⟨ic,nn⟩,sc,d,sz⟩,n⟩:=a
 obtain⟨⟨mb,mbn⟩,⟨mi,min⟩,msc,md,msz⟩:=mc
 simp only[Ar.cells,Mm.cells]at q1 q2 hm
 simp(disch:=(first | omega | (repeat (first | rw[Qa.next_push] | rw[Qa.next_set] | rw[Qa.next_up]));try omega)) only[Ar.cells,QbP,WK,WL,WM,QBF,simprocAttr,Xx]
 repeat' (first
   | (refine Qv (fun h=>?_) (fun h=>?_)<;>(try simp only[Bool.not_eq_true',Bool.not_eq_false']at h)<;>simp(disch:=(first | omega | (repeat (first | rw[Qa.next_push] | rw[Qa.next_set] | rw[Qa.next_up]));try omega)) only[WK,WL,WM,QBF,simprocAttr,Xx,h])
   | (refine Qg (fun h=>?_) (fun h=>?_)<;>(try simp only[Bool.not_eq_true',Bool.not_eq_false']at h)<;>simp(disch:=(first | omega | (repeat (first | rw[Qa.next_push] | rw[Qa.next_set] | rw[Qa.next_up]));try omega)) only[WK,WL,WM,QBF,simprocAttr,Xx,h])
   | (refine(q1 _).thenW ?_;rintro _ _ hn hw2 ⟨rfl,k,rfl⟩;(try simp only[Qa.next_push,Qa.next_up,Qa.next_set]at hn);simp(disch:=(first | omega | (repeat (first | rw[Qa.next_push] | rw[Qa.next_set] | rw[Qa.next_up]));try omega)) only[WK,WL,WM,QBF,simprocAttr,Xx])
   | (refine(q2 _).thenW ?_;rintro _ _ hn hw2 ⟨rfl,k,rfl⟩;(try simp only[Qa.next_push,Qa.next_up,Qa.next_set]at hn);simp(disch:=(first | omega | (repeat (first | rw[Qa.next_push] | rw[Qa.next_set] | rw[Qa.next_up]));try omega)) only[WK,WL,WM,QBF,simprocAttr,Xx])
   | (with_reducible refine⟨by simp[Qj,plain],by omega,?_⟩)
   | (with_reducible refine⟨by simp[Qj,plain],?_⟩)
   | fail)
 all_goals refine .ext hw ?_ ⟨?_,_,rfl⟩
 all_goals try (repeat' (first | exact Ext.refl _ | refine Ext.push ?_ _ | refine Ext.up ?_ (by simp only[Qa.next_push,Qa.next_set,Qa.next_up];omega) | refine Ext.set ?_ (by omega) _))
 all_goals simp_all [WE,K2,Ar.cells,Mm.cells]
def Qj7 (a:Ar):Int:=if(W5 a==0)=true then(if(a.k==1)=true then QhI a.r else if(a.k==2)=true then a.m.sz else 0) else 0
theorem QlR (a:Ar) (H:Qa):Qe prog Vn [.agg a.cells.toArray] H fun u H'=>u=.int .i64 (Qj7 a)∧∃k,H'=H.up k:=by
 refine Qkp fun hw=>?_
 have q1:=ZL a
 have q2:=Qsk a.r
 have hs:Qj7 a=if(W5 a==0)=true then(if(a.k==1)=true then QhI a.r else if(a.k==2)=true then a.m.sz else 0) else 0:=rfl
 rw[hs]
 clear hs
 generalize W5 a=e at *
 generalize QhI a.r=sr at *
 obtain⟨k,⟨rc,rn⟩,⟨⟨bc,bn⟩,⟨ic,nn⟩,sc,d,sz⟩,n⟩:=a
 simp only[Ar.cells,Rg.cells]at q1 q2
 simp(disch:=(first | omega | (repeat (first | rw[Qa.next_push] | rw[Qa.next_set] | rw[Qa.next_up]));try omega)) only[Ar.cells,Qdi,QBF,simprocAttr,XR]
 repeat' (first
   | (refine Qv (fun h=>?_) (fun h=>?_)<;>(try simp only[Bool.not_eq_true',Bool.not_eq_false']at h)<;>simp(disch:=(first | omega | (repeat (first | rw[Qa.next_push] | rw[Qa.next_set] | rw[Qa.next_up]));try omega)) only[QBF,simprocAttr,XR,h])
   | (refine Qg (fun h=>?_) (fun h=>?_)<;>(try simp only[Bool.not_eq_true',Bool.not_eq_false']at h)<;>simp(disch:=(first | omega | (repeat (first | rw[Qa.next_push] | rw[Qa.next_set] | rw[Qa.next_up]));try omega)) only[QBF,simprocAttr,XR,h])
   | (refine(q1 _).thenW ?_;rintro _ _ hn hw2 ⟨rfl,k,rfl⟩;(try simp only[Qa.next_push,Qa.next_up,Qa.next_set]at hn);simp(disch:=(first | omega | (repeat (first | rw[Qa.next_push] | rw[Qa.next_set] | rw[Qa.next_up]));try omega)) only[QBF,simprocAttr,XR])
   | (refine(q2 _).thenW ?_;rintro _ _ hn hw2 ⟨rfl,k,rfl⟩;(try simp only[Qa.next_push,Qa.next_up,Qa.next_set]at hn);simp(disch:=(first | omega | (repeat (first | rw[Qa.next_push] | rw[Qa.next_set] | rw[Qa.next_up]));try omega)) only[QBF,simprocAttr,XR])
   | (with_reducible refine⟨by simp[Qj,plain],by omega,?_⟩)
   | (with_reducible refine⟨by simp[Qj,plain],?_⟩)
   | fail)
 all_goals refine .ext hw ?_ ⟨?_,_,rfl⟩
 all_goals try (repeat' (first | exact Ext.refl _ | refine Ext.push ?_ _ | refine Ext.up ?_ (by simp only[Qa.next_push,Qa.next_set,Qa.next_up];omega) | refine Ext.set ?_ (by omega) _))
 all_goals simp_all []
def Gw (o:Int):Bool:=decide (1≤o)&&decide (o≤322)
theorem QcY (o:Int) (H:Qa):Qe prog X7 [.int .i64 o] H fun u H'=>u=.bool (Gw o)∧H'=H:=by
 refine QfH fun hw=>?_
 simp(disch:=(first | omega | (repeat (first | rw[Qa.next_push] | rw[Qa.next_set] | rw[Qa.next_up]));try omega)) only[Qbi,QBF,simprocAttr,YT]
 repeat' (first
   | (refine Qv (fun h=>?_) (fun h=>?_)<;>(try simp only[Bool.not_eq_true',Bool.not_eq_false']at h)<;>simp(disch:=(first | omega | (repeat (first | rw[Qa.next_push] | rw[Qa.next_set] | rw[Qa.next_up]));try omega)) only[QBF,simprocAttr,YT,h])
   | (refine Qg (fun h=>?_) (fun h=>?_)<;>(try simp only[Bool.not_eq_true',Bool.not_eq_false']at h)<;>simp(disch:=(first | omega | (repeat (first | rw[Qa.next_push] | rw[Qa.next_set] | rw[Qa.next_up]));try omega)) only[QBF,simprocAttr,YT,h])
   | (with_reducible refine⟨by simp[Qj,plain],by omega,?_⟩)
   | (with_reducible refine⟨by simp[Qj,plain],?_⟩)
   | fail)
 all_goals refine .mk (Nat.le_refl _) ⟨?_,rfl⟩
 all_goals (simp_all [Gw]<;>omega)
def Qsm (o:Int):Int×Bool:=if Gw o=false then(0,false) else if o=1∨o=2∨o=3∨o=4∨o=5∨o=6∨o=7∨o=8∨o=9∨o=10∨o=16 then(0,true) else if o=48 then(64,true) else if o=51 then(16,false) else(8,false)
theorem Qsn (o:Int) (H:Qa):Qe prog Qgq [.int .i64 o] H fun u H'=>u=.tuple #[.int .i64 (Qsm o).1,.bool (Qsm o).2]∧H'=H:=by
 refine Qqk fun hw=>?_
 have q1:=QcY o
 have hs:Qsm o=if Gw o=false then(0,false) else if o=1∨o=2∨o=3∨o=4∨o=5∨o=6∨o=7∨o=8∨o=9∨o=10∨o=16 then(0,true) else if o=48 then(64,true) else if o=51 then(16,false) else(8,false):=rfl
 rw[hs]
 clear hs
 generalize Gw o=v at *
 simp(disch:=(first | omega | (repeat (first | rw[Qa.next_push] | rw[Qa.next_set] | rw[Qa.next_up]));try omega)) only[Qj1,Zq,Zr,Zs,Zt,Zu,Zv,Zw,Zx,Zy,YU,YV,QBF,simprocAttr,G9]
 repeat' (first
   | (refine Qv (fun h=>?_) (fun h=>?_)<;>(try simp only[Bool.not_eq_true',Bool.not_eq_false']at h)<;>simp(disch:=(first | omega | (repeat (first | rw[Qa.next_push] | rw[Qa.next_set] | rw[Qa.next_up]));try omega)) only[Zq,Zr,Zs,Zt,Zu,Zv,Zw,Zx,Zy,YU,YV,QBF,simprocAttr,G9,h])
   | (refine Qg (fun h=>?_) (fun h=>?_)<;>(try simp only[Bool.not_eq_true',Bool.not_eq_false']at h)<;>simp(disch:=(first | omega | (repeat (first | rw[Qa.next_push] | rw[Qa.next_set] | rw[Qa.next_up]));try omega)) only[Zq,Zr,Zs,Zt,Zu,Zv,Zw,Zx,Zy,YU,YV,QBF,simprocAttr,G9,h])
   | (refine(q1 _).thenW ?_;rintro _ _ hn hw2 ⟨rfl,rfl⟩;(try simp only[Qa.next_push,Qa.next_up,Qa.next_set]at hn);simp(disch:=(first | omega | (repeat (first | rw[Qa.next_push] | rw[Qa.next_set] | rw[Qa.next_up]));try omega)) only[Zq,Zr,Zs,Zt,Zu,Zv,Zw,Zx,Zy,YU,YV,QBF,simprocAttr,G9])
   | (with_reducible refine⟨by simp[Qj,plain],by omega,?_⟩)
   | (with_reducible refine⟨by simp[Qj,plain],?_⟩)
   | fail)
 all_goals refine .mk (Nat.le_refl _) ⟨?_,rfl⟩
 all_goals simp_all []
def Qi (l:List Ar):List Value:=l.flatMap Ar.cells
theorem We (a:Ar):a.cells.length=11:=rfl
theorem Z6 (a:Ar) (l:List Ar):Qi (a::l)=a.cells++Qi l:=by simp[Qi]
theorem QV:∀l:List Ar,(Qi l).length=l.length * 11
 | []=>rfl
 | a::l=>by
  have:=QV l
  rw[Z6,List.length_append,We,this,List.length_cons];omega
theorem XS:∀ (l:List Ar) (i:Nat) (p:Ar),l[i]? = some p→((Qi l).drop (i * 11)).take 11=p.cells
 | [],i,p,h=>by simp at h
 | q::l,0,p,h=>by
  simp at h;subst h
  rw[Z6,Nat.zero_mul,List.drop_zero,List.take_append_of_le_length (by rw[We];exact Nat.le_refl 11),List.take_of_length_le (by rw[We];exact Nat.le_refl 11)]
 | q::l,i+1,p,h=>by
  rw[Z6,show(i+1) * 11=q.cells.length+i * 11 by rw[We];omega,List.drop_append,List.drop_of_length_le (by omega),List.nil_append,Nat.add_sub_cancel_left]
  exact XS l i p (by simpa using h)
def QS (H:Qa) (v:Value) (l:List Ar):Prop:=Vy H v l.length (Qi l)
theorem QS.ext {H H':Qa} {v:Value} {l:List Ar} (hw:H.Wf) (he:Ext H H') (h:QS H v l):QS H' v l:=Vy.ext hw he h
theorem Qv5 (r:Rg):0≤QhI r∧QhI r≤32:=by
 unfold QhI
 repeat' split
 all_goals decide
theorem QuG {n:Int} (h:Jt n=true):0≤n∧n≤32:=by
 simp only[Jt,Bool.or_eq_true,beq_iff_eq]at h
 omega
theorem Qv6 (a:Ar):0≤Qj7 a∧Qj7 a≤32:=by
 unfold Qj7
 split
 ·rename_i h
  split
  ·exact Qv5 _
  ·split
   ·rename_i h2
    rw[QlQ h2]at h
    apply QuG
    cases hs:Jt a.m.sz with
    | true=>rfl
    | false=>
     unfold QC at h
     rw[hs]at h
     split at h<;>simp at h
   ·omega
 ·omega
def W0 (op:Int) (l:List Ar):Int×Bool:=if Gw op=false then(0,false) else if((Qsm op).1==0)=false then Qsm op else match l with
 | []=>(0,false)
 | a::_=>if(Qj7 a==0)=true then(0,false) else(8 * Qj7 a,(Qsm op).2)
theorem Qas (op:Int) (v:Value) (l:List Ar) (H:Qa) (hv:QS H v l) (hl:l.length≤1000):Qe prog Z2 [.agg #[.int .i64 op,v]] H fun u H'=>u=.tuple #[.int .i64 (W0 op l).1,.bool (W0 op l).2]∧∃k,H'=H.up k:=by
 refine QoA fun hw=>?_
 have q1:=QcY op
 have q2:=Qsn op
 unfold W0
 generalize Gw op=v1 at *
 generalize Qsm op=v2 at *
 obtain⟨v2a,v2b⟩:=v2
 obtain⟨a0,cap,rfl,h1⟩:=hv
 cases l with
 | nil=>
  have el0:(((0:Nat):Int)==0)=true:=rfl
  simp(disch:=(first | omega | (repeat (first | rw[Qa.next_push] | rw[Qa.next_set] | rw[Qa.next_up]));try omega)) only[QcT,QBF,simprocAttr,el0,Wd]
  repeat' (first
    | (refine Qv (fun h=>?_) (fun h=>?_)<;>(try simp only[Bool.not_eq_true',Bool.not_eq_false']at h)<;>simp(disch:=(first | omega | (repeat (first | rw[Qa.next_push] | rw[Qa.next_set] | rw[Qa.next_up]));try omega)) only[QBF,simprocAttr,el0,Wd,h])
    | (refine Qg (fun h=>?_) (fun h=>?_)<;>(try simp only[Bool.not_eq_true',Bool.not_eq_false']at h)<;>simp(disch:=(first | omega | (repeat (first | rw[Qa.next_push] | rw[Qa.next_set] | rw[Qa.next_up]));try omega)) only[QBF,simprocAttr,el0,Wd,h])
    | (refine(q1 _).thenW ?_;rintro _ _ hn hw2 ⟨rfl,rfl⟩;(try simp only[Qa.next_push,Qa.next_up,Qa.next_set]at hn);simp(disch:=(first | omega | (repeat (first | rw[Qa.next_push] | rw[Qa.next_set] | rw[Qa.next_up]));try omega)) only[QBF,simprocAttr,el0,Wd])
    | (refine(q2 _).thenW ?_;rintro _ _ hn hw2 ⟨rfl,rfl⟩;(try simp only[Qa.next_push,Qa.next_up,Qa.next_set]at hn);simp(disch:=(first | omega | (repeat (first | rw[Qa.next_push] | rw[Qa.next_set] | rw[Qa.next_up]));try omega)) only[QBF,simprocAttr,el0,Wd])
    | (with_reducible refine⟨by simp[Qj,plain],by omega,?_⟩)
    | (with_reducible refine⟨by simp[Qj,plain],?_⟩)
    | fail)
  all_goals refine .ext hw ?_ ⟨?_,_,rfl⟩
  all_goals try (repeat' (first | exact Ext.refl _ | refine Ext.push ?_ _ | refine Ext.up ?_ (by simp only[Qa.next_push,Qa.next_set,Qa.next_up];omega) | refine Ext.set ?_ (by omega) _))
  all_goals simp_all
 | cons a l=>
  dsimp only
  have et0:(0:Int).toNat=0:=rfl
  have q3:=QlR a
  have h8:=Qv6 a
  generalize Qj7 a=s at *
  obtain⟨b,e,ro,rfl,hgb⟩:=h1 (by simp)
  have el0:(((l.length+1:Nat):Int)==0)=false:=by simp;omega
  have ec1:((0:Int)≤0∧(0:Int)<((l.length+1:Nat):Int)):=by omega
  have hb:=hw.lt hgb
  have e8:IntKind.i64.wrap (8 * s)=8 * s:=w64 (by unfold I64;omega)
  have hd11:List.take 11 (Qi (a::l))=a.cells:=by
   have:=XS (a::l) 0 a rfl
   simpa using this
  have hle:11≤(Qi (a::l)).length:=by rw[QV];simp;omega
  simp(disch:=(first | omega | (repeat (first | rw[Qa.next_push] | rw[Qa.next_set] | rw[Qa.next_up]));try omega)) only[QcT,QBF,simprocAttr,el0,ec1,et0,hgb,hd11,hle,e8,Wd]
  repeat' (first
    | (refine Qv (fun h=>?_) (fun h=>?_)<;>(try simp only[Bool.not_eq_true',Bool.not_eq_false']at h)<;>simp(disch:=(first | omega | (repeat (first | rw[Qa.next_push] | rw[Qa.next_set] | rw[Qa.next_up]));try omega)) only[QBF,simprocAttr,el0,ec1,et0,hgb,hd11,hle,e8,Wd,h])
    | (refine Qg (fun h=>?_) (fun h=>?_)<;>(try simp only[Bool.not_eq_true',Bool.not_eq_false']at h)<;>simp(disch:=(first | omega | (repeat (first | rw[Qa.next_push] | rw[Qa.next_set] | rw[Qa.next_up]));try omega)) only[QBF,simprocAttr,el0,ec1,et0,hgb,hd11,hle,e8,Wd,h])
    | (refine(q1 _).thenW ?_;rintro _ _ hn hw2 ⟨rfl,rfl⟩;(try simp only[Qa.next_push,Qa.next_up,Qa.next_set]at hn);simp(disch:=(first | omega | (repeat (first | rw[Qa.next_push] | rw[Qa.next_set] | rw[Qa.next_up]));try omega)) only[QBF,simprocAttr,el0,ec1,et0,hgb,hd11,hle,e8,Wd])
    | (refine(q2 _).thenW ?_;rintro _ _ hn hw2 ⟨rfl,rfl⟩;(try simp only[Qa.next_push,Qa.next_up,Qa.next_set]at hn);simp(disch:=(first | omega | (repeat (first | rw[Qa.next_push] | rw[Qa.next_set] | rw[Qa.next_up]));try omega)) only[QBF,simprocAttr,el0,ec1,et0,hgb,hd11,hle,e8,Wd])
    | (refine(q3 _).thenW ?_;rintro _ _ hn hw2 ⟨rfl,k,rfl⟩;(try simp only[Qa.next_push,Qa.next_up,Qa.next_set]at hn);simp(disch:=(first | omega | (repeat (first | rw[Qa.next_push] | rw[Qa.next_set] | rw[Qa.next_up]));try omega)) only[QBF,simprocAttr,el0,ec1,et0,hgb,hd11,hle,e8,Wd])
    | (with_reducible refine⟨by simp[Qj,plain],by omega,?_⟩)
    | (with_reducible refine⟨by simp[Qj,plain],?_⟩)
    | fail)
  all_goals refine .ext hw ?_ ⟨?_,_,rfl⟩
  all_goals try (repeat' (first | exact Ext.refl _ | refine Ext.push ?_ _ | refine Ext.up ?_ (by simp only[Qa.next_push,Qa.next_set,Qa.next_up];omega) | refine Ext.set ?_ (by omega) _))
  all_goals simp_all
def Qfi (n bits:Int):Int:=if bits=8 then n % 256 else if bits=16 then n % 65536 else if bits=32 then n % 4294967296 else n
def Qfj (n bits:Int):Int:=if bits=8 then(n+128) % 256 - 128 else if bits=16 then(n+32768) % 65536 - 32768 else if bits=32 then(n+2147483648) % 4294967296 - 2147483648 else n
def JL (n bits:Int) (sg:Bool):Int×Int:=
 if(bits==8||bits==16||bits==32||bits==64)=false then(0,2)
 else if(!(n==Qfi n bits)&&!(n==Qfj n bits))=true then(0,5)
 else if sg=true then(Qfj n bits,0) else(Qfi n bits,0)
theorem Qi9 (n bits:Int) (sg:Bool) (hn:I64 n) (hb:bits=8∨bits=16∨bits=32∨bits=64) (H:Qa):Qe prog XG [.int .i64 n,.int .i64 bits,.bool sg] H fun u H'=>u=.tuple #[.int .i64 (JL n bits sg).1,.int .i64 (JL n bits sg).2]∧H'=H:=by
 refine Qei fun hw=>?_
 rcases hb with rfl | rfl | rfl | rfl
 ·have t1:((8:Int)==8)=true:=rfl
  have t2:((8:Int)==16)=false:=rfl
  have t3:((8:Int)==32)=false:=rfl
  have t4:((8:Int)==64)=false:=rfl
  have w1:IntKind.i64.wrap (64 - 8)=56:=by decide
  have p1:(2:Int) ^ min (Int.toNat 56) IntKind.u64.bits=72057594037927936:=by decide
  have p2:(2:Int) ^ min (Int.toNat 56) IntKind.i64.bits=72057594037927936:=by decide
  have z0:((0:Int)≤56)=True:=eq_true (by decide)
  have eL:IntKind.i64.wrap ((IntKind.u64.wrap (IntKind.u64.wrap n * 72057594037927936)).fdiv 72057594037927936)=Qfi n 8:=by
   unfold I64 at hn
   rw[Int.fdiv_eq_ediv_of_nonneg _ (by decide),IntKind.wrap_i64,IntKind.wrap_u64,IntKind.wrap_u64]
   rw[show Qfi n 8=n % 256 from rfl];omega
  have eC:(IntKind.i64.wrap (IntKind.u64.wrap (IntKind.u64.wrap n * 72057594037927936))).fdiv 72057594037927936=Qfj n 8:=by
   unfold I64 at hn
   rw[Int.fdiv_eq_ediv_of_nonneg _ (by decide),IntKind.wrap_i64,IntKind.wrap_u64,IntKind.wrap_u64]
   rw[show Qfj n 8=(n+128) % 256 - 128 from rfl];omega
  simp(disch:=(first | omega | (repeat (first | rw[Qa.next_push] | rw[Qa.next_set] | rw[Qa.next_up]));try omega)) only[XQ,QE,QF,QG,sxA,sxB,Nat.reduceBEq,Nat.reduceEqDiff,reduceCtorEq,mxD,mxB,Nat.reduceAdd,reduceIte,Nat.reduceLeDiff,splice,t1,t2,t3,t4,w1,z0,p1,p2,eL,eC,QN]
  obtain⟨lo,hlo⟩:∃lo,Qfi n 8=lo:=⟨_,rfl⟩
  obtain⟨cu,hcu⟩:∃cu,Qfj n 8=cu:=⟨_,rfl⟩
  have hI:JL n 8 sg=if(!(n==lo)&&!(n==cu))=true then(0,5) else if sg=true then(cu,0) else(lo,0):=by
   rw[← hlo,← hcu];rfl
  rw[hI,hlo,hcu]
  clear hI eL eC hlo hcu
  repeat' (first
   | (refine Qv (fun h=>?_) (fun h=>?_)<;>(try simp only[Bool.not_eq_true',Bool.not_eq_false']at h)<;>simp(disch:=(first | omega | (repeat (first | rw[Qa.next_push] | rw[Qa.next_set] | rw[Qa.next_up]));try omega)) only[QE,QF,QG,sxA,sxB,Nat.reduceBEq,Nat.reduceEqDiff,reduceCtorEq,mxD,mxB,Nat.reduceAdd,reduceIte,Nat.reduceLeDiff,splice,QN,h])
   | (refine Qg (fun h=>?_) (fun h=>?_)<;>(try simp only[Bool.not_eq_true',Bool.not_eq_false']at h)<;>simp(disch:=(first | omega | (repeat (first | rw[Qa.next_push] | rw[Qa.next_set] | rw[Qa.next_up]));try omega)) only[QE,QF,QG,sxA,sxB,Nat.reduceBEq,Nat.reduceEqDiff,reduceCtorEq,mxD,mxB,Nat.reduceAdd,reduceIte,Nat.reduceLeDiff,splice,QN,h])
   | fail)
  all_goals refine .mk (Nat.le_refl _) ⟨?_,rfl⟩
  all_goals simp_all
 ·have t1:((16:Int)==8)=false:=rfl
  have t2:((16:Int)==16)=true:=rfl
  have t3:((16:Int)==32)=false:=rfl
  have t4:((16:Int)==64)=false:=rfl
  have w1:IntKind.i64.wrap (64 - 16)=48:=by decide
  have p1:(2:Int) ^ min (Int.toNat 48) IntKind.u64.bits=281474976710656:=by decide
  have p2:(2:Int) ^ min (Int.toNat 48) IntKind.i64.bits=281474976710656:=by decide
  have z0:((0:Int)≤48)=True:=eq_true (by decide)
  have eL:IntKind.i64.wrap ((IntKind.u64.wrap (IntKind.u64.wrap n * 281474976710656)).fdiv 281474976710656)=Qfi n 16:=by
   unfold I64 at hn
   rw[Int.fdiv_eq_ediv_of_nonneg _ (by decide),IntKind.wrap_i64,IntKind.wrap_u64,IntKind.wrap_u64]
   rw[show Qfi n 16=n % 65536 from rfl];omega
  have eC:(IntKind.i64.wrap (IntKind.u64.wrap (IntKind.u64.wrap n * 281474976710656))).fdiv 281474976710656=Qfj n 16:=by
   unfold I64 at hn
   rw[Int.fdiv_eq_ediv_of_nonneg _ (by decide),IntKind.wrap_i64,IntKind.wrap_u64,IntKind.wrap_u64]
   rw[show Qfj n 16=(n+32768) % 65536 - 32768 from rfl];omega
  simp(disch:=(first | omega | (repeat (first | rw[Qa.next_push] | rw[Qa.next_set] | rw[Qa.next_up]));try omega)) only[XQ,QE,QF,QG,sxA,sxB,Nat.reduceBEq,Nat.reduceEqDiff,reduceCtorEq,mxD,mxB,Nat.reduceAdd,reduceIte,Nat.reduceLeDiff,splice,t1,t2,t3,t4,w1,z0,p1,p2,eL,eC,QN]
  obtain⟨lo,hlo⟩:∃lo,Qfi n 16=lo:=⟨_,rfl⟩
  obtain⟨cu,hcu⟩:∃cu,Qfj n 16=cu:=⟨_,rfl⟩
  have hI:JL n 16 sg=if(!(n==lo)&&!(n==cu))=true then(0,5) else if sg=true then(cu,0) else(lo,0):=by
   rw[← hlo,← hcu];rfl
  rw[hI,hlo,hcu]
  clear hI eL eC hlo hcu
  repeat' (first
   | (refine Qv (fun h=>?_) (fun h=>?_)<;>(try simp only[Bool.not_eq_true',Bool.not_eq_false']at h)<;>simp(disch:=(first | omega | (repeat (first | rw[Qa.next_push] | rw[Qa.next_set] | rw[Qa.next_up]));try omega)) only[QE,QF,QG,sxA,sxB,Nat.reduceBEq,Nat.reduceEqDiff,reduceCtorEq,mxD,mxB,Nat.reduceAdd,reduceIte,Nat.reduceLeDiff,splice,QN,h])
   | (refine Qg (fun h=>?_) (fun h=>?_)<;>(try simp only[Bool.not_eq_true',Bool.not_eq_false']at h)<;>simp(disch:=(first | omega | (repeat (first | rw[Qa.next_push] | rw[Qa.next_set] | rw[Qa.next_up]));try omega)) only[QE,QF,QG,sxA,sxB,Nat.reduceBEq,Nat.reduceEqDiff,reduceCtorEq,mxD,mxB,Nat.reduceAdd,reduceIte,Nat.reduceLeDiff,splice,QN,h])
   | fail)
  all_goals refine .mk (Nat.le_refl _) ⟨?_,rfl⟩
  all_goals simp_all
 ·have t1:((32:Int)==8)=false:=rfl
  have t2:((32:Int)==16)=false:=rfl
  have t3:((32:Int)==32)=true:=rfl
  have t4:((32:Int)==64)=false:=rfl
  have w1:IntKind.i64.wrap (64 - 32)=32:=by decide
  have p1:(2:Int) ^ min (Int.toNat 32) IntKind.u64.bits=4294967296:=by decide
  have p2:(2:Int) ^ min (Int.toNat 32) IntKind.i64.bits=4294967296:=by decide
  have z0:((0:Int)≤32)=True:=eq_true (by decide)
  have eL:IntKind.i64.wrap ((IntKind.u64.wrap (IntKind.u64.wrap n * 4294967296)).fdiv 4294967296)=Qfi n 32:=by
   unfold I64 at hn
   rw[Int.fdiv_eq_ediv_of_nonneg _ (by decide),IntKind.wrap_i64,IntKind.wrap_u64,IntKind.wrap_u64]
   rw[show Qfi n 32=n % 4294967296 from rfl];omega
  have eC:(IntKind.i64.wrap (IntKind.u64.wrap (IntKind.u64.wrap n * 4294967296))).fdiv 4294967296=Qfj n 32:=by
   unfold I64 at hn
   rw[Int.fdiv_eq_ediv_of_nonneg _ (by decide),IntKind.wrap_i64,IntKind.wrap_u64,IntKind.wrap_u64]
   rw[show Qfj n 32=(n+2147483648) % 4294967296 - 2147483648 from rfl];omega
  simp(disch:=(first | omega | (repeat (first | rw[Qa.next_push] | rw[Qa.next_set] | rw[Qa.next_up]));try omega)) only[XQ,QE,QF,QG,sxA,sxB,Nat.reduceBEq,Nat.reduceEqDiff,reduceCtorEq,mxD,mxB,Nat.reduceAdd,reduceIte,Nat.reduceLeDiff,splice,t1,t2,t3,t4,w1,z0,p1,p2,eL,eC,QN]
  obtain⟨lo,hlo⟩:∃lo,Qfi n 32=lo:=⟨_,rfl⟩
  obtain⟨cu,hcu⟩:∃cu,Qfj n 32=cu:=⟨_,rfl⟩
  have hI:JL n 32 sg=if(!(n==lo)&&!(n==cu))=true then(0,5) else if sg=true then(cu,0) else(lo,0):=by
   rw[← hlo,← hcu];rfl
  rw[hI,hlo,hcu]
  clear hI eL eC hlo hcu
  repeat' (first
   | (refine Qv (fun h=>?_) (fun h=>?_)<;>(try simp only[Bool.not_eq_true',Bool.not_eq_false']at h)<;>simp(disch:=(first | omega | (repeat (first | rw[Qa.next_push] | rw[Qa.next_set] | rw[Qa.next_up]));try omega)) only[QE,QF,QG,sxA,sxB,Nat.reduceBEq,Nat.reduceEqDiff,reduceCtorEq,mxD,mxB,Nat.reduceAdd,reduceIte,Nat.reduceLeDiff,splice,QN,h])
   | (refine Qg (fun h=>?_) (fun h=>?_)<;>(try simp only[Bool.not_eq_true',Bool.not_eq_false']at h)<;>simp(disch:=(first | omega | (repeat (first | rw[Qa.next_push] | rw[Qa.next_set] | rw[Qa.next_up]));try omega)) only[QE,QF,QG,sxA,sxB,Nat.reduceBEq,Nat.reduceEqDiff,reduceCtorEq,mxD,mxB,Nat.reduceAdd,reduceIte,Nat.reduceLeDiff,splice,QN,h])
   | fail)
  all_goals refine .mk (Nat.le_refl _) ⟨?_,rfl⟩
  all_goals simp_all
 ·have t1:((64:Int)==8)=false:=rfl
  have t2:((64:Int)==16)=false:=rfl
  have t3:((64:Int)==32)=false:=rfl
  have t4:((64:Int)==64)=true:=rfl
  have w1:IntKind.i64.wrap (64 - 64)=0:=by decide
  have p1:(2:Int) ^ min (Int.toNat 0) IntKind.u64.bits=1:=by decide
  have p2:(2:Int) ^ min (Int.toNat 0) IntKind.i64.bits=1:=by decide
  have z0:((0:Int)≤0)=True:=eq_true (by decide)
  have eL:IntKind.i64.wrap ((IntKind.u64.wrap (IntKind.u64.wrap n * 1)).fdiv 1)=Qfi n 64:=by
   unfold I64 at hn
   rw[Int.fdiv_eq_ediv_of_nonneg _ (by decide),IntKind.wrap_i64,IntKind.wrap_u64,IntKind.wrap_u64]
   rw[show Qfi n 64=n from rfl];omega
  have eC:(IntKind.i64.wrap (IntKind.u64.wrap (IntKind.u64.wrap n * 1))).fdiv 1=Qfj n 64:=by
   unfold I64 at hn
   rw[Int.fdiv_eq_ediv_of_nonneg _ (by decide),IntKind.wrap_i64,IntKind.wrap_u64,IntKind.wrap_u64]
   rw[show Qfj n 64=n from rfl];omega
  simp(disch:=(first | omega | (repeat (first | rw[Qa.next_push] | rw[Qa.next_set] | rw[Qa.next_up]));try omega)) only[XQ,QE,QF,QG,sxA,sxB,Nat.reduceBEq,Nat.reduceEqDiff,reduceCtorEq,mxD,mxB,Nat.reduceAdd,reduceIte,Nat.reduceLeDiff,splice,t1,t2,t3,t4,w1,z0,p1,p2,eL,eC,QN]
  obtain⟨lo,hlo⟩:∃lo,Qfi n 64=lo:=⟨_,rfl⟩
  obtain⟨cu,hcu⟩:∃cu,Qfj n 64=cu:=⟨_,rfl⟩
  have hI:JL n 64 sg=if(!(n==lo)&&!(n==cu))=true then(0,5) else if sg=true then(cu,0) else(lo,0):=by
   rw[← hlo,← hcu];rfl
  rw[hI,hlo,hcu]
  clear hI eL eC hlo hcu
  repeat' (first
   | (refine Qv (fun h=>?_) (fun h=>?_)<;>(try simp only[Bool.not_eq_true',Bool.not_eq_false']at h)<;>simp(disch:=(first | omega | (repeat (first | rw[Qa.next_push] | rw[Qa.next_set] | rw[Qa.next_up]));try omega)) only[QE,QF,QG,sxA,sxB,Nat.reduceBEq,Nat.reduceEqDiff,reduceCtorEq,mxD,mxB,Nat.reduceAdd,reduceIte,Nat.reduceLeDiff,splice,QN,h])
   | (refine Qg (fun h=>?_) (fun h=>?_)<;>(try simp only[Bool.not_eq_true',Bool.not_eq_false']at h)<;>simp(disch:=(first | omega | (repeat (first | rw[Qa.next_push] | rw[Qa.next_set] | rw[Qa.next_up]));try omega)) only[QE,QF,QG,sxA,sxB,Nat.reduceBEq,Nat.reduceEqDiff,reduceCtorEq,mxD,mxB,Nat.reduceAdd,reduceIte,Nat.reduceLeDiff,splice,QN,h])
   | fail)
  all_goals refine .mk (Nat.le_refl _) ⟨?_,rfl⟩
  all_goals simp_all
theorem KQ (n bits:Int) (sg:Bool) (hn:I64 n) (H:Qa):Qe prog XG [.int .i64 n,.int .i64 bits,.bool sg] H fun u H'=>u=.tuple #[.int .i64 (JL n bits sg).1,.int .i64 (JL n bits sg).2]∧H'=H:=by
 by_cases hb:bits=8∨bits=16∨bits=32∨bits=64
 ·exact Qi9 n bits sg hn hb H
 ·have t1:(bits==8)=false:=by simp;omega
  have t2:(bits==16)=false:=by simp;omega
  have t3:(bits==32)=false:=by simp;omega
  have t4:(bits==64)=false:=by simp;omega
  refine Qei fun hw=>?_
  simp(disch:=(first | omega | (repeat (first | rw[Qa.next_push] | rw[Qa.next_set] | rw[Qa.next_up]));try omega)) only[XQ,QE,QF,QG,sxA,sxB,Nat.reduceBEq,Nat.reduceEqDiff,reduceCtorEq,mxD,mxB,Nat.reduceAdd,reduceIte,Nat.reduceLeDiff,splice,t1,t2,t3,t4,QN]
  refine .mk (Nat.le_refl _) ⟨?_,rfl⟩
  simp[JL,t1,t2,t3,t4]
def Qks:List Ar→Int
 | []=>0
 | a::l=>if(W5 a==0)=true then Qks l else W5 a
def Zk (k:Int):List Ar→Int
 | []=>0
 | a::l=>(if(a.k==k)=true then 1 else 0)+Zk k l
def Qgw (n:Int):List Ar→Int
 | []=>n
 | a::l=>Qgw (if(a.k==3)=true then a.n else n) l
def QX (op:Int) (l:List Ar):Int:=
 if Gw op=false then 6 else if l.length>4 then 3 else if(Qks l==0)=false then Qks l
 else if(decide (1<Zk 2 l)||decide (1<Zk 4 l)||decide (1<Zk 3 l))=true then 2
 else if(Zk 3 l==0)=true then 0
 else if((W0 op l).1==0)=true then 2 else(JL (Qgw 0 l) (W0 op l).1 (W0 op l).2).2
theorem Qe7 (k:Int):∀ (l:List Ar) (a:Ar),Zk k (l++[a])=Zk k l+(if(a.k==k)=true then 1 else 0)
 | [],a=>by simp[Zk]
 | b::l,a=>by simp only[List.cons_append,Zk,Qe7 k l a];omega
theorem QnT:∀ (l:List Ar) (n:Int) (a:Ar),Qgw n (l++[a])=if(a.k==3)=true then a.n else Qgw n l
 | [],n,a=>by simp[Qgw]
 | b::l,n,a=>by simp only[List.cons_append,Qgw,QnT l _ a]
theorem QkW (k:Int):∀l:List Ar,0≤Zk k l∧Zk k l≤l.length
 | []=>by simp[Zk]
 | a::l=>by
  have:=QkW k l
  simp only[Zk,List.length_cons]
  split<;>omega
theorem QlS (n:Int):∀l:List Ar,Qgw n l=n∨∃a∈l,Qgw n l=a.n
 | []=>.inl rfl
 | a::l=>by
  unfold Qgw
  split
  ·rcases QlS a.n l with h | ⟨b,hb,h⟩
   ·exact .inr ⟨a,by simp,h⟩
   ·exact .inr ⟨b,by simp[hb],h⟩
  ·rcases QlS n l with h | ⟨b,hb,h⟩
   ·exact .inl h
   ·exact .inr ⟨b,by simp[hb],h⟩
theorem QnU:∀ (l:List Ar) (i:Nat) (a:Ar),l[i]? = some a→Qks (l.drop i)=if(W5 a==0)=true then Qks (l.drop (i+1)) else W5 a
 | [],i,a,h=>by simp at h
 | b::l,0,a,h=>by simp at h;subst h;rfl
 | b::l,i+1,a,h=>by simpa using QnU l i a (by simpa using h)
theorem QuH {α:Type} (l:List α) (i:Nat) (a:α) (h:l[i]? = some a):l.take (i+1)=l.take i++[a]:=by
 rw[List.take_add_one,h];rfl
def icF (H:Qa) (op:Int) (v:Value) (A:Env) (H':Qa):Prop:=Ext H H'∧A 1=.pointer (some ⟨H.next,0,none⟩)∧H'.get H.next=some (.cells [.int .i64 op,v] Qb false)∧H.next<H'.next
theorem Vb (op:Int) (v:Value) (l:List Ar) (H:Qa) (hv:QS H v l) (hl:l.length≤1000) (hI:∀a∈l,I64 a.n):Qe prog Y8 [.agg #[.int .i64 op,v]] H fun u H'=>u=.int .i64 (QX op l)∧∃k,H'=H.up k:=by
 refine QmS fun hw=>?_
 have P4:∀A H',icF H op v A H'→Gw op=true→l.length≤4→Qks l=0→A 6=.int .i64 (Zk 2 l)→A 7=.int .i64 (Zk 4 l)→A 8=.int .i64 (Zk 3 l)→A 9=.int .i64 (Qgw 0 l)→
   Qp prog Gr ⟨Rt prog Za H fun u H'=>u=.int .i64 (QX op l)∧∃k,H'=H.up k,YH⟩ (Rt prog Za H fun u H'=>u=.int .i64 (QX op l)∧∃k,H'=H.up k) A H':=by
  rintro A H' ⟨hx,r1,g0,hb0⟩ c1 c2 c3 r6 r7 r8 r9
  have qb:=fun H' (hx:Ext H H')=>Qas op v l H' (hv.ext hw hx) hl
  have hn:I64 (Qgw 0 l):=by
   rcases QlS 0 l with h | ⟨a,ha,h⟩
   ·rw[h];unfold I64;omega
   ·rw[h];exact hI a ha
  have hc:QX op l=if(decide (1<Zk 2 l)||decide (1<Zk 4 l)||decide (1<Zk 3 l))=true then 2 else if(Zk 3 l==0)=true then 0 else if((W0 op l).1==0)=true then 2 else(JL (Qgw 0 l) (W0 op l).1 (W0 op l).2).2:=by
   unfold QX
   rw[if_neg (by simp[c1]),if_neg (by omega),if_neg (by simp[c3])]
  rw[hc]
  clear hc
  generalize Zk 2 l=n2 at *
  generalize Zk 4 l=n4 at *
  generalize Zk 3 l=n3 at *
  generalize Qgw 0 l=nn at *
  generalize W0 op l=ib at *
  obtain⟨ib1,ib2⟩:=ib
  have qi:=KQ nn ib1 ib2 hn
  generalize JL nn ib1 ib2=im at *
  obtain⟨im1,im2⟩:=im
  obtain⟨a0,cap,rfl,h1⟩:=hv
  simp(disch:=(first | omega | (repeat (first | rw[Qa.next_push] | rw[Qa.next_set] | rw[Qa.next_up]));try omega)) only[Gr,Xq,Xp,Xo,QBF,simprocAttr,QR,r1,g0,r6,r7,r8,r9]
  repeat' (first
   | (refine Qv (fun h=>?_) (fun h=>?_)<;>(try simp only[Bool.not_eq_true',Bool.not_eq_false']at h)<;>simp(disch:=(first | omega | (repeat (first | rw[Qa.next_push] | rw[Qa.next_set] | rw[Qa.next_up]));try omega)) only[Xq,Xp,Xo,QBF,simprocAttr,QR,r1,g0,r6,r7,r8,r9,h])
   | (refine Qg (fun h=>?_) (fun h=>?_)<;>(try simp only[Bool.not_eq_true',Bool.not_eq_false']at h)<;>simp(disch:=(first | omega | (repeat (first | rw[Qa.next_push] | rw[Qa.next_set] | rw[Qa.next_up]));try omega)) only[Xq,Xp,Xo,QBF,simprocAttr,QR,r1,g0,r6,r7,r8,r9,h])
   | (refine(qb _ hx).thenW ?_;rintro _ _ hn hw2 ⟨rfl,k,rfl⟩;have hx:=hx.up (show _≤k from hn);simp(disch:=(first | omega | (repeat (first | rw[Qa.next_push] | rw[Qa.next_set] | rw[Qa.next_up]));try omega)) only[Xq,Xp,Xo,QBF,simprocAttr,QR,r1,g0,r6,r7,r8,r9])
   | (refine(qi _).thenW ?_;rintro _ _ hn hw2 ⟨rfl,rfl⟩;simp(disch:=(first | omega | (repeat (first | rw[Qa.next_push] | rw[Qa.next_set] | rw[Qa.next_up]));try omega)) only[Xq,Xp,Xo,QBF,simprocAttr,QR,r1,g0,r6,r7,r8,r9])
   | fail)
  all_goals refine .ext hw hx ⟨?_,_,rfl⟩
  all_goals simp_all
 have hS:∃a0 cap,v=.slice a0 l.length cap:=QY hv
 obtain⟨a0,cap,hvs⟩:=hS
 have hAt:∀ (i:Nat) (a:Ar) (H':Qa),Ext H H'→l[i]? = some a→∃b e ro,a0=some ⟨b,0,none⟩∧H'.get b=some (.cells (Qi l) e ro)∧b<H.next∧List.take 11 (List.drop (i * 11) (Qi l))=a.cells∧i * 11+11≤(Qi l).length:=by
  intro i a H' hx hi
  have hil:i<l.length:=(List.getElem?_eq_some_iff.1 hi).1
  obtain⟨a1,cap1,e1,h1⟩:=hv
  rw[hvs]at e1
  cases e1
  obtain⟨b,e,ro,rfl,hb⟩:=h1 (by omega)
  exact⟨b,e,ro,rfl,by rw[hx.get b (hw.lt hb)];exact hb,hw.lt hb,XS l i a hi,by rw[QV];omega⟩
 have P9:∀A H',icF H op v A H'→Gw op=true→l.length≤4→Qks l=0→Qp prog Gs ⟨Rt prog Za H fun u H'=>u=.int .i64 (QX op l)∧∃k,H'=H.up k,YH⟩ (Rt prog Za H fun u H'=>u=.int .i64 (QX op l)∧∃k,H'=H.up k) A H':=by
  rintro A H' ⟨hx,r1,g0,hb0⟩ c1 c2 c3
  simp(disch:=(first | omega | (repeat (first | rw[Qa.next_push] | rw[Qa.next_set] | rw[Qa.next_up]));try omega)) only[Gs,QBF,simprocAttr,r1,g0,hvs]
  refine Qy (fun m A' H'=>∃i:Nat,i≤l.length∧m=l.length - i∧icF H op v A' H'∧A' 6=.int .i64 (Zk 2 (l.take i))∧A' 7=.int .i64 (Zk 4 (l.take i))∧A' 8=.int .i64 (Zk 3 (l.take i))∧A' 9=.int .i64 (Qgw 0 (l.take i))∧A' 38=.slice a0 l.length cap∧A' 39=.int .i64 l.length∧A' 40=.int .i64 i) l.length ?_ ?_
  ·refine⟨0,Nat.zero_le _,by omega,⟨hx,?_,?_,hb0⟩,?_,?_,?_,?_,?_,?_,?_⟩
   all_goals (try simp only[QBE,simprocAttr,r1,g0,hvs])
   all_goals (first | rfl | simp[Zk,Qgw])
  ·rintro m A' H' ⟨i,hi,rfl,⟨hx,r1,g0,hb0⟩,r6,r7,r8,r9,r38,r39,r40⟩
   simp(disch:=(first | omega | (repeat (first | rw[Qa.next_push] | rw[Qa.next_set] | rw[Qa.next_up]));try omega)) only[Qde,QBF,simprocAttr,r1,g0,r38,r39,r40]
   refine Qg (fun h2=>?_) (fun h2=>?_)
   ·have h2:i<l.length:=by have:=of_decide_eq_true h2;omega
    obtain⟨a,ha⟩:∃a,l[i]? = some a:=⟨_,List.getElem?_eq_getElem h2⟩
    obtain⟨b,e,ro,rfl,hgb,hbn,htk,hle⟩:=hAt i a H' hx ha
    have hxn:=hx.next
    have d1:(0:Int)≤i∧(i:Int)<l.length:=by omega
    have d3:(i:Int).toNat=i:=by omega
    have ei:IntKind.i64.wrap ((i:Int)+1)=((i+1:Nat):Int):=by rw[w64 (by unfold I64;omega)];omega
    have b2:=QkW 2 (l.take i)
    have b3:=QkW 3 (l.take i)
    have b4:=QkW 4 (l.take i)
    have hlt:(l.take i).length≤1000:=by rw[List.length_take];omega
    have e2:IntKind.i64.wrap (Zk 2 (l.take i)+1)=Zk 2 (l.take i)+1:=w64 (by unfold I64;omega)
    have e3:IntKind.i64.wrap (Zk 3 (l.take i)+1)=Zk 3 (l.take i)+1:=w64 (by unfold I64;omega)
    have e4:IntKind.i64.wrap (Zk 4 (l.take i)+1)=Zk 4 (l.take i)+1:=w64 (by unfold I64;omega)
    have s2:=Qe7 2 (l.take i) a
    have s3:=Qe7 3 (l.take i) a
    have s4:=Qe7 4 (l.take i) a
    have sn:=QnT (l.take i) 0 a
    rw[← QuH l i a ha]at s2 s3 s4 sn
    obtain⟨k,r,mm,n⟩:=a
    simp only[Ar.cells]at htk
    simp(disch:=(first | omega | (repeat (first | rw[Qa.next_push] | rw[Qa.next_set] | rw[Qa.next_up]));try omega)) only[Qdd,Qdc,Qdb,QBF,simprocAttr,r1,g0,r6,r7,r8,r9,r38,r39,r40,d1,d3,hgb,htk,hle,ei,e2,e3,e4]
    repeat' (first
     | (refine Qg (fun h=>?_) (fun h=>?_)<;>simp(disch:=(first | omega | (repeat (first | rw[Qa.next_push] | rw[Qa.next_set] | rw[Qa.next_up]));try omega)) only[QBF,simprocAttr,r6,r7,r8,r9,r38,r39,r40,ei,e2,e3,e4])
     | fail)
    all_goals refine⟨l.length - (i+1),by omega,i+1,by omega,rfl,⟨(hx.push _).set (by omega) _,?_,?_,?_⟩,?_,?_,?_,?_,?_,?_,?_⟩
    all_goals (first
     | (simp only[QBE,simprocAttr,r1,r38,r39];done)
     | (simp(disch:=(first | omega | (repeat (first | rw[Qa.next_push] | rw[Qa.next_set] | rw[Qa.next_up]));try omega)) only[QBI,simprocAttr,g0];done)
     | (simp only[Qa.next_set,Qa.next_push];omega)
     | (simp only[QBE,simprocAttr,s2,s3,s4,sn,r6,r7,r8,r9];simp_all;done)
     | (simp only[QBE,simprocAttr,s2,s3,s4,sn,r6,r7,r8,r9];simp_all<;>omega))
   ·have h2:i=l.length:=by have:=of_decide_eq_false h2;omega
    subst h2
    rw[List.take_length]at r6 r7 r8 r9
    simp(disch:=(first | omega | (repeat (first | rw[Qa.next_push] | rw[Qa.next_set] | rw[Qa.next_up]));try omega)) only[QBF,simprocAttr]
    refine P4 _ _ ⟨hx,?_,g0,hb0⟩ c1 c2 c3 ?_ ?_ ?_ ?_
    all_goals simp only[QBE,simprocAttr,r1,r6,r7,r8,r9]
 have P12:∀A H',icF H op v A H'→A 2=.int .i64 0→Gw op=true→l.length≤4→Qp prog Kt ⟨Rt prog Za H fun u H'=>u=.int .i64 (QX op l)∧∃k,H'=H.up k,YH⟩ (Rt prog Za H fun u H'=>u=.int .i64 (QX op l)∧∃k,H'=H.up k) A H':=by
  rintro A H' ⟨hx,r1,g0,hb0⟩ r2 c1 c2
  simp(disch:=(first | omega | (repeat (first | rw[Qa.next_push] | rw[Qa.next_set] | rw[Qa.next_up]));try omega)) only[Kt,QBF,simprocAttr,r1,g0,hvs]
  refine Qy (fun m A' H'=>∃i:Nat,i≤l.length∧m=l.length - i∧icF H op v A' H'∧Qks l=Qks (l.drop i)∧A' 25=.slice a0 l.length cap∧A' 26=.int .i64 l.length∧A' 27=.int .i64 i) l.length ?_ ?_
  ·refine⟨0,Nat.zero_le _,by omega,⟨hx,?_,?_,hb0⟩,?_,?_,?_,?_⟩
   all_goals (try simp only[QBE,simprocAttr,r1,g0,hvs])
   all_goals (first | rfl | simp)
  ·rintro m A' H' ⟨i,hi,rfl,⟨hx,r1,g0,hb0⟩,he,r25,r26,r27⟩
   simp(disch:=(first | omega | (repeat (first | rw[Qa.next_push] | rw[Qa.next_set] | rw[Qa.next_up]));try omega)) only[QbH,QBF,simprocAttr,r1,g0,r25,r26,r27]
   refine Qg (fun h2=>?_) (fun h2=>?_)
   ·have h2:i<l.length:=by have:=of_decide_eq_true h2;omega
    obtain⟨a,ha⟩:∃a,l[i]? = some a:=⟨_,List.getElem?_eq_getElem h2⟩
    obtain⟨b,e,ro,rfl,hgb,hbn,htk,hle⟩:=hAt i a H' hx ha
    have hxn:=hx.next
    have d1:(0:Int)≤i∧(i:Int)<l.length:=by omega
    have d3:(i:Int).toNat=i:=by omega
    have ei:IntKind.i64.wrap ((i:Int)+1)=((i+1:Nat):Int):=by rw[w64 (by unfold I64;omega)];omega
    have q1:=ZL a
    have he2:=QnU l i a ha
    obtain⟨k,r,mm,n⟩:=a
    simp only[Ar.cells]at htk q1
    simp(disch:=(first | omega | (repeat (first | rw[Qa.next_push] | rw[Qa.next_set] | rw[Qa.next_up]));try omega)) only[QbG,QBF,simprocAttr,r1,g0,r25,r26,r27,d1,d3,hgb,htk,hle,ei]
    refine(q1 _).thenW ?_
    rintro _ _ hn hw2 ⟨rfl,kk,rfl⟩
    have hn2:H'.next+1≤kk:=hn
    simp(disch:=(first | omega | (repeat (first | rw[Qa.next_push] | rw[Qa.next_set] | rw[Qa.next_up]));try omega)) only[QBF,simprocAttr,r1,g0,r2,r25,r26,r27,ei,QR]
    refine Qg (fun h=>?_) (fun h=>?_)
    ·simp(disch:=(first | omega | (repeat (first | rw[Qa.next_push] | rw[Qa.next_set] | rw[Qa.next_up]));try omega)) only[QBF,simprocAttr,r1,g0,r2,r25,r26,r27,ei,QR]
     refine .ext hw (((hx.push _).set (by omega) _).up (show _≤kk from hn)) ⟨?_,_,rfl⟩
     unfold QX
     simp only[bne,Bool.not_eq_true']at h
     rw[if_neg (by simp[c1]),if_neg (by omega),he,he2,h]
     simp[h]
    ·simp(disch:=(first | omega | (repeat (first | rw[Qa.next_push] | rw[Qa.next_set] | rw[Qa.next_up]));try omega)) only[QBF,simprocAttr,r1,g0,r2,r25,r26,r27,ei,QR]
     refine⟨l.length - (i+1),by omega,i+1,by omega,rfl,⟨((hx.push _).set (by omega) _).up (show _≤kk from hn),?_,?_,?_⟩,?_,?_,?_,?_⟩
     ·simp only[QBE,simprocAttr,r1]
     ·simp(disch:=(first | omega | (repeat (first | rw[Qa.next_push] | rw[Qa.next_set] | rw[Qa.next_up]));try omega)) only[QBI,simprocAttr,g0]
     ·show H.next<kk
      omega
     ·simp only[bne,Bool.not_eq_false']at h
      rw[he,he2,h];rfl
     all_goals simp only[QBE,simprocAttr,r25,r26]
   ·have h2:i=l.length:=by have:=of_decide_eq_false h2;omega
    subst h2
    simp(disch:=(first | omega | (repeat (first | rw[Qa.next_push] | rw[Qa.next_set] | rw[Qa.next_up]));try omega)) only[QBF,simprocAttr]
    refine P9 _ _ ⟨hx,?_,g0,hb0⟩ c1 c2 ?_
    ·simp only[QBE,simprocAttr,r1]
    ·rw[he,List.drop_length];rfl
 have qv:=QcY op
 have hz:QX op l=if Gw op=false then 6 else if l.length>4 then 3 else QX op l:=by
  split
  ·rename_i h;unfold QX;rw[if_pos h]
  ·rename_i h
   split
   ·rename_i h2;unfold QX;rw[if_neg h,if_pos h2]
   ·rfl
 have hx0:=(Ext.refl H).push (.cells [.int .i64 op,v] Qb false)
 have hx1:=(Ext.refl H).push (.cells [.int .i64 op,.slice a0 l.length cap] Qb false)
 simp(disch:=(first | omega | (repeat (first | rw[Qa.next_push] | rw[Qa.next_set] | rw[Qa.next_up]));try omega)) only[QfG,QBF,simprocAttr,QR]
 refine(qv _).thenW ?_
 rintro _ _ hn hw2 ⟨rfl,rfl⟩
 simp(disch:=(first | omega | (repeat (first | rw[Qa.next_push] | rw[Qa.next_set] | rw[Qa.next_up]));try omega)) only[QBF,simprocAttr,QR]
 refine Qg (fun h1=>?_) (fun h1=>?_)
 ·simp only[Bool.not_eq_true']at h1
  simp(disch:=(first | omega | (repeat (first | rw[Qa.next_push] | rw[Qa.next_set] | rw[Qa.next_up]));try omega)) only[QBF,simprocAttr,QR]
  refine .ext hw hx0 ⟨?_,_,rfl⟩
  rw[hz,if_pos h1]
 ·simp only[Bool.not_eq_false']at h1
  simp(disch:=(first | omega | (repeat (first | rw[Qa.next_push] | rw[Qa.next_set] | rw[Qa.next_up]));try omega)) only[QbI,QBF,simprocAttr,hvs,QR]
  refine Qg (fun h2=>?_) (fun h2=>?_)
  ·have h2:4<l.length:=by have:=of_decide_eq_true h2;omega
   simp(disch:=(first | omega | (repeat (first | rw[Qa.next_push] | rw[Qa.next_set] | rw[Qa.next_up]));try omega)) only[QBF,simprocAttr,QR]
   refine .ext hw hx1 ⟨?_,_,rfl⟩
   rw[hz,if_neg (by simp[h1]),if_pos h2]
  ·have h2:l.length≤4:=by have:=of_decide_eq_false h2;omega
   simp(disch:=(first | omega | (repeat (first | rw[Qa.next_push] | rw[Qa.next_set] | rw[Qa.next_up]));try omega)) only[QBF,simprocAttr]
   refine P12 _ _ ⟨hx1,?_,?_,?_⟩ ?_ h1 h2
   ·simp only[QBE,simprocAttr]
   ·simp(disch:=(first | omega | (repeat (first | rw[Qa.next_push] | rw[Qa.next_set] | rw[Qa.next_up]));try omega)) only[QBI,simprocAttr,hvs]
   ·simp only[Qa.next_push];omega
   ·simp only[QBE,simprocAttr]
def Qja (f s:Int):List Ar→Bool
 | [x,y]=>(x.k==f)&&(y.k==s)
 | _=>false
def Vz:List Ar→Bool
 | [x,y]=>((x.k==1)&&(y.k==1))&&(x.r.c==y.r.c)
 | _=>false
theorem Qe8 (x y:Ar):Qi [x,y]=x.cells++y.cells:=by simp[Qi]
theorem Kv (d:Nat) (op:Int) (v:Value) (l:List Ar) (f s:Int) (H:Qa) (ro:Bool) (hd:H.get d=some (.cells [.int .i64 op,v] Qz ro)) (hv:QS H v l) (hl:l.length≤1000):
  Qe prog XO [.pointer (some ⟨d,0,none⟩),.int .i64 f,.int .i64 s] H fun u H'=>u=.bool (Qja f s l)∧H'=H:=by
 refine QhG fun hw=>?_
 have hdn:=hw.lt hd
 have hb:∀x y,l=[x,y]→∃b e ro cap,v=.slice (some ⟨b,0,none⟩) 2 cap∧H.get b=some (.cells (x.cells++y.cells) e ro):=by
  rintro x y rfl
  obtain⟨a0,cap,rfl,h1⟩:=hv
  obtain⟨b,e,ro,rfl,hb⟩:=h1 (by simp)
  exact⟨b,e,ro,cap,rfl,by rw[← Qe8];exact hb⟩
 by_cases h:∃x y,l=[x,y]
 ·obtain⟨x,y,rfl⟩:=h
  obtain⟨b,e,ro2,cap,rfl,hg⟩:=hb x y rfl
  obtain⟨k,r,m,n⟩:=x
  obtain⟨k',r',m',n'⟩:=y
  simp only[Ar.cells,List.cons_append,List.nil_append]at hg
  have d0:((0:Int)≤0∧(0:Int)<((2:Nat):Int)):=by omega
  have d1:((0:Int)≤1∧(1:Int)<((2:Nat):Int)):=by omega
  have t0:(0:Int).toNat=0:=rfl
  have t1:(1:Int).toNat=1:=rfl
  have e2:(((2:Nat):Int)==2)=true:=rfl
  simp(disch:=(first | omega | (repeat (first | rw[Qa.next_push] | rw[Qa.next_set] | rw[Qa.next_up]));try omega)) only[Jr,sxA,sxB,Nat.reduceBEq,Nat.reduceEqDiff,reduceCtorEq,mxD,mxB,Nat.reduceAdd,reduceIte,Nat.reduceLeDiff,splice,hd,hg,d0,d1,t0,t1,e2,ZS]
  repeat' (first
   | (refine Qv (fun h=>?_) (fun h=>?_)<;>simp(disch:=(first | omega | (repeat (first | rw[Qa.next_push] | rw[Qa.next_set] | rw[Qa.next_up]));try omega)) only[sxA,sxB,Nat.reduceBEq,Nat.reduceEqDiff,reduceCtorEq,mxD,mxB,Nat.reduceAdd,reduceIte,Nat.reduceLeDiff,splice,hd,hg,d0,d1,t0,t1,e2,ZS,h])
   | fail)
  all_goals refine .mk (Nat.le_refl _) ⟨?_,rfl⟩
  all_goals simp_all [Qja]
 ·have h2:Qja f s l=false:=by
   match l,h with
   | [],_=>rfl
   | [_],_=>rfl
   | [x,y],h=>exact absurd ⟨x,y,rfl⟩ h
   | _::_::_::_,_=>rfl
  have h3:((l.length:Int)==2)=false:=by
   have:l.length≠2:=fun h4=>h (by
    match l,h4 with
    | [x,y],_=>exact⟨x,y,rfl⟩)
   simp only[beq_eq_false_iff_ne,ne_eq];omega
  obtain⟨a0,cap,rfl,h1⟩:=hv
  rw[h2]
  simp(disch:=(first | omega | (repeat (first | rw[Qa.next_push] | rw[Qa.next_set] | rw[Qa.next_up]));try omega)) only[Jr,sxA,sxB,Nat.reduceBEq,Nat.reduceEqDiff,reduceCtorEq,mxD,mxB,Nat.reduceAdd,reduceIte,Nat.reduceLeDiff,splice,hd,h3,ZS]
  refine .mk (Nat.le_refl _) ⟨rfl,rfl⟩
theorem VA (d:Nat) (op:Int) (v:Value) (l:List Ar) (H:Qa) (ro:Bool) (hd:H.get d=some (.cells [.int .i64 op,v] Qz ro)) (hv:QS H v l) (hl:l.length≤1000):
  Qe prog X8 [.pointer (some ⟨d,0,none⟩)] H fun u H'=>u=.bool (Vz l)∧H'=H:=by
 refine Qfg fun hw=>?_
 have hdn:=hw.lt hd
 have q:=Kv d op v l 1 1 H ro hd hv hl
 by_cases h:∃x y,l=[x,y]
 ·obtain⟨x,y,rfl⟩:=h
  obtain⟨a0,cap,rfl,h1⟩:=hv
  obtain⟨b,e,ro2,rfl,hg⟩:=h1 (by simp)
  rw[Qe8]at hg
  obtain⟨k,r,m,n⟩:=x
  obtain⟨k',r',m',n'⟩:=y
  simp only[Ar.cells,List.cons_append,List.nil_append,List.length_cons,List.length_nil]at hg hd q ⊢
  have d0:((0:Int)≤0∧(0:Int)<((0+1+1:Nat):Int)):=by omega
  have d1:((0:Int)≤1∧(1:Int)<((0+1+1:Nat):Int)):=by omega
  have t0:(0:Int).toNat=0:=rfl
  have t1:(1:Int).toNat=1:=rfl
  simp(disch:=(first | omega | (repeat (first | rw[Qa.next_push] | rw[Qa.next_set] | rw[Qa.next_up]));try omega)) only[Zj,sxA,sxB,Nat.reduceBEq,Nat.reduceEqDiff,reduceCtorEq,mxD,mxB,Nat.reduceAdd,reduceIte,Nat.reduceLeDiff,splice,Wl]
  refine q.thenW ?_
  rintro _ _ hn hw2 ⟨rfl,rfl⟩
  simp(disch:=(first | omega | (repeat (first | rw[Qa.next_push] | rw[Qa.next_set] | rw[Qa.next_up]));try omega)) only[sxA,sxB,Nat.reduceBEq,Nat.reduceEqDiff,reduceCtorEq,mxD,mxB,Nat.reduceAdd,reduceIte,Nat.reduceLeDiff,splice,Wl]
  refine Qv (fun h=>?_) (fun h=>?_)
  ·simp(disch:=(first | omega | (repeat (first | rw[Qa.next_push] | rw[Qa.next_set] | rw[Qa.next_up]));try omega)) only[sxA,sxB,Nat.reduceBEq,Nat.reduceEqDiff,reduceCtorEq,mxD,mxB,Nat.reduceAdd,reduceIte,Nat.reduceLeDiff,splice,hd,hg,d0,d1,t0,t1,Wl,h]
   refine .mk (Nat.le_refl _) ⟨?_,rfl⟩
   simp_all [Qja,Vz]
  ·simp(disch:=(first | omega | (repeat (first | rw[Qa.next_push] | rw[Qa.next_set] | rw[Qa.next_up]));try omega)) only[sxA,sxB,Nat.reduceBEq,Nat.reduceEqDiff,reduceCtorEq,mxD,mxB,Nat.reduceAdd,reduceIte,Nat.reduceLeDiff,splice,hd,hg,d0,d1,t0,t1,Wl,h]
   refine .mk (Nat.le_refl _) ⟨?_,rfl⟩
   simp_all [Qja,Vz]
 ·have h2:Qja 1 1 l=false∧Vz l=false:=by
   match l,h with
   | [],_=>exact⟨rfl,rfl⟩
   | [_],_=>exact⟨rfl,rfl⟩
   | [x,y],h=>exact absurd ⟨x,y,rfl⟩ h
   | _::_::_::_,_=>exact⟨rfl,rfl⟩
  rw[h2.1]at q
  rw[h2.2]
  simp(disch:=(first | omega | (repeat (first | rw[Qa.next_push] | rw[Qa.next_set] | rw[Qa.next_up]));try omega)) only[Zj,sxA,sxB,Nat.reduceBEq,Nat.reduceEqDiff,reduceCtorEq,mxD,mxB,Nat.reduceAdd,reduceIte,Nat.reduceLeDiff,splice,Wl]
  refine q.thenW ?_
  rintro _ _ hn hw2 ⟨rfl,rfl⟩
  simp(disch:=(first | omega | (repeat (first | rw[Qa.next_push] | rw[Qa.next_set] | rw[Qa.next_up]));try omega)) only[sxA,sxB,Nat.reduceBEq,Nat.reduceEqDiff,reduceCtorEq,mxD,mxB,Nat.reduceAdd,reduceIte,Nat.reduceLeDiff,splice,Wl]
  refine .mk (Nat.le_refl _) ⟨rfl,rfl⟩
theorem Ju (d b cap:Nat) (op:Int) (x y:Ar) (H:Qa) (ro:Bool) (e:TypeId) (hd:H.get d=some (.cells [.int .i64 op,.slice (some ⟨b,0,none⟩) 2 cap] Qz ro)) (hb:H.get b=some (.cells (Qi [x,y]) e false)):
  Qe prog Xv [.pointer (some ⟨d,0,none⟩)] H fun u H'=>u=.tuple #[]∧H'=(H.set b (.cells (Qi [y,y]) e false)).set b (.cells (Qi [y,x]) e false):=by
 refine Qgu fun hw=>?_
 have hdn:=hw.lt hd
 have hbn:=hw.lt hb
 have d0:((0:Int)≤0∧(0:Int)<((2:Nat):Int)):=by omega
 have d1:((0:Int)≤1∧(1:Int)<((2:Nat):Int)):=by omega
 have t0:(0:Int).toNat=0:=rfl
 have t1:(1:Int).toNat=1:=rfl
 rw[Qe8]at hb
 obtain⟨k,r,m,n⟩:=x
 obtain⟨k',r',m',n'⟩:=y
 simp only[Qe8,Ar.cells,List.cons_append,List.nil_append]at hb ⊢
 simp(disch:=(first | omega | (repeat (first | rw[Qa.next_push] | rw[Qa.next_set] | rw[Qa.next_up]));try omega)) only[Vv,sxA,sxB,Nat.reduceBEq,Nat.reduceEqDiff,reduceCtorEq,mxD,mxB,Nat.reduceAdd,reduceIte,Nat.reduceLeDiff,splice,hd,hb,d0,d1,t0,t1,Qfh]
 refine .mk (by simp only[Qa.next_set];exact Nat.le_refl _) ⟨rfl,rfl⟩
variable {P:Program} {A:Env} {H:Qa} {k:Value→Qa→Prop}
theorem Qv7 {t t' e:TypeId} {x:Operand} {a:Option Addr} {n c:Nat} (h1:P.underlying t=some (.slice e)) (hx:ev A x=.slice a n c):
  pr P (.gen (.binOp .eql t x (.const (.slice none 0 0)) t')) false A H k=k (.bool a.isNone) H:=by
 have hc:ev A (.const (.slice none 0 0))=.slice none 0 0:=rfl
 have e:rop P (.gen (.binOp .eql t x (.const (.slice none 0 0)) t')) A H=some (.bool a.isNone,H):=by
  cases a<;>simp[rop,aop,Qcy,QpW,Qlb,Xu,hx,hc,h1,aeq,Qgf,K8,Y5,Qhg,QpN]
 rw[Qzm];unfold QAn
 rw[e,Qr]
theorem QlT:∀l:List Ar,(Qi l).all (·.oneCell')=true
 | []=>rfl
 | a::l=>by
  rw[Z6,List.all_append,QlT l]
  rfl
theorem Qtu (v:Value) (l:List Ar) (H:Qa) (hv:QS H v l) (hl:l.length≤1000):Qe prog Q7 [v] H fun u H'=>
  Ext H H'∧((l=[]∧(u=.slice none 0 0∨u=.slice (some ⟨H.next,0,none⟩) 0 0∧H'=H.push (.cells [] Qd false)))∨(l≠[]∧u=.slice (some ⟨H.next+1,0,none⟩) l.length (UNK+11)∧H'=(H.push (.cells [] Qd false)).push (.cells (Qi l) Qd false))):=by
 refine JK fun hw=>?_
 obtain⟨a0,cap,rfl,h1⟩:=hv
 have hx1:=(Ext.refl H).push (.cells [] Qd false)
 simp(disch:=(first | omega | (repeat (first | rw[Qa.next_push] | rw[Qa.next_set] | rw[Qa.next_up]));try omega)) only[XH,QBF,simprocAttr]
 rw[Qv7 (a:=a0) (e:=Qd) (n:=l.length) (c:=cap) (by kernel_rfl) (by simp only[QBG,simprocAttr])]
 cases l with
 | nil=>
  cases a0 with
  | none=>
   simp(disch:=(first | omega | (repeat (first | rw[Qa.next_push] | rw[Qa.next_set] | rw[Qa.next_up]));try omega)) only[QBD,simprocAttr,QBI,simprocAttr,Option.isNone,Wt]
   exact .mk (Nat.le_refl _) ⟨.refl _,.inl (.inl rfl)⟩
  | some x=>
   have hr:∀H1:Qa,Y7 Qd 11 88 (.slice (some ⟨H.next,0,none⟩) 0 0) (.slice (some x) 0 cap) H1=some (.slice (some ⟨H.next,0,none⟩) 0 0,H1):=fun H1=>by simp[Y7,Jh]
   simp(disch:=(first | omega | (repeat (first | rw[Qa.next_push] | rw[Qa.next_set] | rw[Qa.next_up]));try omega)) only[QBD,simprocAttr,QBI,simprocAttr,Option.isNone,List.length_nil]
   unfold Qhv
   rw[hr,Qr]
   simp(disch:=(first | omega | (repeat (first | rw[Qa.next_push] | rw[Qa.next_set] | rw[Qa.next_up]));try omega)) only[QBD,simprocAttr,QBI,simprocAttr,Wt]
   exact .mk hx1.next ⟨hx1,.inl (.inr ⟨rfl,rfl⟩)⟩
 | cons a l=>
  obtain⟨b,e,ro,rfl,hb⟩:=h1 (by simp)
  have hbn:=hw.lt hb
  have hlen:=QV (a::l)
  have hn:Jh 11 (.slice (some ⟨b,0,none⟩) (l.length+1) cap) (H.push (.cells [] Qd false))=some (l.length+1,Qi (a::l)):=by
   rw[Qam (c:=Qi (a::l)) (e:=e) (ro:=ro) (by rw[QjZ (by omega)];exact hb) (by omega) (by rw[hlen,List.length_cons];omega),List.drop_zero,List.take_of_length_le (by rw[hlen,List.length_cons];exact Nat.le_refl _)]
  rw[List.length_cons]at hl
  simp(disch:=(first | omega | (repeat (first | rw[Qa.next_push] | rw[Qa.next_set] | rw[Qa.next_up]));try omega)) only[QBD,simprocAttr,QBI,simprocAttr,Option.isNone]
  refine Qi1 (c:=[]) (ro:=false) (e':=Qd) hn (QlT _) (by omega) (QjY rfl) (by simp) (by omega) (by omega) (by decide) (by omega) ?_
  simp(disch:=(first | omega | (repeat (first | rw[Qa.next_push] | rw[Qa.next_set] | rw[Qa.next_up]));try omega)) only[QBD,simprocAttr,QBI,simprocAttr,Wt]
  refine .mk (hx1.push _).next ⟨hx1.push _,?_⟩
  simp
def Qqp (op:Int) (l:List Ar):Bool:=(op==16)&&Qja 1 3 l
def Qqq (op:Int) (l:List Ar):Bool:=(op==10||op==11)&&Qja 1 2 l
def QoI (op:Int):List Ar→Bool
 | [x,y]=>(op==11)&&Vz [x,y]&&!(decide (x.r.n≤y.r.n))
 | _=>false
theorem Qqr {f s:Int} {l:List Ar} (h:Qja f s l=true):∃x y,l=[x,y]:=by
 match l,h with
 | [x,y],_=>exact⟨x,y,rfl⟩
theorem Qv8 (d:Nat) (op:Int) (v:Value) (l:List Ar) (H:Qa) (hd:H.get d=some (.cells [.int .i64 op,v] Qz false)) (hv:QS H v l) (hl:l.length≤1000) (hw1:∀x y,l=[x,y]→∃b cap,v=.slice (some ⟨b,0,none⟩) 2 cap∧H.get b=some (.cells (Qi l) Qd false)):
    Qe prog Wv [.pointer (some ⟨d,0,none⟩)] H fun u H'=>u=.bool (Qqq op l)∧(Qqq op l=false→H'=H)∧(Qqq op l=true→∃x y b cap,l=[x,y]∧v=.slice (some ⟨b,0,none⟩) 2 cap∧H'=(H.set b (.cells (Qi [y,y]) Qd false)).set b (.cells (Qi [y,x]) Qd false)):=by
  refine Qej fun hw=>?_
  have hdn:=hw.lt hd
  have q:=Kv d op v l 1 2 H false hd hv hl
  have qt:=fun b cap x y e=>Ju d b cap op x y H false e
  have hc:Qqq op l=((op==10||op==11)&&Qja 1 2 l):=rfl
  rw[hc]
  have ht:=@Qqr 1 2 l
  generalize Qja 1 2 l=r at *
  simp(disch:=(first | omega | (repeat (first | rw[Qa.next_push] | rw[Qa.next_set] | rw[Qa.next_up]));try omega)) only[K1,sxA,sxB,Nat.reduceBEq,Nat.reduceEqDiff,reduceCtorEq,mxD,mxB,Nat.reduceAdd,reduceIte,Nat.reduceLeDiff,splice,hd,WD]
  repeat' (first
    | (refine Qv (fun h=>?_) (fun h=>?_)<;>(try simp only[bne,Bool.not_eq_true',Bool.not_eq_false']at h)<;>simp(disch:=(first | omega | (repeat (first | rw[Qa.next_push] | rw[Qa.next_set] | rw[Qa.next_up]));try omega)) only[sxA,sxB,Nat.reduceBEq,Nat.reduceEqDiff,reduceCtorEq,mxD,mxB,Nat.reduceAdd,reduceIte,Nat.reduceLeDiff,splice,hd,WD,h])
    | (refine Qg (fun h=>?_) (fun h=>?_)<;>(try simp only[bne,Bool.not_eq_true',Bool.not_eq_false']at h)<;>simp(disch:=(first | omega | (repeat (first | rw[Qa.next_push] | rw[Qa.next_set] | rw[Qa.next_up]));try omega)) only[sxA,sxB,Nat.reduceBEq,Nat.reduceEqDiff,reduceCtorEq,mxD,mxB,Nat.reduceAdd,reduceIte,Nat.reduceLeDiff,splice,hd,WD,h])
    | (refine q.thenW ?_;rintro _ _ hn hw2 ⟨rfl,rfl⟩;simp(disch:=(first | omega | (repeat (first | rw[Qa.next_push] | rw[Qa.next_set] | rw[Qa.next_up]));try omega)) only[sxA,sxB,Nat.reduceBEq,Nat.reduceEqDiff,reduceCtorEq,mxD,mxB,Nat.reduceAdd,reduceIte,Nat.reduceLeDiff,splice,hd,WD])
    | fail)
  all_goals (first
    | (refine .mk (Nat.le_refl _) ⟨by simp,fun _=>rfl,by simp⟩)
    | (obtain⟨x,y,hxy⟩:=ht (by assumption)
       obtain⟨b,cap,hvb,hb⟩:=hw1 x y hxy
       subst hxy hvb
       refine(qt b cap x y _ hd hb).thenW ?_
       rintro _ _ hn hw2 ⟨rfl,rfl⟩
       simp(disch:=(first | omega | (repeat (first | rw[Qa.next_push] | rw[Qa.next_set] | rw[Qa.next_up]));try omega)) only[sxA,sxB,Nat.reduceBEq,Nat.reduceEqDiff,reduceCtorEq,mxD,mxB,Nat.reduceAdd,reduceIte,Nat.reduceLeDiff,splice,WD]
       refine .mk (by simp only[Qa.next_set];exact Nat.le_refl _) ⟨by simp_all,by simp_all,fun _=>⟨x,y,b,cap,rfl,rfl,rfl⟩⟩))
theorem QuI (d:Nat) (op:Int) (v:Value) (l:List Ar) (H:Qa) (hd:H.get d=some (.cells [.int .i64 op,v] Qz false)) (hv:QS H v l) (hl:l.length≤1000) (hw1:∀x y,l=[x,y]→∃b cap,v=.slice (some ⟨b,0,none⟩) 2 cap∧H.get b=some (.cells (Qi l) Qd false)):
    Qe prog Wk [.pointer (some ⟨d,0,none⟩)] H fun u H'=>u=.bool (Qqp op l)∧(Qqp op l=false→H'=H)∧(Qqp op l=true→∃x y,l=[x,y]∧H'=(H.push (.cells (Qi [x,x,y]) Qd false)).set d (.cells [.int .i64 op,.slice (some ⟨H.next,0,none⟩) 3 3] Qz false)):=by
  refine QdM fun hw=>?_
  have hdn:=hw.lt hd
  have q:=Kv d op v l 1 3 H false hd hv hl
  have hc:Qqp op l=((op==16)&&Qja 1 3 l):=rfl
  rw[hc]
  have ht:=@Qqr 1 3 l
  have hdz:¬d=H.next:=by omega
  generalize Qja 1 3 l=r at *
  simp(disch:=(first | omega | (repeat (first | rw[Qa.next_push] | rw[Qa.next_set] | rw[Qa.next_up]));try omega)) only[JP,sxA,sxB,Nat.reduceBEq,Nat.reduceEqDiff,reduceCtorEq,mxD,mxB,Nat.reduceAdd,reduceIte,Nat.reduceLeDiff,splice,hd,Q9]
  repeat' (first
    | (refine Qv (fun h=>?_) (fun h=>?_)<;>(try simp only[bne,Bool.not_eq_true',Bool.not_eq_false']at h)<;>simp(disch:=(first | omega | (repeat (first | rw[Qa.next_push] | rw[Qa.next_set] | rw[Qa.next_up]));try omega)) only[sxA,sxB,Nat.reduceBEq,Nat.reduceEqDiff,reduceCtorEq,mxD,mxB,Nat.reduceAdd,reduceIte,Nat.reduceLeDiff,splice,hd,Q9,h])
    | (refine Qg (fun h=>?_) (fun h=>?_)<;>(try simp only[bne,Bool.not_eq_true',Bool.not_eq_false']at h)<;>simp(disch:=(first | omega | (repeat (first | rw[Qa.next_push] | rw[Qa.next_set] | rw[Qa.next_up]));try omega)) only[sxA,sxB,Nat.reduceBEq,Nat.reduceEqDiff,reduceCtorEq,mxD,mxB,Nat.reduceAdd,reduceIte,Nat.reduceLeDiff,splice,hd,Q9,h])
    | (refine q.thenW ?_;rintro _ _ hn hw2 ⟨rfl,rfl⟩;simp(disch:=(first | omega | (repeat (first | rw[Qa.next_push] | rw[Qa.next_set] | rw[Qa.next_up]));try omega)) only[sxA,sxB,Nat.reduceBEq,Nat.reduceEqDiff,reduceCtorEq,mxD,mxB,Nat.reduceAdd,reduceIte,Nat.reduceLeDiff,splice,hd,Q9])
    | fail)
  all_goals (first
    | (refine .mk (Nat.le_refl _) ⟨by simp,fun _=>rfl,by simp⟩)
    | (obtain⟨x,y,hxy⟩:=ht (by assumption)
       obtain⟨b,cap,hvb,hb⟩:=hw1 x y hxy
       subst hxy hvb
       obtain⟨k,r,m,n⟩:=x
       obtain⟨k',r',m',n'⟩:=y
       have hbn:=hw.lt hb
       have d0:((0:Int)≤0∧(0:Int)<((2:Nat):Int)):=by omega
       have d1:((0:Int)≤1∧(1:Int)<((2:Nat):Int)):=by omega
       have t0:(0:Int).toNat=0:=rfl
       have t1:(1:Int).toNat=1:=rfl
       simp only[Qe8,Ar.cells,List.cons_append,List.nil_append]at hb
       simp(disch:=(first | omega | (repeat (first | rw[Qa.next_push] | rw[Qa.next_set] | rw[Qa.next_up]));try omega)) only[sxA,sxB,Nat.reduceBEq,Nat.reduceEqDiff,reduceCtorEq,mxA,mxB,Nat.reduceAdd,reduceIte,Nat.reduceLeDiff,splice,mxD,mxB,Nat.reduceAdd,reduceIte,Nat.reduceLeDiff,splice,hd,hb,d0,d1,t0,t1,Q9]
       rw[if_pos (by decide)]
       simp(disch:=(first | omega | (repeat (first | rw[Qa.next_push] | rw[Qa.next_set] | rw[Qa.next_up]));try omega)) only[sxA,sxB,Nat.reduceBEq,Nat.reduceEqDiff,reduceCtorEq,mxA,mxB,Nat.reduceAdd,reduceIte,Nat.reduceLeDiff,splice,mxD,mxB,Nat.reduceAdd,reduceIte,Nat.reduceLeDiff,splice,hd,hb,hdz,if_false,d0,d1,t0,t1,Q9]
       refine .mk (by simp only[Qa.next_set,Qa.next_push];omega) ⟨rfl,fun h=>h.elim,fun _=>⟨_,_,rfl,rfl⟩⟩))
theorem Qv9 (d:Nat) (op:Int) (v:Value) (l:List Ar) (H:Qa) (hd:H.get d=some (.cells [.int .i64 op,v] Qz false)) (hv:QS H v l) (hl:l.length≤1000) (hw1:∀x y,l=[x,y]→∃b cap,v=.slice (some ⟨b,0,none⟩) 2 cap∧H.get b=some (.cells (Qi l) Qd false)):
  Qe prog Ww [.pointer (some ⟨d,0,none⟩)] H fun u H'=>u=.bool (QoI op l)∧(QoI op l=false→H'=H)∧(QoI op l=true→∃x y b cap,l=[x,y]∧v=.slice (some ⟨b,0,none⟩) 2 cap∧H'=(H.set b (.cells (Qi [y,y]) Qd false)).set b (.cells (Qi [y,x]) Qd false)):=by
 refine Qek fun hw=>?_
 have hdn:=hw.lt hd
 have q:=VA d op v l H false hd hv hl
 by_cases h2:∃x y,l=[x,y]
 ·obtain⟨x,y,hxy⟩:=h2
  obtain⟨b,cap,hvb,hb⟩:=hw1 x y hxy
  subst hxy hvb
  have qt:=Ju d b cap op x y H false Qd hd hb
  have hbn:=hw.lt hb
  have hc:QoI op [x,y]=((op==11)&&Vz [x,y]&&!(decide (x.r.n≤y.r.n))):=rfl
  rw[hc]
  have hb2:H.get b=some (.cells (x.cells++y.cells) Qd false):=by rw[← Qe8];exact hb
  have d0:((0:Int)≤0∧(0:Int)<((2:Nat):Int)):=by omega
  have d1:((0:Int)≤1∧(1:Int)<((2:Nat):Int)):=by omega
  have t0:(0:Int).toNat=0:=rfl
  have t1:(1:Int).toNat=1:=rfl
  obtain⟨k,r,m,n⟩:=x
  obtain⟨k',r',m',n'⟩:=y
  simp only[Ar.cells,List.cons_append,List.nil_append]at hb2
  generalize Vz _=al at *
  simp(disch:=(first | omega | (repeat (first | rw[Qa.next_push] | rw[Qa.next_set] | rw[Qa.next_up]));try omega)) only[YW,sxA,sxB,Nat.reduceBEq,Nat.reduceEqDiff,reduceCtorEq,mxD,mxB,Nat.reduceAdd,reduceIte,Nat.reduceLeDiff,splice,hd,hb2,d0,d1,t0,t1,QK]
  repeat' (first
   | (refine Qv (fun h=>?_) (fun h=>?_)<;>(try simp only[bne,Bool.not_eq_true',Bool.not_eq_false']at h)<;>simp(disch:=(first | omega | (repeat (first | rw[Qa.next_push] | rw[Qa.next_set] | rw[Qa.next_up]));try omega)) only[sxA,sxB,Nat.reduceBEq,Nat.reduceEqDiff,reduceCtorEq,mxD,mxB,Nat.reduceAdd,reduceIte,Nat.reduceLeDiff,splice,hd,hb2,d0,d1,t0,t1,QK,h])
   | (refine Qg (fun h=>?_) (fun h=>?_)<;>(try simp only[bne,Bool.not_eq_true',Bool.not_eq_false']at h)<;>simp(disch:=(first | omega | (repeat (first | rw[Qa.next_push] | rw[Qa.next_set] | rw[Qa.next_up]));try omega)) only[sxA,sxB,Nat.reduceBEq,Nat.reduceEqDiff,reduceCtorEq,mxD,mxB,Nat.reduceAdd,reduceIte,Nat.reduceLeDiff,splice,hd,hb2,d0,d1,t0,t1,QK,h])
   | (refine q.thenW ?_;rintro _ _ hn hw2 ⟨rfl,rfl⟩;simp(disch:=(first | omega | (repeat (first | rw[Qa.next_push] | rw[Qa.next_set] | rw[Qa.next_up]));try omega)) only[sxA,sxB,Nat.reduceBEq,Nat.reduceEqDiff,reduceCtorEq,mxD,mxB,Nat.reduceAdd,reduceIte,Nat.reduceLeDiff,splice,hd,hb2,d0,d1,t0,t1,QK])
   | (refine qt.thenW ?_;rintro _ _ hn hw2 ⟨rfl,rfl⟩;simp(disch:=(first | omega | (repeat (first | rw[Qa.next_push] | rw[Qa.next_set] | rw[Qa.next_up]));try omega)) only[sxA,sxB,Nat.reduceBEq,Nat.reduceEqDiff,reduceCtorEq,mxD,mxB,Nat.reduceAdd,reduceIte,Nat.reduceLeDiff,splice,QK])
   | fail)
  all_goals (first
   | (refine .mk (Nat.le_refl _) ⟨by simp,fun _=>rfl,by simp⟩)
   | (refine .mk (by simp only[Qa.next_set];exact Nat.le_refl _) ⟨rfl,fun h=>h.elim,fun _=>⟨_,_,b,cap,rfl,rfl,rfl⟩⟩))
 ·have h3:Vz l=false∧QoI op l=false:=by
   match l,h2 with
   | [],_=>exact⟨rfl,rfl⟩
   | [_],_=>exact⟨rfl,rfl⟩
   | [x,y],h=>exact absurd ⟨x,y,rfl⟩ h
   | _::_::_::_,_=>exact⟨rfl,rfl⟩
  rw[h3.1]at q
  rw[h3.2]
  simp(disch:=(first | omega | (repeat (first | rw[Qa.next_push] | rw[Qa.next_set] | rw[Qa.next_up]));try omega)) only[YW,sxA,sxB,Nat.reduceBEq,Nat.reduceEqDiff,reduceCtorEq,mxD,mxB,Nat.reduceAdd,reduceIte,Nat.reduceLeDiff,splice,hd,QK]
  repeat' (first
   | (refine Qv (fun h=>?_) (fun h=>?_)<;>(try simp only[bne,Bool.not_eq_true',Bool.not_eq_false']at h)<;>simp(disch:=(first | omega | (repeat (first | rw[Qa.next_push] | rw[Qa.next_set] | rw[Qa.next_up]));try omega)) only[sxA,sxB,Nat.reduceBEq,Nat.reduceEqDiff,reduceCtorEq,mxD,mxB,Nat.reduceAdd,reduceIte,Nat.reduceLeDiff,splice,hd,QK,h])
   | (refine Qg (fun h=>?_) (fun h=>?_)<;>(try simp only[bne,Bool.not_eq_true',Bool.not_eq_false']at h)<;>simp(disch:=(first | omega | (repeat (first | rw[Qa.next_push] | rw[Qa.next_set] | rw[Qa.next_up]));try omega)) only[sxA,sxB,Nat.reduceBEq,Nat.reduceEqDiff,reduceCtorEq,mxD,mxB,Nat.reduceAdd,reduceIte,Nat.reduceLeDiff,splice,hd,QK,h])
   | (refine q.thenW ?_;rintro _ _ hn hw2 ⟨rfl,rfl⟩;simp(disch:=(first | omega | (repeat (first | rw[Qa.next_push] | rw[Qa.next_set] | rw[Qa.next_up]));try omega)) only[sxA,sxB,Nat.reduceBEq,Nat.reduceEqDiff,reduceCtorEq,mxD,mxB,Nat.reduceAdd,reduceIte,Nat.reduceLeDiff,splice,hd,QK])
   | fail)
  all_goals exact .mk (Nat.le_refl _) ⟨rfl,fun _=>rfl,by simp⟩
def Kw (ib:Int×Bool) (a:Ar):Ar×Int:=
 let b:=XK a
 if(b.2==0)=false then(a,b.2)
 else if(b.1.k==3)=true then(let im:=JL b.1.n ib.1 ib.2;({b.1 with n:=im.1},im.2))
 else(b.1,0)
def WC (ib:Int×Bool):List Ar→List Ar×Int
 | []=>([],0)
 | a::l=>if((Kw ib a).2==0)=true then((Kw ib a).1::(WC ib l).1,(WC ib l).2) else([],(Kw ib a).2)
def VB (op:Int) (l:List Ar):List Ar:=
 if Qqp op l=true then(match l with | [x,y]=>[x,x,y] | l=>l)
 else if Qqq op l=true then l.reverse
 else if QoI op l=true then l.reverse
 else l
def Wn (op:Int) (l:List Ar):Int×List Ar×Int:=
 if(QX op l==0)=false then(0,[],QX op l)
 else if((WC (W0 op l) l).2==0)=false then(0,[],(WC (W0 op l) l).2)
 else(op,VB op (WC (W0 op l) l).1,0)
theorem QhK (ib:Int×Bool):∀ (l:List Ar) (i:Nat) (a:Ar),l[i]? = some a→WC ib (l.drop i)=if((Kw ib a).2==0)=true then((Kw ib a).1::(WC ib (l.drop (i+1))).1,(WC ib (l.drop (i+1))).2) else([],(Kw ib a).2)
 | [],i,a,h=>by simp at h
 | b::l,0,a,h=>by simp at h;subst h;rfl
 | b::l,i+1,a,h=>by simpa using QhK ib l i a (by simpa using h)
theorem QuJ (a:Ar) (h:I64 a.n):I64 (XK a).1.n:=by
 have h0:I64 0:=by unfold I64;omega
 unfold XK QlP
 split
 ·split
  ·exact h0
  ·split
   ·exact h0
   ·exact h
 ·exact h0
theorem Qso (c:List Value) (o:Nat) (l:List Value) (h:o+l.length≤c.length):(splice c o l).length=c.length:=by
 simp[splice];omega
theorem QmY (c:List Value) (o:Nat) (l:List Value) (h:o≤c.length) (j:Nat) (hj:j<o):(splice c o l)[j]? = c[j]? := by
 unfold splice
 rw[List.getElem?_append_left (by simp;omega),List.getElem?_take,if_pos hj]
theorem QuK (c:List Value) (o:Nat) (v:Value) (h:o<c.length):(splice c o [v])[o]? = some v:=by
 unfold splice
 rw[List.getElem?_append_right (by simp;omega)]
 simp[show min o c.length=o by omega]
theorem QfL (l m:List Ar):Qi (l++m)=Qi l++Qi m:=by simp[Qi]
theorem QmZ (d:List Ar) (a b:Ar) (l:List Ar):splice (Qi (d++a::l)) (d.length * 11) b.cells=Qi (d++b::l):=by
 have hd:=QV d
 unfold splice
 rw[QfL,QfL,Z6,Z6,← hd,List.take_left,We]
 have:(Qi d++(a.cells++Qi l)).drop ((Qi d).length+11)=Qi l:=by
  rw[show(Qi d).length+11=(Qi d).length+a.cells.length by rw[We],← List.drop_drop,List.drop_left,List.drop_left]
 rw[this]
theorem QBi (f:Fn) (xs ys:Array Value):(Value.func f xs ys).cells.toList=[.func f xs ys]:=Eq.trans rfl rfl
theorem QBj (f:Fn) (xs ys:Array Value):(Value.func f xs ys).oneCell'=true:=Eq.trans rfl rfl
theorem Qzq {P:Program} (f:FuncId) (l:List Value) (H:Qa) (k:Value→Qa→Prop):cvK (.func (.func f) #[] #[]) P l H k=Qe P f l H k:=by
 show Qe P f (([]:List Value)++l++[]) H k=_
 rw[List.nil_append,List.append_nil]
theorem Qat (a:Ar):List.take 11 a.cells=a.cells:=rfl
theorem QcZ (a:Ar):(a.cells.all fun v=>v.oneCell')=true:=rfl
theorem Qgx {op:Int} {l:List Ar} (h:(QX op l==0)=true):l.length≤4:=by
 unfold QX at h
 split at h
 ·simp at h
 ·split at h
  ·simp at h
  ·omega
def Qe9 (op:Int) (l:List Ar) (H:Qa) (u:Value) (H':Qa):Prop:=
 Ext H H'∧∃v',u=.tuple #[.agg #[.int .i64 (Wn op l).1,v'],.int .i64 (Wn op l).2.2]∧QS H' v' (Wn op l).2.1∧∀a n c,v'=.slice (some a) n c→H.next≤a.block∧a.block<H'.next
theorem QoJ {op:Int} {l:List Ar} {H H':Qa} (hx:Ext H H') {e:Int} (h:Wn op l=(0,[],e)):Qe9 op l H (.tuple #[.agg #[.int .i64 0,.slice none 0 0],.int .i64 e]) H':=by
 unfold Qe9
 rw[h]
 exact⟨hx,_,rfl,⟨none,0,rfl,fun h=>absurd h (Nat.lt_irrefl 0)⟩,fun a n c h=>by cases h⟩
def QoK:PC:=(.seq (.ops [⟨some 105,.mv (t 7),none,false⟩,⟨some 106,.gen (.nilCheck (t 105)),none,false⟩,⟨some 107,.fldA 0 (t 106),none,false⟩,⟨some 108,.ld false 1 (t 107),none,false⟩,⟨some 109,.mv (t 7),none,false⟩,⟨some 110,.gen (.nilCheck (t 109)),none,false⟩,⟨some 111,.fldA 1 (t 110),none,false⟩,⟨some 112,.ld false 1 (t 111),none,false⟩,⟨some 113,.build [.int .i64 0,.slice none 0 0] [(0,1,(t 108)),(1,1,(t 112))],none,false⟩,⟨none,.st 2 (t 2) (t 113),none,false⟩,⟨some 3,.mv (.const (.int .i64 0)),none,false⟩]) .ret)
section
variable (op:Int) (l:List Ar) (H:Qa)
abbrev KC:Env→Qa→Prop:=Rt prog QcU H (Qe9 op l H)
theorem Qwa (e:Nat→Env→Qa→Prop) (k:Env→Qa→Prop) (A:Env) (H':Qa) (D:Nat) (cv:Value) (m:List Ar) (hx:Ext H H') (hD:H.next+2≤D)
  (r2:A 2=.pointer (some ⟨H.next+1,0,none⟩)) (r7:A 7=.pointer (some ⟨D,0,none⟩)) (gR:H'.get (H.next+1)=some (.cells [.int .i64 0,.slice none 0 0] Qb false))
  (gD:H'.get D=some (.cells [.int .i64 op,cv] Qz false)) (hc:QS H' cv m) (hf:∀a n c,cv=.slice (some a) n c→H.next+2≤a.block∧a.block<H'.next) (hm:Wn op l=(op,m,0)):
  Qp prog QoK
   ⟨KC op l H,e⟩ k A H':=by
 obtain⟨ca,cap,rfl,h1⟩:=hc
 simp only[QoK,sxA,sxB,Nat.reduceBEq,Nat.reduceEqDiff,reduceCtorEq,mxA,mxB,Nat.reduceAdd,reduceIte,Nat.reduceLeDiff,splice,r2,r7,gR,gD,Jq]
 have hx2:Ext H (H'.set (H.next+1) (.cells [.int .i64 op,.slice ca m.length cap] Qb false)):=hx.set (by omega) _
 refine .mk hx2.next ⟨hx2,_,by rw[hm],?_,fun a n c h=>by have:=hf a n c h;rw[Qa.next_set];omega⟩
 rw[hm]
 refine⟨ca,cap,rfl,fun hn=>?_⟩
 obtain⟨b,e',ro,rfl,hb⟩:=h1 hn
 have:=hf _ _ _ rfl
 simp only at this
 exact⟨b,e',ro,rfl,by rw[Qa.get_set,if_neg (by omega)];exact hb⟩
theorem Qsp {m:List Ar} (h1:Qqp op m=false) (h2:Qqq op m=false) (h3:QoI op m=false):VB op m=m:=by simp[VB,h1,h2,h3]
theorem QuL (e:Nat→Env→Qa→Prop) (k:Env→Qa→Prop) (A:Env) (H':Qa) (D:Nat) (cv:Value) (m:List Ar) (hx:Ext H H') (hw:H'.Wf) (hD:H.next+2≤D)
  (r2:A 2=.pointer (some ⟨H.next+1,0,none⟩)) (r7:A 7=.pointer (some ⟨D,0,none⟩)) (gR:H'.get (H.next+1)=some (.cells [.int .i64 0,.slice none 0 0] Qb false))
  (gD:H'.get D=some (.cells [.int .i64 op,cv] Qz false)) (hc:QS H' cv m) (hl:m.length≤1000) (hf:∀a n c,cv=.slice (some a) n c→H.next+2≤a.block∧¬a.block=D∧a.block<H'.next)
  (hw1:∀x y,m=[x,y]→∃b cap,cv=.slice (some ⟨b,0,none⟩) 2 cap∧H'.get b=some (.cells (Qi m) Qd false)) (hm:Wn op l=(op,VB op m,0)):
  Qp prog ZJ ⟨KC op l H,e⟩ k A H':=by
 have tail:=fun A2 H2 cv2 m2 hx2 a b c d f g h=>Qwa op l H e k A2 H2 D cv2 m2 hx2 hD a b c d f g h
 have hDn:=hw.lt gD
 have hxn:=hx.next
 have hRn:=hw.lt gR
 obtain⟨n6,e6⟩:∃n6,ZJ=.seq (.seq (.ops [⟨some 95,.bslice n6 1 3 [.nilFunc,.nilFunc,.nilFunc] [(0,(.func Wk)),(1,(.func Wv)),(2,(.func Ww))],none,false⟩,⟨some 96,.lenS (t 95),none,false⟩,⟨some 97,.mv (.const (.int .i64 0)),none,false⟩]) (.block 4 (.loop Gt))) QoK:=⟨_,rfl⟩
 rw[e6,Qe3]
 generalize hT:Qp prog QoK ⟨KC op l H,e⟩ k=T
 have tailT:=fun A2 H2 cv2 m2 hx2 a b c d f g h=>(by rw[← hT];exact tail A2 H2 cv2 m2 hx2 a b c d f g h:T A2 H2)
 simp(disch:=(first | omega | (repeat (first | rw[Qa.next_push] | rw[Qa.next_set] | rw[Qa.next_up]));try omega)) only[sxA,sxB,Nat.reduceBEq,Nat.reduceEqDiff,reduceCtorEq,mxD,mxB,Nat.reduceAdd,reduceIte,Nat.reduceLeDiff,splice,QBi,QBj,Nat.reduceMul,Nat.reduceLeDiff,if_true]
 generalize hbl:Blk.cells [.func (.func Wk) #[] #[],.func (.func Wv) #[] #[],.func (.func Ww) #[] #[]] _ false=bl
 have hxp:Ext H' (H'.push bl):=(Ext.refl _).push _
 have gF:(H'.push bl).get H'.next=some bl:=by rw[Qa.get_push,if_pos rfl]
 have hwp:=hw.push bl
 have hpn:(H'.push bl).next=H'.next+1:=rfl
 generalize hHp:H'.push bl=Hp at hxp gF hwp hpn
 subst hbl
 have hxHp:=hx.trans hxp
 have gDp:Hp.get D=some (.cells [.int .i64 op,cv] Qz false):=by rw[hxp.get _ hDn];exact gD
 have gRp:Hp.get (H.next+1)=some (.cells [.int .i64 0,.slice none 0 0] Qb false):=by rw[hxp.get _ hRn];exact gR
 have hcp:QS Hp cv m:=hc.ext hw hxp
 have hw1p:∀x y,m=[x,y]→∃b cap,cv=.slice (some ⟨b,0,none⟩) 2 cap∧Hp.get b=some (.cells (Qi m) Qd false):=fun x y h=>by
  obtain⟨b,cap,h1,h2⟩:=hw1 x y h
  exact⟨b,cap,h1,by rw[hxp.get _ (hw.lt h2)];exact h2⟩
 have q1:=QuI D op cv m Hp gDp hcp hl hw1p
 have q2:=Qv8 D op cv m Hp gDp hcp hl hw1p
 have q3:=Qv9 D op cv m Hp gDp hcp hl hw1p
 have hsw:∀x y,m=[x,y]→∀b cap,cv=.slice (some ⟨b,0,none⟩) 2 cap→Wn op l=(op,[y,x],0)→∀A2,A2 2=.pointer (some ⟨H.next+1,0,none⟩)→A2 7=.pointer (some ⟨D,0,none⟩)→T A2 ((Hp.set b (.cells (Qi [y,y]) Qd false)).set b (.cells (Qi [y,x]) Qd false)):=by
  intro x y hxy b cap hcv hm2 A2 a2 a7
  have hbn:=hf _ _ _ hcv
  simp only at hbn
  refine tailT A2 _ cv [y,x] ((hxHp.set (by omega) _).set (by omega) _) a2 a7 ?_ ?_ ⟨some ⟨b,0,none⟩,cap,by rw[hcv];rfl,fun _=>⟨b,_,_,rfl,by rw[Qa.get_set,if_pos rfl]⟩⟩ (fun a n c h=>⟨(hf a n c h).1,by have:=(hf a n c h).2.2;have:=hxp.next;simp only[Qa.next_set];omega⟩) hm2
  ·rw[Qa.get_set,if_neg (by omega),Qa.get_set,if_neg (by omega)];exact gRp
  ·rw[Qa.get_set,if_neg (by omega),Qa.get_set,if_neg (by omega)];exact gDp
 refine Qy (fun m' A2 H2=>∃i:Nat,i≤3∧m'=3 - i∧H2=Hp∧A2 2=.pointer (some ⟨H.next+1,0,none⟩)∧A2 7=.pointer (some ⟨D,0,none⟩)∧A2 95=.slice (some ⟨H'.next,0,none⟩) 3 3∧A2 96=.int .i64 ((3:Nat):Int)∧A2 97=.int .i64 i∧(0<i→Qqp op m=false)∧(1<i→Qqq op m=false)∧(2<i→QoI op m=false)) 3 ?_ ?_
 ·refine⟨0,Nat.zero_le _,by omega,rfl,?_,?_,?_,?_,?_,fun h=>by omega,fun h=>by omega,fun h=>by omega⟩
  all_goals simp only[uxA,uxB,Nat.reduceBEq,r2,r7]
  all_goals rfl
 ·rintro m' A2 H2 ⟨i,hi,rfl,rfl,a2,a7,a95,a96,a97,n1,n2,n3⟩
  simp only[Gt,Qdf,sxA,sxB,Nat.reduceBEq,Nat.reduceEqDiff,reduceCtorEq,mxA,mxB,Nat.reduceAdd,reduceIte,Nat.reduceLeDiff,splice,a96,a97]
  refine Qg (fun h2=>?_) (fun h2=>?_)
  ·have h2:i<3:=by have:=of_decide_eq_true h2;omega
   have c1:(0:Int)≤i∧(i:Int)<((3:Nat):Int):=by omega
   have c3:(i:Int).toNat=i:=by omega
   have ei:IntKind.i64.wrap ((i:Int)+1)=((i+1:Nat):Int):=by rw[w64 (by unfold I64;omega)];omega
   simp only[sxA,sxB,Nat.reduceBEq,Nat.reduceEqDiff,reduceCtorEq,mxA,mxB,Nat.reduceAdd,reduceIte,Nat.reduceLeDiff,splice,a7,a95,a97,c1,c3,gF]
   obtain rfl | rfl | rfl:i=0∨i=1∨i=2:=by omega
   ·simp only[sxA,sxB,Nat.reduceBEq,Nat.reduceEqDiff,reduceCtorEq,mxA,mxB,Nat.reduceAdd,reduceIte,Nat.reduceLeDiff,splice,Qzq]
    refine q1.thenW ?_
    rintro _ H3 hn3 hw3 ⟨rfl,hF,hTr⟩
    simp only[sxA,sxB,Nat.reduceBEq,Nat.reduceEqDiff,reduceCtorEq,mxA,mxB,Nat.reduceAdd,reduceIte,Nat.reduceLeDiff,splice]
    cases hd:Qqp op m with
    | false=>
     rw[hF hd]
     simp only[sxA,sxB,Nat.reduceBEq,Nat.reduceEqDiff,reduceCtorEq,mxA,mxB,Nat.reduceAdd,reduceIte,Nat.reduceLeDiff,splice,a97,ei]
     refine⟨2,by omega,1,by omega,rfl,rfl,?_,?_,?_,?_,?_,fun _=>(by first | exact hd | trivial),fun h=>by omega,fun h=>by omega⟩
     all_goals simp only[uxA,uxB,Nat.reduceBEq,a2,a7,a95,a96]
    | true=>
     obtain⟨x,y,hxy,hH3⟩:=hTr hd
     have hr:VB op m=[x,x,y]:=by unfold VB;rw[if_pos hd,hxy]
     simp only[sxA,sxB,Nat.reduceBEq,Nat.reduceEqDiff,reduceCtorEq,mxA,mxB,Nat.reduceAdd,reduceIte,Nat.reduceLeDiff,splice]
     rw[hH3]
     refine tailT _ _ (.slice (some ⟨H2.next,0,none⟩) 3 3) [x,x,y] ((hxHp.push _).set (by omega) _) (by first | exact a2 | simp only[uxA,uxB,Nat.reduceBEq,a2]) (by first | exact a7 | simp only[uxA,uxB,Nat.reduceBEq,a7]) ?_ ?_ ⟨_,_,rfl,fun _=>⟨H2.next,_,_,rfl,by rw[Qa.get_set,if_neg (by omega),Qa.get_push,if_pos rfl]⟩⟩ (fun a n c h=>by cases h;simp only[Qa.next_set,Qa.next_push];omega) (by rw[hm,hr])
     ·rw[Qa.get_set,if_neg (by omega),Qa.get_push,if_neg (by omega)];exact gRp
     ·rw[Qa.get_set,if_pos rfl]
   ·have hd:=n1 (by omega)
    simp only[sxA,sxB,Nat.reduceBEq,Nat.reduceEqDiff,reduceCtorEq,mxA,mxB,Nat.reduceAdd,reduceIte,Nat.reduceLeDiff,splice,Qzq]
    refine q2.thenW ?_
    rintro _ H3 hn3 hw3 ⟨rfl,hF,hTr⟩
    simp only[sxA,sxB,Nat.reduceBEq,Nat.reduceEqDiff,reduceCtorEq,mxA,mxB,Nat.reduceAdd,reduceIte,Nat.reduceLeDiff,splice]
    cases hp:Qqq op m with
    | false=>
     rw[hF hp]
     simp only[sxA,sxB,Nat.reduceBEq,Nat.reduceEqDiff,reduceCtorEq,mxA,mxB,Nat.reduceAdd,reduceIte,Nat.reduceLeDiff,splice,a97,ei]
     refine⟨1,by omega,2,by omega,rfl,rfl,?_,?_,?_,?_,?_,fun _=>(by first | exact hd | trivial),fun _=>(by first | exact hp | trivial),fun h=>by omega⟩
     all_goals simp only[uxA,uxB,Nat.reduceBEq,a2,a7,a95,a96]
    | true=>
     obtain⟨x,y,b,cap,hxy,hcv,hH3⟩:=hTr hp
     have hr:VB op m=[y,x]:=by simp only[VB,hd,hp];rw[hxy];rfl
     simp only[sxA,sxB,Nat.reduceBEq,Nat.reduceEqDiff,reduceCtorEq,mxA,mxB,Nat.reduceAdd,reduceIte,Nat.reduceLeDiff,splice]
     rw[hH3]
     exact hsw x y hxy b cap hcv (by rw[hm,hr]) _ (by first | exact a2 | simp only[uxA,uxB,Nat.reduceBEq,a2]) (by first | exact a7 | simp only[uxA,uxB,Nat.reduceBEq,a7])
   ·have hd:=n1 (by omega)
    have hp:=n2 (by omega)
    simp only[sxA,sxB,Nat.reduceBEq,Nat.reduceEqDiff,reduceCtorEq,mxA,mxB,Nat.reduceAdd,reduceIte,Nat.reduceLeDiff,splice,Qzq]
    refine q3.thenW ?_
    rintro _ H3 hn3 hw3 ⟨rfl,hF,hTr⟩
    simp only[sxA,sxB,Nat.reduceBEq,Nat.reduceEqDiff,reduceCtorEq,mxA,mxB,Nat.reduceAdd,reduceIte,Nat.reduceLeDiff,splice]
    cases hq:QoI op m with
    | false=>
     rw[hF hq]
     simp only[sxA,sxB,Nat.reduceBEq,Nat.reduceEqDiff,reduceCtorEq,mxA,mxB,Nat.reduceAdd,reduceIte,Nat.reduceLeDiff,splice,a97,ei]
     refine⟨0,by omega,3,by omega,rfl,rfl,?_,?_,?_,?_,?_,fun _=>(by first | exact hd | trivial),fun _=>(by first | exact hp | trivial),fun _=>(by first | exact hq | trivial)⟩
     all_goals simp only[uxA,uxB,Nat.reduceBEq,a2,a7,a95,a96]
    | true=>
     obtain⟨x,y,b,cap,hxy,hcv,hH3⟩:=hTr hq
     have hr:VB op m=[y,x]:=by simp only[VB,hd,hp,hq];rw[hxy];rfl
     simp only[sxA,sxB,Nat.reduceBEq,Nat.reduceEqDiff,reduceCtorEq,mxA,mxB,Nat.reduceAdd,reduceIte,Nat.reduceLeDiff,splice]
     rw[hH3]
     exact hsw x y hxy b cap hcv (by rw[hm,hr]) _ (by first | exact a2 | simp only[uxA,uxB,Nat.reduceBEq,a2]) (by first | exact a7 | simp only[uxA,uxB,Nat.reduceBEq,a7])
  ·have h2:i=3:=by have:=of_decide_eq_false h2;omega
   subst h2
   simp only[sxA,sxB,Nat.reduceBEq,Nat.reduceEqDiff,reduceCtorEq,mxA,mxB,Nat.reduceAdd,reduceIte,Nat.reduceLeDiff,splice]
   exact tailT _ _ cv m hxHp (by first | exact a2 | simp only[uxA,uxB,Nat.reduceBEq,a2]) (by first | exact a7 | simp only[uxA,uxB,Nat.reduceBEq,a7]) gRp gDp hcp (fun a n c h=>⟨(hf a n c h).1,by have:=(hf a n c h).2.2;have:=hxp.next;omega⟩) (by rw[hm,Qsp op (n1 (by omega)) (n2 (by omega)) (n3 (by omega))])
theorem Qwb (b:Ar) (x:Int):splice b.cells 10 [.int .i64 x]=({b with n:=x}:Ar).cells:=by simp[splice,Ar.cells]
theorem Qqs (ib:Int×Bool):WC ib []=([],0):=rfl
theorem Qwc (e:Nat→Env→Qa→Prop) (k:Env→Qa→Prop) (A:Env) (H':Qa) (D V cb cap:Nat) (ca:Option Addr) (vs:List Value) (eV:TypeId) (hx:Ext H H') (hw:H'.Wf) (hD:H.next+2≤D) (hV:H.next+2≤V) (hDV:¬D=V)
  (r2:A 2=.pointer (some ⟨H.next+1,0,none⟩)) (r5:A 5=.int .i64 (W0 op l).1) (r6:A 6=.bool (W0 op l).2) (r7:A 7=.pointer (some ⟨D,0,none⟩)) (r8:A 8=.slice (some ⟨V,0,none⟩) l.length l.length)
  (gR:H'.get (H.next+1)=some (.cells [.int .i64 0,.slice none 0 0] Qb false))
  (gD:H'.get D=some (.cells [.int .i64 op,.slice ca l.length cap] Qz false)) (gV:H'.get V=some (.cells vs eV false)) (hvl:vs.length=l.length) (hvs:∀j,j<l.length→vs[j]? = some (.pointer (some ⟨cb,j * 11,none⟩)))
  (hcb:0<l.length→ca=some ⟨cb,0,none⟩∧H.next+2≤cb∧¬cb=D∧¬cb=V∧H'.get cb=some (.cells (Qi l) Qd false)) (hca:∀a,ca=some a→H.next+2≤a.block∧¬a.block=D∧a.block<D)
  (hck:(QX op l==0)=true) (hI:∀a∈l,I64 a.n):Qp prog Zb ⟨KC op l H,e⟩ k A H':=by
 have hl4:=Qgx hck
 have e12:Zb=.seq (.seq (.ops [⟨some 58,.mv (t 8),none,false⟩,⟨some 59,.lenS (t 58),none,false⟩,⟨some 60,.mv (.const (.int .i64 0)),none,false⟩]) (.block 2 (.loop Ku))) ZK:=rfl
 rw[e12,Qe3]
 have e7:ZK=.seq (.label 0) ZJ:=rfl
 generalize hT:Qp prog ZK ⟨KC op l H,e⟩ k=T
 generalize hib:W0 op l=ib at *
 obtain⟨ib1,ib2⟩:=ib
 simp only at r5 r6
 have hic:∀m,WC (ib1,ib2) l=(m,0)→Wn op l=(op,VB op m,0):=fun m h=>by
  unfold Wn
  rw[hib,h,hck]
  rfl
 have hie:∀m x,WC (ib1,ib2) l=(m,x)→(x==0)=false→Wn op l=(0,[],x):=fun m x h hx=>by
  unfold Wn
  rw[hib,h,hck]
  simp[hx]
 simp only[sxA,sxB,Nat.reduceBEq,Nat.reduceEqDiff,reduceCtorEq,mxA,mxB,Nat.reduceAdd,reduceIte,Nat.reduceLeDiff,splice,r8]
 refine Qy (fun m' A2 H2=>∃ (i:Nat) (dn:List Ar),i≤l.length∧m'=l.length - i∧dn.length=i∧WC (ib1,ib2) l=(dn++(WC (ib1,ib2) (l.drop i)).1,(WC (ib1,ib2) (l.drop i)).2)∧Ext H H2∧H2.Wf∧
  A2 2=.pointer (some ⟨H.next+1,0,none⟩)∧A2 5=.int .i64 ib1∧A2 6=.bool ib2∧A2 7=.pointer (some ⟨D,0,none⟩)∧A2 58=.slice (some ⟨V,0,none⟩) l.length l.length∧A2 59=.int .i64 (l.length:Int)∧A2 60=.int .i64 i∧
  H2.get (H.next+1)=some (.cells [.int .i64 0,.slice none 0 0] Qb false)∧H2.get D=some (.cells [.int .i64 op,.slice ca l.length cap] Qz false)∧H2.get V=some (.cells vs eV false)∧(0<l.length→H2.get cb=some (.cells (Qi (dn++l.drop i)) Qd false))) l.length ?_ ?_
 ·refine⟨0,[],Nat.zero_le _,by omega,rfl,rfl,hx,hw,?_,?_,?_,?_,?_,?_,?_,gR,gD,gV,fun h=>(hcb h).2.2.2.2⟩
  all_goals simp only[uxA,uxB,Nat.reduceBEq,r2,r5,r6,r7]
  all_goals rfl
 ·rintro m' A2 H2 ⟨i,dn,hi,rfl,hdn,hcan,hx2,hw2,a2,a5,a6,a7,a58,a59,a60,gR,gD,gV,gC⟩
  simp only[Ku,sxA,sxB,Nat.reduceBEq,Nat.reduceEqDiff,reduceCtorEq,mxA,mxB,Nat.reduceAdd,reduceIte,Nat.reduceLeDiff,splice,a59,a60]
  refine Qg (fun h2=>?_) (fun h2=>?_)
  ·have h2:i<l.length:=by have:=of_decide_eq_true h2;omega
   obtain⟨hca1,hcb2,hcD,hcV,_⟩:=hcb (by omega)
   have gC:=gC (by omega)
   have c1:(0:Int)≤i∧(i:Int)<l.length:=by omega
   have c3:(i:Int).toNat=i:=by omega
   have ei:IntKind.i64.wrap ((i:Int)+1)=((i+1:Nat):Int):=by rw[w64 (by unfold I64;omega)];omega
   have hv:=hvs i h2
   have hp:=List.getElem?_eq_getElem h2
   have hdr:l.drop i=l[i]::l.drop (i+1):=List.drop_eq_getElem_cons h2
   have had:=QhK (ib1,ib2) l i _ hp
   have hIa:=hI _ (List.getElem_mem h2)
   generalize l[i]=a at hp hdr had hIa
   rw[hdr]at gC
   have hlen:=QV (dn++a::l.drop (i+1))
   have hla:(dn++a::l.drop (i+1)).length=l.length:=by simp;omega
   rw[hla]at hlen
   have c4:i * 11+11≤l.length * 11:=by omega
   have d1:=XS (dn++a::l.drop (i+1)) i a (by rw[List.getElem?_append_right (by omega),hdn,Nat.sub_self];rfl)
   simp only[QbK,sxA,sxB,Nat.reduceBEq,Nat.reduceEqDiff,reduceCtorEq,mxA,mxB,Nat.reduceAdd,reduceIte,Nat.reduceLeDiff,splice,a58,a60,c1,c3,gV,hv,gC,hlen,c4,d1]
   refine(Qkr a H2).thenW ?_
   rintro _ _ hn3 hw3 ⟨rfl,k3,rfl⟩
   simp only[Qa.next_up]at hn3
   have hn':=QuJ a hIa
   have hca2:Kw (ib1,ib2) a=if((XK a).2==0)=false then(a,(XK a).2) else if((XK a).1.k==3)=true then({(XK a).1 with n:=(JL (XK a).1.n ib1 ib2).1},(JL (XK a).1.n ib1 ib2).2) else((XK a).1,0):=rfl
   generalize XK a=bb at hn' hca2
   obtain⟨b,be⟩:=bb
   simp only at hn' hca2
   have hx3:=hx2.up hn3
   have gR3:(H2.up k3).get (H.next+1)=some (.cells [.int .i64 0,.slice none 0 0] Qb false):=by rw[Qa.get_up];exact gR
   have gD3:(H2.up k3).get D=some (.cells [.int .i64 op,.slice ca l.length cap] Qz false):=by rw[Qa.get_up];exact gD
   have gV3:(H2.up k3).get V=some (.cells vs eV false):=by rw[Qa.get_up];exact gV
   have gC3:(H2.up k3).get cb=some (.cells (Qi (dn++a::l.drop (i+1))) Qd false):=by rw[Qa.get_up];exact gC
   generalize H2.up k3=H3 at hw3 hx3 gR3 gD3 gV3 gC3
   simp only[sxA,sxB,Nat.reduceBEq,Nat.reduceEqDiff,reduceCtorEq,mxA,mxB,Nat.reduceAdd,reduceIte,Nat.reduceLeDiff,splice,We,Qat,QcZ]
   obtain⟨H4,hH4⟩:∃h,h=(H3.push (.cells [.int .i64 0,.int .i64 0,.int .i64 0,.int .i64 0,.int .i64 0,.int .i64 0,.int .i64 0,.int .i64 0,.int .i64 0,.int .i64 0,.int .i64 0] Qd false)).set H3.next (.cells b.cells Qd false):=⟨_,rfl⟩
   have hw4:H4.Wf:=by rw[hH4];exact(hw3.push _).set (by rw[Qa.get_push,if_pos rfl]) _
   have hx4:Ext H3 H4:=by rw[hH4];exact((Ext.refl H3).push _).set (Nat.le_refl _) _
   have gB:H4.get H3.next=some (.cells b.cells Qd false):=by rw[hH4,Qa.get_set,if_pos rfl]
   have lR:=hw3.lt gR3
   have lD:=hw3.lt gD3
   have lV:=hw3.lt gV3
   have lC:=hw3.lt gC3
   have gR4:=(hx4.get _ lR).trans gR3
   have gD4:=(hx4.get _ lD).trans gD3
   have gV4:=(hx4.get _ lV).trans gV3
   have gC4:=(hx4.get _ lC).trans gC3
   have hx04:=hx3.trans hx4
   have b0:b.cells[0]? = some (.int .i64 b.k):=rfl
   have b10:b.cells[10]? = some (.int .i64 b.n):=rfl
   simp only[← hH4,sxA,sxB,Nat.reduceBEq,Nat.reduceEqDiff,reduceCtorEq,mxA,mxB,Nat.reduceAdd,reduceIte,Nat.reduceLeDiff,splice]
   cases q1:be==0 with
   | false=>
    have hx5:Ext H (H4.set (H.next+1) (.cells [.int .i64 0,.slice none 0 0] Qb false)):=hx04.set (by omega) _
    simp only[sxA,sxB,Nat.reduceBEq,Nat.reduceEqDiff,reduceCtorEq,mxA,mxB,Nat.reduceAdd,reduceIte,Nat.reduceLeDiff,splice,a2,gR4,Jq]
    refine .mk hx5.next (QoJ hx5 (hie _ _ hcan ?_ |>.trans ?_))
    all_goals (rw[had,hca2,q1];simp[q1])
   | true=>
    simp only[Qdh,sxA,sxB,Nat.reduceBEq,Nat.reduceEqDiff,reduceCtorEq,mxA,mxB,Nat.reduceAdd,reduceIte,Nat.reduceLeDiff,splice,gB,b0]
    have hs:=fun b2:Ar=>QmZ dn a b2 (l.drop (i+1))
    simp only[splice,hdn,We]at hs
    have fin:∀ (b2:Ar) (H5:Qa) (A3:Env),Kw (ib1,ib2) a=(b2,0)→Ext H H5→H5.Wf→H5.get (H.next+1)=some (.cells [.int .i64 0,.slice none 0 0] Qb false)→H5.get D=some (.cells [.int .i64 op,.slice ca l.length cap] Qz false)→H5.get V=some (.cells vs eV false)→H5.get cb=some (.cells (Qi (dn++a::l.drop (i+1))) Qd false)→
      A3 2=.pointer (some ⟨H.next+1,0,none⟩)→A3 5=.int .i64 ib1→A3 6=.bool ib2→A3 7=.pointer (some ⟨D,0,none⟩)→A3 58=.slice (some ⟨V,0,none⟩) l.length l.length→A3 59=.int .i64 (l.length:Int)→A3 60=.int .i64 ((i+1:Nat):Int)→
      Qqf (fun m' A2 H2=>∃ (i:Nat) (dn:List Ar),i≤l.length∧m'=l.length - i∧dn.length=i∧WC (ib1,ib2) l=(dn++(WC (ib1,ib2) (l.drop i)).1,(WC (ib1,ib2) (l.drop i)).2)∧Ext H H2∧H2.Wf∧
  A2 2=.pointer (some ⟨H.next+1,0,none⟩)∧A2 5=.int .i64 ib1∧A2 6=.bool ib2∧A2 7=.pointer (some ⟨D,0,none⟩)∧A2 58=.slice (some ⟨V,0,none⟩) l.length l.length∧A2 59=.int .i64 (l.length:Int)∧A2 60=.int .i64 i∧
  H2.get (H.next+1)=some (.cells [.int .i64 0,.slice none 0 0] Qb false)∧H2.get D=some (.cells [.int .i64 op,.slice ca l.length cap] Qz false)∧H2.get V=some (.cells vs eV false)∧(0<l.length→H2.get cb=some (.cells (Qi (dn++l.drop i)) Qd false))) (l.length - i) A3 (H5.set cb (.cells (Qi (dn++b2::l.drop (i+1))) Qd false)):=by
     intro b2 H5 A3 hb2 hx5 hw5 gR5 gD5 gV5 gC5 p2 p5 p6 p7 p58 p59 p60
     refine⟨l.length - (i+1),by omega,i+1,dn++[b2],by omega,rfl,by simp[hdn],?_,hx5.set (by omega) _,hw5.set gC5 _,p2,p5,p6,p7,p58,p59,p60,?_,?_,?_,fun _=>?_⟩
     ·rw[hcan,had,hb2]
      simp
     ·rw[Qa.get_set,if_neg (by omega)];exact gR5
     ·rw[Qa.get_set,if_neg (by omega)];exact gD5
     ·rw[Qa.get_set,if_neg (by omega)];exact gV5
     ·rw[Qa.get_set,if_pos rfl,List.append_assoc];rfl
    cases q2:b.k==3 with
    | false=>
     have hnew:Kw (ib1,ib2) a=(b,0):=by rw[hca2,q1,q2];rfl
     simp only[sxA,sxB,Nat.reduceBEq,Nat.reduceEqDiff,reduceCtorEq,mxA,mxB,Nat.reduceAdd,reduceIte,Nat.reduceLeDiff,splice,gB,gC4,hlen,c4,We,Qat,QcZ,hs,a60,ei]
     refine fin b H4 _ hnew hx04 hw4 gR4 gD4 gV4 gC4 ?_ ?_ ?_ ?_ ?_ ?_ ?_
     all_goals simp only[uxA,uxB,Nat.reduceBEq,a2,a5,a6,a7,a58,a59]
    | true=>
     have hca3:Kw (ib1,ib2) a=({b with n:=(JL b.n ib1 ib2).1},(JL b.n ib1 ib2).2):=by rw[hca2,q1,q2];rfl
     simp only[Qdg,sxA,sxB,Nat.reduceBEq,Nat.reduceEqDiff,reduceCtorEq,mxA,mxB,Nat.reduceAdd,reduceIte,Nat.reduceLeDiff,splice,gB,b10,a5,a6]
     refine(KQ b.n ib1 ib2 hn' H4).thenW ?_
     rintro _ H4 _ hw4 ⟨rfl,rfl⟩
     generalize JL b.n ib1 ib2=im at hca3
     obtain⟨im1,im2⟩:=im
     simp only at hca3
     have hsp:=Qwb b im1
     simp only[splice,Nat.reduceAdd,List.length_cons,List.length_nil]at hsp
     have gB5:∀bl,(H4.set H3.next bl).get H3.next=some bl:=fun bl=>by rw[Qa.get_set,if_pos rfl]
     have wB5:∀bl,(H4.set H3.next bl).Wf:=fun bl=>hw4.set gB bl
     have xB5:∀bl,Ext H (H4.set H3.next bl):=fun bl=>hx04.set (by have:=hx3.next;omega) bl
     have oB5:∀bl id,¬id=H3.next→(H4.set H3.next bl).get id=H4.get id:=fun bl id h=>by rw[Qa.get_set,if_neg h]
     have tl:(b.cells.take 10++(Value.int .i64 im1::b.cells.drop 11))=({b with n:=im1}:Ar).cells:=by simp[Ar.cells]
     have nR:¬H.next+1=H3.next:=by omega
     have nD:¬D=H3.next:=by omega
     have nV:¬V=H3.next:=by omega
     have nC:¬cb=H3.next:=by omega
     simp only[sxA,sxB,Nat.reduceBEq,Nat.reduceEqDiff,reduceCtorEq,mxA,mxB,Nat.reduceAdd,reduceIte,Nat.reduceLeDiff,splice,gB,We,Qat,QcZ,tl]
     cases q3:im2==0 with
     | false=>
      have hx5:∀bl,Ext H ((H4.set H3.next bl).set (H.next+1) (.cells [.int .i64 0,.slice none 0 0] Qb false)):=fun bl=>(xB5 bl).set (by omega) _
      simp only[sxA,sxB,Nat.reduceBEq,Nat.reduceEqDiff,reduceCtorEq,mxA,mxB,Nat.reduceAdd,reduceIte,Nat.reduceLeDiff,splice,a2,nR,gR4,Jq]
      refine .mk (hx5 _).next (QoJ (hx5 _) (hie _ _ hcan ?_ |>.trans ?_))
      all_goals (rw[had,hca3];simp[q3])
     | true=>
      have hnew:Kw (ib1,ib2) a=({b with n:=im1},0):=by rw[hca3];simp at q3;rw[q3]
      simp only[sxA,sxB,Nat.reduceBEq,Nat.reduceEqDiff,reduceCtorEq,mxA,mxB,Nat.reduceAdd,reduceIte,Nat.reduceLeDiff,splice,nC,gB,gC4,hlen,c4,We,Qat,QcZ,hs,a60,ei]
      refine fin {b with n:=im1} (H4.set H3.next _) _ hnew (xB5 _) (wB5 _) ((oB5 _ _ nR).trans gR4) ((oB5 _ _ nD).trans gD4) ((oB5 _ _ nV).trans gV4) ((oB5 _ _ nC).trans gC4) ?_ ?_ ?_ ?_ ?_ ?_ ?_
      all_goals simp only[uxA,uxB,Nat.reduceBEq,a2,a5,a6,a7,a58,a59]
  ·have h2:i=l.length:=by have:=of_decide_eq_false h2;omega
   subst h2
   simp only[sxA,sxB,Nat.reduceBEq,Nat.reduceEqDiff,reduceCtorEq,mxA,mxB,Nat.reduceAdd,reduceIte,Nat.reduceLeDiff,splice]
   rw[← hT,e7,Qe3,QjV]
   rw[List.drop_length,Qqs,List.append_nil]at hcan
   refine QuL op l H e k _ H2 D _ dn hx2 hw2 hD (by simp only[uxA,uxB,Nat.reduceBEq,a2]) (by simp only[uxA,uxB,Nat.reduceBEq,a7]) gR gD ⟨ca,cap,by rw[hdn],fun h=>?_⟩ (by omega) (fun a n c h=>by cases h;have:=hca _ rfl;have:=hw2.lt gD;omega) (fun x y h=>?_) (hic _ hcan)
   ·have h0:0<l.length:=by omega
    obtain⟨hca1,_⟩:=hcb h0
    have:=gC h0
    rw[List.drop_length,List.append_nil]at this
    exact⟨cb,_,_,hca1,this⟩
   ·have h0:0<l.length:=by rw[← hdn,h];simp
    obtain⟨hca1,_⟩:=hcb h0
    have:=gC h0
    rw[List.drop_length,List.append_nil]at this
    exact⟨cb,cap,by rw[hca1,← hdn,h];rfl,this⟩
theorem QuM (z:Array Value) (m:Nat):(W9 z m).length=m:=by simp[W9]
theorem QoL (v:Value) (hv:QS H v l) (hl:l.length≤1000) (hI:∀a∈l,I64 a.n):Qe prog QcE [.agg #[.int .i64 op,v]] H (Qe9 op l H):=by
 refine QmT fun hw=>?_
 obtain⟨a0,c0,rfl,_⟩:=id hv
 have hx0:Ext H ((H.push (.cells [.int .i64 op,.slice a0 l.length c0] Qb false)).push (.cells [.int .i64 0,.slice none 0 0] Qb false)):=((Ext.refl H).push _).push _
 have ne1:¬H.next=H.next+1:=by omega
 have gI:((H.push (.cells [.int .i64 op,.slice a0 l.length c0] Qb false)).push (.cells [.int .i64 0,.slice none 0 0] Qb false)).get H.next=some (.cells [.int .i64 op,.slice a0 l.length c0] Qb false):=by rw[Qa.get_push,Qa.next_push,if_neg ne1,Qa.get_push,if_pos rfl]
 have gR:((H.push (.cells [.int .i64 op,.slice a0 l.length c0] Qb false)).push (.cells [.int .i64 0,.slice none 0 0] Qb false)).get (H.next+1)=some (.cells [.int .i64 0,.slice none 0 0] Qb false):=by rw[Qa.get_push,Qa.next_push,if_pos rfl]
 have hw0:=(hw.push (.cells [.int .i64 op,.slice a0 l.length c0] Qb false)).push (.cells [.int .i64 0,.slice none 0 0] Qb false)
 have hn0:((H.push (.cells [.int .i64 op,.slice a0 l.length c0] Qb false)).push (.cells [.int .i64 0,.slice none 0 0] Qb false)).next=H.next+2:=by simp only[Qa.next_push]
 simp only[QfI,sxA,sxB,Nat.reduceBEq,Nat.reduceEqDiff,reduceCtorEq,mxA,mxB,Nat.reduceAdd,reduceIte,Nat.reduceLeDiff,splice]
 refine Qp7 (fun _ _ _=>False) 0 ?_ (fun _ _ _ h=>h.elim)
 generalize (H.push (.cells [.int .i64 op,.slice a0 l.length c0] Qb false)).push (.cells [.int .i64 0,.slice none 0 0] Qb false)=H0 at *
 generalize jmK 0 _ 0 _=e
 simp only[QbO,sxA,sxB,Nat.reduceBEq,Nat.reduceEqDiff,reduceCtorEq,mxA,mxB,Nat.reduceAdd,reduceIte,Nat.reduceLeDiff,splice,gI]
 refine(Vb op _ l H0 (hv.ext hw hx0) hl hI).thenW ?_
 rintro _ _ hn1 hw1 ⟨rfl,k1,rfl⟩
 simp only[Qa.next_up]at hn1
 have hx1:=hx0.up hn1
 have gI1:(H0.up k1).get H.next=some (.cells [.int .i64 op,.slice a0 l.length c0] Qb false):=by rw[Qa.get_up];exact gI
 have gR1:(H0.up k1).get (H.next+1)=some (.cells [.int .i64 0,.slice none 0 0] Qb false):=by rw[Qa.get_up];exact gR
 have hm1:H.next+2≤(H0.up k1).next:=by simp only[Qa.next_up];omega
 generalize H0.up k1=H1 at *
 simp only[sxA,sxB,Nat.reduceBEq,Nat.reduceEqDiff,reduceCtorEq,mxA,mxB,Nat.reduceAdd,reduceIte,Nat.reduceLeDiff,splice]
 cases hck:QX op l==0 with
 | false=>
  have hx2:Ext H (H1.set (H.next+1) (.cells [.int .i64 0,.slice none 0 0] Qb false)):=hx1.set (by omega) _
  simp only[sxA,sxB,Nat.reduceBEq,Nat.reduceEqDiff,reduceCtorEq,mxA,mxB,Nat.reduceAdd,reduceIte,Nat.reduceLeDiff,splice,gR1,Jq]
  exact .mk hx2.next (QoJ hx2 (by unfold Wn;rw[if_pos hck]))
 | true=>
  have hl4:=Qgx hck
  simp only[QbN,sxA,sxB,Nat.reduceBEq,Nat.reduceEqDiff,reduceCtorEq,mxA,mxB,Nat.reduceAdd,reduceIte,Nat.reduceLeDiff,splice,gI1]
  refine(Qas op _ l H1 (hv.ext hw hx1) hl).thenW ?_
  rintro _ _ hn2 hw2 ⟨rfl,k2,rfl⟩
  simp only[Qa.next_up]at hn2
  have hx2:=hx1.up hn2
  have gI2:(H1.up k2).get H.next=some (.cells [.int .i64 op,.slice a0 l.length c0] Qb false):=by rw[Qa.get_up];exact gI1
  have gR2:(H1.up k2).get (H.next+1)=some (.cells [.int .i64 0,.slice none 0 0] Qb false):=by rw[Qa.get_up];exact gR1
  have hm2:H.next+2≤(H1.up k2).next:=by simp only[Qa.next_up];omega
  generalize H1.up k2=H2 at *
  simp only[sxA,sxB,Nat.reduceBEq,Nat.reduceEqDiff,reduceCtorEq,mxA,mxB,Nat.reduceAdd,reduceIte,Nat.reduceLeDiff,splice,gI2]
  refine⟨rfl,(Qtu _ l H2 (hv.ext hw hx2) hl).thenW ?_⟩
  rintro u H3 hn3 hw3 ⟨hx3,hcl⟩
  -- what the clone is
  obtain⟨ca,cap,cb,rfl,hcb⟩:∃ca cap cb,u=.slice ca l.length cap∧((0<l.length→ca=some ⟨cb,0,none⟩∧H2.next≤cb∧H3.get cb=some (.cells (Qi l) Qd false))∧(∀a,ca=some a→H2.next≤a.block∧a.block<H3.next)):=by
   rcases hcl with⟨rfl,rfl | ⟨rfl,rfl⟩⟩ | ⟨hne,rfl,rfl⟩
   ·exact⟨none,0,0,rfl,fun h=>absurd h (Nat.lt_irrefl 0),fun a h=>by cases h⟩
   ·exact⟨_,0,0,rfl,fun h=>absurd h (Nat.lt_irrefl 0),fun a h=>by cases h;simp only[Qa.next_push];omega⟩
   ·refine⟨_,_,H2.next+1,rfl,fun _=>⟨rfl,by omega,by rw[Qa.get_push,if_pos (by simp only[Qa.next_push])]⟩,fun a h=>by cases h;simp only[Qa.next_push];omega⟩
  obtain⟨hcb,hca⟩:=hcb
  have gR3:=(hx3.get _ (hw2.lt gR2)).trans gR2
  have hx03:=hx2.trans hx3
  have hxn3:=hx3.next
  have hbl:Qj H2.next 6 (.int .i64 op)=true:=rfl
  simp only[sxA,sxB,Nat.reduceBEq,Nat.reduceEqDiff,reduceCtorEq,mxA,mxB,Nat.reduceAdd,reduceIte,Nat.reduceLeDiff,splice]
  refine⟨hx3.eqB,?_⟩
  refine⟨⟨by omega,by omega,by omega,by omega⟩,?_⟩
  generalize hT:Qp prog Zb ⟨Rt prog QcU H (Qe9 op l H),e⟩ (Rt prog QcU H (Qe9 op l H))=T
  generalize hzs:W9 _ _=zs
  have hzl:zs.length=l.length:=by rw[← hzs,QuM];omega
  have hnat:((l.length:Int)).toNat=l.length:=by omega
  simp only[hnat]
  generalize hH4:(H3.push (.cells [.int .i64 op,.slice ca l.length cap] Qz false)).push (.cells zs _ false)=H4
  have ne3:¬H3.next=H3.next+1:=by omega
  have hx4:Ext H3 H4:=by rw[← hH4];exact((Ext.refl H3).push _).push _
  have hw4:H4.Wf:=by rw[← hH4];exact(hw3.push _).push _
  have gD4:H4.get H3.next=some (.cells [.int .i64 op,.slice ca l.length cap] Qz false):=by rw[← hH4,Qa.get_push,Qa.next_push,if_neg ne3,Qa.get_push,if_pos rfl]
  obtain⟨eV,gV4⟩:∃eV,H4.get (H3.next+1)=some (.cells zs eV false):=⟨_,by rw[← hH4,Qa.get_push,Qa.next_push,if_pos rfl]⟩
  have gR4:=(hx4.get _ (hw3.lt gR3)).trans gR3
  have gC4:0<l.length→H4.get cb=some (.cells (Qi l) Qd false):=fun h=>(hx4.get _ (hw3.lt (hcb h).2.2)).trans (hcb h).2.2
  have hcb3:0<l.length→cb<H3.next:=fun h=>hw3.lt (hcb h).2.2
  have hx04:=hx03.trans hx4
  clear hH4 hzs
  refine Qy (fun m' A2 H5=>∃ (i:Nat) (cs:List Value),i≤l.length∧m'=l.length - i∧cs.length=l.length∧(∀j,j<i→cs[j]? = some (.pointer (some ⟨cb,j * 11,none⟩)))∧Ext H H5∧H5.Wf∧
   A2 2=.pointer (some ⟨H.next+1,0,none⟩)∧A2 5=.int .i64 (W0 op l).1∧A2 6=.bool (W0 op l).2∧A2 7=.pointer (some ⟨H3.next,0,none⟩)∧A2 8=.slice (some ⟨H3.next+1,0,none⟩) l.length l.length∧A2 44=.int .i64 (l.length:Int)∧A2 45=.int .i64 i∧
   H5.get (H.next+1)=some (.cells [.int .i64 0,.slice none 0 0] Qb false)∧H5.get H3.next=some (.cells [.int .i64 op,.slice ca l.length cap] Qz false)∧H5.get (H3.next+1)=some (.cells cs eV false)∧(0<l.length→H5.get cb=some (.cells (Qi l) Qd false))) l.length ?_ ?_
  ·refine⟨0,zs,Nat.zero_le _,by omega,hzl,fun j h=>by omega,hx04,hw4,?_,?_,?_,?_,?_,?_,?_,gR4,gD4,gV4,gC4⟩
   all_goals simp only[uxA,uxB,Nat.reduceBEq]
   all_goals rfl
  ·rintro m' A2 H5 ⟨i,cs,hi,rfl,hcsl,hcs,hx5,hw5,a2,a5,a6,a7,a8,a44,a45,gR5,gD5,gV5,gC5⟩
   simp only[QbM,sxA,sxB,Nat.reduceBEq,Nat.reduceEqDiff,reduceCtorEq,mxA,mxB,Nat.reduceAdd,reduceIte,Nat.reduceLeDiff,splice,a44,a45]
   refine Qg (fun h2=>?_) (fun h2=>?_)
   ·have h2:i<l.length:=by have:=of_decide_eq_true h2;omega
    obtain⟨hc1,hc2,hc3⟩:=hcb (by omega)
    have hc4:=hcb3 (by omega)
    have c1:(0:Int)≤i∧(i:Int)<l.length:=by omega
    have c3:(i:Int).toNat=i:=by omega
    have c4:i+1≤l.length:=h2
    have ei:IntKind.i64.wrap ((i:Int)+1)=((i+1:Nat):Int):=by rw[w64 (by unfold I64;omega)];omega
    subst hc1
    have hpt:(Value.pointer (some ⟨cb,i * 11,none⟩)).cells.toList=[.pointer (some ⟨cb,i * 11,none⟩)]:=rfl
    have hpo:(Value.pointer (some ⟨cb,i * 11,none⟩)).oneCell'=true:=rfl
    have hsl:=Qso cs i [.pointer (some ⟨cb,i * 11,none⟩)] (by simp;omega)
    have hsa:=QuK cs i (.pointer (some ⟨cb,i * 11,none⟩)) (by omega)
    have hsb:=fun j (hj:j<i)=>QmY cs i [.pointer (some ⟨cb,i * 11,none⟩)] (by omega) j hj
    simp only[splice,List.length_cons,List.length_nil,Nat.zero_add,List.cons_append,List.nil_append]at hsl hsa hsb
    simp only[QbL,sxA,sxB,Nat.reduceBEq,Nat.reduceEqDiff,reduceCtorEq,mxA,mxB,Nat.reduceAdd,reduceIte,Nat.reduceLeDiff,splice,a7,a8,a45,c1,c3,c4,gD5,gV5,hcsl,hpt,hpo,ei]
    refine⟨l.length - (i+1),by omega,i+1,_,by omega,rfl,hsl.trans hcsl,fun j hj=>?_,hx5.set (by omega) _,hw5.set gV5 _,?_,?_,?_,?_,?_,?_,?_,?_,?_,by rw[Qa.get_set,if_pos rfl],fun h=>?_⟩
    ·rcases Nat.lt_or_ge j i with h | h
     ·rw[hsb j h];exact hcs j h
     ·rw[show j=i by omega];exact hsa
    all_goals (try simp only[uxA,uxB,Nat.reduceBEq,a2,a5,a6,a7,a8,a44])
    ·rw[Qa.get_set,if_neg (by omega)];exact gR5
    ·rw[Qa.get_set,if_neg (by omega)];exact gD5
    ·rw[Qa.get_set,if_neg (by omega)];exact gC5 h
   ·have h2:i=l.length:=by have:=of_decide_eq_false h2;omega
    subst h2
    simp only[sxA,sxB,Nat.reduceBEq,Nat.reduceEqDiff,reduceCtorEq,mxA,mxB,Nat.reduceAdd,reduceIte,Nat.reduceLeDiff,splice]
    rw[← hT]
    refine Qwc op l H e _ _ H5 H3.next (H3.next+1) cb cap ca cs eV hx5 hw5 (by omega) (by omega) (by omega) (by simp only[uxA,uxB,Nat.reduceBEq,a2]) (by simp only[uxA,uxB,Nat.reduceBEq,a5]) (by simp only[uxA,uxB,Nat.reduceBEq,a6]) (by simp only[uxA,uxB,Nat.reduceBEq,a7]) (by simp only[uxA,uxB,Nat.reduceBEq,a8]) gR5 gD5 gV5 hcsl hcs (fun h=>?_) (fun a h=>?_) hck hI
    ·obtain⟨hc1,hc2,hc3⟩:=hcb h
     have hc4:=hcb3 h
     exact⟨hc1,by omega,by omega,by omega,gC5 h⟩
    ·have:=hca a h
     exact⟨by omega,by omega,by omega⟩
end
theorem Qwd (n b:Int) (h:I64 n):I64 (Qfj n b):=by
 unfold I64 at *
 unfold Qfj
 split
 ·omega
 ·split
  ·omega
  ·split<;>omega
theorem Qwe (n b:Int) (h:I64 n):I64 (Qfi n b):=by
 unfold I64 at *
 unfold Qfi
 split
 ·omega
 ·split
  ·omega
  ·split<;>omega
theorem Qqt (n b:Int) (sg:Bool) (h:I64 n):I64 (JL n b sg).1:=by
 unfold JL
 split
 ·unfold I64;omega
 ·split
  ·unfold I64;omega
  ·split
   ·exact Qwd n b h
   ·exact Qwe n b h
end Go.Proofs.YtgepgbbjfhggfaaGreatDoor.code
