/- Registers. -/
import Derived.Test.YtdjkkoacinpdeaaGreatDoorC2Code
import Derived.Test.YtdjkkoacinpdeaaGreatDoorLibO
set_option linter.unusedVariables false
set_option linter.unusedSimpArgs false
set_option maxRecDepth 100000
namespace Go.Proofs.YtdjkkoacinpdeaaGreatDoor.code
open Go.Ab
structure Rg where
 c:Int
 n:Int
 deriving DecidableEq
def Rg.cells (r:Rg):List Value:=[.int .i64 r.c,.int .i64 r.n]
def Qdl (c:Int):Int×Int:=if c=2 then(4,4) else if c=8 then(0,1) else if c=1∨c=3∨c=4∨c=5∨c=6∨c=7 then(0,16) else(0,0)
def WW (r:Rg):Bool:=decide ((Qdl r.c).1≤r.n∧r.n<(Qdl r.c).1+(Qdl r.c).2)
theorem Qjg (c:Int) (H:Qa):Qf prog QaS [.int .i64 c] H fun u H'=>u=.tuple #[.int .i64 (Qdl c).1,.int .i64 (Qdl c).2]∧H'=H:=by
 refine QiC fun hw=>?_
 simp only[QdZ,sxA,sxB,mxA,mxB,splice,simprocAttr,VH]
 repeat' (first | (refine Qp (fun h=>?_) (fun h=>?_)<;>simp only[sxA,sxB,mxA,mxB,splice,simprocAttr,VH]) | (refine Qe (fun h=>?_) (fun h=>?_)<;>simp only[sxA,sxB,mxA,mxB,splice,simprocAttr,VH]))
 all_goals refine .mk (Nat.le_refl _) ⟨?_,rfl⟩
 all_goals simp_all [Qdl]
theorem QrQ (c:Int):0≤(Qdl c).1∧(Qdl c).1≤4∧0≤(Qdl c).2∧(Qdl c).2≤16:=by
 unfold Qdl
 split
 ·decide
 split
 ·decide
 split<;>decide
theorem Qd0 (r:Rg) (H:Qa):Qf prog Vk [.agg r.cells.toArray] H fun u H'=>u=.bool (WW r)∧∃m,H'=H.up m:=by
 refine QkN fun hw=>?_
 obtain⟨c,n⟩:=r
 have hb:=QrQ c
 have e1:IntKind.i64.wrap ((Qdl c).1+(Qdl c).2)=(Qdl c).1+(Qdl c).2:=w64 (by unfold I64;omega)
 simp only[Rg.cells,QfV,sxA,sxB,mxA,mxB,splice,simprocAttr]
 refine(Qjg c _).thenW ?_
 rintro _ H1 hn1 hw1 ⟨rfl,rfl⟩
 simp only[sxA,sxB,mxA,mxB,splice,simprocAttr,QeI,e1]
 refine Qp (fun h=>?_) (fun h=>?_)
 all_goals simp only[sxA,sxB,mxA,mxB,splice,simprocAttr,QeI,e1,h]
 all_goals refine .ext hw ((Ext.refl H).push _) ⟨?_,_,rfl⟩
 all_goals (simp_all [WW]<;>omega)
def QbG (r:Rg):Int:=if WW r=false then 0 else if r.c=7 then 32 else if r.c=6 then 16 else if r.c=5∨r.c=8 then 8 else if r.c=4 then 4 else if r.c=3 then 2 else 1
theorem Qm4 (r:Rg) (H:Qa):Qf prog Qe3 [.agg r.cells.toArray] H fun u H'=>u=.int .i64 (QbG r)∧∃m,H'=H.up m:=by
 refine QlO fun hw=>?_
 have q:=Qd0 r
 obtain⟨v,hv⟩:∃v,WW r=v:=⟨_,rfl⟩
 rw[hv]at q
 obtain⟨c,n⟩:=r
 simp only[Rg.cells]at q
 simp only[Rg.cells,Qg9,JP,JQ,JR,sxA,sxB,mxA,mxB,splice,simprocAttr]
 refine(q _).thenW ?_
 rintro _ H1 hn1 hw1 ⟨rfl,m,rfl⟩
 simp only[Qa.next_push]at hn1
 have hx:Ext H ((H.push (.cells [.int .i64 c,.int .i64 n] QI false)).up m):=((Ext.refl H).push _).up (by simp only[Qa.next_push];exact hn1)
 simp only[sxA,sxB,mxA,mxB,splice,simprocAttr,V1]
 cases v
 all_goals simp only[sxA,sxB,mxA,mxB,splice,simprocAttr,V1,JP,JQ,JR]
 ·exact .ext hw hx ⟨by simp[QbG,hv],_,rfl⟩
 repeat' (first | (refine Qp (fun h=>?_) (fun h=>?_)<;>simp only[sxA,sxB,mxA,mxB,splice,simprocAttr,V1,JP,JQ,JR,h]) | (refine Qe (fun h=>?_) (fun h=>?_)<;>simp only[sxA,sxB,mxA,mxB,splice,simprocAttr,V1,JP,JQ,JR,h]))
 all_goals refine .ext hw hx ⟨?_,_,rfl⟩
 all_goals (simp_all [QbG]<;>decide)
theorem Qi (ne:Bool) (a b c d:Int) (H:Qa) (k:Value→Qa→Prop):Qru ne [.i,.i] (.agg #[.int .i64 a,.int .i64 b]) (.agg #[.int .i64 c,.int .i64 d]) H k=k (.bool (bif ne then !((a==c)&&(b==d)) else((a==c)&&(b==d)))) H:=by
 refine Qow ?_
 by_cases h:a=c<;>by_cases g:b=d<;>simp[VX,QqY,h,g]
/-! ### Places -/
structure Mm where
 b:Rg
 i:Rg
 sc:Int
 d:Int
 sz:Int
 deriving DecidableEq
def Mm.cells (m:Mm):List Value:=[.int .i64 m.b.c,.int .i64 m.b.n,.int .i64 m.i.c,.int .i64 m.i.n,.int .i64 m.sc,.int .i64 m.d,.int .i64 m.sz]
def W8 (r:Rg):Bool:=(r.c==5)&&WW r
theorem Qm5 (r:Rg) (H:Qa):Qf prog Qb5 [.agg r.cells.toArray] H fun u H'=>u=.bool (W8 r)∧∃m,H'=H.up m:=by
 refine QlM fun hw=>?_
 have q:=Qd0 r
 obtain⟨v,hv⟩:∃v,WW r=v:=⟨_,rfl⟩
 rw[hv]at q
 obtain⟨c,n⟩:=r
 simp only[Rg.cells]at q
 simp only[Rg.cells,Qg7,sxA,sxB,mxA,mxB,splice,simprocAttr,Qcq]
 refine Qp (fun h=>?_) (fun h=>?_)
 all_goals simp only[sxA,sxB,mxA,mxB,splice,simprocAttr,Qcq,h]
 ·refine(q _).thenW ?_
  rintro _ H1 hn1 hw1 ⟨rfl,m,rfl⟩
  simp only[Qa.next_push]at hn1
  have hx:Ext H ((H.push (.cells [.int .i64 c,.int .i64 n] QI false)).up m):=((Ext.refl H).push _).up (by simp only[Qa.next_push];exact hn1)
  simp only[sxA,sxB,mxA,mxB,splice,simprocAttr,Qcq,h]
  exact .ext hw hx ⟨by simp[W8,hv,h],_,rfl⟩
 ·exact .ext hw ((Ext.refl H).push _) ⟨by simp[W8,h],_,rfl⟩
def YH (n:Int):Bool:=n==0||n==1||n==2||n==4||n==8||n==16||n==32
theorem QlP (n:Int) (H:Qa):Qf prog QdK [.int .i64 n] H fun u H'=>u=.bool (YH n)∧H'=H:=by
 refine QkM fun hw=>?_
 simp only[QfU,sxA,sxB,mxA,mxB,splice,simprocAttr,QaX]
 repeat' (first | (refine Qp (fun h=>?_) (fun h=>?_)<;>simp only[sxA,sxB,mxA,mxB,splice,simprocAttr,QaX,h]) | (refine Qe (fun h=>?_) (fun h=>?_)<;>simp only[sxA,sxB,mxA,mxB,splice,simprocAttr,QaX,h]))
 all_goals refine .mk (Nat.le_refl _) ⟨?_,rfl⟩
 all_goals simp_all [YH]
def Xt (n:Int):Bool:=n==1||n==2||n==4||n==8
theorem QkO (n:Int) (H:Qa):Qf prog Qb6 [.int .i64 n] H fun u H'=>u=.bool (Xt n)∧∃m,H'=H.up m:=by
 refine Qjf fun hw=>?_
 have t1:prog.underlying QlH=some (.map QhF QhF):=by kernel_rfl
 have t2:prog.underlying QhF=some (.int .i64):=by kernel_rfl
 have t3:(prog.info? QhF).map (·.zero)=some (some (.int .i64 0)):=by kernel_rfl
 obtain⟨inf,t4,t5⟩:=Option.map_eq_some_iff.1 t3
 simp only[QeH,sxA,sxB,mxA,mxB,splice,simprocAttr,XQ]
 rw[QfG (m:=H.next) (n:=1) (es:=[]) t1 t2 (by simp only[uxA,uxB,simprocAttr]) (by simp only[uxA,uxB,simprocAttr]) (by rw[Qa.get_push,if_pos rfl]) rfl]
 simp only[sxA,sxB,mxA,mxB,splice,simprocAttr,XQ]
 rw[QfG (m:=H.next) (n:=2) (es:=_) t1 t2 (by simp only[uxA,uxB,simprocAttr]) (by simp only[uxA,uxB,simprocAttr]) (by rw[Qa.get_set,if_pos rfl]) rfl]
 simp only[sxA,sxB,mxA,mxB,splice,simprocAttr,XQ]
 rw[QfG (m:=H.next) (n:=4) (es:=_) t1 t2 (by simp only[uxA,uxB,simprocAttr]) (by simp only[uxA,uxB,simprocAttr]) (by rw[Qa.get_set,if_pos rfl]) rfl]
 simp only[sxA,sxB,mxA,mxB,splice,simprocAttr,XQ]
 rw[QfG (m:=H.next) (n:=8) (es:=_) t1 t2 (by simp only[uxA,uxB,simprocAttr]) (by simp only[uxA,uxB,simprocAttr]) (by rw[Qa.get_set,if_pos rfl]) rfl]
 simp only[sxA,sxB,mxA,mxB,splice,simprocAttr,XQ]
 have hr:∃r,Qkw n [(Value.int IntKind.i64 1,Value.int IntKind.i64 0),(Value.int IntKind.i64 2,Value.int IntKind.i64 1),(Value.int IntKind.i64 4,Value.int IntKind.i64 2),(Value.int IntKind.i64 8,Value.int IntKind.i64 3)] 0=some r∧r.isSome=Xt n:=by
  simp only[Qkw]
  split
  ·exact⟨_,rfl,by simp_all [Xt]⟩
  split
  ·exact⟨_,rfl,by simp_all [Xt]⟩
  split
  ·exact⟨_,rfl,by simp_all [Xt]⟩
  split
  ·exact⟨_,rfl,by simp_all [Xt]⟩
  ·exact⟨_,rfl,by simp_all [Xt]⟩
 obtain⟨r,h1,h2⟩:=hr
 rw[QoD (m:=H.next) (n:=n) (es:=_) t1 t2 t4 t5 rfl (by simp only[uxA,uxB,simprocAttr]) (by simp only[uxA,uxB,simprocAttr]) (by rw[Qa.get_set,if_pos rfl]) h1]
 have hx:∀a b c d e,Ext H (((((H.push a).set H.next b).set H.next c).set H.next d).set H.next e):=fun a b c d e=>(((((Ext.refl H).push a).set (Nat.le_refl _) b).set (Nat.le_refl _) c).set (Nat.le_refl _) d).set (Nat.le_refl _) e
 cases r with
 | none=>
  simp only[QlD,sxA,sxB,mxA,mxB,splice,simprocAttr,XQ]
  exact .ext hw (hx _ _ _ _ _) ⟨by rw[← h2];rfl,_,rfl⟩
 | some q=>
  obtain⟨q1,q2⟩:=q
  simp only[QlD,sxA,sxB,mxA,mxB,splice,simprocAttr,XQ]
  exact .ext hw (hx _ _ _ _ _) ⟨by rw[← h2];rfl,_,rfl⟩
def isR (r:Rg) (c n:Int):Bool:=(r.c==c)&&(r.n==n)
def Qm (m:Mm):Int:=
 if(decide (m.d < -2147483648)||decide (m.d>2147483647))=true then 5
 else if YH m.sz=false then 2
 else if(!isR m.b 0 0&&!isR m.b 8 0&&!W8 m.b)=true then 2
 else if(isR m.i 0 0&&!(m.sc==0))=true then 2
 else if isR m.i 0 0=true then 0
 else if(!W8 m.i||!Xt m.sc||isR m.b 8 0)=true then 2
 else if(isR m.i 5 4&&(!(m.sc==1)||isR m.b 5 4))=true then 2
 else 0
def mcF (H:Qa) (c:List Value) (A:Env) (H':Qa):Prop:=Ext H H'∧A 1=.pointer (some ⟨H.next,0,none⟩)∧A 3=.pointer (some ⟨H.next+1,0,none⟩)∧A 4=.pointer (some ⟨H.next+2,0,none⟩)∧A 5=.pointer (some ⟨H.next+3,0,none⟩)∧
 H'.get H.next=some (.cells c Qg false)∧H'.get (H.next+1)=some (.cells [.int .i64 0,.int .i64 0] QI false)∧H'.get (H.next+2)=some (.cells [.int .i64 8,.int .i64 0] QI false)∧H'.get (H.next+3)=some (.cells [.int .i64 5,.int .i64 4] QI false)
theorem mcF.up {H H':Qa} {c:List Value} {A:Env} (h:mcF H c A H') {k:Nat} (hk:H'.next≤k):mcF H c A (H'.up k):=by
 obtain⟨hx,r1,r3,r4,r5,g0,g1,g2,g3⟩:=h
 exact⟨hx.up hk,r1,r3,r4,r5,g0,g1,g2,g3⟩
theorem mcF.env {H H':Qa} {c:List Value} {A B:Env} (h:mcF H c A H') (h1:B 1=A 1) (h3:B 3=A 3) (h4:B 4=A 4) (h5:B 5=A 5):mcF H c B H':=by
 obtain⟨hx,r1,r3,r4,r5,g0,g1,g2,g3⟩:=h
 exact⟨hx,h1.trans r1,h3.trans r3,h4.trans r4,h5.trans r5,g0,g1,g2,g3⟩
theorem Qha (m:Mm) (H:Qa):Qf prog QaF [.agg m.cells.toArray] H fun u H'=>u=.int .i64 (Qm m)∧∃k,H'=H.up k:=by
 refine QkK fun hw=>?_
 have qs:=QlP m.sz
 have qw:=fun r=>Qm5 r
 have qc:=QkO m.sc
 obtain⟨⟨bc,bn⟩,⟨ic,nn⟩,sc,d,sz⟩:=m
 simp only at qs qc
 simp only[Mm.cells,QfT,sxA,sxB,mxA,mxB,splice,simprocAttr,Qd,Nat.add_assoc,Nat.add_eq_left,Nat.left_eq_add]
 obtain⟨cs,hcs⟩:∃cs,cs=[Value.int .i64 bc,.int .i64 bn,.int .i64 ic,.int .i64 nn,.int .i64 sc,.int .i64 d,.int .i64 sz]:=⟨_,rfl⟩
 generalize hE:exK 0 _ Y8=E0
 generalize hK:Qj prog _ _ (Rt prog _ H _)=K0
 have hret:∀A H',Ext H H'→Qm ⟨⟨bc,bn⟩,⟨ic,nn⟩,sc,d,sz⟩=0→K0 A H':=by
  intro A H' hx h0
  rw[← hK]
  simp only[sxA,sxB,mxA,mxB,splice,simprocAttr,Qd]
  exact .ext hw hx ⟨by rw[h0],_,rfl⟩
 have P1:∀A H',mcF H cs A H'→(decide (d < -2147483648)||decide (2147483647<d))=false→YH sz=true→(!isR ⟨bc,bn⟩ 0 0&&!isR ⟨bc,bn⟩ 8 0&&!W8 ⟨bc,bn⟩)=false→(isR ⟨ic,nn⟩ 0 0&&!(sc==0))=false→isR ⟨ic,nn⟩ 0 0=false→(!W8 ⟨ic,nn⟩||!Xt sc||isR ⟨bc,bn⟩ 8 0)=false→Qj prog Qah ⟨Rt prog KB H fun u H'=>u=.int .i64 (Qm ⟨⟨bc,bn⟩,⟨ic,nn⟩,sc,d,sz⟩)∧∃k,H'=H.up k,E0⟩ K0 A H':=by
  rintro A H' ⟨hx,r1,r3,r4,r5,g0,g1,g2,g3⟩ c0 c1 c2 c3 c4 c5
  rw[hcs]at g0
  simp only[Qah]
  simp only[sxA,sxB,mxA,mxB,splice,simprocAttr,Qd,Qi,r1,r3,r4,r5,g0,g1,g2,g3]
  repeat' (first
   | (refine Qp (fun h=>?_) (fun h=>?_)<;>(try simp only[Bool.not_eq_true',Bool.not_eq_false']at h)<;>simp only[sxA,sxB,mxA,mxB,splice,simprocAttr,Qd,Qi,r1,r3,r4,r5,g0,g1,g2,g3,h])
   | (refine Qe (fun h=>?_) (fun h=>?_)<;>(try simp only[Bool.not_eq_true',Bool.not_eq_false']at h)<;>simp only[sxA,sxB,mxA,mxB,splice,simprocAttr,Qd,Qi,r1,r3,r4,r5,g0,g1,g2,g3,h])
   | (refine(qs _).thenW ?_;rintro _ _ hn hw2 ⟨rfl,rfl⟩;simp only[sxA,sxB,mxA,mxB,splice,simprocAttr,Qd,Qi,r1,r3,r4,r5,g0,g1,g2,g3])
   | (refine(qw ⟨bc,bn⟩ _).thenW ?_;rintro _ _ hn hw2 ⟨rfl,k,rfl⟩;have hx:=hx.up (show _≤k from hn);simp only[sxA,sxB,mxA,mxB,splice,simprocAttr,Qd,Qi,r1,r3,r4,r5,g0,g1,g2,g3])
   | (refine(qw ⟨ic,nn⟩ _).thenW ?_;rintro _ _ hn hw2 ⟨rfl,k,rfl⟩;have hx:=hx.up (show _≤k from hn);simp only[sxA,sxB,mxA,mxB,splice,simprocAttr,Qd,Qi,r1,r3,r4,r5,g0,g1,g2,g3])
   | (refine(qc _).thenW ?_;rintro _ _ hn hw2 ⟨rfl,k,rfl⟩;have hx:=hx.up (show _≤k from hn);simp only[sxA,sxB,mxA,mxB,splice,simprocAttr,Qd,Qi,r1,r3,r4,r5,g0,g1,g2,g3]))
  all_goals first
   | (have hb:(isR ⟨ic,nn⟩ 5 4&&(!(sc==1)||isR ⟨bc,bn⟩ 5 4))=true:=(by(try simp only[isR]);simp[*]);exact .ext hw hx ⟨by first | (simp only[Qm,c0,c1,c2,c3,c4,c5,hb,Bool.false_eq_true,if_false,if_true,Bool.false_and,Bool.true_and,Bool.and_false,Bool.and_true,Bool.false_or,Bool.true_or,Bool.or_false,Bool.or_true,Bool.not_true,Bool.not_false,reduceCtorEq,gt_iff_lt,eq_self];done) | (have c9:=c3;simp only[hb,Bool.true_and]at c9;simp only[Qm,c0,c1,c2,hb,c9,Bool.false_eq_true,if_false,if_true,Bool.true_and,reduceCtorEq,gt_iff_lt,eq_self]),_,rfl⟩)
   | (have hb:(isR ⟨ic,nn⟩ 5 4&&(!(sc==1)||isR ⟨bc,bn⟩ 5 4))=false:=(by(try simp only[isR]);simp[*]);exact .ext hw hx ⟨by first | (simp only[Qm,c0,c1,c2,c3,c4,c5,hb,Bool.false_eq_true,if_false,if_true,Bool.false_and,Bool.true_and,Bool.and_false,Bool.and_true,Bool.false_or,Bool.true_or,Bool.or_false,Bool.or_true,Bool.not_true,Bool.not_false,reduceCtorEq,gt_iff_lt,eq_self];done) | (have c9:=c3;simp only[hb,Bool.true_and]at c9;simp only[Qm,c0,c1,c2,hb,c9,Bool.false_eq_true,if_false,if_true,Bool.true_and,reduceCtorEq,gt_iff_lt,eq_self]),_,rfl⟩)
   | (have hb:(isR ⟨ic,nn⟩ 5 4&&(!(sc==1)||isR ⟨bc,bn⟩ 5 4))=false:=(by(try simp only[isR]);simp[*]);exact hret _ _ hx (by simp only[Qm,c0,c1,c2,c3,c4,c5,hb,Bool.false_eq_true,if_false,if_true,Bool.false_and,Bool.true_and,Bool.and_false,Bool.and_true,Bool.false_or,Bool.true_or,Bool.or_false,Bool.or_true,Bool.not_true,Bool.not_false,reduceCtorEq,gt_iff_lt,eq_self]))
 have P2:∀A H',mcF H cs A H'→(decide (d < -2147483648)||decide (2147483647<d))=false→YH sz=true→(!isR ⟨bc,bn⟩ 0 0&&!isR ⟨bc,bn⟩ 8 0&&!W8 ⟨bc,bn⟩)=false→(isR ⟨ic,nn⟩ 0 0&&!(sc==0))=false→isR ⟨ic,nn⟩ 0 0=false→Qj prog Qai ⟨Rt prog KB H fun u H'=>u=.int .i64 (Qm ⟨⟨bc,bn⟩,⟨ic,nn⟩,sc,d,sz⟩)∧∃k,H'=H.up k,E0⟩ K0 A H':=by
  rintro A H' ⟨hx,r1,r3,r4,r5,g0,g1,g2,g3⟩ c0 c1 c2 c3 c4
  rw[hcs]at g0
  simp only[Qai]
  simp only[sxA,sxB,mxA,mxB,splice,simprocAttr,Qd,Qi,r1,r3,r4,r5,g0,g1,g2,g3]
  repeat' (first
   | (refine Qp (fun h=>?_) (fun h=>?_)<;>(try simp only[Bool.not_eq_true',Bool.not_eq_false']at h)<;>simp only[sxA,sxB,mxA,mxB,splice,simprocAttr,Qd,Qi,r1,r3,r4,r5,g0,g1,g2,g3,h])
   | (refine Qe (fun h=>?_) (fun h=>?_)<;>(try simp only[Bool.not_eq_true',Bool.not_eq_false']at h)<;>simp only[sxA,sxB,mxA,mxB,splice,simprocAttr,Qd,Qi,r1,r3,r4,r5,g0,g1,g2,g3,h])
   | (refine(qs _).thenW ?_;rintro _ _ hn hw2 ⟨rfl,rfl⟩;simp only[sxA,sxB,mxA,mxB,splice,simprocAttr,Qd,Qi,r1,r3,r4,r5,g0,g1,g2,g3])
   | (refine(qw ⟨bc,bn⟩ _).thenW ?_;rintro _ _ hn hw2 ⟨rfl,k,rfl⟩;have hx:=hx.up (show _≤k from hn);simp only[sxA,sxB,mxA,mxB,splice,simprocAttr,Qd,Qi,r1,r3,r4,r5,g0,g1,g2,g3])
   | (refine(qw ⟨ic,nn⟩ _).thenW ?_;rintro _ _ hn hw2 ⟨rfl,k,rfl⟩;have hx:=hx.up (show _≤k from hn);simp only[sxA,sxB,mxA,mxB,splice,simprocAttr,Qd,Qi,r1,r3,r4,r5,g0,g1,g2,g3])
   | (refine(qc _).thenW ?_;rintro _ _ hn hw2 ⟨rfl,k,rfl⟩;have hx:=hx.up (show _≤k from hn);simp only[sxA,sxB,mxA,mxB,splice,simprocAttr,Qd,Qi,r1,r3,r4,r5,g0,g1,g2,g3]))
  all_goals first
   | (have hb:(!W8 ⟨ic,nn⟩||!Xt sc||isR ⟨bc,bn⟩ 8 0)=true:=(by(try simp only[isR]);simp[*]);exact .ext hw hx ⟨by first | (simp only[Qm,c0,c1,c2,c3,c4,hb,Bool.false_eq_true,if_false,if_true,Bool.false_and,Bool.true_and,Bool.and_false,Bool.and_true,Bool.false_or,Bool.true_or,Bool.or_false,Bool.or_true,Bool.not_true,Bool.not_false,reduceCtorEq,gt_iff_lt,eq_self];done) | (have c9:=c3;simp only[hb,Bool.true_and]at c9;simp only[Qm,c0,c1,c2,hb,c9,Bool.false_eq_true,if_false,if_true,Bool.true_and,reduceCtorEq,gt_iff_lt,eq_self]),_,rfl⟩)
   | (have hb:(!W8 ⟨ic,nn⟩||!Xt sc||isR ⟨bc,bn⟩ 8 0)=false:=(by(try simp only[isR]);simp[*]);exact .ext hw hx ⟨by first | (simp only[Qm,c0,c1,c2,c3,c4,hb,Bool.false_eq_true,if_false,if_true,Bool.false_and,Bool.true_and,Bool.and_false,Bool.and_true,Bool.false_or,Bool.true_or,Bool.or_false,Bool.or_true,Bool.not_true,Bool.not_false,reduceCtorEq,gt_iff_lt,eq_self];done) | (have c9:=c3;simp only[hb,Bool.true_and]at c9;simp only[Qm,c0,c1,c2,hb,c9,Bool.false_eq_true,if_false,if_true,Bool.true_and,reduceCtorEq,gt_iff_lt,eq_self]),_,rfl⟩)
   | (have hb:(!W8 ⟨ic,nn⟩||!Xt sc||isR ⟨bc,bn⟩ 8 0)=false:=(by(try simp only[isR]);simp[*]);exact P1 _ _ (mcF.env ⟨hx,r1,r3,r4,r5,by rw[hcs];exact g0,g1,g2,g3⟩ (by simp only[uxA,uxB,simprocAttr]) (by simp only[uxA,uxB,simprocAttr]) (by simp only[uxA,uxB,simprocAttr]) (by simp only[uxA,uxB,simprocAttr])) c0 c1 c2 c3 c4 hb)
 have P3:∀A H',mcF H cs A H'→(decide (d < -2147483648)||decide (2147483647<d))=false→YH sz=true→(!isR ⟨bc,bn⟩ 0 0&&!isR ⟨bc,bn⟩ 8 0&&!W8 ⟨bc,bn⟩)=false→(isR ⟨ic,nn⟩ 0 0&&!(sc==0))=false→Qj prog Qaj ⟨Rt prog KB H fun u H'=>u=.int .i64 (Qm ⟨⟨bc,bn⟩,⟨ic,nn⟩,sc,d,sz⟩)∧∃k,H'=H.up k,E0⟩ K0 A H':=by
  rintro A H' ⟨hx,r1,r3,r4,r5,g0,g1,g2,g3⟩ c0 c1 c2 c3
  rw[hcs]at g0
  simp only[Qaj]
  simp only[sxA,sxB,mxA,mxB,splice,simprocAttr,Qd,Qi,r1,r3,r4,r5,g0,g1,g2,g3]
  repeat' (first
   | (refine Qp (fun h=>?_) (fun h=>?_)<;>(try simp only[Bool.not_eq_true',Bool.not_eq_false']at h)<;>simp only[sxA,sxB,mxA,mxB,splice,simprocAttr,Qd,Qi,r1,r3,r4,r5,g0,g1,g2,g3,h])
   | (refine Qe (fun h=>?_) (fun h=>?_)<;>(try simp only[Bool.not_eq_true',Bool.not_eq_false']at h)<;>simp only[sxA,sxB,mxA,mxB,splice,simprocAttr,Qd,Qi,r1,r3,r4,r5,g0,g1,g2,g3,h])
   | (refine(qs _).thenW ?_;rintro _ _ hn hw2 ⟨rfl,rfl⟩;simp only[sxA,sxB,mxA,mxB,splice,simprocAttr,Qd,Qi,r1,r3,r4,r5,g0,g1,g2,g3])
   | (refine(qw ⟨bc,bn⟩ _).thenW ?_;rintro _ _ hn hw2 ⟨rfl,k,rfl⟩;have hx:=hx.up (show _≤k from hn);simp only[sxA,sxB,mxA,mxB,splice,simprocAttr,Qd,Qi,r1,r3,r4,r5,g0,g1,g2,g3])
   | (refine(qw ⟨ic,nn⟩ _).thenW ?_;rintro _ _ hn hw2 ⟨rfl,k,rfl⟩;have hx:=hx.up (show _≤k from hn);simp only[sxA,sxB,mxA,mxB,splice,simprocAttr,Qd,Qi,r1,r3,r4,r5,g0,g1,g2,g3])
   | (refine(qc _).thenW ?_;rintro _ _ hn hw2 ⟨rfl,k,rfl⟩;have hx:=hx.up (show _≤k from hn);simp only[sxA,sxB,mxA,mxB,splice,simprocAttr,Qd,Qi,r1,r3,r4,r5,g0,g1,g2,g3]))
  all_goals first
   | (have hb:isR ⟨ic,nn⟩ 0 0=true:=(by(try simp only[isR]);simp[*]);exact .ext hw hx ⟨by first | (simp only[Qm,c0,c1,c2,c3,hb,Bool.false_eq_true,if_false,if_true,Bool.false_and,Bool.true_and,Bool.and_false,Bool.and_true,Bool.false_or,Bool.true_or,Bool.or_false,Bool.or_true,Bool.not_true,Bool.not_false,reduceCtorEq,gt_iff_lt,eq_self];done) | (have c9:=c3;simp only[hb,Bool.true_and]at c9;simp only[Qm,c0,c1,c2,hb,c9,Bool.false_eq_true,if_false,if_true,Bool.true_and,reduceCtorEq,gt_iff_lt,eq_self]),_,rfl⟩)
   | (have hb:isR ⟨ic,nn⟩ 0 0=false:=(by(try simp only[isR]);simp[*]);exact .ext hw hx ⟨by first | (simp only[Qm,c0,c1,c2,c3,hb,Bool.false_eq_true,if_false,if_true,Bool.false_and,Bool.true_and,Bool.and_false,Bool.and_true,Bool.false_or,Bool.true_or,Bool.or_false,Bool.or_true,Bool.not_true,Bool.not_false,reduceCtorEq,gt_iff_lt,eq_self];done) | (have c9:=c3;simp only[hb,Bool.true_and]at c9;simp only[Qm,c0,c1,c2,hb,c9,Bool.false_eq_true,if_false,if_true,Bool.true_and,reduceCtorEq,gt_iff_lt,eq_self]),_,rfl⟩)
   | (have hb:isR ⟨ic,nn⟩ 0 0=false:=(by(try simp only[isR]);simp[*]);exact P2 _ _ (mcF.env ⟨hx,r1,r3,r4,r5,by rw[hcs];exact g0,g1,g2,g3⟩ (by simp only[uxA,uxB,simprocAttr]) (by simp only[uxA,uxB,simprocAttr]) (by simp only[uxA,uxB,simprocAttr]) (by simp only[uxA,uxB,simprocAttr])) c0 c1 c2 c3 hb)
 have P4:∀A H',mcF H cs A H'→(decide (d < -2147483648)||decide (2147483647<d))=false→YH sz=true→(!isR ⟨bc,bn⟩ 0 0&&!isR ⟨bc,bn⟩ 8 0&&!W8 ⟨bc,bn⟩)=false→Qj prog Qak ⟨Rt prog KB H fun u H'=>u=.int .i64 (Qm ⟨⟨bc,bn⟩,⟨ic,nn⟩,sc,d,sz⟩)∧∃k,H'=H.up k,E0⟩ K0 A H':=by
  rintro A H' ⟨hx,r1,r3,r4,r5,g0,g1,g2,g3⟩ c0 c1 c2
  rw[hcs]at g0
  simp only[Qak]
  simp only[sxA,sxB,mxA,mxB,splice,simprocAttr,Qd,Qi,r1,r3,r4,r5,g0,g1,g2,g3]
  repeat' (first
   | (refine Qp (fun h=>?_) (fun h=>?_)<;>(try simp only[Bool.not_eq_true',Bool.not_eq_false']at h)<;>simp only[sxA,sxB,mxA,mxB,splice,simprocAttr,Qd,Qi,r1,r3,r4,r5,g0,g1,g2,g3,h])
   | (refine Qe (fun h=>?_) (fun h=>?_)<;>(try simp only[Bool.not_eq_true',Bool.not_eq_false']at h)<;>simp only[sxA,sxB,mxA,mxB,splice,simprocAttr,Qd,Qi,r1,r3,r4,r5,g0,g1,g2,g3,h])
   | (refine(qs _).thenW ?_;rintro _ _ hn hw2 ⟨rfl,rfl⟩;simp only[sxA,sxB,mxA,mxB,splice,simprocAttr,Qd,Qi,r1,r3,r4,r5,g0,g1,g2,g3])
   | (refine(qw ⟨bc,bn⟩ _).thenW ?_;rintro _ _ hn hw2 ⟨rfl,k,rfl⟩;have hx:=hx.up (show _≤k from hn);simp only[sxA,sxB,mxA,mxB,splice,simprocAttr,Qd,Qi,r1,r3,r4,r5,g0,g1,g2,g3])
   | (refine(qw ⟨ic,nn⟩ _).thenW ?_;rintro _ _ hn hw2 ⟨rfl,k,rfl⟩;have hx:=hx.up (show _≤k from hn);simp only[sxA,sxB,mxA,mxB,splice,simprocAttr,Qd,Qi,r1,r3,r4,r5,g0,g1,g2,g3])
   | (refine(qc _).thenW ?_;rintro _ _ hn hw2 ⟨rfl,k,rfl⟩;have hx:=hx.up (show _≤k from hn);simp only[sxA,sxB,mxA,mxB,splice,simprocAttr,Qd,Qi,r1,r3,r4,r5,g0,g1,g2,g3]))
  all_goals first
   | (have hb:(isR ⟨ic,nn⟩ 0 0&&!(sc==0))=true:=(by(try simp only[isR]);simp[*]);exact .ext hw hx ⟨by first | (simp only[Qm,c0,c1,c2,hb,Bool.false_eq_true,if_false,if_true,Bool.false_and,Bool.true_and,Bool.and_false,Bool.and_true,Bool.false_or,Bool.true_or,Bool.or_false,Bool.or_true,Bool.not_true,Bool.not_false,reduceCtorEq,gt_iff_lt,eq_self];done) | (have c9:=c3;simp only[hb,Bool.true_and]at c9;simp only[Qm,c0,c1,c2,hb,c9,Bool.false_eq_true,if_false,if_true,Bool.true_and,reduceCtorEq,gt_iff_lt,eq_self]),_,rfl⟩)
   | (have hb:(isR ⟨ic,nn⟩ 0 0&&!(sc==0))=false:=(by(try simp only[isR]);simp[*]);exact .ext hw hx ⟨by first | (simp only[Qm,c0,c1,c2,hb,Bool.false_eq_true,if_false,if_true,Bool.false_and,Bool.true_and,Bool.and_false,Bool.and_true,Bool.false_or,Bool.true_or,Bool.or_false,Bool.or_true,Bool.not_true,Bool.not_false,reduceCtorEq,gt_iff_lt,eq_self];done) | (have c9:=c3;simp only[hb,Bool.true_and]at c9;simp only[Qm,c0,c1,c2,hb,c9,Bool.false_eq_true,if_false,if_true,Bool.true_and,reduceCtorEq,gt_iff_lt,eq_self]),_,rfl⟩)
   | (have hb:(isR ⟨ic,nn⟩ 0 0&&!(sc==0))=false:=(by(try simp only[isR]);simp[*]);exact P3 _ _ (mcF.env ⟨hx,r1,r3,r4,r5,by rw[hcs];exact g0,g1,g2,g3⟩ (by simp only[uxA,uxB,simprocAttr]) (by simp only[uxA,uxB,simprocAttr]) (by simp only[uxA,uxB,simprocAttr]) (by simp only[uxA,uxB,simprocAttr])) c0 c1 c2 hb)
 have P5:∀A H',mcF H cs A H'→(decide (d < -2147483648)||decide (2147483647<d))=false→YH sz=true→Qj prog Qal ⟨Rt prog KB H fun u H'=>u=.int .i64 (Qm ⟨⟨bc,bn⟩,⟨ic,nn⟩,sc,d,sz⟩)∧∃k,H'=H.up k,E0⟩ K0 A H':=by
  rintro A H' ⟨hx,r1,r3,r4,r5,g0,g1,g2,g3⟩ c0 c1
  rw[hcs]at g0
  simp only[Qal]
  simp only[sxA,sxB,mxA,mxB,splice,simprocAttr,Qd,Qi,r1,r3,r4,r5,g0,g1,g2,g3]
  repeat' (first
   | (refine Qp (fun h=>?_) (fun h=>?_)<;>(try simp only[Bool.not_eq_true',Bool.not_eq_false']at h)<;>simp only[sxA,sxB,mxA,mxB,splice,simprocAttr,Qd,Qi,r1,r3,r4,r5,g0,g1,g2,g3,h])
   | (refine Qe (fun h=>?_) (fun h=>?_)<;>(try simp only[Bool.not_eq_true',Bool.not_eq_false']at h)<;>simp only[sxA,sxB,mxA,mxB,splice,simprocAttr,Qd,Qi,r1,r3,r4,r5,g0,g1,g2,g3,h])
   | (refine(qs _).thenW ?_;rintro _ _ hn hw2 ⟨rfl,rfl⟩;simp only[sxA,sxB,mxA,mxB,splice,simprocAttr,Qd,Qi,r1,r3,r4,r5,g0,g1,g2,g3])
   | (refine(qw ⟨bc,bn⟩ _).thenW ?_;rintro _ _ hn hw2 ⟨rfl,k,rfl⟩;have hx:=hx.up (show _≤k from hn);simp only[sxA,sxB,mxA,mxB,splice,simprocAttr,Qd,Qi,r1,r3,r4,r5,g0,g1,g2,g3])
   | (refine(qw ⟨ic,nn⟩ _).thenW ?_;rintro _ _ hn hw2 ⟨rfl,k,rfl⟩;have hx:=hx.up (show _≤k from hn);simp only[sxA,sxB,mxA,mxB,splice,simprocAttr,Qd,Qi,r1,r3,r4,r5,g0,g1,g2,g3])
   | (refine(qc _).thenW ?_;rintro _ _ hn hw2 ⟨rfl,k,rfl⟩;have hx:=hx.up (show _≤k from hn);simp only[sxA,sxB,mxA,mxB,splice,simprocAttr,Qd,Qi,r1,r3,r4,r5,g0,g1,g2,g3]))
  all_goals first
   | (have hb:(!isR ⟨bc,bn⟩ 0 0&&!isR ⟨bc,bn⟩ 8 0&&!W8 ⟨bc,bn⟩)=true:=(by(try simp only[isR]);simp[*]);exact .ext hw hx ⟨by first | (simp only[Qm,c0,c1,hb,Bool.false_eq_true,if_false,if_true,Bool.false_and,Bool.true_and,Bool.and_false,Bool.and_true,Bool.false_or,Bool.true_or,Bool.or_false,Bool.or_true,Bool.not_true,Bool.not_false,reduceCtorEq,gt_iff_lt,eq_self];done) | (have c9:=c3;simp only[hb,Bool.true_and]at c9;simp only[Qm,c0,c1,c2,hb,c9,Bool.false_eq_true,if_false,if_true,Bool.true_and,reduceCtorEq,gt_iff_lt,eq_self]),_,rfl⟩)
   | (have hb:(!isR ⟨bc,bn⟩ 0 0&&!isR ⟨bc,bn⟩ 8 0&&!W8 ⟨bc,bn⟩)=false:=(by(try simp only[isR]);simp[*]);exact .ext hw hx ⟨by first | (simp only[Qm,c0,c1,hb,Bool.false_eq_true,if_false,if_true,Bool.false_and,Bool.true_and,Bool.and_false,Bool.and_true,Bool.false_or,Bool.true_or,Bool.or_false,Bool.or_true,Bool.not_true,Bool.not_false,reduceCtorEq,gt_iff_lt,eq_self];done) | (have c9:=c3;simp only[hb,Bool.true_and]at c9;simp only[Qm,c0,c1,c2,hb,c9,Bool.false_eq_true,if_false,if_true,Bool.true_and,reduceCtorEq,gt_iff_lt,eq_self]),_,rfl⟩)
   | (have hb:(!isR ⟨bc,bn⟩ 0 0&&!isR ⟨bc,bn⟩ 8 0&&!W8 ⟨bc,bn⟩)=false:=(by(try simp only[isR]);simp[*]);exact P4 _ _ (mcF.env ⟨hx,r1,r3,r4,r5,by rw[hcs];exact g0,g1,g2,g3⟩ (by simp only[uxA,uxB,simprocAttr]) (by simp only[uxA,uxB,simprocAttr]) (by simp only[uxA,uxB,simprocAttr]) (by simp only[uxA,uxB,simprocAttr])) c0 c1 hb)
 have P6:∀A H',mcF H cs A H'→(decide (d < -2147483648)||decide (2147483647<d))=false→Qj prog Qam ⟨Rt prog KB H fun u H'=>u=.int .i64 (Qm ⟨⟨bc,bn⟩,⟨ic,nn⟩,sc,d,sz⟩)∧∃k,H'=H.up k,E0⟩ K0 A H':=by
  rintro A H' ⟨hx,r1,r3,r4,r5,g0,g1,g2,g3⟩ c0
  rw[hcs]at g0
  simp only[Qam]
  simp only[sxA,sxB,mxA,mxB,splice,simprocAttr,Qd,Qi,r1,r3,r4,r5,g0,g1,g2,g3]
  repeat' (first
   | (refine Qp (fun h=>?_) (fun h=>?_)<;>(try simp only[Bool.not_eq_true',Bool.not_eq_false']at h)<;>simp only[sxA,sxB,mxA,mxB,splice,simprocAttr,Qd,Qi,r1,r3,r4,r5,g0,g1,g2,g3,h])
   | (refine Qe (fun h=>?_) (fun h=>?_)<;>(try simp only[Bool.not_eq_true',Bool.not_eq_false']at h)<;>simp only[sxA,sxB,mxA,mxB,splice,simprocAttr,Qd,Qi,r1,r3,r4,r5,g0,g1,g2,g3,h])
   | (refine(qs _).thenW ?_;rintro _ _ hn hw2 ⟨rfl,rfl⟩;simp only[sxA,sxB,mxA,mxB,splice,simprocAttr,Qd,Qi,r1,r3,r4,r5,g0,g1,g2,g3])
   | (refine(qw ⟨bc,bn⟩ _).thenW ?_;rintro _ _ hn hw2 ⟨rfl,k,rfl⟩;have hx:=hx.up (show _≤k from hn);simp only[sxA,sxB,mxA,mxB,splice,simprocAttr,Qd,Qi,r1,r3,r4,r5,g0,g1,g2,g3])
   | (refine(qw ⟨ic,nn⟩ _).thenW ?_;rintro _ _ hn hw2 ⟨rfl,k,rfl⟩;have hx:=hx.up (show _≤k from hn);simp only[sxA,sxB,mxA,mxB,splice,simprocAttr,Qd,Qi,r1,r3,r4,r5,g0,g1,g2,g3])
   | (refine(qc _).thenW ?_;rintro _ _ hn hw2 ⟨rfl,k,rfl⟩;have hx:=hx.up (show _≤k from hn);simp only[sxA,sxB,mxA,mxB,splice,simprocAttr,Qd,Qi,r1,r3,r4,r5,g0,g1,g2,g3]))
  all_goals first
   | (have hb:YH sz=true:=(by(try simp only[isR]);simp[*]);exact .ext hw hx ⟨by first | (simp only[Qm,c0,hb,Bool.false_eq_true,if_false,if_true,Bool.false_and,Bool.true_and,Bool.and_false,Bool.and_true,Bool.false_or,Bool.true_or,Bool.or_false,Bool.or_true,Bool.not_true,Bool.not_false,reduceCtorEq,gt_iff_lt,eq_self];done) | (have c9:=c3;simp only[hb,Bool.true_and]at c9;simp only[Qm,c0,c1,c2,hb,c9,Bool.false_eq_true,if_false,if_true,Bool.true_and,reduceCtorEq,gt_iff_lt,eq_self]),_,rfl⟩)
   | (have hb:YH sz=false:=(by(try simp only[isR]);simp[*]);exact .ext hw hx ⟨by first | (simp only[Qm,c0,hb,Bool.false_eq_true,if_false,if_true,Bool.false_and,Bool.true_and,Bool.and_false,Bool.and_true,Bool.false_or,Bool.true_or,Bool.or_false,Bool.or_true,Bool.not_true,Bool.not_false,reduceCtorEq,gt_iff_lt,eq_self];done) | (have c9:=c3;simp only[hb,Bool.true_and]at c9;simp only[Qm,c0,c1,c2,hb,c9,Bool.false_eq_true,if_false,if_true,Bool.true_and,reduceCtorEq,gt_iff_lt,eq_self]),_,rfl⟩)
   | (have hb:YH sz=true:=(by(try simp only[isR]);simp[*]);exact P5 _ _ (mcF.env ⟨hx,r1,r3,r4,r5,by rw[hcs];exact g0,g1,g2,g3⟩ (by simp only[uxA,uxB,simprocAttr]) (by simp only[uxA,uxB,simprocAttr]) (by simp only[uxA,uxB,simprocAttr]) (by simp only[uxA,uxB,simprocAttr])) c0 hb)
 have hx0:∀b c d e f g h,Ext H (((((((H.push b).push c).set (H.next+1) d).push e).set (H.next+2) f).push g).set (H.next+3) h):=fun b c d e f g h=>
  (((((((Ext.refl H).push b).push c).set (by omega) d).push e).set (by omega) f).push g).set (by omega) h
 have fin:∀A,A 1=.pointer (some ⟨H.next,0,none⟩)→A 3=.pointer (some ⟨H.next+1,0,none⟩)→A 4=.pointer (some ⟨H.next+2,0,none⟩)→A 5=.pointer (some ⟨H.next+3,0,none⟩)→∀d e f,mcF H cs A (((((((H.push (.cells cs Qg false)).push d).set (H.next+1) (.cells [.int .i64 0,.int .i64 0] QI false)).push e).set (H.next+2) (.cells [.int .i64 8,.int .i64 0] QI false)).push f).set (H.next+3) (.cells [.int .i64 5,.int .i64 4] QI false)):=by
  intro A r1 r3 r4 r5 d e f
  refine⟨hx0 _ _ _ _ _ _ _,r1,r3,r4,r5,?_,?_,?_,?_⟩<;>simp[Qa.get_set,Qa.get_push,Nat.add_assoc]
 rw[← hcs]
 refine Qp (fun h=>?_) (fun h=>?_)<;>(try simp only[Bool.not_eq_true',Bool.not_eq_false']at h)<;>simp only[sxA,sxB,mxA,mxB,splice,simprocAttr,Qd,Nat.add_assoc,Nat.add_eq_left,Nat.left_eq_add,h,hcs]
 ·refine Qe (fun h2=>?_) (fun h2=>?_)<;>simp only[sxA,sxB,mxA,mxB,splice,simprocAttr,Qd,h2]
  ·exact .ext hw (hx0 _ _ _ _ _ _ _) ⟨by simp only[Qm,h,gt_iff_lt,h2,Bool.or_true,if_true],_,rfl⟩
  ·rw[← hcs]
   exact P6 _ _ (fin _ (by simp only[uxA,uxB,simprocAttr]) (by simp only[uxA,uxB,simprocAttr]) (by simp only[uxA,uxB,simprocAttr]) (by simp only[uxA,uxB,simprocAttr]) _ _ _) (by simp only[h,h2,Bool.or_false])
 ·exact .ext hw (hx0 _ _ _ _ _ _ _) ⟨by simp only[Qm,h,Bool.true_or,if_true],_,rfl⟩
def Gi:Mm:=⟨⟨0,0⟩,⟨0,0⟩,0,0,0⟩
def Wt (m:Mm):Mm:=
 if(isR m.i 0 0||!(m.sc==1))=true then m else if isR m.b 0 0=true then⟨m.i,⟨0,0⟩,0,m.d,m.sz⟩ else if(m.i.n==4)=true then⟨m.i,m.b,m.sc,m.d,m.sz⟩ else m
def Gj (m:Mm):Mm×Int:=if Qm m=0 then(Wt m,0) else(Gi,Qm m)
theorem Qhb (m:Mm) (H:Qa):Qf prog QaE [.agg m.cells.toArray] H fun u H'=>u=.tuple #[.agg (Gj m).1.cells.toArray,.int .i64 (Gj m).2]∧∃k,H'=H.up k:=by
 refine QkJ fun hw=>?_
 have q:=Qha m
 obtain⟨e,he⟩:∃e,Qm m=e:=⟨_,rfl⟩
 rw[he]at q
 have hc:Gj m=if e=0 then(Wt m,0) else(Gi,e):=by rw[← he];rfl
 rw[hc]
 clear hc he
 obtain⟨⟨bc,bn⟩,⟨ic,nn⟩,sc,d,sz⟩:=m
 simp only[Mm.cells]at q
 simp only[Mm.cells,QfS,Z2,Z3,Z4,Z5,sxA,sxB,mxA,mxB,splice,simprocAttr,Ve]
 refine(q _).thenW ?_
 rintro _ _ hn hw2 ⟨rfl,k,rfl⟩
 simp only[Qa.next_push,Qa.next_up]at hn
 have k0:¬H.next=k:=by omega
 have k1:¬H.next+1=k:=by omega
 have k2:¬H.next=k+1:=by omega
 have k3:¬H.next+1=k+1:=by omega
 simp only[sxA,sxB,mxA,mxB,splice,simprocAttr,Ve,Z2,Z3,Z4,Z5,Qi,Nat.add_assoc,Nat.add_eq_left,Nat.left_eq_add,k0,k1,k2,k3]
 repeat' (first
   | refine⟨by simp[Qn,plain],by omega,?_⟩
   | (refine Qp (fun h=>?_) (fun h=>?_)<;>(try simp only[Bool.not_eq_true',Bool.not_eq_false']at h)<;>simp only[sxA,sxB,mxA,mxB,splice,simprocAttr,Ve,Z2,Z3,Z4,Z5,Qi,Nat.add_assoc,Nat.add_eq_left,Nat.left_eq_add,k0,k1,k2,k3,h])
   | (refine Qe (fun h=>?_) (fun h=>?_)<;>(try simp only[Bool.not_eq_true',Bool.not_eq_false']at h)<;>simp only[sxA,sxB,mxA,mxB,splice,simprocAttr,Ve,Z2,Z3,Z4,Z5,Qi,Nat.add_assoc,Nat.add_eq_left,Nat.left_eq_add,k0,k1,k2,k3,h]))
 all_goals refine .ext hw ?_ ⟨?_,_,rfl⟩
 all_goals try (repeat' (first | exact Ext.refl _ | refine Ext.push ?_ _ | refine Ext.up ?_ (by first | assumption | (simp only[Qa.next_push,Qa.next_set];omega)) | refine Ext.set ?_ (by omega) _))
 all_goals (try have he0:e=0:=by simpa using ‹(e==0)=true›)<;>(try have he0:¬e=0:=by simpa using ‹(e==0)=false›)
 all_goals (simp only[Wt,Gi,isR,Mm.cells, *,Bool.false_eq_true,if_false,if_true,Bool.false_and,Bool.true_and,Bool.and_false,Bool.and_true,Bool.false_or,Bool.true_or,Bool.or_false,Bool.or_true,Bool.not_true,Bool.not_false,reduceCtorEq,eq_self];done)
structure Ar where
 k:Int
 r:Rg
 m:Mm
 n:Int
 deriving DecidableEq
def Ar.cells (a:Ar):List Value:=[.int .i64 a.k,.int .i64 a.r.c,.int .i64 a.r.n,.int .i64 a.m.b.c,.int .i64 a.m.b.n,.int .i64 a.m.i.c,.int .i64 a.m.i.n,.int .i64 a.m.sc,.int .i64 a.m.d,.int .i64 a.m.sz,.int .i64 a.n]
def Wu (a:Ar):Int:=
 if(a.k==1)=true then(if(!WW a.r||(a.r.c==8))=true then 2 else 0)
 else if(a.k==2)=true then Qm a.m
 else if(a.k==3)=true then 0
 else if(a.k==4)=true then(if(decide (a.n < -2147483648)||decide (2147483647<a.n))=true then 5 else 0)
 else 2
theorem VI (a:Ar) (H:Qa):Qf prog Zv [.agg a.cells.toArray] H fun u H'=>u=.int .i64 (Wu a)∧∃k,H'=H.up k:=by
 refine Qgu fun hw=>?_
 have q1:=Qd0 a.r
 have q2:=Qha a.m
 obtain⟨k,⟨rc,rn⟩,⟨⟨bc,bn⟩,⟨ic,nn⟩,sc,d,sz⟩,n⟩:=a
 simp only[Rg.cells,Mm.cells]at q1 q2
 simp(disch:=omega) only[Ar.cells,QbF,Zo,Zp,Zq,Zr,Zs,sxA,sxB,mxD,mxB,splice,simprocAttr,Yv]
 repeat' (first
   | (refine Qp (fun h=>?_) (fun h=>?_)<;>(try simp only[Bool.not_eq_true',Bool.not_eq_false']at h)<;>simp(disch:=omega) only[sxA,sxB,mxD,mxB,splice,simprocAttr,Yv,Zo,Zp,Zq,Zr,Zs,h])
   | (refine Qe (fun h=>?_) (fun h=>?_)<;>(try simp only[Bool.not_eq_true',Bool.not_eq_false']at h)<;>simp(disch:=omega) only[sxA,sxB,mxD,mxB,splice,simprocAttr,Yv,Zo,Zp,Zq,Zr,Zs,h])
   | (refine(q1 _).thenW ?_;rintro _ _ hn hw2 ⟨rfl,k,rfl⟩;simp only[Qa.next_push,Qa.next_up,Qa.next_set]at hn;simp(disch:=omega) only[sxA,sxB,mxD,mxB,splice,simprocAttr,Yv])
   | (refine(q2 _).thenW ?_;rintro _ _ hn hw2 ⟨rfl,k,rfl⟩;simp only[Qa.next_push,Qa.next_up,Qa.next_set]at hn;simp(disch:=omega) only[sxA,sxB,mxD,mxB,splice,simprocAttr,Yv]))
 all_goals refine .ext hw ?_ ⟨?_,_,rfl⟩
 all_goals try (repeat' (first | exact Ext.refl _ | refine Ext.push ?_ _ | refine Ext.up ?_ (by simp only[Qa.next_push,Qa.next_set,Qa.next_up];omega) | refine Ext.set ?_ (by omega) _))
 all_goals (simp only[Wu, *,Bool.false_eq_true,if_false,if_true,Bool.false_and,Bool.true_and,Bool.and_false,Bool.and_true,Bool.false_or,Bool.true_or,Bool.or_false,Bool.or_true,Bool.not_true,Bool.not_false,reduceCtorEq,eq_self])
/-! ### Canon -/
def QjZ:Ar:=⟨0,⟨0,0⟩,Gi,0⟩
def Kc (a:Ar):Ar:=if(a.k==1)=true then⟨a.k,a.r,Gi,0⟩ else if(a.k==2)=true then⟨a.k,⟨0,0⟩,Wt a.m,0⟩ else⟨a.k,⟨0,0⟩,Gi,a.n⟩
def QP (a:Ar):Ar×Int:=if(Wu a==0)=true then(Kc a,0) else(QjZ,Wu a)
theorem Qfb {a:Ar} (hk:(a.k==2)=true):Wu a=Qm a.m:=by
 have:a.k=2:=by simpa using hk
 simp[Wu,this]
theorem Qhq (a:Ar) (H:Qa):Qf prog VA [.agg a.cells.toArray] H fun u H'=>u=.tuple #[.agg (QP a).1.cells.toArray,.int .i64 (QP a).2]∧∃k,H'=H.up k:=by
 refine Qgt fun hw=>?_
 have q1:=VI a
 have q2:=Qhb a.m
 have hm:=@Qfb a
 have hcc:Gj a.m=if Qm a.m=0 then(Wt a.m,0) else(Gi,Qm a.m):=rfl
 have hce:QP a=if(Wu a==0)=true then(Kc a,0) else(QjZ,Wu a):=rfl
 rw[hce]
 rw[hcc]at q2
 clear hce hcc
 generalize Wu a=e at *
 generalize Qm a.m=f at *
 have hca:Kc a=if(a.k==1)=true then⟨a.k,a.r,Gi,0⟩ else if(a.k==2)=true then⟨a.k,⟨0,0⟩,Wt a.m,0⟩ else⟨a.k,⟨0,0⟩,Gi,a.n⟩:=rfl
 rw[hca]
 clear hca
 generalize Wt a.m=mc at *
 obtain⟨k,⟨rc,rn⟩,⟨⟨bc,bn⟩,⟨ic,nn⟩,sc,d,sz⟩,n⟩:=a
 obtain⟨⟨mb,mbn⟩,⟨mi,min⟩,msc,md,msz⟩:=mc
 simp only[Ar.cells,Mm.cells]at q1 q2 hm
 simp(disch:=(first | omega | ((repeat (first | rw[Qa.next_push] | rw[Qa.next_set] | rw[Qa.next_up]));done) | ((repeat (first | rw[Qa.next_push] | rw[Qa.next_set] | rw[Qa.next_up]));omega))) only[Ar.cells,QbE,Xf,Xg,Xh,sxA,sxB,mxD,mxB,splice,simprocAttr,Yu]
 repeat' (first
   | (refine Qp (fun h=>?_) (fun h=>?_)<;>(try simp only[Bool.not_eq_true',Bool.not_eq_false']at h)<;>simp(disch:=(first | omega | ((repeat (first | rw[Qa.next_push] | rw[Qa.next_set] | rw[Qa.next_up]));done) | ((repeat (first | rw[Qa.next_push] | rw[Qa.next_set] | rw[Qa.next_up]));omega))) only[Xf,Xg,Xh,sxA,sxB,mxD,mxB,splice,simprocAttr,Yu,h])
   | (refine Qe (fun h=>?_) (fun h=>?_)<;>(try simp only[Bool.not_eq_true',Bool.not_eq_false']at h)<;>simp(disch:=(first | omega | ((repeat (first | rw[Qa.next_push] | rw[Qa.next_set] | rw[Qa.next_up]));done) | ((repeat (first | rw[Qa.next_push] | rw[Qa.next_set] | rw[Qa.next_up]));omega))) only[Xf,Xg,Xh,sxA,sxB,mxD,mxB,splice,simprocAttr,Yu,h])
   | (refine(q1 _).thenW ?_;rintro _ _ hn hw2 ⟨rfl,k,rfl⟩;(try simp only[Qa.next_push,Qa.next_up,Qa.next_set]at hn);simp(disch:=(first | omega | ((repeat (first | rw[Qa.next_push] | rw[Qa.next_set] | rw[Qa.next_up]));done) | ((repeat (first | rw[Qa.next_push] | rw[Qa.next_set] | rw[Qa.next_up]));omega))) only[Xf,Xg,Xh,sxA,sxB,mxD,mxB,splice,simprocAttr,Yu])
   | (refine(q2 _).thenW ?_;rintro _ _ hn hw2 ⟨rfl,k,rfl⟩;(try simp only[Qa.next_push,Qa.next_up,Qa.next_set]at hn);simp(disch:=(first | omega | ((repeat (first | rw[Qa.next_push] | rw[Qa.next_set] | rw[Qa.next_up]));done) | ((repeat (first | rw[Qa.next_push] | rw[Qa.next_set] | rw[Qa.next_up]));omega))) only[Xf,Xg,Xh,sxA,sxB,mxD,mxB,splice,simprocAttr,Yu])
   | (with_reducible refine⟨by simp[Qn,plain],by omega,?_⟩)
   | (with_reducible refine⟨by simp[Qn,plain],?_⟩)
   | fail)
 all_goals refine .ext hw ?_ ⟨?_,_,rfl⟩
 all_goals try (repeat' (first | exact Ext.refl _ | refine Ext.push ?_ _ | refine Ext.up ?_ (by simp only[Qa.next_push,Qa.next_set,Qa.next_up];omega) | refine Ext.set ?_ (by omega) _))
 all_goals simp_all [QjZ,Gi,Ar.cells,Mm.cells]
def Qd1 (a:Ar):Int:=if(Wu a==0)=true then(if(a.k==1)=true then QbG a.r else if(a.k==2)=true then a.m.sz else 0) else 0
theorem QiG (a:Ar) (H:Qa):Qf prog Qaa [.agg a.cells.toArray] H fun u H'=>u=.int .i64 (Qd1 a)∧∃k,H'=H.up k:=by
 refine Qhp fun hw=>?_
 have q1:=VI a
 have q2:=Qm4 a.r
 have hs:Qd1 a=if(Wu a==0)=true then(if(a.k==1)=true then QbG a.r else if(a.k==2)=true then a.m.sz else 0) else 0:=rfl
 rw[hs]
 clear hs
 generalize Wu a=e at *
 generalize QbG a.r=sr at *
 obtain⟨k,⟨rc,rn⟩,⟨⟨bc,bn⟩,⟨ic,nn⟩,sc,d,sz⟩,n⟩:=a
 simp only[Ar.cells,Rg.cells]at q1 q2
 simp(disch:=(first | omega | ((repeat (first | rw[Qa.next_push] | rw[Qa.next_set] | rw[Qa.next_up]));done) | ((repeat (first | rw[Qa.next_push] | rw[Qa.next_set] | rw[Qa.next_up]));omega))) only[Ar.cells,QcW,sxA,sxB,mxD,mxB,splice,simprocAttr,Y5]
 repeat' (first
   | (refine Qp (fun h=>?_) (fun h=>?_)<;>(try simp only[Bool.not_eq_true',Bool.not_eq_false']at h)<;>simp(disch:=(first | omega | ((repeat (first | rw[Qa.next_push] | rw[Qa.next_set] | rw[Qa.next_up]));done) | ((repeat (first | rw[Qa.next_push] | rw[Qa.next_set] | rw[Qa.next_up]));omega))) only[sxA,sxB,mxD,mxB,splice,simprocAttr,Y5,h])
   | (refine Qe (fun h=>?_) (fun h=>?_)<;>(try simp only[Bool.not_eq_true',Bool.not_eq_false']at h)<;>simp(disch:=(first | omega | ((repeat (first | rw[Qa.next_push] | rw[Qa.next_set] | rw[Qa.next_up]));done) | ((repeat (first | rw[Qa.next_push] | rw[Qa.next_set] | rw[Qa.next_up]));omega))) only[sxA,sxB,mxD,mxB,splice,simprocAttr,Y5,h])
   | (refine(q1 _).thenW ?_;rintro _ _ hn hw2 ⟨rfl,k,rfl⟩;(try simp only[Qa.next_push,Qa.next_up,Qa.next_set]at hn);simp(disch:=(first | omega | ((repeat (first | rw[Qa.next_push] | rw[Qa.next_set] | rw[Qa.next_up]));done) | ((repeat (first | rw[Qa.next_push] | rw[Qa.next_set] | rw[Qa.next_up]));omega))) only[sxA,sxB,mxD,mxB,splice,simprocAttr,Y5])
   | (refine(q2 _).thenW ?_;rintro _ _ hn hw2 ⟨rfl,k,rfl⟩;(try simp only[Qa.next_push,Qa.next_up,Qa.next_set]at hn);simp(disch:=(first | omega | ((repeat (first | rw[Qa.next_push] | rw[Qa.next_set] | rw[Qa.next_up]));done) | ((repeat (first | rw[Qa.next_push] | rw[Qa.next_set] | rw[Qa.next_up]));omega))) only[sxA,sxB,mxD,mxB,splice,simprocAttr,Y5])
   | (with_reducible refine⟨by simp[Qn,plain],by omega,?_⟩)
   | (with_reducible refine⟨by simp[Qn,plain],?_⟩)
   | fail)
 all_goals refine .ext hw ?_ ⟨?_,_,rfl⟩
 all_goals try (repeat' (first | exact Ext.refl _ | refine Ext.push ?_ _ | refine Ext.up ?_ (by simp only[Qa.next_push,Qa.next_set,Qa.next_up];omega) | refine Ext.set ?_ (by omega) _))
 all_goals simp_all []
def WI (o:Int):Bool:=decide (1≤o)&&decide (o≤322)
theorem V2 (o:Int) (H:Qa):Qf prog Je [.int .i64 o] H fun u H'=>u=.bool (WI o)∧H'=H:=by
 refine Qje fun hw=>?_
 simp(disch:=(first | omega | ((repeat (first | rw[Qa.next_push] | rw[Qa.next_set] | rw[Qa.next_up]));done) | ((repeat (first | rw[Qa.next_push] | rw[Qa.next_set] | rw[Qa.next_up]));omega))) only[QeG,sxA,sxB,mxD,mxB,splice,simprocAttr,Qan]
 repeat' (first
   | (refine Qp (fun h=>?_) (fun h=>?_)<;>(try simp only[Bool.not_eq_true',Bool.not_eq_false']at h)<;>simp(disch:=(first | omega | ((repeat (first | rw[Qa.next_push] | rw[Qa.next_set] | rw[Qa.next_up]));done) | ((repeat (first | rw[Qa.next_push] | rw[Qa.next_set] | rw[Qa.next_up]));omega))) only[sxA,sxB,mxD,mxB,splice,simprocAttr,Qan,h])
   | (refine Qe (fun h=>?_) (fun h=>?_)<;>(try simp only[Bool.not_eq_true',Bool.not_eq_false']at h)<;>simp(disch:=(first | omega | ((repeat (first | rw[Qa.next_push] | rw[Qa.next_set] | rw[Qa.next_up]));done) | ((repeat (first | rw[Qa.next_push] | rw[Qa.next_set] | rw[Qa.next_up]));omega))) only[sxA,sxB,mxD,mxB,splice,simprocAttr,Qan,h])
   | (with_reducible refine⟨by simp[Qn,plain],by omega,?_⟩)
   | (with_reducible refine⟨by simp[Qn,plain],?_⟩)
   | fail)
 all_goals refine .mk (Nat.le_refl _) ⟨?_,rfl⟩
 all_goals (simp_all [WI]<;>omega)
def Qf0 (o:Int):Int×Bool:=if WI o=false then(0,false) else if o=1∨o=2∨o=3∨o=4∨o=5∨o=6∨o=7∨o=8∨o=9∨o=10∨o=16 then(0,true) else if o=48 then(64,true) else if o=51 then(16,false) else(8,false)
theorem Qm6 (o:Int) (H:Qa):Qf prog Qe2 [.int .i64 o] H fun u H'=>u=.tuple #[.int .i64 (Qf0 o).1,.bool (Qf0 o).2]∧H'=H:=by
 refine QlN fun hw=>?_
 have q1:=V2 o
 have hs:Qf0 o=if WI o=false then(0,false) else if o=1∨o=2∨o=3∨o=4∨o=5∨o=6∨o=7∨o=8∨o=9∨o=10∨o=16 then(0,true) else if o=48 then(64,true) else if o=51 then(16,false) else(8,false):=rfl
 rw[hs]
 clear hs
 generalize WI o=v at *
 simp(disch:=(first | omega | ((repeat (first | rw[Qa.next_push] | rw[Qa.next_set] | rw[Qa.next_up]));done) | ((repeat (first | rw[Qa.next_push] | rw[Qa.next_set] | rw[Qa.next_up]));omega))) only[Qg8,JG,JH,JI,JJ,JK,JL,JM,JN,JO,Z7,Z8,sxA,sxB,mxD,mxB,splice,simprocAttr,V0]
 repeat' (first
   | (refine Qp (fun h=>?_) (fun h=>?_)<;>(try simp only[Bool.not_eq_true',Bool.not_eq_false']at h)<;>simp(disch:=(first | omega | ((repeat (first | rw[Qa.next_push] | rw[Qa.next_set] | rw[Qa.next_up]));done) | ((repeat (first | rw[Qa.next_push] | rw[Qa.next_set] | rw[Qa.next_up]));omega))) only[JG,JH,JI,JJ,JK,JL,JM,JN,JO,Z7,Z8,sxA,sxB,mxD,mxB,splice,simprocAttr,V0,h])
   | (refine Qe (fun h=>?_) (fun h=>?_)<;>(try simp only[Bool.not_eq_true',Bool.not_eq_false']at h)<;>simp(disch:=(first | omega | ((repeat (first | rw[Qa.next_push] | rw[Qa.next_set] | rw[Qa.next_up]));done) | ((repeat (first | rw[Qa.next_push] | rw[Qa.next_set] | rw[Qa.next_up]));omega))) only[JG,JH,JI,JJ,JK,JL,JM,JN,JO,Z7,Z8,sxA,sxB,mxD,mxB,splice,simprocAttr,V0,h])
   | (refine(q1 _).thenW ?_;rintro _ _ hn hw2 ⟨rfl,rfl⟩;(try simp only[Qa.next_push,Qa.next_up,Qa.next_set]at hn);simp(disch:=(first | omega | ((repeat (first | rw[Qa.next_push] | rw[Qa.next_set] | rw[Qa.next_up]));done) | ((repeat (first | rw[Qa.next_push] | rw[Qa.next_set] | rw[Qa.next_up]));omega))) only[JG,JH,JI,JJ,JK,JL,JM,JN,JO,Z7,Z8,sxA,sxB,mxD,mxB,splice,simprocAttr,V0])
   | (with_reducible refine⟨by simp[Qn,plain],by omega,?_⟩)
   | (with_reducible refine⟨by simp[Qn,plain],?_⟩)
   | fail)
 all_goals refine .mk (Nat.le_refl _) ⟨?_,rfl⟩
 all_goals simp_all []
def Qh (l:List Ar):List Value:=l.flatMap Ar.cells
theorem We (a:Ar):a.cells.length=11:=rfl
theorem KE (a:Ar) (l:List Ar):Qh (a::l)=a.cells++Qh l:=by simp[Qh]
theorem QV:∀l:List Ar,(Qh l).length=l.length * 11
 | []=>rfl
 | a::l=>by
  have:=QV l
  rw[KE,List.length_append,We,this,List.length_cons];omega
theorem Y6:∀ (l:List Ar) (i:Nat) (p:Ar),l[i]? = some p→((Qh l).drop (i * 11)).take 11=p.cells
 | [],i,p,h=>by simp at h
 | q::l,0,p,h=>by
  simp at h;subst h
  rw[KE,Nat.zero_mul,List.drop_zero,List.take_append_of_le_length (by rw[We];exact Nat.le_refl 11),List.take_of_length_le (by rw[We];exact Nat.le_refl 11)]
 | q::l,i+1,p,h=>by
  rw[KE,show(i+1) * 11=q.cells.length+i * 11 by rw[We];omega,List.drop_append,List.drop_of_length_le (by omega),List.nil_append,Nat.add_sub_cancel_left]
  exact Y6 l i p (by simpa using h)
def QY (H:Qa) (v:Value) (l:List Ar):Prop:=QkF H v l.length (Qh l)
theorem QY.ext {H H':Qa} {v:Value} {l:List Ar} (hw:H.Wf) (he:Ext H H') (h:QY H v l):QY H' v l:=QkF.ext hw he h
theorem Qqs (r:Rg):0≤QbG r∧QbG r≤32:=by
 unfold QbG
 repeat' split
 all_goals decide
theorem QoW {n:Int} (h:YH n=true):0≤n∧n≤32:=by
 simp only[YH,Bool.or_eq_true,beq_iff_eq]at h
 omega
theorem QlQ (a:Ar):0≤Qd1 a∧Qd1 a≤32:=by
 unfold Qd1
 split
 ·rename_i h
  split
  ·exact Qqs _
  ·split
   ·rename_i h2
    rw[Qfb h2]at h
    apply QoW
    cases hs:YH a.m.sz with
    | true=>rfl
    | false=>
     unfold Qm at h
     rw[hs]at h
     split at h<;>simp at h
   ·omega
 ·omega
def Wn (op:Int) (l:List Ar):Int×Bool:=if WI op=false then(0,false) else if((Qf0 op).1==0)=false then Qf0 op else match l with
 | []=>(0,false)
 | a::_=>if(Qd1 a==0)=true then(0,false) else(8 * Qd1 a,(Qf0 op).2)
theorem Qhd (op:Int) (v:Value) (l:List Ar) (H:Qa) (hv:QY H v l) (hl:l.length≤1000):Qf prog QaG [.agg #[.int .i64 op,v]] H fun u H'=>u=.tuple #[.int .i64 (Wn op l).1,.bool (Wn op l).2]∧∃k,H'=H.up k:=by
 refine QkL fun hw=>?_
 have q1:=V2 op
 have q2:=Qm6 op
 unfold Wn
 generalize WI op=v1 at *
 generalize Qf0 op=v2 at *
 obtain⟨v2a,v2b⟩:=v2
 obtain⟨a0,cap,rfl,h1⟩:=hv
 cases l with
 | nil=>
  have el0:(((0:Nat):Int)==0)=true:=rfl
  simp(disch:=(first | omega | ((repeat (first | rw[Qa.next_push] | rw[Qa.next_set] | rw[Qa.next_up]));done) | ((repeat (first | rw[Qa.next_push] | rw[Qa.next_set] | rw[Qa.next_up]));omega))) only[Qcp,sxA,sxB,mxD,mxB,splice,simprocAttr,el0,WF]
  repeat' (first
    | (refine Qp (fun h=>?_) (fun h=>?_)<;>(try simp only[Bool.not_eq_true',Bool.not_eq_false']at h)<;>simp(disch:=(first | omega | ((repeat (first | rw[Qa.next_push] | rw[Qa.next_set] | rw[Qa.next_up]));done) | ((repeat (first | rw[Qa.next_push] | rw[Qa.next_set] | rw[Qa.next_up]));omega))) only[sxA,sxB,mxD,mxB,splice,simprocAttr,el0,WF,h])
    | (refine Qe (fun h=>?_) (fun h=>?_)<;>(try simp only[Bool.not_eq_true',Bool.not_eq_false']at h)<;>simp(disch:=(first | omega | ((repeat (first | rw[Qa.next_push] | rw[Qa.next_set] | rw[Qa.next_up]));done) | ((repeat (first | rw[Qa.next_push] | rw[Qa.next_set] | rw[Qa.next_up]));omega))) only[sxA,sxB,mxD,mxB,splice,simprocAttr,el0,WF,h])
    | (refine(q1 _).thenW ?_;rintro _ _ hn hw2 ⟨rfl,rfl⟩;(try simp only[Qa.next_push,Qa.next_up,Qa.next_set]at hn);simp(disch:=(first | omega | ((repeat (first | rw[Qa.next_push] | rw[Qa.next_set] | rw[Qa.next_up]));done) | ((repeat (first | rw[Qa.next_push] | rw[Qa.next_set] | rw[Qa.next_up]));omega))) only[sxA,sxB,mxD,mxB,splice,simprocAttr,el0,WF])
    | (refine(q2 _).thenW ?_;rintro _ _ hn hw2 ⟨rfl,rfl⟩;(try simp only[Qa.next_push,Qa.next_up,Qa.next_set]at hn);simp(disch:=(first | omega | ((repeat (first | rw[Qa.next_push] | rw[Qa.next_set] | rw[Qa.next_up]));done) | ((repeat (first | rw[Qa.next_push] | rw[Qa.next_set] | rw[Qa.next_up]));omega))) only[sxA,sxB,mxD,mxB,splice,simprocAttr,el0,WF])
    | (with_reducible refine⟨by simp[Qn,plain],by omega,?_⟩)
    | (with_reducible refine⟨by simp[Qn,plain],?_⟩)
    | fail)
  all_goals refine .ext hw ?_ ⟨?_,_,rfl⟩
  all_goals try (repeat' (first | exact Ext.refl _ | refine Ext.push ?_ _ | refine Ext.up ?_ (by simp only[Qa.next_push,Qa.next_set,Qa.next_up];omega) | refine Ext.set ?_ (by omega) _))
  all_goals simp_all
 | cons a l=>
  dsimp only
  have et0:(0:Int).toNat=0:=rfl
  have q3:=QiG a
  have h8:=QlQ a
  generalize Qd1 a=s at *
  obtain⟨b,e,ro,rfl,hgb⟩:=h1 (by simp)
  have el0:(((l.length+1:Nat):Int)==0)=false:=by simp;omega
  have ec1:((0:Int)≤0∧(0:Int)<((l.length+1:Nat):Int)):=by omega
  have hb:=hw.lt hgb
  have e8:IntKind.i64.wrap (8 * s)=8 * s:=w64 (by unfold I64;omega)
  have hd11:List.take 11 (Qh (a::l))=a.cells:=by
   have:=Y6 (a::l) 0 a rfl
   simpa using this
  have hle:11≤(Qh (a::l)).length:=by rw[QV];simp;omega
  simp(disch:=(first | omega | ((repeat (first | rw[Qa.next_push] | rw[Qa.next_set] | rw[Qa.next_up]));done) | ((repeat (first | rw[Qa.next_push] | rw[Qa.next_set] | rw[Qa.next_up]));omega))) only[Qcp,sxA,sxB,mxD,mxB,splice,simprocAttr,el0,ec1,et0,hgb,hd11,hle,e8,WF]
  repeat' (first
    | (refine Qp (fun h=>?_) (fun h=>?_)<;>(try simp only[Bool.not_eq_true',Bool.not_eq_false']at h)<;>simp(disch:=(first | omega | ((repeat (first | rw[Qa.next_push] | rw[Qa.next_set] | rw[Qa.next_up]));done) | ((repeat (first | rw[Qa.next_push] | rw[Qa.next_set] | rw[Qa.next_up]));omega))) only[sxA,sxB,mxD,mxB,splice,simprocAttr,el0,ec1,et0,hgb,hd11,hle,e8,WF,h])
    | (refine Qe (fun h=>?_) (fun h=>?_)<;>(try simp only[Bool.not_eq_true',Bool.not_eq_false']at h)<;>simp(disch:=(first | omega | ((repeat (first | rw[Qa.next_push] | rw[Qa.next_set] | rw[Qa.next_up]));done) | ((repeat (first | rw[Qa.next_push] | rw[Qa.next_set] | rw[Qa.next_up]));omega))) only[sxA,sxB,mxD,mxB,splice,simprocAttr,el0,ec1,et0,hgb,hd11,hle,e8,WF,h])
    | (refine(q1 _).thenW ?_;rintro _ _ hn hw2 ⟨rfl,rfl⟩;(try simp only[Qa.next_push,Qa.next_up,Qa.next_set]at hn);simp(disch:=(first | omega | ((repeat (first | rw[Qa.next_push] | rw[Qa.next_set] | rw[Qa.next_up]));done) | ((repeat (first | rw[Qa.next_push] | rw[Qa.next_set] | rw[Qa.next_up]));omega))) only[sxA,sxB,mxD,mxB,splice,simprocAttr,el0,ec1,et0,hgb,hd11,hle,e8,WF])
    | (refine(q2 _).thenW ?_;rintro _ _ hn hw2 ⟨rfl,rfl⟩;(try simp only[Qa.next_push,Qa.next_up,Qa.next_set]at hn);simp(disch:=(first | omega | ((repeat (first | rw[Qa.next_push] | rw[Qa.next_set] | rw[Qa.next_up]));done) | ((repeat (first | rw[Qa.next_push] | rw[Qa.next_set] | rw[Qa.next_up]));omega))) only[sxA,sxB,mxD,mxB,splice,simprocAttr,el0,ec1,et0,hgb,hd11,hle,e8,WF])
    | (refine(q3 _).thenW ?_;rintro _ _ hn hw2 ⟨rfl,k,rfl⟩;(try simp only[Qa.next_push,Qa.next_up,Qa.next_set]at hn);simp(disch:=(first | omega | ((repeat (first | rw[Qa.next_push] | rw[Qa.next_set] | rw[Qa.next_up]));done) | ((repeat (first | rw[Qa.next_push] | rw[Qa.next_set] | rw[Qa.next_up]));omega))) only[sxA,sxB,mxD,mxB,splice,simprocAttr,el0,ec1,et0,hgb,hd11,hle,e8,WF])
    | (with_reducible refine⟨by simp[Qn,plain],by omega,?_⟩)
    | (with_reducible refine⟨by simp[Qn,plain],?_⟩)
    | fail)
  all_goals refine .ext hw ?_ ⟨?_,_,rfl⟩
  all_goals try (repeat' (first | exact Ext.refl _ | refine Ext.push ?_ _ | refine Ext.up ?_ (by simp only[Qa.next_push,Qa.next_set,Qa.next_up];omega) | refine Ext.set ?_ (by omega) _))
  all_goals simp_all
end Go.Proofs.YtdjkkoacinpdeaaGreatDoor.code
