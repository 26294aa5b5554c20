/- Registers. -/
import Derived.Test.YtgepgbbjfhggfaaGreatDoorC2Code
import Derived.Test.YtgepgbbjfhggfaaGreatDoorLibA
import Derived.Test.YtgepgbbjfhggfaaGreatDoorC0Code
set_option linter.unusedVariables false
set_option linter.unusedSimpArgs false
set_option maxRecDepth 100000
set_option maxHeartbeats 2000000
set_option maxHeartbeats 4000000
noncomputable section
namespace Go.Proofs.YtgepgbbjfhggfaaGreatDoor.code
open Go.Ab
structure Rg where
 c:Int
 n:Int
 deriving DecidableEq
def Rg.cells (r:Rg):List Value:=[.int .i64 r.c,.int .i64 r.n]
def QfN (c:Int):Int×Int:=if c=2 then(4,4) else if c=8 then(0,1) else if c=1∨c=3∨c=4∨c=5∨c=6∨c=7 then(0,16) else(0,0)
def Y9 (r:Rg):Bool:=decide ((QfN r.c).1<=r.n∧r.n<(QfN r.c).1+(QfN r.c).2)
theorem QoJ (c:Int) (H:Qa):Qf prog Qcz [.int .i64 c] H λu H'=>u=.tuple #[.int .i64 (QfN c).1,.int .i64 (QfN c).2]∧H'=H:=by
 refine Qnq λhw=>?_;simp only[QfM,Qc,simprocAttr,VR]
 repeat' (first | (refine QG (λh=>?_) (λh=>?_)<;>simp only[Qc,simprocAttr,VR]) | (refine Qh (λh=>?_) (λh=>?_)<;>simp only[Qc,simprocAttr,VR]))
 all_goals refine .mk (Nat.le_refl _) ⟨?_,rfl⟩
 all_goals simp_all [QfN]
theorem QAh (c:Int):0<=(QfN c).1∧(QfN c).1<=4∧0<=(QfN c).2∧(QfN c).2<=16:=by
 unfold QfN;split
 ·decide
 split
 ·decide
 split<;>decide
theorem Kb (r:Rg) (H:Qa):Qf prog YH [.agg r.cells.toArray] H λu H'=>u=.bool (Y9 r)∧∃m,H'=H.up m:=by
 refine Qqz λhw=>?_;obtain⟨c,n⟩:=r;have hb:=QAh c;have e1:IntKind.i64.wrap ((QfN c).1+(QfN c).2)=(QfN c).1+(QfN c).2:=w64 (by unfold I64;omega);simp only[Rg.cells,Qi4,Qc,simprocAttr];refine(QoJ c _).thenW ?_;rintro _ H1 hn1 hw1 ⟨rfl,rfl⟩;simp only[Qc,simprocAttr,Qhh,e1];refine QG (λh=>?_) (λh=>?_)
 all_goals simp only[Qc,simprocAttr,Qhh,e1,h]
 all_goals refine .ext hw ((Ext.refl H).push _) ⟨?_,_,rfl⟩
 all_goals (simp_all [Y9]<;>omega)
def Qja (r:Rg):Int:=if Y9 r=false then 0 else if r.c=7 then 32 else if r.c=6 then 16 else if r.c=5∨r.c=8 then 8 else if r.c=4 then 4 else if r.c=3 then 2 else 1
theorem Qun (r:Rg) (H:Qa):Qf prog QhZ [.agg r.cells.toArray] H λu H'=>u=.int .i64 (Qja r)∧∃m,H'=H.up m:=by
 refine Qsl λhw=>?_;have q:=Kb r;obtain⟨v,hv⟩:∃v,Y9 r=v:=⟨_,rfl⟩;rw[hv]at q;obtain⟨c,n⟩:=r;simp only[Rg.cells]at q;simp only[Rg.cells,QlG,JA,JB,JC,Qc,simprocAttr];refine(q _).thenW ?_;rintro _ H1 hn1 hw1 ⟨rfl,m,rfl⟩;simp only[Qa.next_push]at hn1;have hx:Ext H ((H.push (.cells [.int .i64 c,.int .i64 n] QJ false)).up m):=((Ext.refl H).push _).up (by simp only[Qa.next_push];exact hn1);simp only[Qc,simprocAttr,Qap];cases v
 all_goals simp only[Qc,simprocAttr,Qap,JA,JB,JC]
 ·exact .ext hw hx ⟨by simp[Qja,hv],_,rfl⟩
 repeat' (first | (refine QG (λh=>?_) (λh=>?_)<;>simp only[Qc,simprocAttr,Qap,JA,JB,JC,h]) | (refine Qh (λh=>?_) (λh=>?_)<;>simp only[Qc,simprocAttr,Qap,JA,JB,JC,h]))
 all_goals refine .ext hw hx ⟨?_,_,rfl⟩
 all_goals (simp_all [Qja]<;>decide)
theorem QB (ne:Bool) (a b c d:Int) (H:Qa) (k:Value->Qa->Prop):Qz0 ne [.i,.i] (.agg #[.int .i64 a,.int .i64 b]) (.agg #[.int .i64 c,.int .i64 d]) H k=k (.bool (bif ne then !((a==c)&&(b==d)) else((a==c)&&(b==d)))) H:=by
 refine QwD ?_
 by_cases h:a=c<;>by_cases g:b=d<;>simp[Qaj,Qzt,h,g]
/-! ### Places -/
structure Mm where
 b:Rg
 i:Rg
 sc:Int
 d:Int
 sz:Int
 deriving DecidableEq
def Mm.cells (m:Mm):List Value:=[.int .i64 m.b.c,.int .i64 m.b.n,.int .i64 m.i.c,.int .i64 m.i.n,.int .i64 m.sc,.int .i64 m.d,.int .i64 m.sz]
def V5 (r:Rg):Bool:=(r.c==5)&&Y9 r
theorem Quo (r:Rg) (H:Qa):Qf prog Qd2 [.agg r.cells.toArray] H λu H'=>u=.bool (V5 r)∧∃m,H'=H.up m:=by
 refine Qsk λhw=>?_;have q:=Kb r;obtain⟨v,hv⟩:∃v,Y9 r=v:=⟨_,rfl⟩;rw[hv]at q;obtain⟨c,n⟩:=r;simp only[Rg.cells]at q;simp only[Rg.cells,QlF,Qc,simprocAttr,Qee];refine QG (λh=>?_) (λh=>?_)
 all_goals simp only[Qc,simprocAttr,Qee,h]
 ·refine(q _).thenW ?_;rintro _ H1 hn1 hw1 ⟨rfl,m,rfl⟩;simp only[Qa.next_push]at hn1;have hx:Ext H ((H.push (.cells [.int .i64 c,.int .i64 n] QJ false)).up m):=((Ext.refl H).push _).up (by simp only[Qa.next_push];exact hn1);simp only[Qc,simprocAttr,Qee,h];exact .ext hw hx ⟨by simp[V5,hv,h],_,rfl⟩
 ·exact .ext hw ((Ext.refl H).push _) ⟨by simp[V5,h],_,rfl⟩
def Kx (n:Int):Bool:=n==0||n==1||n==2||n==4||n==8||n==16||n==32
theorem Qsn (n:Int) (H:Qa):Qf prog QfD [.int .i64 n] H λu H'=>u=.bool (Kx n)∧H'=H:=by
 refine QqB λhw=>?_;simp only[Qi6,Qc,simprocAttr,QcI]
 repeat' (first | (refine QG (λh=>?_) (λh=>?_)<;>simp only[Qc,simprocAttr,QcI,h]) | (refine Qh (λh=>?_) (λh=>?_)<;>simp only[Qc,simprocAttr,QcI,h]))
 all_goals refine .mk (Nat.le_refl _) ⟨?_,rfl⟩
 all_goals simp_all [Kx]
def Xo (n:Int):Bool:=n==1||n==2||n==4||n==8
theorem QqF (n:Int) (H:Qa):Qf prog Qd3 [.int .i64 n] H λu H'=>u=.bool (Xo n)∧∃m,H'=H.up m:=by
 refine QoG λhw=>?_;have t1:prog.underlying Qsh=some (.map Qmy Qmy):=by kernel_rfl
 have t2:prog.underlying Qmy=some (.int .i64):=by kernel_rfl
 have t3:(prog.info? Qmy).map (·.zero)=some (some (.int .i64 0)):=by kernel_rfl
 obtain⟨inf,t4,t5⟩:=Option.map_eq_some_iff.1 t3;simp only[Qhi,Qc,simprocAttr,XA];rw[QiZ (m:=H.next) (n:=1) (es:=[]) t1 t2 (by simp only[Qq,simprocAttr]) (by simp only[Qq,simprocAttr]) (by rw[Qa.get_push,if_pos rfl]) rfl];simp only[Qc,simprocAttr,XA];rw[QiZ (m:=H.next) (n:=2) (es:=_) t1 t2 (by simp only[Qq,simprocAttr]) (by simp only[Qq,simprocAttr]) (by rw[Qa.get_set,if_pos rfl]) rfl];simp only[Qc,simprocAttr,XA];rw[QiZ (m:=H.next) (n:=4) (es:=_) t1 t2 (by simp only[Qq,simprocAttr]) (by simp only[Qq,simprocAttr]) (by rw[Qa.get_set,if_pos rfl]) rfl];simp only[Qc,simprocAttr,XA];rw[QiZ (m:=H.next) (n:=8) (es:=_) t1 t2 (by simp only[Qq,simprocAttr]) (by simp only[Qq,simprocAttr]) (by rw[Qa.get_set,if_pos rfl]) rfl];simp only[Qc,simprocAttr,XA];have hr:∃r,Qqv n [(Value.int IntKind.i64 1,Value.int IntKind.i64 0),(Value.int IntKind.i64 2,Value.int IntKind.i64 1),(Value.int IntKind.i64 4,Value.int IntKind.i64 2),(Value.int IntKind.i64 8,Value.int IntKind.i64 3)] 0=some r∧r.isSome=Xo n:=by
  simp only[Qqv];split
  ·exact⟨_,rfl,by simp_all [Xo]⟩
  split
  ·exact⟨_,rfl,by simp_all [Xo]⟩
  split
  ·exact⟨_,rfl,by simp_all [Xo]⟩
  split
  ·exact⟨_,rfl,by simp_all [Xo]⟩
  ·exact⟨_,rfl,by simp_all [Xo]⟩
 obtain⟨r,h1,h2⟩:=hr;rw[QwM (m:=H.next) (n:=n) (es:=_) t1 t2 t4 t5 rfl (by simp only[Qq,simprocAttr]) (by simp only[Qq,simprocAttr]) (by rw[Qa.get_set,if_pos rfl]) h1];have hx:∀a b c d e,Ext H (((((H.push a).set H.next b).set H.next c).set H.next d).set H.next e):=λa b c d e=>(((((Ext.refl H).push a).set (Nat.le_refl _) b).set (Nat.le_refl _) c).set (Nat.le_refl _) d).set (Nat.le_refl _) e;cases r with
 | none=>
  simp only[Qsa,Qc,simprocAttr,XA];exact .ext hw (hx _ _ _ _ _) ⟨by rw[<- h2];rfl,_,rfl⟩
 | some q=>
  obtain⟨q1,q2⟩:=q;simp only[Qsa,Qc,simprocAttr,XA];exact .ext hw (hx _ _ _ _ _) ⟨by rw[<- h2];rfl,_,rfl⟩
def isR (r:Rg) (c n:Int):Bool:=(r.c==c)&&(r.n==n)
def QM (m:Mm):Int:=
 if(decide (m.d < -2147483648)||decide (m.d>2147483647))=true then 5
 else if Kx m.sz=false then 2
 else if(!isR m.b 0 0&&!isR m.b 8 0&&!V5 m.b)=true then 2
 else if(isR m.i 0 0&&!(m.sc==0))=true then 2
 else if isR m.i 0 0=true then 0
 else if(!V5 m.i||!Xo m.sc||isR m.b 8 0)=true then 2
 else if(isR m.i 5 4&&(!(m.sc==1)||isR m.b 5 4))=true then 2
 else 0
def mcF (H:Qa) (c:List Value) (A:Env) (H':Qa):Prop:=Ext H H'∧A 1=.pointer (some ⟨H.next,0,none⟩)∧A 3=.pointer (some ⟨H.next+1,0,none⟩)∧A 4=.pointer (some ⟨H.next+2,0,none⟩)∧A 5=.pointer (some ⟨H.next+3,0,none⟩)∧
 H'.get H.next=some (.cells c QK false)∧H'.get (H.next+1)=some (.cells [.int .i64 0,.int .i64 0] QJ false)∧H'.get (H.next+2)=some (.cells [.int .i64 8,.int .i64 0] QJ false)∧H'.get (H.next+3)=some (.cells [.int .i64 5,.int .i64 4] QJ false)
theorem mcF.up {H H':Qa} {c:List Value} {A:Env} (h:mcF H c A H') {k:Nat} (hk:H'.next<=k):mcF H c A (H'.up k):=by
 obtain⟨hx,r1,r3,r4,r5,g0,g1,g2,g3⟩:=h;exact⟨hx.up hk,r1,r3,r4,r5,g0,g1,g2,g3⟩
theorem mcF.env {H H':Qa} {c:List Value} {A B:Env} (h:mcF H c A H') (h1:B 1=A 1) (h3:B 3=A 3) (h4:B 4=A 4) (h5:B 5=A 5):mcF H c B H':=by
 obtain⟨hx,r1,r3,r4,r5,g0,g1,g2,g3⟩:=h;exact⟨hx,h1.trans r1,h3.trans r3,h4.trans r4,h5.trans r5,g0,g1,g2,g3⟩
theorem QlI (m:Mm) (H:Qa):Qf prog QbI [.agg m.cells.toArray] H λu H'=>u=.int .i64 (QM m)∧∃k,H'=H.up k:=by
 refine QqA λhw=>?_;have qs:=Qsn m.sz;have qw:=λr=>Quo r;have qc:=QqF m.sc;obtain⟨⟨bc,bn⟩,⟨ic,nn⟩,sc,d,sz⟩:=m;simp only at qs qc;simp only[Mm.cells,Qi5,Qc,simprocAttr,Qi,Nat.add_assoc,Nat.add_eq_left,Nat.left_eq_add];obtain⟨cs,hcs⟩:∃cs,cs=[Value.int .i64 bc,.int .i64 bn,.int .i64 ic,.int .i64 nn,.int .i64 sc,.int .i64 d,.int .i64 sz]:=⟨_,rfl⟩;generalize hE:exK 0 _ Z5=E0;generalize hK:Qt prog _ _ (Rt prog _ H _)=K0;have hret:∀A H',Ext H H'->QM ⟨⟨bc,bn⟩,⟨ic,nn⟩,sc,d,sz⟩=0->K0 A H':=by
  intro A H' hx h0;rw[<- hK];simp only[Qc,simprocAttr,Qi];exact .ext hw hx ⟨by rw[h0],_,rfl⟩
 have P1:∀A H',mcF H cs A H'->(decide (d < -2147483648)||decide (2147483647<d))=false->Kx sz=true->(!isR ⟨bc,bn⟩ 0 0&&!isR ⟨bc,bn⟩ 8 0&&!V5 ⟨bc,bn⟩)=false->(isR ⟨ic,nn⟩ 0 0&&!(sc==0))=false->isR ⟨ic,nn⟩ 0 0=false->(!V5 ⟨ic,nn⟩||!Xo sc||isR ⟨bc,bn⟩ 8 0)=false->Qt prog QaI ⟨Rt prog Ka H λu H'=>u=.int .i64 (QM ⟨⟨bc,bn⟩,⟨ic,nn⟩,sc,d,sz⟩)∧∃k,H'=H.up k,E0⟩ K0 A H':=by
  rintro A H' ⟨hx,r1,r3,r4,r5,g0,g1,g2,g3⟩ c0 c1 c2 c3 c4 c5;rw[hcs]at g0;simp only[QaI];simp only[Qc,simprocAttr,Qi,QB,r1,r3,r4,r5,g0,g1,g2,g3]
  repeat' (first
   | (refine QG (λh=>?_) (λh=>?_)<;>(try simp only[Bool.not_eq_true',Bool.not_eq_false']at h)<;>simp only[Qc,simprocAttr,Qi,QB,r1,r3,r4,r5,g0,g1,g2,g3,h])
   | (refine Qh (λh=>?_) (λh=>?_)<;>(try simp only[Bool.not_eq_true',Bool.not_eq_false']at h)<;>simp only[Qc,simprocAttr,Qi,QB,r1,r3,r4,r5,g0,g1,g2,g3,h])
   | (refine(qs _).thenW ?_;rintro _ _ hn hw2 ⟨rfl,rfl⟩;simp only[Qc,simprocAttr,Qi,QB,r1,r3,r4,r5,g0,g1,g2,g3])
   | (refine(qw ⟨bc,bn⟩ _).thenW ?_;rintro _ _ hn hw2 ⟨rfl,k,rfl⟩;have hx:=hx.up (show _<=k from hn);simp only[Qc,simprocAttr,Qi,QB,r1,r3,r4,r5,g0,g1,g2,g3])
   | (refine(qw ⟨ic,nn⟩ _).thenW ?_;rintro _ _ hn hw2 ⟨rfl,k,rfl⟩;have hx:=hx.up (show _<=k from hn);simp only[Qc,simprocAttr,Qi,QB,r1,r3,r4,r5,g0,g1,g2,g3])
   | (refine(qc _).thenW ?_;rintro _ _ hn hw2 ⟨rfl,k,rfl⟩;have hx:=hx.up (show _<=k from hn);simp only[Qc,simprocAttr,Qi,QB,r1,r3,r4,r5,g0,g1,g2,g3]))
  all_goals first
   | (have hb:(isR ⟨ic,nn⟩ 5 4&&(!(sc==1)||isR ⟨bc,bn⟩ 5 4))=true:=(by(try simp only[isR]);simp[*]);exact .ext hw hx ⟨by first | (simp only[QM,c0,c1,c2,c3,c4,c5,hb,Bool.false_eq_true,if_false,if_true,Bool.false_and,Bool.true_and,Bool.and_false,Bool.and_true,Bool.false_or,Bool.true_or,Bool.or_false,Bool.or_true,Bool.not_true,Bool.not_false,reduceCtorEq,gt_iff_lt,eq_self];done) | (have c9:=c3;simp only[hb,Bool.true_and]at c9;simp only[QM,c0,c1,c2,hb,c9,Bool.false_eq_true,if_false,if_true,Bool.true_and,reduceCtorEq,gt_iff_lt,eq_self]),_,rfl⟩)
   | (have hb:(isR ⟨ic,nn⟩ 5 4&&(!(sc==1)||isR ⟨bc,bn⟩ 5 4))=false:=(by(try simp only[isR]);simp[*]);exact .ext hw hx ⟨by first | (simp only[QM,c0,c1,c2,c3,c4,c5,hb,Bool.false_eq_true,if_false,if_true,Bool.false_and,Bool.true_and,Bool.and_false,Bool.and_true,Bool.false_or,Bool.true_or,Bool.or_false,Bool.or_true,Bool.not_true,Bool.not_false,reduceCtorEq,gt_iff_lt,eq_self];done) | (have c9:=c3;simp only[hb,Bool.true_and]at c9;simp only[QM,c0,c1,c2,hb,c9,Bool.false_eq_true,if_false,if_true,Bool.true_and,reduceCtorEq,gt_iff_lt,eq_self]),_,rfl⟩)
   | (have hb:(isR ⟨ic,nn⟩ 5 4&&(!(sc==1)||isR ⟨bc,bn⟩ 5 4))=false:=(by(try simp only[isR]);simp[*]);exact hret _ _ hx (by simp only[QM,c0,c1,c2,c3,c4,c5,hb,Bool.false_eq_true,if_false,if_true,Bool.false_and,Bool.true_and,Bool.and_false,Bool.and_true,Bool.false_or,Bool.true_or,Bool.or_false,Bool.or_true,Bool.not_true,Bool.not_false,reduceCtorEq,gt_iff_lt,eq_self]))
 have P2:∀A H',mcF H cs A H'->(decide (d < -2147483648)||decide (2147483647<d))=false->Kx sz=true->(!isR ⟨bc,bn⟩ 0 0&&!isR ⟨bc,bn⟩ 8 0&&!V5 ⟨bc,bn⟩)=false->(isR ⟨ic,nn⟩ 0 0&&!(sc==0))=false->isR ⟨ic,nn⟩ 0 0=false->Qt prog QaJ ⟨Rt prog Ka H λu H'=>u=.int .i64 (QM ⟨⟨bc,bn⟩,⟨ic,nn⟩,sc,d,sz⟩)∧∃k,H'=H.up k,E0⟩ K0 A H':=by
  rintro A H' ⟨hx,r1,r3,r4,r5,g0,g1,g2,g3⟩ c0 c1 c2 c3 c4;rw[hcs]at g0;simp only[QaJ];simp only[Qc,simprocAttr,Qi,QB,r1,r3,r4,r5,g0,g1,g2,g3]
  repeat' (first
   | (refine QG (λh=>?_) (λh=>?_)<;>(try simp only[Bool.not_eq_true',Bool.not_eq_false']at h)<;>simp only[Qc,simprocAttr,Qi,QB,r1,r3,r4,r5,g0,g1,g2,g3,h])
   | (refine Qh (λh=>?_) (λh=>?_)<;>(try simp only[Bool.not_eq_true',Bool.not_eq_false']at h)<;>simp only[Qc,simprocAttr,Qi,QB,r1,r3,r4,r5,g0,g1,g2,g3,h])
   | (refine(qs _).thenW ?_;rintro _ _ hn hw2 ⟨rfl,rfl⟩;simp only[Qc,simprocAttr,Qi,QB,r1,r3,r4,r5,g0,g1,g2,g3])
   | (refine(qw ⟨bc,bn⟩ _).thenW ?_;rintro _ _ hn hw2 ⟨rfl,k,rfl⟩;have hx:=hx.up (show _<=k from hn);simp only[Qc,simprocAttr,Qi,QB,r1,r3,r4,r5,g0,g1,g2,g3])
   | (refine(qw ⟨ic,nn⟩ _).thenW ?_;rintro _ _ hn hw2 ⟨rfl,k,rfl⟩;have hx:=hx.up (show _<=k from hn);simp only[Qc,simprocAttr,Qi,QB,r1,r3,r4,r5,g0,g1,g2,g3])
   | (refine(qc _).thenW ?_;rintro _ _ hn hw2 ⟨rfl,k,rfl⟩;have hx:=hx.up (show _<=k from hn);simp only[Qc,simprocAttr,Qi,QB,r1,r3,r4,r5,g0,g1,g2,g3]))
  all_goals first
   | (have hb:(!V5 ⟨ic,nn⟩||!Xo sc||isR ⟨bc,bn⟩ 8 0)=true:=(by(try simp only[isR]);simp[*]);exact .ext hw hx ⟨by first | (simp only[QM,c0,c1,c2,c3,c4,hb,Bool.false_eq_true,if_false,if_true,Bool.false_and,Bool.true_and,Bool.and_false,Bool.and_true,Bool.false_or,Bool.true_or,Bool.or_false,Bool.or_true,Bool.not_true,Bool.not_false,reduceCtorEq,gt_iff_lt,eq_self];done) | (have c9:=c3;simp only[hb,Bool.true_and]at c9;simp only[QM,c0,c1,c2,hb,c9,Bool.false_eq_true,if_false,if_true,Bool.true_and,reduceCtorEq,gt_iff_lt,eq_self]),_,rfl⟩)
   | (have hb:(!V5 ⟨ic,nn⟩||!Xo sc||isR ⟨bc,bn⟩ 8 0)=false:=(by(try simp only[isR]);simp[*]);exact .ext hw hx ⟨by first | (simp only[QM,c0,c1,c2,c3,c4,hb,Bool.false_eq_true,if_false,if_true,Bool.false_and,Bool.true_and,Bool.and_false,Bool.and_true,Bool.false_or,Bool.true_or,Bool.or_false,Bool.or_true,Bool.not_true,Bool.not_false,reduceCtorEq,gt_iff_lt,eq_self];done) | (have c9:=c3;simp only[hb,Bool.true_and]at c9;simp only[QM,c0,c1,c2,hb,c9,Bool.false_eq_true,if_false,if_true,Bool.true_and,reduceCtorEq,gt_iff_lt,eq_self]),_,rfl⟩)
   | (have hb:(!V5 ⟨ic,nn⟩||!Xo sc||isR ⟨bc,bn⟩ 8 0)=false:=(by(try simp only[isR]);simp[*]);exact P1 _ _ (mcF.env ⟨hx,r1,r3,r4,r5,by rw[hcs];exact g0,g1,g2,g3⟩ (by simp only[Qq,simprocAttr]) (by simp only[Qq,simprocAttr]) (by simp only[Qq,simprocAttr]) (by simp only[Qq,simprocAttr])) c0 c1 c2 c3 c4 hb)
 have P3:∀A H',mcF H cs A H'->(decide (d < -2147483648)||decide (2147483647<d))=false->Kx sz=true->(!isR ⟨bc,bn⟩ 0 0&&!isR ⟨bc,bn⟩ 8 0&&!V5 ⟨bc,bn⟩)=false->(isR ⟨ic,nn⟩ 0 0&&!(sc==0))=false->Qt prog QaK ⟨Rt prog Ka H λu H'=>u=.int .i64 (QM ⟨⟨bc,bn⟩,⟨ic,nn⟩,sc,d,sz⟩)∧∃k,H'=H.up k,E0⟩ K0 A H':=by
  rintro A H' ⟨hx,r1,r3,r4,r5,g0,g1,g2,g3⟩ c0 c1 c2 c3;rw[hcs]at g0;simp only[QaK];simp only[Qc,simprocAttr,Qi,QB,r1,r3,r4,r5,g0,g1,g2,g3]
  repeat' (first
   | (refine QG (λh=>?_) (λh=>?_)<;>(try simp only[Bool.not_eq_true',Bool.not_eq_false']at h)<;>simp only[Qc,simprocAttr,Qi,QB,r1,r3,r4,r5,g0,g1,g2,g3,h])
   | (refine Qh (λh=>?_) (λh=>?_)<;>(try simp only[Bool.not_eq_true',Bool.not_eq_false']at h)<;>simp only[Qc,simprocAttr,Qi,QB,r1,r3,r4,r5,g0,g1,g2,g3,h])
   | (refine(qs _).thenW ?_;rintro _ _ hn hw2 ⟨rfl,rfl⟩;simp only[Qc,simprocAttr,Qi,QB,r1,r3,r4,r5,g0,g1,g2,g3])
   | (refine(qw ⟨bc,bn⟩ _).thenW ?_;rintro _ _ hn hw2 ⟨rfl,k,rfl⟩;have hx:=hx.up (show _<=k from hn);simp only[Qc,simprocAttr,Qi,QB,r1,r3,r4,r5,g0,g1,g2,g3])
   | (refine(qw ⟨ic,nn⟩ _).thenW ?_;rintro _ _ hn hw2 ⟨rfl,k,rfl⟩;have hx:=hx.up (show _<=k from hn);simp only[Qc,simprocAttr,Qi,QB,r1,r3,r4,r5,g0,g1,g2,g3])
   | (refine(qc _).thenW ?_;rintro _ _ hn hw2 ⟨rfl,k,rfl⟩;have hx:=hx.up (show _<=k from hn);simp only[Qc,simprocAttr,Qi,QB,r1,r3,r4,r5,g0,g1,g2,g3]))
  all_goals first
   | (have hb:isR ⟨ic,nn⟩ 0 0=true:=(by(try simp only[isR]);simp[*]);exact .ext hw hx ⟨by first | (simp only[QM,c0,c1,c2,c3,hb,Bool.false_eq_true,if_false,if_true,Bool.false_and,Bool.true_and,Bool.and_false,Bool.and_true,Bool.false_or,Bool.true_or,Bool.or_false,Bool.or_true,Bool.not_true,Bool.not_false,reduceCtorEq,gt_iff_lt,eq_self];done) | (have c9:=c3;simp only[hb,Bool.true_and]at c9;simp only[QM,c0,c1,c2,hb,c9,Bool.false_eq_true,if_false,if_true,Bool.true_and,reduceCtorEq,gt_iff_lt,eq_self]),_,rfl⟩)
   | (have hb:isR ⟨ic,nn⟩ 0 0=false:=(by(try simp only[isR]);simp[*]);exact .ext hw hx ⟨by first | (simp only[QM,c0,c1,c2,c3,hb,Bool.false_eq_true,if_false,if_true,Bool.false_and,Bool.true_and,Bool.and_false,Bool.and_true,Bool.false_or,Bool.true_or,Bool.or_false,Bool.or_true,Bool.not_true,Bool.not_false,reduceCtorEq,gt_iff_lt,eq_self];done) | (have c9:=c3;simp only[hb,Bool.true_and]at c9;simp only[QM,c0,c1,c2,hb,c9,Bool.false_eq_true,if_false,if_true,Bool.true_and,reduceCtorEq,gt_iff_lt,eq_self]),_,rfl⟩)
   | (have hb:isR ⟨ic,nn⟩ 0 0=false:=(by(try simp only[isR]);simp[*]);exact P2 _ _ (mcF.env ⟨hx,r1,r3,r4,r5,by rw[hcs];exact g0,g1,g2,g3⟩ (by simp only[Qq,simprocAttr]) (by simp only[Qq,simprocAttr]) (by simp only[Qq,simprocAttr]) (by simp only[Qq,simprocAttr])) c0 c1 c2 c3 hb)
 have P4:∀A H',mcF H cs A H'->(decide (d < -2147483648)||decide (2147483647<d))=false->Kx sz=true->(!isR ⟨bc,bn⟩ 0 0&&!isR ⟨bc,bn⟩ 8 0&&!V5 ⟨bc,bn⟩)=false->Qt prog QaL ⟨Rt prog Ka H λu H'=>u=.int .i64 (QM ⟨⟨bc,bn⟩,⟨ic,nn⟩,sc,d,sz⟩)∧∃k,H'=H.up k,E0⟩ K0 A H':=by
  rintro A H' ⟨hx,r1,r3,r4,r5,g0,g1,g2,g3⟩ c0 c1 c2;rw[hcs]at g0;simp only[QaL];simp only[Qc,simprocAttr,Qi,QB,r1,r3,r4,r5,g0,g1,g2,g3]
  repeat' (first
   | (refine QG (λh=>?_) (λh=>?_)<;>(try simp only[Bool.not_eq_true',Bool.not_eq_false']at h)<;>simp only[Qc,simprocAttr,Qi,QB,r1,r3,r4,r5,g0,g1,g2,g3,h])
   | (refine Qh (λh=>?_) (λh=>?_)<;>(try simp only[Bool.not_eq_true',Bool.not_eq_false']at h)<;>simp only[Qc,simprocAttr,Qi,QB,r1,r3,r4,r5,g0,g1,g2,g3,h])
   | (refine(qs _).thenW ?_;rintro _ _ hn hw2 ⟨rfl,rfl⟩;simp only[Qc,simprocAttr,Qi,QB,r1,r3,r4,r5,g0,g1,g2,g3])
   | (refine(qw ⟨bc,bn⟩ _).thenW ?_;rintro _ _ hn hw2 ⟨rfl,k,rfl⟩;have hx:=hx.up (show _<=k from hn);simp only[Qc,simprocAttr,Qi,QB,r1,r3,r4,r5,g0,g1,g2,g3])
   | (refine(qw ⟨ic,nn⟩ _).thenW ?_;rintro _ _ hn hw2 ⟨rfl,k,rfl⟩;have hx:=hx.up (show _<=k from hn);simp only[Qc,simprocAttr,Qi,QB,r1,r3,r4,r5,g0,g1,g2,g3])
   | (refine(qc _).thenW ?_;rintro _ _ hn hw2 ⟨rfl,k,rfl⟩;have hx:=hx.up (show _<=k from hn);simp only[Qc,simprocAttr,Qi,QB,r1,r3,r4,r5,g0,g1,g2,g3]))
  all_goals first
   | (have hb:(isR ⟨ic,nn⟩ 0 0&&!(sc==0))=true:=(by(try simp only[isR]);simp[*]);exact .ext hw hx ⟨by first | (simp only[QM,c0,c1,c2,hb,Bool.false_eq_true,if_false,if_true,Bool.false_and,Bool.true_and,Bool.and_false,Bool.and_true,Bool.false_or,Bool.true_or,Bool.or_false,Bool.or_true,Bool.not_true,Bool.not_false,reduceCtorEq,gt_iff_lt,eq_self];done) | (have c9:=c3;simp only[hb,Bool.true_and]at c9;simp only[QM,c0,c1,c2,hb,c9,Bool.false_eq_true,if_false,if_true,Bool.true_and,reduceCtorEq,gt_iff_lt,eq_self]),_,rfl⟩)
   | (have hb:(isR ⟨ic,nn⟩ 0 0&&!(sc==0))=false:=(by(try simp only[isR]);simp[*]);exact .ext hw hx ⟨by first | (simp only[QM,c0,c1,c2,hb,Bool.false_eq_true,if_false,if_true,Bool.false_and,Bool.true_and,Bool.and_false,Bool.and_true,Bool.false_or,Bool.true_or,Bool.or_false,Bool.or_true,Bool.not_true,Bool.not_false,reduceCtorEq,gt_iff_lt,eq_self];done) | (have c9:=c3;simp only[hb,Bool.true_and]at c9;simp only[QM,c0,c1,c2,hb,c9,Bool.false_eq_true,if_false,if_true,Bool.true_and,reduceCtorEq,gt_iff_lt,eq_self]),_,rfl⟩)
   | (have hb:(isR ⟨ic,nn⟩ 0 0&&!(sc==0))=false:=(by(try simp only[isR]);simp[*]);exact P3 _ _ (mcF.env ⟨hx,r1,r3,r4,r5,by rw[hcs];exact g0,g1,g2,g3⟩ (by simp only[Qq,simprocAttr]) (by simp only[Qq,simprocAttr]) (by simp only[Qq,simprocAttr]) (by simp only[Qq,simprocAttr])) c0 c1 c2 hb)
 have P5:∀A H',mcF H cs A H'->(decide (d < -2147483648)||decide (2147483647<d))=false->Kx sz=true->Qt prog QaM ⟨Rt prog Ka H λu H'=>u=.int .i64 (QM ⟨⟨bc,bn⟩,⟨ic,nn⟩,sc,d,sz⟩)∧∃k,H'=H.up k,E0⟩ K0 A H':=by
  rintro A H' ⟨hx,r1,r3,r4,r5,g0,g1,g2,g3⟩ c0 c1;rw[hcs]at g0;simp only[QaM];simp only[Qc,simprocAttr,Qi,QB,r1,r3,r4,r5,g0,g1,g2,g3]
  repeat' (first
   | (refine QG (λh=>?_) (λh=>?_)<;>(try simp only[Bool.not_eq_true',Bool.not_eq_false']at h)<;>simp only[Qc,simprocAttr,Qi,QB,r1,r3,r4,r5,g0,g1,g2,g3,h])
   | (refine Qh (λh=>?_) (λh=>?_)<;>(try simp only[Bool.not_eq_true',Bool.not_eq_false']at h)<;>simp only[Qc,simprocAttr,Qi,QB,r1,r3,r4,r5,g0,g1,g2,g3,h])
   | (refine(qs _).thenW ?_;rintro _ _ hn hw2 ⟨rfl,rfl⟩;simp only[Qc,simprocAttr,Qi,QB,r1,r3,r4,r5,g0,g1,g2,g3])
   | (refine(qw ⟨bc,bn⟩ _).thenW ?_;rintro _ _ hn hw2 ⟨rfl,k,rfl⟩;have hx:=hx.up (show _<=k from hn);simp only[Qc,simprocAttr,Qi,QB,r1,r3,r4,r5,g0,g1,g2,g3])
   | (refine(qw ⟨ic,nn⟩ _).thenW ?_;rintro _ _ hn hw2 ⟨rfl,k,rfl⟩;have hx:=hx.up (show _<=k from hn);simp only[Qc,simprocAttr,Qi,QB,r1,r3,r4,r5,g0,g1,g2,g3])
   | (refine(qc _).thenW ?_;rintro _ _ hn hw2 ⟨rfl,k,rfl⟩;have hx:=hx.up (show _<=k from hn);simp only[Qc,simprocAttr,Qi,QB,r1,r3,r4,r5,g0,g1,g2,g3]))
  all_goals first
   | (have hb:(!isR ⟨bc,bn⟩ 0 0&&!isR ⟨bc,bn⟩ 8 0&&!V5 ⟨bc,bn⟩)=true:=(by(try simp only[isR]);simp[*]);exact .ext hw hx ⟨by first | (simp only[QM,c0,c1,hb,Bool.false_eq_true,if_false,if_true,Bool.false_and,Bool.true_and,Bool.and_false,Bool.and_true,Bool.false_or,Bool.true_or,Bool.or_false,Bool.or_true,Bool.not_true,Bool.not_false,reduceCtorEq,gt_iff_lt,eq_self];done) | (have c9:=c3;simp only[hb,Bool.true_and]at c9;simp only[QM,c0,c1,c2,hb,c9,Bool.false_eq_true,if_false,if_true,Bool.true_and,reduceCtorEq,gt_iff_lt,eq_self]),_,rfl⟩)
   | (have hb:(!isR ⟨bc,bn⟩ 0 0&&!isR ⟨bc,bn⟩ 8 0&&!V5 ⟨bc,bn⟩)=false:=(by(try simp only[isR]);simp[*]);exact .ext hw hx ⟨by first | (simp only[QM,c0,c1,hb,Bool.false_eq_true,if_false,if_true,Bool.false_and,Bool.true_and,Bool.and_false,Bool.and_true,Bool.false_or,Bool.true_or,Bool.or_false,Bool.or_true,Bool.not_true,Bool.not_false,reduceCtorEq,gt_iff_lt,eq_self];done) | (have c9:=c3;simp only[hb,Bool.true_and]at c9;simp only[QM,c0,c1,c2,hb,c9,Bool.false_eq_true,if_false,if_true,Bool.true_and,reduceCtorEq,gt_iff_lt,eq_self]),_,rfl⟩)
   | (have hb:(!isR ⟨bc,bn⟩ 0 0&&!isR ⟨bc,bn⟩ 8 0&&!V5 ⟨bc,bn⟩)=false:=(by(try simp only[isR]);simp[*]);exact P4 _ _ (mcF.env ⟨hx,r1,r3,r4,r5,by rw[hcs];exact g0,g1,g2,g3⟩ (by simp only[Qq,simprocAttr]) (by simp only[Qq,simprocAttr]) (by simp only[Qq,simprocAttr]) (by simp only[Qq,simprocAttr])) c0 c1 hb)
 have P6:∀A H',mcF H cs A H'->(decide (d < -2147483648)||decide (2147483647<d))=false->Qt prog QaN ⟨Rt prog Ka H λu H'=>u=.int .i64 (QM ⟨⟨bc,bn⟩,⟨ic,nn⟩,sc,d,sz⟩)∧∃k,H'=H.up k,E0⟩ K0 A H':=by
  rintro A H' ⟨hx,r1,r3,r4,r5,g0,g1,g2,g3⟩ c0;rw[hcs]at g0;simp only[QaN];simp only[Qc,simprocAttr,Qi,QB,r1,r3,r4,r5,g0,g1,g2,g3]
  repeat' (first
   | (refine QG (λh=>?_) (λh=>?_)<;>(try simp only[Bool.not_eq_true',Bool.not_eq_false']at h)<;>simp only[Qc,simprocAttr,Qi,QB,r1,r3,r4,r5,g0,g1,g2,g3,h])
   | (refine Qh (λh=>?_) (λh=>?_)<;>(try simp only[Bool.not_eq_true',Bool.not_eq_false']at h)<;>simp only[Qc,simprocAttr,Qi,QB,r1,r3,r4,r5,g0,g1,g2,g3,h])
   | (refine(qs _).thenW ?_;rintro _ _ hn hw2 ⟨rfl,rfl⟩;simp only[Qc,simprocAttr,Qi,QB,r1,r3,r4,r5,g0,g1,g2,g3])
   | (refine(qw ⟨bc,bn⟩ _).thenW ?_;rintro _ _ hn hw2 ⟨rfl,k,rfl⟩;have hx:=hx.up (show _<=k from hn);simp only[Qc,simprocAttr,Qi,QB,r1,r3,r4,r5,g0,g1,g2,g3])
   | (refine(qw ⟨ic,nn⟩ _).thenW ?_;rintro _ _ hn hw2 ⟨rfl,k,rfl⟩;have hx:=hx.up (show _<=k from hn);simp only[Qc,simprocAttr,Qi,QB,r1,r3,r4,r5,g0,g1,g2,g3])
   | (refine(qc _).thenW ?_;rintro _ _ hn hw2 ⟨rfl,k,rfl⟩;have hx:=hx.up (show _<=k from hn);simp only[Qc,simprocAttr,Qi,QB,r1,r3,r4,r5,g0,g1,g2,g3]))
  all_goals first
   | (have hb:Kx sz=true:=(by(try simp only[isR]);simp[*]);exact .ext hw hx ⟨by first | (simp only[QM,c0,hb,Bool.false_eq_true,if_false,if_true,Bool.false_and,Bool.true_and,Bool.and_false,Bool.and_true,Bool.false_or,Bool.true_or,Bool.or_false,Bool.or_true,Bool.not_true,Bool.not_false,reduceCtorEq,gt_iff_lt,eq_self];done) | (have c9:=c3;simp only[hb,Bool.true_and]at c9;simp only[QM,c0,c1,c2,hb,c9,Bool.false_eq_true,if_false,if_true,Bool.true_and,reduceCtorEq,gt_iff_lt,eq_self]),_,rfl⟩)
   | (have hb:Kx sz=false:=(by(try simp only[isR]);simp[*]);exact .ext hw hx ⟨by first | (simp only[QM,c0,hb,Bool.false_eq_true,if_false,if_true,Bool.false_and,Bool.true_and,Bool.and_false,Bool.and_true,Bool.false_or,Bool.true_or,Bool.or_false,Bool.or_true,Bool.not_true,Bool.not_false,reduceCtorEq,gt_iff_lt,eq_self];done) | (have c9:=c3;simp only[hb,Bool.true_and]at c9;simp only[QM,c0,c1,c2,hb,c9,Bool.false_eq_true,if_false,if_true,Bool.true_and,reduceCtorEq,gt_iff_lt,eq_self]),_,rfl⟩)
   | (have hb:Kx sz=true:=(by(try simp only[isR]);simp[*]);exact P5 _ _ (mcF.env ⟨hx,r1,r3,r4,r5,by rw[hcs];exact g0,g1,g2,g3⟩ (by simp only[Qq,simprocAttr]) (by simp only[Qq,simprocAttr]) (by simp only[Qq,simprocAttr]) (by simp only[Qq,simprocAttr])) c0 hb)
 have hx0:∀b c d e f g h,Ext H (((((((H.push b).push c).set (H.next+1) d).push e).set (H.next+2) f).push g).set (H.next+3) h):=λb c d e f g h=>
  (((((((Ext.refl H).push b).push c).set (by omega) d).push e).set (by omega) f).push g).set (by omega) h
 have fin:∀A,A 1=.pointer (some ⟨H.next,0,none⟩)->A 3=.pointer (some ⟨H.next+1,0,none⟩)->A 4=.pointer (some ⟨H.next+2,0,none⟩)->A 5=.pointer (some ⟨H.next+3,0,none⟩)->∀d e f,mcF H cs A (((((((H.push (.cells cs QK false)).push d).set (H.next+1) (.cells [.int .i64 0,.int .i64 0] QJ false)).push e).set (H.next+2) (.cells [.int .i64 8,.int .i64 0] QJ false)).push f).set (H.next+3) (.cells [.int .i64 5,.int .i64 4] QJ false)):=by
  intro A r1 r3 r4 r5 d e f;refine⟨hx0 _ _ _ _ _ _ _,r1,r3,r4,r5,?_,?_,?_,?_⟩<;>simp[Qa.get_set,Qa.get_push,Nat.add_assoc]
 rw[<- hcs];refine QG (λh=>?_) (λh=>?_)<;>(try simp only[Bool.not_eq_true',Bool.not_eq_false']at h)<;>simp only[Qc,simprocAttr,Qi,Nat.add_assoc,Nat.add_eq_left,Nat.left_eq_add,h,hcs]
 ·refine Qh (λh2=>?_) (λh2=>?_)<;>simp only[Qc,simprocAttr,Qi,h2]
  ·exact .ext hw (hx0 _ _ _ _ _ _ _) ⟨by simp only[QM,h,gt_iff_lt,h2,Bool.or_true,if_true],_,rfl⟩
  ·rw[<- hcs];exact P6 _ _ (fin _ (by simp only[Qq,simprocAttr]) (by simp only[Qq,simprocAttr]) (by simp only[Qq,simprocAttr]) (by simp only[Qq,simprocAttr]) _ _ _) (by simp only[h,h2,Bool.or_false])
 ·exact .ext hw (hx0 _ _ _ _ _ _ _) ⟨by simp only[QM,h,Bool.true_or,if_true],_,rfl⟩
def XH:Mm:=⟨⟨0,0⟩,⟨0,0⟩,0,0,0⟩
def JV (m:Mm):Mm:=
 if(isR m.i 0 0||!(m.sc==1))=true then m else if isR m.b 0 0=true then⟨m.i,⟨0,0⟩,0,m.d,m.sz⟩ else if(m.i.n==4)=true then⟨m.i,m.b,m.sc,m.d,m.sz⟩ else m
def Qjb (m:Mm):Mm×Int:=if QM m=0 then(JV m,0) else(XH,QM m)
theorem QlJ (m:Mm) (H:Qa):Qf prog QbL [.agg m.cells.toArray] H λu H'=>u=.tuple #[.agg (Qjb m).1.cells.toArray,.int .i64 (Qjb m).2]∧∃k,H'=H.up k:=by
 refine QqC λhw=>?_;have q:=QlI m;obtain⟨e,he⟩:∃e,QM m=e:=⟨_,rfl⟩;rw[he]at q;have hc:Qjb m=if e=0 then(JV m,0) else(XH,e):=by rw[<- he];rfl
 rw[hc];clear hc he;obtain⟨⟨bc,bn⟩,⟨ic,nn⟩,sc,d,sz⟩:=m;simp only[Mm.cells]at q;simp only[Mm.cells,Qi7,ZR,ZS,ZT,ZU,Qc,simprocAttr,Vb];refine(q _).thenW ?_;rintro _ _ hn hw2 ⟨rfl,k,rfl⟩;simp only[Qa.next_push,Qa.next_up]at hn;have k0:¬H.next=k:=by omega
 have k1:¬H.next+1=k:=by omega
 have k2:¬H.next=k+1:=by omega
 have k3:¬H.next+1=k+1:=by omega
 simp only[Qc,simprocAttr,Vb,ZR,ZS,ZT,ZU,QB,Nat.add_assoc,Nat.add_eq_left,Nat.left_eq_add,k0,k1,k2,k3]
 repeat' (first
   | refine⟨by simp[Qj,plain],by omega,?_⟩
   | (refine QG (λh=>?_) (λh=>?_)<;>(try simp only[Bool.not_eq_true',Bool.not_eq_false']at h)<;>simp only[Qc,simprocAttr,Vb,ZR,ZS,ZT,ZU,QB,Nat.add_assoc,Nat.add_eq_left,Nat.left_eq_add,k0,k1,k2,k3,h])
   | (refine Qh (λh=>?_) (λh=>?_)<;>(try simp only[Bool.not_eq_true',Bool.not_eq_false']at h)<;>simp only[Qc,simprocAttr,Vb,ZR,ZS,ZT,ZU,QB,Nat.add_assoc,Nat.add_eq_left,Nat.left_eq_add,k0,k1,k2,k3,h]))
 all_goals refine .ext hw ?_ ⟨?_,_,rfl⟩
 all_goals try (repeat' (first | exact Ext.refl _ | refine Ext.push ?_ _ | refine Ext.up ?_ (by first | assumption | (simp only[Qa.next_push,Qa.next_set];omega)) | refine Ext.set ?_ (by omega) _))
 all_goals (try have he0:e=0:=by simpa using ‹(e==0)=true›)<;>(try have he0:¬e=0:=by simpa using ‹(e==0)=false›)
 all_goals (simp only[JV,XH,isR,Mm.cells, *,Bool.false_eq_true,if_false,if_true,Bool.false_and,Bool.true_and,Bool.and_false,Bool.and_true,Bool.false_or,Bool.true_or,Bool.or_false,Bool.or_true,Bool.not_true,Bool.not_false,reduceCtorEq,eq_self];done)
structure Ar where
 k:Int
 r:Rg
 m:Mm
 n:Int
 deriving DecidableEq
def Ar.cells (a:Ar):List Value:=[.int .i64 a.k,.int .i64 a.r.c,.int .i64 a.r.n,.int .i64 a.m.b.c,.int .i64 a.m.b.n,.int .i64 a.m.i.c,.int .i64 a.m.i.n,.int .i64 a.m.sc,.int .i64 a.m.d,.int .i64 a.m.sz,.int .i64 a.n]
def Xc (a:Ar):Int:=
 if(a.k==1)=true then(if(!Y9 a.r||(a.r.c==8))=true then 2 else 0)
 else if(a.k==2)=true then QM a.m
 else if(a.k==3)=true then 0
 else if(a.k==4)=true then(if(decide (a.n < -2147483648)||decide (2147483647<a.n))=true then 5 else 0)
 else 2
theorem JO (a:Ar) (H:Qa):Qf prog XN [.agg a.cells.toArray] H λu H'=>u=.int .i64 (Xc a)∧∃k,H'=H.up k:=by
 refine QkC λhw=>?_;have q1:=Kb a.r;have q2:=QlI a.m;obtain⟨k,⟨rc,rn⟩,⟨⟨bc,bn⟩,⟨ic,nn⟩,sc,d,sz⟩,n⟩:=a;simp only[Rg.cells,Mm.cells]at q1 q2;simp(disch:=omega) only[Ar.cells,Qc7,Y3,Y4,Y5,Y6,Y7,Wp,simprocAttr,XY]
 repeat' (first
   | (refine QG (λh=>?_) (λh=>?_)<;>(try simp only[Bool.not_eq_true',Bool.not_eq_false']at h)<;>simp(disch:=omega) only[Wp,simprocAttr,XY,Y3,Y4,Y5,Y6,Y7,h])
   | (refine Qh (λh=>?_) (λh=>?_)<;>(try simp only[Bool.not_eq_true',Bool.not_eq_false']at h)<;>simp(disch:=omega) only[Wp,simprocAttr,XY,Y3,Y4,Y5,Y6,Y7,h])
   | (refine(q1 _).thenW ?_;rintro _ _ hn hw2 ⟨rfl,k,rfl⟩;simp only[Qa.next_push,Qa.next_up,Qa.next_set]at hn;simp(disch:=omega) only[Wp,simprocAttr,XY])
   | (refine(q2 _).thenW ?_;rintro _ _ hn hw2 ⟨rfl,k,rfl⟩;simp only[Qa.next_push,Qa.next_up,Qa.next_set]at hn;simp(disch:=omega) only[Wp,simprocAttr,XY]))
 all_goals refine .ext hw ?_ ⟨?_,_,rfl⟩
 all_goals try (repeat' (first | exact Ext.refl _ | refine Ext.push ?_ _ | refine Ext.up ?_ (by simp only[Qa.next_push,Qa.next_set,Qa.next_up];omega) | refine Ext.set ?_ (by omega) _))
 all_goals (simp only[Xc, *,Bool.false_eq_true,if_false,if_true,Bool.false_and,Bool.true_and,Bool.and_false,Bool.and_true,Bool.false_or,Bool.true_or,Bool.or_false,Bool.or_true,Bool.not_true,Bool.not_false,reduceCtorEq,eq_self])
/-! ### Canon -/
def Wi:Ar:=⟨0,⟨0,0⟩,XH,0⟩
def Qnx (a:Ar):Ar:=if(a.k==1)=true then⟨a.k,a.r,XH,0⟩ else if(a.k==2)=true then⟨a.k,⟨0,0⟩,JV a.m,0⟩ else⟨a.k,⟨0,0⟩,XH,a.n⟩
def Yr (a:Ar):Ar×Int:=if(Xc a==0)=true then(Qnx a,0) else(Wi,Xc a)
theorem Qny {a:Ar} (hk:(a.k==2)=true):Xc a=QM a.m:=by
 have:a.k=2:=by simpa using hk
 simp[Xc,this]
theorem Ql5 (a:Ar) (H:Qa):Qf prog Vz [.agg a.cells.toArray] H λu H'=>u=.tuple #[.agg (Yr a).1.cells.toArray,.int .i64 (Yr a).2]∧∃k,H'=H.up k:=by
 refine QkD λhw=>?_;have q1:=JO a;have q2:=QlJ a.m;have hm:=@Qny a;have hcc:Qjb a.m=if QM a.m=0 then(JV a.m,0) else(XH,QM a.m):=rfl
 have hce:Yr a=if(Xc a==0)=true then(Qnx a,0) else(Wi,Xc a):=rfl
 rw[hce];rw[hcc]at q2;clear hce hcc;generalize Xc a=e at *;generalize QM a.m=f at *;have hca:Qnx a=if(a.k==1)=true then⟨a.k,a.r,XH,0⟩ else if(a.k==2)=true then⟨a.k,⟨0,0⟩,JV a.m,0⟩ else⟨a.k,⟨0,0⟩,XH,a.n⟩:=rfl
 rw[hca];clear hca;generalize JV a.m=mc at *;obtain⟨k,⟨rc,rn⟩,⟨⟨bc,bn⟩,⟨ic,nn⟩,sc,d,sz⟩,n⟩:=a;obtain⟨⟨mb,mbn⟩,⟨mi,min⟩,msc,md,msz⟩:=mc;simp only[Ar.cells,Mm.cells]at q1 q2 hm;simp(disch:=(first | omega | (repeat (first | rw[Qa.next_push] | rw[Qa.next_set] | rw[Qa.next_up]));try omega)) only[Ar.cells,Qdd,W1,W3,W5,Wp,simprocAttr,XZ]
 repeat' (first
   | (refine QG (λh=>?_) (λh=>?_)<;>(try simp only[Bool.not_eq_true',Bool.not_eq_false']at h)<;>simp(disch:=(first | omega | (repeat (first | rw[Qa.next_push] | rw[Qa.next_set] | rw[Qa.next_up]));try omega)) only[W1,W3,W5,Wp,simprocAttr,XZ,h])
   | (refine Qh (λh=>?_) (λh=>?_)<;>(try simp only[Bool.not_eq_true',Bool.not_eq_false']at h)<;>simp(disch:=(first | omega | (repeat (first | rw[Qa.next_push] | rw[Qa.next_set] | rw[Qa.next_up]));try omega)) only[W1,W3,W5,Wp,simprocAttr,XZ,h])
   | (refine(q1 _).thenW ?_;rintro _ _ hn hw2 ⟨rfl,k,rfl⟩;(try simp only[Qa.next_push,Qa.next_up,Qa.next_set]at hn);simp(disch:=(first | omega | (repeat (first | rw[Qa.next_push] | rw[Qa.next_set] | rw[Qa.next_up]));try omega)) only[W1,W3,W5,Wp,simprocAttr,XZ])
   | (refine(q2 _).thenW ?_;rintro _ _ hn hw2 ⟨rfl,k,rfl⟩;(try simp only[Qa.next_push,Qa.next_up,Qa.next_set]at hn);simp(disch:=(first | omega | (repeat (first | rw[Qa.next_push] | rw[Qa.next_set] | rw[Qa.next_up]));try omega)) only[W1,W3,W5,Wp,simprocAttr,XZ])
   | (with_reducible refine⟨by simp[Qj,plain],by omega,?_⟩)
   | (with_reducible refine⟨by simp[Qj,plain],?_⟩)
   | fail)
 all_goals refine .ext hw ?_ ⟨?_,_,rfl⟩
 all_goals try (repeat' (first | exact Ext.refl _ | refine Ext.push ?_ _ | refine Ext.up ?_ (by simp only[Qa.next_push,Qa.next_set,Qa.next_up];omega) | refine Ext.set ?_ (by omega) _))
 all_goals simp_all [Wi,XH,Ar.cells,Mm.cells]
def QlK (a:Ar):Int:=if(Xc a==0)=true then(if(a.k==1)=true then Qja a.r else if(a.k==2)=true then a.m.sz else 0) else 0
theorem Qnz (a:Ar) (H:Qa):Qf prog QaG [.agg a.cells.toArray] H λu H'=>u=.int .i64 (QlK a)∧∃k,H'=H.up k:=by
 refine Ql3 λhw=>?_;have q1:=JO a;have q2:=Qun a.r;have hs:QlK a=if(Xc a==0)=true then(if(a.k==1)=true then Qja a.r else if(a.k==2)=true then a.m.sz else 0) else 0:=rfl
 rw[hs];clear hs;generalize Xc a=e at *;generalize Qja a.r=sr at *;obtain⟨k,⟨rc,rn⟩,⟨⟨bc,bn⟩,⟨ic,nn⟩,sc,d,sz⟩,n⟩:=a;simp only[Ar.cells,Rg.cells]at q1 q2;simp(disch:=(first | omega | (repeat (first | rw[Qa.next_push] | rw[Qa.next_set] | rw[Qa.next_up]));try omega)) only[Ar.cells,QeF,Wp,simprocAttr,YA]
 repeat' (first
   | (refine QG (λh=>?_) (λh=>?_)<;>(try simp only[Bool.not_eq_true',Bool.not_eq_false']at h)<;>simp(disch:=(first | omega | (repeat (first | rw[Qa.next_push] | rw[Qa.next_set] | rw[Qa.next_up]));try omega)) only[Wp,simprocAttr,YA,h])
   | (refine Qh (λh=>?_) (λh=>?_)<;>(try simp only[Bool.not_eq_true',Bool.not_eq_false']at h)<;>simp(disch:=(first | omega | (repeat (first | rw[Qa.next_push] | rw[Qa.next_set] | rw[Qa.next_up]));try omega)) only[Wp,simprocAttr,YA,h])
   | (refine(q1 _).thenW ?_;rintro _ _ hn hw2 ⟨rfl,k,rfl⟩;(try simp only[Qa.next_push,Qa.next_up,Qa.next_set]at hn);simp(disch:=(first | omega | (repeat (first | rw[Qa.next_push] | rw[Qa.next_set] | rw[Qa.next_up]));try omega)) only[Wp,simprocAttr,YA])
   | (refine(q2 _).thenW ?_;rintro _ _ hn hw2 ⟨rfl,k,rfl⟩;(try simp only[Qa.next_push,Qa.next_up,Qa.next_set]at hn);simp(disch:=(first | omega | (repeat (first | rw[Qa.next_push] | rw[Qa.next_set] | rw[Qa.next_up]));try omega)) only[Wp,simprocAttr,YA])
   | (with_reducible refine⟨by simp[Qj,plain],by omega,?_⟩)
   | (with_reducible refine⟨by simp[Qj,plain],?_⟩)
   | fail)
 all_goals refine .ext hw ?_ ⟨?_,_,rfl⟩
 all_goals try (repeat' (first | exact Ext.refl _ | refine Ext.push ?_ _ | refine Ext.up ?_ (by simp only[Qa.next_push,Qa.next_set,Qa.next_up];omega) | refine Ext.set ?_ (by omega) _))
 all_goals simp_all []
def VS (o:Int):Bool:=decide (1<=o)&&decide (o<=322)
theorem Qeh (o:Int) (H:Qa):Qf prog Y0 [.int .i64 o] H λu H'=>u=.bool (VS o)∧H'=H:=by
 refine Qhf λhw=>?_;simp(disch:=(first | omega | (repeat (first | rw[Qa.next_push] | rw[Qa.next_set] | rw[Qa.next_up]));try omega)) only[QcH,Wp,simprocAttr,ZN]
 repeat' (first
   | (refine QG (λh=>?_) (λh=>?_)<;>(try simp only[Bool.not_eq_true',Bool.not_eq_false']at h)<;>simp(disch:=(first | omega | (repeat (first | rw[Qa.next_push] | rw[Qa.next_set] | rw[Qa.next_up]));try omega)) only[Wp,simprocAttr,ZN,h])
   | (refine Qh (λh=>?_) (λh=>?_)<;>(try simp only[Bool.not_eq_true',Bool.not_eq_false']at h)<;>simp(disch:=(first | omega | (repeat (first | rw[Qa.next_push] | rw[Qa.next_set] | rw[Qa.next_up]));try omega)) only[Wp,simprocAttr,ZN,h])
   | (with_reducible refine⟨by simp[Qj,plain],by omega,?_⟩)
   | (with_reducible refine⟨by simp[Qj,plain],?_⟩)
   | fail)
 all_goals refine .mk (Nat.le_refl _) ⟨?_,rfl⟩
 all_goals (simp_all [VS]<;>omega)
def Qup (o:Int):Int×Bool:=if VS o=false then(0,false) else if o=1∨o=2∨o=3∨o=4∨o=5∨o=6∨o=7∨o=8∨o=9∨o=10∨o=16 then(0,true) else if o=48 then(64,true) else if o=51 then(16,false) else(8,false)
theorem Quq (o:Int) (H:Qa):Qf prog QhX [.int .i64 o] H λu H'=>u=.tuple #[.int .i64 (Qup o).1,.bool (Qup o).2]∧H'=H:=by
 refine Qsj λhw=>?_;have q1:=Qeh o;have hs:Qup o=if VS o=false then(0,false) else if o=1∨o=2∨o=3∨o=4∨o=5∨o=6∨o=7∨o=8∨o=9∨o=10∨o=16 then(0,true) else if o=48 then(64,true) else if o=51 then(16,false) else(8,false):=rfl
 rw[hs];clear hs;generalize VS o=v at *;simp(disch:=(first | omega | (repeat (first | rw[Qa.next_push] | rw[Qa.next_set] | rw[Qa.next_up]));try omega)) only[QlE,Jr,Js,Jt,Ju,Jv,Jw,Jx,Jy,Jz,ZO,ZP,Wp,simprocAttr,Qao]
 repeat' (first
   | (refine QG (λh=>?_) (λh=>?_)<;>(try simp only[Bool.not_eq_true',Bool.not_eq_false']at h)<;>simp(disch:=(first | omega | (repeat (first | rw[Qa.next_push] | rw[Qa.next_set] | rw[Qa.next_up]));try omega)) only[Jr,Js,Jt,Ju,Jv,Jw,Jx,Jy,Jz,ZO,ZP,Wp,simprocAttr,Qao,h])
   | (refine Qh (λh=>?_) (λh=>?_)<;>(try simp only[Bool.not_eq_true',Bool.not_eq_false']at h)<;>simp(disch:=(first | omega | (repeat (first | rw[Qa.next_push] | rw[Qa.next_set] | rw[Qa.next_up]));try omega)) only[Jr,Js,Jt,Ju,Jv,Jw,Jx,Jy,Jz,ZO,ZP,Wp,simprocAttr,Qao,h])
   | (refine(q1 _).thenW ?_;rintro _ _ hn hw2 ⟨rfl,rfl⟩;(try simp only[Qa.next_push,Qa.next_up,Qa.next_set]at hn);simp(disch:=(first | omega | (repeat (first | rw[Qa.next_push] | rw[Qa.next_set] | rw[Qa.next_up]));try omega)) only[Jr,Js,Jt,Ju,Jv,Jw,Jx,Jy,Jz,ZO,ZP,Wp,simprocAttr,Qao])
   | (with_reducible refine⟨by simp[Qj,plain],by omega,?_⟩)
   | (with_reducible refine⟨by simp[Qj,plain],?_⟩)
   | fail)
 all_goals refine .mk (Nat.le_refl _) ⟨?_,rfl⟩
 all_goals simp_all []
def Qg (l:List Ar):List Value:=l.flatMap Ar.cells
theorem Wh (a:Ar):a.cells.length=11:=rfl
theorem Kc (a:Ar) (l:List Ar):Qg (a::l)=a.cells++Qg l:=by simp[Qg]
theorem QF:∀l:List Ar,(Qg l).length=l.length * 11
 | []=>rfl
 | a::l=>by
  have:=QF l;rw[Kc,List.length_append,Wh,this,List.length_cons];omega
theorem Wx:∀ (l:List Ar) (i:Nat) (p:Ar),l[i]? = some p->((Qg l).drop (i * 11)).take 11=p.cells
 | [],i,p,h=>by simp at h
 | q::l,0,p,h=>by
  simp at h;subst h;rw[Kc,Nat.zero_mul,List.drop_zero,List.take_append_of_le_length (by rw[Wh];exact Nat.le_refl 11),List.take_of_length_le (by rw[Wh];exact Nat.le_refl 11)]
 | q::l,i+1,p,h=>by
  rw[Kc,show(i+1) * 11=q.cells.length+i * 11 by rw[Wh];omega,List.drop_append,List.drop_of_length_le (by omega),List.nil_append,Nat.add_sub_cancel_left];exact Wx l i p (by simpa using h)
def QS (H:Qa) (v:Value) (l:List Ar):Prop:=QaQ H v l.length (Qg l)
theorem QS.ext {H H':Qa} {v:Value} {l:List Ar} (hw:H.Wf) (he:Ext H H') (h:QS H v l):QS H' v l:=QaQ.ext hw he h
theorem Qyi (r:Rg):0<=Qja r∧Qja r<=32:=by
 unfold Qja
 repeat' split
 all_goals decide
theorem QwR {n:Int} (h:Kx n=true):0<=n∧n<=32:=by
 simp only[Kx,Bool.or_eq_true,beq_iff_eq]at h;omega
theorem Qyj (a:Ar):0<=QlK a∧QlK a<=32:=by
 unfold QlK;split
 ·rename_i h;split
  ·exact Qyi _
  ·split
   ·rename_i h2;rw[Qny h2]at h;apply QwR;cases hs:Kx a.m.sz with
    | true=>rfl
    | false=>
     unfold QM at h;rw[hs]at h;split at h<;>simp at h
   ·omega
 ·omega
def Xp (op:Int) (l:List Ar):Int×Bool:=if VS op=false then(0,false) else if((Qup op).1==0)=false then Qup op else match l with
 | []=>(0,false)
 | a::_=>if(QlK a==0)=true then(0,false) else(8 * QlK a,(Qup op).2)
theorem QbN (op:Int) (v:Value) (l:List Ar) (H:Qa) (hv:QS H v l) (hl:l.length<=1000):Qf prog J6 [.agg #[.int .i64 op,v]] H λu H'=>u=.tuple #[.int .i64 (Xp op l).1,.bool (Xp op l).2]∧∃k,H'=H.up k:=by
 refine Qqy λhw=>?_;have q1:=Qeh op;have q2:=Quq op;unfold Xp;generalize VS op=v1 at *;generalize Qup op=v2 at *;obtain⟨v2a,v2b⟩:=v2;obtain⟨a0,cap,rfl,h1⟩:=hv;cases l with
 | nil=>
  have el0:(((0:Nat):Int)==0)=true:=rfl;simp(disch:=(first | omega | (repeat (first | rw[Qa.next_push] | rw[Qa.next_set] | rw[Qa.next_up]));try omega)) only[Qec,Wp,simprocAttr,el0,Wr]
  repeat' (first
    | (refine QG (λh=>?_) (λh=>?_)<;>(try simp only[Bool.not_eq_true',Bool.not_eq_false']at h)<;>simp(disch:=(first | omega | (repeat (first | rw[Qa.next_push] | rw[Qa.next_set] | rw[Qa.next_up]));try omega)) only[Wp,simprocAttr,el0,Wr,h])
    | (refine Qh (λh=>?_) (λh=>?_)<;>(try simp only[Bool.not_eq_true',Bool.not_eq_false']at h)<;>simp(disch:=(first | omega | (repeat (first | rw[Qa.next_push] | rw[Qa.next_set] | rw[Qa.next_up]));try omega)) only[Wp,simprocAttr,el0,Wr,h])
    | (refine(q1 _).thenW ?_;rintro _ _ hn hw2 ⟨rfl,rfl⟩;(try simp only[Qa.next_push,Qa.next_up,Qa.next_set]at hn);simp(disch:=(first | omega | (repeat (first | rw[Qa.next_push] | rw[Qa.next_set] | rw[Qa.next_up]));try omega)) only[Wp,simprocAttr,el0,Wr])
    | (refine(q2 _).thenW ?_;rintro _ _ hn hw2 ⟨rfl,rfl⟩;(try simp only[Qa.next_push,Qa.next_up,Qa.next_set]at hn);simp(disch:=(first | omega | (repeat (first | rw[Qa.next_push] | rw[Qa.next_set] | rw[Qa.next_up]));try omega)) only[Wp,simprocAttr,el0,Wr])
    | (with_reducible refine⟨by simp[Qj,plain],by omega,?_⟩)
    | (with_reducible refine⟨by simp[Qj,plain],?_⟩)
    | fail)
  all_goals refine .ext hw ?_ ⟨?_,_,rfl⟩
  all_goals try (repeat' (first | exact Ext.refl _ | refine Ext.push ?_ _ | refine Ext.up ?_ (by simp only[Qa.next_push,Qa.next_set,Qa.next_up];omega) | refine Ext.set ?_ (by omega) _))
  all_goals simp_all
 | cons a l=>
  dsimp only;have et0:(0:Int).toNat=0:=rfl;have q3:=Qnz a;have h8:=Qyj a;generalize QlK a=s at *;obtain⟨b,e,ro,rfl,hgb⟩:=h1 (by simp);have el0:(((l.length+1:Nat):Int)==0)=false:=by simp;omega
  have ec1:((0:Int)<=0∧(0:Int)<((l.length+1:Nat):Int)):=by omega
  have hb:=hw.lt hgb;have e8:IntKind.i64.wrap (8 * s)=8 * s:=w64 (by unfold I64;omega);have hd11:List.take 11 (Qg (a::l))=a.cells:=by
   have:=Wx (a::l) 0 a rfl;simpa using this
  have hle:11<=(Qg (a::l)).length:=by rw[QF];simp;omega
  simp(disch:=(first | omega | (repeat (first | rw[Qa.next_push] | rw[Qa.next_set] | rw[Qa.next_up]));try omega)) only[Qec,Wp,simprocAttr,el0,ec1,et0,hgb,hd11,hle,e8,Wr]
  repeat' (first
    | (refine QG (λh=>?_) (λh=>?_)<;>(try simp only[Bool.not_eq_true',Bool.not_eq_false']at h)<;>simp(disch:=(first | omega | (repeat (first | rw[Qa.next_push] | rw[Qa.next_set] | rw[Qa.next_up]));try omega)) only[Wp,simprocAttr,el0,ec1,et0,hgb,hd11,hle,e8,Wr,h])
    | (refine Qh (λh=>?_) (λh=>?_)<;>(try simp only[Bool.not_eq_true',Bool.not_eq_false']at h)<;>simp(disch:=(first | omega | (repeat (first | rw[Qa.next_push] | rw[Qa.next_set] | rw[Qa.next_up]));try omega)) only[Wp,simprocAttr,el0,ec1,et0,hgb,hd11,hle,e8,Wr,h])
    | (refine(q1 _).thenW ?_;rintro _ _ hn hw2 ⟨rfl,rfl⟩;(try simp only[Qa.next_push,Qa.next_up,Qa.next_set]at hn);simp(disch:=(first | omega | (repeat (first | rw[Qa.next_push] | rw[Qa.next_set] | rw[Qa.next_up]));try omega)) only[Wp,simprocAttr,el0,ec1,et0,hgb,hd11,hle,e8,Wr])
    | (refine(q2 _).thenW ?_;rintro _ _ hn hw2 ⟨rfl,rfl⟩;(try simp only[Qa.next_push,Qa.next_up,Qa.next_set]at hn);simp(disch:=(first | omega | (repeat (first | rw[Qa.next_push] | rw[Qa.next_set] | rw[Qa.next_up]));try omega)) only[Wp,simprocAttr,el0,ec1,et0,hgb,hd11,hle,e8,Wr])
    | (refine(q3 _).thenW ?_;rintro _ _ hn hw2 ⟨rfl,k,rfl⟩;(try simp only[Qa.next_push,Qa.next_up,Qa.next_set]at hn);simp(disch:=(first | omega | (repeat (first | rw[Qa.next_push] | rw[Qa.next_set] | rw[Qa.next_up]));try omega)) only[Wp,simprocAttr,el0,ec1,et0,hgb,hd11,hle,e8,Wr])
    | (with_reducible refine⟨by simp[Qj,plain],by omega,?_⟩)
    | (with_reducible refine⟨by simp[Qj,plain],?_⟩)
    | fail)
  all_goals refine .ext hw ?_ ⟨?_,_,rfl⟩
  all_goals try (repeat' (first | exact Ext.refl _ | refine Ext.push ?_ _ | refine Ext.up ?_ (by simp only[Qa.next_push,Qa.next_set,Qa.next_up];omega) | refine Ext.set ?_ (by omega) _))
  all_goals simp_all
def QgO (n bits:Int):Int:=if bits=8 then n % 256 else if bits=16 then n % 65536 else if bits=32 then n % 4294967296 else n
def QgP (n bits:Int):Int:=if bits=8 then(n+128) % 256 - 128 else if bits=16 then(n+32768) % 65536 - 32768 else if bits=32 then(n+2147483648) % 4294967296 - 2147483648 else n
def Kh (n bits:Int) (sg:Bool):Int×Int:=
 if(bits==8||bits==16||bits==32||bits==64)=false then(0,2)
 else if(!(n==QgO n bits)&&!(n==QgP n bits))=true then(0,5)
 else if sg=true then(QgP n bits,0) else(QgO n bits,0)
theorem QkG (n bits:Int) (sg:Bool) (hn:I64 n) (hb:bits=8∨bits=16∨bits=32∨bits=64) (H:Qa):Qf prog Yi [.int .i64 n,.int .i64 bits,.bool sg] H λu H'=>u=.tuple #[.int .i64 (Kh n bits sg).1,.int .i64 (Kh n bits sg).2]∧H'=H:=by
 refine QfJ λhw=>?_;rcases hb with rfl | rfl | rfl | rfl
 ·have t1:((8:Int)==8)=true:=rfl;have t2:((8:Int)==16)=false:=rfl;have t3:((8:Int)==32)=false:=rfl;have t4:((8:Int)==64)=false:=rfl;have w1:IntKind.i64.wrap (64 - 8)=56:=by decide
  have p1:(2:Int) ^ min (Int.toNat 56) IntKind.u64.bits=72057594037927936:=by decide
  have p2:(2:Int) ^ min (Int.toNat 56) IntKind.i64.bits=72057594037927936:=by decide
  have z0:((0:Int)<=56)=True:=eq_true (by decide);have eL:IntKind.i64.wrap ((IntKind.u64.wrap (IntKind.u64.wrap n * 72057594037927936)).fdiv 72057594037927936)=QgO n 8:=by
   unfold I64 at hn;rw[Int.fdiv_eq_ediv_of_nonneg _ (by decide),IntKind.wrap_i64,IntKind.wrap_u64,IntKind.wrap_u64];rw[show QgO n 8=n % 256 from rfl];omega
  have eC:(IntKind.i64.wrap (IntKind.u64.wrap (IntKind.u64.wrap n * 72057594037927936))).fdiv 72057594037927936=QgP n 8:=by
   unfold I64 at hn;rw[Int.fdiv_eq_ediv_of_nonneg _ (by decide),IntKind.wrap_i64,IntKind.wrap_u64,IntKind.wrap_u64];rw[show QgP n 8=(n+128) % 256 - 128 from rfl];omega
  simp(disch:=(first | omega | (repeat (first | rw[Qa.next_push] | rw[Qa.next_set] | rw[Qa.next_up]));try omega)) only[Yz,QN,QO,QP,sxA,sxB,Nat.reduceBEq,Nat.reduceEqDiff,reduceCtorEq,mxD,mxB,Nat.reduceAdd,reduceIte,Nat.reduceLeDiff,splice,t1,t2,t3,t4,w1,z0,p1,p2,eL,eC,QY]
  obtain⟨lo,hlo⟩:∃lo,QgO n 8=lo:=⟨_,rfl⟩;obtain⟨cu,hcu⟩:∃cu,QgP n 8=cu:=⟨_,rfl⟩;have hI:Kh n 8 sg=if(!(n==lo)&&!(n==cu))=true then(0,5) else if sg=true then(cu,0) else(lo,0):=by
   rw[<- hlo,<- hcu];rfl
  rw[hI,hlo,hcu];clear hI eL eC hlo hcu
  repeat' (first
   | (refine QG (λh=>?_) (λh=>?_)<;>(try simp only[Bool.not_eq_true',Bool.not_eq_false']at h)<;>simp(disch:=(first | omega | (repeat (first | rw[Qa.next_push] | rw[Qa.next_set] | rw[Qa.next_up]));try omega)) only[QN,QO,QP,sxA,sxB,Nat.reduceBEq,Nat.reduceEqDiff,reduceCtorEq,mxD,mxB,Nat.reduceAdd,reduceIte,Nat.reduceLeDiff,splice,QY,h])
   | (refine Qh (λh=>?_) (λh=>?_)<;>(try simp only[Bool.not_eq_true',Bool.not_eq_false']at h)<;>simp(disch:=(first | omega | (repeat (first | rw[Qa.next_push] | rw[Qa.next_set] | rw[Qa.next_up]));try omega)) only[QN,QO,QP,sxA,sxB,Nat.reduceBEq,Nat.reduceEqDiff,reduceCtorEq,mxD,mxB,Nat.reduceAdd,reduceIte,Nat.reduceLeDiff,splice,QY,h])
   | fail)
  all_goals refine .mk (Nat.le_refl _) ⟨?_,rfl⟩
  all_goals simp_all
 ·have t1:((16:Int)==8)=false:=rfl;have t2:((16:Int)==16)=true:=rfl;have t3:((16:Int)==32)=false:=rfl;have t4:((16:Int)==64)=false:=rfl;have w1:IntKind.i64.wrap (64 - 16)=48:=by decide
  have p1:(2:Int) ^ min (Int.toNat 48) IntKind.u64.bits=281474976710656:=by decide
  have p2:(2:Int) ^ min (Int.toNat 48) IntKind.i64.bits=281474976710656:=by decide
  have z0:((0:Int)<=48)=True:=eq_true (by decide);have eL:IntKind.i64.wrap ((IntKind.u64.wrap (IntKind.u64.wrap n * 281474976710656)).fdiv 281474976710656)=QgO n 16:=by
   unfold I64 at hn;rw[Int.fdiv_eq_ediv_of_nonneg _ (by decide),IntKind.wrap_i64,IntKind.wrap_u64,IntKind.wrap_u64];rw[show QgO n 16=n % 65536 from rfl];omega
  have eC:(IntKind.i64.wrap (IntKind.u64.wrap (IntKind.u64.wrap n * 281474976710656))).fdiv 281474976710656=QgP n 16:=by
   unfold I64 at hn;rw[Int.fdiv_eq_ediv_of_nonneg _ (by decide),IntKind.wrap_i64,IntKind.wrap_u64,IntKind.wrap_u64];rw[show QgP n 16=(n+32768) % 65536 - 32768 from rfl];omega
  simp(disch:=(first | omega | (repeat (first | rw[Qa.next_push] | rw[Qa.next_set] | rw[Qa.next_up]));try omega)) only[Yz,QN,QO,QP,sxA,sxB,Nat.reduceBEq,Nat.reduceEqDiff,reduceCtorEq,mxD,mxB,Nat.reduceAdd,reduceIte,Nat.reduceLeDiff,splice,t1,t2,t3,t4,w1,z0,p1,p2,eL,eC,QY]
  obtain⟨lo,hlo⟩:∃lo,QgO n 16=lo:=⟨_,rfl⟩;obtain⟨cu,hcu⟩:∃cu,QgP n 16=cu:=⟨_,rfl⟩;have hI:Kh n 16 sg=if(!(n==lo)&&!(n==cu))=true then(0,5) else if sg=true then(cu,0) else(lo,0):=by
   rw[<- hlo,<- hcu];rfl
  rw[hI,hlo,hcu];clear hI eL eC hlo hcu
  repeat' (first
   | (refine QG (λh=>?_) (λh=>?_)<;>(try simp only[Bool.not_eq_true',Bool.not_eq_false']at h)<;>simp(disch:=(first | omega | (repeat (first | rw[Qa.next_push] | rw[Qa.next_set] | rw[Qa.next_up]));try omega)) only[QN,QO,QP,sxA,sxB,Nat.reduceBEq,Nat.reduceEqDiff,reduceCtorEq,mxD,mxB,Nat.reduceAdd,reduceIte,Nat.reduceLeDiff,splice,QY,h])
   | (refine Qh (λh=>?_) (λh=>?_)<;>(try simp only[Bool.not_eq_true',Bool.not_eq_false']at h)<;>simp(disch:=(first | omega | (repeat (first | rw[Qa.next_push] | rw[Qa.next_set] | rw[Qa.next_up]));try omega)) only[QN,QO,QP,sxA,sxB,Nat.reduceBEq,Nat.reduceEqDiff,reduceCtorEq,mxD,mxB,Nat.reduceAdd,reduceIte,Nat.reduceLeDiff,splice,QY,h])
   | fail)
  all_goals refine .mk (Nat.le_refl _) ⟨?_,rfl⟩
  all_goals simp_all
 ·have t1:((32:Int)==8)=false:=rfl;have t2:((32:Int)==16)=false:=rfl;have t3:((32:Int)==32)=true:=rfl;have t4:((32:Int)==64)=false:=rfl;have w1:IntKind.i64.wrap (64 - 32)=32:=by decide
  have p1:(2:Int) ^ min (Int.toNat 32) IntKind.u64.bits=4294967296:=by decide
  have p2:(2:Int) ^ min (Int.toNat 32) IntKind.i64.bits=4294967296:=by decide
  have z0:((0:Int)<=32)=True:=eq_true (by decide);have eL:IntKind.i64.wrap ((IntKind.u64.wrap (IntKind.u64.wrap n * 4294967296)).fdiv 4294967296)=QgO n 32:=by
   unfold I64 at hn;rw[Int.fdiv_eq_ediv_of_nonneg _ (by decide),IntKind.wrap_i64,IntKind.wrap_u64,IntKind.wrap_u64];rw[show QgO n 32=n % 4294967296 from rfl];omega
  have eC:(IntKind.i64.wrap (IntKind.u64.wrap (IntKind.u64.wrap n * 4294967296))).fdiv 4294967296=QgP n 32:=by
   unfold I64 at hn;rw[Int.fdiv_eq_ediv_of_nonneg _ (by decide),IntKind.wrap_i64,IntKind.wrap_u64,IntKind.wrap_u64];rw[show QgP n 32=(n+2147483648) % 4294967296 - 2147483648 from rfl];omega
  simp(disch:=(first | omega | (repeat (first | rw[Qa.next_push] | rw[Qa.next_set] | rw[Qa.next_up]));try omega)) only[Yz,QN,QO,QP,sxA,sxB,Nat.reduceBEq,Nat.reduceEqDiff,reduceCtorEq,mxD,mxB,Nat.reduceAdd,reduceIte,Nat.reduceLeDiff,splice,t1,t2,t3,t4,w1,z0,p1,p2,eL,eC,QY]
  obtain⟨lo,hlo⟩:∃lo,QgO n 32=lo:=⟨_,rfl⟩;obtain⟨cu,hcu⟩:∃cu,QgP n 32=cu:=⟨_,rfl⟩;have hI:Kh n 32 sg=if(!(n==lo)&&!(n==cu))=true then(0,5) else if sg=true then(cu,0) else(lo,0):=by
   rw[<- hlo,<- hcu];rfl
  rw[hI,hlo,hcu];clear hI eL eC hlo hcu
  repeat' (first
   | (refine QG (λh=>?_) (λh=>?_)<;>(try simp only[Bool.not_eq_true',Bool.not_eq_false']at h)<;>simp(disch:=(first | omega | (repeat (first | rw[Qa.next_push] | rw[Qa.next_set] | rw[Qa.next_up]));try omega)) only[QN,QO,QP,sxA,sxB,Nat.reduceBEq,Nat.reduceEqDiff,reduceCtorEq,mxD,mxB,Nat.reduceAdd,reduceIte,Nat.reduceLeDiff,splice,QY,h])
   | (refine Qh (λh=>?_) (λh=>?_)<;>(try simp only[Bool.not_eq_true',Bool.not_eq_false']at h)<;>simp(disch:=(first | omega | (repeat (first | rw[Qa.next_push] | rw[Qa.next_set] | rw[Qa.next_up]));try omega)) only[QN,QO,QP,sxA,sxB,Nat.reduceBEq,Nat.reduceEqDiff,reduceCtorEq,mxD,mxB,Nat.reduceAdd,reduceIte,Nat.reduceLeDiff,splice,QY,h])
   | fail)
  all_goals refine .mk (Nat.le_refl _) ⟨?_,rfl⟩
  all_goals simp_all
 ·have t1:((64:Int)==8)=false:=rfl;have t2:((64:Int)==16)=false:=rfl;have t3:((64:Int)==32)=false:=rfl;have t4:((64:Int)==64)=true:=rfl;have w1:IntKind.i64.wrap (64 - 64)=0:=by decide
  have p1:(2:Int) ^ min (Int.toNat 0) IntKind.u64.bits=1:=by decide
  have p2:(2:Int) ^ min (Int.toNat 0) IntKind.i64.bits=1:=by decide
  have z0:((0:Int)<=0)=True:=eq_true (by decide);have eL:IntKind.i64.wrap ((IntKind.u64.wrap (IntKind.u64.wrap n * 1)).fdiv 1)=QgO n 64:=by
   unfold I64 at hn;rw[Int.fdiv_eq_ediv_of_nonneg _ (by decide),IntKind.wrap_i64,IntKind.wrap_u64,IntKind.wrap_u64];rw[show QgO n 64=n from rfl];omega
  have eC:(IntKind.i64.wrap (IntKind.u64.wrap (IntKind.u64.wrap n * 1))).fdiv 1=QgP n 64:=by
   unfold I64 at hn;rw[Int.fdiv_eq_ediv_of_nonneg _ (by decide),IntKind.wrap_i64,IntKind.wrap_u64,IntKind.wrap_u64];rw[show QgP n 64=n from rfl];omega
  simp(disch:=(first | omega | (repeat (first | rw[Qa.next_push] | rw[Qa.next_set] | rw[Qa.next_up]));try omega)) only[Yz,QN,QO,QP,sxA,sxB,Nat.reduceBEq,Nat.reduceEqDiff,reduceCtorEq,mxD,mxB,Nat.reduceAdd,reduceIte,Nat.reduceLeDiff,splice,t1,t2,t3,t4,w1,z0,p1,p2,eL,eC,QY]
  obtain⟨lo,hlo⟩:∃lo,QgO n 64=lo:=⟨_,rfl⟩;obtain⟨cu,hcu⟩:∃cu,QgP n 64=cu:=⟨_,rfl⟩;have hI:Kh n 64 sg=if(!(n==lo)&&!(n==cu))=true then(0,5) else if sg=true then(cu,0) else(lo,0):=by
   rw[<- hlo,<- hcu];rfl
  rw[hI,hlo,hcu];clear hI eL eC hlo hcu
  repeat' (first
   | (refine QG (λh=>?_) (λh=>?_)<;>(try simp only[Bool.not_eq_true',Bool.not_eq_false']at h)<;>simp(disch:=(first | omega | (repeat (first | rw[Qa.next_push] | rw[Qa.next_set] | rw[Qa.next_up]));try omega)) only[QN,QO,QP,sxA,sxB,Nat.reduceBEq,Nat.reduceEqDiff,reduceCtorEq,mxD,mxB,Nat.reduceAdd,reduceIte,Nat.reduceLeDiff,splice,QY,h])
   | (refine Qh (λh=>?_) (λh=>?_)<;>(try simp only[Bool.not_eq_true',Bool.not_eq_false']at h)<;>simp(disch:=(first | omega | (repeat (first | rw[Qa.next_push] | rw[Qa.next_set] | rw[Qa.next_up]));try omega)) only[QN,QO,QP,sxA,sxB,Nat.reduceBEq,Nat.reduceEqDiff,reduceCtorEq,mxD,mxB,Nat.reduceAdd,reduceIte,Nat.reduceLeDiff,splice,QY,h])
   | fail)
  all_goals refine .mk (Nat.le_refl _) ⟨?_,rfl⟩
  all_goals simp_all
theorem Vd (n bits:Int) (sg:Bool) (hn:I64 n) (H:Qa):Qf prog Yi [.int .i64 n,.int .i64 bits,.bool sg] H λu H'=>u=.tuple #[.int .i64 (Kh n bits sg).1,.int .i64 (Kh n bits sg).2]∧H'=H:=by
 by_cases hb:bits=8∨bits=16∨bits=32∨bits=64
 ·exact QkG n bits sg hn hb H
 ·have t1:(bits==8)=false:=by simp;omega
  have t2:(bits==16)=false:=by simp;omega
  have t3:(bits==32)=false:=by simp;omega
  have t4:(bits==64)=false:=by simp;omega
  refine QfJ λhw=>?_;simp(disch:=(first | omega | (repeat (first | rw[Qa.next_push] | rw[Qa.next_set] | rw[Qa.next_up]));try omega)) only[Yz,QN,QO,QP,sxA,sxB,Nat.reduceBEq,Nat.reduceEqDiff,reduceCtorEq,mxD,mxB,Nat.reduceAdd,reduceIte,Nat.reduceLeDiff,splice,t1,t2,t3,t4,QY]
  refine .mk (Nat.le_refl _) ⟨?_,rfl⟩;simp[Kh,t1,t2,t3,t4]
def Qjc:List Ar->Int
 | []=>0
 | a::l=>if(Xc a==0)=true then Qjc l else Xc a
def Jl (k:Int):List Ar->Int
 | []=>0
 | a::l=>(if(a.k==k)=true then 1 else 0)+Jl k l
def Qh3 (n:Int):List Ar->Int
 | []=>n
 | a::l=>Qh3 (if(a.k==3)=true then a.n else n) l
def QT (op:Int) (l:List Ar):Int:=
 if VS op=false then 6 else if l.length>4 then 3 else if(Qjc l==0)=false then Qjc l
 else if(decide (1<Jl 2 l)||decide (1<Jl 4 l)||decide (1<Jl 3 l))=true then 2
 else if(Jl 3 l==0)=true then 0
 else if((Xp op l).1==0)=true then 2 else(Kh (Qh3 0 l) (Xp op l).1 (Xp op l).2).2
theorem QgD (k:Int):∀ (l:List Ar) (a:Ar),Jl k (l++[a])=Jl k l+(if(a.k==k)=true then 1 else 0)
 | [],a=>by simp[Jl]
 | b::l,a=>by simp only[List.cons_append,Jl,QgD k l a];omega
theorem QpH:∀ (l:List Ar) (n:Int) (a:Ar),Qh3 n (l++[a])=if(a.k==3)=true then a.n else Qh3 n l
 | [],n,a=>by simp[Qh3]
 | b::l,n,a=>by simp only[List.cons_append,Qh3,QpH l _ a]
theorem QmA (k:Int):∀l:List Ar,0<=Jl k l∧Jl k l<=l.length
 | []=>by simp[Jl]
 | a::l=>by
  have:=QmA k l;simp only[Jl,List.length_cons];split<;>omega
theorem QnA (n:Int):∀l:List Ar,Qh3 n l=n∨∃a∈l,Qh3 n l=a.n
 | []=>.inl rfl
 | a::l=>by
  unfold Qh3;split
  ·rcases QnA a.n l with h | ⟨b,hb,h⟩
   ·exact .inr ⟨a,by simp,h⟩
   ·exact .inr ⟨b,by simp[hb],h⟩
  ·rcases QnA n l with h | ⟨b,hb,h⟩
   ·exact .inl h
   ·exact .inr ⟨b,by simp[hb],h⟩
theorem QpI:∀ (l:List Ar) (i:Nat) (a:Ar),l[i]? = some a->Qjc (l.drop i)=if(Xc a==0)=true then Qjc (l.drop (i+1)) else Xc a
 | [],i,a,h=>by simp at h
 | b::l,0,a,h=>by simp at h;subst h;rfl
 | b::l,i+1,a,h=>by simpa using QpI l i a (by simpa using h)
theorem QwS {α:Type} (l:List α) (i:Nat) (a:α) (h:l[i]? = some a):l.take (i+1)=l.take i++[a]:=by
 rw[List.take_add_one,h];rfl
def icF (H:Qa) (op:Int) (v:Value) (A:Env) (H':Qa):Prop:=Ext H H'∧A 1=.pointer (some ⟨H.next,0,none⟩)∧H'.get H.next=some (.cells [.int .i64 op,v] Qb false)∧H.next<H'.next
theorem Za (op:Int) (v:Value) (l:List Ar) (H:Qa) (hv:QS H v l) (hl:l.length<=1000) (hI:∀a∈l,I64 a.n):Qf prog Xt [.agg #[.int .i64 op,v]] H λu H'=>u=.int .i64 (QT op l)∧∃k,H'=H.up k:=by
 refine QoE λhw=>?_;have P4:∀A H',icF H op v A H'->VS op=true->l.length<=4->Qjc l=0->A 6=.int .i64 (Jl 2 l)->A 7=.int .i64 (Jl 4 l)->A 8=.int .i64 (Jl 3 l)->A 9=.int .i64 (Qh3 0 l)->
   Qt prog VO ⟨Rt prog Z8 H λu H'=>u=.int .i64 (QT op l)∧∃k,H'=H.up k,Z5⟩ (Rt prog Z8 H λu H'=>u=.int .i64 (QT op l)∧∃k,H'=H.up k) A H':=by
  rintro A H' ⟨hx,r1,g0,hb0⟩ c1 c2 c3 r6 r7 r8 r9;have qb:=λH' (hx:Ext H H')=>QbN op v l H' (hv.ext hw hx) hl;have hn:I64 (Qh3 0 l):=by
   rcases QnA 0 l with h | ⟨a,ha,h⟩
   ·rw[h];unfold I64;omega
   ·rw[h];exact hI a ha
  have hc:QT op l=if(decide (1<Jl 2 l)||decide (1<Jl 4 l)||decide (1<Jl 3 l))=true then 2 else if(Jl 3 l==0)=true then 0 else if((Xp op l).1==0)=true then 2 else(Kh (Qh3 0 l) (Xp op l).1 (Xp op l).2).2:=by
   unfold QT;rw[if_neg (by simp[c1]),if_neg (by omega),if_neg (by simp[c3])]
  rw[hc];clear hc;generalize Jl 2 l=n2 at *;generalize Jl 4 l=n4 at *;generalize Jl 3 l=n3 at *;generalize Qh3 0 l=nn at *;generalize Xp op l=ib at *;obtain⟨ib1,ib2⟩:=ib;have qi:=Vd nn ib1 ib2 hn;generalize Kh nn ib1 ib2=im at *;obtain⟨im1,im2⟩:=im;obtain⟨a0,cap,rfl,h1⟩:=hv;simp(disch:=(first | omega | (repeat (first | rw[Qa.next_push] | rw[Qa.next_set] | rw[Qa.next_up]));try omega)) only[VO,XR,XQ,XP,Wp,simprocAttr,Q5,r1,g0,r6,r7,r8,r9]
  repeat' (first
   | (refine QG (λh=>?_) (λh=>?_)<;>(try simp only[Bool.not_eq_true',Bool.not_eq_false']at h)<;>simp(disch:=(first | omega | (repeat (first | rw[Qa.next_push] | rw[Qa.next_set] | rw[Qa.next_up]));try omega)) only[XR,XQ,XP,Wp,simprocAttr,Q5,r1,g0,r6,r7,r8,r9,h])
   | (refine Qh (λh=>?_) (λh=>?_)<;>(try simp only[Bool.not_eq_true',Bool.not_eq_false']at h)<;>simp(disch:=(first | omega | (repeat (first | rw[Qa.next_push] | rw[Qa.next_set] | rw[Qa.next_up]));try omega)) only[XR,XQ,XP,Wp,simprocAttr,Q5,r1,g0,r6,r7,r8,r9,h])
   | (refine(qb _ hx).thenW ?_;rintro _ _ hn hw2 ⟨rfl,k,rfl⟩;have hx:=hx.up (show _<=k from hn);simp(disch:=(first | omega | (repeat (first | rw[Qa.next_push] | rw[Qa.next_set] | rw[Qa.next_up]));try omega)) only[XR,XQ,XP,Wp,simprocAttr,Q5,r1,g0,r6,r7,r8,r9])
   | (refine(qi _).thenW ?_;rintro _ _ hn hw2 ⟨rfl,rfl⟩;simp(disch:=(first | omega | (repeat (first | rw[Qa.next_push] | rw[Qa.next_set] | rw[Qa.next_up]));try omega)) only[XR,XQ,XP,Wp,simprocAttr,Q5,r1,g0,r6,r7,r8,r9])
   | fail)
  all_goals refine .ext hw hx ⟨?_,_,rfl⟩
  all_goals simp_all
 have hS:∃a0 cap,v=.slice a0 l.length cap:=Q0 hv;obtain⟨a0,cap,hvs⟩:=hS;have hAt:∀ (i:Nat) (a:Ar) (H':Qa),Ext H H'->l[i]? = some a->∃b e ro,a0=some ⟨b,0,none⟩∧H'.get b=some (.cells (Qg l) e ro)∧b<H.next∧List.take 11 (List.drop (i * 11) (Qg l))=a.cells∧i * 11+11<=(Qg l).length:=by
  intro i a H' hx hi;have hil:i<l.length:=(List.getElem?_eq_some_iff.1 hi).1;obtain⟨a1,cap1,e1,h1⟩:=hv;rw[hvs]at e1;cases e1;obtain⟨b,e,ro,rfl,hb⟩:=h1 (by omega);exact⟨b,e,ro,rfl,by rw[hx.get b (hw.lt hb)];exact hb,hw.lt hb,Wx l i a hi,by rw[QF];omega⟩
 have P9:∀A H',icF H op v A H'->VS op=true->l.length<=4->Qjc l=0->Qt prog VP ⟨Rt prog Z8 H λu H'=>u=.int .i64 (QT op l)∧∃k,H'=H.up k,Z5⟩ (Rt prog Z8 H λu H'=>u=.int .i64 (QT op l)∧∃k,H'=H.up k) A H':=by
  rintro A H' ⟨hx,r1,g0,hb0⟩ c1 c2 c3;simp(disch:=(first | omega | (repeat (first | rw[Qa.next_push] | rw[Qa.next_set] | rw[Qa.next_up]));try omega)) only[VP,Wp,simprocAttr,r1,g0,hvs]
  refine Qu (λm A' H'=>∃i:Nat,i<=l.length∧m=l.length - i∧icF H op v A' H'∧A' 6=.int .i64 (Jl 2 (l.take i))∧A' 7=.int .i64 (Jl 4 (l.take i))∧A' 8=.int .i64 (Jl 3 (l.take i))∧A' 9=.int .i64 (Qh3 0 (l.take i))∧A' 38=.slice a0 l.length cap∧A' 39=.int .i64 l.length∧A' 40=.int .i64 i) l.length ?_ ?_
  ·refine⟨0,Nat.zero_le _,by omega,⟨hx,?_,?_,hb0⟩,?_,?_,?_,?_,?_,?_,?_⟩
   all_goals (try simp only[Qq,simprocAttr,r1,g0,hvs])
   all_goals (first | rfl | simp[Jl,Qh3])
  ·rintro m A' H' ⟨i,hi,rfl,⟨hx,r1,g0,hb0⟩,r6,r7,r8,r9,r38,r39,r40⟩;simp(disch:=(first | omega | (repeat (first | rw[Qa.next_push] | rw[Qa.next_set] | rw[Qa.next_up]));try omega)) only[QeB,Wp,simprocAttr,r1,g0,r38,r39,r40]
   refine Qh (λh2=>?_) (λh2=>?_)
   ·have h2:i<l.length:=by have:=of_decide_eq_true h2;omega
    obtain⟨a,ha⟩:∃a,l[i]? = some a:=⟨_,List.getElem?_eq_getElem h2⟩;obtain⟨b,e,ro,rfl,hgb,hbn,htk,hle⟩:=hAt i a H' hx ha;have hxn:=hx.next;have d1:(0:Int)<=i∧(i:Int)<l.length:=by omega
    have d3:(i:Int).toNat=i:=by omega
    have ei:IntKind.i64.wrap ((i:Int)+1)=((i+1:Nat):Int):=by rw[w64 (by unfold I64;omega)];omega
    have b2:=QmA 2 (l.take i);have b3:=QmA 3 (l.take i);have b4:=QmA 4 (l.take i);have hlt:(l.take i).length<=1000:=by rw[List.length_take];omega
    have e2:IntKind.i64.wrap (Jl 2 (l.take i)+1)=Jl 2 (l.take i)+1:=w64 (by unfold I64;omega);have e3:IntKind.i64.wrap (Jl 3 (l.take i)+1)=Jl 3 (l.take i)+1:=w64 (by unfold I64;omega);have e4:IntKind.i64.wrap (Jl 4 (l.take i)+1)=Jl 4 (l.take i)+1:=w64 (by unfold I64;omega);have s2:=QgD 2 (l.take i) a;have s3:=QgD 3 (l.take i) a;have s4:=QgD 4 (l.take i) a;have sn:=QpH (l.take i) 0 a;rw[<- QwS l i a ha]at s2 s3 s4 sn;obtain⟨k,r,mm,n⟩:=a;simp only[Ar.cells]at htk;simp(disch:=(first | omega | (repeat (first | rw[Qa.next_push] | rw[Qa.next_set] | rw[Qa.next_up]));try omega)) only[QeA,Qez,Qey,Wp,simprocAttr,r1,g0,r6,r7,r8,r9,r38,r39,r40,d1,d3,hgb,htk,hle,ei,e2,e3,e4]
    repeat' (first
     | (refine Qh (λh=>?_) (λh=>?_)<;>simp(disch:=(first | omega | (repeat (first | rw[Qa.next_push] | rw[Qa.next_set] | rw[Qa.next_up]));try omega)) only[Wp,simprocAttr,r6,r7,r8,r9,r38,r39,r40,ei,e2,e3,e4])
     | fail)
    all_goals refine⟨l.length - (i+1),by omega,i+1,by omega,rfl,⟨(hx.push _).set (by omega) _,?_,?_,?_⟩,?_,?_,?_,?_,?_,?_,?_⟩
    all_goals (first
     | (simp only[Qq,simprocAttr,r1,r38,r39];done)
     | (simp(disch:=(first | omega | (repeat (first | rw[Qa.next_push] | rw[Qa.next_set] | rw[Qa.next_up]));try omega)) only[Qsg,simprocAttr,g0];done)
     | (simp only[Qa.next_set,Qa.next_push];omega)
     | (simp only[Qq,simprocAttr,s2,s3,s4,sn,r6,r7,r8,r9];simp_all;done)
     | (simp only[Qq,simprocAttr,s2,s3,s4,sn,r6,r7,r8,r9];simp_all<;>omega))
   ·have h2:i=l.length:=by have:=of_decide_eq_false h2;omega
    subst h2;rw[List.take_length]at r6 r7 r8 r9;simp(disch:=(first | omega | (repeat (first | rw[Qa.next_push] | rw[Qa.next_set] | rw[Qa.next_up]));try omega)) only[Wp,simprocAttr]
    refine P4 _ _ ⟨hx,?_,g0,hb0⟩ c1 c2 c3 ?_ ?_ ?_ ?_
    all_goals simp only[Qq,simprocAttr,r1,r6,r7,r8,r9]
 have P12:∀A H',icF H op v A H'->A 2=.int .i64 0->VS op=true->l.length<=4->Qt prog GP ⟨Rt prog Z8 H λu H'=>u=.int .i64 (QT op l)∧∃k,H'=H.up k,Z5⟩ (Rt prog Z8 H λu H'=>u=.int .i64 (QT op l)∧∃k,H'=H.up k) A H':=by
  rintro A H' ⟨hx,r1,g0,hb0⟩ r2 c1 c2;simp(disch:=(first | omega | (repeat (first | rw[Qa.next_push] | rw[Qa.next_set] | rw[Qa.next_up]));try omega)) only[GP,Wp,simprocAttr,r1,g0,hvs]
  refine Qu (λm A' H'=>∃i:Nat,i<=l.length∧m=l.length - i∧icF H op v A' H'∧Qjc l=Qjc (l.drop i)∧A' 25=.slice a0 l.length cap∧A' 26=.int .i64 l.length∧A' 27=.int .i64 i) l.length ?_ ?_
  ·refine⟨0,Nat.zero_le _,by omega,⟨hx,?_,?_,hb0⟩,?_,?_,?_,?_⟩
   all_goals (try simp only[Qq,simprocAttr,r1,g0,hvs])
   all_goals (first | rfl | simp)
  ·rintro m A' H' ⟨i,hi,rfl,⟨hx,r1,g0,hb0⟩,he,r25,r26,r27⟩;simp(disch:=(first | omega | (repeat (first | rw[Qa.next_push] | rw[Qa.next_set] | rw[Qa.next_up]));try omega)) only[Qc5,Wp,simprocAttr,r1,g0,r25,r26,r27]
   refine Qh (λh2=>?_) (λh2=>?_)
   ·have h2:i<l.length:=by have:=of_decide_eq_true h2;omega
    obtain⟨a,ha⟩:∃a,l[i]? = some a:=⟨_,List.getElem?_eq_getElem h2⟩;obtain⟨b,e,ro,rfl,hgb,hbn,htk,hle⟩:=hAt i a H' hx ha;have hxn:=hx.next;have d1:(0:Int)<=i∧(i:Int)<l.length:=by omega
    have d3:(i:Int).toNat=i:=by omega
    have ei:IntKind.i64.wrap ((i:Int)+1)=((i+1:Nat):Int):=by rw[w64 (by unfold I64;omega)];omega
    have q1:=JO a;have he2:=QpI l i a ha;obtain⟨k,r,mm,n⟩:=a;simp only[Ar.cells]at htk q1;simp(disch:=(first | omega | (repeat (first | rw[Qa.next_push] | rw[Qa.next_set] | rw[Qa.next_up]));try omega)) only[Qc4,Wp,simprocAttr,r1,g0,r25,r26,r27,d1,d3,hgb,htk,hle,ei]
    refine(q1 _).thenW ?_;rintro _ _ hn hw2 ⟨rfl,kk,rfl⟩;have hn2:H'.next+1<=kk:=hn;simp(disch:=(first | omega | (repeat (first | rw[Qa.next_push] | rw[Qa.next_set] | rw[Qa.next_up]));try omega)) only[Wp,simprocAttr,r1,g0,r2,r25,r26,r27,ei,Q5]
    refine Qh (λh=>?_) (λh=>?_)
    ·simp(disch:=(first | omega | (repeat (first | rw[Qa.next_push] | rw[Qa.next_set] | rw[Qa.next_up]));try omega)) only[Wp,simprocAttr,r1,g0,r2,r25,r26,r27,ei,Q5]
     refine .ext hw (((hx.push _).set (by omega) _).up (show _<=kk from hn)) ⟨?_,_,rfl⟩;unfold QT;simp only[bne,Bool.not_eq_true']at h;rw[if_neg (by simp[c1]),if_neg (by omega),he,he2,h];simp[h]
    ·simp(disch:=(first | omega | (repeat (first | rw[Qa.next_push] | rw[Qa.next_set] | rw[Qa.next_up]));try omega)) only[Wp,simprocAttr,r1,g0,r2,r25,r26,r27,ei,Q5]
     refine⟨l.length - (i+1),by omega,i+1,by omega,rfl,⟨((hx.push _).set (by omega) _).up (show _<=kk from hn),?_,?_,?_⟩,?_,?_,?_,?_⟩
     ·simp only[Qq,simprocAttr,r1]
     ·simp(disch:=(first | omega | (repeat (first | rw[Qa.next_push] | rw[Qa.next_set] | rw[Qa.next_up]));try omega)) only[Qsg,simprocAttr,g0]
     ·show H.next<kk;omega
     ·simp only[bne,Bool.not_eq_false']at h;rw[he,he2,h];rfl
     all_goals simp only[Qq,simprocAttr,r25,r26]
   ·have h2:i=l.length:=by have:=of_decide_eq_false h2;omega
    subst h2;simp(disch:=(first | omega | (repeat (first | rw[Qa.next_push] | rw[Qa.next_set] | rw[Qa.next_up]));try omega)) only[Wp,simprocAttr]
    refine P9 _ _ ⟨hx,?_,g0,hb0⟩ c1 c2 ?_
    ·simp only[Qq,simprocAttr,r1]
    ·rw[he,List.drop_length];rfl
 have qv:=Qeh op;have hz:QT op l=if VS op=false then 6 else if l.length>4 then 3 else QT op l:=by
  split
  ·rename_i h;unfold QT;rw[if_pos h]
  ·rename_i h;split
   ·rename_i h2;unfold QT;rw[if_neg h,if_pos h2]
   ·rfl
 have hx0:=(Ext.refl H).push (.cells [.int .i64 op,v] Qb false);have hx1:=(Ext.refl H).push (.cells [.int .i64 op,.slice a0 l.length cap] Qb false);simp(disch:=(first | omega | (repeat (first | rw[Qa.next_push] | rw[Qa.next_set] | rw[Qa.next_up]));try omega)) only[Qhe,Wp,simprocAttr,Q5]
 refine(qv _).thenW ?_;rintro _ _ hn hw2 ⟨rfl,rfl⟩;simp(disch:=(first | omega | (repeat (first | rw[Qa.next_push] | rw[Qa.next_set] | rw[Qa.next_up]));try omega)) only[Wp,simprocAttr,Q5]
 refine Qh (λh1=>?_) (λh1=>?_)
 ·simp only[Bool.not_eq_true']at h1;simp(disch:=(first | omega | (repeat (first | rw[Qa.next_push] | rw[Qa.next_set] | rw[Qa.next_up]));try omega)) only[Wp,simprocAttr,Q5]
  refine .ext hw hx0 ⟨?_,_,rfl⟩;rw[hz,if_pos h1]
 ·simp only[Bool.not_eq_false']at h1;simp(disch:=(first | omega | (repeat (first | rw[Qa.next_push] | rw[Qa.next_set] | rw[Qa.next_up]));try omega)) only[Qc6,Wp,simprocAttr,hvs,Q5]
  refine Qh (λh2=>?_) (λh2=>?_)
  ·have h2:4<l.length:=by have:=of_decide_eq_true h2;omega
   simp(disch:=(first | omega | (repeat (first | rw[Qa.next_push] | rw[Qa.next_set] | rw[Qa.next_up]));try omega)) only[Wp,simprocAttr,Q5]
   refine .ext hw hx1 ⟨?_,_,rfl⟩;rw[hz,if_neg (by simp[h1]),if_pos h2]
  ·have h2:l.length<=4:=by have:=of_decide_eq_false h2;omega
   simp(disch:=(first | omega | (repeat (first | rw[Qa.next_push] | rw[Qa.next_set] | rw[Qa.next_up]));try omega)) only[Wp,simprocAttr]
   refine P12 _ _ ⟨hx1,?_,?_,?_⟩ ?_ h1 h2
   ·simp only[Qq,simprocAttr]
   ·simp(disch:=(first | omega | (repeat (first | rw[Qa.next_push] | rw[Qa.next_set] | rw[Qa.next_up]));try omega)) only[Qsg,simprocAttr,hvs]
   ·simp only[Qa.next_push];omega
   ·simp only[Qq,simprocAttr]
def QkH (f s:Int):List Ar->Bool
 | [x,y]=>(x.k==f)&&(y.k==s)
 | _=>false
def QaR:List Ar->Bool
 | [x,y]=>((x.k==1)&&(y.k==1))&&(x.r.c==y.r.c)
 | _=>false
theorem QgE (x y:Ar):Qg [x,y]=x.cells++y.cells:=by simp[Qg]
theorem GR (d:Nat) (op:Int) (v:Value) (l:List Ar) (f s:Int) (H:Qa) (ro:Bool) (hd:H.get d=some (.cells [.int .i64 op,v] QH ro)) (hv:QS H v l) (hl:l.length<=1000):
  Qf prog Yx [.pointer (some ⟨d,0,none⟩),.int .i64 f,.int .i64 s] H λu H'=>u=.bool (QkH f s l)∧H'=H:=by
 refine Qi8 λhw=>?_;have hdn:=hw.lt hd;have hb:∀x y,l=[x,y]->∃b e ro cap,v=.slice (some ⟨b,0,none⟩) 2 cap∧H.get b=some (.cells (x.cells++y.cells) e ro):=by
  rintro x y rfl;obtain⟨a0,cap,rfl,h1⟩:=hv;obtain⟨b,e,ro,rfl,hb⟩:=h1 (by simp);exact⟨b,e,ro,cap,rfl,by rw[<- QgE];exact hb⟩
 by_cases h:∃x y,l=[x,y]
 ·obtain⟨x,y,rfl⟩:=h;obtain⟨b,e,ro2,cap,rfl,hg⟩:=hb x y rfl;obtain⟨k,r,m,n⟩:=x;obtain⟨k',r',m',n'⟩:=y;simp only[Ar.cells,List.cons_append,List.nil_append]at hg;have d0:((0:Int)<=0∧(0:Int)<((2:Nat):Int)):=by omega
  have d1:((0:Int)<=1∧(1:Int)<((2:Nat):Int)):=by omega
  have t0:(0:Int).toNat=0:=rfl;have t1:(1:Int).toNat=1:=rfl;have e2:(((2:Nat):Int)==2)=true:=rfl;simp(disch:=(first | omega | (repeat (first | rw[Qa.next_push] | rw[Qa.next_set] | rw[Qa.next_up]));try omega)) only[Kv,sxA,sxB,Nat.reduceBEq,Nat.reduceEqDiff,reduceCtorEq,mxD,mxB,Nat.reduceAdd,reduceIte,Nat.reduceLeDiff,splice,hd,hg,d0,d1,t0,t1,e2,JU]
  repeat' (first
   | (refine QG (λh=>?_) (λh=>?_)<;>simp(disch:=(first | omega | (repeat (first | rw[Qa.next_push] | rw[Qa.next_set] | rw[Qa.next_up]));try omega)) only[sxA,sxB,Nat.reduceBEq,Nat.reduceEqDiff,reduceCtorEq,mxD,mxB,Nat.reduceAdd,reduceIte,Nat.reduceLeDiff,splice,hd,hg,d0,d1,t0,t1,e2,JU,h])
   | fail)
  all_goals refine .mk (Nat.le_refl _) ⟨?_,rfl⟩
  all_goals simp_all [QkH]
 ·have h2:QkH f s l=false:=by
   match l,h with
   | [],_=>rfl
   | [_],_=>rfl
   | [x,y],h=>exact absurd ⟨x,y,rfl⟩ h
   | _::_::_::_,_=>rfl
  have h3:((l.length:Int)==2)=false:=by
   have:l.length≠2:=λh4=>h (by
    match l,h4 with
    | [x,y],_=>exact⟨x,y,rfl⟩)
   simp only[beq_eq_false_iff_ne,ne_eq];omega
  obtain⟨a0,cap,rfl,h1⟩:=hv;rw[h2];simp(disch:=(first | omega | (repeat (first | rw[Qa.next_push] | rw[Qa.next_set] | rw[Qa.next_up]));try omega)) only[Kv,sxA,sxB,Nat.reduceBEq,Nat.reduceEqDiff,reduceCtorEq,mxD,mxB,Nat.reduceAdd,reduceIte,Nat.reduceLeDiff,splice,hd,h3,JU]
  refine .mk (Nat.le_refl _) ⟨rfl,rfl⟩
theorem QaS (d:Nat) (op:Int) (v:Value) (l:List Ar) (H:Qa) (ro:Bool) (hd:H.get d=some (.cells [.int .i64 op,v] QH ro)) (hv:QS H v l) (hl:l.length<=1000):
  Qf prog Y1 [.pointer (some ⟨d,0,none⟩)] H λu H'=>u=.bool (QaR l)∧H'=H:=by
 refine QgM λhw=>?_;have hdn:=hw.lt hd;have q:=GR d op v l 1 1 H ro hd hv hl
 by_cases h:∃x y,l=[x,y]
 ·obtain⟨x,y,rfl⟩:=h;obtain⟨a0,cap,rfl,h1⟩:=hv;obtain⟨b,e,ro2,rfl,hg⟩:=h1 (by simp);rw[QgE]at hg;obtain⟨k,r,m,n⟩:=x;obtain⟨k',r',m',n'⟩:=y;simp only[Ar.cells,List.cons_append,List.nil_append,List.length_cons,List.length_nil]at hg hd q ⊢;have d0:((0:Int)<=0∧(0:Int)<((0+1+1:Nat):Int)):=by omega
  have d1:((0:Int)<=1∧(1:Int)<((0+1+1:Nat):Int)):=by omega
  have t0:(0:Int).toNat=0:=rfl;have t1:(1:Int).toNat=1:=rfl;simp(disch:=(first | omega | (repeat (first | rw[Qa.next_push] | rw[Qa.next_set] | rw[Qa.next_up]));try omega)) only[Jk,sxA,sxB,Nat.reduceBEq,Nat.reduceEqDiff,reduceCtorEq,mxD,mxB,Nat.reduceAdd,reduceIte,Nat.reduceLeDiff,splice,Ww]
  refine q.thenW ?_;rintro _ _ hn hw2 ⟨rfl,rfl⟩;simp(disch:=(first | omega | (repeat (first | rw[Qa.next_push] | rw[Qa.next_set] | rw[Qa.next_up]));try omega)) only[sxA,sxB,Nat.reduceBEq,Nat.reduceEqDiff,reduceCtorEq,mxD,mxB,Nat.reduceAdd,reduceIte,Nat.reduceLeDiff,splice,Ww]
  refine QG (λh=>?_) (λh=>?_)
  ·simp(disch:=(first | omega | (repeat (first | rw[Qa.next_push] | rw[Qa.next_set] | rw[Qa.next_up]));try omega)) only[sxA,sxB,Nat.reduceBEq,Nat.reduceEqDiff,reduceCtorEq,mxD,mxB,Nat.reduceAdd,reduceIte,Nat.reduceLeDiff,splice,hd,hg,d0,d1,t0,t1,Ww,h]
   refine .mk (Nat.le_refl _) ⟨?_,rfl⟩;simp_all [QkH,QaR]
  ·simp(disch:=(first | omega | (repeat (first | rw[Qa.next_push] | rw[Qa.next_set] | rw[Qa.next_up]));try omega)) only[sxA,sxB,Nat.reduceBEq,Nat.reduceEqDiff,reduceCtorEq,mxD,mxB,Nat.reduceAdd,reduceIte,Nat.reduceLeDiff,splice,hd,hg,d0,d1,t0,t1,Ww,h]
   refine .mk (Nat.le_refl _) ⟨?_,rfl⟩;simp_all [QkH,QaR]
 ·have h2:QkH 1 1 l=false∧QaR l=false:=by
   match l,h with
   | [],_=>exact⟨rfl,rfl⟩
   | [_],_=>exact⟨rfl,rfl⟩
   | [x,y],h=>exact absurd ⟨x,y,rfl⟩ h
   | _::_::_::_,_=>exact⟨rfl,rfl⟩
  rw[h2.1]at q;rw[h2.2];simp(disch:=(first | omega | (repeat (first | rw[Qa.next_push] | rw[Qa.next_set] | rw[Qa.next_up]));try omega)) only[Jk,sxA,sxB,Nat.reduceBEq,Nat.reduceEqDiff,reduceCtorEq,mxD,mxB,Nat.reduceAdd,reduceIte,Nat.reduceLeDiff,splice,Ww]
  refine q.thenW ?_;rintro _ _ hn hw2 ⟨rfl,rfl⟩;simp(disch:=(first | omega | (repeat (first | rw[Qa.next_push] | rw[Qa.next_set] | rw[Qa.next_up]));try omega)) only[sxA,sxB,Nat.reduceBEq,Nat.reduceEqDiff,reduceCtorEq,mxD,mxB,Nat.reduceAdd,reduceIte,Nat.reduceLeDiff,splice,Ww]
  refine .mk (Nat.le_refl _) ⟨rfl,rfl⟩
theorem Ky (d b cap:Nat) (op:Int) (x y:Ar) (H:Qa) (ro:Bool) (e:TypeId) (hd:H.get d=some (.cells [.int .i64 op,.slice (some ⟨b,0,none⟩) 2 cap] QH ro)) (hb:H.get b=some (.cells (Qg [x,y]) e false)):
  Qf prog XX [.pointer (some ⟨d,0,none⟩)] H λu H'=>u=.tuple #[]∧H'=(H.set b (.cells (Qg [y,y]) e false)).set b (.cells (Qg [y,x]) e false):=by
 refine Qh1 λhw=>?_;have hdn:=hw.lt hd;have hbn:=hw.lt hb;have d0:((0:Int)<=0∧(0:Int)<((2:Nat):Int)):=by omega
 have d1:((0:Int)<=1∧(1:Int)<((2:Nat):Int)):=by omega
 have t0:(0:Int).toNat=0:=rfl;have t1:(1:Int).toNat=1:=rfl;rw[QgE]at hb;obtain⟨k,r,m,n⟩:=x;obtain⟨k',r',m',n'⟩:=y;simp only[QgE,Ar.cells,List.cons_append,List.nil_append]at hb ⊢;simp(disch:=(first | omega | (repeat (first | rw[Qa.next_push] | rw[Qa.next_set] | rw[Qa.next_up]));try omega)) only[QaO,sxA,sxB,Nat.reduceBEq,Nat.reduceEqDiff,reduceCtorEq,mxD,mxB,Nat.reduceAdd,reduceIte,Nat.reduceLeDiff,splice,hd,hb,d0,d1,t0,t1,QgN]
 refine .mk (by simp only[Qa.next_set];exact Nat.le_refl _) ⟨rfl,rfl⟩
variable {P:Program} {A:Env} {H:Qa} {k:Value->Qa->Prop}
theorem Qyk {t t' e:TypeId} {x:Operand} {a:Option Addr} {n c:Nat} (h1:P.underlying t=some (.slice e)) (hx:ev A x=.slice a n c):
  pr P (.gen (.binOp .eql t x (.const (.slice none 0 0)) t')) false A H k=k (.bool a.isNone) H:=by
 have hc:ev A (.const (.slice none 0 0))=.slice none 0 0:=rfl;have e:rop P (.gen (.binOp .eql t x (.const (.slice none 0 0)) t')) A H=some (.bool a.isNone,H):=by
  cases a<;>simp[rop,aop,QbC,Qqd,Qlh,XV,hx,hc,h1,aeq,Qfs,K6,YW,QhM,Qp8]
 rw[QB0];unfold QDj;rw[e,Qw]
theorem QnB:∀l:List Ar,(Qg l).all (·.oneCell')=true
 | []=>rfl
 | a::l=>by
  rw[Kc,List.all_append,QnB l];rfl
theorem QvB (v:Value) (l:List Ar) (H:Qa) (hv:QS H v l) (hl:l.length<=1000):Qf prog Wj [v] H λu H'=>
  Ext H H'∧((l=[]∧(u=.slice none 0 0∨u=.slice (some ⟨H.next,0,none⟩) 0 0∧H'=H.push (.cells [] Qd false)))∨(l≠[]∧u=.slice (some ⟨H.next+1,0,none⟩) l.length (UNK+11)∧H'=(H.push (.cells [] Qd false)).push (.cells (Qg l) Qd false))):=by
 refine KW λhw=>?_;obtain⟨a0,cap,rfl,h1⟩:=hv;have hx1:=(Ext.refl H).push (.cells [] Qd false);simp(disch:=(first | omega | (repeat (first | rw[Qa.next_push] | rw[Qa.next_set] | rw[Qa.next_up]));try omega)) only[Ym,Wp,simprocAttr]
 rw[Qyk (a:=a0) (e:=Qd) (n:=l.length) (c:=cap) (by kernel_rfl) (by simp only[Qbt,simprocAttr])];cases l with
 | nil=>
  cases a0 with
  | none=>
   simp(disch:=(first | omega | (repeat (first | rw[Qa.next_push] | rw[Qa.next_set] | rw[Qa.next_up]));try omega)) only[Qc,simprocAttr,Qsg,simprocAttr,Option.isNone,WG]
   exact .mk (Nat.le_refl _) ⟨.refl _,.inl (.inl rfl)⟩
  | some x=>
   have hr:∀H1:Qa,Z4 Qd 11 88 (.slice (some ⟨H.next,0,none⟩) 0 0) (.slice (some x) 0 cap) H1=some (.slice (some ⟨H.next,0,none⟩) 0 0,H1):=λH1=>by simp[Z4,ZB]
   simp(disch:=(first | omega | (repeat (first | rw[Qa.next_push] | rw[Qa.next_set] | rw[Qa.next_up]));try omega)) only[Qc,simprocAttr,Qsg,simprocAttr,Option.isNone,List.length_nil]
   unfold QfB;rw[hr,Qw];simp(disch:=(first | omega | (repeat (first | rw[Qa.next_push] | rw[Qa.next_set] | rw[Qa.next_up]));try omega)) only[Qc,simprocAttr,Qsg,simprocAttr,WG]
   exact .mk hx1.next ⟨hx1,.inl (.inr ⟨rfl,rfl⟩)⟩
 | cons a l=>
  obtain⟨b,e,ro,rfl,hb⟩:=h1 (by simp);have hbn:=hw.lt hb;have hlen:=QF (a::l);have hn:ZB 11 (.slice (some ⟨b,0,none⟩) (l.length+1) cap) (H.push (.cells [] Qd false))=some (l.length+1,Qg (a::l)):=by
   rw[G6 (c:=Qg (a::l)) (e:=e) (ro:=ro) (by rw[QlC (by omega)];exact hb) (by omega) (by rw[hlen,List.length_cons];omega),List.drop_zero,List.take_of_length_le (by rw[hlen,List.length_cons];exact Nat.le_refl _)]
  rw[List.length_cons]at hl;simp(disch:=(first | omega | (repeat (first | rw[Qa.next_push] | rw[Qa.next_set] | rw[Qa.next_up]));try omega)) only[Qc,simprocAttr,Qsg,simprocAttr,Option.isNone]
  refine Qkx (c:=[]) (ro:=false) (e':=Qd) hn (QnB _) (by omega) (QlB rfl) (by simp) (by omega) (by omega) (by decide) (by omega) ?_;simp(disch:=(first | omega | (repeat (first | rw[Qa.next_push] | rw[Qa.next_set] | rw[Qa.next_up]));try omega)) only[Qc,simprocAttr,Qsg,simprocAttr,WG]
  refine .mk (hx1.push _).next ⟨hx1.push _,?_⟩;simp
def Qso (op:Int) (l:List Ar):Bool:=(op==16)&&QkH 1 3 l
def Qsp (op:Int) (l:List Ar):Bool:=(op==10||op==11)&&QkH 1 2 l
def QqG (op:Int):List Ar->Bool
 | [x,y]=>(op==11)&&QaR [x,y]&&!(decide (x.r.n<=y.r.n))
 | _=>false
theorem Qsq {f s:Int} {l:List Ar} (h:QkH f s l=true):∃x y,l=[x,y]:=by
 match l,h with
 | [x,y],_=>exact⟨x,y,rfl⟩
theorem Qyl (d:Nat) (op:Int) (v:Value) (l:List Ar) (H:Qa) (hd:H.get d=some (.cells [.int .i64 op,v] QH false)) (hv:QS H v l) (hl:l.length<=1000) (hw1:∀x y,l=[x,y]->∃b cap,v=.slice (some ⟨b,0,none⟩) 2 cap∧H.get b=some (.cells (Qg l) Qd false)):
    Qf prog WK [.pointer (some ⟨d,0,none⟩)] H λu H'=>u=.bool (Qsp op l)∧(Qsp op l=false->H'=H)∧(Qsp op l=true->∃x y b cap,l=[x,y]∧v=.slice (some ⟨b,0,none⟩) 2 cap∧H'=(H.set b (.cells (Qg [y,y]) Qd false)).set b (.cells (Qg [y,x]) Qd false)):=by
  refine QfK λhw=>?_;have hdn:=hw.lt hd;have q:=GR d op v l 1 2 H false hd hv hl;have qt:=λb cap x y e=>Ky d b cap op x y H false e;have hc:Qsp op l=((op==10||op==11)&&QkH 1 2 l):=rfl;rw[hc];have ht:=@Qsq 1 2 l;generalize QkH 1 2 l=r at *;simp(disch:=(first | omega | (repeat (first | rw[Qa.next_push] | rw[Qa.next_set] | rw[Qa.next_up]));try omega)) only[Vn,sxA,sxB,Nat.reduceBEq,Nat.reduceEqDiff,reduceCtorEq,mxD,mxB,Nat.reduceAdd,reduceIte,Nat.reduceLeDiff,splice,hd,WS]
  repeat' (first
    | (refine QG (λh=>?_) (λh=>?_)<;>(try simp only[bne,Bool.not_eq_true',Bool.not_eq_false']at h)<;>simp(disch:=(first | omega | (repeat (first | rw[Qa.next_push] | rw[Qa.next_set] | rw[Qa.next_up]));try omega)) only[sxA,sxB,Nat.reduceBEq,Nat.reduceEqDiff,reduceCtorEq,mxD,mxB,Nat.reduceAdd,reduceIte,Nat.reduceLeDiff,splice,hd,WS,h])
    | (refine Qh (λh=>?_) (λh=>?_)<;>(try simp only[bne,Bool.not_eq_true',Bool.not_eq_false']at h)<;>simp(disch:=(first | omega | (repeat (first | rw[Qa.next_push] | rw[Qa.next_set] | rw[Qa.next_up]));try omega)) only[sxA,sxB,Nat.reduceBEq,Nat.reduceEqDiff,reduceCtorEq,mxD,mxB,Nat.reduceAdd,reduceIte,Nat.reduceLeDiff,splice,hd,WS,h])
    | (refine q.thenW ?_;rintro _ _ hn hw2 ⟨rfl,rfl⟩;simp(disch:=(first | omega | (repeat (first | rw[Qa.next_push] | rw[Qa.next_set] | rw[Qa.next_up]));try omega)) only[sxA,sxB,Nat.reduceBEq,Nat.reduceEqDiff,reduceCtorEq,mxD,mxB,Nat.reduceAdd,reduceIte,Nat.reduceLeDiff,splice,hd,WS])
    | fail)
  all_goals (first
    | (refine .mk (Nat.le_refl _) ⟨by simp,λ_=>rfl,by simp⟩)
    | (obtain⟨x,y,hxy⟩:=ht (by assumption)
       obtain⟨b,cap,hvb,hb⟩:=hw1 x y hxy;subst hxy hvb;refine(qt b cap x y _ hd hb).thenW ?_;rintro _ _ hn hw2 ⟨rfl,rfl⟩;simp(disch:=(first | omega | (repeat (first | rw[Qa.next_push] | rw[Qa.next_set] | rw[Qa.next_up]));try omega)) only[sxA,sxB,Nat.reduceBEq,Nat.reduceEqDiff,reduceCtorEq,mxD,mxB,Nat.reduceAdd,reduceIte,Nat.reduceLeDiff,splice,WS]
       refine .mk (by simp only[Qa.next_set];exact Nat.le_refl _) ⟨by simp_all,by simp_all,λ_=>⟨x,y,b,cap,rfl,rfl,rfl⟩⟩))
theorem QwT (d:Nat) (op:Int) (v:Value) (l:List Ar) (H:Qa) (hd:H.get d=some (.cells [.int .i64 op,v] QH false)) (hv:QS H v l) (hl:l.length<=1000) (hw1:∀x y,l=[x,y]->∃b cap,v=.slice (some ⟨b,0,none⟩) 2 cap∧H.get b=some (.cells (Qg l) Qd false)):
    Qf prog Wv [.pointer (some ⟨d,0,none⟩)] H λu H'=>u=.bool (Qso op l)∧(Qso op l=false->H'=H)∧(Qso op l=true->∃x y,l=[x,y]∧H'=(H.push (.cells (Qg [x,x,y]) Qd false)).set d (.cells [.int .i64 op,.slice (some ⟨H.next,0,none⟩) 3 3] QH false)):=by
  refine Qfb λhw=>?_;have hdn:=hw.lt hd;have q:=GR d op v l 1 3 H false hd hv hl;have hc:Qso op l=((op==16)&&QkH 1 3 l):=rfl;rw[hc];have ht:=@Qsq 1 3 l;have hdz:¬d=H.next:=by omega
  generalize QkH 1 3 l=r at *;simp(disch:=(first | omega | (repeat (first | rw[Qa.next_push] | rw[Qa.next_set] | rw[Qa.next_up]));try omega)) only[K1,sxA,sxB,Nat.reduceBEq,Nat.reduceEqDiff,reduceCtorEq,mxD,mxB,Nat.reduceAdd,reduceIte,Nat.reduceLeDiff,splice,hd,Wl]
  repeat' (first
    | (refine QG (λh=>?_) (λh=>?_)<;>(try simp only[bne,Bool.not_eq_true',Bool.not_eq_false']at h)<;>simp(disch:=(first | omega | (repeat (first | rw[Qa.next_push] | rw[Qa.next_set] | rw[Qa.next_up]));try omega)) only[sxA,sxB,Nat.reduceBEq,Nat.reduceEqDiff,reduceCtorEq,mxD,mxB,Nat.reduceAdd,reduceIte,Nat.reduceLeDiff,splice,hd,Wl,h])
    | (refine Qh (λh=>?_) (λh=>?_)<;>(try simp only[bne,Bool.not_eq_true',Bool.not_eq_false']at h)<;>simp(disch:=(first | omega | (repeat (first | rw[Qa.next_push] | rw[Qa.next_set] | rw[Qa.next_up]));try omega)) only[sxA,sxB,Nat.reduceBEq,Nat.reduceEqDiff,reduceCtorEq,mxD,mxB,Nat.reduceAdd,reduceIte,Nat.reduceLeDiff,splice,hd,Wl,h])
    | (refine q.thenW ?_;rintro _ _ hn hw2 ⟨rfl,rfl⟩;simp(disch:=(first | omega | (repeat (first | rw[Qa.next_push] | rw[Qa.next_set] | rw[Qa.next_up]));try omega)) only[sxA,sxB,Nat.reduceBEq,Nat.reduceEqDiff,reduceCtorEq,mxD,mxB,Nat.reduceAdd,reduceIte,Nat.reduceLeDiff,splice,hd,Wl])
    | fail)
  all_goals (first
    | (refine .mk (Nat.le_refl _) ⟨by simp,λ_=>rfl,by simp⟩)
    | (obtain⟨x,y,hxy⟩:=ht (by assumption)
       obtain⟨b,cap,hvb,hb⟩:=hw1 x y hxy;subst hxy hvb;obtain⟨k,r,m,n⟩:=x;obtain⟨k',r',m',n'⟩:=y;have hbn:=hw.lt hb;have d0:((0:Int)<=0∧(0:Int)<((2:Nat):Int)):=by omega
       have d1:((0:Int)<=1∧(1:Int)<((2:Nat):Int)):=by omega
       have t0:(0:Int).toNat=0:=rfl;have t1:(1:Int).toNat=1:=rfl;simp only[QgE,Ar.cells,List.cons_append,List.nil_append]at hb;simp(disch:=(first | omega | (repeat (first | rw[Qa.next_push] | rw[Qa.next_set] | rw[Qa.next_up]));try omega)) only[sxA,sxB,Nat.reduceBEq,Nat.reduceEqDiff,reduceCtorEq,mxA,mxB,Nat.reduceAdd,reduceIte,Nat.reduceLeDiff,splice,mxD,mxB,Nat.reduceAdd,reduceIte,Nat.reduceLeDiff,splice,hd,hb,d0,d1,t0,t1,Wl]
       rw[if_pos (by decide)];simp(disch:=(first | omega | (repeat (first | rw[Qa.next_push] | rw[Qa.next_set] | rw[Qa.next_up]));try omega)) only[sxA,sxB,Nat.reduceBEq,Nat.reduceEqDiff,reduceCtorEq,mxA,mxB,Nat.reduceAdd,reduceIte,Nat.reduceLeDiff,splice,mxD,mxB,Nat.reduceAdd,reduceIte,Nat.reduceLeDiff,splice,hd,hb,hdz,if_false,d0,d1,t0,t1,Wl]
       refine .mk (by simp only[Qa.next_set,Qa.next_push];omega) ⟨rfl,λh=>h.elim,λ_=>⟨_,_,rfl,rfl⟩⟩))
theorem Qym (d:Nat) (op:Int) (v:Value) (l:List Ar) (H:Qa) (hd:H.get d=some (.cells [.int .i64 op,v] QH false)) (hv:QS H v l) (hl:l.length<=1000) (hw1:∀x y,l=[x,y]->∃b cap,v=.slice (some ⟨b,0,none⟩) 2 cap∧H.get b=some (.cells (Qg l) Qd false)):
  Qf prog WL [.pointer (some ⟨d,0,none⟩)] H λu H'=>u=.bool (QqG op l)∧(QqG op l=false->H'=H)∧(QqG op l=true->∃x y b cap,l=[x,y]∧v=.slice (some ⟨b,0,none⟩) 2 cap∧H'=(H.set b (.cells (Qg [y,y]) Qd false)).set b (.cells (Qg [y,x]) Qd false)):=by
 refine QfL λhw=>?_;have hdn:=hw.lt hd;have q:=QaS d op v l H false hd hv hl
 by_cases h2:∃x y,l=[x,y]
 ·obtain⟨x,y,hxy⟩:=h2;obtain⟨b,cap,hvb,hb⟩:=hw1 x y hxy;subst hxy hvb;have qt:=Ky d b cap op x y H false Qd hd hb;have hbn:=hw.lt hb;have hc:QqG op [x,y]=((op==11)&&QaR [x,y]&&!(decide (x.r.n<=y.r.n))):=rfl;rw[hc];have hb2:H.get b=some (.cells (x.cells++y.cells) Qd false):=by rw[<- QgE];exact hb
  have d0:((0:Int)<=0∧(0:Int)<((2:Nat):Int)):=by omega
  have d1:((0:Int)<=1∧(1:Int)<((2:Nat):Int)):=by omega
  have t0:(0:Int).toNat=0:=rfl;have t1:(1:Int).toNat=1:=rfl;obtain⟨k,r,m,n⟩:=x;obtain⟨k',r',m',n'⟩:=y;simp only[Ar.cells,List.cons_append,List.nil_append]at hb2;generalize QaR _=al at *;simp(disch:=(first | omega | (repeat (first | rw[Qa.next_push] | rw[Qa.next_set] | rw[Qa.next_up]));try omega)) only[ZQ,sxA,sxB,Nat.reduceBEq,Nat.reduceEqDiff,reduceCtorEq,mxD,mxB,Nat.reduceAdd,reduceIte,Nat.reduceLeDiff,splice,hd,hb2,d0,d1,t0,t1,QW]
  repeat' (first
   | (refine QG (λh=>?_) (λh=>?_)<;>(try simp only[bne,Bool.not_eq_true',Bool.not_eq_false']at h)<;>simp(disch:=(first | omega | (repeat (first | rw[Qa.next_push] | rw[Qa.next_set] | rw[Qa.next_up]));try omega)) only[sxA,sxB,Nat.reduceBEq,Nat.reduceEqDiff,reduceCtorEq,mxD,mxB,Nat.reduceAdd,reduceIte,Nat.reduceLeDiff,splice,hd,hb2,d0,d1,t0,t1,QW,h])
   | (refine Qh (λh=>?_) (λh=>?_)<;>(try simp only[bne,Bool.not_eq_true',Bool.not_eq_false']at h)<;>simp(disch:=(first | omega | (repeat (first | rw[Qa.next_push] | rw[Qa.next_set] | rw[Qa.next_up]));try omega)) only[sxA,sxB,Nat.reduceBEq,Nat.reduceEqDiff,reduceCtorEq,mxD,mxB,Nat.reduceAdd,reduceIte,Nat.reduceLeDiff,splice,hd,hb2,d0,d1,t0,t1,QW,h])
   | (refine q.thenW ?_;rintro _ _ hn hw2 ⟨rfl,rfl⟩;simp(disch:=(first | omega | (repeat (first | rw[Qa.next_push] | rw[Qa.next_set] | rw[Qa.next_up]));try omega)) only[sxA,sxB,Nat.reduceBEq,Nat.reduceEqDiff,reduceCtorEq,mxD,mxB,Nat.reduceAdd,reduceIte,Nat.reduceLeDiff,splice,hd,hb2,d0,d1,t0,t1,QW])
   | (refine qt.thenW ?_;rintro _ _ hn hw2 ⟨rfl,rfl⟩;simp(disch:=(first | omega | (repeat (first | rw[Qa.next_push] | rw[Qa.next_set] | rw[Qa.next_up]));try omega)) only[sxA,sxB,Nat.reduceBEq,Nat.reduceEqDiff,reduceCtorEq,mxD,mxB,Nat.reduceAdd,reduceIte,Nat.reduceLeDiff,splice,QW])
   | fail)
  all_goals (first
   | (refine .mk (Nat.le_refl _) ⟨by simp,λ_=>rfl,by simp⟩)
   | (refine .mk (by simp only[Qa.next_set];exact Nat.le_refl _) ⟨rfl,λh=>h.elim,λ_=>⟨_,_,b,cap,rfl,rfl,rfl⟩⟩))
 ·have h3:QaR l=false∧QqG op l=false:=by
   match l,h2 with
   | [],_=>exact⟨rfl,rfl⟩
   | [_],_=>exact⟨rfl,rfl⟩
   | [x,y],h=>exact absurd ⟨x,y,rfl⟩ h
   | _::_::_::_,_=>exact⟨rfl,rfl⟩
  rw[h3.1]at q;rw[h3.2];simp(disch:=(first | omega | (repeat (first | rw[Qa.next_push] | rw[Qa.next_set] | rw[Qa.next_up]));try omega)) only[ZQ,sxA,sxB,Nat.reduceBEq,Nat.reduceEqDiff,reduceCtorEq,mxD,mxB,Nat.reduceAdd,reduceIte,Nat.reduceLeDiff,splice,hd,QW]
  repeat' (first
   | (refine QG (λh=>?_) (λh=>?_)<;>(try simp only[bne,Bool.not_eq_true',Bool.not_eq_false']at h)<;>simp(disch:=(first | omega | (repeat (first | rw[Qa.next_push] | rw[Qa.next_set] | rw[Qa.next_up]));try omega)) only[sxA,sxB,Nat.reduceBEq,Nat.reduceEqDiff,reduceCtorEq,mxD,mxB,Nat.reduceAdd,reduceIte,Nat.reduceLeDiff,splice,hd,QW,h])
   | (refine Qh (λh=>?_) (λh=>?_)<;>(try simp only[bne,Bool.not_eq_true',Bool.not_eq_false']at h)<;>simp(disch:=(first | omega | (repeat (first | rw[Qa.next_push] | rw[Qa.next_set] | rw[Qa.next_up]));try omega)) only[sxA,sxB,Nat.reduceBEq,Nat.reduceEqDiff,reduceCtorEq,mxD,mxB,Nat.reduceAdd,reduceIte,Nat.reduceLeDiff,splice,hd,QW,h])
   | (refine q.thenW ?_;rintro _ _ hn hw2 ⟨rfl,rfl⟩;simp(disch:=(first | omega | (repeat (first | rw[Qa.next_push] | rw[Qa.next_set] | rw[Qa.next_up]));try omega)) only[sxA,sxB,Nat.reduceBEq,Nat.reduceEqDiff,reduceCtorEq,mxD,mxB,Nat.reduceAdd,reduceIte,Nat.reduceLeDiff,splice,hd,QW])
   | fail)
  all_goals exact .mk (Nat.le_refl _) ⟨rfl,λ_=>rfl,by simp⟩
def GS (ib:Int×Bool) (a:Ar):Ar×Int:=
 let b:=Yr a
 if(b.2==0)=false then(a,b.2)
 else if(b.1.k==3)=true then(let im:=Kh b.1.n ib.1 ib.2;({b.1 with n:=im.1},im.2))
 else(b.1,0)
def WR (ib:Int×Bool):List Ar->List Ar×Int
 | []=>([],0)
 | a::l=>if((GS ib a).2==0)=true then((GS ib a).1::(WR ib l).1,(WR ib l).2) else([],(GS ib a).2)
def QaT (op:Int) (l:List Ar):List Ar:=
 if Qso op l=true then(match l with | [x,y]=>[x,x,y] | l=>l)
 else if Qsp op l=true then l.reverse
 else if QqG op l=true then l.reverse
 else l
def QI (op:Int) (l:List Ar):Int×List Ar×Int:=
 if(QT op l==0)=false then(0,[],QT op l)
 else if((WR (Xp op l) l).2==0)=false then(0,[],(WR (Xp op l) l).2)
 else(op,QaT op (WR (Xp op l) l).1,0)
theorem Qjd (ib:Int×Bool):∀ (l:List Ar) (i:Nat) (a:Ar),l[i]? = some a->WR ib (l.drop i)=if((GS ib a).2==0)=true then((GS ib a).1::(WR ib (l.drop (i+1))).1,(WR ib (l.drop (i+1))).2) else([],(GS ib a).2)
 | [],i,a,h=>by simp at h
 | b::l,0,a,h=>by simp at h;subst h;rfl
 | b::l,i+1,a,h=>by simpa using Qjd ib l i a (by simpa using h)
theorem QwU (a:Ar) (h:I64 a.n):I64 (Yr a).1.n:=by
 have h0:I64 0:=by unfold I64;omega
 unfold Yr Qnx;split
 ·split
  ·exact h0
  ·split
   ·exact h0
   ·exact h
 ·exact h0
theorem Qur (c:List Value) (o:Nat) (l:List Value) (h:o+l.length<=c.length):(splice c o l).length=c.length:=by
 simp[splice];omega
theorem QoK (c:List Value) (o:Nat) (l:List Value) (h:o<=c.length) (j:Nat) (hj:j<o):(splice c o l)[j]? = c[j]? := by
 unfold splice;rw[List.getElem?_append_left (by simp;omega),List.getElem?_take,if_pos hj]
theorem QwV (c:List Value) (o:Nat) (v:Value) (h:o<c.length):(splice c o [v])[o]? = some v:=by
 unfold splice;rw[List.getElem?_append_right (by simp;omega)];simp[show min o c.length=o by omega]
theorem Qhj (l m:List Ar):Qg (l++m)=Qg l++Qg m:=by simp[Qg]
theorem QoL (d:List Ar) (a b:Ar) (l:List Ar):splice (Qg (d++a::l)) (d.length * 11) b.cells=Qg (d++b::l):=by
 have hd:=QF d;unfold splice;rw[Qhj,Qhj,Kc,Kc,<- hd,List.take_left,Wh];have:(Qg d++(a.cells++Qg l)).drop ((Qg d).length+11)=Qg l:=by
  rw[show(Qg d).length+11=(Qg d).length+a.cells.length by rw[Wh],<- List.drop_drop,List.drop_left,List.drop_left]
 rw[this]
theorem QEh (f:Fn) (xs ys:Array Value):(Value.func f xs ys).cells.toList=[.func f xs ys]:=Eq.trans rfl rfl
theorem QEi (f:Fn) (xs ys:Array Value):(Value.func f xs ys).oneCell'=true:=Eq.trans rfl rfl
theorem QB5 {P:Program} (f:FuncId) (l:List Value) (H:Qa) (k:Value->Qa->Prop):cvK (.func (.func f) #[] #[]) P l H k=Qf P f l H k:=by
 show Qf P f (([]:List Value)++l++[]) H k=_;rw[List.nil_append,List.append_nil]
theorem QbO (a:Ar):List.take 11 a.cells=a.cells:=rfl
theorem Qei (a:Ar):(a.cells.all λv=>v.oneCell')=true:=rfl
theorem Qh4 {op:Int} {l:List Ar} (h:(QT op l==0)=true):l.length<=4:=by
 unfold QT at h;split at h
 ·simp at h
 ·split at h
  ·simp at h
  ·omega
def QgF (op:Int) (l:List Ar) (H:Qa) (u:Value) (H':Qa):Prop:=
 Ext H H'∧∃v',u=.tuple #[.agg #[.int .i64 (QI op l).1,v'],.int .i64 (QI op l).2.2]∧QS H' v' (QI op l).2.1∧∀a n c,v'=.slice (some a) n c->H.next<=a.block∧a.block<H'.next
theorem QqH {op:Int} {l:List Ar} {H H':Qa} (hx:Ext H H') {e:Int} (h:QI op l=(0,[],e)):QgF op l H (.tuple #[.agg #[.int .i64 0,.slice none 0 0],.int .i64 e]) H':=by
 unfold QgF;rw[h];exact⟨hx,_,rfl,⟨none,0,rfl,λh=>absurd h (Nat.lt_irrefl 0)⟩,λa n c h=>by cases h⟩
def QqI:PC:=(.seq (.ops [⟨some 105,.mv (t 7),none,false⟩,⟨some 106,.gen (.nilCheck (t 105)),none,false⟩,⟨some 107,.fldA 0 (t 106),none,false⟩,⟨some 108,.ld false 1 (t 107),none,false⟩,⟨some 109,.mv (t 7),none,false⟩,⟨some 110,.gen (.nilCheck (t 109)),none,false⟩,⟨some 111,.fldA 1 (t 110),none,false⟩,⟨some 112,.ld false 1 (t 111),none,false⟩,⟨some 113,.build [.int .i64 0,.slice none 0 0] [(0,1,(t 108)),(1,1,(t 112))],none,false⟩,⟨none,.st 2 (t 2) (t 113),none,false⟩,⟨some 3,.mv (.const (.int .i64 0)),none,false⟩]) .ret)
section
variable (op:Int) (l:List Ar) (H:Qa)
abbrev KC:Env->Qa->Prop:=Rt prog Qed H (QgF op l H)
theorem Qyn (e:Nat->Env->Qa->Prop) (k:Env->Qa->Prop) (A:Env) (H':Qa) (D:Nat) (cv:Value) (m:List Ar) (hx:Ext H H') (hD:H.next+2<=D)
  (r2:A 2=.pointer (some ⟨H.next+1,0,none⟩)) (r7:A 7=.pointer (some ⟨D,0,none⟩)) (gR:H'.get (H.next+1)=some (.cells [.int .i64 0,.slice none 0 0] Qb false))
  (gD:H'.get D=some (.cells [.int .i64 op,cv] QH false)) (hc:QS H' cv m) (hf:∀a n c,cv=.slice (some a) n c->H.next+2<=a.block∧a.block<H'.next) (hm:QI op l=(op,m,0)):
  Qt prog QqI
   ⟨KC op l H,e⟩ k A H':=by
 obtain⟨ca,cap,rfl,h1⟩:=hc;simp only[QqI,sxA,sxB,Nat.reduceBEq,Nat.reduceEqDiff,reduceCtorEq,mxA,mxB,Nat.reduceAdd,reduceIte,Nat.reduceLeDiff,splice,r2,r7,gR,gD,Ku];have hx2:Ext H (H'.set (H.next+1) (.cells [.int .i64 op,.slice ca m.length cap] Qb false)):=hx.set (by omega) _;refine .mk hx2.next ⟨hx2,_,by rw[hm],?_,λa n c h=>by have:=hf a n c h;rw[Qa.next_set];omega⟩;rw[hm];refine⟨ca,cap,rfl,λhn=>?_⟩;obtain⟨b,e',ro,rfl,hb⟩:=h1 hn;have:=hf _ _ _ rfl;simp only at this;exact⟨b,e',ro,rfl,by rw[Qa.get_set,if_neg (by omega)];exact hb⟩
theorem Qus {m:List Ar} (h1:Qso op m=false) (h2:Qsp op m=false) (h3:QqG op m=false):QaT op m=m:=by simp[QaT,h1,h2,h3]
theorem QwW (e:Nat->Env->Qa->Prop) (k:Env->Qa->Prop) (A:Env) (H':Qa) (D:Nat) (cv:Value) (m:List Ar) (hx:Ext H H') (hw:H'.Wf) (hD:H.next+2<=D)
  (r2:A 2=.pointer (some ⟨H.next+1,0,none⟩)) (r7:A 7=.pointer (some ⟨D,0,none⟩)) (gR:H'.get (H.next+1)=some (.cells [.int .i64 0,.slice none 0 0] Qb false))
  (gD:H'.get D=some (.cells [.int .i64 op,cv] QH false)) (hc:QS H' cv m) (hl:m.length<=1000) (hf:∀a n c,cv=.slice (some a) n c->H.next+2<=a.block∧¬a.block=D∧a.block<H'.next)
  (hw1:∀x y,m=[x,y]->∃b cap,cv=.slice (some ⟨b,0,none⟩) 2 cap∧H'.get b=some (.cells (Qg m) Qd false)) (hm:QI op l=(op,QaT op m,0)):
  Qt prog JM ⟨KC op l H,e⟩ k A H':=by
 have tail:=λA2 H2 cv2 m2 hx2 a b c d f g h=>Qyn op l H e k A2 H2 D cv2 m2 hx2 hD a b c d f g h;have hDn:=hw.lt gD;have hxn:=hx.next;have hRn:=hw.lt gR;obtain⟨n6,e6⟩:∃n6,JM=.seq (.seq (.ops [⟨some 95,.bslice n6 1 3 [.nilFunc,.nilFunc,.nilFunc] [(0,(.func Wv)),(1,(.func WK)),(2,(.func WL))],none,false⟩,⟨some 96,.lenS (t 95),none,false⟩,⟨some 97,.mv (.const (.int .i64 0)),none,false⟩]) (.block 4 (.loop VQ))) QqI:=⟨_,rfl⟩;rw[e6,Qgz];generalize hT:Qt prog QqI ⟨KC op l H,e⟩ k=T;have tailT:=λA2 H2 cv2 m2 hx2 a b c d f g h=>(by rw[<- hT];exact tail A2 H2 cv2 m2 hx2 a b c d f g h:T A2 H2);simp(disch:=(first | omega | (repeat (first | rw[Qa.next_push] | rw[Qa.next_set] | rw[Qa.next_up]));try omega)) only[sxA,sxB,Nat.reduceBEq,Nat.reduceEqDiff,reduceCtorEq,mxD,mxB,Nat.reduceAdd,reduceIte,Nat.reduceLeDiff,splice,QEh,QEi,Nat.reduceMul,Nat.reduceLeDiff,if_true]
 generalize hbl:Blk.cells [.func (.func Wv) #[] #[],.func (.func WK) #[] #[],.func (.func WL) #[] #[]] _ false=bl;have hxp:Ext H' (H'.push bl):=(Ext.refl _).push _;have gF:(H'.push bl).get H'.next=some bl:=by rw[Qa.get_push,if_pos rfl]
 have hwp:=hw.push bl;have hpn:(H'.push bl).next=H'.next+1:=rfl;generalize hHp:H'.push bl=Hp at hxp gF hwp hpn;subst hbl;have hxHp:=hx.trans hxp;have gDp:Hp.get D=some (.cells [.int .i64 op,cv] QH false):=by rw[hxp.get _ hDn];exact gD
 have gRp:Hp.get (H.next+1)=some (.cells [.int .i64 0,.slice none 0 0] Qb false):=by rw[hxp.get _ hRn];exact gR
 have hcp:QS Hp cv m:=hc.ext hw hxp;have hw1p:∀x y,m=[x,y]->∃b cap,cv=.slice (some ⟨b,0,none⟩) 2 cap∧Hp.get b=some (.cells (Qg m) Qd false):=λx y h=>by
  obtain⟨b,cap,h1,h2⟩:=hw1 x y h;exact⟨b,cap,h1,by rw[hxp.get _ (hw.lt h2)];exact h2⟩
 have q1:=QwT D op cv m Hp gDp hcp hl hw1p;have q2:=Qyl D op cv m Hp gDp hcp hl hw1p;have q3:=Qym D op cv m Hp gDp hcp hl hw1p;have hsw:∀x y,m=[x,y]->∀b cap,cv=.slice (some ⟨b,0,none⟩) 2 cap->QI op l=(op,[y,x],0)->∀A2,A2 2=.pointer (some ⟨H.next+1,0,none⟩)->A2 7=.pointer (some ⟨D,0,none⟩)->T A2 ((Hp.set b (.cells (Qg [y,y]) Qd false)).set b (.cells (Qg [y,x]) Qd false)):=by
  intro x y hxy b cap hcv hm2 A2 a2 a7;have hbn:=hf _ _ _ hcv;simp only at hbn;refine tailT A2 _ cv [y,x] ((hxHp.set (by omega) _).set (by omega) _) a2 a7 ?_ ?_ ⟨some ⟨b,0,none⟩,cap,by rw[hcv];rfl,λ_=>⟨b,_,_,rfl,by rw[Qa.get_set,if_pos rfl]⟩⟩ (λa n c h=>⟨(hf a n c h).1,by have:=(hf a n c h).2.2;have:=hxp.next;simp only[Qa.next_set];omega⟩) hm2
  ·rw[Qa.get_set,if_neg (by omega),Qa.get_set,if_neg (by omega)];exact gRp
  ·rw[Qa.get_set,if_neg (by omega),Qa.get_set,if_neg (by omega)];exact gDp
 refine Qu (λm' A2 H2=>∃i:Nat,i<=3∧m'=3 - i∧H2=Hp∧A2 2=.pointer (some ⟨H.next+1,0,none⟩)∧A2 7=.pointer (some ⟨D,0,none⟩)∧A2 95=.slice (some ⟨H'.next,0,none⟩) 3 3∧A2 96=.int .i64 ((3:Nat):Int)∧A2 97=.int .i64 i∧(0<i->Qso op m=false)∧(1<i->Qsp op m=false)∧(2<i->QqG op m=false)) 3 ?_ ?_
 ·refine⟨0,Nat.zero_le _,by omega,rfl,?_,?_,?_,?_,?_,λh=>by omega,λh=>by omega,λh=>by omega⟩
  all_goals simp only[uxA,uxB,Nat.reduceBEq,r2,r7]
  all_goals rfl
 ·rintro m' A2 H2 ⟨i,hi,rfl,rfl,a2,a7,a95,a96,a97,n1,n2,n3⟩;simp only[VQ,QeC,sxA,sxB,Nat.reduceBEq,Nat.reduceEqDiff,reduceCtorEq,mxA,mxB,Nat.reduceAdd,reduceIte,Nat.reduceLeDiff,splice,a96,a97];refine Qh (λh2=>?_) (λh2=>?_)
  ·have h2:i<3:=by have:=of_decide_eq_true h2;omega
   have c1:(0:Int)<=i∧(i:Int)<((3:Nat):Int):=by omega
   have c3:(i:Int).toNat=i:=by omega
   have ei:IntKind.i64.wrap ((i:Int)+1)=((i+1:Nat):Int):=by rw[w64 (by unfold I64;omega)];omega
   simp only[sxA,sxB,Nat.reduceBEq,Nat.reduceEqDiff,reduceCtorEq,mxA,mxB,Nat.reduceAdd,reduceIte,Nat.reduceLeDiff,splice,a7,a95,a97,c1,c3,gF];obtain rfl | rfl | rfl:i=0∨i=1∨i=2:=by omega
   ·simp only[sxA,sxB,Nat.reduceBEq,Nat.reduceEqDiff,reduceCtorEq,mxA,mxB,Nat.reduceAdd,reduceIte,Nat.reduceLeDiff,splice,QB5];refine q1.thenW ?_;rintro _ H3 hn3 hw3 ⟨rfl,hF,hTr⟩;simp only[sxA,sxB,Nat.reduceBEq,Nat.reduceEqDiff,reduceCtorEq,mxA,mxB,Nat.reduceAdd,reduceIte,Nat.reduceLeDiff,splice];cases hd:Qso op m with
    | false=>
     rw[hF hd];simp only[sxA,sxB,Nat.reduceBEq,Nat.reduceEqDiff,reduceCtorEq,mxA,mxB,Nat.reduceAdd,reduceIte,Nat.reduceLeDiff,splice,a97,ei];refine⟨2,by omega,1,by omega,rfl,rfl,?_,?_,?_,?_,?_,λ_=>(by first | exact hd | trivial),λh=>by omega,λh=>by omega⟩
     all_goals simp only[uxA,uxB,Nat.reduceBEq,a2,a7,a95,a96]
    | true=>
     obtain⟨x,y,hxy,hH3⟩:=hTr hd;have hr:QaT op m=[x,x,y]:=by unfold QaT;rw[if_pos hd,hxy]
     simp only[sxA,sxB,Nat.reduceBEq,Nat.reduceEqDiff,reduceCtorEq,mxA,mxB,Nat.reduceAdd,reduceIte,Nat.reduceLeDiff,splice];rw[hH3];refine tailT _ _ (.slice (some ⟨H2.next,0,none⟩) 3 3) [x,x,y] ((hxHp.push _).set (by omega) _) (by first | exact a2 | simp only[uxA,uxB,Nat.reduceBEq,a2]) (by first | exact a7 | simp only[uxA,uxB,Nat.reduceBEq,a7]) ?_ ?_ ⟨_,_,rfl,λ_=>⟨H2.next,_,_,rfl,by rw[Qa.get_set,if_neg (by omega),Qa.get_push,if_pos rfl]⟩⟩ (λa n c h=>by cases h;simp only[Qa.next_set,Qa.next_push];omega) (by rw[hm,hr])
     ·rw[Qa.get_set,if_neg (by omega),Qa.get_push,if_neg (by omega)];exact gRp
     ·rw[Qa.get_set,if_pos rfl]
   ·have hd:=n1 (by omega);simp only[sxA,sxB,Nat.reduceBEq,Nat.reduceEqDiff,reduceCtorEq,mxA,mxB,Nat.reduceAdd,reduceIte,Nat.reduceLeDiff,splice,QB5];refine q2.thenW ?_;rintro _ H3 hn3 hw3 ⟨rfl,hF,hTr⟩;simp only[sxA,sxB,Nat.reduceBEq,Nat.reduceEqDiff,reduceCtorEq,mxA,mxB,Nat.reduceAdd,reduceIte,Nat.reduceLeDiff,splice];cases hp:Qsp op m with
    | false=>
     rw[hF hp];simp only[sxA,sxB,Nat.reduceBEq,Nat.reduceEqDiff,reduceCtorEq,mxA,mxB,Nat.reduceAdd,reduceIte,Nat.reduceLeDiff,splice,a97,ei];refine⟨1,by omega,2,by omega,rfl,rfl,?_,?_,?_,?_,?_,λ_=>(by first | exact hd | trivial),λ_=>(by first | exact hp | trivial),λh=>by omega⟩
     all_goals simp only[uxA,uxB,Nat.reduceBEq,a2,a7,a95,a96]
    | true=>
     obtain⟨x,y,b,cap,hxy,hcv,hH3⟩:=hTr hp;have hr:QaT op m=[y,x]:=by simp only[QaT,hd,hp];rw[hxy];rfl
     simp only[sxA,sxB,Nat.reduceBEq,Nat.reduceEqDiff,reduceCtorEq,mxA,mxB,Nat.reduceAdd,reduceIte,Nat.reduceLeDiff,splice];rw[hH3];exact hsw x y hxy b cap hcv (by rw[hm,hr]) _ (by first | exact a2 | simp only[uxA,uxB,Nat.reduceBEq,a2]) (by first | exact a7 | simp only[uxA,uxB,Nat.reduceBEq,a7])
   ·have hd:=n1 (by omega);have hp:=n2 (by omega);simp only[sxA,sxB,Nat.reduceBEq,Nat.reduceEqDiff,reduceCtorEq,mxA,mxB,Nat.reduceAdd,reduceIte,Nat.reduceLeDiff,splice,QB5];refine q3.thenW ?_;rintro _ H3 hn3 hw3 ⟨rfl,hF,hTr⟩;simp only[sxA,sxB,Nat.reduceBEq,Nat.reduceEqDiff,reduceCtorEq,mxA,mxB,Nat.reduceAdd,reduceIte,Nat.reduceLeDiff,splice];cases hq:QqG op m with
    | false=>
     rw[hF hq];simp only[sxA,sxB,Nat.reduceBEq,Nat.reduceEqDiff,reduceCtorEq,mxA,mxB,Nat.reduceAdd,reduceIte,Nat.reduceLeDiff,splice,a97,ei];refine⟨0,by omega,3,by omega,rfl,rfl,?_,?_,?_,?_,?_,λ_=>(by first | exact hd | trivial),λ_=>(by first | exact hp | trivial),λ_=>(by first | exact hq | trivial)⟩
     all_goals simp only[uxA,uxB,Nat.reduceBEq,a2,a7,a95,a96]
    | true=>
     obtain⟨x,y,b,cap,hxy,hcv,hH3⟩:=hTr hq;have hr:QaT op m=[y,x]:=by simp only[QaT,hd,hp,hq];rw[hxy];rfl
     simp only[sxA,sxB,Nat.reduceBEq,Nat.reduceEqDiff,reduceCtorEq,mxA,mxB,Nat.reduceAdd,reduceIte,Nat.reduceLeDiff,splice];rw[hH3];exact hsw x y hxy b cap hcv (by rw[hm,hr]) _ (by first | exact a2 | simp only[uxA,uxB,Nat.reduceBEq,a2]) (by first | exact a7 | simp only[uxA,uxB,Nat.reduceBEq,a7])
  ·have h2:i=3:=by have:=of_decide_eq_false h2;omega
   subst h2;simp only[sxA,sxB,Nat.reduceBEq,Nat.reduceEqDiff,reduceCtorEq,mxA,mxB,Nat.reduceAdd,reduceIte,Nat.reduceLeDiff,splice];exact tailT _ _ cv m hxHp (by first | exact a2 | simp only[uxA,uxB,Nat.reduceBEq,a2]) (by first | exact a7 | simp only[uxA,uxB,Nat.reduceBEq,a7]) gRp gDp hcp (λa n c h=>⟨(hf a n c h).1,by have:=(hf a n c h).2.2;have:=hxp.next;omega⟩) (by rw[hm,Qus op (n1 (by omega)) (n2 (by omega)) (n3 (by omega))])
theorem Qyo (b:Ar) (x:Int):splice b.cells 10 [.int .i64 x]=({b with n:=x}:Ar).cells:=by simp[splice,Ar.cells]
theorem Qsr (ib:Int×Bool):WR ib []=([],0):=rfl
theorem Qyp (e:Nat->Env->Qa->Prop) (k:Env->Qa->Prop) (A:Env) (H':Qa) (D V cb cap:Nat) (ca:Option Addr) (vs:List Value) (eV:TypeId) (hx:Ext H H') (hw:H'.Wf) (hD:H.next+2<=D) (hV:H.next+2<=V) (hDV:¬D=V)
  (r2:A 2=.pointer (some ⟨H.next+1,0,none⟩)) (r5:A 5=.int .i64 (Xp op l).1) (r6:A 6=.bool (Xp op l).2) (r7:A 7=.pointer (some ⟨D,0,none⟩)) (r8:A 8=.slice (some ⟨V,0,none⟩) l.length l.length)
  (gR:H'.get (H.next+1)=some (.cells [.int .i64 0,.slice none 0 0] Qb false))
  (gD:H'.get D=some (.cells [.int .i64 op,.slice ca l.length cap] QH false)) (gV:H'.get V=some (.cells vs eV false)) (hvl:vs.length=l.length) (hvs:∀j,j<l.length->vs[j]? = some (.pointer (some ⟨cb,j * 11,none⟩)))
  (hcb:0<l.length->ca=some ⟨cb,0,none⟩∧H.next+2<=cb∧¬cb=D∧¬cb=V∧H'.get cb=some (.cells (Qg l) Qd false)) (hca:∀a,ca=some a->H.next+2<=a.block∧¬a.block=D∧a.block<D)
  (hck:(QT op l==0)=true) (hI:∀a∈l,I64 a.n):Qt prog Z9 ⟨KC op l H,e⟩ k A H':=by
 have hl4:=Qh4 hck;have e12:Z9=.seq (.seq (.ops [⟨some 58,.mv (t 8),none,false⟩,⟨some 59,.lenS (t 58),none,false⟩,⟨some 60,.mv (.const (.int .i64 0)),none,false⟩]) (.block 2 (.loop GQ))) JN:=rfl;rw[e12,Qgz];have e7:JN=.seq (.label 0) JM:=rfl;generalize hT:Qt prog JN ⟨KC op l H,e⟩ k=T;generalize hib:Xp op l=ib at *;obtain⟨ib1,ib2⟩:=ib;simp only at r5 r6;have hic:∀m,WR (ib1,ib2) l=(m,0)->QI op l=(op,QaT op m,0):=λm h=>by
  unfold QI;rw[hib,h,hck];rfl
 have hie:∀m x,WR (ib1,ib2) l=(m,x)->(x==0)=false->QI op l=(0,[],x):=λm x h hx=>by
  unfold QI;rw[hib,h,hck];simp[hx]
 simp only[sxA,sxB,Nat.reduceBEq,Nat.reduceEqDiff,reduceCtorEq,mxA,mxB,Nat.reduceAdd,reduceIte,Nat.reduceLeDiff,splice,r8];refine Qu (λm' A2 H2=>∃ (i:Nat) (dn:List Ar),i<=l.length∧m'=l.length - i∧dn.length=i∧WR (ib1,ib2) l=(dn++(WR (ib1,ib2) (l.drop i)).1,(WR (ib1,ib2) (l.drop i)).2)∧Ext H H2∧H2.Wf∧
  A2 2=.pointer (some ⟨H.next+1,0,none⟩)∧A2 5=.int .i64 ib1∧A2 6=.bool ib2∧A2 7=.pointer (some ⟨D,0,none⟩)∧A2 58=.slice (some ⟨V,0,none⟩) l.length l.length∧A2 59=.int .i64 (l.length:Int)∧A2 60=.int .i64 i∧
  H2.get (H.next+1)=some (.cells [.int .i64 0,.slice none 0 0] Qb false)∧H2.get D=some (.cells [.int .i64 op,.slice ca l.length cap] QH false)∧H2.get V=some (.cells vs eV false)∧(0<l.length->H2.get cb=some (.cells (Qg (dn++l.drop i)) Qd false))) l.length ?_ ?_
 ·refine⟨0,[],Nat.zero_le _,by omega,rfl,rfl,hx,hw,?_,?_,?_,?_,?_,?_,?_,gR,gD,gV,λh=>(hcb h).2.2.2.2⟩
  all_goals simp only[uxA,uxB,Nat.reduceBEq,r2,r5,r6,r7]
  all_goals rfl
 ·rintro m' A2 H2 ⟨i,dn,hi,rfl,hdn,hcan,hx2,hw2,a2,a5,a6,a7,a58,a59,a60,gR,gD,gV,gC⟩;simp only[GQ,sxA,sxB,Nat.reduceBEq,Nat.reduceEqDiff,reduceCtorEq,mxA,mxB,Nat.reduceAdd,reduceIte,Nat.reduceLeDiff,splice,a59,a60];refine Qh (λh2=>?_) (λh2=>?_)
  ·have h2:i<l.length:=by have:=of_decide_eq_true h2;omega
   obtain⟨hca1,hcb2,hcD,hcV,_⟩:=hcb (by omega);have gC:=gC (by omega);have c1:(0:Int)<=i∧(i:Int)<l.length:=by omega
   have c3:(i:Int).toNat=i:=by omega
   have ei:IntKind.i64.wrap ((i:Int)+1)=((i+1:Nat):Int):=by rw[w64 (by unfold I64;omega)];omega
   have hv:=hvs i h2;have hp:=List.getElem?_eq_getElem h2;have hdr:l.drop i=l[i]::l.drop (i+1):=List.drop_eq_getElem_cons h2;have had:=Qjd (ib1,ib2) l i _ hp;have hIa:=hI _ (List.getElem_mem h2);generalize l[i]=a at hp hdr had hIa;rw[hdr]at gC;have hlen:=QF (dn++a::l.drop (i+1));have hla:(dn++a::l.drop (i+1)).length=l.length:=by simp;omega
   rw[hla]at hlen;have c4:i * 11+11<=l.length * 11:=by omega
   have d1:=Wx (dn++a::l.drop (i+1)) i a (by rw[List.getElem?_append_right (by omega),hdn,Nat.sub_self];rfl);simp only[Qc8,sxA,sxB,Nat.reduceBEq,Nat.reduceEqDiff,reduceCtorEq,mxA,mxB,Nat.reduceAdd,reduceIte,Nat.reduceLeDiff,splice,a58,a60,c1,c3,gV,hv,gC,hlen,c4,d1];refine(Ql5 a H2).thenW ?_;rintro _ _ hn3 hw3 ⟨rfl,k3,rfl⟩;simp only[Qa.next_up]at hn3;have hn':=QwU a hIa;have hca2:GS (ib1,ib2) a=if((Yr a).2==0)=false then(a,(Yr a).2) else if((Yr a).1.k==3)=true then({(Yr a).1 with n:=(Kh (Yr a).1.n ib1 ib2).1},(Kh (Yr a).1.n ib1 ib2).2) else((Yr a).1,0):=rfl
   generalize Yr a=bb at hn' hca2;obtain⟨b,be⟩:=bb;simp only at hn' hca2;have hx3:=hx2.up hn3;have gR3:(H2.up k3).get (H.next+1)=some (.cells [.int .i64 0,.slice none 0 0] Qb false):=by rw[Qa.get_up];exact gR
   have gD3:(H2.up k3).get D=some (.cells [.int .i64 op,.slice ca l.length cap] QH false):=by rw[Qa.get_up];exact gD
   have gV3:(H2.up k3).get V=some (.cells vs eV false):=by rw[Qa.get_up];exact gV
   have gC3:(H2.up k3).get cb=some (.cells (Qg (dn++a::l.drop (i+1))) Qd false):=by rw[Qa.get_up];exact gC
   generalize H2.up k3=H3 at hw3 hx3 gR3 gD3 gV3 gC3;simp only[sxA,sxB,Nat.reduceBEq,Nat.reduceEqDiff,reduceCtorEq,mxA,mxB,Nat.reduceAdd,reduceIte,Nat.reduceLeDiff,splice,Wh,QbO,Qei];obtain⟨H4,hH4⟩:∃h,h=(H3.push (.cells [.int .i64 0,.int .i64 0,.int .i64 0,.int .i64 0,.int .i64 0,.int .i64 0,.int .i64 0,.int .i64 0,.int .i64 0,.int .i64 0,.int .i64 0] Qd false)).set H3.next (.cells b.cells Qd false):=⟨_,rfl⟩;have hw4:H4.Wf:=by rw[hH4];exact(hw3.push _).set (by rw[Qa.get_push,if_pos rfl]) _
   have hx4:Ext H3 H4:=by rw[hH4];exact((Ext.refl H3).push _).set (Nat.le_refl _) _
   have gB:H4.get H3.next=some (.cells b.cells Qd false):=by rw[hH4,Qa.get_set,if_pos rfl]
   have lR:=hw3.lt gR3;have lD:=hw3.lt gD3;have lV:=hw3.lt gV3;have lC:=hw3.lt gC3;have gR4:=(hx4.get _ lR).trans gR3;have gD4:=(hx4.get _ lD).trans gD3;have gV4:=(hx4.get _ lV).trans gV3;have gC4:=(hx4.get _ lC).trans gC3;have hx04:=hx3.trans hx4;have b0:b.cells[0]? = some (.int .i64 b.k):=rfl;have b10:b.cells[10]? = some (.int .i64 b.n):=rfl;simp only[<- hH4,sxA,sxB,Nat.reduceBEq,Nat.reduceEqDiff,reduceCtorEq,mxA,mxB,Nat.reduceAdd,reduceIte,Nat.reduceLeDiff,splice];cases q1:be==0 with
   | false=>
    have hx5:Ext H (H4.set (H.next+1) (.cells [.int .i64 0,.slice none 0 0] Qb false)):=hx04.set (by omega) _;simp only[sxA,sxB,Nat.reduceBEq,Nat.reduceEqDiff,reduceCtorEq,mxA,mxB,Nat.reduceAdd,reduceIte,Nat.reduceLeDiff,splice,a2,gR4,Ku];refine .mk hx5.next (QqH hx5 (hie _ _ hcan ?_ |>.trans ?_))
    all_goals (rw[had,hca2,q1];simp[q1])
   | true=>
    simp only[QeE,sxA,sxB,Nat.reduceBEq,Nat.reduceEqDiff,reduceCtorEq,mxA,mxB,Nat.reduceAdd,reduceIte,Nat.reduceLeDiff,splice,gB,b0];have hs:=λb2:Ar=>QoL dn a b2 (l.drop (i+1));simp only[splice,hdn,Wh]at hs;have fin:∀ (b2:Ar) (H5:Qa) (A3:Env),GS (ib1,ib2) a=(b2,0)->Ext H H5->H5.Wf->H5.get (H.next+1)=some (.cells [.int .i64 0,.slice none 0 0] Qb false)->H5.get D=some (.cells [.int .i64 op,.slice ca l.length cap] QH false)->H5.get V=some (.cells vs eV false)->H5.get cb=some (.cells (Qg (dn++a::l.drop (i+1))) Qd false)->
      A3 2=.pointer (some ⟨H.next+1,0,none⟩)->A3 5=.int .i64 ib1->A3 6=.bool ib2->A3 7=.pointer (some ⟨D,0,none⟩)->A3 58=.slice (some ⟨V,0,none⟩) l.length l.length->A3 59=.int .i64 (l.length:Int)->A3 60=.int .i64 ((i+1:Nat):Int)->
      Qsd (λm' A2 H2=>∃ (i:Nat) (dn:List Ar),i<=l.length∧m'=l.length - i∧dn.length=i∧WR (ib1,ib2) l=(dn++(WR (ib1,ib2) (l.drop i)).1,(WR (ib1,ib2) (l.drop i)).2)∧Ext H H2∧H2.Wf∧
  A2 2=.pointer (some ⟨H.next+1,0,none⟩)∧A2 5=.int .i64 ib1∧A2 6=.bool ib2∧A2 7=.pointer (some ⟨D,0,none⟩)∧A2 58=.slice (some ⟨V,0,none⟩) l.length l.length∧A2 59=.int .i64 (l.length:Int)∧A2 60=.int .i64 i∧
  H2.get (H.next+1)=some (.cells [.int .i64 0,.slice none 0 0] Qb false)∧H2.get D=some (.cells [.int .i64 op,.slice ca l.length cap] QH false)∧H2.get V=some (.cells vs eV false)∧(0<l.length->H2.get cb=some (.cells (Qg (dn++l.drop i)) Qd false))) (l.length - i) A3 (H5.set cb (.cells (Qg (dn++b2::l.drop (i+1))) Qd false)):=by
     intro b2 H5 A3 hb2 hx5 hw5 gR5 gD5 gV5 gC5 p2 p5 p6 p7 p58 p59 p60;refine⟨l.length - (i+1),by omega,i+1,dn++[b2],by omega,rfl,by simp[hdn],?_,hx5.set (by omega) _,hw5.set gC5 _,p2,p5,p6,p7,p58,p59,p60,?_,?_,?_,λ_=>?_⟩
     ·rw[hcan,had,hb2];simp
     ·rw[Qa.get_set,if_neg (by omega)];exact gR5
     ·rw[Qa.get_set,if_neg (by omega)];exact gD5
     ·rw[Qa.get_set,if_neg (by omega)];exact gV5
     ·rw[Qa.get_set,if_pos rfl,List.append_assoc];rfl
    cases q2:b.k==3 with
    | false=>
     have hnew:GS (ib1,ib2) a=(b,0):=by rw[hca2,q1,q2];rfl
     simp only[sxA,sxB,Nat.reduceBEq,Nat.reduceEqDiff,reduceCtorEq,mxA,mxB,Nat.reduceAdd,reduceIte,Nat.reduceLeDiff,splice,gB,gC4,hlen,c4,Wh,QbO,Qei,hs,a60,ei];refine fin b H4 _ hnew hx04 hw4 gR4 gD4 gV4 gC4 ?_ ?_ ?_ ?_ ?_ ?_ ?_
     all_goals simp only[uxA,uxB,Nat.reduceBEq,a2,a5,a6,a7,a58,a59]
    | true=>
     have hca3:GS (ib1,ib2) a=({b with n:=(Kh b.n ib1 ib2).1},(Kh b.n ib1 ib2).2):=by rw[hca2,q1,q2];rfl
     simp only[QeD,sxA,sxB,Nat.reduceBEq,Nat.reduceEqDiff,reduceCtorEq,mxA,mxB,Nat.reduceAdd,reduceIte,Nat.reduceLeDiff,splice,gB,b10,a5,a6];refine(Vd b.n ib1 ib2 hn' H4).thenW ?_;rintro _ H4 _ hw4 ⟨rfl,rfl⟩;generalize Kh b.n ib1 ib2=im at hca3;obtain⟨im1,im2⟩:=im;simp only at hca3;have hsp:=Qyo b im1;simp only[splice,Nat.reduceAdd,List.length_cons,List.length_nil]at hsp;have gB5:∀bl,(H4.set H3.next bl).get H3.next=some bl:=λbl=>by rw[Qa.get_set,if_pos rfl]
     have wB5:∀bl,(H4.set H3.next bl).Wf:=λbl=>hw4.set gB bl;have xB5:∀bl,Ext H (H4.set H3.next bl):=λbl=>hx04.set (by have:=hx3.next;omega) bl;have oB5:∀bl id,¬id=H3.next->(H4.set H3.next bl).get id=H4.get id:=λbl id h=>by rw[Qa.get_set,if_neg h]
     have tl:(b.cells.take 10++(Value.int .i64 im1::b.cells.drop 11))=({b with n:=im1}:Ar).cells:=by simp[Ar.cells]
     have nR:¬H.next+1=H3.next:=by omega
     have nD:¬D=H3.next:=by omega
     have nV:¬V=H3.next:=by omega
     have nC:¬cb=H3.next:=by omega
     simp only[sxA,sxB,Nat.reduceBEq,Nat.reduceEqDiff,reduceCtorEq,mxA,mxB,Nat.reduceAdd,reduceIte,Nat.reduceLeDiff,splice,gB,Wh,QbO,Qei,tl];cases q3:im2==0 with
     | false=>
      have hx5:∀bl,Ext H ((H4.set H3.next bl).set (H.next+1) (.cells [.int .i64 0,.slice none 0 0] Qb false)):=λbl=>(xB5 bl).set (by omega) _;simp only[sxA,sxB,Nat.reduceBEq,Nat.reduceEqDiff,reduceCtorEq,mxA,mxB,Nat.reduceAdd,reduceIte,Nat.reduceLeDiff,splice,a2,nR,gR4,Ku];refine .mk (hx5 _).next (QqH (hx5 _) (hie _ _ hcan ?_ |>.trans ?_))
      all_goals (rw[had,hca3];simp[q3])
     | true=>
      have hnew:GS (ib1,ib2) a=({b with n:=im1},0):=by rw[hca3];simp at q3;rw[q3]
      simp only[sxA,sxB,Nat.reduceBEq,Nat.reduceEqDiff,reduceCtorEq,mxA,mxB,Nat.reduceAdd,reduceIte,Nat.reduceLeDiff,splice,nC,gB,gC4,hlen,c4,Wh,QbO,Qei,hs,a60,ei];refine fin {b with n:=im1} (H4.set H3.next _) _ hnew (xB5 _) (wB5 _) ((oB5 _ _ nR).trans gR4) ((oB5 _ _ nD).trans gD4) ((oB5 _ _ nV).trans gV4) ((oB5 _ _ nC).trans gC4) ?_ ?_ ?_ ?_ ?_ ?_ ?_
      all_goals simp only[uxA,uxB,Nat.reduceBEq,a2,a5,a6,a7,a58,a59]
  ·have h2:i=l.length:=by have:=of_decide_eq_false h2;omega
   subst h2;simp only[sxA,sxB,Nat.reduceBEq,Nat.reduceEqDiff,reduceCtorEq,mxA,mxB,Nat.reduceAdd,reduceIte,Nat.reduceLeDiff,splice];rw[<- hT,e7,Qgz,Qly];rw[List.drop_length,Qsr,List.append_nil]at hcan;refine QwW op l H e k _ H2 D _ dn hx2 hw2 hD (by simp only[uxA,uxB,Nat.reduceBEq,a2]) (by simp only[uxA,uxB,Nat.reduceBEq,a7]) gR gD ⟨ca,cap,by rw[hdn],λh=>?_⟩ (by omega) (λa n c h=>by cases h;have:=hca _ rfl;have:=hw2.lt gD;omega) (λx y h=>?_) (hic _ hcan)
   ·have h0:0<l.length:=by omega
    obtain⟨hca1,_⟩:=hcb h0;have:=gC h0;rw[List.drop_length,List.append_nil]at this;exact⟨cb,_,_,hca1,this⟩
   ·have h0:0<l.length:=by rw[<- hdn,h];simp
    obtain⟨hca1,_⟩:=hcb h0;have:=gC h0;rw[List.drop_length,List.append_nil]at this;exact⟨cb,cap,by rw[hca1,<- hdn,h];rfl,this⟩
theorem QwX (z:Array Value) (m:Nat):(Xi z m).length=m:=by simp[Xi]
theorem Qej (v:Value) (hv:QS H v l) (hl:l.length<=1000) (hI:∀a∈l,I64 a.n):Qf prog Kq [.agg #[.int .i64 op,v]] H (QgF op l H):=by
 refine QoF λhw=>?_;obtain⟨a0,c0,rfl,_⟩:=id hv;have hx0:Ext H ((H.push (.cells [.int .i64 op,.slice a0 l.length c0] Qb false)).push (.cells [.int .i64 0,.slice none 0 0] Qb false)):=((Ext.refl H).push _).push _;have ne1:¬H.next=H.next+1:=by omega
 have gI:((H.push (.cells [.int .i64 op,.slice a0 l.length c0] Qb false)).push (.cells [.int .i64 0,.slice none 0 0] Qb false)).get H.next=some (.cells [.int .i64 op,.slice a0 l.length c0] Qb false):=by rw[Qa.get_push,Qa.next_push,if_neg ne1,Qa.get_push,if_pos rfl]
 have gR:((H.push (.cells [.int .i64 op,.slice a0 l.length c0] Qb false)).push (.cells [.int .i64 0,.slice none 0 0] Qb false)).get (H.next+1)=some (.cells [.int .i64 0,.slice none 0 0] Qb false):=by rw[Qa.get_push,Qa.next_push,if_pos rfl]
 have hw0:=(hw.push (.cells [.int .i64 op,.slice a0 l.length c0] Qb false)).push (.cells [.int .i64 0,.slice none 0 0] Qb false);have hn0:((H.push (.cells [.int .i64 op,.slice a0 l.length c0] Qb false)).push (.cells [.int .i64 0,.slice none 0 0] Qb false)).next=H.next+2:=by simp only[Qa.next_push]
 simp only[Qhg,sxA,sxB,Nat.reduceBEq,Nat.reduceEqDiff,reduceCtorEq,mxA,mxB,Nat.reduceAdd,reduceIte,Nat.reduceLeDiff,splice];refine Qr5 (λ_ _ _=>False) 0 ?_ (λ_ _ _ h=>h.elim);generalize (H.push (.cells [.int .i64 op,.slice a0 l.length c0] Qb false)).push (.cells [.int .i64 0,.slice none 0 0] Qb false)=H0 at *;generalize jmK 0 _ 0 _=e;simp only[Qdc,sxA,sxB,Nat.reduceBEq,Nat.reduceEqDiff,reduceCtorEq,mxA,mxB,Nat.reduceAdd,reduceIte,Nat.reduceLeDiff,splice,gI];refine(Za op _ l H0 (hv.ext hw hx0) hl hI).thenW ?_;rintro _ _ hn1 hw1 ⟨rfl,k1,rfl⟩;simp only[Qa.next_up]at hn1;have hx1:=hx0.up hn1;have gI1:(H0.up k1).get H.next=some (.cells [.int .i64 op,.slice a0 l.length c0] Qb false):=by rw[Qa.get_up];exact gI
 have gR1:(H0.up k1).get (H.next+1)=some (.cells [.int .i64 0,.slice none 0 0] Qb false):=by rw[Qa.get_up];exact gR
 have hm1:H.next+2<=(H0.up k1).next:=by simp only[Qa.next_up];omega
 generalize H0.up k1=H1 at *;simp only[sxA,sxB,Nat.reduceBEq,Nat.reduceEqDiff,reduceCtorEq,mxA,mxB,Nat.reduceAdd,reduceIte,Nat.reduceLeDiff,splice];cases hck:QT op l==0 with
 | false=>
  have hx2:Ext H (H1.set (H.next+1) (.cells [.int .i64 0,.slice none 0 0] Qb false)):=hx1.set (by omega) _;simp only[sxA,sxB,Nat.reduceBEq,Nat.reduceEqDiff,reduceCtorEq,mxA,mxB,Nat.reduceAdd,reduceIte,Nat.reduceLeDiff,splice,gR1,Ku];exact .mk hx2.next (QqH hx2 (by unfold QI;rw[if_pos hck]))
 | true=>
  have hl4:=Qh4 hck;simp only[Qdb,sxA,sxB,Nat.reduceBEq,Nat.reduceEqDiff,reduceCtorEq,mxA,mxB,Nat.reduceAdd,reduceIte,Nat.reduceLeDiff,splice,gI1];refine(QbN op _ l H1 (hv.ext hw hx1) hl).thenW ?_;rintro _ _ hn2 hw2 ⟨rfl,k2,rfl⟩;simp only[Qa.next_up]at hn2;have hx2:=hx1.up hn2;have gI2:(H1.up k2).get H.next=some (.cells [.int .i64 op,.slice a0 l.length c0] Qb false):=by rw[Qa.get_up];exact gI1
  have gR2:(H1.up k2).get (H.next+1)=some (.cells [.int .i64 0,.slice none 0 0] Qb false):=by rw[Qa.get_up];exact gR1
  have hm2:H.next+2<=(H1.up k2).next:=by simp only[Qa.next_up];omega
  generalize H1.up k2=H2 at *;simp only[sxA,sxB,Nat.reduceBEq,Nat.reduceEqDiff,reduceCtorEq,mxA,mxB,Nat.reduceAdd,reduceIte,Nat.reduceLeDiff,splice,gI2];refine⟨rfl,(QvB _ l H2 (hv.ext hw hx2) hl).thenW ?_⟩;rintro u H3 hn3 hw3 ⟨hx3,hcl⟩
  -- what the clone is
  obtain⟨ca,cap,cb,rfl,hcb⟩:∃ca cap cb,u=.slice ca l.length cap∧((0<l.length->ca=some ⟨cb,0,none⟩∧H2.next<=cb∧H3.get cb=some (.cells (Qg l) Qd false))∧(∀a,ca=some a->H2.next<=a.block∧a.block<H3.next)):=by
   rcases hcl with⟨rfl,rfl | ⟨rfl,rfl⟩⟩ | ⟨hne,rfl,rfl⟩
   ·exact⟨none,0,0,rfl,λh=>absurd h (Nat.lt_irrefl 0),λa h=>by cases h⟩
   ·exact⟨_,0,0,rfl,λh=>absurd h (Nat.lt_irrefl 0),λa h=>by cases h;simp only[Qa.next_push];omega⟩
   ·refine⟨_,_,H2.next+1,rfl,λ_=>⟨rfl,by omega,by rw[Qa.get_push,if_pos (by simp only[Qa.next_push])]⟩,λa h=>by cases h;simp only[Qa.next_push];omega⟩
  obtain⟨hcb,hca⟩:=hcb;have gR3:=(hx3.get _ (hw2.lt gR2)).trans gR2;have hx03:=hx2.trans hx3;have hxn3:=hx3.next;have hbl:Qj H2.next 6 (.int .i64 op)=true:=rfl;simp only[sxA,sxB,Nat.reduceBEq,Nat.reduceEqDiff,reduceCtorEq,mxA,mxB,Nat.reduceAdd,reduceIte,Nat.reduceLeDiff,splice];refine⟨hx3.eqB,?_⟩;refine⟨⟨by omega,by omega,by omega,by omega⟩,?_⟩;generalize hT:Qt prog Z9 ⟨Rt prog Qed H (QgF op l H),e⟩ (Rt prog Qed H (QgF op l H))=T;generalize hzs:Xi _ _=zs;have hzl:zs.length=l.length:=by rw[<- hzs,QwX];omega
  have hnat:((l.length:Int)).toNat=l.length:=by omega
  simp only[hnat];generalize hH4:(H3.push (.cells [.int .i64 op,.slice ca l.length cap] QH false)).push (.cells zs _ false)=H4;have ne3:¬H3.next=H3.next+1:=by omega
  have hx4:Ext H3 H4:=by rw[<- hH4];exact((Ext.refl H3).push _).push _
  have hw4:H4.Wf:=by rw[<- hH4];exact(hw3.push _).push _
  have gD4:H4.get H3.next=some (.cells [.int .i64 op,.slice ca l.length cap] QH false):=by rw[<- hH4,Qa.get_push,Qa.next_push,if_neg ne3,Qa.get_push,if_pos rfl]
  obtain⟨eV,gV4⟩:∃eV,H4.get (H3.next+1)=some (.cells zs eV false):=⟨_,by rw[<- hH4,Qa.get_push,Qa.next_push,if_pos rfl]⟩;have gR4:=(hx4.get _ (hw3.lt gR3)).trans gR3;have gC4:0<l.length->H4.get cb=some (.cells (Qg l) Qd false):=λh=>(hx4.get _ (hw3.lt (hcb h).2.2)).trans (hcb h).2.2;have hcb3:0<l.length->cb<H3.next:=λh=>hw3.lt (hcb h).2.2;have hx04:=hx03.trans hx4;clear hH4 hzs;refine Qu (λm' A2 H5=>∃ (i:Nat) (cs:List Value),i<=l.length∧m'=l.length - i∧cs.length=l.length∧(∀j,j<i->cs[j]? = some (.pointer (some ⟨cb,j * 11,none⟩)))∧Ext H H5∧H5.Wf∧
   A2 2=.pointer (some ⟨H.next+1,0,none⟩)∧A2 5=.int .i64 (Xp op l).1∧A2 6=.bool (Xp op l).2∧A2 7=.pointer (some ⟨H3.next,0,none⟩)∧A2 8=.slice (some ⟨H3.next+1,0,none⟩) l.length l.length∧A2 44=.int .i64 (l.length:Int)∧A2 45=.int .i64 i∧
   H5.get (H.next+1)=some (.cells [.int .i64 0,.slice none 0 0] Qb false)∧H5.get H3.next=some (.cells [.int .i64 op,.slice ca l.length cap] QH false)∧H5.get (H3.next+1)=some (.cells cs eV false)∧(0<l.length->H5.get cb=some (.cells (Qg l) Qd false))) l.length ?_ ?_
  ·refine⟨0,zs,Nat.zero_le _,by omega,hzl,λj h=>by omega,hx04,hw4,?_,?_,?_,?_,?_,?_,?_,gR4,gD4,gV4,gC4⟩
   all_goals simp only[uxA,uxB,Nat.reduceBEq]
   all_goals rfl
  ·rintro m' A2 H5 ⟨i,cs,hi,rfl,hcsl,hcs,hx5,hw5,a2,a5,a6,a7,a8,a44,a45,gR5,gD5,gV5,gC5⟩;simp only[Qda,sxA,sxB,Nat.reduceBEq,Nat.reduceEqDiff,reduceCtorEq,mxA,mxB,Nat.reduceAdd,reduceIte,Nat.reduceLeDiff,splice,a44,a45];refine Qh (λh2=>?_) (λh2=>?_)
   ·have h2:i<l.length:=by have:=of_decide_eq_true h2;omega
    obtain⟨hc1,hc2,hc3⟩:=hcb (by omega);have hc4:=hcb3 (by omega);have c1:(0:Int)<=i∧(i:Int)<l.length:=by omega
    have c3:(i:Int).toNat=i:=by omega
    have c4:i+1<=l.length:=h2;have ei:IntKind.i64.wrap ((i:Int)+1)=((i+1:Nat):Int):=by rw[w64 (by unfold I64;omega)];omega
    subst hc1;have hpt:(Value.pointer (some ⟨cb,i * 11,none⟩)).cells.toList=[.pointer (some ⟨cb,i * 11,none⟩)]:=rfl;have hpo:(Value.pointer (some ⟨cb,i * 11,none⟩)).oneCell'=true:=rfl;have hsl:=Qur cs i [.pointer (some ⟨cb,i * 11,none⟩)] (by simp;omega);have hsa:=QwV cs i (.pointer (some ⟨cb,i * 11,none⟩)) (by omega);have hsb:=λj (hj:j<i)=>QoK cs i [.pointer (some ⟨cb,i * 11,none⟩)] (by omega) j hj;simp only[splice,List.length_cons,List.length_nil,Nat.zero_add,List.cons_append,List.nil_append]at hsl hsa hsb;simp only[Qc9,sxA,sxB,Nat.reduceBEq,Nat.reduceEqDiff,reduceCtorEq,mxA,mxB,Nat.reduceAdd,reduceIte,Nat.reduceLeDiff,splice,a7,a8,a45,c1,c3,c4,gD5,gV5,hcsl,hpt,hpo,ei];refine⟨l.length - (i+1),by omega,i+1,_,by omega,rfl,hsl.trans hcsl,λj hj=>?_,hx5.set (by omega) _,hw5.set gV5 _,?_,?_,?_,?_,?_,?_,?_,?_,?_,by rw[Qa.get_set,if_pos rfl],λh=>?_⟩
    ·rcases Nat.lt_or_ge j i with h | h
     ·rw[hsb j h];exact hcs j h
     ·rw[show j=i by omega];exact hsa
    all_goals (try simp only[uxA,uxB,Nat.reduceBEq,a2,a5,a6,a7,a8,a44])
    ·rw[Qa.get_set,if_neg (by omega)];exact gR5
    ·rw[Qa.get_set,if_neg (by omega)];exact gD5
    ·rw[Qa.get_set,if_neg (by omega)];exact gC5 h
   ·have h2:i=l.length:=by have:=of_decide_eq_false h2;omega
    subst h2;simp only[sxA,sxB,Nat.reduceBEq,Nat.reduceEqDiff,reduceCtorEq,mxA,mxB,Nat.reduceAdd,reduceIte,Nat.reduceLeDiff,splice];rw[<- hT];refine Qyp op l H e _ _ H5 H3.next (H3.next+1) cb cap ca cs eV hx5 hw5 (by omega) (by omega) (by omega) (by simp only[uxA,uxB,Nat.reduceBEq,a2]) (by simp only[uxA,uxB,Nat.reduceBEq,a5]) (by simp only[uxA,uxB,Nat.reduceBEq,a6]) (by simp only[uxA,uxB,Nat.reduceBEq,a7]) (by simp only[uxA,uxB,Nat.reduceBEq,a8]) gR5 gD5 gV5 hcsl hcs (λh=>?_) (λa h=>?_) hck hI
    ·obtain⟨hc1,hc2,hc3⟩:=hcb h;have hc4:=hcb3 h;exact⟨hc1,by omega,by omega,by omega,gC5 h⟩
    ·have:=hca a h;exact⟨by omega,by omega,by omega⟩
end
theorem Qyq (n b:Int) (h:I64 n):I64 (QgP n b):=by
 unfold I64 at *;unfold QgP;split
 ·omega
 ·split
  ·omega
  ·split<;>omega
theorem Qyr (n b:Int) (h:I64 n):I64 (QgO n b):=by
 unfold I64 at *;unfold QgO;split
 ·omega
 ·split
  ·omega
  ·split<;>omega
theorem Qss (n b:Int) (sg:Bool) (h:I64 n):I64 (Kh n b sg).1:=by
 unfold Kh;split
 ·unfold I64;omega
 ·split
  ·unfold I64;omega
  ·split
   ·exact Qyq n b h
   ·exact Qyr n b h
end Go.Proofs.YtgepgbbjfhggfaaGreatDoor.code
