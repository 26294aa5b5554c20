/- shape.Check, of any form. -/
import Derived.Test.YtgepgbbjfhggfaaGreatDoorLibA
import Derived.Test.YtgepgbbjfhggfaaGreatDoorC4Shape
import Derived.Test.YtgepgbbjfhggfaaGreatDoorLibB
set_option linter.unusedVariables false
set_option linter.unusedSimpArgs false
set_option maxRecDepth 100000
set_option maxHeartbeats 2000000
set_option maxHeartbeats 4000000
namespace Go.Proofs.YtgepgbbjfhggfaaGreatDoor.code
open Go.Ab
def opV (o:Int):Bool:=decide (1≤o)&&decide (o≤322)
theorem QAw (o:Int) (H:Qa):Qe prog X7 [.int .i64 o] H fun u H'=>u=.bool (opV o)∧H'=H:=by
 refine QfH fun hw=>?_
 simp(disch:=(first | omega | (repeat (first | rw[Qa.next_push] | rw[Qa.next_set] | rw[Qa.next_up]));try omega)) only[Qbi,sxA,sxB,Nat.reduceBEq,Nat.reduceEqDiff,reduceCtorEq,mxD,mxB,Nat.reduceAdd,reduceIte,Nat.reduceLeDiff,splice,YT]
 repeat' (first
   | (refine Qv (fun h=>?_) (fun h=>?_)<;>(try simp only[Bool.not_eq_true',Bool.not_eq_false']at h)<;>simp(disch:=(first | omega | (repeat (first | rw[Qa.next_push] | rw[Qa.next_set] | rw[Qa.next_up]));try omega)) only[sxA,sxB,Nat.reduceBEq,Nat.reduceEqDiff,reduceCtorEq,mxD,mxB,Nat.reduceAdd,reduceIte,Nat.reduceLeDiff,splice,YT,h])
   | fail)
 all_goals refine .mk (Nat.le_refl _) ⟨?_,rfl⟩
 all_goals (simp_all [opV]<;>omega)
def QiA (sh sl:Int):Bool:=
 if sl=6 then decide (28≤sh)&&decide (sh≤33) else if sl=5 then decide (20≤sh)&&decide (sh≤27)
 else if sl=1∨sl=3∨sl=4∨sl=7 then decide (1≤sh)&&decide (sh≤6) else if sl=2 then(decide (1≤sh)&&decide (sh≤19))||(sh==34) else false
theorem Qo3 (sh sl:Int) (H:Qa):Qe prog QcP [.int .i64 sh,.int .i64 sl] H fun u H'=>u=.bool (QiA sh sl)∧H'=H:=by
 refine Qni fun hw=>?_
 simp(disch:=(first | omega | (repeat (first | rw[Qa.next_push] | rw[Qa.next_set] | rw[Qa.next_up]));try omega)) only[Qf5,QdD,QdE,QdF,QdG,QdH,sxA,sxB,Nat.reduceBEq,Nat.reduceEqDiff,reduceCtorEq,mxD,mxB,Nat.reduceAdd,reduceIte,Nat.reduceLeDiff,splice,V4]
 repeat' (first
   | (refine Qv (fun h=>?_) (fun h=>?_)<;>(try simp only[Bool.not_eq_true',Bool.not_eq_false']at h)<;>simp(disch:=(first | omega | (repeat (first | rw[Qa.next_push] | rw[Qa.next_set] | rw[Qa.next_up]));try omega)) only[sxA,sxB,Nat.reduceBEq,Nat.reduceEqDiff,reduceCtorEq,mxD,mxB,Nat.reduceAdd,reduceIte,Nat.reduceLeDiff,splice,V4,h])
   | (refine Qg (fun h=>?_) (fun h=>?_)<;>(try simp only[Bool.not_eq_true',Bool.not_eq_false']at h)<;>simp(disch:=(first | omega | (repeat (first | rw[Qa.next_push] | rw[Qa.next_set] | rw[Qa.next_up]));try omega)) only[sxA,sxB,Nat.reduceBEq,Nat.reduceEqDiff,reduceCtorEq,mxD,mxB,Nat.reduceAdd,reduceIte,Nat.reduceLeDiff,splice,V4,h])
   | fail)
 all_goals refine .mk (Nat.le_refl _) ⟨?_,rfl⟩
 all_goals (simp only[beq_iff_eq,decide_eq_true_eq,decide_eq_false_iff_not,beq_eq_false_iff_ne,ne_eq]at *)
 all_goals (unfold QiA;simp_all<;>omega)
def Qo4 (c:Int):Bool:=(decide (64≤c)&&decide (c≤79))||(c==15)||(c==102)||(c==196)||(c==197)||(c==242)||(c==243)
theorem Qnj (c:Int) (H:Qa):Qe prog Qbg [.int .i64 c] H fun u H'=>u=.bool (Qo4 c)∧H'=H:=by
 refine Qmj fun hw=>?_
 simp(disch:=(first | omega | (repeat (first | rw[Qa.next_push] | rw[Qa.next_set] | rw[Qa.next_up]));try omega)) only[QeR,sxA,sxB,Nat.reduceBEq,Nat.reduceEqDiff,reduceCtorEq,mxD,mxB,Nat.reduceAdd,reduceIte,Nat.reduceLeDiff,splice,GE]
 repeat' (first
   | (refine Qv (fun h=>?_) (fun h=>?_)<;>(try simp only[Bool.not_eq_true',Bool.not_eq_false']at h)<;>simp(disch:=(first | omega | (repeat (first | rw[Qa.next_push] | rw[Qa.next_set] | rw[Qa.next_up]));try omega)) only[sxA,sxB,Nat.reduceBEq,Nat.reduceEqDiff,reduceCtorEq,mxD,mxB,Nat.reduceAdd,reduceIte,Nat.reduceLeDiff,splice,GE,h])
   | (refine Qg (fun h=>?_) (fun h=>?_)<;>(try simp only[Bool.not_eq_true',Bool.not_eq_false']at h)<;>simp(disch:=(first | omega | (repeat (first | rw[Qa.next_push] | rw[Qa.next_set] | rw[Qa.next_up]));try omega)) only[sxA,sxB,Nat.reduceBEq,Nat.reduceEqDiff,reduceCtorEq,mxD,mxB,Nat.reduceAdd,reduceIte,Nat.reduceLeDiff,splice,GE,h])
   | fail)
 all_goals refine .mk (Nat.le_refl _) ⟨?_,rfl⟩
 all_goals (simp only[Qo4];simp_all<;>omega)
def QtG (H:Qa) (v:Value) (l:List Int):Prop:=∃a cap,v=.slice a l.length cap∧(0<l.length→∃b e ro cs,a=some ⟨b,0,none⟩∧H.get b=some (.cells cs e ro)∧∀j,j<l.length→cs[j]? = some (.int .i64 (l.getD j 0)))
theorem QqI (va:Value) (xs:List Int) (x:Int) (H:Qa) (ha:QtG H va xs) (hl:xs.length≤1000):Qe prog Wp [va,.int .i64 x] H fun u H'=>u=.int .i64 (QB xs x)∧H'=H:=by
 refine Z3 fun hw=>?_
 obtain⟨aa,acap,rfl,hsa⟩:=ha
 simp only[XP,sxA,sxB,Nat.reduceBEq,Nat.reduceEqDiff,reduceCtorEq,mxA,mxB,Nat.reduceAdd,reduceIte,Nat.reduceLeDiff,splice]
 refine Qy (fun m A' H'=>∃i:Nat,i≤xs.length∧m=xs.length - i∧H'=H∧(∀j,j<i→¬x=xs.getD j 0)∧A' 0=.slice aa xs.length acap∧A' 1=.int .i64 x∧A' 7=.int .i64 (xs.length:Int)∧A' 8=.int .i64 i) xs.length ?_ ?_
 ·refine⟨0,Nat.zero_le _,by omega,rfl,fun j h=>by omega,?_,?_,?_,?_⟩
  all_goals simp only[uxA,uxB,Nat.reduceBEq]
  rfl
 ·rintro m A' H' ⟨i,hi,rfl,hEq,hall,r0,r1,r7,r8⟩
  subst hEq
  simp only[sxA,sxB,Nat.reduceBEq,Nat.reduceEqDiff,reduceCtorEq,mxA,mxB,Nat.reduceAdd,reduceIte,Nat.reduceLeDiff,splice,r7,r8]
  refine Qg (fun h2=>?_) (fun h2=>?_)
  ·have h2:i<xs.length:=by have:=of_decide_eq_true h2;omega
   obtain⟨b1,e1,ro1,cs,rfl,hb1,hcs⟩:=hsa (by omega)
   have c1:(0:Int)≤i∧(i:Int)<xs.length:=by omega
   have c3:(i:Int).toNat=i:=by omega
   have ei:IntKind.i64.wrap ((i:Int)+1)=((i+1:Nat):Int):=by rw[w64 (by unfold I64;omega)];omega
   have g1:=hcs i h2
   simp only[sxA,sxB,Nat.reduceBEq,Nat.reduceEqDiff,reduceCtorEq,mxA,mxB,Nat.reduceAdd,reduceIte,Nat.reduceLeDiff,splice,r0,r1,r8,c1,c3,hb1,g1]
   refine Qg (fun h3=>?_) (fun h3=>?_)
   ·have h3:x=xs.getD i 0:=by simpa using h3
    simp only[sxA,sxB,Nat.reduceBEq,Nat.reduceEqDiff,reduceCtorEq,mxA,mxB,Nat.reduceAdd,reduceIte,Nat.reduceLeDiff,splice,r8,WS]
    exact .mk (Nat.le_refl _) ⟨by rw[QB,Ql8 x xs 0 i hall h2 h3,Nat.zero_add],rfl⟩
   ·have h3:¬x=xs.getD i 0:=by simpa using h3
    simp only[sxA,sxB,Nat.reduceBEq,Nat.reduceEqDiff,reduceCtorEq,mxA,mxB,Nat.reduceAdd,reduceIte,Nat.reduceLeDiff,splice,r8,ei]
    refine⟨xs.length - (i+1),by omega,i+1,by omega,rfl,rfl,fun j hj=>?_,?_,?_,?_,?_⟩
    ·rcases Nat.lt_or_ge j i with h | h
     ·exact hall j h
     ·rw[show j=i by omega];exact h3
    all_goals simp only[uxA,uxB,Nat.reduceBEq,r0,r1,r7]
  ·have h2:i=xs.length:=by have:=of_decide_eq_false h2;omega
   subst h2
   simp only[sxA,sxB,Nat.reduceBEq,Nat.reduceEqDiff,reduceCtorEq,mxA,mxB,Nat.reduceAdd,reduceIte,Nat.reduceLeDiff,splice,WS]
   exact .mk (Nat.le_refl _) ⟨by rw[QB,Ql9 x xs 0 hall],rfl⟩
theorem Qmk (va:Value) (xs:List Int) (x:Int) (H:Qa) (ha:QtG H va xs) (hl:xs.length≤1000):Qe prog QL [va,.int .i64 x] H fun u H'=>u=.bool (decide (0≤QB xs x))∧H'=H:=by
 refine V3 fun hw=>?_
 simp only[Y4,sxA,sxB,Nat.reduceBEq,Nat.reduceEqDiff,reduceCtorEq,mxA,mxB,Nat.reduceAdd,reduceIte,Nat.reduceLeDiff,splice]
 refine(QqI va xs x H ha hl).thenW ?_
 rintro _ _ _ _ ⟨rfl,rfl⟩
 simp only[sxA,sxB,Nat.reduceBEq,Nat.reduceEqDiff,reduceCtorEq,mxA,mxB,Nat.reduceAdd,reduceIte,Nat.reduceLeDiff,splice,Ve]
 exact .mk (Nat.le_refl _) ⟨rfl,rfl⟩
theorem QxY {b len cap i:Nat} (hc:QqH len cap) (hi:i≤len):Jg 1 (.slice (some ⟨b,0,none⟩) len cap) none (some (i:Int)) none=some (.slice (some ⟨b,0,none⟩) i cap):=by
 unfold Jg
 rcases hc with rfl | ⟨h1,h2⟩
 ·simp only[Option.getD_none,Option.getD_some]
  rw[if_pos (Nat.le_add_right _ _),if_pos ⟨Int.le_refl _,by omega,by omega,trivial⟩]
  simp
 ·simp only[Option.getD_none,Option.getD_some]
  rw[if_neg (by omega),if_pos (by omega)]
  simp
def Qml (l:List Int) (k:Nat):Bool:=(l.getD k 0==6)||!(decide (0≤QB (l.take k) (l.getD k 0)))
def QqJ (l:List Int):Bool:=(List.range l.length).all (Qml l)
theorem JH {n:Nat} {p:Nat→Bool} (h:∀j,j<n→p j=true):(List.range n).all p=true:=by
 rw[List.all_eq_true];intro j hj;exact h j (List.mem_range.1 hj)
theorem ZN {n i:Nat} {p:Nat→Bool} (hi:i<n) (h:p i=false):(List.range n).all p=false:=by
 rw[List.all_eq_false];exact⟨i,List.mem_range.2 hi,by rw[h];decide⟩
theorem Qo5 (va:Value) (xs:List Int) (H:Qa) (ha:Vy H va xs.length (ints xs)) (hl:xs.length≤1000) (hc:∀a n c,va=.slice (some a) n c→QqH n c):Qe prog QcM [va] H fun u H'=>u=.bool (QqJ xs)∧H'=H:=by
 refine Qnh fun hw=>?_
 obtain⟨aa,acap,rfl,hsa⟩:=ha
 simp only[Qf4,sxA,sxB,Nat.reduceBEq,Nat.reduceEqDiff,reduceCtorEq,mxA,mxB,Nat.reduceAdd,reduceIte,Nat.reduceLeDiff,splice]
 refine Qy (fun m A' H'=>∃i:Nat,i≤xs.length∧m=xs.length - i∧H'=H∧(∀j,j<i→Qml xs j=true)∧A' 0=.slice aa xs.length acap∧A' 5=.slice aa xs.length acap∧A' 6=.int .i64 (xs.length:Int)∧A' 7=.int .i64 i) xs.length ?_ ?_
 ·refine⟨0,Nat.zero_le _,by omega,rfl,fun j h=>by omega,?_,?_,?_,?_⟩
  all_goals simp only[uxA,uxB,Nat.reduceBEq]
  rfl
 ·rintro m A' H' ⟨i,hi,rfl,hEq,hall,r0,r5,r6,r7⟩
  subst hEq
  simp only[sxA,sxB,Nat.reduceBEq,Nat.reduceEqDiff,reduceCtorEq,mxA,mxB,Nat.reduceAdd,reduceIte,Nat.reduceLeDiff,splice,r6,r7]
  refine Qg (fun h2=>?_) (fun h2=>?_)
  ·have h2:i<xs.length:=by have:=of_decide_eq_true h2;omega
   obtain⟨b1,e1,ro1,rfl,hb1⟩:=hsa (by omega)
   have c1:(0:Int)≤i∧(i:Int)<xs.length:=by omega
   have c3:(i:Int).toNat=i:=by omega
   have ei:IntKind.i64.wrap ((i:Int)+1)=((i+1:Nat):Int):=by rw[w64 (by unfold I64;omega)];omega
   have g1:=Vw (l:=xs) (i:=i) (by omega)
   have next:Qml xs i=true→∀j,j<i+1→Qml xs j=true:=fun h j hj=>by
    rcases Nat.lt_or_ge j i with h' | h'
    ·exact hall j h'
    ·rw[show j=i by omega];exact h
   have oa:Qml xs i=((xs.getD i 0==6)||!(decide (0≤QB (xs.take i) (xs.getD i 0)))):=rfl
   simp only[sxA,sxB,Nat.reduceBEq,Nat.reduceEqDiff,reduceCtorEq,mxA,mxB,Nat.reduceAdd,reduceIte,Nat.reduceLeDiff,splice,r0,r5,r7,c1,c3,hb1,g1]
   cases q6:xs.getD i 0==6 with
   | true=>
    rw[q6,Bool.true_or]at oa
    simp only[sxA,sxB,Nat.reduceBEq,Nat.reduceEqDiff,reduceCtorEq,mxA,mxB,Nat.reduceAdd,reduceIte,Nat.reduceLeDiff,splice,r7,ei]
    refine⟨xs.length - (i+1),by omega,i+1,by omega,rfl,rfl,next oa,?_,?_,?_,?_⟩
    all_goals simp only[uxA,uxB,Nat.reduceBEq,r0,r5,r6]
   | false=>
    rw[q6,Bool.false_or]at oa
    have il:(xs.take i).length=i:=by rw[List.length_take];omega
    have hsl:QtG H' (.slice (some ⟨b1,0,none⟩) i acap) (xs.take i):=⟨some ⟨b1,0,none⟩,acap,by rw[il],fun _=>⟨b1,e1,ro1,_,rfl,hb1,fun j hj=>by
     rw[il]at hj
     rw[Vw (by omega)]
     simp[List.getD,List.getElem?_take,hj]⟩⟩
    have asl:=QxY (b:=b1) (hc _ _ _ rfl) (Nat.le_of_lt h2)
    simp only[sxA,sxB,Nat.reduceBEq,Nat.reduceEqDiff,reduceCtorEq,mxA,mxB,Nat.reduceAdd,reduceIte,Nat.reduceLeDiff,splice,r0,r7,asl]
    refine(Qmk _ (xs.take i) (xs.getD i 0) H' hsl (by omega)).thenW ?_
    rintro _ _ _ _ ⟨rfl,rfl⟩
    simp only[sxA,sxB,Nat.reduceBEq,Nat.reduceEqDiff,reduceCtorEq,mxA,mxB,Nat.reduceAdd,reduceIte,Nat.reduceLeDiff,splice]
    cases q7:decide (0≤QB (xs.take i) (xs.getD i 0)) with
    | true=>
     rw[q7]at oa
     simp only[sxA,sxB,Nat.reduceBEq,Nat.reduceEqDiff,reduceCtorEq,mxA,mxB,Nat.reduceAdd,reduceIte,Nat.reduceLeDiff,splice,QeQ]
     exact .mk (Nat.le_refl _) ⟨by rw[QqJ,ZN h2 oa],rfl⟩
    | false=>
     rw[q7]at oa
     simp only[sxA,sxB,Nat.reduceBEq,Nat.reduceEqDiff,reduceCtorEq,mxA,mxB,Nat.reduceAdd,reduceIte,Nat.reduceLeDiff,splice,r7,ei]
     refine⟨xs.length - (i+1),by omega,i+1,by omega,rfl,rfl,next oa,?_,?_,?_,?_⟩
     all_goals simp only[uxA,uxB,Nat.reduceBEq,r0,r5,r6]
  ·have h2:i=xs.length:=by have:=of_decide_eq_false h2;omega
   subst h2
   simp only[sxA,sxB,Nat.reduceBEq,Nat.reduceEqDiff,reduceCtorEq,mxA,mxB,Nat.reduceAdd,reduceIte,Nat.reduceLeDiff,splice,QeQ]
   exact .mk (Nat.le_refl _) ⟨by rw[QqJ,JH hall],rfl⟩
def Qsx (f:Fm) (k:Nat):Bool:=QiA (f.shapes.getD k 0) (f.slots.getD k 0)
def QdI (f:Fm):Bool:=(f.shapes.length==f.slots.length)&&(List.range f.slots.length).all (Qsx f)
theorem QkB (x:Lf) (H:Qa) (hx:x.At H):Qe prog Gn [.agg x.cells.toArray] H fun u H'=>u=.bool (QdI x.f)∧∃m,H'=H.up m:=by
 refine Qjr fun hw=>?_
 have ec:(Value.agg x.cells.toArray).cells.toList=x.cells:=rfl
 have hx0:Ext H (H.push (.cells x.cells Qc false)):=(Ext.refl H).push _
 have hg0:(H.push (.cells x.cells Qc false)).get H.next=some (.cells x.cells Qc false):=by rw[Qa.get_push,if_pos rfl]
 have hw0:=hw.push (.cells x.cells Qc false)
 obtain⟨l1,l2,h1,h2⟩:=hx.ext hw hx0
 obtain⟨a1,c1,e1,s1⟩:=h1
 obtain⟨a2,c2,e2,s2⟩:=h2
 have x1:x.cells[1]? = some (.slice a1 x.f.shapes.length c1):=by rw[← e1];rfl
 have x2:x.cells[2]? = some (.slice a2 x.f.slots.length c2):=by rw[← e2];rfl
 simp only[Qcm,ec,sxA,sxB,Nat.reduceBEq,Nat.reduceEqDiff,reduceCtorEq,mxA,mxB,Nat.reduceAdd,reduceIte,Nat.reduceLeDiff,splice,x1,x2]
 generalize hH0:H.push (.cells x.cells Qc false)=H0 at hx0 hg0 hw0 s1 s2
 have fin:∀b,b=QdI x.f→Ret H (fun u H'=>u=.bool (QdI x.f)∧∃m,H'=H.up m) (.bool b) H0:=fun b hb=>.ext hw hx0 ⟨by rw[hb],_,rfl⟩
 by_cases hne:x.f.shapes.length=x.f.slots.length
 ·have e0:((x.f.shapes.length:Int)==(x.f.slots.length:Int))=true:=by simp[hne]
  simp only[e0,sxA,sxB,Nat.reduceBEq,Nat.reduceEqDiff,reduceCtorEq,mxA,mxB,Nat.reduceAdd,reduceIte,Nat.reduceLeDiff,splice,hg0,x1,x2]
  refine Qy (fun m A' H'=>∃i:Nat,i≤x.f.slots.length∧m=x.f.slots.length - i∧H'=H0∧(∀j,j<i→Qsx x.f j=true)∧A' 1=.pointer (some ⟨H.next,0,none⟩)∧A' 13=.slice a2 x.f.slots.length c2∧A' 14=.int .i64 (x.f.slots.length:Int)∧A' 15=.int .i64 i) x.f.slots.length ?_ ?_
  ·refine⟨0,Nat.zero_le _,by omega,rfl,fun j h=>by omega,?_,?_,?_,?_⟩
   all_goals simp only[uxA,uxB,Nat.reduceBEq]
   rfl
  ·rintro m A' H' ⟨i,hi,rfl,hEq,hall,r1,r13,r14,r15⟩
   subst hEq
   simp only[sxA,sxB,Nat.reduceBEq,Nat.reduceEqDiff,reduceCtorEq,mxA,mxB,Nat.reduceAdd,reduceIte,Nat.reduceLeDiff,splice,r14,r15]
   refine Qg (fun h2=>?_) (fun h2=>?_)
   ·have h2:i<x.f.slots.length:=by have:=of_decide_eq_true h2;omega
    obtain⟨b1,t1,ro1,rfl,hb1⟩:=s1 (by omega)
    obtain⟨b2,t2,ro2,rfl,hb2⟩:=s2 (by omega)
    have d1:(0:Int)≤i∧(i:Int)<x.f.slots.length:=by omega
    have d2:(0:Int)≤i∧(i:Int)<x.f.shapes.length:=by omega
    have c3:(i:Int).toNat=i:=by omega
    have ei:IntKind.i64.wrap ((i:Int)+1)=((i+1:Nat):Int):=by rw[w64 (by unfold I64;omega)];omega
    have g1:=Vw (l:=x.f.shapes) (i:=i) (by omega)
    have g2:=Vw (l:=x.f.slots) (i:=i) (by omega)
    simp only[sxA,sxB,Nat.reduceBEq,Nat.reduceEqDiff,reduceCtorEq,mxA,mxB,Nat.reduceAdd,reduceIte,Nat.reduceLeDiff,splice,r1,r13,r15,d1,d2,c3,hb1,hb2,g1,g2,hg0,x1,x2]
    refine(Qo3 _ _ _).thenW ?_
    rintro _ _ _ _ ⟨rfl,rfl⟩
    have oa:Qsx x.f i=QiA (x.f.shapes.getD i 0) (x.f.slots.getD i 0):=rfl
    simp only[sxA,sxB,Nat.reduceBEq,Nat.reduceEqDiff,reduceCtorEq,mxA,mxB,Nat.reduceAdd,reduceIte,Nat.reduceLeDiff,splice]
    cases q:QiA (x.f.shapes.getD i 0) (x.f.slots.getD i 0) with
    | false=>
     rw[q]at oa
     simp only[sxA,sxB,Nat.reduceBEq,Nat.reduceEqDiff,reduceCtorEq,mxA,mxB,Nat.reduceAdd,reduceIte,Nat.reduceLeDiff,splice,JG]
     exact fin _ (by rw[QdI,ZN h2 oa,Bool.and_false])
    | true=>
     rw[q]at oa
     simp only[sxA,sxB,Nat.reduceBEq,Nat.reduceEqDiff,reduceCtorEq,mxA,mxB,Nat.reduceAdd,reduceIte,Nat.reduceLeDiff,splice,r15,ei]
     refine⟨x.f.slots.length - (i+1),by omega,i+1,by omega,rfl,rfl,fun j hj=>?_,?_,?_,?_,?_⟩
     ·rcases Nat.lt_or_ge j i with h | h
      ·exact hall j h
      ·rw[show j=i by omega];exact oa
     all_goals simp only[uxA,uxB,Nat.reduceBEq,r1,r13,r14]
   ·have h2:i=x.f.slots.length:=by have:=of_decide_eq_false h2;omega
    subst h2
    simp only[sxA,sxB,Nat.reduceBEq,Nat.reduceEqDiff,reduceCtorEq,mxA,mxB,Nat.reduceAdd,reduceIte,Nat.reduceLeDiff,splice,JG]
    exact fin _ (by rw[QdI,JH hall,hne];simp)
 ·have e0:((x.f.shapes.length:Int)==(x.f.slots.length:Int))=false:=by simp;omega
  simp only[e0,sxA,sxB,Nat.reduceBEq,Nat.reduceEqDiff,reduceCtorEq,mxA,mxB,Nat.reduceAdd,reduceIte,Nat.reduceLeDiff,splice,JG]
  exact fin _ (by rw[QdI];simp[hne])
def QnY (f:Fm):Bool:=bif !f.vex then((f.w==0)||(f.w==1))&&(f.l==0)&&decide (QB f.slots 3<0)&&decide (QB f.slots 7<0) else((f.pre==0)||(f.pre==1)||(f.pre==2)||(f.pre==4))&&(!(f.map==0))&&decide (-1≤f.w)&&decide (f.w≤1)&&((f.l==0)||(f.l==1))
theorem Qjs (x:Lf) (H:Qa) (hx:x.At H):Qe prog Kq [.agg x.cells.toArray] H fun u H'=>u=.bool (QnY x.f)∧∃m,H'=H.up m:=by
 refine Qiz fun hw=>?_
 have q3:=fun H' (he:Ext H H')=>QU x 3 H' (hx.ext hw he)
 have q7:=fun H' (he:Ext H H')=>QU x 7 H' (hx.ext hw he)
 have hs:QnY x.f=bif !x.f.vex then((x.f.w==0)||(x.f.w==1))&&(x.f.l==0)&&decide (QB x.f.slots 3<0)&&decide (QB x.f.slots 7<0) else((x.f.pre==0)||(x.f.pre==1)||(x.f.pre==2)||(x.f.pre==4))&&(!(x.f.map==0))&&decide (-1≤x.f.w)&&decide (x.f.w≤1)&&((x.f.l==0)||(x.f.l==1)):=rfl
 rw[hs]
 clear hs hx
 generalize QB x.f.slots 3=i3 at *
 generalize QB x.f.slots 7=i7 at *
 obtain⟨⟨fop,fpre,fmap,fcode,fdg,fw,fl,fvex,fsh,fsl⟩,sv,tv⟩:=x
 simp only[Lf.cells]at q3 q7 ⊢
 cases fvex
 all_goals simp(disch:=(first | omega | (repeat (first | rw[Qa.next_push] | rw[Qa.next_set] | rw[Qa.next_up]));try omega)) only[Qa4,Wy,Wz,WA,WB,QBF,simprocAttr,Xh]
 all_goals repeat' (first
   | (refine Qv (fun h=>?_) (fun h=>?_)<;>(try simp only[Bool.not_eq_true',Bool.not_eq_false']at h)<;>simp(disch:=(first | omega | (repeat (first | rw[Qa.next_push] | rw[Qa.next_set] | rw[Qa.next_up]));try omega)) only[Wy,Wz,WA,WB,QBF,simprocAttr,Xh,h])
   | (refine Qg (fun h=>?_) (fun h=>?_)<;>(try simp only[Bool.not_eq_true',Bool.not_eq_false']at h)<;>simp(disch:=(first | omega | (repeat (first | rw[Qa.next_push] | rw[Qa.next_set] | rw[Qa.next_up]));try omega)) only[Wy,Wz,WA,WB,QBF,simprocAttr,Xh,h])
   | (refine(q3 _ (by(repeat' (first | exact Ext.refl _ | refine Ext.push ?_ _ | refine Ext.up ?_ (by simp only[Qa.next_push,Qa.next_set,Qa.next_up];omega))))).thenW ?_;rintro _ _ hn hw2 ⟨rfl,k,rfl⟩;(try simp only[Qa.next_push,Qa.next_up,Qa.next_set]at hn);simp(disch:=(first | omega | (repeat (first | rw[Qa.next_push] | rw[Qa.next_set] | rw[Qa.next_up]));try omega)) only[Wy,Wz,WA,WB,QBF,simprocAttr,Xh])
   | (refine(q7 _ (by(repeat' (first | exact Ext.refl _ | refine Ext.push ?_ _ | refine Ext.up ?_ (by simp only[Qa.next_push,Qa.next_set,Qa.next_up];omega))))).thenW ?_;rintro _ _ hn hw2 ⟨rfl,k,rfl⟩;(try simp only[Qa.next_push,Qa.next_up,Qa.next_set]at hn);simp(disch:=(first | omega | (repeat (first | rw[Qa.next_push] | rw[Qa.next_set] | rw[Qa.next_up]));try omega)) only[Wy,Wz,WA,WB,QBF,simprocAttr,Xh])
   | fail)
 all_goals refine .ext hw ?_ ⟨?_,_,rfl⟩
 all_goals try (repeat' (first | exact Ext.refl _ | refine Ext.push ?_ _ | refine Ext.up ?_ (by simp only[Qa.next_push,Qa.next_set,Qa.next_up];omega)))
 all_goals (simp_all<;>omega)
theorem Qnk (x:Lf) (H:Qa) (hx:x.At H):Qe prog Qbf [.agg x.cells.toArray] H fun u H'=>u=.bool (decide (0≤QB x.f.slots 2))∧∃m,H'=H.up m:=by
 refine Qmi fun hw=>?_
 have ec:(Value.agg x.cells.toArray).cells.toList=x.cells:=rfl
 simp only[QeP,ec,QH,Wm,QBD,simprocAttr]
 refine(QU x 2 _ (hx.ext hw ((Ext.refl H).push _))).thenW ?_
 rintro _ _ hn hw2 ⟨rfl,m,rfl⟩
 simp only[Qa.next_up,Qa.next_push]at hn
 simp only[QBD,simprocAttr,QkA]
 exact .ext hw (((Ext.refl H).push _).up (by simp only[Qa.next_push];exact hn)) ⟨rfl,_,rfl⟩
def QxZ (c:Int):Int:=IntKind.i64.wrap (BitVec.ofInt IntKind.i64.bits c &&& BitVec.ofInt IntKind.i64.bits 7).toNat
def Qo6 (f:Fm):List Bool:=
 let r:=decide (0≤QB f.slots 1);let m:=decide (0≤QB f.slots 2);let c:=decide (0≤QB f.slots 4);let d:=decide (0≤f.digit)
 [f.shapes.length==f.slots.length,QnY f,QqJ f.slots,QdI f,!c||((QxZ f.code==0)&&!r&&!m&&!d),!r||!d,!m||r||d,m||(!r&&!d),!(f.map==0)||!Qo4 f.code]
theorem Qx0 {M:Nat} {v:Value} {l:List Int} (h:SlF M v l):∀a n c,v=.slice (some a) n c→QqH n c:=by
 rintro a n c rfl
 rcases h with⟨_,h⟩ | ⟨_,b,cap,h,_,h2⟩
 ·cases h
 ·cases h;exact h2
theorem Qfb {M:Nat} {v:Value} {l:List Int} {H:Qa} {cs:List Value} (hw:H.Wf) (h:SlF M v l) (h2:Vy H v l.length cs) (m:Nat) (hm:H.next≤m) (n:Nat):Qj m (n+1) v=true:=by
 rcases h with⟨_,rfl⟩ | ⟨hl,b,cap,rfl,_,_⟩
 ·rfl
 ·obtain⟨a,c,e,h1⟩:=h2
  cases e
  obtain⟨b2,_,_,e3,hb⟩:=h1 (List.length_pos_iff.2 hl)
  cases e3
  have:=hw.lt hb
  simp only[Qj,Nat.blt_eq]
  omega
theorem Qnl (x:Lf) (H:Qa) (hx:x.At H) (hf:x.Fr 0):Qe prog Qbe [.agg x.cells.toArray] H fun u H'=>∃b,u=.slice (some ⟨b,0,none⟩) 9 9∧Ext H H'∧H'.get b=some (.cells ((Qo6 x.f).map .bool) 4 false):=by
  refine Qmh fun hw=>?_
  have bs:=fun m hm n=>Qfb hw hf.1 hx.2.2.1 m hm n
  have bt:=fun m hm n=>Qfb hw hf.2 hx.2.2.2 m hm n
  have hb:∀m,H.next≤m→Qj m 6 (.agg x.cells.toArray)=true:=fun m hm=>by
    have h1:=bs m hm 4
    have h2:=bt m hm 4
    simp[Qj,Lf.cells,plain]at h1 h2 ⊢
    exact⟨h1,h2⟩
  have hb1:∀m,H.next≤m→Qj m 6 x.sv=true:=fun m hm=>bs m hm 5
  have hb2:∀m,H.next≤m→Qj m 6 x.tv=true:=fun m hm=>bt m hm 5
  have q1:=fun H' (he:Ext H H')=>QU x 1 H' (hx.ext hw he)
  have q4:=fun H' (he:Ext H H')=>QU x 4 H' (hx.ext hw he)
  have qm:=fun H' (he:Ext H H')=>Qnk x H' (hx.ext hw he)
  have qp:=fun H' (he:Ext H H')=>Qjs x H' (hx.ext hw he)
  have qc:=fun H' (he:Ext H H')=>QkB x H' (hx.ext hw he)
  have qo:=fun H' (he:Ext H H')=>Qo5 x.tv x.f.slots H' (hx.ext hw he).2.2.2 hx.2.1 (Qx0 hf.2)
  have qt:=fun H'=>Qnj x.f.code H'
  have ec:(Value.agg x.cells.toArray).cells.toList=x.cells:=rfl
  obtain⟨a1,c1,e1,_⟩:=id hx.2.2.1
  obtain⟨a2,c2,e2,_⟩:=id hx.2.2.2
  have x1:x.cells[1]? = some (.slice a1 x.f.shapes.length c1):=by rw[← e1];rfl
  have x2:x.cells[2]? = some (.slice a2 x.f.slots.length c2):=by rw[← e2];rfl
  have x4:x.cells[4]? = some (.int .i64 x.f.map):=rfl
  have x5:x.cells[5]? = some (.int .i64 x.f.code):=rfl
  have x6:x.cells[6]? = some (.int .i64 x.f.digit):=rfl
  rw[e1]at hb1
  rw[e2]at hb2 qo
  have hr:Qo6 x.f=[x.f.shapes.length==x.f.slots.length,QnY x.f,QqJ x.f.slots,QdI x.f,!decide (0≤QB x.f.slots 4)||((QxZ x.f.code==0)&&!decide (0≤QB x.f.slots 1)&&!decide (0≤QB x.f.slots 2)&&!decide (0≤x.f.digit)),!decide (0≤QB x.f.slots 1)||!decide (0≤x.f.digit),!decide (0≤QB x.f.slots 2)||decide (0≤QB x.f.slots 1)||decide (0≤x.f.digit),decide (0≤QB x.f.slots 2)||(!decide (0≤QB x.f.slots 1)&&!decide (0≤x.f.digit)),!(x.f.map==0)||!Qo4 x.f.code]:=rfl
  rw[hr]
  clear hr
  have hxx:∀b,Ext H (H.push b):=fun b=>(Ext.refl H).push _
  simp only[QeO,ec,QH,Wm,QBD,simprocAttr]
  have hx0:Ext H (H.push (.cells x.cells Qc false)):=(Ext.refl H).push _
  have hg0:(H.push (.cells x.cells Qc false)).get H.next=some (.cells x.cells Qc false):=by rw[Qa.get_push,if_pos rfl]
  have hw0:=hw.push (.cells x.cells Qc false)
  have hb0:H.next<(H.push (.cells x.cells Qc false)).next:=Nat.lt_succ_self _
  generalize H.push (.cells x.cells Qc false)=H0 at hx0 hg0 hw0 hb0
  -- each call leaves the box where it is
  have step:∀ (H1:Qa) (m:Nat),Ext H H1→H1.Wf→H1.get H.next=some (.cells x.cells Qc false)→H.next<H1.next→H1.next≤m→Ext H (H1.up m)∧(H1.up m).get H.next=some (.cells x.cells Qc false)∧H.next<(H1.up m).next∧EqB H1 (H1.up m):=fun H1 m h1 h2 h3 h4 h5=>⟨h1.up h5,by rw[Qa.get_up];exact h3,by simp only[Qa.next_up];omega,((Ext.refl H1).up h5).eqB⟩
  have hb0':=hb0
  refine⟨⟨Nat.lt_succ_self _,Nat.lt_succ_self _⟩,(q1 _ hx0).thenW ?_⟩
  rintro _ _ hn1 hw1 ⟨rfl,m1,rfl⟩
  simp only[Qa.next_up]at hn1
  obtain⟨hx1,hg1,hb1',he1⟩:=step _ m1 hx0 hw0 hg0 hb0' hn1
  generalize Qa.up _ m1=H1 at hw1 hx1 hg1 hb1' he1
  simp only[QBD,simprocAttr,hg1,ec,QH,Wm,x1,x2,x4,x5,x6]
  refine⟨he1,hb _ hx1.next,hb1',(qm _ hx1).thenW ?_⟩
  rintro _ _ hn2 hw2 ⟨rfl,m2,rfl⟩
  simp only[Qa.next_up]at hn2
  obtain⟨hx2,hg2,hb2',he2⟩:=step _ m2 hx1 hw1 hg1 hb1' hn2
  generalize Qa.up _ m2=H2 at hw2 hx2 hg2 hb2' he2
  simp only[QBD,simprocAttr,hg2,ec,QH,Wm,x1,x2,x4,x5,x6]
  refine⟨he2,hb _ hx2.next,(q4 _ hx2).thenW ?_⟩
  rintro _ _ hn3 hw3 ⟨rfl,m3,rfl⟩
  simp only[Qa.next_up]at hn3
  obtain⟨hx3,hg3,hb3',he3⟩:=step _ m3 hx2 hw2 hg2 hb2' hn3
  generalize Qa.up _ m3=H3 at hw3 hx3 hg3 hb3' he3
  simp only[QBD,simprocAttr,hg3,ec,QH,Wm,x1,x2,x4,x5,x6]
  refine⟨hb1 _ hx3.next,hb2 _ hx3.next,⟨hb3',hb3',hb3'⟩,(qp _ hx3).thenW ?_⟩
  rintro _ _ hn4 hw4 ⟨rfl,m4,rfl⟩
  simp only[Qa.next_up]at hn4
  obtain⟨hx4,hg4,hb4',he4⟩:=step _ m4 hx3 hw3 hg3 hb3' hn4
  generalize Qa.up _ m4=H4 at hw4 hx4 hg4 hb4' he4
  simp only[QBD,simprocAttr,hg4,ec,QH,Wm,x1,x2,x4,x5,x6]
  refine⟨he4,hb2 _ hx4.next,⟨hb4',hb4'⟩,(qo _ hx4).thenW ?_⟩
  rintro _ _ _ _ ⟨rfl,rfl⟩
  simp only[QBD,simprocAttr,hg4,ec,QH,Wm,x1,x2,x4,x5,x6]
  refine⟨(Ext.refl _).eqB,hb _ hx4.next,hb4',(qc _ hx4).thenW ?_⟩
  rintro _ _ hn5 hw5 ⟨rfl,m5,rfl⟩
  simp only[Qa.next_up]at hn5
  obtain⟨hx5,hg5,hb5',he5⟩:=step _ m5 hx4 hw4 hg4 hb4' hn5
  generalize Qa.up _ m5=H5 at hw5 hx5 hg5 hb5' he5
  simp only[QBD,simprocAttr,hg5,ec,QH,Wm,x1,x2,x4,x5,x6]
  refine⟨he5,?_⟩
  have h7:IntKind.i64.wrap (BitVec.ofInt IntKind.i64.bits x.f.code &&& BitVec.ofInt IntKind.i64.bits 7).toNat=QxZ x.f.code:=rfl
  have e0:((x.f.shapes.length:Int)==(x.f.slots.length:Int))=(x.f.shapes.length==x.f.slots.length):=by
    rw[Bool.eq_iff_iff,beq_iff_eq,beq_iff_eq];omega
  generalize decide (0≤QB x.f.slots 1)=r
  generalize decide (0≤QB x.f.slots 2)=m
  generalize decide (0≤QB x.f.slots 4)=c
  generalize decide (0≤x.f.digit)=d
  cases z0:(QxZ x.f.code==0)<;>cases p0:(x.f.map==0)
  all_goals cases c<;>cases r<;>cases m<;>cases d
  all_goals simp only[QBD,simprocAttr,hg5,x4,x5,h7,z0,p0,e0,QdC]
  all_goals refine⟨rfl,?_⟩
  all_goals first
    | (refine(qt _).thenW ?_
       rintro _ _ _ _ ⟨rfl,rfl⟩
       simp only[QBD,simprocAttr,QdC]
       refine⟨fun _ _=>rfl,?_⟩
       exact .mk (hx5.push _).next ⟨_,rfl,hx5.push _,by rw[Qa.get_push,if_pos rfl];simp⟩)
    | exact .mk (hx5.push _).next ⟨_,rfl,hx5.push _,by rw[Qa.get_push,if_pos rfl];simp⟩
theorem Qwo (l:List Bool) (i:Nat) (h:i<l.length):(l.map Value.bool)[i]? = some (.bool (l.getD i false)):=by
 simp[List.getD,List.getElem?_eq_getElem h]
def Qjt (f:Fm):Int:=
 if opV f.op=false then 6
 else if(decide (4<f.shapes.length)||decide (4<f.slots.length))=true then 3
 else if(decide (f.pre<0)||decide (5<f.pre)||decide (f.map<0)||decide (3<f.map))=true then 5
 else if(decide (f.code<0)||decide (255<f.code)||decide (f.digit < -1)||decide (7<f.digit))=true then 5
 else if((List.range 9).all fun i=>(Qo6 f).getD i false)=true then 0 else 2
theorem Qnm (x:Lf) (H:Qa) (hx:x.At H) (hf:x.Fr 0):Qe prog Qbb [.agg x.cells.toArray] H fun u H'=>u=.int .i64 (Qjt x.f)∧∃m,H'=H.up m:=by
 refine Qmg fun hw=>?_
 have ec:(Value.agg x.cells.toArray).cells.toList=x.cells:=rfl
 have hx0:Ext H (H.push (.cells x.cells Qc false)):=(Ext.refl H).push _
 have hg0:(H.push (.cells x.cells Qc false)).get H.next=some (.cells x.cells Qc false):=by rw[Qa.get_push,if_pos rfl]
 have hw0:=hw.push (.cells x.cells Qc false)
 obtain⟨a1,c1,e1,_⟩:=id hx.2.2.1
 obtain⟨a2,c2,e2,_⟩:=id hx.2.2.2
 have x0:x.cells[0]? = some (.int .i64 x.f.op):=rfl
 have x1:x.cells[1]? = some (.slice a1 x.f.shapes.length c1):=by rw[← e1];rfl
 have x2:x.cells[2]? = some (.slice a2 x.f.slots.length c2):=by rw[← e2];rfl
 have x3:x.cells[3]? = some (.int .i64 x.f.pre):=rfl
 have x4:x.cells[4]? = some (.int .i64 x.f.map):=rfl
 have x5:x.cells[5]? = some (.int .i64 x.f.code):=rfl
 have x6:x.cells[6]? = some (.int .i64 x.f.digit):=rfl
 have qv:=QAw x.f.op
 have qr:=fun H' (he:Ext H H')=>Qnl x H' (hx.ext hw he) hf
 have hl9:(Qo6 x.f).length=9:=rfl
 have l1:decide ((4:Int)<x.f.shapes.length)=decide (4<x.f.shapes.length):=by rw[decide_eq_decide];omega
 have l2:decide ((4:Int)<x.f.slots.length)=decide (4<x.f.slots.length):=by rw[decide_eq_decide];omega
 have hs:Qjt x.f=if opV x.f.op=false then 6
  else if(decide (4<x.f.shapes.length)||decide (4<x.f.slots.length))=true then 3
  else if(decide (x.f.pre<0)||decide (5<x.f.pre)||decide (x.f.map<0)||decide (3<x.f.map))=true then 5
  else if(decide (x.f.code<0)||decide (255<x.f.code)||decide (x.f.digit < -1)||decide (7<x.f.digit))=true then 5
  else if((List.range 9).all fun i=>(Qo6 x.f).getD i false)=true then 0 else 2:=rfl
 rw[hs]
 clear hs hx hf e1 e2
 generalize Qo6 x.f=rl at *
 generalize opV x.f.op=ov at *
 generalize hH0:H.push (.cells x.cells Qc false)=H0 at hx0 hg0 hw0
 obtain⟨r,hr⟩:∃r,r=(if ov=false then(6:Int)
  else if(decide (4<x.f.shapes.length)||decide (4<x.f.slots.length))=true then 3
  else if(decide (x.f.pre<0)||decide (5<x.f.pre)||decide (x.f.map<0)||decide (3<x.f.map))=true then 5
  else if(decide (x.f.code<0)||decide (255<x.f.code)||decide (x.f.digit < -1)||decide (7<x.f.digit))=true then 5
  else if((List.range 9).all fun i=>rl.getD i false)=true then 0 else 2):=⟨_,rfl⟩
 rw[← hr]
 have P3:∀A,A 1=.pointer (some ⟨H.next,0,none⟩)→r=(if((List.range 9).all fun i=>rl.getD i false)=true then 0 else 2)→Qp prog KB ⟨Rt prog Qf3 H fun u H'=>u=.int .i64 r∧∃m,H'=H.up m,YH⟩ (Rt prog Qf3 H fun u H'=>u=.int .i64 r∧∃m,H'=H.up m) A H0:=by
  intro A r1 hr'
  simp only[KB,sxA,sxB,Nat.reduceBEq,Nat.reduceEqDiff,reduceCtorEq,mxA,mxB,Nat.reduceAdd,reduceIte,Nat.reduceLeDiff,splice,r1,hg0,QH,Wm]
  refine(qr _ hx0).thenW ?_
  rintro _ H1 hn1 hw1 ⟨b,rfl,hx1,hb1⟩
  simp only[sxA,sxB,Nat.reduceBEq,Nat.reduceEqDiff,reduceCtorEq,mxA,mxB,Nat.reduceAdd,reduceIte,Nat.reduceLeDiff,splice]
  refine Qy (fun m A' H'=>∃i:Nat,i≤9∧m=9 - i∧H'=H1∧(∀j,j<i→rl.getD j false=true)∧A' 60=.slice (some ⟨b,0,none⟩) 9 9∧A' 61=.int .i64 ((9:Nat):Int)∧A' 62=.int .i64 i) 9 ?_ ?_
  ·refine⟨0,Nat.zero_le _,by omega,rfl,fun j h=>by omega,?_,?_,?_⟩
   all_goals simp only[uxA,uxB,Nat.reduceBEq]
   all_goals rfl
  ·rintro m A' H' ⟨i,hi,rfl,hEq,hall,r60,r61,r62⟩
   subst hEq
   simp only[Qci,Qch,sxA,sxB,Nat.reduceBEq,Nat.reduceEqDiff,reduceCtorEq,mxA,mxB,Nat.reduceAdd,reduceIte,Nat.reduceLeDiff,splice,r61,r62]
   refine Qg (fun h2=>?_) (fun h2=>?_)
   ·have h2:i<9:=by have:=of_decide_eq_true h2;omega
    have c1:(0:Int)≤i∧(i:Int)<((9:Nat):Int):=by omega
    have c3:(i:Int).toNat=i:=by omega
    have ei:IntKind.i64.wrap ((i:Int)+1)=((i+1:Nat):Int):=by rw[w64 (by unfold I64;omega)];omega
    have g1:=Qwo rl i (by omega)
    simp only[sxA,sxB,Nat.reduceBEq,Nat.reduceEqDiff,reduceCtorEq,mxA,mxB,Nat.reduceAdd,reduceIte,Nat.reduceLeDiff,splice,r60,r62,c1,c3,hb1,g1]
    cases q:rl.getD i false with
    | false=>
     simp only[sxA,sxB,Nat.reduceBEq,Nat.reduceEqDiff,reduceCtorEq,mxA,mxB,Nat.reduceAdd,reduceIte,Nat.reduceLeDiff,splice,Ym]
     refine .ext hw (hx0.trans hx1) ⟨?_,_,rfl⟩
     rw[hr',ZN h2 q]
     rfl
    | true=>
     simp only[sxA,sxB,Nat.reduceBEq,Nat.reduceEqDiff,reduceCtorEq,mxA,mxB,Nat.reduceAdd,reduceIte,Nat.reduceLeDiff,splice,r62,ei]
     refine⟨9 - (i+1),by omega,i+1,by omega,rfl,rfl,fun j hj=>?_,?_,?_,?_⟩
     ·rcases Nat.lt_or_ge j i with h | h
      ·exact hall j h
      ·rw[show j=i by omega];exact q
     all_goals simp only[uxA,uxB,Nat.reduceBEq,r60,r61]
   ·have h2:i=9:=by have:=of_decide_eq_false h2;omega
    subst h2
    simp only[sxA,sxB,Nat.reduceBEq,Nat.reduceEqDiff,reduceCtorEq,mxA,mxB,Nat.reduceAdd,reduceIte,Nat.reduceLeDiff,splice,Ym]
    refine .ext hw (hx0.trans hx1) ⟨?_,_,rfl⟩
    rw[hr',JH hall]
    rfl
 simp only[QeN,ec,sxA,sxB,Nat.reduceBEq,Nat.reduceEqDiff,reduceCtorEq,mxA,mxB,Nat.reduceAdd,reduceIte,Nat.reduceLeDiff,splice,hH0,hg0,x0]
 refine(qv _).thenW ?_
 rintro _ _ _ _ ⟨rfl,rfl⟩
 simp only[Qcl,Qck,Qcj,sxA,sxB,Nat.reduceBEq,Nat.reduceEqDiff,reduceCtorEq,mxA,mxB,Nat.reduceAdd,reduceIte,Nat.reduceLeDiff,splice,Ym,hg0,x1,x2,x3,x4,x5,x6,l1,l2]
 repeat' (first
   | (refine Qv (fun h=>?_) (fun h=>?_)<;>(try simp only[Bool.not_eq_true',Bool.not_eq_false']at h)<;>simp only[sxA,sxB,Nat.reduceBEq,Nat.reduceEqDiff,reduceCtorEq,mxA,mxB,Nat.reduceAdd,reduceIte,Nat.reduceLeDiff,splice,Ym,hg0,x1,x2,x3,x4,x5,x6,l1,l2,h])
   | (refine Qg (fun h=>?_) (fun h=>?_)<;>(try simp only[Bool.not_eq_true',Bool.not_eq_false']at h)<;>simp only[sxA,sxB,Nat.reduceBEq,Nat.reduceEqDiff,reduceCtorEq,mxA,mxB,Nat.reduceAdd,reduceIte,Nat.reduceLeDiff,splice,Ym,hg0,x1,x2,x3,x4,x5,x6,l1,l2,h])
   | fail)
 all_goals first
  | (refine P3 _ (by simp only[uxA,uxB,Nat.reduceBEq]) ?_;rw[hr];clear hr P3 qr qv hg0 hw0 hx0 hH0 x0 x1 x2 x3 x4 x5 x6 l1 l2 hl9 ec;simp_all<;>(repeat rw[if_neg (by omega)])<;>(try (rw[if_pos (by omega)])))
  | (refine .ext hw hx0 ⟨?_,_,rfl⟩;rw[hr];clear hr P3 qr qv hg0 hw0 hx0 hH0 x0 x1 x2 x3 x4 x5 x6 l1 l2 hl9 ec;simp_all<;>(repeat rw[if_neg (by omega)])<;>(try (rw[if_pos (by omega)])))
theorem QnZ {f:Fm} (h:Qjt f=0):f.shapes.length≤4∧f.slots.length≤4∧(0≤f.pre∧f.pre≤5)∧(0≤f.map∧f.map≤3)∧(0≤f.code∧f.code≤255)∧(-1≤f.digit∧f.digit≤7)∧(List.range 9).all (fun i=>(Qo6 f).getD i false)=true:=by
 unfold Qjt at h
 split at h
 ·simp at h
 ·split at h
  ·simp at h
  ·split at h
   ·simp at h
   ·split at h
    ·simp at h
    ·split at h
     ·rename_i h1 h2 h3 h4 h5
      simp only[Bool.or_eq_true,decide_eq_true_eq,not_or]at h2 h3 h4
      exact⟨by omega,by omega,by omega,by omega,by omega,by omega,h5⟩
     ·simp at h
theorem QkZ {f:Fm} (h:Qjt f=0) (i:Nat) (hi:i<9):(Qo6 f).getD i false=true:=List.all_eq_true.1 (QnZ h).2.2.2.2.2.2 i (List.mem_range.2 hi)
theorem Qsy {sh sl:Int} (h:QiA sh sl=true):1≤sh∧sh≤34:=by
 unfold QiA at h
 split at h
 ·simp only[Bool.and_eq_true,decide_eq_true_eq]at h;omega
 ·split at h
  ·simp only[Bool.and_eq_true,decide_eq_true_eq]at h;omega
  ·split at h
   ·simp only[Bool.and_eq_true,decide_eq_true_eq]at h;omega
   ·split at h
    ·simp only[Bool.or_eq_true,Bool.and_eq_true,decide_eq_true_eq,beq_iff_eq]at h;omega
    ·exact absurd h (by decide)
theorem Qo7 {f:Fm} (h:Qjt f=0):f.shapes.length=f.slots.length:=by
 have:=QkZ h 0 (by omega)
 simpa[Qo6] using this
theorem QuS {f:Fm} (h:Qjt f=0) (i:Nat) (hi:i<f.shapes.length):1≤f.shapes.getD i 0∧f.shapes.getD i 0≤34:=by
 have h3:QdI f=true:=QkZ h 3 (by omega)
 unfold QdI at h3
 rw[Bool.and_eq_true]at h3
 have:=List.all_eq_true.1 h3.2 i (List.mem_range.2 (by have:=Qo7 h;omega))
 exact Qsy this
theorem QtH {f:Fm} (h:Qjt f=0):FOk f:=by
 obtain⟨_,_,hp,hm,_,_,_⟩:=QnZ h
 have h1:QnY f=true:=QkZ h 1 (by omega)
 unfold QnY at h1
 refine⟨hp,hm,fun hv=>?_,fun hv=>?_⟩
 ·rw[hv]at h1
  simp only[Bool.not_false,cond_true,Bool.and_eq_true,Bool.or_eq_true,beq_iff_eq]at h1
  exact h1.1.1.1
 ·rw[hv]at h1
  simp only[Bool.not_true,cond_false,Bool.and_eq_true,Bool.or_eq_true,beq_iff_eq,Bool.not_eq_true',beq_eq_false_iff_ne,ne_eq,decide_eq_true_eq]at h1
  exact⟨h1.1.1.1.2,by rcases h1.1.1.1.1 with((a | a) | a) | a<;>simp[a],⟨h1.1.1.2,h1.1.2⟩,h1.2⟩
end Go.Proofs.YtgepgbbjfhggfaaGreatDoor.code
