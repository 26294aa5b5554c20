/- shape.Check, of any form. -/
import Derived.Test.YtgepgbbjfhggfaaGreatDoorLibA
import Derived.Test.YtgepgbbjfhggfaaGreatDoorC4Shape
import Derived.Test.YtgepgbbjfhggfaaGreatDoorLibB
set_option linter.unusedVariables false
set_option linter.unusedSimpArgs false
set_option maxRecDepth 100000
set_option maxHeartbeats 2000000
set_option maxHeartbeats 4000000
namespace Go.Proofs.YtgepgbbjfhggfaaGreatDoor.code
open Go.Ab
def opV (o:Int):Bool:=decide (1<=o)&&decide (o<=322)
theorem QDt (o:Int) (H:Qa):Qf prog Y0 [.int .i64 o] H λu H'=>u=.bool (opV o)∧H'=H:=by
 refine Qhf λhw=>?_;simp(disch:=(first | omega | (repeat (first | rw[Qa.next_push] | rw[Qa.next_set] | rw[Qa.next_up]));try omega)) only[QcH,sxA,sxB,Nat.reduceBEq,Nat.reduceEqDiff,reduceCtorEq,mxD,mxB,Nat.reduceAdd,reduceIte,Nat.reduceLeDiff,splice,ZN]
 repeat' (first
   | (refine QG (λh=>?_) (λh=>?_)<;>(try simp only[Bool.not_eq_true',Bool.not_eq_false']at h)<;>simp(disch:=(first | omega | (repeat (first | rw[Qa.next_push] | rw[Qa.next_set] | rw[Qa.next_up]));try omega)) only[sxA,sxB,Nat.reduceBEq,Nat.reduceEqDiff,reduceCtorEq,mxD,mxB,Nat.reduceAdd,reduceIte,Nat.reduceLeDiff,splice,ZN,h])
   | fail)
 all_goals refine .mk (Nat.le_refl _) ⟨?_,rfl⟩
 all_goals (simp_all [opV]<;>omega)
def Qj2 (sh sl:Int):Bool:=
 if sl=6 then decide (28<=sh)&&decide (sh<=33) else if sl=5 then decide (20<=sh)&&decide (sh<=27)
 else if sl=1∨sl=3∨sl=4∨sl=7 then decide (1<=sh)&&decide (sh<=6) else if sl=2 then(decide (1<=sh)&&decide (sh<=19))||(sh==34) else false
theorem QqZ (sh sl:Int) (H:Qa):Qf prog Qd8 [.int .i64 sh,.int .i64 sl] H λu H'=>u=.bool (Qj2 sh sl)∧H'=H:=by
 refine Qo5 λhw=>?_;simp(disch:=(first | omega | (repeat (first | rw[Qa.next_push] | rw[Qa.next_set] | rw[Qa.next_up]));try omega)) only[QhD,Qe0,Qe1,Qe2,Qe3,Qe4,sxA,sxB,Nat.reduceBEq,Nat.reduceEqDiff,reduceCtorEq,mxD,mxB,Nat.reduceAdd,reduceIte,Nat.reduceLeDiff,splice,Qbl]
 repeat' (first
   | (refine QG (λh=>?_) (λh=>?_)<;>(try simp only[Bool.not_eq_true',Bool.not_eq_false']at h)<;>simp(disch:=(first | omega | (repeat (first | rw[Qa.next_push] | rw[Qa.next_set] | rw[Qa.next_up]));try omega)) only[sxA,sxB,Nat.reduceBEq,Nat.reduceEqDiff,reduceCtorEq,mxD,mxB,Nat.reduceAdd,reduceIte,Nat.reduceLeDiff,splice,Qbl,h])
   | (refine Qh (λh=>?_) (λh=>?_)<;>(try simp only[Bool.not_eq_true',Bool.not_eq_false']at h)<;>simp(disch:=(first | omega | (repeat (first | rw[Qa.next_push] | rw[Qa.next_set] | rw[Qa.next_up]));try omega)) only[sxA,sxB,Nat.reduceBEq,Nat.reduceEqDiff,reduceCtorEq,mxD,mxB,Nat.reduceAdd,reduceIte,Nat.reduceLeDiff,splice,Qbl,h])
   | fail)
 all_goals refine .mk (Nat.le_refl _) ⟨?_,rfl⟩
 all_goals (simp only[beq_iff_eq,decide_eq_true_eq,decide_eq_false_iff_not,beq_eq_false_iff_ne,ne_eq]at *)
 all_goals (unfold Qj2;simp_all<;>omega)
def Qq0 (c:Int):Bool:=(decide (64<=c)&&decide (c<=79))||(c==15)||(c==102)||(c==196)||(c==197)||(c==242)||(c==243)
theorem Qo6 (c:Int) (H:Qa):Qf prog QcF [.int .i64 c] H λu H'=>u=.bool (Qq0 c)∧H'=H:=by
 refine Qn1 λhw=>?_;simp(disch:=(first | omega | (repeat (first | rw[Qa.next_push] | rw[Qa.next_set] | rw[Qa.next_up]));try omega)) only[Qgj,sxA,sxB,Nat.reduceBEq,Nat.reduceEqDiff,reduceCtorEq,mxD,mxB,Nat.reduceAdd,reduceIte,Nat.reduceLeDiff,splice,V0]
 repeat' (first
   | (refine QG (λh=>?_) (λh=>?_)<;>(try simp only[Bool.not_eq_true',Bool.not_eq_false']at h)<;>simp(disch:=(first | omega | (repeat (first | rw[Qa.next_push] | rw[Qa.next_set] | rw[Qa.next_up]));try omega)) only[sxA,sxB,Nat.reduceBEq,Nat.reduceEqDiff,reduceCtorEq,mxD,mxB,Nat.reduceAdd,reduceIte,Nat.reduceLeDiff,splice,V0,h])
   | (refine Qh (λh=>?_) (λh=>?_)<;>(try simp only[Bool.not_eq_true',Bool.not_eq_false']at h)<;>simp(disch:=(first | omega | (repeat (first | rw[Qa.next_push] | rw[Qa.next_set] | rw[Qa.next_up]));try omega)) only[sxA,sxB,Nat.reduceBEq,Nat.reduceEqDiff,reduceCtorEq,mxD,mxB,Nat.reduceAdd,reduceIte,Nat.reduceLeDiff,splice,V0,h])
   | fail)
 all_goals refine .mk (Nat.le_refl _) ⟨?_,rfl⟩
 all_goals (simp only[Qq0];simp_all<;>omega)
def QvL (H:Qa) (v:Value) (l:List Int):Prop:=∃a cap,v=.slice a l.length cap∧(0<l.length->∃b e ro cs,a=some ⟨b,0,none⟩∧H.get b=some (.cells cs e ro)∧∀j,j<l.length->cs[j]? = some (.int .i64 (l.getD j 0)))
theorem QsG (va:Value) (xs:List Int) (x:Int) (H:Qa) (ha:QvL H va xs) (hl:xs.length<=1000):Qf prog WC [va,.int .i64 x] H λu H'=>u=.int .i64 (QE xs x)∧H'=H:=by
 refine J9 λhw=>?_;obtain⟨aa,acap,rfl,hsa⟩:=ha;simp only[Yy,sxA,sxB,Nat.reduceBEq,Nat.reduceEqDiff,reduceCtorEq,mxA,mxB,Nat.reduceAdd,reduceIte,Nat.reduceLeDiff,splice];refine Qu (λm A' H'=>∃i:Nat,i<=xs.length∧m=xs.length - i∧H'=H∧(∀j,j<i->¬x=xs.getD j 0)∧A' 0=.slice aa xs.length acap∧A' 1=.int .i64 x∧A' 7=.int .i64 (xs.length:Int)∧A' 8=.int .i64 i) xs.length ?_ ?_
 ·refine⟨0,Nat.zero_le _,by omega,rfl,λj h=>by omega,?_,?_,?_,?_⟩
  all_goals simp only[uxA,uxB,Nat.reduceBEq]
  rfl
 ·rintro m A' H' ⟨i,hi,rfl,hEq,hall,r0,r1,r7,r8⟩;subst hEq;simp only[sxA,sxB,Nat.reduceBEq,Nat.reduceEqDiff,reduceCtorEq,mxA,mxB,Nat.reduceAdd,reduceIte,Nat.reduceLeDiff,splice,r7,r8];refine Qh (λh2=>?_) (λh2=>?_)
  ·have h2:i<xs.length:=by have:=of_decide_eq_true h2;omega
   obtain⟨b1,e1,ro1,cs,rfl,hb1,hcs⟩:=hsa (by omega);have c1:(0:Int)<=i∧(i:Int)<xs.length:=by omega
   have c3:(i:Int).toNat=i:=by omega
   have ei:IntKind.i64.wrap ((i:Int)+1)=((i+1:Nat):Int):=by rw[w64 (by unfold I64;omega)];omega
   have g1:=hcs i h2;simp only[sxA,sxB,Nat.reduceBEq,Nat.reduceEqDiff,reduceCtorEq,mxA,mxB,Nat.reduceAdd,reduceIte,Nat.reduceLeDiff,splice,r0,r1,r8,c1,c3,hb1,g1];refine Qh (λh3=>?_) (λh3=>?_)
   ·have h3:x=xs.getD i 0:=by simpa using h3
    simp only[sxA,sxB,Nat.reduceBEq,Nat.reduceEqDiff,reduceCtorEq,mxA,mxB,Nat.reduceAdd,reduceIte,Nat.reduceLeDiff,splice,r8,W8];exact .mk (Nat.le_refl _) ⟨by rw[QE,QnQ x xs 0 i hall h2 h3,Nat.zero_add],rfl⟩
   ·have h3:¬x=xs.getD i 0:=by simpa using h3
    simp only[sxA,sxB,Nat.reduceBEq,Nat.reduceEqDiff,reduceCtorEq,mxA,mxB,Nat.reduceAdd,reduceIte,Nat.reduceLeDiff,splice,r8,ei];refine⟨xs.length - (i+1),by omega,i+1,by omega,rfl,rfl,λj hj=>?_,?_,?_,?_,?_⟩
    ·rcases Nat.lt_or_ge j i with h | h
     ·exact hall j h
     ·rw[show j=i by omega];exact h3
    all_goals simp only[uxA,uxB,Nat.reduceBEq,r0,r1,r7]
  ·have h2:i=xs.length:=by have:=of_decide_eq_false h2;omega
   subst h2;simp only[sxA,sxB,Nat.reduceBEq,Nat.reduceEqDiff,reduceCtorEq,mxA,mxB,Nat.reduceAdd,reduceIte,Nat.reduceLeDiff,splice,W8];exact .mk (Nat.le_refl _) ⟨by rw[QE,QnR x xs 0 hall],rfl⟩
theorem Qn2 (va:Value) (xs:List Int) (x:Int) (H:Qa) (ha:QvL H va xs) (hl:xs.length<=1000):Qf prog QX [va,.int .i64 x] H λu H'=>u=.bool (decide (0<=QE xs x))∧H'=H:=by
 refine Qbk λhw=>?_;simp only[ZY,sxA,sxB,Nat.reduceBEq,Nat.reduceEqDiff,reduceCtorEq,mxA,mxB,Nat.reduceAdd,reduceIte,Nat.reduceLeDiff,splice];refine(QsG va xs x H ha hl).thenW ?_;rintro _ _ _ _ ⟨rfl,rfl⟩;simp only[sxA,sxB,Nat.reduceBEq,Nat.reduceEqDiff,reduceCtorEq,mxA,mxB,Nat.reduceAdd,reduceIte,Nat.reduceLeDiff,splice,Qat];exact .mk (Nat.le_refl _) ⟨rfl,rfl⟩
theorem QAo {b len cap i:Nat} (hc:QsF len cap) (hi:i<=len):Yp 1 (.slice (some ⟨b,0,none⟩) len cap) none (some (i:Int)) none=some (.slice (some ⟨b,0,none⟩) i cap):=by
 unfold Yp;rcases hc with rfl | ⟨h1,h2⟩
 ·simp only[Option.getD_none,Option.getD_some];rw[if_pos (Nat.le_add_right _ _),if_pos ⟨Int.le_refl _,by omega,by omega,trivial⟩];simp
 ·simp only[Option.getD_none,Option.getD_some];rw[if_neg (by omega),if_pos (by omega)];simp
def Qn3 (l:List Int) (k:Nat):Bool:=(l.getD k 0==6)||!(decide (0<=QE (l.take k) (l.getD k 0)))
def QsH (l:List Int):Bool:=(List.range l.length).all (Qn3 l)
theorem KQ {n:Nat} {p:Nat->Bool} (h:∀j,j<n->p j=true):(List.range n).all p=true:=by
 rw[List.all_eq_true];intro j hj;exact h j (List.mem_range.1 hj)
theorem JQ {n i:Nat} {p:Nat->Bool} (hi:i<n) (h:p i=false):(List.range n).all p=false:=by
 rw[List.all_eq_false];exact⟨i,List.mem_range.2 hi,by rw[h];decide⟩
theorem Qq1 (va:Value) (xs:List Int) (H:Qa) (ha:QaQ H va xs.length (ints xs)) (hl:xs.length<=1000) (hc:∀a n c,va=.slice (some a) n c->QsF n c):Qf prog Qd5 [va] H λu H'=>u=.bool (QsH xs)∧H'=H:=by
 refine Qo4 λhw=>?_;obtain⟨aa,acap,rfl,hsa⟩:=ha;simp only[QhC,sxA,sxB,Nat.reduceBEq,Nat.reduceEqDiff,reduceCtorEq,mxA,mxB,Nat.reduceAdd,reduceIte,Nat.reduceLeDiff,splice];refine Qu (λm A' H'=>∃i:Nat,i<=xs.length∧m=xs.length - i∧H'=H∧(∀j,j<i->Qn3 xs j=true)∧A' 0=.slice aa xs.length acap∧A' 5=.slice aa xs.length acap∧A' 6=.int .i64 (xs.length:Int)∧A' 7=.int .i64 i) xs.length ?_ ?_
 ·refine⟨0,Nat.zero_le _,by omega,rfl,λj h=>by omega,?_,?_,?_,?_⟩
  all_goals simp only[uxA,uxB,Nat.reduceBEq]
  rfl
 ·rintro m A' H' ⟨i,hi,rfl,hEq,hall,r0,r5,r6,r7⟩;subst hEq;simp only[sxA,sxB,Nat.reduceBEq,Nat.reduceEqDiff,reduceCtorEq,mxA,mxB,Nat.reduceAdd,reduceIte,Nat.reduceLeDiff,splice,r6,r7];refine Qh (λh2=>?_) (λh2=>?_)
  ·have h2:i<xs.length:=by have:=of_decide_eq_true h2;omega
   obtain⟨b1,e1,ro1,rfl,hb1⟩:=hsa (by omega);have c1:(0:Int)<=i∧(i:Int)<xs.length:=by omega
   have c3:(i:Int).toNat=i:=by omega
   have ei:IntKind.i64.wrap ((i:Int)+1)=((i+1:Nat):Int):=by rw[w64 (by unfold I64;omega)];omega
   have g1:=QaP (l:=xs) (i:=i) (by omega);have next:Qn3 xs i=true->∀j,j<i+1->Qn3 xs j=true:=λh j hj=>by
    rcases Nat.lt_or_ge j i with h' | h'
    ·exact hall j h'
    ·rw[show j=i by omega];exact h
   have oa:Qn3 xs i=((xs.getD i 0==6)||!(decide (0<=QE (xs.take i) (xs.getD i 0)))):=rfl;simp only[sxA,sxB,Nat.reduceBEq,Nat.reduceEqDiff,reduceCtorEq,mxA,mxB,Nat.reduceAdd,reduceIte,Nat.reduceLeDiff,splice,r0,r5,r7,c1,c3,hb1,g1];cases q6:xs.getD i 0==6 with
   | true=>
    rw[q6,Bool.true_or]at oa;simp only[sxA,sxB,Nat.reduceBEq,Nat.reduceEqDiff,reduceCtorEq,mxA,mxB,Nat.reduceAdd,reduceIte,Nat.reduceLeDiff,splice,r7,ei];refine⟨xs.length - (i+1),by omega,i+1,by omega,rfl,rfl,next oa,?_,?_,?_,?_⟩
    all_goals simp only[uxA,uxB,Nat.reduceBEq,r0,r5,r6]
   | false=>
    rw[q6,Bool.false_or]at oa;have il:(xs.take i).length=i:=by rw[List.length_take];omega
    have hsl:QvL H' (.slice (some ⟨b1,0,none⟩) i acap) (xs.take i):=⟨some ⟨b1,0,none⟩,acap,by rw[il],λ_=>⟨b1,e1,ro1,_,rfl,hb1,λj hj=>by
     rw[il]at hj;rw[QaP (by omega)];simp[List.getD,List.getElem?_take,hj]⟩⟩
    have asl:=QAo (b:=b1) (hc _ _ _ rfl) (Nat.le_of_lt h2);simp only[sxA,sxB,Nat.reduceBEq,Nat.reduceEqDiff,reduceCtorEq,mxA,mxB,Nat.reduceAdd,reduceIte,Nat.reduceLeDiff,splice,r0,r7,asl];refine(Qn2 _ (xs.take i) (xs.getD i 0) H' hsl (by omega)).thenW ?_;rintro _ _ _ _ ⟨rfl,rfl⟩;simp only[sxA,sxB,Nat.reduceBEq,Nat.reduceEqDiff,reduceCtorEq,mxA,mxB,Nat.reduceAdd,reduceIte,Nat.reduceLeDiff,splice];cases q7:decide (0<=QE (xs.take i) (xs.getD i 0)) with
    | true=>
     rw[q7]at oa;simp only[sxA,sxB,Nat.reduceBEq,Nat.reduceEqDiff,reduceCtorEq,mxA,mxB,Nat.reduceAdd,reduceIte,Nat.reduceLeDiff,splice,Qgi];exact .mk (Nat.le_refl _) ⟨by rw[QsH,JQ h2 oa],rfl⟩
    | false=>
     rw[q7]at oa;simp only[sxA,sxB,Nat.reduceBEq,Nat.reduceEqDiff,reduceCtorEq,mxA,mxB,Nat.reduceAdd,reduceIte,Nat.reduceLeDiff,splice,r7,ei];refine⟨xs.length - (i+1),by omega,i+1,by omega,rfl,rfl,next oa,?_,?_,?_,?_⟩
     all_goals simp only[uxA,uxB,Nat.reduceBEq,r0,r5,r6]
  ·have h2:i=xs.length:=by have:=of_decide_eq_false h2;omega
   subst h2;simp only[sxA,sxB,Nat.reduceBEq,Nat.reduceEqDiff,reduceCtorEq,mxA,mxB,Nat.reduceAdd,reduceIte,Nat.reduceLeDiff,splice,Qgi];exact .mk (Nat.le_refl _) ⟨by rw[QsH,KQ hall],rfl⟩
def Quz (f:Fm) (k:Nat):Bool:=Qj2 (f.shapes.getD k 0) (f.slots.getD k 0)
def Qe5 (f:Fm):Bool:=(f.shapes.length==f.slots.length)&&(List.range f.slots.length).all (Quz f)
theorem Qme (x:Lf) (H:Qa) (hx:x.At H):Qf prog VK [.agg x.cells.toArray] H λu H'=>u=.bool (Qe5 x.f)∧∃m,H'=H.up m:=by
 refine QkZ λhw=>?_;have ec:(Value.agg x.cells.toArray).cells.toList=x.cells:=rfl;have hx0:Ext H (H.push (.cells x.cells Qe false)):=(Ext.refl H).push _;have hg0:(H.push (.cells x.cells Qe false)).get H.next=some (.cells x.cells Qe false):=by rw[Qa.get_push,if_pos rfl]
 have hw0:=hw.push (.cells x.cells Qe false);obtain⟨l1,l2,h1,h2⟩:=hx.ext hw hx0;obtain⟨a1,c1,e1,s1⟩:=h1;obtain⟨a2,c2,e2,s2⟩:=h2;have x1:x.cells[1]? = some (.slice a1 x.f.shapes.length c1):=by rw[<- e1];rfl
 have x2:x.cells[2]? = some (.slice a2 x.f.slots.length c2):=by rw[<- e2];rfl
 simp only[QdH,ec,sxA,sxB,Nat.reduceBEq,Nat.reduceEqDiff,reduceCtorEq,mxA,mxB,Nat.reduceAdd,reduceIte,Nat.reduceLeDiff,splice,x1,x2];generalize hH0:H.push (.cells x.cells Qe false)=H0 at hx0 hg0 hw0 s1 s2;have fin:∀b,b=Qe5 x.f->Ret H (λu H'=>u=.bool (Qe5 x.f)∧∃m,H'=H.up m) (.bool b) H0:=λb hb=>.ext hw hx0 ⟨by rw[hb],_,rfl⟩
 by_cases hne:x.f.shapes.length=x.f.slots.length
 ·have e0:((x.f.shapes.length:Int)==(x.f.slots.length:Int))=true:=by simp[hne]
  simp only[e0,sxA,sxB,Nat.reduceBEq,Nat.reduceEqDiff,reduceCtorEq,mxA,mxB,Nat.reduceAdd,reduceIte,Nat.reduceLeDiff,splice,hg0,x1,x2];refine Qu (λm A' H'=>∃i:Nat,i<=x.f.slots.length∧m=x.f.slots.length - i∧H'=H0∧(∀j,j<i->Quz x.f j=true)∧A' 1=.pointer (some ⟨H.next,0,none⟩)∧A' 13=.slice a2 x.f.slots.length c2∧A' 14=.int .i64 (x.f.slots.length:Int)∧A' 15=.int .i64 i) x.f.slots.length ?_ ?_
  ·refine⟨0,Nat.zero_le _,by omega,rfl,λj h=>by omega,?_,?_,?_,?_⟩
   all_goals simp only[uxA,uxB,Nat.reduceBEq]
   rfl
  ·rintro m A' H' ⟨i,hi,rfl,hEq,hall,r1,r13,r14,r15⟩;subst hEq;simp only[sxA,sxB,Nat.reduceBEq,Nat.reduceEqDiff,reduceCtorEq,mxA,mxB,Nat.reduceAdd,reduceIte,Nat.reduceLeDiff,splice,r14,r15];refine Qh (λh2=>?_) (λh2=>?_)
   ·have h2:i<x.f.slots.length:=by have:=of_decide_eq_true h2;omega
    obtain⟨b1,t1,ro1,rfl,hb1⟩:=s1 (by omega);obtain⟨b2,t2,ro2,rfl,hb2⟩:=s2 (by omega);have d1:(0:Int)<=i∧(i:Int)<x.f.slots.length:=by omega
    have d2:(0:Int)<=i∧(i:Int)<x.f.shapes.length:=by omega
    have c3:(i:Int).toNat=i:=by omega
    have ei:IntKind.i64.wrap ((i:Int)+1)=((i+1:Nat):Int):=by rw[w64 (by unfold I64;omega)];omega
    have g1:=QaP (l:=x.f.shapes) (i:=i) (by omega);have g2:=QaP (l:=x.f.slots) (i:=i) (by omega);simp only[sxA,sxB,Nat.reduceBEq,Nat.reduceEqDiff,reduceCtorEq,mxA,mxB,Nat.reduceAdd,reduceIte,Nat.reduceLeDiff,splice,r1,r13,r15,d1,d2,c3,hb1,hb2,g1,g2,hg0,x1,x2];refine(QqZ _ _ _).thenW ?_;rintro _ _ _ _ ⟨rfl,rfl⟩;have oa:Quz x.f i=Qj2 (x.f.shapes.getD i 0) (x.f.slots.getD i 0):=rfl;simp only[sxA,sxB,Nat.reduceBEq,Nat.reduceEqDiff,reduceCtorEq,mxA,mxB,Nat.reduceAdd,reduceIte,Nat.reduceLeDiff,splice];cases q:Qj2 (x.f.shapes.getD i 0) (x.f.slots.getD i 0) with
    | false=>
     rw[q]at oa;simp only[sxA,sxB,Nat.reduceBEq,Nat.reduceEqDiff,reduceCtorEq,mxA,mxB,Nat.reduceAdd,reduceIte,Nat.reduceLeDiff,splice,KO];exact fin _ (by rw[Qe5,JQ h2 oa,Bool.and_false])
    | true=>
     rw[q]at oa;simp only[sxA,sxB,Nat.reduceBEq,Nat.reduceEqDiff,reduceCtorEq,mxA,mxB,Nat.reduceAdd,reduceIte,Nat.reduceLeDiff,splice,r15,ei];refine⟨x.f.slots.length - (i+1),by omega,i+1,by omega,rfl,rfl,λj hj=>?_,?_,?_,?_,?_⟩
     ·rcases Nat.lt_or_ge j i with h | h
      ·exact hall j h
      ·rw[show j=i by omega];exact oa
     all_goals simp only[uxA,uxB,Nat.reduceBEq,r1,r13,r14]
   ·have h2:i=x.f.slots.length:=by have:=of_decide_eq_false h2;omega
    subst h2;simp only[sxA,sxB,Nat.reduceBEq,Nat.reduceEqDiff,reduceCtorEq,mxA,mxB,Nat.reduceAdd,reduceIte,Nat.reduceLeDiff,splice,KO];exact fin _ (by rw[Qe5,KQ hall,hne];simp)
 ·have e0:((x.f.shapes.length:Int)==(x.f.slots.length:Int))=false:=by simp;omega
  simp only[e0,sxA,sxB,Nat.reduceBEq,Nat.reduceEqDiff,reduceCtorEq,mxA,mxB,Nat.reduceAdd,reduceIte,Nat.reduceLeDiff,splice,KO];exact fin _ (by rw[Qe5];simp[hne])
def QpL (f:Fm):Bool:=bif !f.vex then((f.w==0)||(f.w==1))&&(f.l==0)&&decide (QE f.slots 3<0)&&decide (QE f.slots 7<0) else((f.pre==0)||(f.pre==1)||(f.pre==2)||(f.pre==4))&&(!(f.map==0))&&decide (-1<=f.w)&&decide (f.w<=1)&&((f.l==0)||(f.l==1))
theorem Qk0 (x:Lf) (H:Qa) (hx:x.At H):Qf prog GN [.agg x.cells.toArray] H λu H'=>u=.bool (QpL x.f)∧∃m,H'=H.up m:=by
 refine Qj1 λhw=>?_;have q3:=λH' (he:Ext H H')=>Q6 x 3 H' (hx.ext hw he);have q7:=λH' (he:Ext H H')=>Q6 x 7 H' (hx.ext hw he);have hs:QpL x.f=bif !x.f.vex then((x.f.w==0)||(x.f.w==1))&&(x.f.l==0)&&decide (QE x.f.slots 3<0)&&decide (QE x.f.slots 7<0) else((x.f.pre==0)||(x.f.pre==1)||(x.f.pre==2)||(x.f.pre==4))&&(!(x.f.map==0))&&decide (-1<=x.f.w)&&decide (x.f.w<=1)&&((x.f.l==0)||(x.f.l==1)):=rfl
 rw[hs];clear hs hx;generalize QE x.f.slots 3=i3 at *;generalize QE x.f.slots 7=i7 at *;obtain⟨⟨fop,fpre,fmap,fcode,fdg,fw,fl,fvex,fsh,fsl⟩,sv,tv⟩:=x;simp only[Lf.cells]at q3 q7 ⊢;cases fvex
 all_goals simp(disch:=(first | omega | (repeat (first | rw[Qa.next_push] | rw[Qa.next_set] | rw[Qa.next_up]));try omega)) only[Qcq,WN,WO,WP,WQ,Wp,simprocAttr,XD]
 all_goals repeat' (first
   | (refine QG (λh=>?_) (λh=>?_)<;>(try simp only[Bool.not_eq_true',Bool.not_eq_false']at h)<;>simp(disch:=(first | omega | (repeat (first | rw[Qa.next_push] | rw[Qa.next_set] | rw[Qa.next_up]));try omega)) only[WN,WO,WP,WQ,Wp,simprocAttr,XD,h])
   | (refine Qh (λh=>?_) (λh=>?_)<;>(try simp only[Bool.not_eq_true',Bool.not_eq_false']at h)<;>simp(disch:=(first | omega | (repeat (first | rw[Qa.next_push] | rw[Qa.next_set] | rw[Qa.next_up]));try omega)) only[WN,WO,WP,WQ,Wp,simprocAttr,XD,h])
   | (refine(q3 _ (by(repeat' (first | exact Ext.refl _ | refine Ext.push ?_ _ | refine Ext.up ?_ (by simp only[Qa.next_push,Qa.next_set,Qa.next_up];omega))))).thenW ?_;rintro _ _ hn hw2 ⟨rfl,k,rfl⟩;(try simp only[Qa.next_push,Qa.next_up,Qa.next_set]at hn);simp(disch:=(first | omega | (repeat (first | rw[Qa.next_push] | rw[Qa.next_set] | rw[Qa.next_up]));try omega)) only[WN,WO,WP,WQ,Wp,simprocAttr,XD])
   | (refine(q7 _ (by(repeat' (first | exact Ext.refl _ | refine Ext.push ?_ _ | refine Ext.up ?_ (by simp only[Qa.next_push,Qa.next_set,Qa.next_up];omega))))).thenW ?_;rintro _ _ hn hw2 ⟨rfl,k,rfl⟩;(try simp only[Qa.next_push,Qa.next_up,Qa.next_set]at hn);simp(disch:=(first | omega | (repeat (first | rw[Qa.next_push] | rw[Qa.next_set] | rw[Qa.next_up]));try omega)) only[WN,WO,WP,WQ,Wp,simprocAttr,XD])
   | fail)
 all_goals refine .ext hw ?_ ⟨?_,_,rfl⟩
 all_goals try (repeat' (first | exact Ext.refl _ | refine Ext.push ?_ _ | refine Ext.up ?_ (by simp only[Qa.next_push,Qa.next_set,Qa.next_up];omega)))
 all_goals (simp_all<;>omega)
theorem Qo7 (x:Lf) (H:Qa) (hx:x.At H):Qf prog QcE [.agg x.cells.toArray] H λu H'=>u=.bool (decide (0<=QE x.f.slots 2))∧∃m,H'=H.up m:=by
 refine Qn0 λhw=>?_;have ec:(Value.agg x.cells.toArray).cells.toList=x.cells:=rfl;simp only[Qgh,ec,QQ,Wy,Qc,simprocAttr];refine(Q6 x 2 _ (hx.ext hw ((Ext.refl H).push _))).thenW ?_;rintro _ _ hn hw2 ⟨rfl,m,rfl⟩;simp only[Qa.next_up,Qa.next_push]at hn;simp only[Qc,simprocAttr,Qmd];exact .ext hw (((Ext.refl H).push _).up (by simp only[Qa.next_push];exact hn)) ⟨rfl,_,rfl⟩
def QAp (c:Int):Int:=IntKind.i64.wrap (BitVec.ofInt IntKind.i64.bits c &&& BitVec.ofInt IntKind.i64.bits 7).toNat
def Qq2 (f:Fm):List Bool:=
 let r:=decide (0<=QE f.slots 1);let m:=decide (0<=QE f.slots 2);let c:=decide (0<=QE f.slots 4);let d:=decide (0<=f.digit)
 [f.shapes.length==f.slots.length,QpL f,QsH f.slots,Qe5 f,!c||((QAp f.code==0)&&!r&&!m&&!d),!r||!d,!m||r||d,m||(!r&&!d),!(f.map==0)||!Qq0 f.code]
theorem QAq {M:Nat} {v:Value} {l:List Int} (h:SlF M v l):∀a n c,v=.slice (some a) n c->QsF n c:=by
 rintro a n c rfl;rcases h with⟨_,h⟩ | ⟨_,b,cap,h,_,h2⟩
 ·cases h
 ·cases h;exact h2
theorem QgI {M:Nat} {v:Value} {l:List Int} {H:Qa} {cs:List Value} (hw:H.Wf) (h:SlF M v l) (h2:QaQ H v l.length cs) (m:Nat) (hm:H.next<=m) (n:Nat):Qj m (n+1) v=true:=by
 rcases h with⟨_,rfl⟩ | ⟨hl,b,cap,rfl,_,_⟩
 ·rfl
 ·obtain⟨a,c,e,h1⟩:=h2;cases e;obtain⟨b2,_,_,e3,hb⟩:=h1 (List.length_pos_iff.2 hl);cases e3;have:=hw.lt hb;simp only[Qj,Nat.blt_eq];omega
theorem Qo8 (x:Lf) (H:Qa) (hx:x.At H) (hf:x.Fr 0):Qf prog QcD [.agg x.cells.toArray] H λu H'=>∃b,u=.slice (some ⟨b,0,none⟩) 9 9∧Ext H H'∧H'.get b=some (.cells ((Qq2 x.f).map .bool) 4 false):=by
  refine QnZ λhw=>?_;have bs:=λm hm n=>QgI hw hf.1 hx.2.2.1 m hm n;have bt:=λm hm n=>QgI hw hf.2 hx.2.2.2 m hm n;have hb:∀m,H.next<=m->Qj m 6 (.agg x.cells.toArray)=true:=λm hm=>by
    have h1:=bs m hm 4;have h2:=bt m hm 4;simp[Qj,Lf.cells,plain]at h1 h2 ⊢;exact⟨h1,h2⟩
  have hb1:∀m,H.next<=m->Qj m 6 x.sv=true:=λm hm=>bs m hm 5;have hb2:∀m,H.next<=m->Qj m 6 x.tv=true:=λm hm=>bt m hm 5;have q1:=λH' (he:Ext H H')=>Q6 x 1 H' (hx.ext hw he);have q4:=λH' (he:Ext H H')=>Q6 x 4 H' (hx.ext hw he);have qm:=λH' (he:Ext H H')=>Qo7 x H' (hx.ext hw he);have qp:=λH' (he:Ext H H')=>Qk0 x H' (hx.ext hw he);have qc:=λH' (he:Ext H H')=>Qme x H' (hx.ext hw he);have qo:=λH' (he:Ext H H')=>Qq1 x.tv x.f.slots H' (hx.ext hw he).2.2.2 hx.2.1 (QAq hf.2);have qt:=λH'=>Qo6 x.f.code H';have ec:(Value.agg x.cells.toArray).cells.toList=x.cells:=rfl;obtain⟨a1,c1,e1,_⟩:=id hx.2.2.1;obtain⟨a2,c2,e2,_⟩:=id hx.2.2.2;have x1:x.cells[1]? = some (.slice a1 x.f.shapes.length c1):=by rw[<- e1];rfl
  have x2:x.cells[2]? = some (.slice a2 x.f.slots.length c2):=by rw[<- e2];rfl
  have x4:x.cells[4]? = some (.int .i64 x.f.map):=rfl;have x5:x.cells[5]? = some (.int .i64 x.f.code):=rfl;have x6:x.cells[6]? = some (.int .i64 x.f.digit):=rfl;rw[e1]at hb1;rw[e2]at hb2 qo;have hr:Qq2 x.f=[x.f.shapes.length==x.f.slots.length,QpL x.f,QsH x.f.slots,Qe5 x.f,!decide (0<=QE x.f.slots 4)||((QAp x.f.code==0)&&!decide (0<=QE x.f.slots 1)&&!decide (0<=QE x.f.slots 2)&&!decide (0<=x.f.digit)),!decide (0<=QE x.f.slots 1)||!decide (0<=x.f.digit),!decide (0<=QE x.f.slots 2)||decide (0<=QE x.f.slots 1)||decide (0<=x.f.digit),decide (0<=QE x.f.slots 2)||(!decide (0<=QE x.f.slots 1)&&!decide (0<=x.f.digit)),!(x.f.map==0)||!Qq0 x.f.code]:=rfl;rw[hr];clear hr;have hxx:∀b,Ext H (H.push b):=λb=>(Ext.refl H).push _;simp only[Qgg,ec,QQ,Wy,Qc,simprocAttr];have hx0:Ext H (H.push (.cells x.cells Qe false)):=(Ext.refl H).push _;have hg0:(H.push (.cells x.cells Qe false)).get H.next=some (.cells x.cells Qe false):=by rw[Qa.get_push,if_pos rfl]
  have hw0:=hw.push (.cells x.cells Qe false);have hb0:H.next<(H.push (.cells x.cells Qe false)).next:=Nat.lt_succ_self _;generalize H.push (.cells x.cells Qe false)=H0 at hx0 hg0 hw0 hb0
  -- each call leaves the box where it is
  have step:∀ (H1:Qa) (m:Nat),Ext H H1->H1.Wf->H1.get H.next=some (.cells x.cells Qe false)->H.next<H1.next->H1.next<=m->Ext H (H1.up m)∧(H1.up m).get H.next=some (.cells x.cells Qe false)∧H.next<(H1.up m).next∧EqB H1 (H1.up m):=λH1 m h1 h2 h3 h4 h5=>⟨h1.up h5,by rw[Qa.get_up];exact h3,by simp only[Qa.next_up];omega,((Ext.refl H1).up h5).eqB⟩;have hb0':=hb0;refine⟨⟨Nat.lt_succ_self _,Nat.lt_succ_self _⟩,(q1 _ hx0).thenW ?_⟩;rintro _ _ hn1 hw1 ⟨rfl,m1,rfl⟩;simp only[Qa.next_up]at hn1;obtain⟨hx1,hg1,hb1',he1⟩:=step _ m1 hx0 hw0 hg0 hb0' hn1;generalize Qa.up _ m1=H1 at hw1 hx1 hg1 hb1' he1;simp only[Qc,simprocAttr,hg1,ec,QQ,Wy,x1,x2,x4,x5,x6];refine⟨he1,hb _ hx1.next,hb1',(qm _ hx1).thenW ?_⟩;rintro _ _ hn2 hw2 ⟨rfl,m2,rfl⟩;simp only[Qa.next_up]at hn2;obtain⟨hx2,hg2,hb2',he2⟩:=step _ m2 hx1 hw1 hg1 hb1' hn2;generalize Qa.up _ m2=H2 at hw2 hx2 hg2 hb2' he2;simp only[Qc,simprocAttr,hg2,ec,QQ,Wy,x1,x2,x4,x5,x6];refine⟨he2,hb _ hx2.next,(q4 _ hx2).thenW ?_⟩;rintro _ _ hn3 hw3 ⟨rfl,m3,rfl⟩;simp only[Qa.next_up]at hn3;obtain⟨hx3,hg3,hb3',he3⟩:=step _ m3 hx2 hw2 hg2 hb2' hn3;generalize Qa.up _ m3=H3 at hw3 hx3 hg3 hb3' he3;simp only[Qc,simprocAttr,hg3,ec,QQ,Wy,x1,x2,x4,x5,x6];refine⟨hb1 _ hx3.next,hb2 _ hx3.next,⟨hb3',hb3',hb3'⟩,(qp _ hx3).thenW ?_⟩;rintro _ _ hn4 hw4 ⟨rfl,m4,rfl⟩;simp only[Qa.next_up]at hn4;obtain⟨hx4,hg4,hb4',he4⟩:=step _ m4 hx3 hw3 hg3 hb3' hn4;generalize Qa.up _ m4=H4 at hw4 hx4 hg4 hb4' he4;simp only[Qc,simprocAttr,hg4,ec,QQ,Wy,x1,x2,x4,x5,x6];refine⟨he4,hb2 _ hx4.next,⟨hb4',hb4'⟩,(qo _ hx4).thenW ?_⟩;rintro _ _ _ _ ⟨rfl,rfl⟩;simp only[Qc,simprocAttr,hg4,ec,QQ,Wy,x1,x2,x4,x5,x6];refine⟨(Ext.refl _).eqB,hb _ hx4.next,hb4',(qc _ hx4).thenW ?_⟩;rintro _ _ hn5 hw5 ⟨rfl,m5,rfl⟩;simp only[Qa.next_up]at hn5;obtain⟨hx5,hg5,hb5',he5⟩:=step _ m5 hx4 hw4 hg4 hb4' hn5;generalize Qa.up _ m5=H5 at hw5 hx5 hg5 hb5' he5;simp only[Qc,simprocAttr,hg5,ec,QQ,Wy,x1,x2,x4,x5,x6];refine⟨he5,?_⟩;have h7:IntKind.i64.wrap (BitVec.ofInt IntKind.i64.bits x.f.code &&& BitVec.ofInt IntKind.i64.bits 7).toNat=QAp x.f.code:=rfl;have e0:((x.f.shapes.length:Int)==(x.f.slots.length:Int))=(x.f.shapes.length==x.f.slots.length):=by
    rw[Bool.eq_iff_iff,beq_iff_eq,beq_iff_eq];omega
  generalize decide (0<=QE x.f.slots 1)=r;generalize decide (0<=QE x.f.slots 2)=m;generalize decide (0<=QE x.f.slots 4)=c;generalize decide (0<=x.f.digit)=d;cases z0:(QAp x.f.code==0)<;>cases p0:(x.f.map==0)
  all_goals cases c<;>cases r<;>cases m<;>cases d
  all_goals simp only[Qc,simprocAttr,hg5,x4,x5,h7,z0,p0,e0,QeZ]
  all_goals refine⟨rfl,?_⟩
  all_goals first
    | (refine(qt _).thenW ?_
       rintro _ _ _ _ ⟨rfl,rfl⟩;simp only[Qc,simprocAttr,QeZ];refine⟨λ_ _=>rfl,?_⟩;exact .mk (hx5.push _).next ⟨_,rfl,hx5.push _,by rw[Qa.get_push,if_pos rfl];simp⟩)
    | exact .mk (hx5.push _).next ⟨_,rfl,hx5.push _,by rw[Qa.get_push,if_pos rfl];simp⟩
theorem QyA (l:List Bool) (i:Nat) (h:i<l.length):(l.map Value.bool)[i]? = some (.bool (l.getD i false)):=by
 simp[List.getD,List.getElem?_eq_getElem h]
def Qk1 (f:Fm):Int:=
 if opV f.op=false then 6
 else if(decide (4<f.shapes.length)||decide (4<f.slots.length))=true then 3
 else if(decide (f.pre<0)||decide (5<f.pre)||decide (f.map<0)||decide (3<f.map))=true then 5
 else if(decide (f.code<0)||decide (255<f.code)||decide (f.digit < -1)||decide (7<f.digit))=true then 5
 else if((List.range 9).all λi=>(Qq2 f).getD i false)=true then 0 else 2
theorem Qo9 (x:Lf) (H:Qa) (hx:x.At H) (hf:x.Fr 0):Qf prog QcA [.agg x.cells.toArray] H λu H'=>u=.int .i64 (Qk1 x.f)∧∃m,H'=H.up m:=by
 refine QnY λhw=>?_;have ec:(Value.agg x.cells.toArray).cells.toList=x.cells:=rfl;have hx0:Ext H (H.push (.cells x.cells Qe false)):=(Ext.refl H).push _;have hg0:(H.push (.cells x.cells Qe false)).get H.next=some (.cells x.cells Qe false):=by rw[Qa.get_push,if_pos rfl]
 have hw0:=hw.push (.cells x.cells Qe false);obtain⟨a1,c1,e1,_⟩:=id hx.2.2.1;obtain⟨a2,c2,e2,_⟩:=id hx.2.2.2;have x0:x.cells[0]? = some (.int .i64 x.f.op):=rfl;have x1:x.cells[1]? = some (.slice a1 x.f.shapes.length c1):=by rw[<- e1];rfl
 have x2:x.cells[2]? = some (.slice a2 x.f.slots.length c2):=by rw[<- e2];rfl
 have x3:x.cells[3]? = some (.int .i64 x.f.pre):=rfl;have x4:x.cells[4]? = some (.int .i64 x.f.map):=rfl;have x5:x.cells[5]? = some (.int .i64 x.f.code):=rfl;have x6:x.cells[6]? = some (.int .i64 x.f.digit):=rfl;have qv:=QDt x.f.op;have qr:=λH' (he:Ext H H')=>Qo8 x H' (hx.ext hw he) hf;have hl9:(Qq2 x.f).length=9:=rfl;have l1:decide ((4:Int)<x.f.shapes.length)=decide (4<x.f.shapes.length):=by rw[decide_eq_decide];omega
 have l2:decide ((4:Int)<x.f.slots.length)=decide (4<x.f.slots.length):=by rw[decide_eq_decide];omega
 have hs:Qk1 x.f=if opV x.f.op=false then 6
  else if(decide (4<x.f.shapes.length)||decide (4<x.f.slots.length))=true then 3
  else if(decide (x.f.pre<0)||decide (5<x.f.pre)||decide (x.f.map<0)||decide (3<x.f.map))=true then 5
  else if(decide (x.f.code<0)||decide (255<x.f.code)||decide (x.f.digit < -1)||decide (7<x.f.digit))=true then 5
  else if((List.range 9).all λi=>(Qq2 x.f).getD i false)=true then 0 else 2:=rfl
 rw[hs];clear hs hx hf e1 e2;generalize Qq2 x.f=rl at *;generalize opV x.f.op=ov at *;generalize hH0:H.push (.cells x.cells Qe false)=H0 at hx0 hg0 hw0;obtain⟨r,hr⟩:∃r,r=(if ov=false then(6:Int)
  else if(decide (4<x.f.shapes.length)||decide (4<x.f.slots.length))=true then 3
  else if(decide (x.f.pre<0)||decide (5<x.f.pre)||decide (x.f.map<0)||decide (3<x.f.map))=true then 5
  else if(decide (x.f.code<0)||decide (255<x.f.code)||decide (x.f.digit < -1)||decide (7<x.f.digit))=true then 5
  else if((List.range 9).all λi=>rl.getD i false)=true then 0 else 2):=⟨_,rfl⟩
 rw[<- hr];have P3:∀A,A 1=.pointer (some ⟨H.next,0,none⟩)->r=(if((List.range 9).all λi=>rl.getD i false)=true then 0 else 2)->Qt prog GW ⟨Rt prog QhB H λu H'=>u=.int .i64 r∧∃m,H'=H.up m,Z5⟩ (Rt prog QhB H λu H'=>u=.int .i64 r∧∃m,H'=H.up m) A H0:=by
  intro A r1 hr';simp only[GW,sxA,sxB,Nat.reduceBEq,Nat.reduceEqDiff,reduceCtorEq,mxA,mxB,Nat.reduceAdd,reduceIte,Nat.reduceLeDiff,splice,r1,hg0,QQ,Wy];refine(qr _ hx0).thenW ?_;rintro _ H1 hn1 hw1 ⟨b,rfl,hx1,hb1⟩;simp only[sxA,sxB,Nat.reduceBEq,Nat.reduceEqDiff,reduceCtorEq,mxA,mxB,Nat.reduceAdd,reduceIte,Nat.reduceLeDiff,splice];refine Qu (λm A' H'=>∃i:Nat,i<=9∧m=9 - i∧H'=H1∧(∀j,j<i->rl.getD j false=true)∧A' 60=.slice (some ⟨b,0,none⟩) 9 9∧A' 61=.int .i64 ((9:Nat):Int)∧A' 62=.int .i64 i) 9 ?_ ?_
  ·refine⟨0,Nat.zero_le _,by omega,rfl,λj h=>by omega,?_,?_,?_⟩
   all_goals simp only[uxA,uxB,Nat.reduceBEq]
   all_goals rfl
  ·rintro m A' H' ⟨i,hi,rfl,hEq,hall,r60,r61,r62⟩;subst hEq;simp only[QdD,QdC,sxA,sxB,Nat.reduceBEq,Nat.reduceEqDiff,reduceCtorEq,mxA,mxB,Nat.reduceAdd,reduceIte,Nat.reduceLeDiff,splice,r61,r62];refine Qh (λh2=>?_) (λh2=>?_)
   ·have h2:i<9:=by have:=of_decide_eq_true h2;omega
    have c1:(0:Int)<=i∧(i:Int)<((9:Nat):Int):=by omega
    have c3:(i:Int).toNat=i:=by omega
    have ei:IntKind.i64.wrap ((i:Int)+1)=((i+1:Nat):Int):=by rw[w64 (by unfold I64;omega)];omega
    have g1:=QyA rl i (by omega);simp only[sxA,sxB,Nat.reduceBEq,Nat.reduceEqDiff,reduceCtorEq,mxA,mxB,Nat.reduceAdd,reduceIte,Nat.reduceLeDiff,splice,r60,r62,c1,c3,hb1,g1];cases q:rl.getD i false with
    | false=>
     simp only[sxA,sxB,Nat.reduceBEq,Nat.reduceEqDiff,reduceCtorEq,mxA,mxB,Nat.reduceAdd,reduceIte,Nat.reduceLeDiff,splice,Zj];refine .ext hw (hx0.trans hx1) ⟨?_,_,rfl⟩;rw[hr',JQ h2 q];rfl
    | true=>
     simp only[sxA,sxB,Nat.reduceBEq,Nat.reduceEqDiff,reduceCtorEq,mxA,mxB,Nat.reduceAdd,reduceIte,Nat.reduceLeDiff,splice,r62,ei];refine⟨9 - (i+1),by omega,i+1,by omega,rfl,rfl,λj hj=>?_,?_,?_,?_⟩
     ·rcases Nat.lt_or_ge j i with h | h
      ·exact hall j h
      ·rw[show j=i by omega];exact q
     all_goals simp only[uxA,uxB,Nat.reduceBEq,r60,r61]
   ·have h2:i=9:=by have:=of_decide_eq_false h2;omega
    subst h2;simp only[sxA,sxB,Nat.reduceBEq,Nat.reduceEqDiff,reduceCtorEq,mxA,mxB,Nat.reduceAdd,reduceIte,Nat.reduceLeDiff,splice,Zj];refine .ext hw (hx0.trans hx1) ⟨?_,_,rfl⟩;rw[hr',KQ hall];rfl
 simp only[Qgf,ec,sxA,sxB,Nat.reduceBEq,Nat.reduceEqDiff,reduceCtorEq,mxA,mxB,Nat.reduceAdd,reduceIte,Nat.reduceLeDiff,splice,hH0,hg0,x0];refine(qv _).thenW ?_;rintro _ _ _ _ ⟨rfl,rfl⟩;simp only[QdG,QdF,QdE,sxA,sxB,Nat.reduceBEq,Nat.reduceEqDiff,reduceCtorEq,mxA,mxB,Nat.reduceAdd,reduceIte,Nat.reduceLeDiff,splice,Zj,hg0,x1,x2,x3,x4,x5,x6,l1,l2]
 repeat' (first
   | (refine QG (λh=>?_) (λh=>?_)<;>(try simp only[Bool.not_eq_true',Bool.not_eq_false']at h)<;>simp only[sxA,sxB,Nat.reduceBEq,Nat.reduceEqDiff,reduceCtorEq,mxA,mxB,Nat.reduceAdd,reduceIte,Nat.reduceLeDiff,splice,Zj,hg0,x1,x2,x3,x4,x5,x6,l1,l2,h])
   | (refine Qh (λh=>?_) (λh=>?_)<;>(try simp only[Bool.not_eq_true',Bool.not_eq_false']at h)<;>simp only[sxA,sxB,Nat.reduceBEq,Nat.reduceEqDiff,reduceCtorEq,mxA,mxB,Nat.reduceAdd,reduceIte,Nat.reduceLeDiff,splice,Zj,hg0,x1,x2,x3,x4,x5,x6,l1,l2,h])
   | fail)
 all_goals first
  | (refine P3 _ (by simp only[uxA,uxB,Nat.reduceBEq]) ?_;rw[hr];clear hr P3 qr qv hg0 hw0 hx0 hH0 x0 x1 x2 x3 x4 x5 x6 l1 l2 hl9 ec;simp_all<;>(repeat rw[if_neg (by omega)])<;>(try (rw[if_pos (by omega)])))
  | (refine .ext hw hx0 ⟨?_,_,rfl⟩;rw[hr];clear hr P3 qr qv hg0 hw0 hx0 hH0 x0 x1 x2 x3 x4 x5 x6 l1 l2 hl9 ec;simp_all<;>(repeat rw[if_neg (by omega)])<;>(try (rw[if_pos (by omega)])))
theorem QpM {f:Fm} (h:Qk1 f=0):f.shapes.length<=4∧f.slots.length<=4∧(0<=f.pre∧f.pre<=5)∧(0<=f.map∧f.map<=3)∧(0<=f.code∧f.code<=255)∧(-1<=f.digit∧f.digit<=7)∧(List.range 9).all (λi=>(Qq2 f).getD i false)=true:=by
 unfold Qk1 at h;split at h
 ·simp at h
 ·split at h
  ·simp at h
  ·split at h
   ·simp at h
   ·split at h
    ·simp at h
    ·split at h
     ·rename_i h1 h2 h3 h4 h5;simp only[Bool.or_eq_true,decide_eq_true_eq,not_or]at h2 h3 h4;exact⟨by omega,by omega,by omega,by omega,by omega,by omega,h5⟩
     ·simp at h
theorem QmC {f:Fm} (h:Qk1 f=0) (i:Nat) (hi:i<9):(Qq2 f).getD i false=true:=List.all_eq_true.1 (QpM h).2.2.2.2.2.2 i (List.mem_range.2 hi)
theorem QuA {sh sl:Int} (h:Qj2 sh sl=true):1<=sh∧sh<=34:=by
 unfold Qj2 at h;split at h
 ·simp only[Bool.and_eq_true,decide_eq_true_eq]at h;omega
 ·split at h
  ·simp only[Bool.and_eq_true,decide_eq_true_eq]at h;omega
  ·split at h
   ·simp only[Bool.and_eq_true,decide_eq_true_eq]at h;omega
   ·split at h
    ·simp only[Bool.or_eq_true,Bool.and_eq_true,decide_eq_true_eq,beq_iff_eq]at h;omega
    ·exact absurd h (by decide)
theorem Qq3 {f:Fm} (h:Qk1 f=0):f.shapes.length=f.slots.length:=by
 have:=QmC h 0 (by omega);simpa[Qq2] using this
theorem Qw3 {f:Fm} (h:Qk1 f=0) (i:Nat) (hi:i<f.shapes.length):1<=f.shapes.getD i 0∧f.shapes.getD i 0<=34:=by
 have h3:Qe5 f=true:=QmC h 3 (by omega);unfold Qe5 at h3;rw[Bool.and_eq_true]at h3;have:=List.all_eq_true.1 h3.2 i (List.mem_range.2 (by have:=Qq3 h;omega));exact QuA this
theorem QgJ {f:Fm} (h:Qk1 f=0):FOk f:=by
 obtain⟨_,_,hp,hm,_,_,_⟩:=QpM h;have h1:QpL f=true:=QmC h 1 (by omega);unfold QpL at h1;refine⟨hp,hm,λhv=>?_,λhv=>?_⟩
 ·rw[hv]at h1;simp only[Bool.not_false,cond_true,Bool.and_eq_true,Bool.or_eq_true,beq_iff_eq]at h1;exact h1.1.1.1
 ·rw[hv]at h1;simp only[Bool.not_true,cond_false,Bool.and_eq_true,Bool.or_eq_true,beq_iff_eq,Bool.not_eq_true',beq_eq_false_iff_ne,ne_eq,decide_eq_true_eq]at h1;exact⟨h1.1.1.1.2,by rcases h1.1.1.1.1 with((a | a) | a) | a<;>simp[a],⟨h1.1.1.2,h1.1.2⟩,h1.2⟩
end Go.Proofs.YtgepgbbjfhggfaaGreatDoor.code
