/- The document's names of operations. -/
import Derived.Test.YtdjkkoacinpdeaaGreatDoorC8Names
set_option linter.unusedVariables false
set_option linter.unusedSimpArgs false
set_option maxRecDepth 100000
set_option maxHeartbeats 4000000
namespace Go.Proofs.YtdjkkoacinpdeaaGreatDoor.code
open Go.Ab
theorem Qo6 (A:Env):Qng.map (evP A)=nmL.zipIdx.map fun p=>(p.2,.string (mkS p.1)):=by
 unfold Qng
 rw[List.map_map]
 rfl
theorem Qnh:QjK 1 (List.replicate 322 (.string (mkS []))) (nmL.zipIdx.map fun p=>(p.2,.string (mkS p.1)))=some (Qja nmL):=by kernel_rfl
theorem Qjn (H:Qa):Qf prog ZC [] H fun u H'=>u=.slice (some ⟨H.next,0,none⟩) 322 322∧H'=H.push (.cells (Qja nmL) 9 false):=by
 refine Qcv fun hw=>?_
 simp only[Gk,sxA,sxB,Nat.reduceBEq,Nat.reduceEqDiff,reduceCtorEq,Qo6,Qnh,QbM]
 exact .mk (by rw[Qa.next_push];omega) ⟨rfl,rfl⟩
theorem Vf (op:Int) (H:Qa):Qf prog WC [.int .i64 op] H fun u H'=>u=.bool (WI op)∧H'=H:=by
 refine Qci fun hw=>?_
 simp only[K6,sxA,sxB,Nat.reduceBEq,Nat.reduceEqDiff,reduceCtorEq,mxA,mxB,Nat.reduceAdd,reduceIte,Nat.reduceLeDiff,splice]
 unfold WI
 cases h1:decide (1≤op)
 all_goals cases h2:decide (op≤322)
 all_goals (simp only[sxA,sxB,Nat.reduceBEq,Nat.reduceEqDiff,reduceCtorEq,mxA,mxB,Nat.reduceAdd,reduceIte,Nat.reduceLeDiff,splice,h1,h2,Qbn,Bool.and_true,Bool.and_false,Bool.true_and,Bool.false_and,Bool.and_self];exact .mk (Nat.le_refl _) ⟨rfl,rfl⟩)
theorem Qk0 (op:Int) (H:Qa):Qf prog ZY [.int .i64 op] H fun u H'=>u=.string (mkS (nmF op))∧Ext H H':=by
 refine Qc8 fun hw=>?_
 simp only[GH,sxA,sxB,Nat.reduceBEq,Nat.reduceEqDiff,reduceCtorEq,mxA,mxB,Nat.reduceAdd,reduceIte,Nat.reduceLeDiff,splice]
 refine(Vf op H).thenW ?_
 rintro _ H1 hn hw1 ⟨rfl,rfl⟩
 unfold nmF
 cases hv:WI op with
 | false=>
  simp only[sxA,sxB,Nat.reduceBEq,Nat.reduceEqDiff,reduceCtorEq,mxA,mxB,Nat.reduceAdd,reduceIte,Nat.reduceLeDiff,splice,KY,Bool.false_eq_true]
  exact .mk (Nat.le_refl _) ⟨rfl,.refl _⟩
 | true=>
  have hop:1≤op∧op≤322:=by unfold WI at hv;simpa using hv
  have ws:IntKind.i64.wrap (op - 1)=op - 1:=w64 (by unfold I64;omega)
  simp only[sxA,sxB,Nat.reduceBEq,Nat.reduceEqDiff,reduceCtorEq,mxA,mxB,Nat.reduceAdd,reduceIte,Nat.reduceLeDiff,splice]
  refine(Qjn H1).thenW ?_
  rintro _ H2 hn2 hw2 ⟨rfl,rfl⟩
  have c2:(0:Int)≤op - 1∧op - 1<((322:Nat):Int):=by omega
  obtain⟨w,hw⟩:∃w,nmL[(op - 1).toNat]? = some w:=⟨nmL[(op - 1).toNat]'(by rw[QkU];omega),List.getElem?_eq_getElem _⟩
  have hs:=QlK hw
  have hd:nmL.getD (op - 1).toNat []=w:=by rw[List.getD_eq_getElem?_getD,hw];rfl
  simp only[sxA,sxB,Nat.reduceBEq,Nat.reduceEqDiff,reduceCtorEq,mxA,mxB,Nat.reduceAdd,reduceIte,Nat.reduceLeDiff,splice,ws,c2,hs,hd,and_self,KY]
  exact .mk (by rw[Qa.next_push];omega) ⟨rfl,(Ext.refl H1).push _⟩
end Go.Proofs.YtdjkkoacinpdeaaGreatDoor.code
