/- linotypelaw20.EncodeLeast over the listed tables. -/
import Derived.Test.YtgepgbbjfhggfaaGreatDoorLibC
import Derived.Test.YtgepgbbjfhggfaaGreatDoorL9Tab
import Derived.Test.YtgepgbbjfhggfaaGreatDoorA6Inst
set_option linter.unusedVariables false
set_option maxRecDepth 100000
noncomputable section
namespace Go.Proofs.YtgepgbbjfhggfaaGreatDoor.code
open Go.Ab
def Qri (op:Int):List Fm:=Qs2.filter fun f=>f.op==op
theorem ex1:(Qfr (Qri 1) 1 [exA,exB] 0==([131,192,5],0))=true:=by kernel_rfl
theorem ex2:(Qfr (Qri 54) 54 [exC] 0==([235,5],0))=true:=by kernel_rfl
theorem ex3:(Qfr (Qri 54) 54 [exC] 2==([233,5,0,0,0],0))=true:=by kernel_rfl
theorem ex4:((Qg2 (Qri 50) 50 []).2==0&&(Qg2 (Qri 50) 50 []).1.length==2)=true:=by kernel_rfl
theorem QA7 (op:Int) (u:Value) (l:List Ar) (a:Int) (ha:I64 a) (H:Qa) (hT:QdT tab.tabs H) (hbs:QS H u l) (hb:∀n,H.next≤n→Qj n 6 (.agg #[.int .i64 op,u])=true) (hI:∀a∈l,I64 a.n):Qe prog W4 [.agg #[.int .i64 op,u],.int .i64 a] H fun u H'=>u=.bool true∧True:=by
 have h4:=ex4
 rw[Bool.and_eq_true,beq_iff_eq,beq_iff_eq]at h4
 have hA:=fun H hTH=>Qq1 (T:=QdT tab.tabs) (L:=Qri) QiI (fun op H h=>QA4 op H h) (eq_of_beq ex1) (eq_of_beq ex2) (eq_of_beq ex3) (W:=(Qg2 (Qri 50) 50 []).1) (Prod.ext rfl h4.1) h4.2 H hTH
 exact(Qnr (T:=QdT tab.tabs) (L:=Qri) QiI (fun op H h=>QA4 op H h) H hA hT ha hbs hb hI).mono fun v H' h=>⟨h.1,trivial⟩
end Go.Proofs.YtgepgbbjfhggfaaGreatDoor.code
