/- linotypelaw20.EncodeFree over the listed tables. -/
import Derived.Test.YtgepgbbjfhggfaaGreatDoorY1Least
import Derived.Test.YtgepgbbjfhggfaaGreatDoorLibE
set_option linter.unusedVariables false
set_option maxRecDepth 100000
namespace Go.Proofs.YtgepgbbjfhggfaaGreatDoor.code
open Go.Ab
theorem fr1:(Qpe.all λf=>decide (fmN f<=15))=true:=by kernel_rfl
theorem fr2:Qpe.all fmO=true:=by kernel_rfl
theorem fr3:Qvb Qpe=true:=by kernel_rfl
theorem ek1:((Vr (V2 9) 9 [QR 1 4,QR 2 4] 0).2==8)=true:=by kernel_rfl
theorem ek2:(Vr (V2 1) 1 [QR 4 1,Qfi 1000] 0==([129,193,232,3,0,0],0))=true:=by kernel_rfl
theorem ek3:(Vr (V2 1) 1 [QR 4 0,Qfi 1000] 0==([5,232,3,0,0],0))=true:=by kernel_rfl
theorem ek4:(Vr (V2 9) 9 [QR 5 0,Qom] 0==([74,139,68,203,16],0))=true:=by kernel_rfl
theorem ek5:(Vr (V2 269) 269 [QR 6 1,QR 6 2,QR 6 3] 0==([197,232,88,203],0))=true:=by kernel_rfl
theorem ek6:(Vr (V2 269) 269 [QR 6 9,QR 6 2,QR 6 11] 0==([196,65,104,88,203],0))=true:=by kernel_rfl
theorem es1:(GZ (V2 9) 9 [QR 4 0,ZD 0]==(9,[QR 4 0,ZD 4],0))=true:=by kernel_rfl
theorem es2:(GZ (V2 1) 1 [ZD 0,Qfi 5]).1=0∧(GZ (V2 1) 1 [ZD 0,Qfi 5]).2.2=2:=⟨by kernel_rfl,by kernel_rfl⟩
theorem es3:(GZ (V2 12) 12 [QR 4 0,ZD 0]==(12,[QR 4 0,ZD 0],0))=true:=by kernel_rfl
theorem ek7:((KR (V2 1) 1 [QR 1 0,QR 1 1]).2==0&&(KR (V2 1) 1 [QR 1 0,QR 1 1]).1.length==4)=true:=by kernel_rfl
theorem QC1 (op:Int) (u:Value) (l:List Ar) (o:Int) (v:Value) (m:List Ar) (H:Qa) (hT:Qes tab.tabs H) (ha:QS H u l) (hva:∀n,H.next<=n->Qj n 6 (.agg #[.int .i64 op,u])=true) (hI:∀a∈l,I64 a.n) (hb:QS H v m) (hvb:∀n,H.next<=n->Qj n 6 (.agg #[.int .i64 o,v])=true) (hJ:∀a∈m,I64 a.n):Qf prog Xz [.agg #[.int .i64 op,u],.agg #[.int .i64 o,v]] H λu H'=>u=.bool true∧True:=by
 have h4:=ex4;rw[Bool.and_eq_true,beq_iff_eq,beq_iff_eq]at h4;have h7:=ek7;rw[Bool.and_eq_true,beq_iff_eq,beq_iff_eq]at h7;have hA:=λH hTH=>QsY (T:=Qes tab.tabs) (L:=V2) Qgq (λop H h=>QCG op H h) (eq_of_beq ex1) (eq_of_beq ex2) (eq_of_beq ex3) (W:=(KR (V2 50) 50 []).1) (Prod.ext rfl h4.1) h4.2 H hTH;have hK:=λH hTH=>Qpf (T:=Qes tab.tabs) (L:=V2) Qgq (λop H h=>QCG op H h) (W:=(Vr (V2 9) 9 [QR 1 4,QR 2 4] 0).1) (Prod.ext rfl (eq_of_beq ek1)) (eq_of_beq ek2) (eq_of_beq ek3) (eq_of_beq ek4) (eq_of_beq ek5) (eq_of_beq ek6) (eq_of_beq es1) (W2:=(GZ (V2 1) 1 [ZD 0,Qfi 5]).2.1) (Prod.ext es2.1 (Prod.ext rfl es2.2)) (eq_of_beq es3) hA (W4:=(KR (V2 1) 1 [QR 1 0,QR 1 1]).1) (Prod.ext rfl h7.1) h7.2 H hTH;have hL:Qv9 V2:=QD5 fr1 fr2 fr3 (by rw[QlU];decide);exact(Qrz (T:=Qes tab.tabs) (L:=V2) Qgq (λop H h=>QCG op H h) H hL hK hT ha hb hva hvb hI hJ).mono λv H' h=>⟨h.1,trivial⟩
end Go.Proofs.YtgepgbbjfhggfaaGreatDoor.code
