/- The table, as a known call of closed runs. -/
import Derived.Test.YtgepgbbjfhggfaaGreatDoorS3Tells
import Derived.Test.YtgepgbbjfhggfaaGreatDoorLibA
set_option linter.unusedVariables false
set_option maxRecDepth 100000
noncomputable section
namespace Go.Proofs.YtgepgbbjfhggfaaGreatDoor.code
open Go.Ab
def LL:FuncId→List Fm:=fun f=>bif Nat.beq f QcH then L_alu else bif Nat.beq f G6 then L_unary else bif Nat.beq f Qao then L_flow else bif Nat.beq f Qap then L_bits else bif Nat.beq f QcI then L_sse else L_avx
theorem QwN:∀x∈lis,QeL (QdT tab.tabs) x.2.2 (LL x.2.2):=by
 intro x hx
 simp only[lis,List.mem_cons,List.not_mem_nil,or_false]at hx
 rcases hx with rfl | rfl | rfl | rfl | rfl | rfl
 ·exact Qmz
 ·exact QjA
 ·exact QkH
 ·exact QkI
 ·exact QmA
 ·exact QmB
def Qs2:List Fm:=L_alu++(L_unary++(L_flow++(L_bits++(L_sse++L_avx))))
theorem Qrg {L:List Fm} {a b op:Int} (h:(L.all fun f=>decide (a≤f.op)&&decide (f.op≤b))=true) (ho:op<a∨op>b):L.filter (fun f=>f.op==op)=[]:=by
 rw[List.filter_eq_nil_iff]
 intro f hf
 have:=List.all_eq_true.1 h f hf
 simp only[Bool.and_eq_true,decide_eq_true_eq]at this
 simp only[beq_iff_eq]
 omega
theorem rng:(L_alu.all fun f=>decide (1≤f.op)&&decide (f.op≤16))=true∧(L_unary.all fun f=>decide (16≤f.op)&&decide (f.op≤47))=true∧(L_flow.all fun f=>decide (48≤f.op)&&decide (f.op≤115))=true∧(L_bits.all fun f=>decide (116≤f.op)&&decide (f.op≤135))=true∧(L_sse.all fun f=>decide (136≤f.op)&&decide (f.op≤262))=true∧(L_avx.all fun f=>decide (263≤f.op)&&decide (f.op≤322))=true:=
 ⟨by kernel_rfl,by kernel_rfl,by kernel_rfl,by kernel_rfl,by kernel_rfl,by kernel_rfl⟩
theorem Qz1 (op:Int):Qmy LL op op (fun f=>f.op==op) lis=Qs2.filter (fun f=>f.op==op):=by
 have key:∀ (a b:Int) (L:List Fm),(L.all fun f=>decide (a≤f.op)&&decide (f.op≤b))=true→(bif decide (op<a)||decide (op>b) then[] else L.filter fun f=>f.op==op)=L.filter fun f=>f.op==op:=fun a b L h=>by
  cases hc:decide (op<a)||decide (op>b) with
  | false=>rfl
  | true=>
   simp only[Bool.or_eq_true,decide_eq_true_eq]at hc
   rw[Qrg h hc];rfl
 obtain⟨r1,r2,r3,r4,r5,r6⟩:=rng
 have e:Qmy LL op op (fun f=>f.op==op) lis=(bif decide (op<1)||decide (op>16) then[] else L_alu.filter fun f=>f.op==op)++((bif decide (op<16)||decide (op>47) then[] else L_unary.filter fun f=>f.op==op)++((bif decide (op<48)||decide (op>115) then[] else L_flow.filter fun f=>f.op==op)++((bif decide (op<116)||decide (op>135) then[] else L_bits.filter fun f=>f.op==op)++((bif decide (op<136)||decide (op>262) then[] else L_sse.filter fun f=>f.op==op)++((bif decide (op<263)||decide (op>322) then[] else L_avx.filter fun f=>f.op==op)++[]))))):=rfl
 rw[e,key _ _ _ r1,key _ _ _ r2,key _ _ _ r3,key _ _ _ r4,key _ _ _ r5,key _ _ _ r6,List.append_nil]
 simp only[Qs2,List.filter_append]
theorem Qrh:Qs2.length=834:=by kernel_rfl
theorem QtZ:(Yf prog.globals.size tab.tabs).Wf:=fun id hid=>by
 cases hg:(Yf prog.globals.size tab.tabs).get id with
 | none=>rfl
 | some b=>
  obtain⟨t,h1,h2,_⟩:=X4 hg
  have:=tab.tabs_low t h1
  have hid:prog.globals.size≤id:=hid
  subst h2
  exact absurd this (by show ¬t.id<prog.globals.size;omega)
theorem Qz2:QdT tab.tabs (Yf prog.globals.size tab.tabs):=by unfold QdT;kernel_rfl
theorem QA4 (op:Int) (H:Qa) (hT:QdT tab.tabs H):Qe prog XF [.int .i64 op] H fun u H'=>Qsw H H' u (Qs2.filter fun f=>f.op==op):=by
 have:=Qs1 QiI LL QwN op H hT
 rwa [Qz1]at this
theorem Qsw.short {H H':Qa} {u:Value} {p:Fm→Bool} {ys:List Lf} (h:ys.map (·.f)=Qs2.filter p):ys.length≤834:=by
 have h1:=congrArg List.length h
 have h2:=List.length_filter_le p Qs2
 rw[Qrh]at h2
 simp only[List.length_map]at h1
 omega
end Go.Proofs.YtgepgbbjfhggfaaGreatDoor.code
