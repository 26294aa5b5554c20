/- The table, as a known call of closed runs. -/
import Derived.Test.YtgepgbbjfhggfaaGreatDoorS3Tells
import Derived.Test.YtgepgbbjfhggfaaGreatDoorLibA
set_option linter.unusedVariables false
set_option maxRecDepth 100000
noncomputable section
namespace Go.Proofs.YtgepgbbjfhggfaaGreatDoor.code
open Go.Ab
def LL:FuncId->List Fm:=λf=>bif Nat.beq f Qd0 then L_alu else bif Nat.beq f Qal then L_unary else bif Nat.beq f QbJ then L_flow else bif Nat.beq f QbK then L_bits else bif Nat.beq f Qd1 then L_sse else L_avx
theorem QyU:∀x∈lis,Qgd (Qes tab.tabs) x.2.2 (LL x.2.2):=by
 intro x hx;simp only[lis,List.mem_cons,List.not_mem_nil,or_false]at hx;rcases hx with rfl | rfl | rfl | rfl | rfl | rfl
 ·exact Qod
 ·exact Qk7
 ·exact Qmk
 ·exact Qml
 ·exact Qoe
 ·exact Qof
def Qpe:List Fm:=L_alu++(L_unary++(L_flow++(L_bits++(L_sse++L_avx))))
theorem Qtd {L:List Fm} {a b op:Int} (h:(L.all λf=>decide (a<=f.op)&&decide (f.op<=b))=true) (ho:op<a∨op>b):L.filter (λf=>f.op==op)=[]:=by
 rw[List.filter_eq_nil_iff];intro f hf;have:=List.all_eq_true.1 h f hf;simp only[Bool.and_eq_true,decide_eq_true_eq]at this;simp only[beq_iff_eq];omega
theorem rng:(L_alu.all λf=>decide (1<=f.op)&&decide (f.op<=16))=true∧(L_unary.all λf=>decide (16<=f.op)&&decide (f.op<=47))=true∧(L_flow.all λf=>decide (48<=f.op)&&decide (f.op<=115))=true∧(L_bits.all λf=>decide (116<=f.op)&&decide (f.op<=135))=true∧(L_sse.all λf=>decide (136<=f.op)&&decide (f.op<=262))=true∧(L_avx.all λf=>decide (263<=f.op)&&decide (f.op<=322))=true:=
 ⟨by kernel_rfl,by kernel_rfl,by kernel_rfl,by kernel_rfl,by kernel_rfl,by kernel_rfl⟩
theorem QCE (op:Int):Qoc LL op op (λf=>f.op==op) lis=Qpe.filter (λf=>f.op==op):=by
 have key:∀ (a b:Int) (L:List Fm),(L.all λf=>decide (a<=f.op)&&decide (f.op<=b))=true->(bif decide (op<a)||decide (op>b) then[] else L.filter λf=>f.op==op)=L.filter λf=>f.op==op:=λa b L h=>by
  cases hc:decide (op<a)||decide (op>b) with
  | false=>rfl
  | true=>
   simp only[Bool.or_eq_true,decide_eq_true_eq]at hc;rw[Qtd h hc];rfl
 obtain⟨r1,r2,r3,r4,r5,r6⟩:=rng;have e:Qoc LL op op (λf=>f.op==op) lis=(bif decide (op<1)||decide (op>16) then[] else L_alu.filter λf=>f.op==op)++((bif decide (op<16)||decide (op>47) then[] else L_unary.filter λf=>f.op==op)++((bif decide (op<48)||decide (op>115) then[] else L_flow.filter λf=>f.op==op)++((bif decide (op<116)||decide (op>135) then[] else L_bits.filter λf=>f.op==op)++((bif decide (op<136)||decide (op>262) then[] else L_sse.filter λf=>f.op==op)++((bif decide (op<263)||decide (op>322) then[] else L_avx.filter λf=>f.op==op)++[]))))):=rfl;rw[e,key _ _ _ r1,key _ _ _ r2,key _ _ _ r3,key _ _ _ r4,key _ _ _ r5,key _ _ _ r6,List.append_nil];simp only[Qpe,List.filter_append]
theorem QlU:Qpe.length=834:=by kernel_rfl
theorem Qv7:(Y8 prog.globals.size tab.tabs).Wf:=λid hid=>by
 cases hg:(Y8 prog.globals.size tab.tabs).get id with
 | none=>rfl
 | some b=>
  obtain⟨t,h1,h2,_⟩:=YJ hg;have:=tab.tabs_low t h1;have hid:prog.globals.size<=id:=hid;subst h2;exact absurd this (by show ¬t.id<prog.globals.size;omega)
theorem QCF:Qes tab.tabs (Y8 prog.globals.size tab.tabs):=by unfold Qes;kernel_rfl
theorem QCG (op:Int) (H:Qa) (hT:Qes tab.tabs H):Qf prog WY [.int .i64 op] H λu H'=>Qo3 H H' u (Qpe.filter λf=>f.op==op):=by
 have:=Qu1 Qgq LL QyU op H hT;rwa [QCE]at this
theorem Qo3.short {H H':Qa} {u:Value} {p:Fm->Bool} {ys:List Lf} (h:ys.map (·.f)=Qpe.filter p):ys.length<=834:=by
 have h1:=congrArg List.length h;have h2:=List.length_filter_le p Qpe;rw[QlU]at h2;simp only[List.length_map]at h1;omega
end Go.Proofs.YtgepgbbjfhggfaaGreatDoor.code
