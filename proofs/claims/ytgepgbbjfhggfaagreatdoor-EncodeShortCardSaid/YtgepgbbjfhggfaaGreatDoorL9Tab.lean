/- The table, as a known call of closed runs. -/
import Derived.Test.YtgepgbbjfhggfaaGreatDoorS3Tells
import Derived.Test.YtgepgbbjfhggfaaGreatDoorLibA
set_option linter.unusedVariables false
set_option maxRecDepth 100000
noncomputable section
namespace Go.Proofs.YtgepgbbjfhggfaaGreatDoor.code
open Go.Ab
def LL:FuncId->List Fm:=λf=>bif Nat.beq f 97 then L_alu else bif Nat.beq f 98 then L_unary else bif Nat.beq f 99 then L_flow else bif Nat.beq f 100 then L_bits else bif Nat.beq f 101 then L_sse else L_avx
theorem QEe:∀x∈lis,J8 (QcL tab.tabs) x.2.2 (LL x.2.2):=by
 intro x hx;simp only[lis,LK,Ns,NN]at hx;rcases hx with rfl | rfl | rfl | rfl | rfl | rfl
 ·exact Qte
 ·exact Qp2
 ·exact Qrh
 ·exact Qri
 ·exact Qtf
 ·exact Qtg
def Qwv:List Fm:=L_alu++(L_unary++(L_flow++(L_bits++(L_sse++L_avx))))
theorem Qys {L:List Fm}{a b op:Int}(h:(L.all λf=>decide (a<=f.op)&&decide (f.op<=b))=true)(ho:op<a∨op>b):L.filter (λf=>f.op==op)=[]:=by
 rw[List.filter_eq_nil_iff];intro f hf;have:=Li.1 h f hf;simp only[Lm,Lv]at this;simp only[L0];omega
theorem rng:(L_alu.all λf=>decide (1<=f.op)&&decide (f.op<=16))=true∧(L_unary.all λf=>decide (16<=f.op)&&decide (f.op<=47))=true∧(L_flow.all λf=>decide (48<=f.op)&&decide (f.op<=115))=true∧(L_bits.all λf=>decide (116<=f.op)&&decide (f.op<=135))=true∧(L_sse.all λf=>decide (136<=f.op)&&decide (f.op<=262))=true∧(L_avx.all λf=>decide (263<=f.op)&&decide (f.op<=322))=true:=
 ⟨by kernel_rfl,by kernel_rfl,by kernel_rfl,by kernel_rfl,by kernel_rfl,by kernel_rfl⟩
theorem QH5 (op:Int):Qs9 LL op op (λf=>f.op==op) lis=Qwv.filter (λf=>f.op==op):=by
 have key:∀ (a b:Int) (L:List Fm),(L.all λf=>decide (a<=f.op)&&decide (f.op<=b))=true->(bif decide (op<a)||decide (op>b) then[] else L.filter λf=>f.op==op)=L.filter λf=>f.op==op:=λa b L h=>by
  cases hc:decide (op<a)||decide (op>b) with
  | false=>rfl
  | true=>
   simp only[Nw,Lv]at hc;rw[Qys h hc];rfl
 obtain⟨r1,r2,r3,r4,r5,r6⟩:=rng;have e:Qs9 LL op op (λf=>f.op==op) lis=(bif decide (op<1)||decide (op>16) then[] else L_alu.filter λf=>f.op==op)++((bif decide (op<16)||decide (op>47) then[] else L_unary.filter λf=>f.op==op)++((bif decide (op<48)||decide (op>115) then[] else L_flow.filter λf=>f.op==op)++((bif decide (op<116)||decide (op>135) then[] else L_bits.filter λf=>f.op==op)++((bif decide (op<136)||decide (op>262) then[] else L_sse.filter λf=>f.op==op)++((bif decide (op<263)||decide (op>322) then[] else L_avx.filter λf=>f.op==op)++[]))))):=rfl;rw[e,key _ _ _ r1,key _ _ _ r2,key _ _ _ r3,key _ _ _ r4,key _ _ _ r5,key _ _ _ r6,Na];simp only[Qwv,Re]
theorem Qyt:Qwv.length=834:=by kernel_rfl
theorem QBe:(JR prog.globals.size tab.tabs).Wf:=λid hid=>by
 cases hg:(JR prog.globals.size tab.tabs).get id with
 | none=>rfl
 | some b=>
  obtain⟨t,h1,h2,_⟩:=JB hg;have:=tab.tabs_low t h1;have hid:prog.globals.size<=id:=hid;subst h2;exact absurd this (by show ¬t.id<prog.globals.size;omega)
theorem QH6:QcL tab.tabs (JR prog.globals.size tab.tabs):=by unfold QcL;kernel_rfl
theorem QJr (op:Int)(H:Qa)(hT:QcL tab.tabs H):Qe prog 15 [.int .i64 op] H λu H'=>Qnf H H' u (Qwv.filter λf=>f.op==op):=by
 have:=QAh QhD LL QEe op H hT;rwa [QH5]at this
theorem Qnf.short {H H':Qa}{u:Value}{p:Fm->Bool}{ys:List Lf}(h:ys.map (·.f)=Qwv.filter p):ys.length<=834:=by
 have h1:=congrArg List.length h;have h2:=R7 p Qwv;rw[Qyt]at h2;simp only[Nn]at h1;omega
end Go.Proofs.YtgepgbbjfhggfaaGreatDoor.code
