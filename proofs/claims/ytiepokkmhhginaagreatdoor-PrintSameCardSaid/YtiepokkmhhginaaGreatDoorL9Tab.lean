/- The table, as a known call of closed runs. -/
import Derived.Test.YtiepokkmhhginaaGreatDoorS3Tells
import Derived.Test.YtiepokkmhhginaaGreatDoorLibA
set_option linter.unusedVariables false
set_option maxRecDepth 100000
noncomputable section
namespace Go.Proofs.YtiepokkmhhginaaGreatDoor.code
open Go.Ab
def LL:FuncId->List Fm:=λf=>bif Nat.beq f QeD then Qux else bif Nat.beq f QaL then Qk1 else bif Nat.beq f Qb8 then Qpl else bif Nat.beq f Qb9 then Qpm else bif Nat.beq f QeE then Quy else Quz
theorem QA3:∀x∈lis,Qg0 (Qf2 tab.tabs) x.2.2 (LL x.2.2):=by
 intro x hx;simp only[lis,LK,Ns,NN]at hx;rcases hx with rfl | rfl | rfl | rfl | rfl | rfl
 ·exact Qpn
 ·exact QlX
 ·exact Qnh
 ·exact Qni
 ·exact Qpo
 ·exact Qpp
def Qpq:List Fm:=Qux++(Qk1++(Qpl++(Qpm++(Quy++Quz))))
theorem QuN {L:List Fm} {a b op:Int} (h:(L.all λf=>decide (a<=f.op)&&decide (f.op<=b))=true) (ho:op<a∨op>b):L.filter (λf=>f.op==op)=[]:=by
 rw[List.filter_eq_nil_iff];intro f hf;have:=Li.1 h f hf;simp only[Lm,Lv]at this;simp only[L0];omega
theorem rng:(Qux.all λf=>decide (1<=f.op)&&decide (f.op<=16))=true∧(Qk1.all λf=>decide (16<=f.op)&&decide (f.op<=47))=true∧(Qpl.all λf=>decide (48<=f.op)&&decide (f.op<=115))=true∧(Qpm.all λf=>decide (116<=f.op)&&decide (f.op<=135))=true∧(Quy.all λf=>decide (136<=f.op)&&decide (f.op<=262))=true∧(Quz.all λf=>decide (263<=f.op)&&decide (f.op<=322))=true:=
 ⟨by kernel_rfl,by kernel_rfl,by kernel_rfl,by kernel_rfl,by kernel_rfl,by kernel_rfl⟩
theorem QEW (op:Int):Qpj LL op op (λf=>f.op==op) lis=Qpq.filter (λf=>f.op==op):=by
 have key:∀ (a b:Int) (L:List Fm),(L.all λf=>decide (a<=f.op)&&decide (f.op<=b))=true->(bif decide (op<a)||decide (op>b) then[] else L.filter λf=>f.op==op)=L.filter λf=>f.op==op:=λa b L h=>by
  cases hc:decide (op<a)||decide (op>b) with
  | false=>rfl
  | true=>
   simp only[Nw,Lv]at hc;rw[QuN h hc];rfl
 obtain⟨r1,r2,r3,r4,r5,r6⟩:=rng;have e:Qpj LL op op (λf=>f.op==op) lis=(bif decide (op<1)||decide (op>16) then[] else Qux.filter λf=>f.op==op)++((bif decide (op<16)||decide (op>47) then[] else Qk1.filter λf=>f.op==op)++((bif decide (op<48)||decide (op>115) then[] else Qpl.filter λf=>f.op==op)++((bif decide (op<116)||decide (op>135) then[] else Qpm.filter λf=>f.op==op)++((bif decide (op<136)||decide (op>262) then[] else Quy.filter λf=>f.op==op)++((bif decide (op<263)||decide (op>322) then[] else Quz.filter λf=>f.op==op)++[]))))):=rfl;rw[e,key _ _ _ r1,key _ _ _ r2,key _ _ _ r3,key _ _ _ r4,key _ _ _ r5,key _ _ _ r6,Na];simp only[Qpq,Re]
theorem QuO:Qpq.length=834:=by kernel_rfl
theorem QxI:(Xc prog.globals.size tab.tabs).Wf:=λid hid=>by
 cases hg:(Xc prog.globals.size tab.tabs).get id with
 | none=>rfl
 | some b=>
  obtain⟨t,h1,h2,_⟩:=Ya hg;have:=tab.tabs_low t h1;have hid:prog.globals.size<=id:=hid;subst h2;exact absurd this (by show ¬t.id<prog.globals.size;omega)
theorem QEX:Qf2 tab.tabs (Xc prog.globals.size tab.tabs):=by unfold Qf2;kernel_rfl
theorem QGE (op:Int) (H:Qa) (hT:Qf2 tab.tabs H):Qg prog JJ [.int .i64 op] H λu H'=>QyX H H' u (Qpq.filter λf=>f.op==op):=by
 have:=Qwv Qpk LL QA3 op H hT;rwa [QEW]at this
theorem QyX.short {H H':Qa} {u:Value} {p:Fm->Bool} {ys:List Lf} (h:ys.map (·.f)=Qpq.filter p):ys.length<=834:=by
 have h1:=congrArg List.length h;have h2:=R7 p Qpq;rw[QuO]at h2;simp only[Nn]at h1;omega
end Go.Proofs.YtiepokkmhhginaaGreatDoor.code
