/- The table, as a known call of closed runs. -/
import Derived.Test.YtfofbicfabokbaaGreatDoorS3Tells
import Derived.Test.YtfofbicfabokbaaGreatDoorL8Known
set_option linter.unusedVariables false
set_option maxRecDepth 100000
noncomputable section
namespace Go.Proofs.YtfofbicfabokbaaGreatDoor.code
open Go.Ab
def LL:FuncId→List Fm:=fun f=>bif Nat.beq f Qa5 then Qnb else bif Nat.beq f Gx then Qfr else bif Nat.beq f VC then QiV else bif Nat.beq f VD then QiW else bif Nat.beq f Qa6 then Qnc else Qnd
theorem Qi0:∀x∈lis,QbM (Kk tab.tabs) x.2.2 (LL x.2.2):=by
 intro x hx
 simp only[lis,List.mem_cons,List.not_mem_nil,or_false]at hx
 rcases hx with rfl | rfl | rfl | rfl | rfl | rfl
 ·exact QiU
 ·exact Qf3
 ·exact Qg8
 ·exact Qg9
 ·exact QiX
 ·exact QiY
def Qb3:List Fm:=Qnb++(Qfr++(QiV++(QiW++(Qnc++Qnd))))
theorem QuU (p:Fm→Bool):QaJ LL 1 322 p lis=Qb3.filter p:=by
 have h:QaJ LL 1 322 (fun _=>true) lis=Qb3:=by
  have e:∀l:List Fm,l.filter (fun _=>true)=l:=fun l=>by simp
  simp only[QaJ,lis,List.flatMap_cons,List.flatMap_nil,List.append_nil,e]
  rfl
 rw[QsH,h]
theorem Qnf {L:List Fm} {a b op:Int} (h:(L.all fun f=>decide (a≤f.op)&&decide (f.op≤b))=true) (ho:op<a∨op>b):L.filter (fun f=>f.op==op)=[]:=by
 rw[List.filter_eq_nil_iff]
 intro f hf
 have:=List.all_eq_true.1 h f hf
 simp only[Bool.and_eq_true,decide_eq_true_eq]at this
 simp only[beq_iff_eq]
 omega
theorem rng:(Qnb.all fun f=>decide (1≤f.op)&&decide (f.op≤16))=true∧(Qfr.all fun f=>decide (16≤f.op)&&decide (f.op≤47))=true∧(QiV.all fun f=>decide (48≤f.op)&&decide (f.op≤115))=true∧(QiW.all fun f=>decide (116≤f.op)&&decide (f.op≤135))=true∧(Qnc.all fun f=>decide (136≤f.op)&&decide (f.op≤262))=true∧(Qnd.all fun f=>decide (263≤f.op)&&decide (f.op≤322))=true:=
 ⟨by kernel_rfl,by kernel_rfl,by kernel_rfl,by kernel_rfl,by kernel_rfl,by kernel_rfl⟩
theorem QwG (op:Int):QaJ LL op op (fun f=>f.op==op) lis=Qb3.filter (fun f=>f.op==op):=by
 have key:∀ (a b:Int) (L:List Fm),(L.all fun f=>decide (a≤f.op)&&decide (f.op≤b))=true→(bif decide (op<a)||decide (op>b) then[] else L.filter fun f=>f.op==op)=L.filter fun f=>f.op==op:=fun a b L h=>by
  cases hc:decide (op<a)||decide (op>b) with
  | false=>rfl
  | true=>
   simp only[Bool.or_eq_true,decide_eq_true_eq]at hc
   rw[Qnf h hc];rfl
 obtain⟨r1,r2,r3,r4,r5,r6⟩:=rng
 have e:QaJ LL op op (fun f=>f.op==op) lis=(bif decide (op<1)||decide (op>16) then[] else Qnb.filter fun f=>f.op==op)++((bif decide (op<16)||decide (op>47) then[] else Qfr.filter fun f=>f.op==op)++((bif decide (op<48)||decide (op>115) then[] else QiV.filter fun f=>f.op==op)++((bif decide (op<116)||decide (op>135) then[] else QiW.filter fun f=>f.op==op)++((bif decide (op<136)||decide (op>262) then[] else Qnc.filter fun f=>f.op==op)++((bif decide (op<263)||decide (op>322) then[] else Qnd.filter fun f=>f.op==op)++[]))))):=rfl
 rw[e,key _ _ _ r1,key _ _ _ r2,key _ _ _ r3,key _ _ _ r4,key _ _ _ r5,key _ _ _ r6,List.append_nil]
 simp only[Qb3,List.filter_append]
theorem Qc0:Qb3.length=834:=by kernel_rfl
theorem Qht:(QY prog.globals.size tab.tabs).Wf:=fun id hid=>by
 cases hg:(QY prog.globals.size tab.tabs).get id with
 | none=>rfl
 | some b=>
  obtain⟨t,h1,h2,_⟩:=Xh hg
  have:=tab.tabs_low t h1
  have hid:prog.globals.size≤id:=hid
  subst h2
  exact absurd this (by show ¬t.id<prog.globals.size;omega)
theorem Qo1:Kk tab.tabs (QY prog.globals.size tab.tabs):=by unfold Kk;kernel_rfl
def tkn:CallF:=Qo0 tab.tabs LL
theorem QwH:CallOk prog tkn:=QqY tab.tabs_ok tab.tabs_low Qht Qo1 LL Qi0 (by kernel_rfl) (by kernel_rfl)
def knT:CallF:=Jd (xknown tab.xt) tkn
theorem QwI:CallOk prog knT:=orKnown_ok tab.xt_ok QwH
theorem QsZ (H:Qa) (hT:Kk tab.tabs H):Qf prog Wg [] H fun u H'=>Qfi H H' u Qb3:=by
 have:=Qfj Vl LL Qi0 H hT
 rwa [QuU,List.filter_eq_self.2 (fun _ _=>rfl)]at this
theorem QxJ (op:Int) (H:Qa) (hT:Kk tab.tabs H):Qf prog Yb [.int .i64 op] H fun u H'=>Qfi H H' u (Qb3.filter fun f=>f.op==op):=by
 have:=QiD Vl LL Qi0 op H hT
 rwa [QwG]at this
theorem Qfi.short {H H':Qa} {u:Value} {p:Fm→Bool} {ys:List Lf} (h:ys.map (·.f)=Qb3.filter p):ys.length≤834:=by
 have h1:=congrArg List.length h
 have h2:=List.length_filter_le p Qb3
 rw[Qc0]at h2
 simp only[List.length_map]at h1
 omega
end Go.Proofs.YtfofbicfabokbaaGreatDoor.code
