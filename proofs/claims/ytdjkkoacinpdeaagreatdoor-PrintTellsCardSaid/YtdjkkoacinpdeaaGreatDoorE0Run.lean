/- Closed runs over tables, of values that are structs of plain ones, as contracts. -/
import Derived.Test.YtdjkkoacinpdeaaGreatDoorLibO
set_option linter.unusedVariables false
set_option maxRecDepth 100000
namespace Go.Proofs.YtdjkkoacinpdeaaGreatDoor.code
open Go.Ab
def QiD:Value→Bool
 | .agg xs=>xs.toList.all Ab.plain
 | v=>Ab.plain v
theorem QtT {τ:Nat→Nat} {n:Nat} {v:Value} (h:QiD v=true):Qcn τ n v v:=by
 unfold QiD at h
 split at h
 ·rename_i xs
  have e:Value.agg xs=Value.agg xs.toList.toArray:=by simp
  rw[e]
  refine Qcn.agg rfl fun j x y hx hy=>?_
  rw[hx]at hy
  cases hy
  exact Qcn.plain (List.all_eq_true.1 h x (List.mem_of_getElem? hx))
 ·exact Qcn.plain h
theorem QfX {known:CallF} (hk:CallOk prog known) {F G k:Nat} {f:FuncId} {args:List Value} {tabs:List Tab} {u:Value} (hto:tabsOk tabs=true) (he:entered prog f=true) (ha:args.all QiD=true) (hu:Ab.plain u=true) (h:isV u ((run prog known F G k).fn f args (XZ prog.globals.size tabs))=true) (H:Qa) (hT:Qcm tabs H=true):Qf prog f args H fun v H'=>v=u∧H'=H:=by
 unfold isV at h
 split at h
 ·rename_i v H1 hr
  have hd:=((Qgk hk k).fn f args _ _ H1 hr).does he
  have e:u=v:=QbY 6 _ _ h
  subst e
  refine Qex he (QoR (args:=args) (args2:=args) (τ:=fun n=>n) hd hu (Nat.le_refl _) (fun _ _=>rfl) (fun id b hb=>?_) rfl fun j x y hx hy=>?_)
  ·have hg:=Qe7 hT id b hb
   obtain⟨t,ht1,rfl,rfl⟩:=Yt hb
   refine⟨t.c,t.e,t.c,t.e,true,rfl,hg,rfl,fun j x y hx hy=>?_⟩
   rw[hx]at hy
   cases hy
   exact Qcn.plain (List.all_eq_true.1 (List.all_eq_true.1 hto t ht1) x (List.mem_of_getElem? hx))
  ·rw[hx]at hy
   cases hy
   exact QtT (List.all_eq_true.1 ha x (List.mem_of_getElem? hx))
 ·cases h
end Go.Proofs.YtdjkkoacinpdeaaGreatDoor.code
