/- The laid tables. -/
import Derived.Test.YthoanamkoigjeaaDoorLibX
import Derived.Test.YthoanamkoigjeaaDoorS1Laid
set_option linter.unusedVariables false
set_option linter.unusedSimpArgs false
set_option maxRecDepth 100000
namespace Go.Proofs.YthoanamkoigjeaaDoor.code
open Go.Ab
def QkH (tabs:List Tab) (H:Qa):Prop:=QgH tabs H=true
theorem Qmj {tabs:List Tab} (H H':Qa) (hw:H.Wf) (h:QkH tabs H) (hx:Ext H H'):QkH tabs H':=by
 unfold QkH QgH at *
 rw[List.all_eq_true]at *
 intro t ht
 have h1:=h t ht
 cases hg:H.get t.id with
 | none=>rw[hg]at h1;cases h1
 | some b=>rw[hx.get _ (hw.lt hg)];exact h1
theorem QpG:∀t∈tab.tabs,t.id<prog.globals.size:=by
 have h:(tab.tabs.all fun t=>Nat.blt t.id prog.globals.size)=true:=by kernel_rfl
 intro t ht
 have:=List.all_eq_true.1 h t ht
 rwa [Nat.blt_eq]at this
theorem QpA:(KF prog.globals.size tab.tabs).Wf:=fun id hid=>by
 cases hg:(KF prog.globals.size tab.tabs).get id with
 | none=>rfl
 | some b=>
  obtain⟨t,h1,h2,_⟩:=GP hg
  have:=QpG t h1
  have hid:prog.globals.size≤id:=hid
  subst h2
  exact absurd this (by show ¬t.id<prog.globals.size;omega)
theorem QpN:QkH tab.tabs (KF prog.globals.size tab.tabs):=by unfold QkH;kernel_rfl
theorem QpL:QfO (KF prog.globals.size tab.tabs):=fun id b h=>by
 obtain⟨t,_,_,rfl⟩:=GP h
 rfl
theorem QhS {F G k:Nat} {f:FuncId} {args:List Value} {u:Value} (he:Qv prog f=true) (ha:args.all Ab.plain=true) (hu:Ab.plain u=true) (h:isV u ((run prog (Qcu Qkv) F G k).fn f args (KF prog.globals.size tab.tabs))=true) (H:Qa) (hT:QkH tab.tabs H):Qf prog f args H fun v H'=>v=u∧H'=H:=by
 unfold isV at h
 split at h
 ·rename_i v H1 hr
  have hd:=((QfD (QfE Qjz) k).fn f args _ _ H1 hr).does he
  have e:u=v:=QaS 6 _ _ h
  subst e
  refine Qbf he (Qku (args:=args) (args2:=args) (τ:=fun n=>n) hd hu (Nat.le_refl _) (fun _ _=>rfl) (fun id b hb=>?_) rfl fun j x y hx hy=>?_)
  ·have hg:=QbD hT id b hb
   obtain⟨t,ht1,rfl,rfl⟩:=GP hb
   refine⟨t.c,t.e,t.c,t.e,true,rfl,hg,rfl,fun j x y hx hy=>?_⟩
   rw[hx]at hy
   cases hy
   exact Qa9.plain (List.all_eq_true.1 (List.all_eq_true.1 tab.tabs_ok t ht1) x (List.mem_of_getElem? hx))
  ·rw[hx]at hy
   cases hy
   exact Qa9.plain (List.all_eq_true.1 ha x (List.mem_of_getElem? hx))
 ·cases h
theorem Qpq:isV (.int .i64 4) ((run prog (Qcu Qkv) 200 5 12).fn WX [.int .u64 16] (KF prog.globals.size tab.tabs))=true:=by kernel_rfl
theorem QnA:Tz (QkH tab.tabs) where
 q:=⟨fun H H' hw h hx=>Qmj H H' hw h hx,fun H hT=>QhS (by kernel_rfl) rfl rfl Qpq H hT⟩
 pow:=fun H hT=>by
  have h:(KF prog.globals.size tab.tabs).get QL=some (.cells QiZ (tab.tabs[0]?.elim 0 (·.e)) true):=by kernel_rfl
  exact⟨_,_,QbD hT _ _ h⟩
theorem QnB:isV (.bool true) ((run prog (Qcu Qkv) 100000 5 60).fn Yc [] (KF prog.globals.size tab.tabs))=true:=by kernel_rfl
end Go.Proofs.YthoanamkoigjeaaDoor.code
