/- The law AsmKnown returns true: a closed run, over whatever memory that holds the listed tables. No condition. -/
import Derived.Test.YtbkbdnlfkahaaaaGreatDoorY1Ran
import Derived.Test.YtbkbdnlfkahaaaaGreatDoorY1Facts
import Derived.Deep.DeepWitnessRowRef
import Derived.Test.YtbkbdnlfkahaaaaGreatDoorS9Tie
import Derived.Test.YtbkbdnlfkahaaaaGreatDoorS8Goes
set_option maxRecDepth 100000
namespace Go.Proofs.YtbkbdnlfkahaaaaGreatDoor.asmKnown
open Go.ChangeShapes Go.WideShapes Go.ChangeAt Go.RowKit _root_.Go.Proofs.YtbkbdnlfkahaaaaGreatDoor.tab
theorem walk {w:World} (h:KO w):Calls Tryz.prog 4 #[] w λe w'=>e=.returned (.bool true)∧Below w.heap.size w w':=
 Ab.calls_tabs (args:=[]) code.more10_ok (by kernel_rfl) rfl tabs_ok ran (QiH h) (Qgu h)
theorem contract (H:Type) (enc:TypeId×Value->H) (W:World) (args:Array Value) (ds gs:List (DataW H)) (before:List MemPlace)
  (hW:DataW.Whole enc Tryz.prog Tryz.f4.params.toList Rows.asmKnownSpec.vars false W args.toList ds gs before) (hL:laidMetH Tryz.prog Rows.asmKnownRow.laid W):
  Calls Tryz.prog 4 args W λe W'=>∃v,e=.returned v∧Rows.asmKnownSpec.post enc Tryz.prog Tryz.f4 false true false false W args v W':=by
 have hW':=hW;obtain⟨p,q,hA0,hV,rfl,hfz,hnd⟩:=hW;have hA:DataW.TrodAll enc Tryz.prog W 0 (λ_=>true) true Tryz.f4.params.toList args.toList ds p:=hA0;rw[Tryz.params4]at hA;obtain⟨rfl,rfl,rfl⟩:=trodAll_none hA;obtain⟨rfl,rfl⟩:=trodVars_none hV;clear hA0;simp only[List.append_nil]at hW';refine(walk (Y9 hL)).mono λe W' ⟨he,hb⟩=>?_;subst he;exact⟨_,rfl,Ab.post_below (pa:=[]) (pv:=[]) hW' (λ_ _ _=>(trodAll_cons_mk (shut_bool Tryz.underlying4 _) trodAll_mk0)) rfl rfl hb⟩
theorem reads (os:Os) {H:Type} (enc:TypeId×Value->H):∃places,DataW.whole enc Tryz.prog ((JJ os).forCall (λ_ _=>0) ⟨#[],#[],[]⟩).memory Tryz.f4.params.toList Rows.asmKnownSpec.vars false (#[]:Array Value).toList 8=some ([],[],places):=
 ⟨[],by kernel_rfl⟩
theorem lifted (os:Os) (started:os.Started) (H:Type) (enc:TypeId×Value->H) (F:Stop.Interp):
  ReturnsInHanded {} Tryz.checked os 4 .any ((OpenSpec.ofChange Rows.asmKnownSpec).preRow enc Tryz.prog Tryz.f4 Rows.asmKnownRow.domain false Rows.asmKnownRow.laid) (((OpenSpec.ofChange Rows.asmKnownSpec).at F).post enc Tryz.prog Tryz.f4 false true false false):=by
 obtain⟨places,hx⟩:=reads os enc;refine returnsInHanded_of_row (C:=Tryz.checked) (s:=OpenSpec.ofChange Rows.asmKnownSpec) own started (by kernel_rfl) Tryz.func4
  (witness_row_atRef (enc:=enc) (C:=Tryz.checked) false (JJ os) #[] rfl (by kernel_rfl) (by kernel_rfl) (by kernel_rfl)
   (OpenSpec.preRow_of_cond 8 hx (by kernel_rfl) (λk hk=>by cases hk) (by kernel_rfl) (laid_met os #[]))) ?_
 intro W base args ds gs before hval hW _ _ _ hL _ _;exact contract H enc W args ds gs before hW hL
theorem said:Rows.AsmKnownSaid:=
 OpenClaim.holds_of_cond 4 Tryz.f4 rfl rfl rfl rfl rfl rfl rfl ⟨rfl,rfl,rfl,rfl,rfl⟩ rfl rfl rfl rfl rfl named Tryz.func4 closed
  (of_decide_eq_true (by kernel_rfl)) (by unfold Func.isWrapper;first | (rw[if_pos (by decide +kernel)];kernel_rfl) | (rw[if_neg (by decide +kernel)];exact⟨rfl,rfl⟩))
  (λos started H enc _ F=>by rw[OpenClaim.pre_eq_preRow];exact lifted os started H enc F)
theorem plain (f:FuncId) (fn:Func) (hf:Tryz.pinned.checked.prog.funcNamed Tryz.f4.name=some f) (hfn:Tryz.pinned.checked.prog.funcs[f]? = some fn):
  true=Tryz.pinned.checked.prog.looks []∧∀ (j:Nat) t,fn.params[j]? = some t->Tryz.pinned.checked.prog.wantsStandIn t=false:=by
 obtain rfl:f=4:=Option.some.inj ((show Tryz.prog.funcNamed Tryz.f4.name=some 4 by kernel_rfl).symm.trans hf) |>.symm;obtain rfl:fn=Tryz.f4:=(Option.some.inj (Tryz.func4.symm.trans hfn)).symm;refine⟨by kernel_rfl,λj t ht=>?_⟩;rw[Tryz.params4]at ht;simp at ht
theorem card:Rows.AsmKnownCardSaid:=
 Claim7.holds_tied_plain_at .later [] _ _ _ _ said (λ_ h=>by cases h) (by kernel_rfl) (λ_ h=>by cases h) tie1.asmKnown_row_tie rfl ⟨rfl,rfl⟩ (by kernel_rfl) rfl plain (goes0.goesBy_none goes0.none_goes _ rfl)
end Go.Proofs.YtbkbdnlfkahaaaaGreatDoor.asmKnown
