/- The law DecodeBytes returns true for every input, over whatever memory that holds the listed tables. No condition. -/
import Derived.Test.YtfofbicfabokbaaGreatDoorLibX
import Derived.Test.YtfofbicfabokbaaGreatDoorY3Facts
import Derived.Deep.DeepWitnessRowRef
import Derived.ShutString
set_option linter.unusedVariables false
namespace Go.Proofs.YtfofbicfabokbaaGreatDoor.decodeBytes
open Go.ChangeShapes Go.WideShapes Go.ChangeAt Go.RowKit _root_.Go.Proofs.YtfofbicfabokbaaGreatDoor.tab _root_.Go.Proofs.YtfofbicfabokbaaGreatDoor.code
theorem QyN:laidOutB Tryz.prog=true:=by kernel_rfl
theorem walk {w:World} (h:QpV w) (a0:Value) (ha0:QpX w a0):Calls Tryz.prog 3 #[a0] w λe w'=>e=.returned (.bool true)∧Below w.heap.size w w':=by
 obtain⟨l,u,ρ,H,hby,hs,hwf,hro,hx,hv,hbs,hc⟩:=QGN (Ab.sim_tabs (QEt h) (QCm h) tabs_ok) QpW QEC ha0;exact Ab.calls_of_callQ (args':=[a0]) (QI9 u l hby H (Qeg _ _ QpW QxJ hx) ⟨hbs.by_,hc⟩) hwf (by kernel_rfl) hs (.cons (hv) (.nil _)) hro
set_option maxRecDepth 100000
theorem contract (H:Type) (enc:TypeId×Value->H) (W:World) (base:Nat) (args:Array Value) (ds gs:List (DataW H)) (before:List MemPlace)
  (hval:∀ (j:Nat) t v,Tryz.f3.params[j]? = some t->args[j]? = some v->Value.okWide Tryz.prog W .any base t v)
  (hW:DataW.Whole enc Tryz.prog Tryz.f3.params.toList Rows.decodeBytesSpec.vars false W args.toList ds gs before) (hL:laidMetH Tryz.prog Rows.decodeBytesRow.laid W):
  Calls Tryz.prog 3 args W λe W'=>∃v,e=.returned v∧Rows.decodeBytesSpec.post enc Tryz.prog Tryz.f3 false true false false W args v W':=by
 have hW':=hW;obtain⟨p,q,hA0,hV,rfl,hfz,hnd⟩:=hW;have hA:DataW.TrodAll enc Tryz.prog W 0 (λ_=>true) true Tryz.f3.params.toList args.toList ds p:=hA0;rw[Tryz.params3]at hA hval;obtain⟨v0,vs0,d0,ds0,p0,q0,hargs,rfl,rfl,h0,r0⟩:=trodAll_cons hA;obtain⟨rfl,rfl,rfl⟩:=trodAll_nil r0;obtain rfl:args=#[v0]:=by cases args;simp_all
 obtain⟨rfl,rfl⟩:=trodVars_none hV;have k0:=h0;have lt0:∀x∈p0,x.block<W.heap.size:=by obtain⟨m,hm⟩:=k0;exact DataW.trod_lt m _ _ _ hm
 obtain⟨fuel0,hf0⟩:=h0;have w0:=QED Tryz.underlying22 Tryz.underlying5 (by kernel_rfl) hf0 (okWide_slice Tryz.underlying22 (hval 0 22 v0 rfl rfl));clear hA0;refine(walk (QjF hL) v0 w0).mono λe W' ⟨he,bel⟩=>?_;subst he;exact⟨_,rfl,Ab.post_below hW' (λ_ _ _=>(trodAll_cons_mk (shut_bool Tryz.underlying4 _) trodAll_mk0)) (trodAll_cons_mk (Below.trod QyN (by kernel_rfl) (of_decide_eq_true (by kernel_rfl)) k0 bel lt0) trodAll_mk0) rfl bel⟩
theorem reads (os:Os) {H:Type} (enc:TypeId×Value->H):∃ds places,DataW.whole enc Tryz.prog ((Qom os).forCall (λ_ _=>0) ⟨#[],#[.slice none 0 0],[]⟩).memory Tryz.f3.params.toList Rows.decodeBytesSpec.vars false (#[.slice none 0 0]:Array Value).toList 8=some (ds,[],places):=
 ⟨[.nil],[],by kernel_rfl⟩
theorem lifted (os:Os) (started:os.Started) (H:Type) (enc:TypeId×Value->H) (F:Stop.Interp):
  ReturnsInHanded {} Tryz.checked os 3 .any ((OpenSpec.ofChange Rows.decodeBytesSpec).preRow enc Tryz.prog Tryz.f3 Rows.decodeBytesRow.domain false Rows.decodeBytesRow.laid) (((OpenSpec.ofChange Rows.decodeBytesSpec).at F).post enc Tryz.prog Tryz.f3 false true false false):=by
 obtain⟨ds,places,hx⟩:=reads os enc;refine returnsInHanded_of_row (C:=Tryz.checked) (s:=OpenSpec.ofChange Rows.decodeBytesSpec) own started (by kernel_rfl) Tryz.func3
  (witness_row_atRef (enc:=enc) (C:=Tryz.checked) false (Qom os) #[.slice none 0 0] rfl (by kernel_rfl) (by kernel_rfl) (by kernel_rfl)
   (OpenSpec.preRow_of_cond 8 hx (by kernel_rfl) (λk hk=>by cases hk) (by kernel_rfl) (laid_met os #[.slice none 0 0]))) ?_
 intro W base args ds gs before hval hW _ _ _ hL _ _;exact contract H enc W base args ds gs before hval hW hL
theorem said:Rows.DecodeBytesSaid:=
 OpenClaim.holds_of_cond 3 Tryz.f3 rfl rfl rfl rfl rfl rfl rfl ⟨rfl,rfl,rfl,rfl,rfl⟩ rfl rfl rfl rfl rfl named Tryz.func3 closed
  (of_decide_eq_true (by kernel_rfl)) (by unfold Func.isWrapper;first | (rw[if_pos (by decide +kernel)];kernel_rfl) | (rw[if_neg (by decide +kernel)];exact⟨rfl,rfl⟩))
  (λos started H enc _ F=>by rw[OpenClaim.pre_eq_preRow];exact lifted os started H enc F)
theorem plain (f:FuncId) (fn:Func) (hf:Tryz.pinned.checked.prog.funcNamed Tryz.f3.name=some f) (hfn:Tryz.pinned.checked.prog.funcs[f]? = some fn):
  true=Tryz.pinned.checked.prog.looks [22]∧∀ (j:Nat) t,fn.params[j]? = some t->Tryz.pinned.checked.prog.wantsStandIn t=false:=by
 obtain rfl:f=3:=Option.some.inj ((show Tryz.prog.funcNamed Tryz.f3.name=some 3 by kernel_rfl).symm.trans hf) |>.symm;obtain rfl:fn=Tryz.f3:=(Option.some.inj (Tryz.func3.symm.trans hfn)).symm;refine⟨by kernel_rfl,λj t ht=>?_⟩;rw[Tryz.params3]at ht;have hm:=List.mem_of_getElem? (l:=[22]) (i:=j) (a:=t) (by simpa using ht);have hk:∀t∈[22],Tryz.pinned.checked.prog.wantsStandIn t=false:=by
  have h:([22].all λt=>!(Tryz.pinned.checked.prog.wantsStandIn t))=true:=by kernel_rfl
  intro t ht;have:=List.all_eq_true.1 h t ht;simpa using this
 exact hk t hm
theorem card:Rows.DecodeBytesCardSaid:=
 Claim7.holds_tied_plain_at .later [] _ _ _ _ said (λ_ h=>by cases h) (by kernel_rfl) (λ_ h=>by cases h) decodeBytes_row_tie rfl ⟨rfl,rfl⟩ (by kernel_rfl) rfl plain (by kernel_rfl)
end Go.Proofs.YtfofbicfabokbaaGreatDoor.decodeBytes
