/- The law ListingBack returns true for every input, over whatever memory that holds the listed tables. No condition. -/
import Derived.Test.YthoanamkoigjeaaDoorA5Imgs
import Derived.Deep.DeepWitnessRowRef
import Derived.ShutString
set_option linter.unusedVariables false
namespace Go.Proofs.YthoanamkoigjeaaDoor.listingBack
open Go.ChangeShapes Go.WideShapes Go.ChangeAt Go.RowKit _root_.Go.Proofs.YthoanamkoigjeaaDoor.tab _root_.Go.Proofs.YthoanamkoigjeaaDoor.code
theorem QpC:laidOutB Tryd.prog=true:=by kernel_rfl
theorem QpW:QpB 26 0 22 5 47 23 50 24 3 9 4 where
 int:=Tryd.underlying3
 str:=Tryd.underlying9
 bool:=Tryd.underlying4
 u8:=Tryd.underlying5
 bs:=Tryd.underlying22
 sys:=Tryd.underlying23
 mks:=Tryd.underlying24
 c3:=⟨by kernel_rfl,by kernel_rfl,by kernel_rfl⟩
 c1:=⟨by kernel_rfl,by kernel_rfl,by kernel_rfl,by kernel_rfl,by kernel_rfl,by kernel_rfl,by kernel_rfl⟩
 fsy:=⟨_,_,_,Tryd.underlying47,⟨rfl,rfl⟩,⟨rfl,rfl⟩,⟨rfl,rfl⟩⟩
 fmk:=⟨_,_,_,Tryd.underlying50,⟨rfl,rfl⟩,⟨rfl,rfl⟩,⟨rfl,rfl⟩⟩
 fimg:=⟨_,Tryd.underlying26,rfl,fun i hi=>by
  rcases i with _ | _ | _ | _ | i
  all_goals first
   | exact⟨_,rfl,rfl,rfl⟩
   | omega⟩
theorem walk {w:World} (h:Qpt w) (a0:Value) (ha0:QpI w a0) (a1:Value) (ha1:Qpz w a1):Calls Tryd.prog 3 #[a0,a1] w fun e w'=>e=.returned (.bool true)∧Below w.heap.size w w':=by
 obtain⟨x,ub,us,um,ρ,H,hs,hwf,hro,hx,hv,hI⟩:=QpR (Ab.sim_tabs (QpK h) (QpE h) tabs_ok) QpA QpL ha0
 obtain⟨l,hl⟩:=QpJ ha1
 obtain⟨u,ρ2,H2,s2,hs2,hwf2,hro2,hx2,hv2,hI2,_⟩:=Qpw 9 (fun u hu=>by obtain⟨z,_,rfl⟩:=List.mem_map.1 hu;rfl) hs hwf hro hl
 exact Ab.calls_of_callQ (args':=[a0,a1]) (Qpa x ub us um l u H2 (Qmj _ _ QpA QpN (hx.trans hx2)) (hI.more hwf hx2) hI2) hwf2 (by kernel_rfl) hs2 (.cons (hv.mono s2) (.cons hv2 (.nil _))) hro2
set_option maxRecDepth 100000
theorem contract (H:Type) (enc:TypeId×Value→H) (W:World) (base:Nat) (args:Array Value) (ds gs:List (DataW H)) (before:List MemPlace)
  (hval:∀ (j:Nat) t v,Tryd.f3.params[j]? = some t→args[j]? = some v→Value.okWide Tryd.prog W .any base t v)
  (hW:DataW.Whole enc Tryd.prog Tryd.f3.params.toList Rows.listingBackSpec.vars false W args.toList ds gs before) (hL:laidMetH Tryd.prog Rows.listingBackRow.laid W):
  Calls Tryd.prog 3 args W fun e W'=>∃v,e=.returned v∧Rows.listingBackSpec.post enc Tryd.prog Tryd.f3 false true false false W args v W':=by
 have hW':=hW
 obtain⟨p,q,hA0,hV,rfl,hfz,hnd⟩:=hW
 have hA:DataW.TrodAll enc Tryd.prog W 0 (fun _=>true) true Tryd.f3.params.toList args.toList ds p:=hA0
 rw[Tryd.params3]at hA hval
 obtain⟨v0,vs0,d0,ds0,p0,q0,hargs,rfl,rfl,h0,r0⟩:=trodAll_cons hA
 obtain⟨v1,vs1,d1,ds1,p1,q1,rfl,rfl,rfl,h1,r1⟩:=trodAll_cons r0
 obtain⟨rfl,rfl,rfl⟩:=trodAll_nil r1
 obtain rfl:args=#[v0,v1]:=by cases args;simp_all
 obtain⟨rfl,rfl⟩:=trodVars_none hV
 have k0:=h0
 have lt0:∀x∈p0,x.block<W.heap.size:=by obtain⟨m,hm⟩:=k0;exact DataW.trod_lt m _ _ _ hm
 have k1:=h1
 have lt1:∀x∈p1,x.block<W.heap.size:=by obtain⟨m,hm⟩:=k1;exact DataW.trod_lt m _ _ _ hm
 obtain⟨cs0,ecs0,_⟩:=okWide_struct Tryd.underlying26 (hval 0 26 v0 rfl rfl)
 have w0:=QpV QpW ⟨cs0,ecs0⟩ h0
 obtain⟨fuel1,hf1⟩:=h1
 have w1:=QpO Tryd.underlying27 Tryd.underlying9 (by kernel_rfl) hf1 (okWide_slice Tryd.underlying27 (hval 1 27 v1 rfl rfl))
 clear hA0
 refine(walk (QpS hL) v0 w0 v1 w1).mono fun e W' ⟨he,bel⟩=>?_
 subst he
 exact⟨_,rfl,Ab.post_below hW' (fun _ _ _=>(trodAll_cons_mk (shut_bool Tryd.underlying4 _) trodAll_mk0)) (trodAll_cons_mk (Below.trod QpC (by kernel_rfl) (of_decide_eq_true (by kernel_rfl)) k0 bel lt0) (trodAll_cons_mk (Below.trod QpC (by kernel_rfl) (of_decide_eq_true (by kernel_rfl)) k1 bel lt1) trodAll_mk0)) rfl bel⟩
theorem reads (os:Os) {H:Type} (enc:TypeId×Value→H):∃ds places,DataW.whole enc Tryd.prog ((Qps os).forCall (fun _ _=>0) ⟨#[],#[.agg #[.int .i64 0,.slice none 0 0,.slice none 0 0,.slice none 0 0],.slice none 0 0],[]⟩).memory Tryd.f3.params.toList Rows.listingBackSpec.vars false (#[.agg #[.int .i64 0,.slice none 0 0,.slice none 0 0,.slice none 0 0],.slice none 0 0]:Array Value).toList 8=some (ds,[],places):=
 ⟨[.agg [.lit (.int .i64 0),.nil,.nil,.nil],.nil],[],by kernel_rfl⟩
theorem lifted (os:Os) (started:os.Started) (H:Type) (enc:TypeId×Value→H) (F:Stop.Interp):
  ReturnsInHanded {} Tryd.checked os 3 .any ((OpenSpec.ofChange Rows.listingBackSpec).preRow enc Tryd.prog Tryd.f3 Rows.listingBackRow.domain false Rows.listingBackRow.laid) (((OpenSpec.ofChange Rows.listingBackSpec).at F).post enc Tryd.prog Tryd.f3 false true false false):=by
 obtain⟨ds,places,hx⟩:=reads os enc
 refine returnsInHanded_of_row (C:=Tryd.checked) (s:=OpenSpec.ofChange Rows.listingBackSpec) own started (by kernel_rfl) Tryd.func3
  (witness_row_atRef (enc:=enc) (C:=Tryd.checked) false (Qps os) #[.agg #[.int .i64 0,.slice none 0 0,.slice none 0 0,.slice none 0 0],.slice none 0 0] rfl (by kernel_rfl) (by kernel_rfl) (by kernel_rfl)
   (OpenSpec.preRow_of_cond 8 hx (by kernel_rfl) (fun k hk=>by cases hk) (by kernel_rfl) (laid_met os #[.agg #[.int .i64 0,.slice none 0 0,.slice none 0 0,.slice none 0 0],.slice none 0 0]))) ?_
 intro W base args ds gs before hval hW _ _ _ hL _ _
 exact contract H enc W base args ds gs before hval hW hL
theorem said:Rows.ListingBackSaid:=
 OpenClaim.holds_of_cond 3 Tryd.f3 rfl rfl rfl rfl rfl rfl rfl ⟨rfl,rfl,rfl,rfl,rfl⟩ rfl rfl rfl rfl rfl (by kernel_rfl) Tryd.func3 (by kernel_rfl)
  (of_decide_eq_true (by kernel_rfl)) (by unfold Func.isWrapper;first | (rw[if_pos (by decide +kernel)];kernel_rfl) | (rw[if_neg (by decide +kernel)];exact⟨rfl,rfl⟩))
  (fun os started H enc _ F=>by rw[OpenClaim.pre_eq_preRow];exact lifted os started H enc F)
theorem plain (f:FuncId) (fn:Func) (hf:Tryd.pinned.checked.prog.funcNamed Tryd.f3.name=some f) (hfn:Tryd.pinned.checked.prog.funcs[f]? = some fn):
  false=Tryd.pinned.checked.prog.looks []∧∀ (j:Nat) t,fn.params[j]? = some t→Tryd.pinned.checked.prog.wantsStandIn t=false:=by
 obtain rfl:f=3:=Option.some.inj ((show Tryd.prog.funcNamed Tryd.f3.name=some 3 by kernel_rfl).symm.trans hf) |>.symm
 obtain rfl:fn=Tryd.f3:=(Option.some.inj (Tryd.func3.symm.trans hfn)).symm
 refine⟨by kernel_rfl,fun j t ht=>?_⟩
 rw[Tryd.params3]at ht
 have hm:=List.mem_of_getElem? (l:=[26,27]) (i:=j) (a:=t) (by simpa using ht)
 have hk:∀t∈[26,27],Tryd.pinned.checked.prog.wantsStandIn t=false:=by
  have h:([26,27].all fun t=>!(Tryd.pinned.checked.prog.wantsStandIn t))=true:=by kernel_rfl
  intro t ht
  have:=List.all_eq_true.1 h t ht
  simpa using this
 exact hk t hm
theorem card:Rows.ListingBackCardSaid:=
 Claim7.holds_tied_plain_at .later [] _ _ _ _ said (fun _ h=>by cases h) (by kernel_rfl) (fun _ h=>by cases h) listingBack_row_tie rfl ⟨rfl,rfl⟩ (by kernel_rfl) rfl plain (by kernel_rfl)
end Go.Proofs.YthoanamkoigjeaaDoor.listingBack
