/- The law DecodeBy returns true for every input, over whatever memory that holds the listed tables. No condition. -/
import Derived.Test.YtfofbicfabokbaaGreatDoorY1By
import Derived.Test.YtfofbicfabokbaaGreatDoorY2Facts
import Derived.Deep.DeepWitnessRowRef
import Derived.ShutString
set_option linter.unusedVariables false
namespace Go.Proofs.YtfofbicfabokbaaGreatDoor.decodeBy
open Go.ChangeShapes Go.WideShapes Go.ChangeAt Go.RowKit _root_.Go.Proofs.YtfofbicfabokbaaGreatDoor.tab _root_.Go.Proofs.YtfofbicfabokbaaGreatDoor.code
theorem QyN:laidOutB Tryz.prog=true:=by kernel_rfl
theorem QGR:∀fs:Array Field,Tryz.prog.underlying 37=some (.struct fs)->∀i,i<10->∃f,fs[i]? = some f∧f.offset=i∧f.type=if i=1∨i=2 then 35 else if i=8 then 4 else 3:=λfs hf i hi=>by
 rw[Tryz.underlying37]at hf;cases hf;rcases i with _ | _ | _ | _ | _ | _ | _ | _ | _ | _ | i
 all_goals first
  | exact⟨_,rfl,rfl,rfl⟩
  | omega
theorem walk {w:World} (h:QpV w) (a0:Value) (ha0:QxM w a0) (a1:Value) (ha1:QpX w a1):Calls Tryz.prog 4 #[a0,a1] w λe w'=>e=.returned (.bool true)∧Below w.heap.size w w':=by
 obtain⟨x,l,u,ρ,H,hby,hs,hwf,hro,hx,hvx,hv,h1,h2,hbs,hc,hxb⟩:=QEE (Ab.sim_tabs (QEt h) (QCm h) tabs_ok) QpW QEC ha0 ha1;exact Ab.calls_of_callQ (args':=[a0,a1]) (QxN x u l hby H (Qeg _ _ QpW QxJ hx) h1 h2 ⟨hbs.by_,hc⟩ hxb) hwf (by kernel_rfl) hs (.cons (hvx) (.cons (hv) (.nil _))) hro
set_option maxRecDepth 100000
theorem contract (H:Type) (enc:TypeId×Value->H) (W:World) (base:Nat) (args:Array Value) (ds gs:List (DataW H)) (before:List MemPlace)
  (hval:∀ (j:Nat) t v,Tryz.f4.params[j]? = some t->args[j]? = some v->Value.okWide Tryz.prog W .any base t v)
  (hW:DataW.Whole enc Tryz.prog Tryz.f4.params.toList Rows.decodeBySpec.vars false W args.toList ds gs before) (hL:laidMetH Tryz.prog Rows.decodeByRow.laid W):
  Calls Tryz.prog 4 args W λe W'=>∃v,e=.returned v∧Rows.decodeBySpec.post enc Tryz.prog Tryz.f4 false true false false W args v W':=by
 have hW':=hW;obtain⟨p,q,hA0,hV,rfl,hfz,hnd⟩:=hW;have hA:DataW.TrodAll enc Tryz.prog W 0 (λ_=>true) true Tryz.f4.params.toList args.toList ds p:=hA0;rw[Tryz.params4]at hA hval;obtain⟨v0,vs0,d0,ds0,p0,q0,hargs,rfl,rfl,h0,r0⟩:=trodAll_cons hA;obtain⟨v1,vs1,d1,ds1,p1,q1,rfl,rfl,rfl,h1,r1⟩:=trodAll_cons r0;obtain⟨rfl,rfl,rfl⟩:=trodAll_nil r1;obtain rfl:args=#[v0,v1]:=by cases args;simp_all
 obtain⟨rfl,rfl⟩:=trodVars_none hV;have k0:=h0;have lt0:∀x∈p0,x.block<W.heap.size:=by obtain⟨m,hm⟩:=k0;exact DataW.trod_lt m _ _ _ hm
 have k1:=h1;have lt1:∀x∈p1,x.block<W.heap.size:=by obtain⟨m,hm⟩:=k1;exact DataW.trod_lt m _ _ _ hm
 obtain⟨cs0,ecs0,_⟩:=okWide_struct Tryz.underlying37 (hval 0 37 v0 rfl rfl);have w0:=QGP Tryz.underlying3 (by kernel_rfl) Tryz.underlying35 (by kernel_rfl) Tryz.underlying4 (by kernel_rfl) Tryz.underlying37 (by kernel_rfl) rfl (QGR _ Tryz.underlying37) ⟨cs0,ecs0⟩ h0;obtain⟨fuel1,hf1⟩:=h1;have w1:=QED Tryz.underlying22 Tryz.underlying5 (by kernel_rfl) hf1 (okWide_slice Tryz.underlying22 (hval 1 22 v1 rfl rfl));clear hA0;refine(walk (QjF hL) v0 w0 v1 w1).mono λe W' ⟨he,bel⟩=>?_;subst he;exact⟨_,rfl,Ab.post_below hW' (λ_ _ _=>(trodAll_cons_mk (shut_bool Tryz.underlying4 _) trodAll_mk0)) (trodAll_cons_mk (Below.trod QyN (by kernel_rfl) (of_decide_eq_true (by kernel_rfl)) k0 bel lt0) (trodAll_cons_mk (Below.trod QyN (by kernel_rfl) (of_decide_eq_true (by kernel_rfl)) k1 bel lt1) trodAll_mk0)) rfl bel⟩
theorem reads (os:Os) {H:Type} (enc:TypeId×Value->H):∃ds places,DataW.whole enc Tryz.prog ((Qom os).forCall (λ_ _=>0) ⟨#[],#[.agg #[.int .i64 0,.slice none 0 0,.slice none 0 0,.int .i64 0,.int .i64 0,.int .i64 0,.int .i64 0,.int .i64 0,.bool false,.int .i64 0],.slice none 0 0],[]⟩).memory Tryz.f4.params.toList Rows.decodeBySpec.vars false (#[.agg #[.int .i64 0,.slice none 0 0,.slice none 0 0,.int .i64 0,.int .i64 0,.int .i64 0,.int .i64 0,.int .i64 0,.bool false,.int .i64 0],.slice none 0 0]:Array Value).toList 8=some (ds,[],places):=
 ⟨[.agg [.lit (.int .i64 0),.nil,.nil,.lit (.int .i64 0),.lit (.int .i64 0),.lit (.int .i64 0),.lit (.int .i64 0),.lit (.int .i64 0),.lit (.bool false),.lit (.int .i64 0)],.nil],[],by kernel_rfl⟩
theorem lifted (os:Os) (started:os.Started) (H:Type) (enc:TypeId×Value->H) (F:Stop.Interp):
  ReturnsInHanded {} Tryz.checked os 4 .any ((OpenSpec.ofChange Rows.decodeBySpec).preRow enc Tryz.prog Tryz.f4 Rows.decodeByRow.domain false Rows.decodeByRow.laid) (((OpenSpec.ofChange Rows.decodeBySpec).at F).post enc Tryz.prog Tryz.f4 false true false false):=by
 obtain⟨ds,places,hx⟩:=reads os enc;refine returnsInHanded_of_row (C:=Tryz.checked) (s:=OpenSpec.ofChange Rows.decodeBySpec) own started (by kernel_rfl) Tryz.func4
  (witness_row_atRef (enc:=enc) (C:=Tryz.checked) false (Qom os) #[.agg #[.int .i64 0,.slice none 0 0,.slice none 0 0,.int .i64 0,.int .i64 0,.int .i64 0,.int .i64 0,.int .i64 0,.bool false,.int .i64 0],.slice none 0 0] rfl (by kernel_rfl) (by kernel_rfl) (by kernel_rfl)
   (OpenSpec.preRow_of_cond 8 hx (by kernel_rfl) (λk hk=>by cases hk) (by kernel_rfl) (laid_met os #[.agg #[.int .i64 0,.slice none 0 0,.slice none 0 0,.int .i64 0,.int .i64 0,.int .i64 0,.int .i64 0,.int .i64 0,.bool false,.int .i64 0],.slice none 0 0]))) ?_
 intro W base args ds gs before hval hW _ _ _ hL _ _;exact contract H enc W base args ds gs before hval hW hL
theorem said:Rows.DecodeBySaid:=
 OpenClaim.holds_of_cond 4 Tryz.f4 rfl rfl rfl rfl rfl rfl rfl ⟨rfl,rfl,rfl,rfl,rfl⟩ rfl rfl rfl rfl rfl named Tryz.func4 closed
  (of_decide_eq_true (by kernel_rfl)) (by unfold Func.isWrapper;first | (rw[if_pos (by decide +kernel)];kernel_rfl) | (rw[if_neg (by decide +kernel)];exact⟨rfl,rfl⟩))
  (λos started H enc _ F=>by rw[OpenClaim.pre_eq_preRow];exact lifted os started H enc F)
theorem plain (f:FuncId) (fn:Func) (hf:Tryz.pinned.checked.prog.funcNamed Tryz.f4.name=some f) (hfn:Tryz.pinned.checked.prog.funcs[f]? = some fn):
  true=Tryz.pinned.checked.prog.looks [37,22]∧∀ (j:Nat) t,fn.params[j]? = some t->Tryz.pinned.checked.prog.wantsStandIn t=false:=by
 obtain rfl:f=4:=Option.some.inj ((show Tryz.prog.funcNamed Tryz.f4.name=some 4 by kernel_rfl).symm.trans hf) |>.symm;obtain rfl:fn=Tryz.f4:=(Option.some.inj (Tryz.func4.symm.trans hfn)).symm;refine⟨by kernel_rfl,λj t ht=>?_⟩;rw[Tryz.params4]at ht;have hm:=List.mem_of_getElem? (l:=[37,22]) (i:=j) (a:=t) (by simpa using ht);have hk:∀t∈[37,22],Tryz.pinned.checked.prog.wantsStandIn t=false:=by
  have h:([37,22].all λt=>!(Tryz.pinned.checked.prog.wantsStandIn t))=true:=by kernel_rfl
  intro t ht;have:=List.all_eq_true.1 h t ht;simpa using this
 exact hk t hm
theorem card:Rows.DecodeByCardSaid:=
 Claim7.holds_tied_plain_at .later [] _ _ _ _ said (λ_ h=>by cases h) (by kernel_rfl) (λ_ h=>by cases h) decodeBy_row_tie rfl ⟨rfl,rfl⟩ (by kernel_rfl) rfl plain (by kernel_rfl)
end Go.Proofs.YtfofbicfabokbaaGreatDoor.decodeBy
