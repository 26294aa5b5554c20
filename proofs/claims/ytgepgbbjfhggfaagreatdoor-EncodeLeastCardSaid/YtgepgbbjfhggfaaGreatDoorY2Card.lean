/- The law EncodeLeast returns true for every input, over whatever memory that holds the listed tables. No condition. -/
import Derived.Test.YtgepgbbjfhggfaaGreatDoorY1Least
import Derived.Test.YtgepgbbjfhggfaaGreatDoorY2Facts
import Derived.Deep.DeepWitnessRowRef
import Derived.Test.YtgepgbbjfhggfaaGreatDoorS9Tie
import Derived.Test.YtgepgbbjfhggfaaGreatDoorS8Goes
import Derived.ShutString
set_option linter.unusedVariables false
namespace Go.Proofs.YtgepgbbjfhggfaaGreatDoor.encodeLeast
open Go.ChangeShapes Go.WideShapes Go.ChangeAt Go.RowKit _root_.Go.Proofs.YtgepgbbjfhggfaaGreatDoor.tab _root_.Go.Proofs.YtgepgbbjfhggfaaGreatDoor.code
theorem Qt0:laidOutB Tryz.prog=true:=by kernel_rfl
theorem QmC:QeX 3 1:=Qs3 Tryz.underlying3 (by kernel_rfl)
theorem QwP:QeX 54 2:=Qbp Tryz.underlying54 [1,1] rfl (by kernel_rfl) fun i hi=>by
 rcases i with _ | _ | i
 ·exact⟨_,rfl,rfl,QmC⟩
 ·exact⟨_,rfl,rfl,QmC⟩
 ·simp at hi;omega
theorem QA9:QeX 56 7:=Qbp Tryz.underlying56 [2,2,1,1,1] rfl (by kernel_rfl) fun i hi=>by
 rcases i with _ | _ | _ | _ | _ | i
 ·exact⟨_,rfl,rfl,QwP⟩
 ·exact⟨_,rfl,rfl,QwP⟩
 ·exact⟨_,rfl,rfl,QmC⟩
 ·exact⟨_,rfl,rfl,QmC⟩
 ·exact⟨_,rfl,rfl,QmC⟩
 ·simp at hi;omega
theorem QBa:QeX 58 11:=Qbp Tryz.underlying58 [1,2,7,1] rfl (by kernel_rfl) fun i hi=>by
 rcases i with _ | _ | _ | _ | i
 ·exact⟨_,rfl,rfl,QmC⟩
 ·exact⟨_,rfl,rfl,QwP⟩
 ·exact⟨_,rfl,rfl,QA9⟩
 ·exact⟨_,rfl,rfl,QmC⟩
 ·simp at hi;omega
theorem walk {w:World} (h:Qk0 w) (a0:Value) (ha0:Qs4 w a0) (a1:Int) (ha1:I64 a1):Calls Tryz.prog 4 #[a0,.int .i64 a1] w fun e w'=>e=.returned (.bool true)∧Below w.heap.size w w':=by
 obtain⟨op,u,l,ρ,H,hop,s1,hs,hwf,hro,hx,hv,hbs,hI,hb⟩:=QwO (Ab.sim_tabs (Qyr h) (QwL h) tabs_ok) QtZ Qyu ha0
 exact Ab.calls_of_callQ (args':=[a0,.int .i64 a1]) (QA7 op u l a1 ha1 H (QiI _ _ QtZ Qz2 hx) hbs hb hI) hwf (by kernel_rfl) hs (.cons (hv) (.cons (.same _ rfl) (.nil _))) hro
set_option maxRecDepth 100000
theorem contract (H:Type) (enc:TypeId×Value→H) (W:World) (base:Nat) (args:Array Value) (ds gs:List (DataW H)) (before:List MemPlace)
  (hval:∀ (j:Nat) t v,Tryz.f4.params[j]? = some t→args[j]? = some v→Value.okWide Tryz.prog W .any base t v)
  (hW:DataW.Whole enc Tryz.prog Tryz.f4.params.toList Rows.encodeLeastSpec.vars false W args.toList ds gs before) (hL:laidMetH Tryz.prog Rows.encodeLeastRow.laid W):
  Calls Tryz.prog 4 args W fun e W'=>∃v,e=.returned v∧Rows.encodeLeastSpec.post enc Tryz.prog Tryz.f4 false true false false W args v W':=by
 have hW':=hW
 obtain⟨p,q,hA0,hV,rfl,hfz,hnd⟩:=hW
 have hA:DataW.TrodAll enc Tryz.prog W 0 (fun _=>true) true Tryz.f4.params.toList args.toList ds p:=hA0
 rw[Tryz.params4]at hA hval
 obtain⟨v0,vs0,d0,ds0,p0,q0,hargs,rfl,rfl,h0,r0⟩:=trodAll_cons hA
 obtain⟨v1,vs1,d1,ds1,p1,q1,rfl,rfl,rfl,h1,r1⟩:=trodAll_cons r0
 obtain⟨rfl,rfl,rfl⟩:=trodAll_nil r1
 obtain rfl:args=#[v0,v1]:=by cases args;simp_all
 obtain⟨rfl,rfl⟩:=trodVars_none hV
 have k0:=h0
 have lt0:∀x∈p0,x.block<W.heap.size:=by obtain⟨m,hm⟩:=k0;exact DataW.trod_lt m _ _ _ hm
 have k1:=h1
 have lt1:∀x∈p1,x.block<W.heap.size:=by obtain⟨m,hm⟩:=k1;exact DataW.trod_lt m _ _ _ hm
 obtain⟨cs0,ecs0,_⟩:=okWide_struct Tryz.underlying24 (hval 0 24 v0 rfl rfl)
 have w0:=Qz5 Tryz.underlying3 (by kernel_rfl) QBa Tryz.underlying22 (by kernel_rfl) Tryz.underlying24 (by kernel_rfl) ⟨rfl,rfl⟩ ⟨rfl,rfl⟩ ⟨cs0,ecs0⟩ h0
 obtain⟨a1,rfl,rfl,rfl,w1⟩:=open_int Tryz.underlying3 (hval 1 3 v1 rfl rfl) h1
 clear hA0
 refine(walk (Qf8 hL) v0 w0 a1 (QjB w1)).mono fun e W' ⟨he,bel⟩=>?_
 subst he
 exact⟨_,rfl,Ab.post_below hW' (fun _ _ _=>(trodAll_cons_mk (shut_bool Tryz.underlying4 _) trodAll_mk0)) (trodAll_cons_mk (Below.trod Qt0 (by kernel_rfl) (of_decide_eq_true (by kernel_rfl)) k0 bel lt0) (trodAll_cons_mk (Below.trod Qt0 (by kernel_rfl) (of_decide_eq_true (by kernel_rfl)) k1 bel lt1) trodAll_mk0)) rfl bel⟩
theorem reads (os:Os) {H:Type} (enc:TypeId×Value→H):∃ds places,DataW.whole enc Tryz.prog ((Qjz os).forCall (fun _ _=>0) ⟨#[],#[.agg #[.int .i64 0,.slice none 0 0],.int .i64 0],[]⟩).memory Tryz.f4.params.toList Rows.encodeLeastSpec.vars false (#[.agg #[.int .i64 0,.slice none 0 0],.int .i64 0]:Array Value).toList 8=some (ds,[],places):=
 ⟨[.agg [.lit (.int .i64 0),.nil],.lit (.int .i64 0)],[],by kernel_rfl⟩
theorem lifted (os:Os) (started:os.Started) (H:Type) (enc:TypeId×Value→H) (F:Stop.Interp):
  ReturnsInHanded {} Tryz.checked os 4 .any ((OpenSpec.ofChange Rows.encodeLeastSpec).preRow enc Tryz.prog Tryz.f4 Rows.encodeLeastRow.domain false Rows.encodeLeastRow.laid) (((OpenSpec.ofChange Rows.encodeLeastSpec).at F).post enc Tryz.prog Tryz.f4 false true false false):=by
 obtain⟨ds,places,hx⟩:=reads os enc
 refine returnsInHanded_of_row (C:=Tryz.checked) (s:=OpenSpec.ofChange Rows.encodeLeastSpec) own started (by kernel_rfl) Tryz.func4
  (witness_row_atRef (enc:=enc) (C:=Tryz.checked) false (Qjz os) #[.agg #[.int .i64 0,.slice none 0 0],.int .i64 0] rfl (by kernel_rfl) (by kernel_rfl) (by kernel_rfl)
   (OpenSpec.preRow_of_cond 8 hx (by kernel_rfl) (fun k hk=>by cases hk) (by kernel_rfl) (laid_met os #[.agg #[.int .i64 0,.slice none 0 0],.int .i64 0]))) ?_
 intro W base args ds gs before hval hW _ _ _ hL _ _
 exact contract H enc W base args ds gs before hval hW hL
theorem said:Rows.EncodeLeastSaid:=
 OpenClaim.holds_of_cond 4 Tryz.f4 rfl rfl rfl rfl rfl rfl rfl ⟨rfl,rfl,rfl,rfl,rfl⟩ rfl rfl rfl rfl rfl named Tryz.func4 closed
  (of_decide_eq_true (by kernel_rfl)) (by unfold Func.isWrapper;first | (rw[if_pos (by decide +kernel)];kernel_rfl) | (rw[if_neg (by decide +kernel)];exact⟨rfl,rfl⟩))
  (fun os started H enc _ F=>by rw[OpenClaim.pre_eq_preRow];exact lifted os started H enc F)
theorem plain (f:FuncId) (fn:Func) (hf:Tryz.pinned.checked.prog.funcNamed Tryz.f4.name=some f) (hfn:Tryz.pinned.checked.prog.funcs[f]? = some fn):
  true=Tryz.pinned.checked.prog.looks [24,3]∧∀ (j:Nat) t,fn.params[j]? = some t→Tryz.pinned.checked.prog.wantsStandIn t=false:=by
 obtain rfl:f=4:=Option.some.inj ((show Tryz.prog.funcNamed Tryz.f4.name=some 4 by kernel_rfl).symm.trans hf) |>.symm
 obtain rfl:fn=Tryz.f4:=(Option.some.inj (Tryz.func4.symm.trans hfn)).symm
 refine⟨by kernel_rfl,fun j t ht=>?_⟩
 rw[Tryz.params4]at ht
 have hm:=List.mem_of_getElem? (l:=[24,3]) (i:=j) (a:=t) (by simpa using ht)
 have hk:∀t∈[24,3],Tryz.pinned.checked.prog.wantsStandIn t=false:=by
  have h:([24,3].all fun t=>!(Tryz.pinned.checked.prog.wantsStandIn t))=true:=by kernel_rfl
  intro t ht
  have:=List.all_eq_true.1 h t ht
  simpa using this
 exact hk t hm
theorem card:Rows.EncodeLeastCardSaid:=
 Claim7.holds_tied_plain_at .later [] _ _ _ _ said (fun _ h=>by cases h) (by kernel_rfl) (fun _ h=>by cases h) tie1.encodeLeast_row_tie rfl ⟨rfl,rfl⟩ (by kernel_rfl) rfl plain (goes0.goesBy_none goes0.none_goes _ rfl)
end Go.Proofs.YtgepgbbjfhggfaaGreatDoor.encodeLeast
