/- The law EncodeShort returns true for every input, over whatever memory that holds the listed tables. No condition. -/
import Derived.Test.YtgepgbbjfhggfaaGreatDoorY1Short
import Derived.Test.YtgepgbbjfhggfaaGreatDoorY2Facts
import Derived.Deep.DeepWitnessRowRef
import Derived.Test.YtgepgbbjfhggfaaGreatDoorS9Tie
import Derived.Test.YtgepgbbjfhggfaaGreatDoorS8Goes
import Derived.ShutString
set_option linter.unusedVariables false
namespace Go.Proofs.YtgepgbbjfhggfaaGreatDoor.encodeShort
open Go.ChangeShapes Go.WideShapes Go.ChangeAt Go.RowKit _root_.Go.Proofs.YtgepgbbjfhggfaaGreatDoor.tab _root_.Go.Proofs.YtgepgbbjfhggfaaGreatDoor.code
theorem QBf:laidOutB Tryz.prog=true:=by kernel_rfl
theorem Qti:Qlh 3 1:=QAi Tryz.underlying3 (by kernel_rfl)
theorem QEh:Qlh 54 2:=Qgo Tryz.underlying54 [1,1] rfl (by kernel_rfl) λi hi=>by
 rcases i with _ | _ | i
 ·exact⟨_,rfl,rfl,Qti⟩
 ·exact⟨_,rfl,rfl,Qti⟩
 ·simp at hi;omega
theorem QJw:Qlh 56 7:=Qgo Tryz.underlying56 [2,2,1,1,1] rfl (by kernel_rfl) λi hi=>by
 rcases i with _ | _ | _ | _ | _ | i
 ·exact⟨_,rfl,rfl,QEh⟩
 ·exact⟨_,rfl,rfl,QEh⟩
 ·exact⟨_,rfl,rfl,Qti⟩
 ·exact⟨_,rfl,rfl,Qti⟩
 ·exact⟨_,rfl,rfl,Qti⟩
 ·simp at hi;omega
theorem QJx:Qlh 58 11:=Qgo Tryz.underlying58 [1,2,7,1] rfl (by kernel_rfl) λi hi=>by
 rcases i with _ | _ | _ | _ | i
 ·exact⟨_,rfl,rfl,Qti⟩
 ·exact⟨_,rfl,rfl,QEh⟩
 ·exact⟨_,rfl,rfl,QJw⟩
 ·exact⟨_,rfl,rfl,Qti⟩
 ·simp at hi;omega
theorem walk {w:World}(h:Qry w)(a0:Value)(ha0:QAj w a0)(a1:Int)(ha1:I64 a1):Calls Tryz.prog 3 #[a0,.int .i64 a1] w λe w'=>e=.returned (.bool true)∧Below w.heap.size w w':=by
 obtain⟨op,u,l,ρ,H,hop,s1,hs,hwf,hro,hx,hv,hbs,hI,hb⟩:=QEg (Ab.sim_tabs (QGc h) (QEb h) tabs_ok) QBe QGk ha0;exact Ab.calls_of_callQ (args':=[a0,.int .i64 a1]) (QAk op u l a1 ha1 H (QhD _ _ QBe QH6 hx) hbs hI) hwf (by kernel_rfl) hs (.cons (hv) (.cons (.same _ rfl) (.nil _))) hro
set_option maxRecDepth 100000
theorem contract (H:Type)(enc:TypeId×Value->H)(W:World)(base:Nat)(args:Array Value)(ds gs:List (DataW H))(before:List MemPlace)
  (hval:∀ (j:Nat) t v,Tryz.f3.params[j]? = some t->args[j]? = some v->Value.okWide Tryz.prog W .any base t v)
  (hW:DataW.Whole enc Tryz.prog Tryz.f3.params.toList Rows.encodeShortSpec.vars false W args.toList ds gs before) (hL:laidMetH Tryz.prog Rows.encodeShortRow.laid W):
  Calls Tryz.prog 3 args W λe W'=>∃v,e=.returned v∧Rows.encodeShortSpec.post enc Tryz.prog Tryz.f3 false true false false W args v W':=by
 have hW':=hW;obtain⟨p,q,hA0,hV,rfl,hfz,hnd⟩:=hW;have hA:DataW.TrodAll enc Tryz.prog W 0 (λ_=>true) true Tryz.f3.params.toList args.toList ds p:=hA0;rw[Tryz.params3]at hA hval;obtain⟨v0,vs0,d0,ds0,p0,q0,hargs,rfl,rfl,h0,r0⟩:=trodAll_cons hA;obtain⟨v1,vs1,d1,ds1,p1,q1,rfl,rfl,rfl,h1,r1⟩:=trodAll_cons r0;obtain⟨rfl,rfl,rfl⟩:=trodAll_nil r1;obtain rfl:args=#[v0,v1]:=by cases args;simp_all
 obtain⟨rfl,rfl⟩:=trodVars_none hV;have k0:=h0;have lt0:∀x∈p0,x.block<W.heap.size:=by obtain⟨m,hm⟩:=k0;exact DataW.trod_lt m _ _ _ hm
 have k1:=h1;have lt1:∀x∈p1,x.block<W.heap.size:=by obtain⟨m,hm⟩:=k1;exact DataW.trod_lt m _ _ _ hm
 obtain⟨cs0,ecs0,_⟩:=okWide_struct Tryz.underlying24 (hval 0 24 v0 rfl rfl);have w0:=QIa Tryz.underlying3 (by kernel_rfl) QJx Tryz.underlying22 (by kernel_rfl) Tryz.underlying24 (by kernel_rfl) ⟨rfl,rfl⟩ ⟨rfl,rfl⟩ ⟨cs0,ecs0⟩ h0;obtain⟨a1,rfl,rfl,rfl,w1⟩:=open_int Tryz.underlying3 (hval 1 3 v1 rfl rfl) h1;clear hA0;refine(walk (Qjd hL) v0 w0 a1 (Qp3 w1)).mono λe W' ⟨he,bel⟩=>?_;subst he;exact⟨_,rfl,Ab.post_below hW' (λ_ _ _=>(trodAll_cons_mk (shut_bool Tryz.underlying4 _) trodAll_mk0)) (trodAll_cons_mk (Below.trod QBf (by kernel_rfl) (of_decide_eq_true (by kernel_rfl)) k0 bel lt0) (trodAll_cons_mk (Below.trod QBf (by kernel_rfl) (of_decide_eq_true (by kernel_rfl)) k1 bel lt1) trodAll_mk0)) rfl bel⟩
theorem reads (os:Os){H:Type}(enc:TypeId×Value->H):∃ds places,DataW.whole enc Tryz.prog ((Qp1 os).forCall (λ_ _=>0) ⟨#[],#[.agg #[.int .i64 0,.slice none 0 0],.int .i64 0],[]⟩).memory Tryz.f3.params.toList Rows.encodeShortSpec.vars false (#[.agg #[.int .i64 0,.slice none 0 0],.int .i64 0]:Array Value).toList 8=some (ds,[],places):=
 ⟨[.agg [.lit (.int .i64 0),.nil],.lit (.int .i64 0)],[],by kernel_rfl⟩
theorem lifted (os:Os)(started:os.Started)(H:Type)(enc:TypeId×Value->H)(F:Stop.Interp):
  ReturnsInHanded {} Tryz.checked os 3 .any ((OpenSpec.ofChange Rows.encodeShortSpec).preRow enc Tryz.prog Tryz.f3 Rows.encodeShortRow.domain false Rows.encodeShortRow.laid) (((OpenSpec.ofChange Rows.encodeShortSpec).at F).post enc Tryz.prog Tryz.f3 false true false false):=by
 obtain⟨ds,places,hx⟩:=reads os enc;refine returnsInHanded_of_row (C:=Tryz.checked) (s:=OpenSpec.ofChange Rows.encodeShortSpec) own started (by kernel_rfl) Tryz.func3
  (witness_row_atRef (enc:=enc) (C:=Tryz.checked) false (Qp1 os) #[.agg #[.int .i64 0,.slice none 0 0],.int .i64 0] rfl (by kernel_rfl) (by kernel_rfl) (by kernel_rfl)
   (OpenSpec.preRow_of_cond 8 hx (by kernel_rfl) (λk hk=>by cases hk) (by kernel_rfl) (laid_met os #[.agg #[.int .i64 0,.slice none 0 0],.int .i64 0]))) ?_
 intro W base args ds gs before hval hW _ _ _ hL _ _;exact contract H enc W base args ds gs before hval hW hL
theorem said:Rows.EncodeShortSaid:=
 OpenClaim.holds_of_cond 3 Tryz.f3 rfl rfl rfl rfl rfl rfl rfl ⟨rfl,rfl,rfl,rfl,rfl⟩ rfl rfl rfl rfl rfl named Tryz.func3 closed
  (of_decide_eq_true (by kernel_rfl)) (by unfold Func.isWrapper;first | (rw[if_pos (by decide +kernel)];kernel_rfl) | (rw[if_neg (by decide +kernel)];exact⟨rfl,rfl⟩))
  (λos started H enc _ F=>by rw[OpenClaim.pre_eq_preRow];exact lifted os started H enc F)
theorem plain (f:FuncId)(fn:Func)(hf:Tryz.pinned.checked.prog.funcNamed Tryz.f3.name=some f)(hfn:Tryz.pinned.checked.prog.funcs[f]? = some fn):
  true=Tryz.pinned.checked.prog.looks [24,3]∧∀ (j:Nat) t,fn.params[j]? = some t->Tryz.pinned.checked.prog.wantsStandIn t=false:=by
 obtain rfl:f=3:=Option.some.inj ((show Tryz.prog.funcNamed Tryz.f3.name=some 3 by kernel_rfl).symm.trans hf) |>.symm;obtain rfl:fn=Tryz.f3:=(Option.some.inj (Tryz.func3.symm.trans hfn)).symm;refine⟨by kernel_rfl,λj t ht=>?_⟩;rw[Tryz.params3]at ht;have hm:=List.mem_of_getElem? (l:=[24,3]) (i:=j) (a:=t) (by simpa using ht);have hk:∀t∈[24,3],Tryz.pinned.checked.prog.wantsStandIn t=false:=by
  have h:([24,3].all λt=>!(Tryz.pinned.checked.prog.wantsStandIn t))=true:=by kernel_rfl
  intro t ht;have:=List.all_eq_true.1 h t ht;simpa using this
 exact hk t hm
theorem card:Rows.EncodeShortCardSaid:=
 Claim7.holds_tied_plain_at .later [] _ _ _ _ said (λ_ h=>by cases h) (by kernel_rfl) (λ_ h=>by cases h) tie1.encodeShort_row_tie rfl ⟨rfl,rfl⟩ (by kernel_rfl) rfl plain (goes0.goesBy_none goes0.none_goes _ rfl)
end Go.Proofs.YtgepgbbjfhggfaaGreatDoor.encodeShort
