/- The law EncodeSized returns true for every input, over whatever memory that holds the listed tables. No condition. -/
import Derived.Test.YtgepgbbjfhggfaaGreatDoorY1Sized
import Derived.Test.YtgepgbbjfhggfaaGreatDoorY3Facts
import Derived.Deep.DeepWitnessRowRef
import Derived.Test.YtgepgbbjfhggfaaGreatDoorS9Tie
import Derived.Test.YtgepgbbjfhggfaaGreatDoorS8Goes
import Derived.ShutString
set_option linter.unusedVariables false
namespace Go.Proofs.YtgepgbbjfhggfaaGreatDoor.encodeSized
open Go.ChangeShapes Go.WideShapes Go.ChangeAt Go.RowKit _root_.Go.Proofs.YtgepgbbjfhggfaaGreatDoor.tab _root_.Go.Proofs.YtgepgbbjfhggfaaGreatDoor.code
theorem QGJ:laidOutB Tryz.prog=true:=by kernel_rfl
theorem Qtx:Qlp 3 1:=QAC Tryz.underlying3 (by kernel_rfl)
theorem QEG:Qlp 54 2:=Qgv Tryz.underlying54 [1,1] rfl (by kernel_rfl) λi hi=>by
 rcases i with _ | _ | i
 ·exact⟨_,rfl,rfl,Qtx⟩
 ·exact⟨_,rfl,rfl,Qtx⟩
 ·simp at hi;omega
theorem QJU:Qlp 56 7:=Qgv Tryz.underlying56 [2,2,1,1,1] rfl (by kernel_rfl) λi hi=>by
 rcases i with _ | _ | _ | _ | _ | i
 ·exact⟨_,rfl,rfl,QEG⟩
 ·exact⟨_,rfl,rfl,QEG⟩
 ·exact⟨_,rfl,rfl,Qtx⟩
 ·exact⟨_,rfl,rfl,Qtx⟩
 ·exact⟨_,rfl,rfl,Qtx⟩
 ·simp at hi;omega
theorem QJV:Qlp 58 11:=Qgv Tryz.underlying58 [1,2,7,1] rfl (by kernel_rfl) λi hi=>by
 rcases i with _ | _ | _ | _ | i
 ·exact⟨_,rfl,rfl,Qtx⟩
 ·exact⟨_,rfl,rfl,QEG⟩
 ·exact⟨_,rfl,rfl,QJU⟩
 ·exact⟨_,rfl,rfl,Qtx⟩
 ·simp at hi;omega
theorem walk {w:World}(h:QrN w)(a0:Value)(aa:QAD w a0):Calls Tryz.prog 5 #[a0] w λe w'=>e=.returned (.bool true)∧Below w.heap.size w w':=by
 obtain⟨op,u,l,ρ,H,ai,aj,ad,ag,ac,ah,ae,ab,q,hb⟩:=QEF (Ab.sim_tabs (QGz h) (QEB h) tabs_ok) QBz QGH aa;exact Ab.calls_of_callQ (args':=[a0]) (QAE op u l H (Qlm _ _ QBz QIv ah) ab q) ag (by kernel_rfl) ad (.cons (ae) (.nil _)) ac
set_option maxRecDepth 100000
theorem contract (H:Type)(enc:TypeId×Value->H)(W:World)(base:Nat)(args:Array Value)(ab gs:List (DataW H))(aj:List MemPlace)
  (ah:∀ (j:Nat) t v,Tryz.f5.params[j]? = some t->args[j]? = some v->Value.okWide Tryz.prog W .any base t v)
  (ag:DataW.Whole enc Tryz.prog Tryz.f5.params.toList Rows.encodeSizedSpec.vars false W args.toList ab gs aj) (am:laidMetH Tryz.prog Rows.encodeSizedRow.laid W):
  Calls Tryz.prog 5 args W λe W'=>∃v,e=.returned v∧Rows.encodeSizedSpec.post enc Tryz.prog Tryz.f5 false true false false W args v W':=by
 have ao:=ag;obtain⟨p,q,ae,an,rfl,az,aA⟩:=ag;have ad:DataW.TrodAll enc Tryz.prog W 0 (λ_=>true) true Tryz.f5.params.toList args.toList ab p:=ae;rw[Tryz.params5]at ad ah;obtain⟨aa,aC,d0,ax,au,aB,ay,rfl,rfl,ac,av⟩:=trodAll_cons ad;obtain⟨rfl,rfl,rfl⟩:=trodAll_nil av;obtain rfl:args=#[aa]:=by cases args;simp_all
 obtain⟨rfl,rfl⟩:=trodVars_none an;have ai:=ac;have ar:∀x∈au,x.block<W.heap.size:=by obtain⟨m,aq⟩:=ai;exact DataW.trod_lt m _ _ _ aq
 obtain⟨ak,al,_⟩:=okWide_struct Tryz.underlying24 (ah 0 24 aa rfl rfl);have aw:=QIz Tryz.underlying3 (by kernel_rfl) QJV Tryz.underlying22 (by kernel_rfl) Tryz.underlying24 (by kernel_rfl) ⟨rfl,rfl⟩ ⟨rfl,rfl⟩ ⟨ak,al⟩ ac;clear ae;refine(walk (Qjn am) aa aw).mono λe W' ⟨he,bel⟩=>?_;subst he;exact⟨_,rfl,Ab.post_below ao (λ_ _ _=>(trodAll_cons_mk (shut_bool Tryz.underlying4 _) trodAll_mk0)) (trodAll_cons_mk (Below.trod QGJ (by kernel_rfl) (of_decide_eq_true (by kernel_rfl)) ai bel ar) trodAll_mk0) rfl bel⟩
theorem reads (os:Os){H:Type}(enc:TypeId×Value->H):∃q aa,DataW.whole enc Tryz.prog ((Qqd os).forCall (λ_ _=>0) ⟨#[],#[.agg #[.int .i64 0,.slice none 0 0]],[]⟩).memory Tryz.f5.params.toList Rows.encodeSizedSpec.vars false (#[.agg #[.int .i64 0,.slice none 0 0]]:Array Value).toList 8=some (q,[],aa):=
 ⟨[.agg [.lit (.int .i64 0),.nil]],[],by kernel_rfl⟩
theorem lifted (os:Os)(ah:os.Started)(H:Type)(enc:TypeId×Value->H)(F:Stop.Interp):
  ReturnsInHanded {} Tryz.checked os 5 .any ((OpenSpec.ofChange Rows.encodeSizedSpec).preRow enc Tryz.prog Tryz.f5 Rows.encodeSizedRow.domain false Rows.encodeSizedRow.laid) (((OpenSpec.ofChange Rows.encodeSizedSpec).at F).post enc Tryz.prog Tryz.f5 false true false false):=by
 obtain⟨q,ai,ag⟩:=reads os enc;refine returnsInHanded_of_row (C:=Tryz.checked) (s:=OpenSpec.ofChange Rows.encodeSizedSpec) own ah (by kernel_rfl) Tryz.func5
  (witness_row_atRef (enc:=enc) (C:=Tryz.checked) false (Qqd os) #[.agg #[.int .i64 0,.slice none 0 0]] rfl (by kernel_rfl) (by kernel_rfl) (by kernel_rfl)
   (OpenSpec.preRow_of_cond 8 ag (by kernel_rfl) (λk ad=>by cases ad) (by kernel_rfl) (laid_met os #[.agg #[.int .i64 0,.slice none 0 0]]))) ?_
 intro W base args q gs aa ae ac _ _ _ ab _ _;exact contract H enc W base args q gs aa ae ac ab
theorem said:Rows.EncodeSizedSaid:=
 OpenClaim.holds_of_cond 5 Tryz.f5 rfl rfl rfl rfl rfl rfl rfl ⟨rfl,rfl,rfl,rfl,rfl⟩ rfl rfl rfl rfl rfl named Tryz.func5 closed
  (of_decide_eq_true (by kernel_rfl)) (by unfold Func.isWrapper;first | (rw[if_pos (by decide +kernel)];kernel_rfl) | (rw[if_neg (by decide +kernel)];exact⟨rfl,rfl⟩))
  (λos q H enc _ F=>by rw[OpenClaim.pre_eq_preRow];exact lifted os q H enc F)
theorem plain (f:FuncId)(fn:Func)(aa:Tryz.pinned.checked.prog.funcNamed Tryz.f5.name=some f)(ab:Tryz.pinned.checked.prog.funcs[f]? = some fn):
  true=Tryz.pinned.checked.prog.looks [24]∧∀ (j:Nat) t,fn.params[j]? = some t->Tryz.pinned.checked.prog.wantsStandIn t=false:=by
 obtain rfl:f=5:=Option.some.inj ((show Tryz.prog.funcNamed Tryz.f5.name=some 5 by kernel_rfl).symm.trans aa) |>.symm;obtain rfl:fn=Tryz.f5:=(Option.some.inj (Tryz.func5.symm.trans ab)).symm;refine⟨by kernel_rfl,λj t q=>?_⟩;rw[Tryz.params5]at q;have ad:=List.mem_of_getElem? (l:=[24]) (i:=j) (a:=t) (by simpa using q);have ac:∀t∈[24],Tryz.pinned.checked.prog.wantsStandIn t=false:=by
  have h:([24].all λt=>!(Tryz.pinned.checked.prog.wantsStandIn t))=true:=by kernel_rfl
  intro t q;have:=List.all_eq_true.1 h t q;simpa using this
 exact ac t ad
theorem card:Rows.EncodeSizedCardSaid:=
 Claim7.holds_tied_plain_at .later [] _ _ _ _ said (λ_ h=>by cases h) (by kernel_rfl) (λ_ h=>by cases h) tie1.encodeSized_row_tie rfl ⟨rfl,rfl⟩ (by kernel_rfl) rfl plain (goes0.goesBy_none goes0.none_goes _ rfl)
end Go.Proofs.YtgepgbbjfhggfaaGreatDoor.encodeSized
