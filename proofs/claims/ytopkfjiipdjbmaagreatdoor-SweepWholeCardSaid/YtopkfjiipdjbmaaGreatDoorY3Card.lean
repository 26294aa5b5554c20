import Derived.Test.YtopkfjiipdjbmaaGreatDoorLibV
import Derived.Test.YtopkfjiipdjbmaaGreatDoorY3Facts
import Derived.Deep.DeepWitnessRowRef
import Derived.ShutString
set_option linter.unusedVariables false
namespace Go.Proofs.YtopkfjiipdjbmaaGreatDoor.sweepWhole
open Go.ChangeShapes Go.WideShapes Go.ChangeAt Go.RowKit _root_.Go.Proofs.YtopkfjiipdjbmaaGreatDoor.tab _root_.Go.Proofs.YtopkfjiipdjbmaaGreatDoor.code
theorem QB1:laidOutB Tryz.prog=true:=by kernel_rfl
theorem walk {w:World}(h:QqK w)(a0:Value)(aa:Qwv w a0)(a1:Int)(ab:I64 a1):Calls Tryz.prog 3 #[a0,.int .i64 a1] w λe w'=>e=.returned (.bool true)∧Below w.heap.size w w':=by
 obtain⟨l,u,ρ,H,ad,ah,aj,ag,hx,ai,ac,ae⟩:=QKH (Ab.sim_tabs (QHv h) (QEX h) tabs_ok) QBv QIr aa;exact Ab.calls_of_callQ (args':=[a0,.int .i64 a1]) (QNY u l ad a1 ab H (QiH _ _ QBv QJN hx) ⟨ac.by_,ae⟩) aj (by kernel_rfl) ah (.cons (ai) (.cons (.same _ rfl) (.nil _))) ag
set_option maxRecDepth 100000
theorem contract (H:Type)(enc:TypeId×Value->H)(W:World)(base:Nat)(args:Array Value)(ad gs:List (DataW H))(am:List MemPlace)
  (ab:∀ (j:Nat) t v,Tryz.f3.params[j]? = some t->args[j]? = some v->Value.okWide Tryz.prog W .any base t v)
  (aj:DataW.Whole enc Tryz.prog Tryz.f3.params.toList Rows.sweepWholeSpec.vars false W args.toList ad gs am) (an:laidMetH Tryz.prog Rows.sweepWholeRow.laid W):
  Calls Tryz.prog 3 args W λe W'=>∃v,e=.returned v∧Rows.sweepWholeSpec.post enc Tryz.prog Tryz.f3 false true false false W args v W':=by
 have ap:=aj;obtain⟨p,q,ai,ao,rfl,aC,aD⟩:=aj;have ah:DataW.TrodAll enc Tryz.prog W 0 (λ_=>true) true Tryz.f3.params.toList args.toList ad p:=ai;rw[Tryz.params3]at ah ab;obtain⟨ac,aG,d0,ay,p0,aE,aB,rfl,rfl,ae,r0⟩:=trodAll_cons ah;obtain⟨al,aH,d1,az,p1,aF,rfl,rfl,rfl,ag,r1⟩:=trodAll_cons r0;obtain⟨rfl,rfl,rfl⟩:=trodAll_nil r1;obtain rfl:args=#[ac,al]:=by cases args;simp_all
 obtain⟨rfl,rfl⟩:=trodVars_none ao;have ak:=ae;have ar:∀x∈p0,x.block<W.heap.size:=by obtain⟨m,aa⟩:=ak;exact DataW.trod_lt m _ _ _ aa
 have k1:=ag;have au:∀x∈p1,x.block<W.heap.size:=by obtain⟨m,aa⟩:=k1;exact DataW.trod_lt m _ _ _ aa
 obtain⟨aA,aq⟩:=ae;have av:=QIs Tryz.underlying22 Tryz.underlying5 (by kernel_rfl) aq (okWide_slice Tryz.underlying22 (ab 0 22 ac rfl rfl));obtain⟨a1,rfl,rfl,rfl,ax⟩:=open_int Tryz.underlying3 (ab 1 3 al rfl rfl) ag;clear ai;refine(walk (Qkv an) ac av a1 (QDy ax)).mono λe W' ⟨he,bel⟩=>?_;subst he;exact⟨_,rfl,Ab.post_below ap (λ_ _ _=>(trodAll_cons_mk (shut_bool Tryz.underlying4 _) trodAll_mk0)) (trodAll_cons_mk (Below.trod QB1 (by kernel_rfl) (of_decide_eq_true (by kernel_rfl)) ak bel ar) (trodAll_cons_mk (Below.trod QB1 (by kernel_rfl) (of_decide_eq_true (by kernel_rfl)) k1 bel au) trodAll_mk0)) rfl bel⟩
theorem reads (os:Os){H:Type}(enc:TypeId×Value->H):∃aa ab,DataW.whole enc Tryz.prog ((Qok os).forCall (λ_ _=>0) ⟨#[],#[.slice none 0 0,.int .i64 0],[]⟩).memory Tryz.f3.params.toList Rows.sweepWholeSpec.vars false (#[.slice none 0 0,.int .i64 0]:Array Value).toList 8=some (aa,[],ab):=
 ⟨[.nil,.lit (.int .i64 0)],[],by kernel_rfl⟩
theorem lifted (os:Os)(ah:os.Started)(H:Type)(enc:TypeId×Value->H)(F:Stop.Interp):
  ReturnsInHanded {} Tryz.checked os 3 .any ((OpenSpec.ofChange Rows.sweepWholeSpec).preRow enc Tryz.prog Tryz.f3 Rows.sweepWholeRow.domain false Rows.sweepWholeRow.laid) (((OpenSpec.ofChange Rows.sweepWholeSpec).at F).post enc Tryz.prog Tryz.f3 false true false false):=by
 obtain⟨aa,ai,hx⟩:=reads os enc;refine returnsInHanded_of_row (C:=Tryz.checked) (s:=OpenSpec.ofChange Rows.sweepWholeSpec) own ah (by kernel_rfl) Tryz.func3
  (witness_row_atRef (enc:=enc) (C:=Tryz.checked) false (Qok os) #[.slice none 0 0,.int .i64 0] rfl (by kernel_rfl) (by kernel_rfl) (by kernel_rfl)
   (OpenSpec.preRow_of_cond 8 hx (by kernel_rfl) (λk ae=>by cases ae) (by kernel_rfl) (laid_met os #[.slice none 0 0,.int .i64 0]))) ?_
 intro W base args aa gs ab ag ad _ _ _ ac _ _;exact contract H enc W base args aa gs ab ag ad ac
theorem said:Rows.SweepWholeSaid:=
 OpenClaim.holds_of_cond 3 Tryz.f3 rfl rfl rfl rfl rfl rfl rfl ⟨rfl,rfl,rfl,rfl,rfl⟩ rfl rfl rfl rfl rfl named Tryz.func3 closed
  (of_decide_eq_true (by kernel_rfl)) (by unfold Func.isWrapper;first | (rw[if_pos (by decide +kernel)];kernel_rfl) | (rw[if_neg (by decide +kernel)];exact⟨rfl,rfl⟩))
  (λos aa H enc _ F=>by rw[OpenClaim.pre_eq_preRow];exact lifted os aa H enc F)
theorem plain (f:FuncId)(fn:Func)(ab:Tryz.pinned.checked.prog.funcNamed Tryz.f3.name=some f)(ac:Tryz.pinned.checked.prog.funcs[f]? = some fn):
  true=Tryz.pinned.checked.prog.looks [22,3]∧∀ (j:Nat) t,fn.params[j]? = some t->Tryz.pinned.checked.prog.wantsStandIn t=false:=by
 obtain rfl:f=3:=Option.some.inj ((show Tryz.prog.funcNamed Tryz.f3.name=some 3 by kernel_rfl).symm.trans ab) |>.symm;obtain rfl:fn=Tryz.f3:=(Option.some.inj (Tryz.func3.symm.trans ac)).symm;refine⟨by kernel_rfl,λj t aa=>?_⟩;rw[Tryz.params3]at aa;have ae:=List.mem_of_getElem? (l:=[22,3]) (i:=j) (a:=t) (by simpa using aa);have ad:∀t∈[22,3],Tryz.pinned.checked.prog.wantsStandIn t=false:=by
  have h:([22,3].all λt=>!(Tryz.pinned.checked.prog.wantsStandIn t))=true:=by kernel_rfl
  intro t aa;have:=List.all_eq_true.1 h t aa;simpa using this
 exact ad t ae
theorem card:Rows.SweepWholeCardSaid:=
 Claim7.holds_tied_plain_at .later [] _ _ _ _ said (λ_ h=>by cases h) (by kernel_rfl) (λ_ h=>by cases h) sweepWhole_row_tie rfl ⟨rfl,rfl⟩ (by kernel_rfl) rfl plain (by kernel_rfl)
