/- The law DecodeFound returns true for every input, over whatever memory that holds the listed tables. No condition. -/
import Derived.Test.YtmedjaegakinnaaGreatDoorLibY
import Derived.Test.YtmedjaegakinnaaGreatDoorA2BytS
import Derived.Test.YtmedjaegakinnaaGreatDoorY2Facts
import Derived.Deep.DeepWitnessRowRef
import Derived.ShutString
set_option linter.unusedVariables false
namespace Go.Proofs.YtmedjaegakinnaaGreatDoor.decodeFound
open Go.ChangeShapes Go.WideShapes Go.ChangeAt Go.RowKit _root_.Go.Proofs.YtmedjaegakinnaaGreatDoor.tab _root_.Go.Proofs.YtmedjaegakinnaaGreatDoor.code
theorem Qz6:laidOutB Tryz.prog=true:=by kernel_rfl
theorem walk {w:World}(h:QoS w)(a0:Value)(ab:QoT w a0)(a1:Value)(ac:QoT w a1):Calls Tryz.prog 3 #[a0,a1] w λe w'=>e=.returned (.bool true)∧Below w.heap.size w w':=by
 obtain⟨l,u,ρ,H,ag,_,an,q,ak,hx,ap,ad,ai⟩:=QEn (Ab.sim_tabs (QGU h) (QEf h) tabs_ok) Qz3 QGZ ab;obtain⟨au,av,ρ2,H2,ah,s2,ao,ar,am,aa,aq,ae,aj⟩:=QEn an q ak ac;exact Ab.calls_of_callQ (args':=[a0,a1]) (QyP u av l au ag ah H2 (QlO _ _ Qz3 QJw (hx.trans aa)) ⟨(ad.ext q aa).by_,ai⟩ ⟨ae.by_,aj⟩) ar (by kernel_rfl) ao (.cons (ap.mono s2) (.cons aq (.nil _))) am
set_option maxRecDepth 100000
theorem contract (H:Type)(enc:TypeId×Value->H)(W:World)(base:Nat)(args:Array Value)(ae ao:List (DataW H))(an:List MemPlace)
  (ab:∀ (j:Nat) t v,Tryz.f3.params[j]? = some t->args[j]? = some v->Value.okWide Tryz.prog W .any base t v)
  (ak:DataW.Whole enc Tryz.prog Tryz.f3.params.toList Rows.decodeFoundSpec.vars false W args.toList ae ao an) (ap:laidMetH Tryz.prog Rows.decodeFoundRow.laid W):
  Calls Tryz.prog 3 args W λe W'=>∃v,e=.returned v∧Rows.decodeFoundSpec.post enc Tryz.prog Tryz.f3 false true false false W args v W':=by
 have ar:=ak;obtain⟨p,q,aj,aq,rfl,aH,aI⟩:=ak;have ai:DataW.TrodAll enc Tryz.prog W 0 (λ_=>true) true Tryz.f3.params.toList args.toList ae p:=aj;rw[Tryz.params3]at ai ab;obtain⟨ac,aL,d0,aC,p0,aJ,aG,rfl,rfl,ag,az⟩:=trodAll_cons ai;obtain⟨ad,aM,d1,aD,ay,aK,rfl,rfl,rfl,ah,r1⟩:=trodAll_cons az;obtain⟨rfl,rfl,rfl⟩:=trodAll_nil r1;obtain rfl:args=#[ac,ad]:=by cases args;simp_all
 obtain⟨rfl,rfl⟩:=trodVars_none aq;have am:=ag;have aw:∀x∈p0,x.block<W.heap.size:=by obtain⟨m,aa⟩:=am;exact DataW.trod_lt m _ _ _ aa
 have k1:=ah;have ax:∀x∈ay,x.block<W.heap.size:=by obtain⟨m,aa⟩:=k1;exact DataW.trod_lt m _ _ _ aa
 obtain⟨aE,au⟩:=ag;have aA:=Qz4 Tryz.underlying22 Tryz.underlying5 (by kernel_rfl) au (okWide_slice Tryz.underlying22 (ab 0 22 ac rfl rfl));obtain⟨aF,av⟩:=ah;have aB:=Qz4 Tryz.underlying22 Tryz.underlying5 (by kernel_rfl) av (okWide_slice Tryz.underlying22 (ab 1 22 ad rfl rfl));clear aj;refine(walk (QfT ap) ac aA ad aB).mono λe W' ⟨he,bel⟩=>?_;subst he;exact⟨_,rfl,Ab.post_below ar (λ_ _ _=>(trodAll_cons_mk (shut_bool Tryz.underlying4 _) trodAll_mk0)) (trodAll_cons_mk (Below.trod Qz6 (by kernel_rfl) (of_decide_eq_true (by kernel_rfl)) am bel aw) (trodAll_cons_mk (Below.trod Qz6 (by kernel_rfl) (of_decide_eq_true (by kernel_rfl)) k1 bel ax) trodAll_mk0)) rfl bel⟩
theorem reads (os:Os){H:Type}(enc:TypeId×Value->H):∃q aa,DataW.whole enc Tryz.prog ((QmY os).forCall (λ_ _=>0) ⟨#[],#[.slice none 0 0,.slice none 0 0],[]⟩).memory Tryz.f3.params.toList Rows.decodeFoundSpec.vars false (#[.slice none 0 0,.slice none 0 0]:Array Value).toList 8=some (q,[],aa):=
 ⟨[.nil,.nil],[],by kernel_rfl⟩
theorem lifted (os:Os)(ah:os.Started)(H:Type)(enc:TypeId×Value->H)(F:Stop.Interp):
  ReturnsInHanded {} Tryz.checked os 3 .any ((OpenSpec.ofChange Rows.decodeFoundSpec).preRow enc Tryz.prog Tryz.f3 Rows.decodeFoundRow.domain false Rows.decodeFoundRow.laid) (((OpenSpec.ofChange Rows.decodeFoundSpec).at F).post enc Tryz.prog Tryz.f3 false true false false):=by
 obtain⟨q,ai,hx⟩:=reads os enc;refine returnsInHanded_of_row (C:=Tryz.checked) (s:=OpenSpec.ofChange Rows.decodeFoundSpec) own ah (by kernel_rfl) Tryz.func3
  (witness_row_atRef (enc:=enc) (C:=Tryz.checked) false (QmY os) #[.slice none 0 0,.slice none 0 0] rfl (by kernel_rfl) (by kernel_rfl) (by kernel_rfl)
   (OpenSpec.preRow_of_cond 8 hx (by kernel_rfl) (λk ae=>by cases ae) (by kernel_rfl) (laid_met os #[.slice none 0 0,.slice none 0 0]))) ?_
 intro W base args q ab aa ag ad _ _ _ ac _ _;exact contract H enc W base args q ab aa ag ad ac
theorem said:Rows.DecodeFoundSaid:=
 OpenClaim.holds_of_cond 3 Tryz.f3 rfl rfl rfl rfl rfl rfl rfl ⟨rfl,rfl,rfl,rfl,rfl⟩ rfl rfl rfl rfl rfl named Tryz.func3 closed
  (of_decide_eq_true (by kernel_rfl)) (by unfold Func.isWrapper;first | (rw[if_pos (by decide +kernel)];kernel_rfl) | (rw[if_neg (by decide +kernel)];exact⟨rfl,rfl⟩))
  (λos q H enc _ F=>by rw[OpenClaim.pre_eq_preRow];exact lifted os q H enc F)
theorem plain (f:FuncId)(fn:Func)(aa:Tryz.pinned.checked.prog.funcNamed Tryz.f3.name=some f)(ab:Tryz.pinned.checked.prog.funcs[f]? = some fn):
  true=Tryz.pinned.checked.prog.looks [22,22]∧∀ (j:Nat) t,fn.params[j]? = some t->Tryz.pinned.checked.prog.wantsStandIn t=false:=by
 obtain rfl:f=3:=Option.some.inj ((show Tryz.prog.funcNamed Tryz.f3.name=some 3 by kernel_rfl).symm.trans aa) |>.symm;obtain rfl:fn=Tryz.f3:=(Option.some.inj (Tryz.func3.symm.trans ab)).symm;refine⟨by kernel_rfl,λj t q=>?_⟩;rw[Tryz.params3]at q;have ad:=List.mem_of_getElem? (l:=[22,22]) (i:=j) (a:=t) (by simpa using q);have ac:∀t∈[22,22],Tryz.pinned.checked.prog.wantsStandIn t=false:=by
  have h:([22,22].all λt=>!(Tryz.pinned.checked.prog.wantsStandIn t))=true:=by kernel_rfl
  intro t q;have:=List.all_eq_true.1 h t q;simpa using this
 exact ac t ad
theorem card:Rows.DecodeFoundCardSaid:=
 Claim7.holds_tied_plain_at .later [] _ _ _ _ said (λ_ h=>by cases h) (by kernel_rfl) (λ_ h=>by cases h) decodeFound_row_tie rfl ⟨rfl,rfl⟩ (by kernel_rfl) rfl plain (by kernel_rfl)
