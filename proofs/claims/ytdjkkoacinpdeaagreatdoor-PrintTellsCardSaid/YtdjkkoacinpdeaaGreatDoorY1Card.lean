/- The law PrintTells returns true for every input, over whatever memory that holds the listed tables. No condition. -/
import Derived.Test.YtdjkkoacinpdeaaGreatDoorFETab
import Derived.Deep.DeepWitnessRowRef
import Derived.ShutString
set_option linter.unusedVariables false
namespace Go.Proofs.YtdjkkoacinpdeaaGreatDoor.printTells
open Go.ChangeShapes Go.WideShapes Go.ChangeAt Go.RowKit _root_.Go.Proofs.YtdjkkoacinpdeaaGreatDoor.tab _root_.Go.Proofs.YtdjkkoacinpdeaaGreatDoor.code
theorem QhI:laidOutB Tryz.prog=true:=by kernel_rfl
theorem QiS:Qcy 3 1:=Qnq Tryz.underlying3 (by kernel_rfl)
theorem QqL:Qcy 23 2:=Qa0 Tryz.underlying23 [1,1] rfl (by kernel_rfl) fun i hi=>by
 rcases i with _ | _ | i
 ·exact⟨_,rfl,rfl,QiS⟩
 ·exact⟨_,rfl,rfl,QiS⟩
 ·simp at hi;omega
theorem Qsr:Qcy 25 7:=Qa0 Tryz.underlying25 [2,2,1,1,1] rfl (by kernel_rfl) fun i hi=>by
 rcases i with _ | _ | _ | _ | _ | i
 ·exact⟨_,rfl,rfl,QqL⟩
 ·exact⟨_,rfl,rfl,QqL⟩
 ·exact⟨_,rfl,rfl,QiS⟩
 ·exact⟨_,rfl,rfl,QiS⟩
 ·exact⟨_,rfl,rfl,QiS⟩
 ·simp at hi;omega
theorem Qt7:Qcy 39 11:=Qa0 Tryz.underlying39 [1,2,7,1] rfl (by kernel_rfl) fun i hi=>by
 rcases i with _ | _ | _ | _ | i
 ·exact⟨_,rfl,rfl,QiS⟩
 ·exact⟨_,rfl,rfl,QqL⟩
 ·exact⟨_,rfl,rfl,Qsr⟩
 ·exact⟨_,rfl,rfl,QiS⟩
 ·simp at hi;omega
theorem walk {w:World} (h:QhH w) (a0:Mm) (a1:Value) (ha1:Qnr w a1) (a2:Int) (ha2:I64 a2) (a3:Int) (ha3:I64 a3):Calls Tryz.prog 3 #[.agg a0.cells.toArray,a1,.int .i64 a2,.int .i64 a3] w fun e w'=>e=.returned (.bool true)∧Below w.heap.size w w':=by
 obtain⟨op,u,l,ρ,H,hop,s1,hs,hwf,hro,hx,hv,hbs,hI,hl⟩:=Qr8 (Ab.sim_tabs (Qr6 h) (QqI h) tabs_ok) Qn1 Qr7 ha1
 exact Ab.calls_of_callQ (args':=[.agg a0.cells.toArray,a1,.int .i64 a2,.int .i64 a3]) (Qsb a0 op u l a2 a3 H (Ql2 _ _ Qn1 Qtx hx) hbs hI hl) hwf (by kernel_rfl) hs (.cons (Qui _ _) (.cons (hv) (.cons (.same _ rfl) (.cons (.same _ rfl) (.nil _))))) hro
set_option maxRecDepth 100000
theorem contract (H:Type) (enc:TypeId×Value→H) (W:World) (base:Nat) (args:Array Value) (ds gs:List (DataW H)) (before:List MemPlace)
  (hval:∀ (j:Nat) t v,Tryz.f3.params[j]? = some t→args[j]? = some v→Value.okWide Tryz.prog W .any base t v)
  (hW:DataW.Whole enc Tryz.prog Tryz.f3.params.toList Rows.printTellsSpec.vars false W args.toList ds gs before) (hL:laidMetH Tryz.prog Rows.printTellsRow.laid W):
  Calls Tryz.prog 3 args W fun e W'=>∃v,e=.returned v∧Rows.printTellsSpec.post enc Tryz.prog Tryz.f3 false true false false W args v W':=by
 have hW':=hW
 obtain⟨p,q,hA0,hV,rfl,hfz,hnd⟩:=hW
 have hA:DataW.TrodAll enc Tryz.prog W 0 (fun _=>true) true Tryz.f3.params.toList args.toList ds p:=hA0
 rw[Tryz.params3]at hA hval
 obtain⟨v0,vs0,d0,ds0,p0,q0,hargs,rfl,rfl,h0,r0⟩:=trodAll_cons hA
 obtain⟨v1,vs1,d1,ds1,p1,q1,rfl,rfl,rfl,h1,r1⟩:=trodAll_cons r0
 obtain⟨v2,vs2,d2,ds2,p2,q2,rfl,rfl,rfl,h2,r2⟩:=trodAll_cons r1
 obtain⟨v3,vs3,d3,ds3,p3,q3,rfl,rfl,rfl,h3,r3⟩:=trodAll_cons r2
 obtain⟨rfl,rfl,rfl⟩:=trodAll_nil r3
 obtain rfl:args=#[v0,v1,v2,v3]:=by cases args;simp_all
 obtain⟨rfl,rfl⟩:=trodVars_none hV
 have k0:=h0
 have lt0:∀x∈p0,x.block<W.heap.size:=by obtain⟨m,hm⟩:=k0;exact DataW.trod_lt m _ _ _ hm
 have k1:=h1
 have lt1:∀x∈p1,x.block<W.heap.size:=by obtain⟨m,hm⟩:=k1;exact DataW.trod_lt m _ _ _ hm
 have k2:=h2
 have lt2:∀x∈p2,x.block<W.heap.size:=by obtain⟨m,hm⟩:=k2;exact DataW.trod_lt m _ _ _ hm
 have k3:=h3
 have lt3:∀x∈p3,x.block<W.heap.size:=by obtain⟨m,hm⟩:=k3;exact DataW.trod_lt m _ _ _ hm
 obtain⟨cs0,ecs0,_⟩:=okWide_struct Tryz.underlying25 (hval 0 25 v0 rfl rfl)
 obtain⟨a0,rfl⟩:=Qt5 Qsr ⟨cs0,ecs0⟩ h0
 obtain⟨cs1,ecs1,_⟩:=okWide_struct Tryz.underlying28 (hval 1 28 v1 rfl rfl)
 have w1:=Qtw Tryz.underlying3 (by kernel_rfl) Qt7 Tryz.underlying26 (by kernel_rfl) Tryz.underlying28 (by kernel_rfl) ⟨rfl,rfl⟩ ⟨rfl,rfl⟩ ⟨cs1,ecs1⟩ h1
 obtain⟨a2,rfl,rfl,rfl,w2⟩:=open_int Tryz.underlying3 (hval 2 3 v2 rfl rfl) h2
 obtain⟨a3,rfl,rfl,rfl,w3⟩:=open_int Tryz.underlying3 (hval 3 3 v3 rfl rfl) h3
 clear hA0
 refine(walk (Qt1 hL) a0 v1 w1 a2 (Qei w2) a3 (Qei w3)).mono fun e W' ⟨he,bel⟩=>?_
 subst he
 exact⟨_,rfl,Ab.post_below hW' (fun _ _ _=>(trodAll_cons_mk (shut_bool Tryz.underlying4 _) trodAll_mk0)) (trodAll_cons_mk (Below.trod QhI (by kernel_rfl) (of_decide_eq_true (by kernel_rfl)) k0 bel lt0) (trodAll_cons_mk (Below.trod QhI (by kernel_rfl) (of_decide_eq_true (by kernel_rfl)) k1 bel lt1) (trodAll_cons_mk (Below.trod QhI (by kernel_rfl) (of_decide_eq_true (by kernel_rfl)) k2 bel lt2) (trodAll_cons_mk (Below.trod QhI (by kernel_rfl) (of_decide_eq_true (by kernel_rfl)) k3 bel lt3) trodAll_mk0)))) rfl bel⟩
theorem reads (os:Os) {H:Type} (enc:TypeId×Value→H):∃ds places,DataW.whole enc Tryz.prog ((QgC os).forCall (fun _ _=>0) ⟨#[],#[.agg #[.int .i64 0,.int .i64 0,.int .i64 0,.int .i64 0,.int .i64 0,.int .i64 0,.int .i64 0],.agg #[.int .i64 0,.slice none 0 0],.int .i64 0,.int .i64 0],[]⟩).memory Tryz.f3.params.toList Rows.printTellsSpec.vars false (#[.agg #[.int .i64 0,.int .i64 0,.int .i64 0,.int .i64 0,.int .i64 0,.int .i64 0,.int .i64 0],.agg #[.int .i64 0,.slice none 0 0],.int .i64 0,.int .i64 0]:Array Value).toList 8=some (ds,[],places):=
 ⟨[.agg [.agg [.lit (.int .i64 0),.lit (.int .i64 0)],.agg [.lit (.int .i64 0),.lit (.int .i64 0)],.lit (.int .i64 0),.lit (.int .i64 0),.lit (.int .i64 0)],.agg [.lit (.int .i64 0),.nil],.lit (.int .i64 0),.lit (.int .i64 0)],[],by kernel_rfl⟩
theorem lifted (os:Os) (started:os.Started) (H:Type) (enc:TypeId×Value→H) (F:Stop.Interp):
  ReturnsInHanded {} Tryz.checked os 3 .any ((OpenSpec.ofChange Rows.printTellsSpec).preRow enc Tryz.prog Tryz.f3 Rows.printTellsRow.domain false Rows.printTellsRow.laid) (((OpenSpec.ofChange Rows.printTellsSpec).at F).post enc Tryz.prog Tryz.f3 false true false false):=by
 obtain⟨ds,places,hx⟩:=reads os enc
 refine returnsInHanded_of_row (C:=Tryz.checked) (s:=OpenSpec.ofChange Rows.printTellsSpec) own started (by kernel_rfl) Tryz.func3
  (witness_row_atRef (enc:=enc) (C:=Tryz.checked) false (QgC os) #[.agg #[.int .i64 0,.int .i64 0,.int .i64 0,.int .i64 0,.int .i64 0,.int .i64 0,.int .i64 0],.agg #[.int .i64 0,.slice none 0 0],.int .i64 0,.int .i64 0] rfl (by kernel_rfl) (by kernel_rfl) (by kernel_rfl)
   (OpenSpec.preRow_of_cond 8 hx (by kernel_rfl) (fun k hk=>by cases hk) (by kernel_rfl) (laid_met os #[.agg #[.int .i64 0,.int .i64 0,.int .i64 0,.int .i64 0,.int .i64 0,.int .i64 0,.int .i64 0],.agg #[.int .i64 0,.slice none 0 0],.int .i64 0,.int .i64 0]))) ?_
 intro W base args ds gs before hval hW _ _ _ hL _ _
 exact contract H enc W base args ds gs before hval hW hL
theorem said:Rows.PrintTellsSaid:=
 OpenClaim.holds_of_cond 3 Tryz.f3 rfl rfl rfl rfl rfl rfl rfl ⟨rfl,rfl,rfl,rfl,rfl⟩ rfl rfl rfl rfl rfl (by kernel_rfl) Tryz.func3 (by kernel_rfl)
  (of_decide_eq_true (by kernel_rfl)) (by unfold Func.isWrapper;first | (rw[if_pos (by decide +kernel)];kernel_rfl) | (rw[if_neg (by decide +kernel)];exact⟨rfl,rfl⟩))
  (fun os started H enc _ F=>by rw[OpenClaim.pre_eq_preRow];exact lifted os started H enc F)
theorem plain (f:FuncId) (fn:Func) (hf:Tryz.pinned.checked.prog.funcNamed Tryz.f3.name=some f) (hfn:Tryz.pinned.checked.prog.funcs[f]? = some fn):
  false=Tryz.pinned.checked.prog.looks []∧∀ (j:Nat) t,fn.params[j]? = some t→Tryz.pinned.checked.prog.wantsStandIn t=false:=by
 obtain rfl:f=3:=Option.some.inj ((show Tryz.prog.funcNamed Tryz.f3.name=some 3 by kernel_rfl).symm.trans hf) |>.symm
 obtain rfl:fn=Tryz.f3:=(Option.some.inj (Tryz.func3.symm.trans hfn)).symm
 refine⟨by kernel_rfl,fun j t ht=>?_⟩
 rw[Tryz.params3]at ht
 have hm:=List.mem_of_getElem? (l:=[25,28,3,3]) (i:=j) (a:=t) (by simpa using ht)
 have hk:∀t∈[25,28,3,3],Tryz.pinned.checked.prog.wantsStandIn t=false:=by
  have h:([25,28,3,3].all fun t=>!(Tryz.pinned.checked.prog.wantsStandIn t))=true:=by kernel_rfl
  intro t ht
  have:=List.all_eq_true.1 h t ht
  simpa using this
 exact hk t hm
theorem card:Rows.PrintTellsCardSaid:=
 Claim7.holds_tied_plain_at .later [] _ _ _ _ said (fun _ h=>by cases h) (by kernel_rfl) (fun _ h=>by cases h) printTells_row_tie rfl ⟨rfl,rfl⟩ (by kernel_rfl) rfl plain (by kernel_rfl)
end Go.Proofs.YtdjkkoacinpdeaaGreatDoor.printTells
