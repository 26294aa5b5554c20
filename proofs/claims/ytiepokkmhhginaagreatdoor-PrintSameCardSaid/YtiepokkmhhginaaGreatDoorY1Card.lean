/- The law PrintSame returns true for every input, over whatever memory that holds the listed tables. No condition. -/
import Derived.Test.YtiepokkmhhginaaGreatDoorFFTab
import Derived.Test.YtiepokkmhhginaaGreatDoorY1Facts
import Derived.Deep.DeepWitnessRowRef
import Derived.ShutString
set_option linter.unusedVariables false
namespace Go.Proofs.YtiepokkmhhginaaGreatDoor.printSame
open Go.ChangeShapes Go.WideShapes Go.ChangeAt Go.RowKit _root_.Go.Proofs.YtiepokkmhhginaaGreatDoor.tab _root_.Go.Proofs.YtiepokkmhhginaaGreatDoor.code
theorem QsO:laidOutB Tryz.prog=true:=by kernel_rfl
theorem Qpr:Qhd 3 1:=Qww Tryz.underlying3 (by kernel_rfl)
theorem QA6:Qhd 36 2:=Qdh Tryz.underlying36 [1,1] rfl (by kernel_rfl) λi hi=>by
 rcases i with _ | _ | i
 ·exact⟨_,rfl,rfl,Qpr⟩
 ·exact⟨_,rfl,rfl,Qpr⟩
 ·simp at hi;omega
theorem QF8:Qhd 39 7:=Qdh Tryz.underlying39 [2,2,1,1,1] rfl (by kernel_rfl) λi hi=>by
 rcases i with _ | _ | _ | _ | _ | i
 ·exact⟨_,rfl,rfl,QA6⟩
 ·exact⟨_,rfl,rfl,QA6⟩
 ·exact⟨_,rfl,rfl,Qpr⟩
 ·exact⟨_,rfl,rfl,Qpr⟩
 ·exact⟨_,rfl,rfl,Qpr⟩
 ·simp at hi;omega
theorem QDo:Qhd 41 11:=Qdh Tryz.underlying41 [1,2,7,1] rfl (by kernel_rfl) λi hi=>by
 rcases i with _ | _ | _ | _ | i
 ·exact⟨_,rfl,rfl,Qpr⟩
 ·exact⟨_,rfl,rfl,QA6⟩
 ·exact⟨_,rfl,rfl,QF8⟩
 ·exact⟨_,rfl,rfl,Qpr⟩
 ·simp at hi;omega
theorem walk {w:World} (h:Qnz w) (a0:Value) (ha0:QsL w a0) (a1:Value) (ha1:QsL w a1) (a2:Int) (ha2:I64 a2):Calls Tryz.prog 3 #[a0,a1,.int .i64 a2] w λe w'=>e=.returned (.bool true)∧Below w.heap.size w w':=by
 obtain⟨op,u,l,ρ,H,hop,s1,hs,hwf,hro,hx,hv,hbs,hI,hb⟩:=QuP (Ab.sim_tabs (QC3 h) (QA2 h) tabs_ok) QxI QC6 ha0;obtain⟨o,u2,m,ρ2,H2,_,s2,hs2,hwf2,hro2,hx2,hv2,hbs2,hJ,hb2⟩:=QuP hs hwf hro ha1;exact Ab.calls_of_callQ (args':=[a0,a1,.int .i64 a2]) (QF7 op u l o u2 m a2 H2 (Qpk _ _ QxI QEX (hx.trans hx2)) (hbs.ext hwf hx2) (λn hn=>hb n (Nat.le_trans hx2.next hn)) hI hbs2 hb2 hJ) hwf2 (by kernel_rfl) hs2 (.cons (hv.mono s2) (.cons hv2 (.cons (.same _ rfl) (.nil _)))) hro2
set_option maxRecDepth 100000
theorem contract (H:Type) (enc:TypeId×Value->H) (W:World) (base:Nat) (args:Array Value) (ds gs:List (DataW H)) (before:List MemPlace)
  (hval:∀ (j:Nat) t v,Tryz.f3.params[j]? = some t->args[j]? = some v->Value.okWide Tryz.prog W .any base t v)
  (hW:DataW.Whole enc Tryz.prog Tryz.f3.params.toList Rows.printSameSpec.vars false W args.toList ds gs before) (hL:laidMetH Tryz.prog Rows.printSameRow.laid W):
  Calls Tryz.prog 3 args W λe W'=>∃v,e=.returned v∧Rows.printSameSpec.post enc Tryz.prog Tryz.f3 false true false false W args v W':=by
 have hW':=hW;obtain⟨p,q,hA0,hV,rfl,hfz,hnd⟩:=hW;have hA:DataW.TrodAll enc Tryz.prog W 0 (λ_=>true) true Tryz.f3.params.toList args.toList ds p:=hA0;rw[Tryz.params3]at hA hval;obtain⟨v0,vs0,d0,ds0,p0,q0,hargs,rfl,rfl,h0,r0⟩:=trodAll_cons hA;obtain⟨v1,vs1,d1,ds1,p1,q1,rfl,rfl,rfl,h1,r1⟩:=trodAll_cons r0;obtain⟨v2,vs2,d2,ds2,p2,q2,rfl,rfl,rfl,h2,r2⟩:=trodAll_cons r1;obtain⟨rfl,rfl,rfl⟩:=trodAll_nil r2;obtain rfl:args=#[v0,v1,v2]:=by cases args;simp_all
 obtain⟨rfl,rfl⟩:=trodVars_none hV;have k0:=h0;have lt0:∀x∈p0,x.block<W.heap.size:=by obtain⟨m,hm⟩:=k0;exact DataW.trod_lt m _ _ _ hm
 have k1:=h1;have lt1:∀x∈p1,x.block<W.heap.size:=by obtain⟨m,hm⟩:=k1;exact DataW.trod_lt m _ _ _ hm
 have k2:=h2;have lt2:∀x∈p2,x.block<W.heap.size:=by obtain⟨m,hm⟩:=k2;exact DataW.trod_lt m _ _ _ hm
 obtain⟨cs0,ecs0,_⟩:=okWide_struct Tryz.underlying24 (hval 0 24 v0 rfl rfl);have w0:=QA4 Tryz.underlying3 (by kernel_rfl) QDo Tryz.underlying22 (by kernel_rfl) Tryz.underlying24 (by kernel_rfl) ⟨rfl,rfl⟩ ⟨rfl,rfl⟩ ⟨cs0,ecs0⟩ h0;obtain⟨cs1,ecs1,_⟩:=okWide_struct Tryz.underlying24 (hval 1 24 v1 rfl rfl);have w1:=QA4 Tryz.underlying3 (by kernel_rfl) QDo Tryz.underlying22 (by kernel_rfl) Tryz.underlying24 (by kernel_rfl) ⟨rfl,rfl⟩ ⟨rfl,rfl⟩ ⟨cs1,ecs1⟩ h1;obtain⟨a2,rfl,rfl,rfl,w2⟩:=open_int Tryz.underlying3 (hval 2 3 v2 rfl rfl) h2;clear hA0;refine(walk (Qir hL) v0 w0 v1 w1 a2 (QlY w2)).mono λe W' ⟨he,bel⟩=>?_;subst he;exact⟨_,rfl,Ab.post_below hW' (λ_ _ _=>(trodAll_cons_mk (shut_bool Tryz.underlying4 _) trodAll_mk0)) (trodAll_cons_mk (Below.trod QsO (by kernel_rfl) (of_decide_eq_true (by kernel_rfl)) k0 bel lt0) (trodAll_cons_mk (Below.trod QsO (by kernel_rfl) (of_decide_eq_true (by kernel_rfl)) k1 bel lt1) (trodAll_cons_mk (Below.trod QsO (by kernel_rfl) (of_decide_eq_true (by kernel_rfl)) k2 bel lt2) trodAll_mk0))) rfl bel⟩
theorem reads (os:Os) {H:Type} (enc:TypeId×Value->H):∃ds places,DataW.whole enc Tryz.prog ((QlW os).forCall (λ_ _=>0) ⟨#[],#[.agg #[.int .i64 0,.slice none 0 0],.agg #[.int .i64 0,.slice none 0 0],.int .i64 0],[]⟩).memory Tryz.f3.params.toList Rows.printSameSpec.vars false (#[.agg #[.int .i64 0,.slice none 0 0],.agg #[.int .i64 0,.slice none 0 0],.int .i64 0]:Array Value).toList 8=some (ds,[],places):=
 ⟨[.agg [.lit (.int .i64 0),.nil],.agg [.lit (.int .i64 0),.nil],.lit (.int .i64 0)],[],by kernel_rfl⟩
theorem lifted (os:Os) (started:os.Started) (H:Type) (enc:TypeId×Value->H) (F:Stop.Interp):
  ReturnsInHanded {} Tryz.checked os 3 .any ((OpenSpec.ofChange Rows.printSameSpec).preRow enc Tryz.prog Tryz.f3 Rows.printSameRow.domain false Rows.printSameRow.laid) (((OpenSpec.ofChange Rows.printSameSpec).at F).post enc Tryz.prog Tryz.f3 false true false false):=by
 obtain⟨ds,places,hx⟩:=reads os enc;refine returnsInHanded_of_row (C:=Tryz.checked) (s:=OpenSpec.ofChange Rows.printSameSpec) own started (by kernel_rfl) Tryz.func3
  (witness_row_atRef (enc:=enc) (C:=Tryz.checked) false (QlW os) #[.agg #[.int .i64 0,.slice none 0 0],.agg #[.int .i64 0,.slice none 0 0],.int .i64 0] rfl (by kernel_rfl) (by kernel_rfl) (by kernel_rfl)
   (OpenSpec.preRow_of_cond 8 hx (by kernel_rfl) (λk hk=>by cases hk) (by kernel_rfl) (laid_met os #[.agg #[.int .i64 0,.slice none 0 0],.agg #[.int .i64 0,.slice none 0 0],.int .i64 0]))) ?_
 intro W base args ds gs before hval hW _ _ _ hL _ _;exact contract H enc W base args ds gs before hval hW hL
theorem said:Rows.PrintSameSaid:=
 OpenClaim.holds_of_cond 3 Tryz.f3 rfl rfl rfl rfl rfl rfl rfl ⟨rfl,rfl,rfl,rfl,rfl⟩ rfl rfl rfl rfl rfl named Tryz.func3 closed
  (of_decide_eq_true (by kernel_rfl)) (by unfold Func.isWrapper;first | (rw[if_pos (by decide +kernel)];kernel_rfl) | (rw[if_neg (by decide +kernel)];exact⟨rfl,rfl⟩))
  (λos started H enc _ F=>by rw[OpenClaim.pre_eq_preRow];exact lifted os started H enc F)
theorem plain (f:FuncId) (fn:Func) (hf:Tryz.pinned.checked.prog.funcNamed Tryz.f3.name=some f) (hfn:Tryz.pinned.checked.prog.funcs[f]? = some fn):
  true=Tryz.pinned.checked.prog.looks [24,24,3]∧∀ (j:Nat) t,fn.params[j]? = some t->Tryz.pinned.checked.prog.wantsStandIn t=false:=by
 obtain rfl:f=3:=Option.some.inj ((show Tryz.prog.funcNamed Tryz.f3.name=some 3 by kernel_rfl).symm.trans hf) |>.symm;obtain rfl:fn=Tryz.f3:=(Option.some.inj (Tryz.func3.symm.trans hfn)).symm;refine⟨by kernel_rfl,λj t ht=>?_⟩;rw[Tryz.params3]at ht;have hm:=List.mem_of_getElem? (l:=[24,24,3]) (i:=j) (a:=t) (by simpa using ht);have hk:∀t∈[24,24,3],Tryz.pinned.checked.prog.wantsStandIn t=false:=by
  have h:([24,24,3].all λt=>!(Tryz.pinned.checked.prog.wantsStandIn t))=true:=by kernel_rfl
  intro t ht;have:=List.all_eq_true.1 h t ht;simpa using this
 exact hk t hm
theorem card:Rows.PrintSameCardSaid:=
 Claim7.holds_tied_plain_at .later [] _ _ _ _ said (λ_ h=>by cases h) (by kernel_rfl) (λ_ h=>by cases h) printSame_row_tie rfl ⟨rfl,rfl⟩ (by kernel_rfl) rfl plain (by kernel_rfl)
end Go.Proofs.YtiepokkmhhginaaGreatDoor.printSame
