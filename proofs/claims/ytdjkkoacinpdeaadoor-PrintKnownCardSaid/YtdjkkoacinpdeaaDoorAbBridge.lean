/- From a run over no memory to what holds over any. -/
import Derived.Test.YtdjkkoacinpdeaaDoorAbReloc
import Derived.ProofKit
import Derived.OpenShut
set_option linter.unusedVariables false
namespace Go.Ab
open Go.RowKit
section
variable {P : Program}

noncomputable def globR (P : Program) : Ren := fun g => if g < P.globals.size then some ⟨⟨g, 0, none⟩, 0, 0⟩ else none

/-- The heap of which nothing is known. -/
noncomputable def H0 (P : Program) : Heap := ⟨P.globals.size, .nil⟩
theorem H0_get (P : Program) (id : Nat) : (H0 P).get id = none := rfl

theorem sim_H0 (w : World) : Sim P (globR P) (H0 P) w :=
  Sim.empty (fun id j h => by unfold globR at h; split at h; (assumption); cases h) (fun g hg => ⟨_, by unfold globR; rw [if_pos hg], rfl⟩)

theorem St.below {ρ ρ' : Ren} {H H' : Heap} {w w' : World} (h : St ρ H w ρ' H' w') (hro : ∀ id b, H.get id = some b → b.ro = true) : Below w.heap.size w w' :=
  ⟨h.os, h.tape, h.output, h.size, fun b hb => h.frame b hb (fun id i bl _ h2 h3 => by rw [hro id bl h2] at h3; cases h3)⟩

/-- What a function does over no memory, with closed values, it does over any. -/
theorem does_any {f : FuncId} {args : List Value} {v : Value} {H1 : Heap} (hd : Does P f args (H0 P) (.ret v) H1) (ha : args.all plain = true) (hv : plain v = true) (H : Heap) : Does P f args H (.ret v) H := by
  intro ρ w args' hs hargs
  have hargs' : VL (restr ρ P.globals.size) args args' := ⟨hargs.1, fun j x x' e e' => by
    have hp : plain x = true := List.all_eq_true.1 ha x (List.mem_of_getElem? e)
    rw [(hargs.2 j x x' e e').plain_eq hp]
    exact .same x hp⟩
  have hsim : Sim P (restr ρ P.globals.size) (H0 P) w := Sim.empty (fun id j h => (restr_some h).1) (fun g hg => by
    obtain ⟨j, hj, e⟩ := hs.glob g hg
    exact ⟨j, restr_mk hg hj, e⟩)
  refine (hd _ w args' hsim hargs').mono ?_
  rintro e w' ⟨ρ', ho, hst, hs'⟩
  have hbel := hst.below (fun id b h => by rw [H0_get] at h; cases h)
  refine ⟨ρ, ?_, ⟨.refl ρ, Nat.le_refl _, fun _ _ _ h => h, fun _ _ b b' _ h hr h' => (by rw [h] at h'; cases h'; exact hr), fun id i h h' => (by rw [h'] at h; cases h), hbel.os, hbel.tape, hbel.output, hbel.size, fun b hb _ => hbel.block b hb⟩,
    ⟨hs.dom, fun id b i h h' => (hs.live id b i h h').mono (.refl ρ) (hbel.block _ (hs.live id b i h h').lt), hs.sep, hs.glob⟩⟩
  cases e with
  | returned v' =>
    have : v' = v := V.plain_eq ho hv
    subst this
    exact .same _ hv
  | _ => exact ho.elim

noncomputable def isTrue : Option (Value × Heap) → Bool
  | some (.bool b, _) => b
  | _ => false

theorem isTrue_some {r : Option (Value × Heap)} (h : isTrue r = true) : ∃ H, r = some (.bool true, H) := by
  unfold isTrue at h
  split at h
  · subst h; exact ⟨_, rfl⟩
  · cases h

theorem does_true {known : CallF} (hk : CallOk P known) {F G k : Nat} {f : FuncId} {args : List Value} (he : entered P f = true) (ha : args.all plain = true) (h : isTrue ((run P known F G k).fn f args (H0 P)) = true) (H : Heap) : Does P f args H (.ret (.bool true)) H := by
  obtain ⟨H1, hr⟩ := isTrue_some h
  exact does_any (((run_sound hk k).fn f args (H0 P) _ H1 hr).does he) ha rfl H

/-- A contract over blocks that may not be written, as the kit's calls say it. -/
theorem calls_of_does {f : FuncId} {args args' : List Value} {v : Value} {H H' : Heap} (hd : Does P f args H (.ret v) H') {ρ : Ren} {w : World} (hs : Sim P ρ H w) (ha : VL ρ args args') (hv : plain v = true) (hro : ∀ id b, H.get id = some b → b.ro = true) :
    Calls P f args'.toArray w fun e w' => e = .returned v ∧ Below w.heap.size w w' := by
  refine (hd ρ w args' hs ha).mono ?_
  rintro e w' ⟨ρ', ho, hst, hs'⟩
  refine ⟨?_, hst.below hro⟩
  cases e with
  | returned v' => rw [V.plain_eq ho hv]
  | _ => exact ho.elim

/-- The tables alone, in a world that holds them. -/
theorem sim_tabs {tabs : List Tab} {w : World} (hb : ∀ t ∈ tabs, t.id < w.heap.size) (hc : ∀ t ∈ tabs, ∀ (j : Nat) v, t.c[j]? = some v → w.cell? ⟨t.id, j, none⟩ = some v) (hp : tabsOk tabs = true) :
    Sim P (globR P) (tabHeap P.globals.size tabs) w := by
  refine ⟨fun id j h => (by unfold globR at h; split at h; (assumption); cases h), fun id b i hg hi => ?_, fun id1 id2 b1 b2 i1 i2 h1 h2 h3 h4 h5 => ?_, fun g hg => ⟨_, (by unfold globR; rw [if_pos hg]), rfl⟩⟩
  · obtain ⟨t, h1, rfl, rfl⟩ := tabHeap_get hg
    unfold globR at hi
    split at hi
    · cases hi
      refine ⟨hb t h1, fun j v hj => ⟨v, ?_, .same v (List.all_eq_true.1 (List.all_eq_true.1 hp t h1) v (List.mem_of_getElem? hj))⟩⟩
      rw [add_lit, Nat.zero_add]
      exact hc t h1 j v hj
    · cases hi
  · obtain ⟨t, _, _, rfl⟩ := tabHeap_get h1
    cases h5

/-- A closed run over the tables, as the kit's calls say it. -/
theorem calls_tabs {known : CallF} (hk : CallOk P known) {F G k : Nat} {f : FuncId} {args : List Value} {tabs : List Tab} (he : entered P f = true) (ha : args.all plain = true) (hp : tabsOk tabs = true)
    (h : isTrue ((run P known F G k).fn f args (tabHeap P.globals.size tabs)) = true) {w : World} (hb : ∀ t ∈ tabs, t.id < w.heap.size) (hc : ∀ t ∈ tabs, ∀ (j : Nat) v, t.c[j]? = some v → w.cell? ⟨t.id, j, none⟩ = some v) :
    Calls P f args.toArray w fun e w' => e = .returned (.bool true) ∧ Below w.heap.size w w' := by
  obtain ⟨H1, hr⟩ := isTrue_some h
  exact calls_of_does (((run_sound hk k).fn f args _ _ H1 hr).does he) (sim_tabs hb hc hp) (.closed ha) rfl (fun id b hg => by obtain ⟨t, _, _, rfl⟩ := tabHeap_get hg; rfl)

/-- What a law's row asks behind the call, where nothing that was there has turned. -/
theorem post_below {H : Type} {enc : TypeId × Value → H} {f : Func} {s : ChangeSpec} {fresh handsOn : Bool} {W W' : World} {args : Array Value} {v : Value} {ds gs : List (DataW H)} {before pa pv : List MemPlace}
    (hW : DataW.Whole enc P f.params.toList s.vars false W args.toList ds gs before)
    (hres : ∀ (b : Nat) (sp : Nat → Bool) (hd : Bool), DataW.TrodAll enc P W' b sp hd f.resultTypes.toList (v.resultList f.resultTypes.size) (s.fn H (ds ++ gs)).results [])
    (hargs : DataW.TrodAll enc P W' 0 (fun b => decide (b < W.heap.size)) true f.params.toList args.toList (s.fn H (ds ++ gs)).args pa)
    (hvars : DataW.TrodVars enc P W' (fun b => decide (b < W.heap.size)) s.vars (s.fn H (ds ++ gs)).vars pv) (hb : Below W.heap.size W W') :
    s.post enc P f false fresh handsOn false W args v W' := by
  refine ⟨ds, gs, before, [], pa, pv, hW, hres _ _ _, hargs, hvars, ⟨hb.os, hb.output, fun i hi => ?_⟩, fun h => by cases h⟩
  rw [hb.block i hi]
  cases hx : W.heap[i]? with
  | none => simp
  | some o => cases o <;> simp
end
end Go.Ab
