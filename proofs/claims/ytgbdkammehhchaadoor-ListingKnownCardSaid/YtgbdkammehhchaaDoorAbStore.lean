/- Stores: a block of the heap turns, all else stays. -/
import Derived.Test.YtgbdkammehhchaaDoorAbMem
set_option linter.unusedVariables false
namespace Go.Ab
section
variable {P : Program} {n : Nat} {Q : Ex → Env → Heap → Prop} {A : Env} {H : Heap}

/-- A world that differs from another in one block alone. -/
structure OneBlk (w w' : World) (g : Nat) : Prop where
  other : ∀ b, b ≠ g → w'.heap[b]? = w.heap[b]?
  size : w'.heap.size = w.heap.size
  os : w'.os = w.os
  tape : w'.tape = w.tape
  output : w'.output = w.output

theorem OneBlk.refl (w : World) (g : Nat) : OneBlk w w g := ⟨fun _ _ => rfl, rfl, rfl, rfl, rfl⟩
theorem OneBlk.trans {w w1 w2 : World} {g : Nat} (a : OneBlk w w1 g) (b : OneBlk w1 w2 g) : OneBlk w w2 g :=
  ⟨fun k hk => (b.other k hk).trans (a.other k hk), b.size.trans a.size, b.os.trans a.os, b.tape.trans a.tape, b.output.trans a.output⟩

theorem Sim.setBlk {ρ : Ren} {w w' : World} (hs : Sim P ρ H w) {id : Nat} {i : Info} {b b' : Blk} (hi : ρ id = some i) (hg : H.get id = some b) (hro : b.ro = false)
    (hw : OneBlk w w' i.at_.block) (hb : BlkRel P ρ i w' b') : St ρ H w ρ (H.set id b') w' ∧ Sim P ρ (H.set id b') w' := by
  refine ⟨⟨.refl ρ, Nat.le_refl _, fun x j h h' => ?_, fun x j b1 b2 h h1 h2 h3 => ?_, fun x j h h' => (by rw [h'] at h; cases h), hw.os, hw.tape, hw.output, (by rw [hw.size]; exact Nat.le_refl _), fun k hk hn => ?_⟩, ⟨fun x j h => hs.dom x j h, fun x bl j h h' => ?_, fun id1 id2 b1 b2 i1 i2 h1 h2 h3 h4 h5 h6 => ?_, hs.glob⟩⟩
  · rw [Heap.get_set]; by_cases e : x = id
    · subst e; rw [hg] at h'; cases h'
    · rw [if_neg e]; exact h'
  · rw [Heap.get_set] at h3
    by_cases e : x = id
    · subst e; rw [hg] at h1; cases h1; rw [hro] at h2; cases h2
    · rw [if_neg e, h1] at h3; cases h3; exact h2
  · exact hw.other k (fun e => hn id i b hi hg hro e.symm)
  · rw [Heap.get_set] at h
    by_cases e : x = id
    · subst e; rw [if_pos rfl] at h; cases h; rw [hi] at h'; cases h'; exact hb
    · rw [if_neg e] at h
      refine (hs.live x bl j h h').mono (.refl ρ) (hw.other _ ?_)
      exact fun e' => hs.sep id x b bl i j hg h hi h' hro (fun h => e h.symm) e'.symm
  · rw [Heap.get_set] at h1 h2
    by_cases e1 : id1 = id
    · subst e1
      rw [if_neg (fun h => h6 h.symm)] at h2
      exact hs.sep id1 id2 b b2 i1 i2 hg h2 h3 h4 hro h6
    · rw [if_neg e1] at h1
      by_cases e2 : id2 = id
      · subst e2
        exact hs.sep id1 id2 b1 b i1 i2 h1 hg h3 h4 h5 h6
      · rw [if_neg e2] at h2
        exact hs.sep id1 id2 b1 b2 i1 i2 h1 h2 h3 h4 h5 h6

noncomputable def splice (c : List Value) (p : Nat) (vs : List Value) : List Value := c.take p ++ (vs ++ c.drop (p + vs.length))

theorem splice_length {c : List Value} {p : Nat} {vs : List Value} (h : p + vs.length ≤ c.length) : (splice c p vs).length = c.length := by
  simp [splice]; omega

theorem splice_get {c : List Value} {p : Nat} {vs : List Value} (h : p + vs.length ≤ c.length) (o : Nat) : (splice c p vs)[o]? = if p ≤ o ∧ o < p + vs.length then vs[o - p]? else c[o]? := by
  unfold splice
  by_cases h1 : o < p
  · rw [List.getElem?_append_left (by simp; omega), if_neg (by omega), List.getElem?_take, if_pos h1]
  · rw [List.getElem?_append_right (by simp; omega)]
    simp only [List.length_take, Nat.min_eq_left (show p ≤ c.length by omega)]
    by_cases h2 : o < p + vs.length
    · rw [List.getElem?_append_left (by omega), if_pos ⟨by omega, h2⟩]
    · rw [List.getElem?_append_right (by omega), if_neg (by omega), List.getElem?_drop]
      congr 1; omega

theorem setCell_block (w : World) (g o : Nat) (cur : Array Value) (e : TypeId) (fz : Nat × Nat) (v : Value) (hg : w.heap[g]? = some (.cells cur e fz)) :
    (w.setCell ⟨g, o, none⟩ v).heap[g]? = some (.cells (cur.setIfInBounds o v) e fz) ∧ OneBlk w (w.setCell ⟨g, o, none⟩ v) g := by
  refine ⟨by simp [World.setCell, Array.getElem?_modify, hg], ⟨fun b hb => ?_, by simp, rfl, rfl, rfl⟩⟩
  simp only [World.setCell, Array.getElem?_modify]
  rw [if_neg (fun e => hb e.symm)]

theorem run_store_list (P : Program) (g o : Nat) (e : TypeId) (fz : Nat × Nat) : ∀ (vs : List Value) (i : Nat) (cur : Array Value) (w : World), w.heap[g]? = some (.cells cur e fz) → o + i + vs.length ≤ cur.size →
    (∀ k, o + i ≤ k → k < o + i + vs.length → ¬ (fz.1 ≤ k ∧ k < fz.2)) → (∀ v ∈ vs, v.oneCell' = true) →
    ∃ w' cur', (storeCells ⟨g, o, none⟩ vs i).run P w = .ok () w' ∧ w'.heap[g]? = some (.cells cur' e fz) ∧ OneBlk w w' g ∧ cur'.size = cur.size ∧
      ∀ k, cur'[k]? = if o + i ≤ k ∧ k < o + i + vs.length then vs[k - (o + i)]? else cur[k]?
  | [], i, cur, w, hg, _, _, _ => ⟨w, cur, rfl, hg, .refl _ _, rfl, fun k => by rw [if_neg (by simp)]⟩
  | v :: rest, i, cur, w, hg, hl, hf, h1 => by
    simp only [List.length_cons] at hl hf
    have hlt : o + i < cur.size := by omega
    have hcell : w.cell? ⟨g, o + i, none⟩ = some cur[o + i] := by
      rw [cell_of_row w g (o + i) cur e fz hg, Array.getElem?_eq_getElem hlt]
    have hfz : w.frozen? ⟨g, o + i, none⟩ = false := by
      simp only [World.frozen?, hg]
      have := hf (o + i) (by omega) (by omega)
      simp only [Bool.and_eq_false_iff, decide_eq_false_iff_not]
      by_cases hh : fz.1 ≤ o + i
      · right; exact fun hx => this ⟨hh, hx⟩
      · left; exact hh
    have hst : (store ((⟨g, o, none⟩ : Addr).add i) v).run P w = .ok () (w.setCell ⟨g, o + i, none⟩ v) := by
      rw [add_lit, run_store P w _ v _ (h1 v (by simp)), hcell]
      simp [hfz]
    obtain ⟨hg1, hone⟩ := setCell_block w g (o + i) cur e fz v hg
    obtain ⟨w', cur', hr, hg', hone', hsz, hk⟩ := run_store_list P g o e fz rest (i + 1) (cur.setIfInBounds (o + i) v) (w.setCell ⟨g, o + i, none⟩ v) hg1 (by simp; omega)
      (fun k hk1 hk2 => hf k (by omega) (by omega)) (fun u hu => h1 u (by simp [hu]))
    refine ⟨w', cur', ?_, hg', hone.trans hone', by simpa using hsz, fun k => ?_⟩
    · simp only [storeCells, Sem.run_bind, hst, Result.andThen_ok]
      exact hr
    · rw [hk]
      simp only [List.length_cons]
      by_cases hk0 : k = o + i
      · subst hk0
        rw [if_neg (by omega), if_pos ⟨Nat.le_refl _, by omega⟩]
        simp [hlt]
      · by_cases hin : o + (i + 1) ≤ k ∧ k < o + (i + 1) + rest.length
        · rw [if_pos hin, if_pos ⟨by omega, by omega⟩]
          rw [show k - (o + i) = (k - (o + (i + 1))) + 1 by omega]
          simp
        · rw [if_neg hin, if_neg (by omega)]
          rw [Array.getElem?_setIfInBounds_ne (by omega)]

/-- Cells are stored into a block that may be written. -/
theorem BlkRel.storeList {ρ : Ren} {i : Info} {w : World} {c : List Value} {e : TypeId} (hb : BlkRel P ρ i w (.cells c e false)) {off : Nat} {vs vs' : List Value} (hvs : VL ρ vs vs') (hl : off + vs.length ≤ c.length)
    (h1 : ∀ v ∈ vs, v.oneCell' = true) : ∃ w', (storeCells (i.at_.add off) vs').run P w = .ok () w' ∧ OneBlk w w' i.at_.block ∧ BlkRel P ρ i w' (.cells (splice c off vs) e false) := by
  obtain ⟨cur, fz, hh, hsp, hsz, hcl, hcell, hfz, hspare, hes⟩ := hb
  have hlen := hvs.1
  have h1' : ∀ v ∈ vs', v.oneCell' = true := fun v' hv' => by
    obtain ⟨j, hj⟩ := List.getElem?_of_mem hv'
    have hjl : j < vs.length := by rw [hlen]; exact (List.getElem?_eq_some_iff.1 hj).1
    have := hvs.2 j _ v' (List.getElem?_eq_getElem hjl) hj
    rw [this.oneCell]
    exact h1 _ (List.getElem_mem hjl)
  rw [add_none hsp.1]
  obtain ⟨w', cur', hr, hg', hone, hsz', hk⟩ := run_store_list P i.at_.block (i.at_.off + off) e fz vs' 0 cur w hh (by omega) (fun k hk1 hk2 => hfz k (by omega) (by omega)) h1'
  simp only [Nat.add_zero] at hk
  refine ⟨w', hr, hone, cur', fz, hg', hsp, by rw [hsz']; exact hsz, by rw [splice_length hl]; exact hcl, fun j v hj => ?_, fun o ho1 ho2 => hfz o ho1 (by rw [hsz'] at ho2; exact ho2), fun o v ho hov => ?_, hes⟩
  · rw [splice_get hl] at hj
    rw [hk]
    by_cases hin : off ≤ j ∧ j < off + vs.length
    · rw [if_pos hin] at hj
      rw [if_pos ⟨by omega, by omega⟩]
      rw [show i.at_.off + j - (i.at_.off + off) = j - off by omega]
      exact hvs.get hj
    · rw [if_neg hin] at hj
      rw [if_neg (by omega)]
      exact hcell j v hj
  · rw [splice_length hl] at ho
    rw [hk, if_neg (by omega)] at hov
    exact hspare o v ho hov

noncomputable def astore (P : Program) (t : TypeId) (a : Addr) (v : Value) (H : Heap) : Option Heap :=
  match P.info? t, H.get a.block with
  | some inf, some (.cells c e false) =>
    if v.cells.toList.length = inf.size ∧ a.off + v.cells.toList.length ≤ c.length ∧ v.cells.toList.all (·.oneCell') = true then some (H.set a.block (.cells (splice c a.off v.cells.toList) e false)) else none
  | _, _ => none

theorem run_astore {ρ : Ren} {w : World} (hs : Sim P ρ H w) {t : TypeId} {id off : Nat} {v v' : Value} {i : Info} {H' : Heap} (hi : ρ id = some i) (hv : V ρ v v') (hst : astore P t ⟨id, off, none⟩ v H = some H') :
    ∃ w', (storeVar t (i.at_.add off) v').run P w = .ok () w' ∧ St ρ H w ρ H' w' ∧ Sim P ρ H' w' := by
  unfold astore at hst
  cases hf : P.info? t with
  | none => simp [hf] at hst
  | some inf =>
    simp only [hf] at hst
    split at hst
    · rename_i inf' c e he hg
      cases he
      split at hst
      · rename_i hc
        obtain ⟨hc1, hc2, hc3⟩ := hc
        cases hst
        have hvl := hv.cells
        obtain ⟨w', hr, hone, hb⟩ := (hs.live id _ i hg hi).storeList hvl hc2 (fun u hu => List.all_eq_true.1 hc3 u hu)
        refine ⟨w', ?_, hs.setBlk hi hg rfl hone hb⟩
        have hsize : v'.cells.size = inf.size := by have := hvl.1; simp at this hc1; omega
        simp only [storeVar, Sem.run_bind, sizeOf, typeInfo, run_program, Result.andThen_ok, hf, Sem.run_pure, hsize, ne_eq, not_true_eq_false, if_false]
        exact hr
      · cases hst
    · cases hst

end
end Go.Ab
