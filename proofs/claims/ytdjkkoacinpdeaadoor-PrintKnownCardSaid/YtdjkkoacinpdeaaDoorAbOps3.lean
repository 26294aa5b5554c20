/- Slices: make, slicing, length, append, copy; conversions that make memory. -/
import Derived.Test.YtdjkkoacinpdeaaDoorAbOps2
set_option linter.unusedVariables false
namespace Go.Ab
section
variable {P : Program} {n : Nat} {A : Env} {H : Heap} {d : Option Nat} {ty : TypeId} {pos : String} {af : Array Edge} {g : Option (Nat × Bool)}

/-- What is asked of an element's type: its zero has so many plain cells, at least one; of bytes, it is 0. -/
noncomputable def elemOk (P : Program) (e : TypeId) (inf : TypeInfo) (z : Value) : Bool :=
  Nat.beq z.cells.size inf.size && Nat.blt 0 inf.size && z.cells.toList.all plain &&
    (match P.underlying e with
     | some (.int .u8) => (match z with | .int .u8 m => m == 0 | _ => false)
     | some _ => true
     | none => false)

structure ElemOk (P : Program) (e : TypeId) (inf : TypeInfo) (z : Value) : Prop where
  info : P.info? e = some inf
  zero : inf.zero = some z
  cells : z.cells.size = inf.size
  pos : 0 < inf.size
  plain_ : z.cells.toList.all plain = true
  byte : P.underlying e = some (.int .u8) → z = .int .u8 0

theorem ElemOk.mk' {e : TypeId} {inf : TypeInfo} {z : Value} (h1 : P.info? e = some inf) (h2 : inf.zero = some z) (h : elemOk P e inf z = true) : ElemOk P e inf z := by
  simp only [elemOk, Bool.and_eq_true] at h
  obtain ⟨⟨⟨a, b⟩, c⟩, dd⟩ := h
  refine ⟨h1, h2, by simpa [nbeq] using a, by simpa using b, c, fun hu => ?_⟩
  rw [hu] at dd
  simp only at dd
  split at dd
  · rename_i m; have : m = 0 := by simpa using dd
    rw [this]
  · cases dd

theorem ElemOk.cellsOf {e : TypeId} {inf : TypeInfo} {z : Value} (h : ElemOk P e inf z) : P.cellsOf e = inf.size := by simp [Program.cellsOf, h.info]

theorem zeros_get (z : Array Value) (m : Nat) (hz : 0 < z.size) {o : Nat} {v : Value} (h : (zeros z m)[o]? = some v) : v ∈ z := by
  simp only [zeros, List.getElem?_map, Option.map_eq_some_iff] at h
  obtain ⟨i, _, rfl⟩ := h
  rw [getElem!_pos z _ (Nat.mod_lt _ hz)]
  exact Array.getElem_mem _

theorem ElemOk.spare {e : TypeId} {inf : TypeInfo} {z : Value} (h : ElemOk P e inf z) {v : Value} (hv : v ∈ z.cells) : spareOk P e v := fun hu => by
  rw [h.byte hu] at hv
  simp [Value.cells] at hv
  exact ⟨0, hv, by omega, by omega⟩

theorem od_makeSlice {t e : TypeId} {x y : Operand} {inf : TypeInfo} {z : Value} {l c : Int} (ht : P.underlying t = some (.slice e)) (hok : ElemOk P e inf z) (ex : ev A x = .int .i64 l) (ey : ev A y = .int .i64 c)
    (h0 : 0 ≤ l) (h1 : l ≤ c) (h2 : (inf.bytes : Int) * c ≤ 281474976710656) (h3 : c ≤ 9223372036854775807) :
    OpDoes P ⟨d, .makeSlice t x y, ty, pos, af, g⟩ A H (.slice (some ⟨H.next, 0, none⟩) l.toNat c.toNat) (H.push (.cells (zeros z.cells (c.toNat * inf.size)) e false)) :=
  .of_run fun ρ w s hs he => by
    have e1 := evalP (he x (by simp [Op.operands])) ex rfl
    have e2 := evalP (he y (by simp [Op.operands])) ey rfl
    have hr := run_make (P := P) w t e inf z ht hok.info hok.zero .i64 .i64 l c h0 h1 h2 h3
    have hzl : (madeCells z.cells (c.toNat * inf.size)).toList = zeros z.cells (c.toNat * inf.size) := by simp [madeCells, zeros, Array.toList_range]
    obtain ⟨k1, k2⟩ := hs.pushCells (c := zeros z.cells (c.toNat * inf.size)) (c' := madeCells z.cells (c.toNat * inf.size)) e (by rw [hzl]; exact .closed (zeros_plain hok.plain_ _ (.inr (by rw [hok.cells]; exact hok.pos))))
    refine ⟨.slice (some ⟨w.heap.size, 0, none⟩) l.toNat c.toNat, _, _, ?_, .slice H.next 0 l.toNat c.toNat c.toNat _ _ (ext_same _ _ _) (.inl (by rw [add_lit])) (by omega) (by simp only [UNK]; omega) (fun h => ?_) (fun _ => rfl), k1, k2⟩
    · simp only [execOp, e1, e2, Sem.run_bind, hr, Result.andThen_ok, Sem.run_pure]
    · exfalso; simp only [UNK] at h; omega

/-! ### Slicing -/

/-- A bound of a slicing that is told, or not. -/
noncomputable def boundOf (A : Env) : Option Operand → Option (Option Int)
  | none => some none
  | some x => match ev A x with | .int _ m => some (some m) | _ => none

theorem bound_rel {ρ : Ren} {a : Act} {x : Option Operand} (he : ∀ y, x = some y → V ρ (ev A y) (a.eval y)) {m : Option Int} (h : boundOf A x = some m) :
    (m = none ∧ x.map a.eval = none) ∨ ∃ k j, m = some j ∧ x.map a.eval = some (.int k j) := by
  cases x with
  | none => simp [boundOf] at h; exact .inl ⟨h.symm, rfl⟩
  | some x =>
    simp only [boundOf] at h
    split at h
    · rename_i k j ej
      cases h
      have := evalP (he _ rfl) ej rfl
      exact .inr ⟨k, j, rfl, by simp [this]⟩
    · cases h

theorem run_bounds {ρ : Ren} {w : World} {a : Act} {lo hi mx : Option Operand} (hlo : ∀ y, lo = some y → V ρ (ev A y) (a.eval y)) (hhi : ∀ y, hi = some y → V ρ (ev A y) (a.eval y)) (hmx : ∀ y, mx = some y → V ρ (ev A y) (a.eval y)) {l h m : Option Int} (el : boundOf A lo = some l) (eh : boundOf A hi = some h) (em : boundOf A mx = some m)
    (hm : m ≠ none → h ≠ none) {len cap : Nat} (h1 : 0 ≤ l.getD 0) (h2 : l.getD 0 ≤ h.getD len) (h3 : h.getD len ≤ m.getD cap) (h4 : m.getD cap ≤ cap) (isS : Bool) :
    (Instr.sliceBounds isS len cap (lo.map a.eval) (hi.map a.eval) (mx.map a.eval)).run P w = .ok ((l.getD 0).toNat, (h.getD len).toNat, (m.getD cap).toNat) w := by
  rcases bound_rel hhi eh with ⟨rfl, e⟩ | ⟨k, j, rfl, e⟩ <;> rcases bound_rel hlo el with ⟨rfl, e'⟩ | ⟨k', j', rfl, e'⟩ <;> rcases bound_rel hmx em with ⟨rfl, e''⟩ | ⟨k'', j'', rfl, e''⟩ <;> simp only [Option.getD_none, Option.getD_some] at h1 h2 h3 h4 ⊢ <;> rw [e, e', e''] <;> simp only [Instr.sliceBounds, Sem.run_bind, Sem.run_pure, Result.andThen_ok]
  · simp
  · exact absurd rfl (hm (by simp))
  · rw [run_sliceBound (P := P) w k' j' len _ h1 h2]
    simp
  · exact absurd rfl (hm (by simp))
  · rw [run_sliceBound (P := P) w k j cap _ h2 h3]
    simp
  · rw [run_sliceBound (P := P) w k'' j'' cap _ (by omega) h4]
    simp only [Result.andThen_ok]
    rw [run_sliceBound (P := P) w k j j''.toNat _ (by omega) (by omega)]
    simp
  · rw [run_sliceBound (P := P) w k j cap _ (by omega) h3]
    simp only [Result.andThen_ok]
    rw [run_sliceBound (P := P) w k' j' j.toNat _ (by omega) (by omega)]
    simp
  · rw [run_sliceBound (P := P) w k'' j'' cap _ (by omega) h4]
    simp only [Result.andThen_ok]
    rw [run_sliceBound (P := P) w k j j''.toNat _ (by omega) (by omega)]
    simp only [Result.andThen_ok]
    rw [run_sliceBound (P := P) w k' j' j.toNat _ (by omega) (by omega)]
    simp

theorem od_slice_string {t : TypeId} {x : Operand} {lo hi : Option Operand} {s : ByteArray} {l h : Option Int} (ht : P.underlying t = some .string) (ex : ev A x = .string s)
    (el : boundOf A lo = some l) (eh : boundOf A hi = some h) (h1 : 0 ≤ l.getD 0) (h2 : l.getD 0 ≤ h.getD (bl s).length) (h3 : h.getD (bl s).length ≤ (bl s).length) :
    OpDoes P ⟨d, .slice t x lo hi none, ty, pos, af, g⟩ A H (.string (mkS (((bl s).drop (l.getD 0).toNat).take ((h.getD (bl s).length).toNat - (l.getD 0).toNat)))) H :=
  .pure_ fun ρ w a hs he => by
    have e1 := evalP (he x (by simp [Op.operands])) ex rfl
    simp only [bl_size] at h2 h3
    refine ⟨.string (s.extract (l.getD 0).toNat (h.getD s.size).toNat), ?_, ?_⟩
    rotate_left
    · have : s.extract (l.getD 0).toNat (h.getD s.size).toNat = mkS (((bl s).drop (l.getD 0).toNat).take ((h.getD (bl s).length).toNat - (l.getD 0).toNat)) := by
        apply ByteArray.ext
        apply Array.ext'
        rw [ByteArray.data_extract]
        simp [mkS, bl]
      rw [this]
      exact .same _ rfl
    have hb := run_bounds (P := P) (A := A) (w := w) (fun y e => he y (by simp [Op.operands, e])) (fun y e => he y (by simp [Op.operands, e])) (mx := none) (fun y e => by cases e) el eh (m := none) rfl (by simp) (len := s.size) (cap := s.size) h1 h2 (by simpa using h3) (by simp) false
    simp only [Option.map_none] at hb
    simp only [execOp, Instr.sliceAt, Instr.slice, e1, Sem.run_bind, run_underlying ht, Result.andThen_ok, Option.map_none, Option.isSome_none, Bool.false_eq_true, if_false, hb, Sem.run_pure]

/-- A slice of a slice: what is told, where the capacity may be unknown. -/
noncomputable def asliceS (size : Nat) (x : Value) (l h m : Option Int) : Option Value :=
  match x with
  | .slice none len cap =>
    if 0 ≤ l.getD 0 ∧ l.getD 0 ≤ h.getD len ∧ h.getD len ≤ m.getD cap ∧ m.getD cap ≤ cap then some (.slice none ((h.getD len).toNat - (l.getD 0).toNat) ((m.getD cap).toNat - (l.getD 0).toNat)) else none
  | .slice (some a) len cap =>
    if UNK ≤ cap then
      match m with
      | none => if 0 ≤ l.getD 0 ∧ l.getD 0 ≤ h.getD len ∧ h.getD len ≤ len ∧ cap = UNK + size then some (.slice (some ⟨a.block, a.off + (l.getD 0).toNat * size, none⟩) ((h.getD len).toNat - (l.getD 0).toNat) cap) else none
      | some m => if 0 ≤ l.getD 0 ∧ l.getD 0 ≤ h.getD len ∧ h.getD len ≤ m ∧ m ≤ len ∧ l.getD 0 < m then some (.slice (some ⟨a.block, a.off + (l.getD 0).toNat * size, none⟩) ((h.getD len).toNat - (l.getD 0).toNat) (m.toNat - (l.getD 0).toNat)) else none
    else
      if 0 ≤ l.getD 0 ∧ l.getD 0 ≤ h.getD len ∧ h.getD len ≤ m.getD cap ∧ m.getD cap ≤ cap then
        some (.slice (some (if (m.getD cap).toNat = (l.getD 0).toNat then a else ⟨a.block, a.off + (l.getD 0).toNat * size, none⟩)) ((h.getD len).toNat - (l.getD 0).toNat) ((m.getD cap).toNat - (l.getD 0).toNat))
      else none
  | _ => none

theorem od_slice_slice {t e : TypeId} {x : Operand} {lo hi mx : Option Operand} {inf : TypeInfo} {l h m : Option Int} {v : Value} (ht : P.underlying t = some (.slice e)) (hi' : P.info? e = some inf)
    (el : boundOf A lo = some l) (eh : boundOf A hi = some h) (em : boundOf A mx = some m) (hm : m ≠ none → h ≠ none) (hv : asliceS inf.size (ev A x) l h m = some v) :
    OpDoes P ⟨d, .slice t x lo hi mx, ty, pos, af, g⟩ A H v H :=
  .pure_ fun ρ w s hs he => by
    have hvx := he x (by simp [Op.operands])
    generalize ev A x = u at hvx hv
    unfold asliceS at hv
    split at hv
    · rename_i len cap
      split at hv
      · rename_i hc
        obtain ⟨c1, c2, c3, c4⟩ := hc
        cases hv
        have e1 := hvx.plain_eq rfl
        have hb := run_bounds (P := P) (A := A) (w := w) (fun y e => he y (by simp [Op.operands, e])) (fun y e => he y (by simp [Op.operands, e])) (fun y e => he y (by simp [Op.operands, e])) el eh em hm (len := len) (cap := cap) c1 c2 c3 c4 true
        refine ⟨.slice none ((h.getD len).toNat - (l.getD 0).toNat) ((m.getD cap).toNat - (l.getD 0).toNat), ?_, .same _ rfl⟩
        simp only [execOp, Instr.sliceAt, Instr.slice, e1, Sem.run_bind, run_underlying ht, Result.andThen_ok, hb, run_sizeOf hi', Sem.run_pure, Option.map_none, ite_self]
      · cases hv
    · rename_i a len cap
      obtain ⟨i, a', cap', g1, g2, g3, g4, g5, g0, g6, g7⟩ := hvx.slice_inv
      obtain ⟨id, off, sp⟩ := a
      simp only at g1 g2 g4 g6 g7 hv
      subst g2
      split at hv
      · rename_i hu
        obtain ⟨hes0, g6'⟩ := g6 hu
        split at hv
        · split at hv
          · rename_i hc
            obtain ⟨c1, c2, c3, c4⟩ := hc
            have hes : i.s = inf.size := by omega
            cases hv
            have hb := run_bounds (P := P) (A := A) (w := w) (fun y e => he y (by simp [Op.operands, e])) (fun y e => he y (by simp [Op.operands, e])) (fun y e => he y (by simp [Op.operands, e])) el eh em hm (len := len) (cap := cap') c1 c2 (by simp only [Option.getD_none]; omega) (by simp) true
            have hmul : off + (l.getD 0).toNat * inf.size + (cap' - (l.getD 0).toNat) * i.s ≤ i.n := by
              rw [hes] at g6' ⊢
              rw [Nat.add_assoc, ← Nat.add_mul, Nat.add_sub_cancel' (by omega)]
              exact g6'
            refine ⟨.slice (some (if cap' = (l.getD 0).toNat then a' else a'.add ((l.getD 0).toNat * inf.size))) ((h.getD len).toNat - (l.getD 0).toNat) (cap' - (l.getD 0).toNat), ?_, ?_⟩
            · simp only [execOp, Instr.sliceAt, Instr.slice, g3, Sem.run_bind, run_underlying ht, Result.andThen_ok, hb, run_sizeOf hi', Sem.run_pure, Option.getD_none, Int.toNat_natCast, Option.map_some]
              split <;> rfl
            · by_cases hcl : cap' = (l.getD 0).toNat
              · rw [if_pos hcl]
                exact .slice id _ _ _ _ i _ g1 (.inr ⟨by omega, by omega⟩) (by omega) (by omega) (fun _ => ⟨hes0, hmul⟩) (fun h => by omega)
              · rw [if_neg hcl]
                refine .slice id _ _ _ _ i _ g1 (.inl ?_) (by omega) (by omega) (fun _ => ⟨hes0, hmul⟩) (fun h => by omega)
                rcases g4 with h | ⟨h, h'⟩
                · rw [h, add_add]
                · exfalso; omega
          · cases hv
        · rename_i m
          split at hv
          · rename_i hc
            obtain ⟨c1, c2, c3, c4, c5⟩ := hc
            cases hv
            have hb := run_bounds (P := P) (A := A) (w := w) (fun y e => he y (by simp [Op.operands, e])) (fun y e => he y (by simp [Op.operands, e])) (fun y e => he y (by simp [Op.operands, e])) el eh em hm (len := len) (cap := cap') c1 c2 c3 (by simp only [Option.getD_some]; omega) true
            refine ⟨.slice (some (a'.add ((l.getD 0).toNat * inf.size))) ((h.getD len).toNat - (l.getD 0).toNat) (m.toNat - (l.getD 0).toNat), ?_, ?_⟩
            · simp only [execOp, Instr.sliceAt, Instr.slice, g3, Sem.run_bind, run_underlying ht, Result.andThen_ok, hb, run_sizeOf hi', Sem.run_pure, Option.getD_some, Option.map_some]
              rw [if_neg (by omega)]
            · refine .slice id _ _ _ _ i _ g1 (.inl ?_) (by omega) (by omega) (fun h => ?_) (fun _ => rfl)
              · rcases g4 with h | ⟨h, h'⟩
                · rw [h, add_add]
                · exfalso; omega
              · exfalso; omega
          · cases hv
      · rename_i hu
        have g7' := g7 (by omega)
        subst g7'
        split at hv
        · rename_i hc
          obtain ⟨c1, c2, c3, c4⟩ := hc
          cases hv
          have hb := run_bounds (P := P) (A := A) (w := w) (fun y e => he y (by simp [Op.operands, e])) (fun y e => he y (by simp [Op.operands, e])) (fun y e => he y (by simp [Op.operands, e])) el eh em hm (len := len) (cap := cap') c1 c2 c3 c4 true
          refine ⟨.slice (some (if (m.getD cap').toNat = (l.getD 0).toNat then a' else a'.add ((l.getD 0).toNat * inf.size))) ((h.getD len).toNat - (l.getD 0).toNat) ((m.getD cap').toNat - (l.getD 0).toNat), ?_, ?_⟩
          · simp only [execOp, Instr.sliceAt, Instr.slice, g3, Sem.run_bind, run_underlying ht, Result.andThen_ok, hb, run_sizeOf hi', Sem.run_pure, Option.map_some]
            split <;> rfl
          · by_cases hcl : (m.getD cap').toNat = (l.getD 0).toNat
            · rw [if_pos hcl, if_pos hcl]
              exact .slice id _ _ _ _ i _ g1 (.inr ⟨by omega, by omega⟩) (by omega) (by omega) (fun h => by omega) (fun _ => rfl)
            · rw [if_neg hcl, if_neg hcl]
              refine .slice id _ _ _ _ i _ g1 (.inl ?_) (by omega) (by omega) (fun h => by omega) (fun _ => rfl)
              rcases g4 with h | ⟨h, h'⟩
              · rw [h, add_add]
              · exfalso; omega
        · cases hv
    · cases hv
end
end Go.Ab
