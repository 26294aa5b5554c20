/- Operations over memory: loads, stores, new blocks, slices. -/
import Derived.Test.YtgbdkammehhchaaDoorAbOps
import Derived.Laws.MakeOwn
set_option linter.unusedVariables false
namespace Go.Ab
section
variable {P : Program} {n : Nat} {A : Env} {H : Heap} {d : Option Nat} {ty : TypeId} {pos : String} {af : Array Edge} {g : Option (Nat × Bool)}

theorem aload_cells {t : TypeId} {a : Addr} {v : Value} (h : aload P t a H = some v) : ∃ c e ro, H.get a.block = some (.cells c e ro) := by
  unfold aload at h
  split at h
  · rename_i d inf c e ro h1 h2 h3
    exact ⟨c, e, ro, h3⟩
  · cases h

theorem od_load {t : TypeId} {x : Operand} {a : Addr} {v : Value} (ex : ev A x = .pointer (some a)) (hl : aload P t a H = some v) : OpDoes P ⟨d, .load t x, ty, pos, af, g⟩ A H v H :=
  .pure_ fun ρ w s hs he => by
    have hv := he x (by simp [Op.operands])
    rw [ex] at hv
    obtain ⟨i, g1, g2, g3⟩ := hv.ptr_inv
    obtain ⟨id, off, sp⟩ := a
    simp only at g1 g2 g3
    subst g2
    obtain ⟨c, e, ro, hg⟩ := aload_cells hl
    obtain ⟨v', h1, h2⟩ := run_aload g1 hg (hs.live id _ i hg g1) hl
    refine ⟨v', ?_, h2⟩
    simp only [execOp, Instr.loadAt, g3, Instr.sureAddr, Sem.run_bind, Sem.run_pure, Result.andThen_ok, h1]

theorem od_store {t : TypeId} {x y : Operand} {a : Addr} {H' : Heap} (ex : ev A x = .pointer (some a)) (hl : astore P t a (ev A y) H = some H') : OpDoes P ⟨d, .store t x y, ty, pos, af, g⟩ A H undef H' :=
  .of_skip fun ρ w s hs he => by
    have hv := he x (by simp [Op.operands])
    rw [ex] at hv
    obtain ⟨i, g1, g2, g3⟩ := hv.ptr_inv
    obtain ⟨id, off, sp⟩ := a
    simp only at g1 g2 g3
    subst g2
    obtain ⟨w', h1, h2, h3⟩ := run_astore hs g1 (he y (by simp [Op.operands])) hl
    refine ⟨ρ, w', ?_, h2, h3⟩
    simp only [execOp, Instr.storeAt, g3, Instr.sureAddr, Sem.run_bind, Sem.run_pure, Result.andThen_ok, h1]

theorem run_zeroValue {t : TypeId} {inf : TypeInfo} {z : Value} (hi : P.info? t = some inf) (hz : inf.zero = some z) (w : World) : (zeroValue t).run P w = .ok z w := by
  simp only [zeroValue, typeInfo, Sem.run_bind, run_program, Result.andThen_ok, hi, Sem.run_pure, hz]

/-- A new variable. -/
theorem od_alloc {e : TypeId} {inf : TypeInfo} {z : Value} (hi : P.info? e = some inf) (hz : inf.zero = some z) (hc : z.cells.toList.all plain = true) :
    OpDoes P ⟨d, .alloc e, ty, pos, af, g⟩ A H (.pointer (some ⟨H.next, 0, none⟩)) (H.push (.cells z.cells.toList e false)) :=
  .of_run fun ρ w s hs he => by
    obtain ⟨h1, h2⟩ := hs.pushCells (c := z.cells.toList) (c' := z.cells) e (.closed hc)
    refine ⟨.pointer (some ⟨w.heap.size, 0, none⟩), _, _, ?_, .ptr H.next 0 _ (ext_same _ _ _), h1, h2⟩
    simp only [execOp, Instr.alloc, Sem.run_bind, run_zeroValue hi hz, Result.andThen_ok, newVar, newRow, run_newObj, Sem.run_pure, World.alloc]

theorem od_box {e : TypeId} {x : Operand} :
    OpDoes P ⟨d, .box e x, ty, pos, af, g⟩ A H (.pointer (some ⟨H.next, 0, none⟩)) (H.push (.cells (ev A x).cells.toList e false)) :=
  .of_run fun ρ w s hs he => by
    obtain ⟨h1, h2⟩ := hs.pushCells (c := (ev A x).cells.toList) (c' := (s.eval x).cells) e (he x (by simp [Op.operands])).cells
    refine ⟨.pointer (some ⟨w.heap.size, 0, none⟩), _, _, ?_, .ptr H.next 0 _ (ext_same _ _ _), h1, h2⟩
    simp only [execOp, Instr.box, Sem.run_bind, newVar, newRow, run_newObj, Sem.run_pure, Result.andThen_ok, World.alloc]

/-! ### Building structs, arrays, slices -/

/-- Parts laid into cells, one behind the other. -/
noncomputable def afill (place : Nat → Option (Nat × Nat)) : List Value → List (Nat × Value) → Option (List Value)
  | cells, [] => some cells
  | cells, (i, v) :: rest =>
    match place i with
    | none => none
    | some (off, size) => if v.cells.toList.length = size ∧ off + size ≤ cells.length then afill place (splice cells off v.cells.toList) rest else none

theorem fold_set_list : ∀ (vs : List Value) (k off : Nat) (cs : Array Value), off + k + vs.length ≤ cs.size →
    ((vs.zipIdx k).foldl (fun (cs : Array Value) (p : Value × Nat) => cs.setIfInBounds (off + p.2) p.1) cs).toList = splice cs.toList (off + k) vs
  | [], k, off, cs, h => by simp [splice]
  | v :: vs, k, off, cs, h => by
    simp only [List.length_cons] at h
    rw [List.zipIdx_cons, List.foldl_cons, fold_set_list vs (k + 1) off _ (by simp; omega)]
    apply List.ext_getElem?
    intro o
    rw [splice_get (by simp; omega), splice_get (by simp; omega)]
    simp only [Array.toList_setIfInBounds, List.length_cons]
    by_cases h0 : o = off + k
    · subst h0
      rw [if_neg (by omega), if_pos ⟨by omega, by omega⟩, List.getElem?_set_self (by simp; omega)]
      simp
    · by_cases h1 : off + (k + 1) ≤ o ∧ o < off + (k + 1) + vs.length
      · rw [if_pos h1, if_pos ⟨by omega, by omega⟩, show o - (off + k) = (o - (off + (k + 1))) + 1 by omega]
        simp
      · rw [if_neg h1, if_neg (by omega), List.getElem?_set_ne (by omega)]

theorem fill_rel {ρ : Ren} {place : Nat → Option (Nat × Nat)} : ∀ (parts parts' : List (Nat × Value)) (c : List Value) (c' : Array Value) (r : List Value), VL ρ c c'.toList → parts.map (·.1) = parts'.map (·.1) → VL ρ (parts.map (·.2)) (parts'.map (·.2)) →
    afill place c parts = some r → ∃ r', Instr.fill place c' parts' = some r' ∧ VL ρ r r'.toList
  | [], parts', c, c', r, hc, h1, h2, h => by
    have : parts' = [] := by cases parts'; rfl; simp at h1
    subst this
    simp only [afill, Option.some.injEq] at h
    subst h
    exact ⟨c', rfl, hc⟩
  | (i, v) :: rest, parts', c, c', r, hc, h1, h2, h => by
    cases parts' with
    | nil => simp at h1
    | cons q rest' =>
      obtain ⟨i', v'⟩ := q
      simp only [List.map_cons, List.cons.injEq] at h1
      obtain ⟨rfl, h1⟩ := h1
      obtain ⟨x', xs', e, hv, hvs⟩ := h2.uncons
      simp only [List.map_cons, List.cons.injEq] at e
      obtain ⟨rfl, rfl⟩ := e
      unfold afill at h
      split at h
      · cases h
      · rename_i off size hp
        split at h
        · rename_i hlen
          have hcl := hv.cells
          have hl1 : v'.cells.size = size := by have := hcl.1; simp at this hlen; omega
          have hl2 : c.length = c'.size := by have := hc.1; simpa using this
          have hl3 : v.cells.size = size := by simpa using hlen.1
          have hrel : VL ρ (splice c off v.cells.toList) (splice c'.toList off v'.cells.toList) := by
            unfold splice
            refine (hc.take _).append (hcl.append ?_)
            rw [show off + v'.cells.toList.length = off + v.cells.toList.length by simp; omega]
            exact hc.drop _
          have hf := fold_set_list v'.cells.toList 0 off c' (by simp; omega)
          simp only [Nat.add_zero] at hf
          obtain ⟨r', g1, g2⟩ := fill_rel rest rest' _ (splice c'.toList off v'.cells.toList).toArray r (by simpa using hrel) h1 hvs h
          refine ⟨r', ?_, g2⟩
          unfold Instr.fill
          simp only [hp, hl1]
          rw [if_neg (by simp; omega)]
          rw [← g1]
          congr 1
          apply Array.ext'
          simp only [Array.toList_zipIdx, ← Array.foldl_toList]
          exact hf
        · cases h

noncomputable def partsOf (A : Env) (parts : Array (Nat × Operand)) : List (Nat × Value) := parts.toList.map fun p => (p.1, ev A p.2)

theorem parts_rel {ρ : Ren} {a : Act} {parts : Array (Nat × Operand)} (he : ∀ x ∈ (parts.toList.map (·.2)).toArray, V ρ (ev A x) (a.eval x)) :
    (partsOf A parts).map (·.1) = (parts.map fun (i, x) => (i, a.eval x)).toList.map (·.1) ∧ VL ρ ((partsOf A parts).map (·.2)) ((parts.map fun (i, x) => (i, a.eval x)).toList.map (·.2)) := by
  refine ⟨by simp [partsOf], by simp [partsOf], fun j x x' h1 h2 => ?_⟩
  simp only [partsOf, List.map_map, List.getElem?_map, Option.map_eq_some_iff, Array.toList_map, Function.comp] at h1 h2
  obtain ⟨p, hp1, rfl⟩ := h1
  obtain ⟨q, hq1, rfl⟩ := h2
  rw [hp1] at hq1; cases hq1
  refine he _ ?_
  simp only [List.mem_toArray, List.mem_map]
  exact ⟨p, List.mem_of_getElem? hp1, rfl⟩

/-- The places of a struct's fields. -/
noncomputable def placesOf (P : Program) (fs : Array Field) : Option (Array (Nat × Nat)) := fs.mapM fun f => (P.info? f.type).map fun inf => (f.offset, inf.size)

theorem run_places (w : World) : ∀ (l : List Field) (r : List (Nat × Nat)), l.mapM (fun f => (P.info? f.type).map fun inf => (f.offset, inf.size)) = some r →
    (l.mapM (fun f => (do pure (f.offset, ← sizeOf f.type) : Sem (Nat × Nat)))).run P w = .ok r w
  | [], r, h => by simp at h; subst h; rfl
  | f :: l, r, h => by
    simp only [List.mapM_cons, Option.bind_eq_bind, Option.bind_eq_some_iff, Option.map_eq_some_iff, Option.pure_def, Option.some.injEq] at h
    obtain ⟨p, ⟨inf, hi, rfl⟩, q, hq, rfl⟩ := h
    have ih := run_places w l q hq
    simp only [List.mapM_cons, Sem.run_bind, run_sizeOf hi, Result.andThen_ok, Sem.run_pure, ih]

theorem od_build_struct {t : TypeId} {parts : Array (Nat × Operand)} {fs : Array Field} {inf : TypeInfo} {z : Value} {pl : Array (Nat × Nat)} {r : List Value} (ht : P.underlying t = some (.struct fs)) (hi : P.info? t = some inf) (hz : inf.zero = some z)
    (hc : z.cells.toList.all plain = true) (hpl : placesOf P fs = some pl) (hr : afill (pl[·]?) z.cells.toList (partsOf A parts) = some r) : OpDoes P ⟨d, .build t parts, ty, pos, af, g⟩ A H (.agg r.toArray) H :=
  .pure_ fun ρ w s hs he => by
    obtain ⟨g1, g2⟩ := parts_rel (A := A) he
    obtain ⟨r', h1, h2⟩ := fill_rel (ρ := ρ) (partsOf A parts) _ z.cells.toList z.cells r (.closed hc) g1 g2 hr
    refine ⟨.agg r', ?_, .agg _ _ (by simpa using h2.1) (fun j x x' a b => h2.2 j x x' (by simpa using a) (by simpa using b))⟩
    have hpl' : fs.toList.mapM (fun f => (P.info? f.type).map fun inf => (f.offset, inf.size)) = some pl.toList := by
      unfold placesOf at hpl
      rw [Array.mapM_eq_mapM_toList] at hpl
      simp only [Option.map_eq_map, Option.map_eq_some_iff] at hpl
      obtain ⟨l, hl, rfl⟩ := hpl
      simpa using hl
    have hrun := run_places (P := P) w fs.toList pl.toList hpl'
    have hrun' : (fs.mapM (fun f => (do pure (f.offset, ← sizeOf f.type) : Sem (Nat × Nat)))).run P w = .ok pl w := by
      rw [Array.mapM_eq_mapM_toList]
      simp only [Sem.run_map, hrun, Result.andThen_ok, Array.toArray_toList]
    simp only [execOp, Instr.build, Sem.run_bind, run_zeroValue hi hz, Result.andThen_ok, run_underlying ht, hrun', h1, Sem.run_pure]

theorem od_build_array {t e : TypeId} {len : Nat} {parts : Array (Nat × Operand)} {inf inf' : TypeInfo} {z : Value} {r : List Value} (ht : P.underlying t = some (.array len e)) (hi : P.info? t = some inf) (hz : inf.zero = some z)
    (hc : z.cells.toList.all plain = true) (hi' : P.info? e = some inf') (hr : afill (fun i => some (i * inf'.size, inf'.size)) z.cells.toList (partsOf A parts) = some r) : OpDoes P ⟨d, .build t parts, ty, pos, af, g⟩ A H (.agg r.toArray) H :=
  .pure_ fun ρ w s hs he => by
    obtain ⟨g1, g2⟩ := parts_rel (A := A) he
    obtain ⟨r', h1, h2⟩ := fill_rel (ρ := ρ) (partsOf A parts) _ z.cells.toList z.cells r (.closed hc) g1 g2 hr
    refine ⟨.agg r', ?_, .agg _ _ (by simpa using h2.1) (fun j x x' a b => h2.2 j x x' (by simpa using a) (by simpa using b))⟩
    simp only [execOp, Instr.build, Sem.run_bind, run_zeroValue hi hz, Result.andThen_ok, run_underlying ht, run_sizeOf hi', h1, Sem.run_pure]

/-- So many zeros of a type's cells. -/
noncomputable def zeros (z : Array Value) (m : Nat) : List Value := (List.range m).map fun i => z[i % z.size]!

theorem zeros_plain {z : Array Value} (hc : z.toList.all plain = true) (m : Nat) (hz : m = 0 ∨ 0 < z.size) : (zeros z m).all plain = true := by
  rw [List.all_eq_true]
  intro x hx
  simp only [zeros, List.mem_map, List.mem_range] at hx
  obtain ⟨i, hi, rfl⟩ := hx
  have hp : 0 < z.size := by omega
  have hlt : i % z.size < z.size := Nat.mod_lt _ hp
  rw [getElem!_pos z _ hlt]
  exact List.all_eq_true.1 hc _ (by simp)

theorem od_buildSlice {t e : TypeId} {len : Nat} {parts : Array (Nat × Operand)} {inf : TypeInfo} {z : Value} {r : List Value} (ht : P.underlying t = some (.slice e)) (hi : P.info? e = some inf) (hz : inf.zero = some z)
    (hc : z.cells.toList.all plain = true) (hcs : Nat.blt 0 z.cells.size = true) (hlen : Nat.ble len 16777216 = true) (hsm : Nat.ble (len * inf.size) 16777216 = true) (hr : afill (fun i => some (i * inf.size, inf.size)) (zeros z.cells (len * inf.size)) (partsOf A parts) = some r) :
    OpDoes P ⟨d, .buildSlice t len parts, ty, pos, af, g⟩ A H (.slice (some ⟨H.next, 0, none⟩) len len) (H.push (.cells r e false)) :=
  .of_run fun ρ w s hs he => by
    obtain ⟨g1, g2⟩ := parts_rel (A := A) he
    have hcs' : 0 < z.cells.size := by simpa using hcs
    have hsm' : len * inf.size ≤ 16777216 := by simpa using hsm
    have hzl : ((Array.range (len * inf.size)).map (fun i => (if len * inf.size = 0 then (#[] : Array Value) else z.cells)[i % (if len * inf.size = 0 then (#[] : Array Value) else z.cells).size]!)).toList = zeros z.cells (len * inf.size) := by
      by_cases h0 : len * inf.size = 0
      · simp [h0, zeros]
      · simp [h0, zeros, Array.toList_range]
    have hp0 := zeros_plain hc (len * inf.size) (.inr hcs')
    obtain ⟨r', h1, h2⟩ := fill_rel (ρ := ρ) (partsOf A parts) _ (zeros z.cells (len * inf.size)) ((Array.range (len * inf.size)).map (fun i => (if len * inf.size = 0 then (#[] : Array Value) else z.cells)[i % (if len * inf.size = 0 then (#[] : Array Value) else z.cells).size]!)) r (by rw [hzl]; exact .closed hp0) g1 g2 hr
    obtain ⟨k1, k2⟩ := hs.pushCells (c := r) (c' := r') e h2
    have hlt : len < UNK := by
      have : len ≤ 16777216 := by simpa using hlen
      simp only [UNK]; omega
    refine ⟨.slice (some ⟨w.heap.size, 0, none⟩) len len, _, _, ?_, .slice H.next 0 len len len _ _ (ext_same _ _ _) (.inl (by rw [add_lit])) (Nat.le_refl _) hlt (fun h => ?_) (fun _ => rfl), k1, k2⟩
    · have hb : ¬ (len * inf.size > 2 ^ 24) := by omega
      simp only [execOp, Instr.buildSlice, Sem.run_bind, run_underlying ht, Result.andThen_ok, run_sizeOf hi, hb, if_false]
      by_cases h0 : len * inf.size = 0
      · simp only [h0, if_true, Sem.run_pure] at h1 ⊢
        simp only [h1, newRow, Sem.run_bind, run_newObj, Result.andThen_ok, Sem.run_pure, World.alloc]
      · simp only [h0, if_false, Sem.run_bind, run_zeroValue hi hz, Sem.run_pure, Result.andThen_ok] at h1 ⊢
        simp only [h1, newRow, Sem.run_bind, run_newObj, Result.andThen_ok, Sem.run_pure, World.alloc]
    · exfalso
      have hlen' : len ≤ 16777216 := by simpa using hlen
      simp only [UNK] at h
      omega
end
end Go.Ab
