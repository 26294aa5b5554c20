/- Operations over memory: loads, stores, new blocks, slices. -/
import Derived.Test.YthoanamkoigjeaaGreatDoorAbA
import Derived.Laws.MakeOwn
import Derived.RangeFuncNested
import Derived.Lib.Bytealg
import Derived.Lib.ConvBytes
set_option linter.unusedVariables false
namespace Go.Ab
section
variable {P : Program} {n : Nat} {A : Env} {H : Heap} {d : Option Nat} {ty : TypeId} {pos : String} {af : Array Edge} {g : Option (Nat × Bool)}

theorem aload_cells {t : TypeId} {a : Addr} {v : Value} (h : aload P t a H = some v) : ∃ c e ro, H.get a.block = some (.cells c e ro) := by
  unfold aload at h
  split at h
  · rename_i d inf c e ro h1 h2 h3
    exact ⟨c, e, ro, h3⟩
  · cases h

theorem od_load {t : TypeId} {x : Operand} {a : Addr} {v : Value} (ex : ev A x = .pointer (some a)) (hl : aload P t a H = some v) : OpDoes P ⟨d, .load t x, ty, pos, af, g⟩ A H v H :=
  .pure_ fun ρ w s hs he => by
    have hv := he x (by simp [Op.operands])
    rw [ex] at hv
    obtain ⟨i, g1, g2, g3⟩ := hv.ptr_inv
    obtain ⟨id, off, sp⟩ := a
    simp only at g1 g2 g3
    subst g2
    obtain ⟨c, e, ro, hg⟩ := aload_cells hl
    obtain ⟨v', h1, h2⟩ := run_aload g1 hg (hs.live id _ i hg g1) hl
    refine ⟨v', ?_, h2⟩
    simp only [execOp, Instr.loadAt, g3, Instr.sureAddr, Sem.run_bind, Sem.run_pure, Result.andThen_ok, h1]

theorem od_store {t : TypeId} {x y : Operand} {a : Addr} {H' : Heap} (ex : ev A x = .pointer (some a)) (hl : astore P t a (ev A y) H = some H') : OpDoes P ⟨d, .store t x y, ty, pos, af, g⟩ A H undef H' :=
  .of_skip fun ρ w s hs he => by
    have hv := he x (by simp [Op.operands])
    rw [ex] at hv
    obtain ⟨i, g1, g2, g3⟩ := hv.ptr_inv
    obtain ⟨id, off, sp⟩ := a
    simp only at g1 g2 g3
    subst g2
    obtain ⟨w', h1, h2, h3⟩ := run_astore hs g1 (he y (by simp [Op.operands])) hl
    refine ⟨ρ, w', ?_, h2, h3⟩
    simp only [execOp, Instr.storeAt, g3, Instr.sureAddr, Sem.run_bind, Sem.run_pure, Result.andThen_ok, h1]

theorem run_zeroValue {t : TypeId} {inf : TypeInfo} {z : Value} (hi : P.info? t = some inf) (hz : inf.zero = some z) (w : World) : (zeroValue t).run P w = .ok z w := by
  simp only [zeroValue, typeInfo, Sem.run_bind, run_program, Result.andThen_ok, hi, Sem.run_pure, hz]

/-- A new variable. -/
theorem od_alloc {e : TypeId} {inf : TypeInfo} {z : Value} (hi : P.info? e = some inf) (hz : inf.zero = some z) (hc : z.cells.toList.all plain = true) :
    OpDoes P ⟨d, .alloc e, ty, pos, af, g⟩ A H (.pointer (some ⟨H.next, 0, none⟩)) (H.push (.cells z.cells.toList e false)) :=
  .of_run fun ρ w s hs he => by
    obtain ⟨h1, h2⟩ := hs.pushCells (c := z.cells.toList) (c' := z.cells) e (.closed hc)
    refine ⟨.pointer (some ⟨w.heap.size, 0, none⟩), _, _, ?_, .ptr H.next 0 _ (ext_same _ _ _), h1, h2⟩
    simp only [execOp, Instr.alloc, Sem.run_bind, run_zeroValue hi hz, Result.andThen_ok, newVar, newRow, run_newObj, Sem.run_pure, World.alloc]

theorem od_box {e : TypeId} {x : Operand} :
    OpDoes P ⟨d, .box e x, ty, pos, af, g⟩ A H (.pointer (some ⟨H.next, 0, none⟩)) (H.push (.cells (ev A x).cells.toList e false)) :=
  .of_run fun ρ w s hs he => by
    obtain ⟨h1, h2⟩ := hs.pushCells (c := (ev A x).cells.toList) (c' := (s.eval x).cells) e (he x (by simp [Op.operands])).cells
    refine ⟨.pointer (some ⟨w.heap.size, 0, none⟩), _, _, ?_, .ptr H.next 0 _ (ext_same _ _ _), h1, h2⟩
    simp only [execOp, Instr.box, Sem.run_bind, newVar, newRow, run_newObj, Sem.run_pure, Result.andThen_ok, World.alloc]

/-! ### Building structs, arrays, slices -/

/-- Parts laid into cells, one behind the other. -/
noncomputable def afill (place : Nat → Option (Nat × Nat)) : List Value → List (Nat × Value) → Option (List Value)
  | cells, [] => some cells
  | cells, (i, v) :: rest =>
    match place i with
    | none => none
    | some (off, size) => if v.cells.toList.length = size ∧ off + size ≤ cells.length then afill place (splice cells off v.cells.toList) rest else none

theorem fold_set_list : ∀ (vs : List Value) (k off : Nat) (cs : Array Value), off + k + vs.length ≤ cs.size →
    ((vs.zipIdx k).foldl (fun (cs : Array Value) (p : Value × Nat) => cs.setIfInBounds (off + p.2) p.1) cs).toList = splice cs.toList (off + k) vs
  | [], k, off, cs, h => by simp [splice]
  | v :: vs, k, off, cs, h => by
    simp only [List.length_cons] at h
    rw [List.zipIdx_cons, List.foldl_cons, fold_set_list vs (k + 1) off _ (by simp; omega)]
    apply List.ext_getElem?
    intro o
    rw [splice_get (by simp; omega), splice_get (by simp; omega)]
    simp only [Array.toList_setIfInBounds, List.length_cons]
    by_cases h0 : o = off + k
    · subst h0
      rw [if_neg (by omega), if_pos ⟨by omega, by omega⟩, List.getElem?_set_self (by simp; omega)]
      simp
    · by_cases h1 : off + (k + 1) ≤ o ∧ o < off + (k + 1) + vs.length
      · rw [if_pos h1, if_pos ⟨by omega, by omega⟩, show o - (off + k) = (o - (off + (k + 1))) + 1 by omega]
        simp
      · rw [if_neg h1, if_neg (by omega), List.getElem?_set_ne (by omega)]

theorem fill_rel {ρ : Ren} {place : Nat → Option (Nat × Nat)} : ∀ (parts parts' : List (Nat × Value)) (c : List Value) (c' : Array Value) (r : List Value), VL ρ c c'.toList → parts.map (·.1) = parts'.map (·.1) → VL ρ (parts.map (·.2)) (parts'.map (·.2)) →
    afill place c parts = some r → ∃ r', Instr.fill place c' parts' = some r' ∧ VL ρ r r'.toList
  | [], parts', c, c', r, hc, h1, h2, h => by
    have : parts' = [] := by cases parts'; rfl; simp at h1
    subst this
    simp only [afill, Option.some.injEq] at h
    subst h
    exact ⟨c', rfl, hc⟩
  | (i, v) :: rest, parts', c, c', r, hc, h1, h2, h => by
    cases parts' with
    | nil => simp at h1
    | cons q rest' =>
      obtain ⟨i', v'⟩ := q
      simp only [List.map_cons, List.cons.injEq] at h1
      obtain ⟨rfl, h1⟩ := h1
      obtain ⟨x', xs', e, hv, hvs⟩ := h2.uncons
      simp only [List.map_cons, List.cons.injEq] at e
      obtain ⟨rfl, rfl⟩ := e
      unfold afill at h
      split at h
      · cases h
      · rename_i off size hp
        split at h
        · rename_i hlen
          have hcl := hv.cells
          have hl1 : v'.cells.size = size := by have := hcl.1; simp at this hlen; omega
          have hl2 : c.length = c'.size := by have := hc.1; simpa using this
          have hl3 : v.cells.size = size := by simpa using hlen.1
          have hrel : VL ρ (splice c off v.cells.toList) (splice c'.toList off v'.cells.toList) := by
            unfold splice
            refine (hc.take _).append (hcl.append ?_)
            rw [show off + v'.cells.toList.length = off + v.cells.toList.length by simp; omega]
            exact hc.drop _
          have hf := fold_set_list v'.cells.toList 0 off c' (by simp; omega)
          simp only [Nat.add_zero] at hf
          obtain ⟨r', g1, g2⟩ := fill_rel rest rest' _ (splice c'.toList off v'.cells.toList).toArray r (by simpa using hrel) h1 hvs h
          refine ⟨r', ?_, g2⟩
          unfold Instr.fill
          simp only [hp, hl1]
          rw [if_neg (by simp; omega)]
          rw [← g1]
          congr 1
          apply Array.ext'
          simp only [Array.toList_zipIdx, ← Array.foldl_toList]
          exact hf
        · cases h

noncomputable def partsOf (A : Env) (parts : Array (Nat × Operand)) : List (Nat × Value) := parts.toList.map fun p => (p.1, ev A p.2)

theorem parts_rel {ρ : Ren} {a : Act} {parts : Array (Nat × Operand)} (he : ∀ x ∈ (parts.toList.map (·.2)).toArray, V ρ (ev A x) (a.eval x)) :
    (partsOf A parts).map (·.1) = (parts.map fun (i, x) => (i, a.eval x)).toList.map (·.1) ∧ VL ρ ((partsOf A parts).map (·.2)) ((parts.map fun (i, x) => (i, a.eval x)).toList.map (·.2)) := by
  refine ⟨by simp [partsOf], by simp [partsOf], fun j x x' h1 h2 => ?_⟩
  simp only [partsOf, List.map_map, List.getElem?_map, Option.map_eq_some_iff, Array.toList_map, Function.comp] at h1 h2
  obtain ⟨p, hp1, rfl⟩ := h1
  obtain ⟨q, hq1, rfl⟩ := h2
  rw [hp1] at hq1; cases hq1
  refine he _ ?_
  simp only [List.mem_toArray, List.mem_map]
  exact ⟨p, List.mem_of_getElem? hp1, rfl⟩

/-- The places of a struct's fields. -/
noncomputable def placesOf (P : Program) (fs : Array Field) : Option (Array (Nat × Nat)) := fs.mapM fun f => (P.info? f.type).map fun inf => (f.offset, inf.size)

theorem run_places (w : World) : ∀ (l : List Field) (r : List (Nat × Nat)), l.mapM (fun f => (P.info? f.type).map fun inf => (f.offset, inf.size)) = some r →
    (l.mapM (fun f => (do pure (f.offset, ← sizeOf f.type) : Sem (Nat × Nat)))).run P w = .ok r w
  | [], r, h => by simp at h; subst h; rfl
  | f :: l, r, h => by
    simp only [List.mapM_cons, Option.bind_eq_bind, Option.bind_eq_some_iff, Option.map_eq_some_iff, Option.pure_def, Option.some.injEq] at h
    obtain ⟨p, ⟨inf, hi, rfl⟩, q, hq, rfl⟩ := h
    have ih := run_places w l q hq
    simp only [List.mapM_cons, Sem.run_bind, run_sizeOf hi, Result.andThen_ok, Sem.run_pure, ih]

theorem od_build_struct {t : TypeId} {parts : Array (Nat × Operand)} {fs : Array Field} {inf : TypeInfo} {z : Value} {pl : Array (Nat × Nat)} {r : List Value} (ht : P.underlying t = some (.struct fs)) (hi : P.info? t = some inf) (hz : inf.zero = some z)
    (hc : z.cells.toList.all plain = true) (hpl : placesOf P fs = some pl) (hr : afill (pl[·]?) z.cells.toList (partsOf A parts) = some r) : OpDoes P ⟨d, .build t parts, ty, pos, af, g⟩ A H (.agg r.toArray) H :=
  .pure_ fun ρ w s hs he => by
    obtain ⟨g1, g2⟩ := parts_rel (A := A) he
    obtain ⟨r', h1, h2⟩ := fill_rel (ρ := ρ) (partsOf A parts) _ z.cells.toList z.cells r (.closed hc) g1 g2 hr
    refine ⟨.agg r', ?_, .agg _ _ (by simpa using h2.1) (fun j x x' a b => h2.2 j x x' (by simpa using a) (by simpa using b))⟩
    have hpl' : fs.toList.mapM (fun f => (P.info? f.type).map fun inf => (f.offset, inf.size)) = some pl.toList := by
      unfold placesOf at hpl
      rw [Array.mapM_eq_mapM_toList] at hpl
      simp only [Option.map_eq_map, Option.map_eq_some_iff] at hpl
      obtain ⟨l, hl, rfl⟩ := hpl
      simpa using hl
    have hrun := run_places (P := P) w fs.toList pl.toList hpl'
    have hrun' : (fs.mapM (fun f => (do pure (f.offset, ← sizeOf f.type) : Sem (Nat × Nat)))).run P w = .ok pl w := by
      rw [Array.mapM_eq_mapM_toList]
      simp only [Sem.run_map, hrun, Result.andThen_ok, Array.toArray_toList]
    simp only [execOp, Instr.build, Sem.run_bind, run_zeroValue hi hz, Result.andThen_ok, run_underlying ht, hrun', h1, Sem.run_pure]

theorem od_build_array {t e : TypeId} {len : Nat} {parts : Array (Nat × Operand)} {inf inf' : TypeInfo} {z : Value} {r : List Value} (ht : P.underlying t = some (.array len e)) (hi : P.info? t = some inf) (hz : inf.zero = some z)
    (hc : z.cells.toList.all plain = true) (hi' : P.info? e = some inf') (hr : afill (fun i => some (i * inf'.size, inf'.size)) z.cells.toList (partsOf A parts) = some r) : OpDoes P ⟨d, .build t parts, ty, pos, af, g⟩ A H (.agg r.toArray) H :=
  .pure_ fun ρ w s hs he => by
    obtain ⟨g1, g2⟩ := parts_rel (A := A) he
    obtain ⟨r', h1, h2⟩ := fill_rel (ρ := ρ) (partsOf A parts) _ z.cells.toList z.cells r (.closed hc) g1 g2 hr
    refine ⟨.agg r', ?_, .agg _ _ (by simpa using h2.1) (fun j x x' a b => h2.2 j x x' (by simpa using a) (by simpa using b))⟩
    simp only [execOp, Instr.build, Sem.run_bind, run_zeroValue hi hz, Result.andThen_ok, run_underlying ht, run_sizeOf hi', h1, Sem.run_pure]

/-- So many zeros of a type's cells. -/
noncomputable def zeros (z : Array Value) (m : Nat) : List Value := (List.range m).map fun i => z[i % z.size]!

theorem zeros_plain {z : Array Value} (hc : z.toList.all plain = true) (m : Nat) (hz : m = 0 ∨ 0 < z.size) : (zeros z m).all plain = true := by
  rw [List.all_eq_true]
  intro x hx
  simp only [zeros, List.mem_map, List.mem_range] at hx
  obtain ⟨i, hi, rfl⟩ := hx
  have hp : 0 < z.size := by omega
  have hlt : i % z.size < z.size := Nat.mod_lt _ hp
  rw [getElem!_pos z _ hlt]
  exact List.all_eq_true.1 hc _ (by simp)

theorem od_buildSlice {t e : TypeId} {len : Nat} {parts : Array (Nat × Operand)} {inf : TypeInfo} {z : Value} {r : List Value} (ht : P.underlying t = some (.slice e)) (hi : P.info? e = some inf) (hz : inf.zero = some z)
    (hc : z.cells.toList.all plain = true) (hcs : Nat.blt 0 z.cells.size = true) (hlen : Nat.ble len 16777216 = true) (hsm : Nat.ble (len * inf.size) 16777216 = true) (hr : afill (fun i => some (i * inf.size, inf.size)) (zeros z.cells (len * inf.size)) (partsOf A parts) = some r) :
    OpDoes P ⟨d, .buildSlice t len parts, ty, pos, af, g⟩ A H (.slice (some ⟨H.next, 0, none⟩) len len) (H.push (.cells r e false)) :=
  .of_run fun ρ w s hs he => by
    obtain ⟨g1, g2⟩ := parts_rel (A := A) he
    have hcs' : 0 < z.cells.size := by simpa using hcs
    have hsm' : len * inf.size ≤ 16777216 := by simpa using hsm
    have hzl : ((Array.range (len * inf.size)).map (fun i => (if len * inf.size = 0 then (#[] : Array Value) else z.cells)[i % (if len * inf.size = 0 then (#[] : Array Value) else z.cells).size]!)).toList = zeros z.cells (len * inf.size) := by
      by_cases h0 : len * inf.size = 0
      · simp [h0, zeros]
      · simp [h0, zeros, Array.toList_range]
    have hp0 := zeros_plain hc (len * inf.size) (.inr hcs')
    obtain ⟨r', h1, h2⟩ := fill_rel (ρ := ρ) (partsOf A parts) _ (zeros z.cells (len * inf.size)) ((Array.range (len * inf.size)).map (fun i => (if len * inf.size = 0 then (#[] : Array Value) else z.cells)[i % (if len * inf.size = 0 then (#[] : Array Value) else z.cells).size]!)) r (by rw [hzl]; exact .closed hp0) g1 g2 hr
    obtain ⟨k1, k2⟩ := hs.pushCells (c := r) (c' := r') e h2
    have hlt : len < UNK := by
      have : len ≤ 16777216 := by simpa using hlen
      simp only [UNK]; omega
    refine ⟨.slice (some ⟨w.heap.size, 0, none⟩) len len, _, _, ?_, .slice H.next 0 len len len _ _ (ext_same _ _ _) (.inl (by rw [add_lit])) (Nat.le_refl _) hlt (fun h => ?_) (fun _ => rfl), k1, k2⟩
    · have hb : ¬ (len * inf.size > 2 ^ 24) := by omega
      simp only [execOp, Instr.buildSlice, Sem.run_bind, run_underlying ht, Result.andThen_ok, run_sizeOf hi, hb, if_false]
      by_cases h0 : len * inf.size = 0
      · simp only [h0, if_true, Sem.run_pure] at h1 ⊢
        simp only [h1, newRow, Sem.run_bind, run_newObj, Result.andThen_ok, Sem.run_pure, World.alloc]
      · simp only [h0, if_false, Sem.run_bind, run_zeroValue hi hz, Sem.run_pure, Result.andThen_ok] at h1 ⊢
        simp only [h1, newRow, Sem.run_bind, run_newObj, Result.andThen_ok, Sem.run_pure, World.alloc]
    · exfalso
      have hlen' : len ≤ 16777216 := by simpa using hlen
      simp only [UNK] at h
      omega
end
end Go.Ab
/- Slices: make, slicing, length, append, copy; conversions that make memory. -/
set_option linter.unusedVariables false
namespace Go.Ab
section
variable {P : Program} {n : Nat} {A : Env} {H : Heap} {d : Option Nat} {ty : TypeId} {pos : String} {af : Array Edge} {g : Option (Nat × Bool)}

/-- What is asked of an element's type: its zero has so many plain cells, at least one; of bytes, it is 0. -/
noncomputable def elemOk (P : Program) (e : TypeId) (inf : TypeInfo) (z : Value) : Bool :=
  Nat.beq z.cells.size inf.size && Nat.blt 0 inf.size && z.cells.toList.all plain &&
    (match P.underlying e with
     | some (.int .u8) => (match z with | .int .u8 m => m == 0 | _ => false)
     | some _ => true
     | none => false)

structure ElemOk (P : Program) (e : TypeId) (inf : TypeInfo) (z : Value) : Prop where
  info : P.info? e = some inf
  zero : inf.zero = some z
  cells : z.cells.size = inf.size
  pos : 0 < inf.size
  plain_ : z.cells.toList.all plain = true
  byte : P.underlying e = some (.int .u8) → z = .int .u8 0

theorem ElemOk.mk' {e : TypeId} {inf : TypeInfo} {z : Value} (h1 : P.info? e = some inf) (h2 : inf.zero = some z) (h : elemOk P e inf z = true) : ElemOk P e inf z := by
  simp only [elemOk, Bool.and_eq_true] at h
  obtain ⟨⟨⟨a, b⟩, c⟩, dd⟩ := h
  refine ⟨h1, h2, by simpa [nbeq] using a, by simpa using b, c, fun hu => ?_⟩
  rw [hu] at dd
  simp only at dd
  split at dd
  · rename_i m; have : m = 0 := by simpa using dd
    rw [this]
  · cases dd

theorem ElemOk.cellsOf {e : TypeId} {inf : TypeInfo} {z : Value} (h : ElemOk P e inf z) : P.cellsOf e = inf.size := by simp [Program.cellsOf, h.info]

theorem zeros_get (z : Array Value) (m : Nat) (hz : 0 < z.size) {o : Nat} {v : Value} (h : (zeros z m)[o]? = some v) : v ∈ z := by
  simp only [zeros, List.getElem?_map, Option.map_eq_some_iff] at h
  obtain ⟨i, _, rfl⟩ := h
  rw [getElem!_pos z _ (Nat.mod_lt _ hz)]
  exact Array.getElem_mem _

theorem ElemOk.spare {e : TypeId} {inf : TypeInfo} {z : Value} (h : ElemOk P e inf z) {v : Value} (hv : v ∈ z.cells) : spareOk P e v := fun hu => by
  rw [h.byte hu] at hv
  simp [Value.cells] at hv
  exact ⟨0, hv, by omega, by omega⟩

theorem od_makeSlice {t e : TypeId} {x y : Operand} {inf : TypeInfo} {z : Value} {l c : Int} (ht : P.underlying t = some (.slice e)) (hok : ElemOk P e inf z) (ex : ev A x = .int .i64 l) (ey : ev A y = .int .i64 c)
    (h0 : 0 ≤ l) (h1 : l ≤ c) (h2 : (inf.bytes : Int) * c ≤ 281474976710656) (h3 : c ≤ 9223372036854775807) :
    OpDoes P ⟨d, .makeSlice t x y, ty, pos, af, g⟩ A H (.slice (some ⟨H.next, 0, none⟩) l.toNat c.toNat) (H.push (.cells (zeros z.cells (c.toNat * inf.size)) e false)) :=
  .of_run fun ρ w s hs he => by
    have e1 := evalP (he x (by simp [Op.operands])) ex rfl
    have e2 := evalP (he y (by simp [Op.operands])) ey rfl
    have hr := run_make (P := P) w t e inf z ht hok.info hok.zero .i64 .i64 l c h0 h1 h2 h3
    have hzl : (madeCells z.cells (c.toNat * inf.size)).toList = zeros z.cells (c.toNat * inf.size) := by simp [madeCells, zeros, Array.toList_range]
    obtain ⟨k1, k2⟩ := hs.pushCells (c := zeros z.cells (c.toNat * inf.size)) (c' := madeCells z.cells (c.toNat * inf.size)) e (by rw [hzl]; exact .closed (zeros_plain hok.plain_ _ (.inr (by rw [hok.cells]; exact hok.pos))))
    refine ⟨.slice (some ⟨w.heap.size, 0, none⟩) l.toNat c.toNat, _, _, ?_, .slice H.next 0 l.toNat c.toNat c.toNat _ _ (ext_same _ _ _) (.inl (by rw [add_lit])) (by omega) (by simp only [UNK]; omega) (fun h => ?_) (fun _ => rfl), k1, k2⟩
    · simp only [execOp, e1, e2, Sem.run_bind, hr, Result.andThen_ok, Sem.run_pure]
    · exfalso; simp only [UNK] at h; omega

/-! ### Slicing -/

/-- A bound of a slicing that is told, or not. -/
noncomputable def boundOf (A : Env) : Option Operand → Option (Option Int)
  | none => some none
  | some x => match ev A x with | .int _ m => some (some m) | _ => none

theorem bound_rel {ρ : Ren} {a : Act} {x : Option Operand} (he : ∀ y, x = some y → V ρ (ev A y) (a.eval y)) {m : Option Int} (h : boundOf A x = some m) :
    (m = none ∧ x.map a.eval = none) ∨ ∃ k j, m = some j ∧ x.map a.eval = some (.int k j) := by
  cases x with
  | none => simp [boundOf] at h; exact .inl ⟨h.symm, rfl⟩
  | some x =>
    simp only [boundOf] at h
    split at h
    · rename_i k j ej
      cases h
      have := evalP (he _ rfl) ej rfl
      exact .inr ⟨k, j, rfl, by simp [this]⟩
    · cases h

theorem run_bounds {ρ : Ren} {w : World} {a : Act} {lo hi mx : Option Operand} (hlo : ∀ y, lo = some y → V ρ (ev A y) (a.eval y)) (hhi : ∀ y, hi = some y → V ρ (ev A y) (a.eval y)) (hmx : ∀ y, mx = some y → V ρ (ev A y) (a.eval y)) {l h m : Option Int} (el : boundOf A lo = some l) (eh : boundOf A hi = some h) (em : boundOf A mx = some m)
    (hm : m ≠ none → h ≠ none) {len cap : Nat} (h1 : 0 ≤ l.getD 0) (h2 : l.getD 0 ≤ h.getD len) (h3 : h.getD len ≤ m.getD cap) (h4 : m.getD cap ≤ cap) (isS : Bool) :
    (Instr.sliceBounds isS len cap (lo.map a.eval) (hi.map a.eval) (mx.map a.eval)).run P w = .ok ((l.getD 0).toNat, (h.getD len).toNat, (m.getD cap).toNat) w := by
  rcases bound_rel hhi eh with ⟨rfl, e⟩ | ⟨k, j, rfl, e⟩ <;> rcases bound_rel hlo el with ⟨rfl, e'⟩ | ⟨k', j', rfl, e'⟩ <;> rcases bound_rel hmx em with ⟨rfl, e''⟩ | ⟨k'', j'', rfl, e''⟩ <;> simp only [Option.getD_none, Option.getD_some] at h1 h2 h3 h4 ⊢ <;> rw [e, e', e''] <;> simp only [Instr.sliceBounds, Sem.run_bind, Sem.run_pure, Result.andThen_ok]
  · simp
  · exact absurd rfl (hm (by simp))
  · rw [run_sliceBound (P := P) w k' j' len _ h1 h2]
    simp
  · exact absurd rfl (hm (by simp))
  · rw [run_sliceBound (P := P) w k j cap _ h2 h3]
    simp
  · rw [run_sliceBound (P := P) w k'' j'' cap _ (by omega) h4]
    simp only [Result.andThen_ok]
    rw [run_sliceBound (P := P) w k j j''.toNat _ (by omega) (by omega)]
    simp
  · rw [run_sliceBound (P := P) w k j cap _ (by omega) h3]
    simp only [Result.andThen_ok]
    rw [run_sliceBound (P := P) w k' j' j.toNat _ (by omega) (by omega)]
    simp
  · rw [run_sliceBound (P := P) w k'' j'' cap _ (by omega) h4]
    simp only [Result.andThen_ok]
    rw [run_sliceBound (P := P) w k j j''.toNat _ (by omega) (by omega)]
    simp only [Result.andThen_ok]
    rw [run_sliceBound (P := P) w k' j' j.toNat _ (by omega) (by omega)]
    simp

theorem od_slice_string {t : TypeId} {x : Operand} {lo hi : Option Operand} {s : ByteArray} {l h : Option Int} (ht : P.underlying t = some .string) (ex : ev A x = .string s)
    (el : boundOf A lo = some l) (eh : boundOf A hi = some h) (h1 : 0 ≤ l.getD 0) (h2 : l.getD 0 ≤ h.getD (bl s).length) (h3 : h.getD (bl s).length ≤ (bl s).length) :
    OpDoes P ⟨d, .slice t x lo hi none, ty, pos, af, g⟩ A H (.string (mkS (((bl s).drop (l.getD 0).toNat).take ((h.getD (bl s).length).toNat - (l.getD 0).toNat)))) H :=
  .pure_ fun ρ w a hs he => by
    have e1 := evalP (he x (by simp [Op.operands])) ex rfl
    simp only [bl_size] at h2 h3
    refine ⟨.string (s.extract (l.getD 0).toNat (h.getD s.size).toNat), ?_, ?_⟩
    rotate_left
    · have : s.extract (l.getD 0).toNat (h.getD s.size).toNat = mkS (((bl s).drop (l.getD 0).toNat).take ((h.getD (bl s).length).toNat - (l.getD 0).toNat)) := by
        apply ByteArray.ext
        apply Array.ext'
        rw [ByteArray.data_extract]
        simp [mkS, bl]
      rw [this]
      exact .same _ rfl
    have hb := run_bounds (P := P) (A := A) (w := w) (fun y e => he y (by simp [Op.operands, e])) (fun y e => he y (by simp [Op.operands, e])) (mx := none) (fun y e => by cases e) el eh (m := none) rfl (by simp) (len := s.size) (cap := s.size) h1 h2 (by simpa using h3) (by simp) false
    simp only [Option.map_none] at hb
    simp only [execOp, Instr.sliceAt, Instr.slice, e1, Sem.run_bind, run_underlying ht, Result.andThen_ok, Option.map_none, Option.isSome_none, Bool.false_eq_true, if_false, hb, Sem.run_pure]

/-- A slice of a slice: what is told, where the capacity may be unknown. -/
noncomputable def asliceS (size : Nat) (x : Value) (l h m : Option Int) : Option Value :=
  match x with
  | .slice none len cap =>
    if 0 ≤ l.getD 0 ∧ l.getD 0 ≤ h.getD len ∧ h.getD len ≤ m.getD cap ∧ m.getD cap ≤ cap then some (.slice none ((h.getD len).toNat - (l.getD 0).toNat) ((m.getD cap).toNat - (l.getD 0).toNat)) else none
  | .slice (some a) len cap =>
    if UNK ≤ cap then
      match m with
      | none => if 0 ≤ l.getD 0 ∧ l.getD 0 ≤ h.getD len ∧ h.getD len ≤ len ∧ cap = UNK + size then some (.slice (some ⟨a.block, a.off + (l.getD 0).toNat * size, none⟩) ((h.getD len).toNat - (l.getD 0).toNat) cap) else none
      | some m => if 0 ≤ l.getD 0 ∧ l.getD 0 ≤ h.getD len ∧ h.getD len ≤ m ∧ m ≤ len ∧ l.getD 0 < m then some (.slice (some ⟨a.block, a.off + (l.getD 0).toNat * size, none⟩) ((h.getD len).toNat - (l.getD 0).toNat) (m.toNat - (l.getD 0).toNat)) else none
    else
      if 0 ≤ l.getD 0 ∧ l.getD 0 ≤ h.getD len ∧ h.getD len ≤ m.getD cap ∧ m.getD cap ≤ cap then
        some (.slice (some (if (m.getD cap).toNat = (l.getD 0).toNat then a else ⟨a.block, a.off + (l.getD 0).toNat * size, none⟩)) ((h.getD len).toNat - (l.getD 0).toNat) ((m.getD cap).toNat - (l.getD 0).toNat))
      else none
  | _ => none

theorem od_slice_slice {t e : TypeId} {x : Operand} {lo hi mx : Option Operand} {inf : TypeInfo} {l h m : Option Int} {v : Value} (ht : P.underlying t = some (.slice e)) (hi' : P.info? e = some inf)
    (el : boundOf A lo = some l) (eh : boundOf A hi = some h) (em : boundOf A mx = some m) (hm : m ≠ none → h ≠ none) (hv : asliceS inf.size (ev A x) l h m = some v) :
    OpDoes P ⟨d, .slice t x lo hi mx, ty, pos, af, g⟩ A H v H :=
  .pure_ fun ρ w s hs he => by
    have hvx := he x (by simp [Op.operands])
    generalize ev A x = u at hvx hv
    unfold asliceS at hv
    split at hv
    · rename_i len cap
      split at hv
      · rename_i hc
        obtain ⟨c1, c2, c3, c4⟩ := hc
        cases hv
        have e1 := hvx.plain_eq rfl
        have hb := run_bounds (P := P) (A := A) (w := w) (fun y e => he y (by simp [Op.operands, e])) (fun y e => he y (by simp [Op.operands, e])) (fun y e => he y (by simp [Op.operands, e])) el eh em hm (len := len) (cap := cap) c1 c2 c3 c4 true
        refine ⟨.slice none ((h.getD len).toNat - (l.getD 0).toNat) ((m.getD cap).toNat - (l.getD 0).toNat), ?_, .same _ rfl⟩
        simp only [execOp, Instr.sliceAt, Instr.slice, e1, Sem.run_bind, run_underlying ht, Result.andThen_ok, hb, run_sizeOf hi', Sem.run_pure, Option.map_none, ite_self]
      · cases hv
    · rename_i a len cap
      obtain ⟨i, a', cap', g1, g2, g3, g4, g5, g0, g6, g7⟩ := hvx.slice_inv
      obtain ⟨id, off, sp⟩ := a
      simp only at g1 g2 g4 g6 g7 hv
      subst g2
      split at hv
      · rename_i hu
        obtain ⟨hes0, g6'⟩ := g6 hu
        split at hv
        · split at hv
          · rename_i hc
            obtain ⟨c1, c2, c3, c4⟩ := hc
            have hes : i.s = inf.size := by omega
            cases hv
            have hb := run_bounds (P := P) (A := A) (w := w) (fun y e => he y (by simp [Op.operands, e])) (fun y e => he y (by simp [Op.operands, e])) (fun y e => he y (by simp [Op.operands, e])) el eh em hm (len := len) (cap := cap') c1 c2 (by simp only [Option.getD_none]; omega) (by simp) true
            have hmul : off + (l.getD 0).toNat * inf.size + (cap' - (l.getD 0).toNat) * i.s = i.n := by
              rw [hes] at g6' ⊢
              rw [Nat.add_assoc, ← Nat.add_mul, Nat.add_sub_cancel' (by omega)]
              exact g6'
            refine ⟨.slice (some (if cap' = (l.getD 0).toNat then a' else a'.add ((l.getD 0).toNat * inf.size))) ((h.getD len).toNat - (l.getD 0).toNat) (cap' - (l.getD 0).toNat), ?_, ?_⟩
            · simp only [execOp, Instr.sliceAt, Instr.slice, g3, Sem.run_bind, run_underlying ht, Result.andThen_ok, hb, run_sizeOf hi', Sem.run_pure, Option.getD_none, Int.toNat_natCast, Option.map_some]
              split <;> rfl
            · by_cases hcl : cap' = (l.getD 0).toNat
              · rw [if_pos hcl]
                exact .slice id _ _ _ _ i _ g1 (.inr ⟨by omega, by omega⟩) (by omega) (by omega) (fun _ => ⟨hes0, hmul⟩) (fun h => by omega)
              · rw [if_neg hcl]
                refine .slice id _ _ _ _ i _ g1 (.inl ?_) (by omega) (by omega) (fun _ => ⟨hes0, hmul⟩) (fun h => by omega)
                rcases g4 with h | ⟨h, h'⟩
                · rw [h, add_add]
                · exfalso; omega
          · cases hv
        · rename_i m
          split at hv
          · rename_i hc
            obtain ⟨c1, c2, c3, c4, c5⟩ := hc
            cases hv
            have hb := run_bounds (P := P) (A := A) (w := w) (fun y e => he y (by simp [Op.operands, e])) (fun y e => he y (by simp [Op.operands, e])) (fun y e => he y (by simp [Op.operands, e])) el eh em hm (len := len) (cap := cap') c1 c2 c3 (by simp only [Option.getD_some]; omega) true
            refine ⟨.slice (some (a'.add ((l.getD 0).toNat * inf.size))) ((h.getD len).toNat - (l.getD 0).toNat) (m.toNat - (l.getD 0).toNat), ?_, ?_⟩
            · simp only [execOp, Instr.sliceAt, Instr.slice, g3, Sem.run_bind, run_underlying ht, Result.andThen_ok, hb, run_sizeOf hi', Sem.run_pure, Option.getD_some, Option.map_some]
              rw [if_neg (by omega)]
            · refine .slice id _ _ _ _ i _ g1 (.inl ?_) (by omega) (by omega) (fun h => ?_) (fun _ => rfl)
              · rcases g4 with h | ⟨h, h'⟩
                · rw [h, add_add]
                · exfalso; omega
              · exfalso; omega
          · cases hv
      · rename_i hu
        have g7' := g7 (by omega)
        subst g7'
        split at hv
        · rename_i hc
          obtain ⟨c1, c2, c3, c4⟩ := hc
          cases hv
          have hb := run_bounds (P := P) (A := A) (w := w) (fun y e => he y (by simp [Op.operands, e])) (fun y e => he y (by simp [Op.operands, e])) (fun y e => he y (by simp [Op.operands, e])) el eh em hm (len := len) (cap := cap') c1 c2 c3 c4 true
          refine ⟨.slice (some (if (m.getD cap').toNat = (l.getD 0).toNat then a' else a'.add ((l.getD 0).toNat * inf.size))) ((h.getD len).toNat - (l.getD 0).toNat) ((m.getD cap').toNat - (l.getD 0).toNat), ?_, ?_⟩
          · simp only [execOp, Instr.sliceAt, Instr.slice, g3, Sem.run_bind, run_underlying ht, Result.andThen_ok, hb, run_sizeOf hi', Sem.run_pure, Option.map_some]
            split <;> rfl
          · by_cases hcl : (m.getD cap').toNat = (l.getD 0).toNat
            · rw [if_pos hcl, if_pos hcl]
              exact .slice id _ _ _ _ i _ g1 (.inr ⟨by omega, by omega⟩) (by omega) (by omega) (fun h => by omega) (fun _ => rfl)
            · rw [if_neg hcl, if_neg hcl]
              refine .slice id _ _ _ _ i _ g1 (.inl ?_) (by omega) (by omega) (fun h => by omega) (fun _ => rfl)
              rcases g4 with h | ⟨h, h'⟩
              · rw [h, add_add]
              · exfalso; omega
        · cases hv
    · cases hv
end
end Go.Ab
/- Builtins: len, cap, min, max, append, copy; bytes and strings. -/
set_option linter.unusedVariables false
namespace Go.Ab
section
variable {P : Program} {n : Nat} {A : Env} {H : Heap} {d : Option Nat} {ty : TypeId} {pos : String} {af : Array Edge} {g : Option (Nat × Bool)}

theorem exec_builtin (ρ : Operand → Value) (b : Builtin) (args : Array Operand) (ts : Array TypeId) :
    execOp ρ ⟨d, .call ⟨.builtin b, args, ts⟩, ty, pos, af, g⟩ = builtin b ts ty (args.map fun | .const _ => true | _ => false) (args.map ρ) := by
  simp only [execOp, resolve, invoke, pure_bind]
  rfl

/-- A length that needs no memory. -/
noncomputable def alen (P : Program) (t : TypeId) (x : Value) : Option Nat :=
  match P.underlying t with
  | some .string => match x with | .string s => some (bl s).length | _ => none
  | some (.array m _) => some m
  | some (.slice _) => match x with | .slice _ m _ => some m | _ => none
  | some (.pointer q) => match P.underlying q with | some (.array m _) => some m | _ => none
  | some (.map _ _) => match x with | .map none => some 0 | _ => none
  | _ => none

theorem od_len {t : TypeId} {x : Operand} {m : Nat} (h : alen P t (ev A x) = some m) : OpDoes P ⟨d, .call ⟨.builtin .len, #[x], #[t]⟩, ty, pos, af, g⟩ A H (.int .i64 m) H :=
  .pure_ fun ρ w s hs he => by
    have hv := he x (by simp [Op.operands, Call.operands])
    refine ⟨.int .i64 m, ?_, .same _ rfl⟩
    rw [exec_builtin]
    generalize ev A x = u at hv h
    have hz : (Builtin.len_ #[t] ty #[s.eval x]).run P w = .ok (.int .i64 m) w := by
      unfold alen at h
      split at h
      · rename_i ht
        split at h
        · cases h
          simp [Builtin.len_, run_underlying ht, hv.plain_eq rfl, goInt, bl_size]
        · cases h
      · rename_i q e ht
        cases h
        simp [Builtin.len_, run_underlying ht, goInt]
      · rename_i e ht
        split at h
        · rename_i a m' c
          cases h
          cases a with
          | none => simp [Builtin.len_, run_underlying ht, hv.plain_eq rfl, goInt]
          | some a =>
            obtain ⟨i, a', cap', g1, g2, g3, _⟩ := hv.slice_inv
            simp [Builtin.len_, run_underlying ht, g3, goInt]
        · cases h
      · rename_i q ht
        split at h
        · rename_i m' e hq
          cases h
          simp [Builtin.len_, run_underlying ht, run_underlying hq, goInt]
        · cases h
      · rename_i k e ht
        split at h
        · cases h
          simp [Builtin.len_, run_underlying ht, hv.plain_eq rfl, goInt]
        · cases h
      · cases h
    simp only [builtin, List.map_toArray, List.map_cons, List.map_nil, Sem.run_bind, hz, Result.andThen_ok, Sem.run_pure]

theorem od_cap {t e : TypeId} {x : Operand} {a : Option Addr} {m c : Nat} (ht : P.underlying t = some (.slice e)) (ex : ev A x = .slice a m c) (hc : Nat.blt c UNK = true) :
    OpDoes P ⟨d, .call ⟨.builtin .cap, #[x], #[t]⟩, ty, pos, af, g⟩ A H (.int .i64 c) H :=
  .pure_ fun ρ w s hs he => by
    have hv := he x (by simp [Op.operands, Call.operands])
    rw [ex] at hv
    refine ⟨.int .i64 c, ?_, .same _ rfl⟩
    rw [exec_builtin]
    have hz : (Builtin.cap_ #[t] ty #[s.eval x]).run P w = .ok (.int .i64 c) w := by
      cases a with
      | none => simp [Builtin.cap_, run_underlying ht, hv.plain_eq rfl, goInt]
      | some a =>
        obtain ⟨i, a', cap', g1, g2, g3, g4, g5, g0, g6, g7⟩ := hv.slice_inv
        have := g7 (by simpa using hc)
        simp [Builtin.cap_, run_underlying ht, g3, goInt, this]
    simp only [builtin, List.map_toArray, List.map_cons, List.map_nil, Sem.run_bind, hz, Result.andThen_ok, Sem.run_pure]

theorem od_max2 {ts : Array TypeId} {x y : Operand} {k : IntKind} {a b : Int} (ex : ev A x = .int k a) (ey : ev A y = .int k b) :
    OpDoes P ⟨d, .call ⟨.builtin .max, #[x, y], ts⟩, ty, pos, af, g⟩ A H (.int k (if b > a then b else a)) H :=
  .pure_ fun ρ w s hs he => by
    have e1 := evalP (he x (by simp [Op.operands, Call.operands])) ex rfl
    have e2 := evalP (he y (by simp [Op.operands, Call.operands])) ey rfl
    refine ⟨_, ?_, .same _ rfl⟩
    rw [exec_builtin]
    simp [builtin, e1, e2, Builtin.max_, Builtin.max2]

theorem od_min2 {ts : Array TypeId} {x y : Operand} {k : IntKind} {a b : Int} (ex : ev A x = .int k a) (ey : ev A y = .int k b) :
    OpDoes P ⟨d, .call ⟨.builtin .min, #[x, y], ts⟩, ty, pos, af, g⟩ A H (.int k (if b < a then b else a)) H :=
  .pure_ fun ρ w s hs he => by
    have e1 := evalP (he x (by simp [Op.operands, Call.operands])) ex rfl
    have e2 := evalP (he y (by simp [Op.operands, Call.operands])) ey rfl
    refine ⟨_, ?_, .same _ rfl⟩
    rw [exec_builtin]
    simp [builtin, e1, e2, Builtin.min_, Builtin.min2]

/-! ### append -/

noncomputable def bytesOf (s : ByteArray) : List Value := s.data.toList.map fun b => .int .u8 b.toNat

/-- What is appended or copied: how many elements, and their cells. -/
noncomputable def asrc (size : Nat) (x : Value) (H : Heap) : Option (Nat × List Value) :=
  match x with
  | .slice none 0 _ => some (0, [])
  | .slice (some a) m _ =>
    if m = 0 then some (0, []) else
    match H.get a.block with
    | some (.cells c _ _) => if a.off + m * size ≤ c.length then some (m, (c.drop a.off).take (m * size)) else none
    | _ => none
  | .string s => if size = 1 then some ((bl s).length, bytesOf s) else none
  | _ => none

theorem src_rel {ρ : Ren} {w : World} (hs : Sim P ρ H w) {size m : Nat} {x x' : Value} {c : List Value} (hx : V ρ x x') (h : asrc size x H = some (m, c)) :
    (Builtin.lenOf x').run P w = .ok m w ∧ c.length = m * size ∧ ∀ m', m' ≤ m → ∃ c' : List Value, VL ρ (c.take (m' * size)) c' ∧ ∀ w' : World, (∀ a : Addr, w'.cell? a = w.cell? a) → (Builtin.firstCells size m' x').run P w' = .ok c'.toArray w' := by
  unfold asrc at h
  split at h
  · cases h
    rw [hx.plain_eq rfl]
    refine ⟨rfl, by simp, fun m' hm => ⟨[], by simpa using VL.nil ρ, fun w' _ => rfl⟩⟩
  · rename_i a m0 cap
    obtain ⟨i, a', cap', g1, g2, g3, g4, g5, g0, g6, g7⟩ := hx.slice_inv
    split at h
    · rename_i hm0
      cases h
      subst hm0
      rw [g3]
      refine ⟨rfl, by simp, fun m' hm => ⟨[], by simpa using VL.nil ρ, fun w' _ => ?_⟩⟩
      obtain rfl : m' = 0 := by omega
      simp [Builtin.firstCells, loadCells, loadCellsFrom]
    · rename_i hm0
      split at h
      · rename_i cc e ro hg
        split at h
        · rename_i hle
          cases h
          have ha : a' = i.at_.add a.off := by rcases g4 with h | ⟨h, _⟩; exact h; omega
          rw [g3]
          refine ⟨rfl, by simp; omega, fun m' hm => ?_⟩
          have hmul : m' * size ≤ m * size := Nat.mul_le_mul_right _ hm
          obtain ⟨cs, k1, k2, k3⟩ := (hs.live _ _ i hg g1).cellsAt a.off (m' * size) (by omega)
          refine ⟨cs, by rw [List.take_take, Nat.min_eq_left hmul]; exact k2, fun w' hw' => ?_⟩
          have := run_firstCells_some (P := P) w' size m' a' m cap' cs k1 (fun j v hj => by rw [hw', ha]; exact k3 j v hj)
          exact this
        · cases h
      · cases h
  · rename_i s
    split at h
    · rename_i hsz
      cases h
      subst hsz
      rw [hx.plain_eq rfl]
      refine ⟨rfl, (by rw [Nat.mul_one]; simp only [bytesOf, List.length_map, Array.length_toList]; rfl), fun m' hm => ⟨(bytesOf s).take (m' * 1), .closed ?_, fun w' _ => ?_⟩⟩
      · rw [List.all_eq_true]
        intro v hv
        have := List.mem_of_mem_take hv
        simp only [bytesOf, List.mem_map] at this
        obtain ⟨b, _, rfl⟩ := this
        rfl
      · simp only [Builtin.firstCells, Sem.run_pure]
        congr 1
        apply Array.ext'
        rw [Nat.mul_one]
        simp only [Array.toList_map, bytesOf]
        simp [ByteArray.data_extract, List.map_take]
    · cases h
  · cases h

noncomputable def isSeqD : TypeDesc → Bool
  | .slice _ => true
  | .string => true
  | _ => false

theorem isSeqD_cases {td : TypeDesc} (h : isSeqD td = true) : td = .string ∨ ∃ e, td = .slice e := by
  cases td <;> simp [isSeqD] at h
  · exact .inl rfl
  · exact .inr ⟨_, rfl⟩

theorem run_append_in {t t2 e : TypeId} {inf : TypeInfo} {td : TypeDesc} {x' : Value} {sLen sCap m : Nat} {base : Option Addr} {w w' : World} {c' : List Value} (ht : P.underlying t = some (.slice e)) (ht2 : P.underlying t2 = some td) (hni : isSeqD td = true) (hi : P.info? e = some inf)
    (hl : (Builtin.lenOf x').run P w = .ok m w) (hf : (Builtin.firstCells inf.size m x').run P w = .ok c'.toArray w) (hroom : sLen + m ≤ sCap)
    (hst : ∀ a, base = some a → (storeCells (a.add (sLen * inf.size)) c').run P w = .ok () w') (hnone : base = none → w' = w) :
    (Builtin.append_ #[t, t2] ty #[.slice base sLen sCap, x']).run P w = .ok (.slice base (sLen + m) sCap) w' := by
  cases base with
  | none =>
    obtain rfl := hnone rfl
    rcases isSeqD_cases hni with rfl | ⟨e', rfl⟩ <;> simp [Builtin.append_, run_underlying ht, run_underlying ht2, run_sizeOf hi, hl, hroom, hf]
  | some a =>
    have := hst a rfl
    rcases isSeqD_cases hni with rfl | ⟨e', rfl⟩ <;> simp [Builtin.append_, run_underlying ht, run_underlying ht2, run_sizeOf hi, hl, hroom, hf, this]

theorem run_append_grows {t t2 e : TypeId} {inf : TypeInfo} {z : Value} {td : TypeDesc} {x' : Value} {sLen sCap m : Nat} {base : Option Addr} {w : World} {c' old : List Value} (ht : P.underlying t = some (.slice e)) (ht2 : P.underlying t2 = some td) (hni : isSeqD td = true) (hi : P.info? e = some inf) (hz0 : inf.zero = some z)
    (hl : (Builtin.lenOf x').run P w = .ok m w) (hf : (Builtin.firstCells inf.size m x').run P w.drew = .ok c'.toArray w.drew) (hfo : (Builtin.firstCells inf.size sLen (.slice base sLen sCap)).run P w.drew = .ok old.toArray w.drew) (hroom : ¬ sLen + m ≤ sCap)
    (h63 : sLen + m ≤ 9223372036854775807) (hby : (sLen + m) * inf.bytes ≤ 140737488355328) :
    (Builtin.append_ #[t, t2] ty #[.slice base sLen sCap, x']).run P w = .ok (.slice (some ⟨w.heap.size, 0, none⟩) (sLen + m) (grownCap w (sLen + m) sCap e)) (w.drew.alloc (.cells (old.toArray ++ c'.toArray ++ Builtin.zeroCells z.cells (grownCap w (sLen + m) sCap e - (sLen + m))) e)) := by
  have h63' : ¬ (9223372036854775807 < ((sLen : Int) + (m : Int))) := by omega
  have h48' : ¬ (281474976710656 < Builtin.nextslicecap (sLen + m) sCap * inf.bytes) := by have := growslice_fits (need := sLen + m) (old := sCap) (bytes := inf.bytes) (by omega) hby; omega
  rcases isSeqD_cases hni with rfl | ⟨e', rfl⟩ <;> simp [Builtin.append_, run_underlying ht, run_underlying ht2, sizeOf, typeInfo, zeroValue, hi, hz0, hl, hroom, h63', h48', Question.forced, hf, hfo, newRow, grownCap] <;> (congr 2; apply Array.ext'; simp)

theorem Sim.drew {ρ : Ren} {w : World} (hs : Sim P ρ H w) : St ρ H w ρ H w.drew ∧ Sim P ρ H w.drew :=
  ⟨⟨.refl ρ, Nat.le_refl _, fun _ _ _ h => h, fun _ _ b b' _ h hr h' => (by rw [h] at h'; cases h'; exact hr), fun id i h h' => (by rw [h'] at h; cases h), rfl, rfl, rfl, Nat.le_refl _, fun _ _ _ => rfl⟩,
   ⟨hs.dom, fun id b i h h' => (hs.live id b i h h').mono (.refl ρ) rfl, hs.sep, hs.glob⟩⟩

/-- A block is given up for a new one that lies where it lay. -/
theorem Sim.move {ρ : Ren} {w w' : World} (hs : Sim P ρ H w) {id : Nat} {i i' : Info} {b b' : Blk} (hi : ρ id = some i) (hg : H.get id = some b) (hro : b.ro = false) (hw : OneBlk w w' i.at_.block) (hi' : i'.at_.block = i.at_.block)
    (hb : BlkRel P (ext ρ H.next i') i' w' b') : St ρ H w (ext ρ H.next i') ((H.kill id).push b') w' ∧ Sim P (ext ρ H.next i') ((H.kill id).push b') w' := by
  have hn := hs.none_next
  have hsub := sub_ext i' hn
  have hne : ∀ x j, ρ x = some j → x ≠ H.next := fun x j h e => by rw [e, hn] at h; cases h
  have hget : ∀ x, ((H.kill id).push b').get x = if x = H.next then some b' else if x = id then none else H.get x := fun x => by rw [Heap.get_push, Heap.next_kill, Heap.get_kill]
  refine ⟨⟨hsub, by simp, fun x j h h' => ?_, fun x j b1 b2 h h1 h2 h3 => ?_, fun x j h h' => ?_, hw.os, hw.tape, hw.output, (by rw [hw.size]; exact Nat.le_refl _), fun k hk hnn => ?_⟩, ⟨fun x j h => ?_, fun x bl j h h' => ?_, fun id1 id2 b1 b2 i1 i2 h1 h2 h3 h4 h5 h6 => ?_, fun gg hgg => ?_⟩⟩
  · rw [hget, if_neg (hne x j h)]; split
    · rfl
    · exact h'
  · rw [hget, if_neg (hne x j h)] at h3
    split at h3
    · cases h3
    · rw [h1] at h3; cases h3; exact h2
  · by_cases e : x = H.next
    · subst e; rw [ext_same] at h; cases h
      exact ⟨Nat.le_refl _, .inr ⟨id, i, b, hi, hi'.symm, hg, hro⟩⟩
    · rw [ext_ne ρ i' e, h'] at h; cases h
  · exact hw.other k (fun e => hnn id i b hi hg hro e.symm)
  · by_cases e : x = H.next
    · subst e; simp
    · rw [ext_ne ρ i' e] at h; have := hs.dom _ _ h; simp; omega
  · by_cases e : x = H.next
    · subst e; rw [ext_same] at h'; cases h'; rw [hget, if_pos rfl] at h; cases h; exact hb
    · rw [ext_ne ρ i' e] at h'; rw [hget, if_neg e] at h
      split at h
      · cases h
      · rename_i e2
        refine (hs.live x bl j h h').mono hsub (hw.other _ ?_)
        exact fun e' => hs.sep id x b bl i j hg h hi h' hro (fun h => e2 h.symm) e'.symm
  · rw [hget] at h1 h2
    by_cases e1 : id1 = H.next
    · subst e1
      rw [if_neg (fun h => h6 h.symm)] at h2
      split at h2
      · cases h2
      · rename_i e2
        rw [ext_same] at h3; cases h3
        rw [ext_ne ρ _ (fun h => h6 h.symm)] at h4
        rw [hi']
        exact hs.sep id id2 b b2 i i2 hg h2 hi h4 hro (fun h => e2 h.symm)
    · rw [if_neg e1] at h1
      rw [ext_ne ρ i' e1] at h3
      split at h1
      · cases h1
      · rename_i e3
        by_cases e2 : id2 = H.next
        · subst e2
          rw [ext_same] at h4; cases h4
          rw [hi']
          exact hs.sep id1 id b1 b i1 i h1 hg h3 hi h5 e3
        · rw [if_neg e2] at h2
          rw [ext_ne ρ i' e2] at h4
          split at h2
          · cases h2
          · exact hs.sep id1 id2 b1 b2 i1 i2 h1 h2 h3 h4 h5 h6
  · obtain ⟨j, hj, e⟩ := hs.glob gg hgg
    exact ⟨j, hsub _ _ hj, e⟩

theorem zeroCells_list (z : Array Value) (m : Nat) : (Builtin.zeroCells z m).toList = zeros z (m * z.size) := by
  simp [Builtin.zeroCells, zeros, Array.toList_range]

theorem Sim.grow {ρ : Ren} {w : World} (hs : Sim P ρ H w) {e : TypeId} {inf : TypeInfo} {z : Value} (hok : ElemOk P e inf z) {o o' c c' : List Value} {need cap : Nat} (ho : VL ρ o o') (hc : VL ρ c c') (hl : o.length + c.length = need * inf.size) (hcap : need ≤ cap) (hc63 : cap < UNK) :
    let i : Info := ⟨⟨w.heap.size, 0, none⟩, cap * inf.size, P.cellsOf e⟩
    let w' := w.drew.alloc (.cells (o'.toArray ++ c'.toArray ++ Builtin.zeroCells z.cells (cap - need)) e)
    St ρ H w (ext ρ H.next i) (H.push (.cells (o ++ c) e false)) w' ∧ Sim P (ext ρ H.next i) (H.push (.cells (o ++ c) e false)) w' ∧ V (ext ρ H.next i) (.slice (some ⟨H.next, 0, none⟩) need (UNK + inf.size)) (.slice (some ⟨w.heap.size, 0, none⟩) need cap) := by
  intro i w'
  obtain ⟨s1, s2⟩ := hs.drew
  have hlist : (o'.toArray ++ c'.toArray ++ Builtin.zeroCells z.cells (cap - need)).toList = (o' ++ c') ++ zeros z.cells ((cap - need) * inf.size) := by
    rw [Array.toList_append, zeroCells_list, hok.cells]; simp
  have hlen2 : (o' ++ c').length = need * inf.size := by rw [List.length_append, ← ho.1, ← hc.1]; exact hl
  have hmul : need * inf.size + (cap - need) * inf.size = cap * inf.size := by rw [← Nat.add_mul]; congr 1; omega
  have hsize : (o'.toArray ++ c'.toArray ++ Builtin.zeroCells z.cells (cap - need)).size = cap * inf.size := by
    rw [← Array.length_toList, hlist, List.length_append, hlen2]; simp [zeros]; exact hmul
  have hb : BlkRel P (ext ρ H.next i) i (w.drew.alloc (.cells (o'.toArray ++ c'.toArray ++ Builtin.zeroCells z.cells (cap - need)) e)) (.cells (o ++ c) e false) := by
    have hvl : VL (ext ρ H.next i) (o ++ c) (o' ++ c') := (ho.append hc).mono (sub_ext _ hs.none_next)
    refine ⟨_, (0, 0), heap_alloc_new w.drew _, ⟨rfl, rfl⟩, by simp only [i]; rw [hsize]; simp, ?_, fun j v hj => ?_, fun o _ _ => by simp, fun k v hk hkv => ?_, rfl⟩
    · simp only [i]; rw [List.length_append, hl]; exact Nat.mul_le_mul_right _ hcap
    · obtain ⟨v', h1, h2⟩ := hvl.get hj
      refine ⟨v', ?_, h2⟩
      simp only [i, Nat.zero_add]
      rw [← Array.getElem?_toList, hlist, List.getElem?_append_left (List.getElem?_eq_some_iff.1 h1).1]
      exact h1
    · simp only [i, Nat.zero_add] at hk
      rw [← Array.getElem?_toList, hlist, List.getElem?_append_right (by rw [← hvl.1]; exact hk)] at hkv
      exact hok.spare (zeros_get _ _ (by rw [hok.cells]; exact hok.pos) hkv)
  obtain ⟨t1, t2⟩ := s2.push _ (.cells (o ++ c) e false) i rfl hb
  refine ⟨s1.trans t1, t2, ?_⟩
  refine .slice H.next 0 need _ cap i _ (ext_same _ _ _) (.inl (by rw [add_lit])) hcap hc63 (fun _ => ?_) (fun h => by omega)
  simp only [i, Nat.zero_add]
  rw [hok.cellsOf]
  exact ⟨by omega, rfl⟩

/-- Appending, abstractly. -/
noncomputable def aappend (e : TypeId) (inf : TypeInfo) (s x : Value) (H : Heap) : Option (Value × Heap) :=
  match asrc inf.size x H with
  | none => none
  | some (m, news) =>
    if news.all (·.oneCell') = true then
      match s with
      | .slice none 0 0 =>
        if m = 0 then some (.slice none 0 0, H) else
        if m ≤ 9223372036854775807 ∧ m * inf.bytes ≤ 140737488355328 then some (.slice (some ⟨H.next, 0, none⟩) m (UNK + inf.size), H.push (.cells news e false)) else none
      | .slice (some a) len cap =>
        if m = 0 then (if UNK ≤ cap ∨ len ≤ cap then some (.slice (some a) len cap, H) else none) else
        match H.get a.block with
        | some (.cells c e' ro) =>
          if a.off + len * inf.size ≤ c.length ∧ len + m ≤ 9223372036854775807 ∧ (len + m) * inf.bytes ≤ 140737488355328 then
            if UNK ≤ cap then
              if ro = false ∧ e' = e ∧ a.off = 0 ∧ a.off + len * inf.size = c.length then some (.slice (some ⟨H.next, 0, none⟩) (len + m) (UNK + inf.size), (H.kill a.block).push (.cells (c.drop a.off ++ news) e false))
              else if ro = false ∧ cap = UNK + inf.size ∧ a.off + (len + m) * inf.size ≤ c.length then some (.slice (some a) (len + m) cap, H.set a.block (.cells (splice c (a.off + len * inf.size) news) e' false)) else none
            else if len + m ≤ cap then
              (if ro = false ∧ a.off + (len + m) * inf.size ≤ c.length then some (.slice (some a) (len + m) cap, H.set a.block (.cells (splice c (a.off + len * inf.size) news) e' false)) else none)
            else some (.slice (some ⟨H.next, 0, none⟩) (len + m) (UNK + inf.size), H.push (.cells ((c.drop a.off).take (len * inf.size) ++ news) e false))
          else none
        | _ => none
      | _ => none
    else none

theorem BlkRel.storeEnd {ρ : Ren} {i : Info} {w : World} {c : List Value} {e : TypeId} (hb : BlkRel P ρ i w (.cells c e false)) {off : Nat} {vs vs' : List Value} (hvs : VL ρ vs vs') (hoff : off ≤ c.length) (h00 : off = 0) (hl : c.length + vs.length ≤ i.n)
    (h1 : ∀ v ∈ vs, v.oneCell' = true) : ∃ w', (storeCells (i.at_.add c.length) vs').run P w = .ok () w' ∧ OneBlk w w' i.at_.block ∧ BlkRel P ρ ⟨i.at_.add off, i.n - off, i.s⟩ w' (.cells (c.drop off ++ vs) e false) := by
  obtain ⟨cur, fz, hh, hsp, hsz, hcl, hcell, hfz, hspare, hes⟩ := hb
  have hlen := hvs.1
  have h1' : ∀ v ∈ vs', v.oneCell' = true := fun v' hv' => by
    obtain ⟨j, hj⟩ := List.getElem?_of_mem hv'
    have hjl : j < vs.length := by rw [hlen]; exact (List.getElem?_eq_some_iff.1 hj).1
    have := hvs.2 j _ v' (List.getElem?_eq_getElem hjl) hj
    rw [this.oneCell]
    exact h1 _ (List.getElem_mem hjl)
  rw [add_none hsp.1, add_none hsp.1]
  obtain ⟨w', cur', hr, hg', hone, hsz', hk⟩ := run_store_list P i.at_.block (i.at_.off + c.length) e fz vs' 0 cur w hh (by omega) (fun k hk1 hk2 => hfz k (by omega) (by omega)) h1'
  simp only [Nat.add_zero] at hk
  refine ⟨w', hr, hone, cur', fz, hg', ⟨rfl, by have := hsp.2; simp only; omega⟩, ?_, ?_, fun j v hj => ?_, fun o ho1 ho2 => hfz o (by simp only at ho1; omega) (by rw [hsz'] at ho2; exact ho2), fun o v ho hov => ?_, hes⟩
  · simp only; omega
  · simp; omega
  · simp only
    rw [hk]
    by_cases hin : j < c.length - off
    · rw [List.getElem?_append_left (by simpa using hin), List.getElem?_drop] at hj
      rw [if_neg (by omega), Nat.add_assoc]
      exact hcell _ v hj
    · rw [List.getElem?_append_right (by simpa using hin)] at hj
      simp only [List.length_drop] at hj
      have hj2 : j - (c.length - off) < vs.length := (List.getElem?_eq_some_iff.1 hj).1
      rw [if_pos ⟨by omega, by omega⟩]
      rw [show i.at_.off + off + j - (i.at_.off + c.length) = j - (c.length - off) by omega]
      exact hvs.get hj
  · simp only [List.length_append, List.length_drop] at ho
    rw [hk, if_neg (by omega)] at hov
    exact hspare o v (by omega) hov

theorem Less.kill_push (H : Heap) (id : Nat) (b : Blk) : Less ((H.kill id).push b) (H.push b) := by
  refine ⟨by simp, fun k bl hk => ?_⟩
  have h1 := Heap.get_push (H.kill id) k b
  have h2 := Heap.get_push H k b
  by_cases e : k = H.next
  · rw [if_pos (by exact e)] at h1 h2; rw [h1] at hk; rw [h2]; exact hk
  · rw [if_neg (by exact e)] at h1 h2; rw [h1, Heap.get_kill] at hk; rw [h2]
    by_cases e2 : k = id
    · rw [if_pos e2] at hk; cases hk
    · rw [if_neg e2] at hk; exact hk

theorem od_append {t t2 e : TypeId} {x y : Operand} {inf : TypeInfo} {z : Value} {td : TypeDesc} {v : Value} {H' : Heap} (ht : P.underlying t = some (.slice e)) (ht2 : P.underlying t2 = some td) (hni : isSeqD td = true) (hok : ElemOk P e inf z)
    (h : aappend e inf (ev A x) (ev A y) H = some (v, H')) : OpDoes P ⟨d, .call ⟨.builtin .append, #[x, y], #[t, t2]⟩, ty, pos, af, g⟩ A H v H' :=
  .of_run fun ρ w s hs he => by
    rw [exec_builtin]
    have hvx := he x (by simp [Op.operands, Call.operands])
    have hvy := he y (by simp [Op.operands, Call.operands])
    suffices hmain : ∃ v' ρ' w', (Builtin.append_ #[t, t2] ty #[s.eval x, s.eval y]).run P w = .ok v' w' ∧ V ρ' v v' ∧ St ρ H w ρ' H' w' ∧ Sim P ρ' H' w' by
      obtain ⟨v', ρ', w', h1, h2, h3, h4⟩ := hmain
      refine ⟨v', ρ', w', ?_, h2, h3, h4⟩
      simp only [builtin, List.map_toArray, List.map_cons, List.map_nil, Sem.run_bind, h1, Result.andThen_ok, Sem.run_pure]
    generalize ev A x = u at hvx h
    generalize ev A y = u2 at hvy h
    generalize s.eval x = x' at hvx
    generalize s.eval y = y' at hvy
    unfold aappend at h
    split at h
    · cases h
    · rename_i m news hsrc
      obtain ⟨hlen, hcl, hcs⟩ := src_rel hs hvy hsrc
      obtain ⟨c', hvl, hfc⟩ := hcs m (Nat.le_refl _)
      rw [List.take_of_length_le (by omega)] at hvl
      have hfw := hfc w (fun _ => rfl)
      have hfd := hfc w.drew (fun _ => rfl)
      split at h
      · rename_i hone
        have hone' : ∀ v ∈ news, v.oneCell' = true := fun v hv => List.all_eq_true.1 hone v hv
        split at h
        · -- nil
          have e1 := hvx.plain_eq rfl
          subst e1
          split at h
          · rename_i hm0
            cases h
            subst hm0
            exact ⟨.slice none 0 0, ρ, w, run_append_in ht ht2 hni hok.info hlen hfw (by omega) (fun a h => by cases h) (fun _ => rfl), .same _ rfl, .refl _ _ _, hs⟩
          · rename_i hm0
            split at h
            · rename_i hbd
              cases h
              have hroom : ¬ 0 + m ≤ 0 := by omega
              have hr := run_append_grows (ty := ty) (old := []) (base := none) (sCap := 0) ht ht2 hni hok.info hok.zero hlen hfd rfl hroom (by omega) (by rw [Nat.zero_add]; exact hbd.2)
              obtain ⟨g1, g2, g3⟩ := hs.grow hok (o := []) (o' := []) (.nil ρ) hvl (need := m) (cap := grownCap w (0 + m) 0 e) (by simpa using hcl) (by have := grownCap_ge w (0 + m) 0 e; omega) (by
                have := grownCap_le_maxLen w (0 + m) 0 e (by simp only [maxLen]; omega)
                simp only [maxLen, UNK] at *; omega)
              rw [Nat.zero_add] at hr g1 g2 g3
              exact ⟨_, _, _, hr, g3, g1, g2⟩
            · cases h
        · rename_i a len cap
          obtain ⟨i, a', cap', g1, g2, g3, g4, g5, g0, g6, g7⟩ := hvx.slice_inv
          obtain ⟨id, off, sp⟩ := a
          simp only at g1 g2 g4 g6 g7 h
          subst g2
          subst g3
          split at h
          · rename_i hm0
            split at h
            · rename_i hcc
              cases h
              subst hm0
              have hnil : c' = [] := by
                have : news = [] := List.length_eq_zero_iff.1 (by simpa using hcl)
                rw [this] at hvl; exact hvl.unnil
              subst hnil
              exact ⟨_, ρ, w, run_append_in ht ht2 hni hok.info hlen hfw (by omega) (fun a _ => rfl) (fun h => by cases h), hvx, .refl _ _ _, hs⟩
            · cases h
          · rename_i hm0
            split at h
            · rename_i c e' ro hg
              split at h
              · rename_i hb
                obtain ⟨hb1, hb2, hb3⟩ := hb
                have hlive := hs.live id _ i hg g1
                obtain ⟨o', k1, k2, k3⟩ := hlive.cellsAt off (len * inf.size) hb1
                have hold : (Builtin.firstCells inf.size len (.slice (some a') len cap')).run P w.drew = .ok o'.toArray w.drew := by
                  by_cases hl0 : len = 0
                  · subst hl0
                    have : o' = [] := List.length_eq_zero_iff.1 (by simpa using k1)
                    subst this
                    simp [Builtin.firstCells, loadCells, loadCellsFrom]
                  · have ha : a' = i.at_.add off := by rcases g4 with h | ⟨h, _⟩; exact h; omega
                    exact run_firstCells_some (P := P) w.drew inf.size len a' len cap' o' k1 (fun j v hj => by rw [ha]; exact k3 j v hj)
                have hgrow : ¬ len + m ≤ cap' → ∃ v' ρ' w', (Builtin.append_ #[t, t2] ty #[.slice (some a') len cap', y']).run P w = .ok v' w' ∧ V ρ' (.slice (some ⟨H.next, 0, none⟩) (len + m) (UNK + inf.size)) v' ∧
                    St ρ H w ρ' (H.push (.cells ((c.drop off).take (len * inf.size) ++ news) e false)) w' ∧ Sim P ρ' (H.push (.cells ((c.drop off).take (len * inf.size) ++ news) e false)) w' := fun hroom => by
                  have hr := run_append_grows (ty := ty) (old := o') ht ht2 hni hok.info hok.zero hlen hfd hold hroom hb2 hb3
                  obtain ⟨g1, g2, g3⟩ := hs.grow hok k2 hvl (need := len + m) (cap := grownCap w (len + m) cap' e) (by rw [k2.1, k1, hcl, Nat.add_mul]) (grownCap_ge w (len + m) cap' e) (by
                    have := grownCap_le_maxLen w (len + m) cap' e (by simp only [maxLen]; omega)
                    simp only [maxLen, UNK] at *; omega)
                  exact ⟨_, _, _, hr, g3, g1, g2⟩
                split at h
                · rename_i hu
                  split at h
                  · rename_i hcnd
                    obtain ⟨hro, he', hz0, hend⟩ := hcnd
                    cases h
                    subst hro
                    subst he'
                    by_cases hroom : len + m ≤ cap'
                    · obtain ⟨hes0, g6'⟩ := g6 hu
                      have hes : i.s = inf.size := by
                        obtain ⟨cur, fz, _, _, _, _, _, _, _, he⟩ := hlive
                        rw [he, hok.cellsOf]
                      have ha : a' = i.at_.add off := by rcases g4 with h | ⟨h, h'⟩; exact h; omega
                      have hfit : c.length + news.length ≤ i.n := by
                        rw [hes] at g6'
                        have : (len + m) * inf.size ≤ cap' * inf.size := Nat.mul_le_mul_right _ hroom
                        rw [Nat.add_mul] at this
                        omega
                      obtain ⟨w', hr, hone1, hbr⟩ := hlive.storeEnd (off := off) hvl (by omega) hz0 hfit hone'
                      obtain ⟨q1, q2⟩ := hs.move (i' := ⟨i.at_.add off, i.n - off, i.s⟩) g1 hg rfl hone1 (by simp [block_add]) (hbr.mono (sub_ext _ hs.none_next) rfl)
                      refine ⟨.slice (some a') (len + m) cap', _, w', run_append_in ht ht2 hni hok.info hlen hfw hroom (fun b hb => ?_) (fun h => by cases h), ?_, q1, q2⟩
                      · cases hb
                        rw [ha, add_add, hend]
                        exact hr
                      · refine .slice H.next 0 (len + m) _ cap' _ a' (ext_same _ _ _) (.inl ?_) hroom g0 (fun _ => ?_) (fun h => by omega)
                        · simp only [add_add, Nat.add_zero]; exact ha
                        · simp only [Nat.zero_add]; exact ⟨by omega, by omega⟩
                    · obtain ⟨v', ρ', w', r1, r2, r3, r4⟩ := hgrow hroom
                      have hdrop : (c.drop off).take (len * inf.size) = c.drop off := List.take_of_length_le (by simp; omega)
                      rw [hdrop] at r3 r4
                      have hless := Less.kill_push H id (.cells (c.drop off ++ news) e' false)
                      exact ⟨v', ρ', w', r1, r2, r3.less hless, r4.less hless⟩
                  · split at h
                    · rename_i hcnd
                      obtain ⟨hro, hcu, hfit⟩ := hcnd
                      cases h
                      subst hro
                      obtain ⟨hes0, g6'⟩ := g6 hu
                      have hes : i.s = inf.size := by omega
                      have hl2 := hlive
                      obtain ⟨cur, fz, hcur, _, hcsz, hcle, _⟩ := hl2
                      have hroom : len + m ≤ cap' := by
                        rcases Nat.lt_or_ge cap' (len + m) with hlt | hge
                        · exfalso
                          have h1 : (cap' + 1) * inf.size ≤ (len + m) * inf.size := Nat.mul_le_mul_right _ hlt
                          have h2 : (cap' + 1) * inf.size = cap' * inf.size + inf.size := Nat.succ_mul _ _
                          have h3 : 0 < inf.size := by have := hok.pos; have := hok.cells; omega
                          rw [hes] at g6'
                          omega
                        · exact hge
                      have ha : a' = i.at_.add off := by rcases g4 with h | ⟨h, h'⟩; exact h; omega
                      obtain ⟨w', hr, hone1, hbr⟩ := hlive.storeList (off := off + len * inf.size) hvl (by rw [hcl]; rw [Nat.add_mul] at hfit; omega) hone'
                      obtain ⟨q1, q2⟩ := hs.setBlk g1 hg rfl hone1 hbr
                      refine ⟨.slice (some a') (len + m) cap', ρ, w', run_append_in ht ht2 hni hok.info hlen hfw hroom (fun b hb => ?_) (fun h => by cases h), ?_, q1, q2⟩
                      · cases hb
                        rw [ha, add_add]
                        exact hr
                      · exact .slice id off (len + m) cap cap' i a' g1 (.inl ha) hroom g0 (fun _ => ⟨hes0, g6'⟩) (fun h => by omega)
                    · cases h
                · rename_i hu
                  have g7' := g7 (by omega)
                  subst g7'
                  split at h
                  · rename_i hroom
                    split at h
                    · rename_i hcnd
                      cases h
                      obtain ⟨hro, hfit⟩ := hcnd
                      subst hro
                      have ha : a' = i.at_.add off := by rcases g4 with h | ⟨h, h'⟩; exact h; omega
                      obtain ⟨w', hr, hone1, hbr⟩ := hlive.storeList (off := off + len * inf.size) hvl (by rw [hcl]; rw [Nat.add_mul] at hfit; omega) hone'
                      obtain ⟨q1, q2⟩ := hs.setBlk g1 hg rfl hone1 hbr
                      refine ⟨.slice (some a') (len + m) cap', ρ, w', run_append_in ht ht2 hni hok.info hlen hfw hroom (fun b hb => ?_) (fun h => by cases h), ?_, q1, q2⟩
                      · cases hb
                        rw [ha, add_add]
                        exact hr
                      · exact .slice id off (len + m) cap' cap' i a' g1 (.inl ha) hroom g0 (fun h => by omega) (fun _ => rfl)
                    · cases h
                  · rename_i hroom
                    cases h
                    exact hgrow hroom
              · cases h
            · cases h
        · cases h
      · cases h

end
end Go.Ab
/- Functions: contracts, entering a body, calls. -/
set_option linter.unusedVariables false
namespace Go.Ab

inductive Out where
  | ret (v : Value)
  | pan (v : Value)

noncomputable def OutRel (ρ : Ren) : Out → Ending → Prop
  | .ret v, .returned v' => V ρ v v'
  | .pan v, .panicked ch => ∃ v', V ρ v v' ∧ ch = [{ v := v', recovered := false }]
  | _, _ => False

/-- A function called with such values, over such a heap, ends so, and leaves such a heap. -/
noncomputable def Does (P : Program) (f : FuncId) (args : List Value) (H : Heap) (o : Out) (H' : Heap) : Prop :=
  ∀ ρ w args', Sim P ρ H w → VL ρ args args' → Calls P f args'.toArray w fun e w' => ∃ ρ', OutRel ρ' o e ∧ St ρ H w ρ' H' w' ∧ Sim P ρ' H' w'

theorem Does.less {P : Program} {f : FuncId} {args : List Value} {H : Heap} {o : Out} {H1 H2 : Heap} (h : Does P f args H o H1) (l : Less H2 H1) : Does P f args H o H2 :=
  fun ρ w args' hs ha => (h ρ w args' hs ha).mono fun e w' ⟨ρ', h1, h2, h3⟩ => ⟨ρ', h1, h2.less l, h3.less l⟩

noncomputable def envOf (args : List Value) : Env := fun t => args.getD t undef

section
variable {P : Program} {n : Nat} {Q : Ex → Env → Heap → Prop} {A : Env} {H : Heap} {d : Option Nat} {ty : TypeId} {pos : String} {af : Array Edge} {g : Option (Nat × Bool)}

/-- What a function gives, by its results' variables. -/
noncomputable def ares1 (P : Program) (n : Nat) (A : Env) (H : Heap) : ResultVar → Option Value
  | .tmp t => if t < n then some (A t) else none
  | .cell a t => if a < n then (match A a with | .pointer (some ad) => aload P t ad H | _ => none) else none

noncomputable def ares (P : Program) (n : Nat) (rs : Array ResultVar) (A : Env) (H : Heap) : Option Value :=
  match rs.toList with
  | [r] => ares1 P n A H r
  | l => (l.mapM (ares1 P n A H)).map fun vs => .tuple vs.toArray

noncomputable def resOf (tmps : Array Value) : ResultVar → Sem Value
  | .tmp t => pure (tmps.getD t undef)
  | .cell a t => do loadVar t (← asAddr (tmps.getD a undef))

theorem run_res1 {ρ : Ren} {w : World} {a : Act} (hs : Sim P ρ H w) (he : EnvRel ρ n A a) {r : ResultVar} {v : Value} (h : ares1 P n A H r = some v) : ∃ v', (resOf a.tmps r).run P w = .ok v' w ∧ V ρ v v' := by
  cases r with
  | tmp t =>
    simp only [ares1] at h
    split at h
    · rename_i ht
      cases h
      exact ⟨_, rfl, he.tmps t ht⟩
    · cases h
  | cell p t =>
    simp only [ares1] at h
    split at h
    · rename_i ht
      split at h
      · rename_i ad ead
        have hv := he.tmps p ht
        rw [ead] at hv
        obtain ⟨i, g1, g2, g3⟩ := hv.ptr_inv
        obtain ⟨id, off, sp⟩ := ad
        simp only at g1 g2 g3
        subst g2
        obtain ⟨c, e, ro, hg⟩ := aload_cells h
        obtain ⟨v', h1, h2⟩ := run_aload g1 hg (hs.live id _ i hg g1) h
        refine ⟨v', ?_, h2⟩
        simp only [resOf, g3, asAddr, Sem.run_bind, Sem.run_pure, Result.andThen_ok, h1]
      · cases h
    · cases h

theorem run_resL {ρ : Ren} {w : World} {a : Act} (hs : Sim P ρ H w) (he : EnvRel ρ n A a) : ∀ (rs : List ResultVar) (vs : List Value), rs.mapM (ares1 P n A H) = some vs → ∃ vs', (rs.mapM (resOf a.tmps)).run P w = .ok vs' w ∧ VL ρ vs vs'
  | [], vs, h => by simp at h; subst h; exact ⟨[], rfl, .nil ρ⟩
  | r :: rs, vs, h => by
    simp only [List.mapM_cons, Option.bind_eq_bind, Option.bind_eq_some_iff, Option.pure_def, Option.some.injEq] at h
    obtain ⟨v, hv, vs0, hvs, rfl⟩ := h
    obtain ⟨v', h1, h2⟩ := run_res1 hs he hv
    obtain ⟨vs', h3, h4⟩ := run_resL hs he rs vs0 hvs
    refine ⟨v' :: vs', ?_, .cons h2 h4⟩
    simp only [List.mapM_cons, Sem.run_bind, h1, Result.andThen_ok, h3, Sem.run_pure]

theorem results_eq (fn : Func) (tmps : Array Value) (w : World) : (results fn tmps).run P w = ((fn.results.toList.mapM (resOf tmps)).run P w).andThen fun vs w' => .ok (if h : vs.length = 1 then vs[0] else .tuple vs.toArray) w' := by
  unfold results
  rw [Array.mapM_eq_mapM_toList]
  simp only [Sem.run_bind, Sem.run_map]
  have key : ∀ F : ResultVar → Sem Value, (∀ r, F r = resOf tmps r) → ((Sem.run P (List.mapM F fn.results.toList) w).andThen (fun a w' => Result.ok a.toArray w')).andThen (fun a w' => Sem.run P (pure (if h : a.size = 1 then a[0] else Value.tuple a)) w') =
      (Sem.run P (List.mapM (resOf tmps) fn.results.toList) w).andThen fun vs w' => Result.ok (if h : vs.length = 1 then vs[0] else Value.tuple vs.toArray) w' := by
    intro F hF
    obtain rfl : F = resOf tmps := funext hF
    cases (fn.results.toList.mapM (resOf tmps)).run P w with
    | ok vs w' =>
      simp only [Result.andThen_ok, Sem.run_pure]
      congr 1
    | halt x w' => rfl
  exact key _ (fun r => by cases r <;> rfl)

theorem run_results {ρ : Ren} {w : World} {a : Act} (hs : Sim P ρ H w) (he : EnvRel ρ n A a) {fn : Func} {v : Value} (h : ares P n fn.results A H = some v) : ∃ v', (results fn a.tmps).run P w = .ok v' w ∧ V ρ v v' := by
  rw [results_eq]
  unfold ares at h
  split at h
  · rename_i r hr
    rw [hr]
    obtain ⟨v', h1, h2⟩ := run_res1 hs he h
    refine ⟨v', ?_, h2⟩
    simp only [List.mapM_cons, List.mapM_nil, Sem.run_bind, h1, Result.andThen_ok, Sem.run_pure]
    rfl
  · rename_i hne
    simp only [Option.map_eq_some_iff] at h
    obtain ⟨vs, hvs, rfl⟩ := h
    obtain ⟨vs', h1, h2⟩ := run_resL hs he _ vs hvs
    have hl : vs'.length ≠ 1 := by
      rw [← h2.1]
      have hlen : vs.length = fn.results.toList.length := mapM_length hvs
      rw [hlen]
      intro hc
      obtain ⟨r, hr⟩ := List.length_eq_one_iff.1 hc
      exact hne r hr
    refine ⟨.tuple vs'.toArray, ?_, .tuple _ _ (by simpa using h2.1) (fun j x x' a b => h2.2 j x x' (by simpa using a) (by simpa using b))⟩
    rw [h1]
    simp only [Result.andThen_ok, hl, dite_false]
  where
  mapM_length {α β : Type} {f : α → Option β} {l : List α} {r : List β} (h : l.mapM f = some r) : r.length = l.length := by
    induction l generalizing r with
    | nil => simp at h; subst h; rfl
    | cons x l ih =>
      simp only [List.mapM_cons, Option.bind_eq_bind, Option.bind_eq_some_iff, Option.pure_def, Option.some.injEq] at h
      obtain ⟨b, _, r', hr', rfl⟩ := h
      simp [ih hr']

theorem envRel_enter {ρ : Ren} {args args' : List Value} (m : Nat) (h : VL ρ args args') : EnvRel ρ (args.length + (m - args.length)) (envOf args) { tmps := args'.toArray ++ Array.replicate (m - args'.toArray.size) undef, defers := [] } := by
  have hl := h.1
  refine ⟨by simp [hl], fun t ht => ?_⟩
  simp only [envOf]
  rw [Array.getD_eq_getD_getElem?]
  by_cases hlt : t < args.length
  · obtain ⟨x', h1, h2⟩ := h.get (List.getElem?_eq_getElem hlt)
    rw [Array.getElem?_append_left (by simpa [← hl] using hlt)]
    have h1' : args'.toArray[t]? = some x' := by simpa using h1
    rw [h1']
    simp only [List.getD, List.getElem?_eq_getElem hlt, Option.getD_some]
    exact h2
  · have e1 : args.getD t undef = undef := by simp [List.getD, List.getElem?_eq_none (by omega : args.length ≤ t)]
    rw [e1, Array.getElem?_append_right (by simp; omega), Array.getElem?_replicate]
    split
    · exact .closed (by simp [undef, closedV])
    · exact .closed (by simp [undef, closedV])

/-- How a body's end tells what a function gives. -/
noncomputable def Ends (P : Program) (n : Nat) (rs : Array ResultVar) (o : Out) (H' : Heap) : Ex → Env → Heap → Prop
  | .normal, A, H1 => ∃ v, o = .ret v ∧ ares P n rs A H1 = some v ∧ Less H' H1
  | .ret, A, H1 => ∃ v, o = .ret v ∧ ares P n rs A H1 = some v ∧ Less H' H1
  | .panic v, A, H1 => o = .pan v ∧ Less H' H1
  | _, _, _ => False

/-! ### Blocks that nothing known may write, written by the machine -/
theorem Sim.putHid {ρ : Ren} {w : World} {b : Nat} {o o' : Obj} (hs : Sim P ρ H w) (hh : Hid ρ H w b o) : Sim P ρ H (w.putObj b o') :=
  ⟨hs.dom, fun id bl i hb hi => (hs.live id bl i hb hi).mono (.refl ρ) (World.putObj_heap_other (hh.un id i bl hi hb)), hs.sep, hs.glob⟩

theorem St.putHid {ρ0 ρ : Ren} {H0 : Heap} {w0 w : World} {b : Nat} {o' : Obj} (hst : St ρ0 H0 w0 ρ H w) (hb : w0.heap.size ≤ b) : St ρ0 H0 w0 ρ H (w.putObj b o') :=
  { hst with
    size := by simpa using hst.size
    frame := fun k hk hn => by rw [World.putObj_heap_other (by omega)]; exact hst.frame k hk hn }

theorem Hid.put {ρ : Ren} {w : World} {b d : Nat} {o o' : Obj} (h : Hid ρ H w d o) (hne : d ≠ b) : Hid ρ H (w.putObj b o') d o :=
  ⟨by rw [World.putObj_heap_other hne]; exact h.at_, h.un⟩
theorem Hid.same {ρ : Ren} {w : World} {b : Nat} {o o' : Obj} (h : Hid ρ H w b o) : Hid ρ H (w.putObj b o') b o' := ⟨World.putObj_heap_same h.lt, h.un⟩

theorem leaves_marks {fn : Func} {tmps : Array Value} {R : Ending → World → Prop} {u : FrameMode} {z : Rd} {ρ0 ρ : Ren} {H0 : Heap} {w0 : World} (hu : u ≠ .run) : ∀ (ds : List Nat) (w : World), ds.Nodup → (∀ d ∈ ds, w0.heap.size ≤ d ∧ Hid ρ H w d (.deferred (some []))) →
    St ρ0 H0 w0 ρ H w → Sim P ρ H w → (∀ w, St ρ0 H0 w0 ρ H w → Sim P ρ H w → LeavesIn (fen z) 0 P fn tmps R [] u w) → LeavesInM (fen z) 0 P fn tmps R (ds.map mark) u w
  | [], w, _, _, hst, hs, h => h w hst hs
  | d :: ds, w, hn, hd, hst, hs, h => by
    obtain ⟨h1, h2⟩ := hd d (by simp)
    refine ⟨hu, .inl ⟨d, _, rfl, run_takeDeferred h2.at_, ?_⟩⟩
    rw [List.nodup_cons] at hn
    exact leaves_marks hu ds _ hn.2 (fun x hx => ⟨(hd x (by simp [hx])).1, (hd x (by simp [hx])).2.put (fun e => hn.1 (e ▸ hx))⟩) (hst.putHid h1) (hs.putHid h2) h

theorem does_of_wp {f : FuncId} {fn : Func} {c : Code} {args : List Value} {o : Out} {H' : Heap} (hf : P.funcs[f]? = some fn) (hb : fn.body = some c)
    (h : AWp P (args.length + (fn.ntmps - args.length)) c (Ends P (args.length + (fn.ntmps - args.length)) fn.results o H') (envOf args) H) : Does P f args H o H' := by
  intro ρ w args' hs ha
  refine callsIn_wide.1 (callsIn_of_wp_marks (F := fen ⟨none, w.heap.size, []⟩) (n := 0) hf hb trivial (wpIn_mono (h ⟨none, w.heap.size, []⟩ ρ w _ hs ⟨envRel_enter fn.ntmps ha, ⟨⟨[], rfl, .nil, fun d hd => by simp at hd⟩, fun l hl => by simp at hl, Nat.le_refl _⟩⟩) ?_))
  rintro e a1 w1 ⟨e', ρ1, A1, H1, hq, hst, hs1, he1, hr⟩
  obtain ⟨ds, hds, hnd, hdh⟩ := he1.fr.marks
  have hds : a1.defers = ds.map mark := hds.trans (List.append_nil _)
  cases e' <;> cases e <;> simp only [ExRel] at hr <;> simp only [Ends] at hq
  case panic.panic v ch =>
    obtain ⟨rfl, hl⟩ := hq
    show LeavesInM _ _ _ _ _ _ a1.defers _ _
    rw [hds]
    exact leaves_marks (by simp) ds w1 hnd hdh hst hs1 (fun w2 hst2 hs2 => ⟨ρ1, hr, hst2.less hl, hs2.less hl⟩)
  all_goals
    obtain ⟨v, rfl, hv, hl⟩ := hq
    show LeavesInM _ _ _ _ _ _ a1.defers _ _
    rw [hds]
    refine leaves_marks (by simp) ds w1 hnd hdh hst hs1 (fun w2 hst2 hs2 => ?_)
    obtain ⟨v', h1, h2⟩ := run_results hs2 he1.toEnvRel (fn := fn) hv
    exact ⟨v', h1, ρ1, h2, hst2.less hl, hs2.less hl⟩

/-! ### Calls -/

/-- A function with a body, that is entered when it is called. -/
noncomputable def entered (P : Program) (f : FuncId) : Bool :=
  match P.funcs[f]? with
  | some fn => !(fn.name == "runtime.NumGoroutine") && fn.body.isSome
  | none => false

theorem run_callFunc {f : FuncId} (h : entered P f = true) (args : Array Value) (w : World) : (callFunc f args).run P w = .ok (.enter f args) w := by
  unfold entered at h
  split at h
  · rename_i fn hf
    simp only [Bool.and_eq_true, Bool.not_eq_true'] at h
    obtain ⟨h1, h2⟩ := h
    have h3 : fn.body.isNone = false := by cases hb : fn.body <;> simp_all
    simp only [callFunc, Sem.run_bind, run_program, Result.andThen_ok, hf, h1, Bool.false_eq_true, if_false, h3, Sem.run_pure]
  · cases h

theorem fenced_fen (P : Program) (z : Rd) (m : Machine) : m.fenced P (fen z) := fenced_wide P m
theorem stepsIn_fen {z : Rd} {m m' : Machine} : StepsIn (Machine.fenced P (fen z)) P m m' ↔ Steps P m m' := by
  have : Machine.fenced P (fen z) = Machine.fenced P Fence.wide := funext fun m => propext ⟨fun _ => fenced_wide P m, fun _ => fenced_fen P z m⟩
  rw [this]; exact stepsIn_wide
theorem callsIn_fen {z : Rd} {n : Nat} {f : FuncId} {args : Array Value} {w : World} {R : Ending → World → Prop} (h : Calls P f args w R) : CallsIn (fen z) n P f args w R := by
  refine ⟨trivial, fun cs _ => ?_⟩
  obtain ⟨e, w', fr, r, s, x⟩ := h cs
  refine ⟨e, w', fr, r, ?_, x⟩
  cases e with
  | returned v => exact stepsIn_fen.2 s
  | panicked ch => exact stepsIn_fen.2 s
  | outgrown => exact s

theorem od_call_of_run {o : Oper} {f : FuncId} {args : List Value} {v : Value} {H' : Heap}
    (hr : ∀ ρ w a, Sim P ρ H w → OpRel ρ o A a → ∃ args', VL ρ args args' ∧ (execOp a.eval o).run P w = .ok (.enter f args'.toArray) w) (hd : Does P f args H (.ret v) H') : OpDoes P o A H v H' := by
  intro ρ w a hs he K Q hk z
  obtain ⟨args', ha, hrun⟩ := hr ρ w a hs he
  refine ⟨fun _ _ => trivial, ?_⟩
  rw [semAt_of hrun (by simp) _]
  refine ⟨fun h => by simp [fen, Fence.wide] at h, ?_⟩
  refine callsIn_fen ((hd ρ w args' hs ha).mono ?_)
  rintro e w' ⟨ρ', ho, hst, hs'⟩
  cases e with
  | returned v' => exact hk v' ρ' w' ho hst hs'
  | panicked ch => exact ho.elim
  | outgrown => exact ho.elim

/-- What the model runs itself, at such values: it gives a value at once. -/
def ExtDoes (P : Program) (f : FuncId) (args : List Value) (H : Heap) (v : Value) (H' : Heap) : Prop :=
  ∀ ρ w args', Sim P ρ H w → VL ρ args args' → ∃ v' ρ' w', (callFunc f args'.toArray).run P w = .ok (.value v') w' ∧ V ρ' v v' ∧ St ρ H w ρ' H' w' ∧ Sim P ρ' H' w'

/-- What a call gives. -/
def Callable (P : Program) (f : FuncId) (args : List Value) (H : Heap) (v : Value) (H' : Heap) : Prop :=
  (entered P f = true ∧ Does P f args H (.ret v) H') ∨ ExtDoes P f args H v H'

theorem od_of_run {o : Oper} {f : FuncId} {args : List Value} {v : Value} {H' : Heap}
    (hr : ∀ ρ w a, Sim P ρ H w → OpRel ρ o A a → ∃ args', VL ρ args args' ∧ (execOp a.eval o).run P w = (callFunc f args'.toArray).run P w) (hd : Callable P f args H v H') : OpDoes P o A H v H' := by
  rcases hd with ⟨he, hd⟩ | hx
  · refine od_call_of_run (fun ρ w a hs ho => ?_) hd
    obtain ⟨args', h1, h2⟩ := hr ρ w a hs ho
    exact ⟨args', h1, by rw [h2, run_callFunc he]⟩
  · refine .of_run fun ρ w a hs ho => ?_
    obtain ⟨args', h1, h2⟩ := hr ρ w a hs ho
    rw [h2]
    exact hx ρ w args' hs h1

theorem od_call {f : FuncId} {args : Array Operand} {ts : Array TypeId} {v : Value} {H' : Heap} (hd : Callable P f (args.map (ev A)).toList H v H') :
    OpDoes P ⟨d, .call ⟨.value (.func f), args, ts⟩, ty, pos, af, g⟩ A H v H' :=
  od_of_run (fun ρ w a hs he => ⟨(args.map a.eval).toList, evals (fun x hx => he x (by simp [Op.operands, Call.operands, hx])), by
    simp only [execOp, resolve, Deferred.ofValue, Act.eval, invoke, pure_bind, Array.empty_append, Array.append_empty, Array.toArray_toList]⟩) hd

theorem V.func_inv {ρ : Ren} {f : FuncId} {xs ys : Array Value} {z : Value} (h : V ρ (.func (.func f) xs ys) z) : ∃ xs' ys', z = .func (.func f) xs' ys' ∧ VL ρ xs.toList xs'.toList ∧ VL ρ ys.toList ys'.toList := by
  cases h with
  | same _ hp => simp [plain] at hp
  | func fn xs ys xs' ys' hn h1 h2 h3 h4 =>
    exact ⟨xs', ys', rfl, ⟨by simpa using h1, fun j x x' a b => h3 j x x' (by simpa using a) (by simpa using b)⟩, ⟨by simpa using h2, fun j x x' a b => h4 j x x' (by simpa using a) (by simpa using b)⟩⟩

theorem od_callv {f : FuncId} {c : Operand} {args : Array Operand} {ts : Array TypeId} {xs ys : Array Value} {v : Value} {H' : Heap} (ec : ev A c = .func (.func f) xs ys)
    (hd : Callable P f (xs.toList ++ (args.map (ev A)).toList ++ ys.toList) H v H') : OpDoes P ⟨d, .call ⟨.value c, args, ts⟩, ty, pos, af, g⟩ A H v H' :=
  od_of_run (fun ρ w a hs he => by
    have hv := he c (by simp [Op.operands, Call.operands])
    rw [ec] at hv
    obtain ⟨xs', ys', e, h1, h2⟩ := hv.func_inv
    refine ⟨xs'.toList ++ (args.map a.eval).toList ++ ys'.toList, (h1.append (evals (fun x hx => he x (by simp [Op.operands, Call.operands, hx])))).append h2, ?_⟩
    simp only [execOp, resolve, e, Deferred.ofValue, invoke, pure_bind]
    congr 2
    apply Array.ext'
    simp) hd

/-! ### Panics -/
/-- An operation panics, and leaves such a heap. -/
noncomputable def OpPan (P : Program) (o : Oper) (A : Env) (H : Heap) (v : Value) (H' : Heap) : Prop :=
  ∀ ρ w a, Sim P ρ H w → OpRel ρ o A a → ∀ (K : Act → World → Prop) (Q : Exit → Act → World → Prop),
    (∀ v' ρ' w', V ρ' v v' → St ρ H w ρ' H' w' → Sim P ρ' H' w' → Q (.panic [{ v := v', recovered := false }]) a w') → ∀ z, o.wpIn (fen z) 0 P a w K Q

theorem op_call_of_run {o : Oper} {f : FuncId} {args : List Value} {v : Value} {H' : Heap}
    (hr : ∀ ρ w a, Sim P ρ H w → OpRel ρ o A a → ∃ args', VL ρ args args' ∧ (execOp a.eval o).run P w = .ok (.enter f args'.toArray) w) (hd : Does P f args H (.pan v) H') : OpPan P o A H v H' := by
  intro ρ w a hs he K Q hk z
  obtain ⟨args', ha, hrun⟩ := hr ρ w a hs he
  refine ⟨fun _ _ => trivial, ?_⟩
  rw [semAt_of hrun (by simp) _]
  refine ⟨fun h => by simp [fen, Fence.wide] at h, ?_⟩
  refine callsIn_fen ((hd ρ w args' hs ha).mono ?_)
  rintro e w' ⟨ρ', ho, hst, hs'⟩
  cases e with
  | returned v' => exact ho.elim
  | panicked ch => obtain ⟨v', hv, rfl⟩ := ho; exact hk v' ρ' w' hv hst hs'
  | outgrown => exact ho.elim

theorem op_call {f : FuncId} {args : Array Operand} {ts : Array TypeId} {v : Value} {H' : Heap} (hen : entered P f = true) (hd : Does P f (args.map (ev A)).toList H (.pan v) H') :
    OpPan P ⟨d, .call ⟨.value (.func f), args, ts⟩, ty, pos, af, g⟩ A H v H' :=
  op_call_of_run (fun ρ w a hs he => ⟨(args.map a.eval).toList, evals (fun x hx => he x (by simp [Op.operands, Call.operands, hx])), by
    rw [← run_callFunc hen]
    simp only [execOp, resolve, Deferred.ofValue, Act.eval, invoke, pure_bind, Array.empty_append, Array.append_empty, Array.toArray_toList]⟩) hd

theorem op_callv {f : FuncId} {c : Operand} {args : Array Operand} {ts : Array TypeId} {xs ys : Array Value} {v : Value} {H' : Heap} (ec : ev A c = .func (.func f) xs ys) (hen : entered P f = true)
    (hd : Does P f (xs.toList ++ (args.map (ev A)).toList ++ ys.toList) H (.pan v) H') : OpPan P ⟨d, .call ⟨.value c, args, ts⟩, ty, pos, af, g⟩ A H v H' :=
  op_call_of_run (fun ρ w a hs he => by
    have hv := he c (by simp [Op.operands, Call.operands])
    rw [ec] at hv
    obtain ⟨xs', ys', e, h1, h2⟩ := hv.func_inv
    refine ⟨xs'.toList ++ (args.map a.eval).toList ++ ys'.toList, (h1.append (evals (fun x hx => he x (by simp [Op.operands, Call.operands, hx])))).append h2, ?_⟩
    rw [← run_callFunc hen]
    simp only [execOp, resolve, e, Deferred.ofValue, invoke, pure_bind]
    congr 2
    apply Array.ext'
    simp) hd

theorem op_panic {x : Operand} {t : TypeId} {v : Value} (ex : ev A x = .iface t v) : OpPan P ⟨d, .panic x, ty, pos, af, g⟩ A H (.iface t v) H := by
  intro ρ w a hs he K Q hk z
  have hv := he x (by simp [Op.operands])
  rw [ex] at hv
  have hi : ∀ u, V ρ (.iface t v) u → ∃ v', u = .iface t v' := fun u hu => by
    cases hu with
    | same _ hp => simp [plain] at hp
    | iface t v v' h => exact ⟨v', rfl⟩
  obtain ⟨v', ea⟩ := hi _ hv
  rw [ea] at hv
  refine ⟨fun _ _ => trivial, ?_⟩
  rw [Oper.semAt_eq _ _ _ (fun c hc => by cases hc)]
  have hr : (execOp a.eval ⟨d, .panic x, ty, pos, af, g⟩).run P w = .halt (.panic (.iface t v')) w := by
    simp only [execOp, Instr.panic, ea, goPanic]
    rfl
  rw [hr]
  exact hk _ ρ w hv (.refl _ _ _) hs

theorem aops_panic {ops : Array Oper} {o : Oper} {rest : List Oper} {v : Value} {H' : Heap} (hg : o.guard = none) (ho : OpPan P o A H v H') (hd : okOp P n o = true)
    (h : Q (.panic v) A H') : AOps P n ops (o :: rest) Q A H := by
  intro z ρ w a hs he
  refine wpListIn_plain hg fun K hK => ?_
  exact ho ρ w a hs (he.op hs hd) K _ (fun v' ρ' w' hv hst hs' => ⟨.panic v, ρ', A, H', h, hst, hs', he.step hst, v', hv, rfl⟩) z

theorem Callable.does {f : FuncId} {args : List Value} {v : Value} {H' : Heap} (he : entered P f = true) (h : Callable P f args H v H') : Does P f args H (.ret v) H' := by
  rcases h with ⟨_, hd⟩ | hx
  · exact hd
  · intro ρ w args' hs ha
    obtain ⟨v', ρ', w', h1, _⟩ := hx ρ w args' hs ha
    rw [run_callFunc he] at h1
    cases h1

/-! ### What the model runs itself -/

/-- The entries that are taken. -/
inductive Xk where
  | count | indexByte | noEscape | add64

noncomputable def Xk.entry : Xk → Array Value → Sem Value
  | .count => Extern.BytealgCount.count
  | .indexByte => Extern.BytealgIndexByte.indexByte
  | .noEscape => Extern.AbiNoEscape.same
  | .add64 => fun args => do
    let (x, y, c) ← Extern.MathBitsCarry.three "Add64" args
    pure (Extern.MathBitsCarry.pair ((x + y + c) % Extern.MathBitsCarry.m64) ((x + y + c) / Extern.MathBitsCarry.m64))

noncomputable def Xk.val : Xk → List Value → Option Value
  | .count, [.string s, .int .u8 c] => some (.int .i64 (Lib.countByte (bl s) c.toNat.toUInt8))
  | .indexByte, [.string s, .int .u8 c] => some (.int .i64 (Lib.indexByte (bl s) c.toNat.toUInt8))
  | .noEscape, [x] => some x
  | .add64, [.int .u64 x, .int .u64 y, .int .u64 c] => if c.toNat ≤ 1 then some (.tuple #[.int .u64 (((x.toNat + y.toNat + c.toNat) % 18446744073709551616 : Nat) : Int), .int .u64 (((x.toNat + y.toNat + c.toNat) / 18446744073709551616 : Nat) : Int)]) else none
  | _, _ => none

/-- A function that is such an entry. -/
def IsExt (P : Program) (f : FuncId) (k : Xk) : Prop :=
  ∃ fn, P.funcs[f]? = some fn ∧ (fn.name == "runtime.NumGoroutine") = false ∧ fn.body.isNone = true ∧ (Extern.findNext fn).isNone = true ∧ Extern.find fn = some k.entry

set_option maxHeartbeats 800000 in
theorem ext_does {f : FuncId} {k : Xk} {args : List Value} {v : Value} (hx : IsExt P f k) (hv : k.val args = some v) : ExtDoes P f args H v H := by
  obtain ⟨fn, h1, h2, h3, h4, h5⟩ := hx
  have h4 : Extern.findNext fn = none := by simpa using h4
  intro ρ w args' hs ha
  rw [run_callFunc_extern h1 h2 h3 h4 h5]
  unfold Xk.val at hv
  split at hv
  · rename_i s c
    cases hv
    obtain ⟨x, l, rfl, hx, hl⟩ := ha.uncons
    obtain ⟨y, l, rfl, hy, hl⟩ := hl.uncons
    obtain rfl := hl.unnil
    rw [hx.plain_eq rfl, hy.plain_eq rfl]
    refine ⟨_, ρ, w, ?_, .same _ rfl, .refl _ _ _, hs⟩
    rw [show Xk.count.entry = Extern.BytealgCount.count from rfl, Lib.run_countString]
    rfl
  · rename_i s c
    cases hv
    obtain ⟨x, l, rfl, hx, hl⟩ := ha.uncons
    obtain ⟨y, l, rfl, hy, hl⟩ := hl.uncons
    obtain rfl := hl.unnil
    rw [hx.plain_eq rfl, hy.plain_eq rfl]
    refine ⟨_, ρ, w, ?_, .same _ rfl, .refl _ _ _, hs⟩
    rw [show Xk.indexByte.entry = Extern.BytealgIndexByte.indexByte from rfl, Lib.run_indexByteString]
    rfl
  · rename_i x
    cases hv
    obtain ⟨y, l, rfl, hy, hl⟩ := ha.uncons
    obtain rfl := hl.unnil
    exact ⟨y, ρ, w, rfl, hy, .refl _ _ _, hs⟩
  · rename_i x y c
    split at hv
    · rename_i hc
      cases hv
      obtain ⟨x1, l, rfl, hx1, hl⟩ := ha.uncons
      obtain ⟨x2, l, rfl, hx2, hl⟩ := hl.uncons
      obtain ⟨x3, l, rfl, hx3, hl⟩ := hl.uncons
      obtain rfl := hl.unnil
      rw [hx1.plain_eq rfl, hx2.plain_eq rfl, hx3.plain_eq rfl]
      refine ⟨_, ρ, w, ?_, .closed (by simp [closedV, plain]), .refl _ _ _, hs⟩
      have hn : ¬ c.toNat > 1 := by omega
      have hdef : Extern.MathBitsCarry.three "Add64" #[.int .u64 x, .int .u64 y, .int .u64 c] = (do
          let c := (← asInt (.int .u64 c)).toNat
          if c > 1 then unsupported (.noEntry ("extern/math/bits." ++ "Add64" ++ ": a carry that is neither 0 nor 1"))
          pure ((← asInt (.int .u64 x)).toNat, (← asInt (.int .u64 y)).toNat, c)) := rfl
      have h3 : (Extern.MathBitsCarry.three "Add64" #[.int .u64 x, .int .u64 y, .int .u64 c]).run P w = .ok (x.toNat, y.toNat, c.toNat) w := by
        rw [hdef]
        have hi : ∀ (k : IntKind) (m : Int), (asInt (.int k m)).run P w = .ok m w := fun _ _ => rfl
        simp only [Sem.run_bind, hi, Result.andThen_ok, if_neg hn, Sem.run_pure]
      simp only [Xk.entry, Sem.run_bind, h3, Result.andThen_ok, Sem.run_pure]
      rfl
    · cases hv
  · cases hv

end
end Go.Ab
/- A string's bytes as a new slice. -/
set_option linter.unusedVariables false
namespace Go.Ab
section
variable {P : Program} {n : Nat} {A : Env} {H : Heap} {d : Option Nat} {ty : TypeId} {pos : String} {af : Array Edge} {g : Option (Nat × Bool)}

theorem bytesWorld_alloc (w : World) (e : TypeId) (s : ByteArray) : Lib.bytesWorld w e s = w.drew.alloc (.cells (Lib.bytesCells w e s) e ((Lib.bytesCells w e s).size, (Lib.bytesCells w e s).size + 1)) := by
  simp only [Lib.bytesWorld, World.freeze, World.alloc, World.drew]
  simp only [Nat.succ_ne_zero, if_false]
  congr 1
  apply Array.ext
  · simp
  · intro i h1 h2
    simp only [Array.size_modify, Array.size_push] at h1
    by_cases hi : i = w.heap.size
    · subst hi
      rw [Array.getElem_modify_self]
      simp
    · rw [Array.getElem_modify_of_ne (by omega)]
      rw [Array.getElem_push_lt (by omega), Array.getElem_push_lt (by omega)]

theorem od_toBytes {src dst e : TypeId} {x : Operand} {s : ByteArray} {u : TypeDesc} {inf : TypeInfo} {z : Value} (h1 : P.underlying src = some u) (h2 : P.underlying dst = some (.slice e)) (h3 : P.underlying e = some (.int .u8))
    (hok : ElemOk P e inf z) (hsz : inf.size = 1) (ex : ev A x = .string s) (hl : (bl s).length ≤ 140737488355328) :
    OpDoes P ⟨d, .convert src dst x, ty, pos, af, g⟩ A H (.slice (some ⟨H.next, 0, none⟩) (bl s).length (UNK + 1)) (H.push (.cells (bytesOf s) e false)) :=
  .of_run fun ρ w a hs he => by
    have e1 := evalP (he x (by simp [Op.operands])) ex rfl
    have hr := Lib.run_convert_string_bytes (P := P) w src dst e s h1 h2 h3
    have hsize : s.size = (bl s).length := rfl
    have hge := grownCap_ge w s.size 0 e
    have hle := grownCap_le_maxLen w s.size 0 e (by simp only [maxLen]; omega)
    have hbl : (bytesOf s).length = (bl s).length := by simp [bytesOf, bl]
    have hcs : (Lib.bytesCells w e s).size = grownCap w s.size 0 e := by
      simp only [Lib.bytesCells, Array.size_append, Array.size_map, Array.size_replicate]
      have : s.data.size = s.size := rfl
      omega
    have hlist : (Lib.bytesCells w e s).toList = bytesOf s ++ List.replicate (grownCap w s.size 0 e - s.size) (.int .u8 0) := by
      simp [Lib.bytesCells, bytesOf]
    rw [bytesWorld_alloc] at hr
    obtain ⟨s1, s2⟩ := hs.drew
    let i : Info := ⟨⟨w.heap.size, 0, none⟩, grownCap w s.size 0 e, P.cellsOf e⟩
    have hb : BlkRel P (ext ρ H.next i) i (w.drew.alloc (.cells (Lib.bytesCells w e s) e ((Lib.bytesCells w e s).size, (Lib.bytesCells w e s).size + 1))) (.cells (bytesOf s) e false) := by
      refine ⟨_, _, heap_alloc_new w.drew _, ⟨rfl, rfl⟩, by simp only [i]; rw [hcs]; simp, by simp only [i]; omega, fun j v hj => ⟨v, ?_, .same v ?_⟩, fun o _ ho hh => by omega, fun k v hk hkv => ?_, rfl⟩
      · simp only [i, Nat.zero_add]
        rw [← Array.getElem?_toList, hlist, List.getElem?_append_left (List.getElem?_eq_some_iff.1 hj).1]
        exact hj
      · have := List.mem_of_getElem? hj
        simp only [bytesOf, List.mem_map] at this
        obtain ⟨b, _, rfl⟩ := this
        rfl
      · simp only [i, Nat.zero_add] at hk
        rw [← Array.getElem?_toList, hlist, List.getElem?_append_right hk, List.getElem?_replicate] at hkv
        split at hkv
        · cases hkv; exact fun _ => ⟨0, rfl, by omega, by omega⟩
        · cases hkv
    obtain ⟨t1, t2⟩ := s2.push _ (.cells (bytesOf s) e false) i rfl hb
    refine ⟨.slice (some ⟨w.heap.size, 0, none⟩) s.size (grownCap w s.size 0 e), _, _, ?_, ?_, s1.trans t1, t2⟩
    · simp only [execOp, e1, Sem.run_bind, hr, Result.andThen_ok, Sem.run_pure]
    · refine .slice H.next 0 _ _ _ i _ (ext_same _ _ _) (.inl (by rw [add_lit])) hge (by simp only [maxLen, UNK] at *; omega) (fun _ => ?_) (fun h => by simp only [UNK] at h; omega)
      simp only [i, Nat.zero_add]
      rw [hok.cellsOf, hsz]
      exact ⟨by simp only [UNK], by omega⟩
end
end Go.Ab
