/- Pointers as unsafe ones and back, bytes as strings, slices of arrays, methods of interfaces. -/
import Derived.Test.YthoanamkoigjeaaGreatDoorAbB
import Derived.Lib.Builder
import Derived.Lib.UnsafeStr
import Derived.Laws.BytesString
set_option linter.unusedVariables false
namespace Go.Ab

theorem rowAt_mono (P : Program) (fits : TypeId → Bool) : ∀ (dd : Nat) (e : TypeId) (count count' off n : Nat), count ≤ count' → rowAt P fits dd e count off n = true → rowAt P fits dd e count' off n = true
  | 0, e, count, count', off, n, hc, h => by simp [rowAt] at h
  | dd + 1, e, count, count', off, n, hc, h => by
    unfold rowAt at h ⊢
    simp only at h ⊢
    split at h
    · cases h
    · rename_i hs
      rw [if_neg hs]
      simp only [Bool.or_eq_true, Bool.and_eq_true, decide_eq_true_eq] at h ⊢
      rcases h with ⟨⟨h1, h2⟩, h3⟩ | ⟨h1, h2⟩
      · exact .inl ⟨⟨h1, by omega⟩, h3⟩
      · exact .inr ⟨by omega, h2⟩

theorem liesAt_mono (P : Program) : ∀ (dd : Nat) (e : TypeId) (count count' off : Nat) (u : TypeId) (n : Nat), count ≤ count' → liesAt P dd e count off u n = true → liesAt P dd e count' off u n = true
  | 0, e, count, count', off, u, n, hc, h => by simp [liesAt] at h
  | dd + 1, e, count, count', off, u, n, hc, h => by
    unfold liesAt at h ⊢
    simp only [Bool.or_eq_true] at h ⊢
    rcases h with h | h
    · exact .inl (rowAt_mono P _ _ _ _ _ _ _ hc h)
    · right
      split at h
      · exact liesAt_mono P dd e count count' off _ _ hc h
      · cases h

section
variable {P : Program} {n : Nat} {A : Env} {H : Heap} {d : Option Nat} {ty : TypeId} {pos : String} {af : Array Edge} {g : Option (Nat × Bool)}

/-- Where a pointer into a block that may be written leads. -/
theorem Sim.place {ρ : Ren} {w : World} (hs : Sim P ρ H w) {id off : Nat} {z : Value} {c : List Value} {e : TypeId} (hv : V ρ (.pointer (some ⟨id, off, none⟩)) z) (hg : H.get id = some (.cells c e false)) :
    ∃ i cur fz, ρ id = some i ∧ i.at_ = ⟨i.at_.block, 0, none⟩ ∧ z = .pointer (some ⟨i.at_.block, off, none⟩) ∧ w.heap[i.at_.block]? = some (.cells cur e fz) ∧ c.length ≤ cur.size ∧ (∀ (j : Nat) v, c[j]? = some v → ∃ v', cur[j]? = some v' ∧ V ρ v v') := by
  obtain ⟨i, hi, _, e1⟩ := hv.ptr_inv
  obtain ⟨cur, fz, hh, ⟨h1, h2⟩, h3, h4, h5, _⟩ := hs.live id _ i hg hi
  have ha : i.at_ = ⟨i.at_.block, 0, none⟩ := by
    obtain ⟨⟨b, o, s⟩, nn, ss⟩ := i
    simp only at h1 h2
    subst h1; subst h2; rfl
  refine ⟨i, cur, fz, hi, ha, ?_, hh, by omega, fun j v hj => ?_⟩
  · rw [e1, ha, add_lit]; simp
  · have := h5 j v hj; rw [h2, Nat.zero_add] at this; exact this

theorem spot_none {ρ : Ren} {a : Addr} {z : Value} (hv : V ρ (.pointer (some a)) z) : a = ⟨a.block, a.off, none⟩ := by
  obtain ⟨i, _, h, _⟩ := hv.ptr_inv
  obtain ⟨b, o, s⟩ := a
  simp only at h
  subst h; rfl

theorem od_toUnsafe {src dst t e : TypeId} {j : TypeInfo} {x : Operand} {a : Addr} {c : List Value} (ex : ev A x = .pointer (some a)) (hsrc : P.underlying src = some (.pointer t)) (hdst : P.underlying dst = some .unsafePointer) (ht : P.info? t = some j) (hj : j.size ≠ 0)
    (hg : H.get a.block = some (.cells c e false)) (ho : a.off < c.length) : OpDoes P ⟨d, .convert src dst x, ty, pos, af, g⟩ A H (.pointer (some a)) H :=
  .pure_ fun ρ w s hs he => by
    have hv := he x (by simp [Op.operands])
    rw [ex] at hv
    have ea := spot_none hv
    rw [ea] at hv
    obtain ⟨i, cur, fz, hi, ha, e1, hh, hl, _⟩ := hs.place hv hg
    rw [e1] at hv
    refine ⟨.pointer (some ⟨i.at_.block, a.off, none⟩), ?_, by rw [ea]; exact hv⟩
    simp only [execOp, e1, Sem.run_bind, Lib.run_to_unsafe w ⟨i.at_.block, a.off, none⟩ hsrc hdst ht hj (e := e) (cells := cur.size) (by simp [World.shape?, hh]) (by simp only; omega), Result.andThen_ok, Sem.run_pure]

theorem od_fromUnsafe {src dst u e : TypeId} {j : TypeInfo} {x : Operand} {a : Addr} {c : List Value} (ex : ev A x = .pointer (some a)) (hsrc : P.underlying src = some .unsafePointer) (hdst : P.underlying dst = some (.pointer u)) (hu : P.info? u = some j)
    (hg : H.get a.block = some (.cells c e false)) (hl : liesAt P P.depth e (c.length / P.cellsOf e) a.off u 1 = true) : OpDoes P ⟨d, .convert src dst x, ty, pos, af, g⟩ A H (.pointer (some a)) H :=
  .pure_ fun ρ w s hs he => by
    have hv := he x (by simp [Op.operands])
    rw [ex] at hv
    have ea := spot_none hv
    rw [ea] at hv
    obtain ⟨i, cur, fz, hi, ha, e1, hh, hle, _⟩ := hs.place hv hg
    rw [e1] at hv
    refine ⟨.pointer (some ⟨i.at_.block, a.off, none⟩), ?_, by rw [ea]; exact hv⟩
    simp only [execOp, e1, Sem.run_bind, Lib.run_from_unsafe w ⟨i.at_.block, a.off, none⟩ hsrc hdst hu (e := e) (cells := cur.size) (by simp [World.shape?, hh]) (liesAt_mono P _ _ _ _ _ _ _ (Nat.div_le_div_right hle) hl), Result.andThen_ok, Sem.run_pure]

/-- Cells that are bytes. -/
noncomputable def bytesIn : List Value → Option (List UInt8)
  | [] => some []
  | .int .u8 m :: l => (bytesIn l).map (m.toNat.toUInt8 :: ·)
  | _ :: _ => none

theorem bytesIn_rel {ρ : Ren} : ∀ (l l' : List Value) (bs : List UInt8), VL ρ l l' → bytesIn l = some bs → ∃ ns : List Int, l' = ns.map (Value.int .u8) ∧ bs = ns.map fun m => m.toNat.toUInt8
  | [], l', bs, hv, h => by cases h; obtain rfl := hv.unnil; exact ⟨[], rfl, rfl⟩
  | v :: l, l', bs, hv, h => by
    obtain ⟨v', l1, rfl, h1, h2⟩ := hv.uncons
    unfold bytesIn at h
    split at h
    · rename_i heq; cases heq
    · rename_i m l0 heq
      cases heq
      simp only [Option.map_eq_some_iff] at h
      obtain ⟨bs1, hb, rfl⟩ := h
      obtain ⟨ns, rfl, rfl⟩ := bytesIn_rel l l1 bs1 h2 hb
      exact ⟨m :: ns, by rw [h1.plain_eq rfl]; rfl, rfl⟩
    · cases h

theorem foldl_push : ∀ (ns : List Int) (acc : ByteArray), ns.foldl (fun r (m : Int) => r.push (UInt8.ofNat m.toNat)) acc = ⟨acc.data ++ (ns.map fun m => m.toNat.toUInt8).toArray⟩
  | [], acc => by simp
  | m :: ns, acc => by
    rw [List.foldl_cons, foldl_push ns]
    apply ByteArray.ext
    apply Array.ext'
    simp [ByteArray.push, Nat.toUInt8]

/-- A slice's cells, by its elements' size. -/
noncomputable def sliceCells (size : Nat) (v : Value) (H : Heap) : Option (List Value) :=
  match v with
  | .slice none 0 _ => some []
  | .slice (some a) len _ => if len = 0 then some [] else match H.get a.block with
    | some (.cells c _ _) => if a.off + len * size ≤ c.length then some ((c.drop a.off).take (len * size)) else none
    | _ => none
  | _ => none

theorem od_toStr {src dst e : TypeId} {x : Operand} {l : List Value} {bs : List UInt8} (hsrc : P.underlying src = some (.slice e)) (h8 : P.underlying e = some (.int .u8)) (hdst : P.underlying dst = some .string)
    (hl : sliceCells 1 (ev A x) H = some l) (hb : bytesIn l = some bs) : OpDoes P ⟨d, .convert src dst x, ty, pos, af, g⟩ A H (.string (mkS bs)) H :=
  .pure_ fun ρ w s hs he => by
    have hv := he x (by simp [Op.operands])
    refine ⟨.string (mkS bs), ?_, .same _ rfl⟩
    simp only [execOp, Sem.run_bind]
    generalize ev A x = u at hv hl
    unfold sliceCells at hl
    split at hl
    · rename_i cap
      cases hl
      cases hb
      rw [hv.plain_eq rfl]
      rw [run_convert_bytes_string w src dst e none 0 cap hsrc h8 hdst]
      rfl
    · rename_i a len cap
      obtain ⟨i, a', cap', g1, g2, g3, g4, g5, g0, g6, g7⟩ := hv.slice_inv
      rw [g3, run_convert_bytes_string w src dst e (some a') len cap' hsrc h8 hdst]
      split at hl
      · rename_i h0
        subst h0
        cases hl
        cases hb
        rw [run_bytesToString w a' 0 cap' [] (by simp [loadCells, loadCellsFrom])]
        rfl
      · rename_i h0
        split at hl
        · rename_i c e' ro hg
          split at hl
          · rename_i hle
            cases hl
            obtain ⟨cs, k1, k2, k3⟩ := (hs.live a.block _ i hg g1).cellsAt a.off (len * 1) hle
            obtain ⟨ns, rfl, rfl⟩ := bytesIn_rel _ cs bs k2 hb
            have ha : a' = i.at_.add a.off := by rcases g4 with h | ⟨h, _⟩; exact h; exact absurd h h0
            have hlen : ns.length = len := by simpa using k1
            have hld := run_loadCells_list (P := P) (w := w) a' (ns.map (Value.int .u8)) (fun j v hj => by rw [ha]; exact k3 j v hj)
            rw [List.length_map, hlen] at hld
            rw [run_bytesToString w a' len cap' ns hld, foldl_push]
            simp [mkS]
          · cases hl
        · cases hl
    · cases hl

/-- A slice of an array. -/
theorem od_slice_array {t e : TypeId} {m : Nat} {x : Operand} {lo hi : Option Operand} {inf : TypeInfo} {l h : Option Int} {a : Addr} (ht : P.underlying t = some (.array m e)) (hi' : P.info? e = some inf) (ex : ev A x = .pointer (some a))
    (el : boundOf A lo = some l) (eh : boundOf A hi = some h) (h1 : 0 ≤ l.getD 0) (h2 : l.getD 0 ≤ h.getD m) (h3 : h.getD m ≤ m) (hm : m < UNK) :
    OpDoes P ⟨d, .slice t x lo hi none, ty, pos, af, g⟩ A H (.slice (some ⟨a.block, a.off + (l.getD 0).toNat * inf.size, none⟩) ((h.getD m).toNat - (l.getD 0).toNat) (m - (l.getD 0).toNat)) H :=
  .pure_ fun ρ w s hs he => by
    have hv := he x (by simp [Op.operands])
    rw [ex] at hv
    obtain ⟨i, g1, g2, g3⟩ := hv.ptr_inv
    have hb := run_bounds (P := P) (A := A) (w := w) (fun y e => he y (by simp [Op.operands, e])) (fun y e => he y (by simp [Op.operands, e])) (mx := none) (fun y e => by cases e) el eh (m := none) rfl (by simp) (len := m) (cap := m) h1 h2 (by simpa using h3) (by simp) false
    simp only [Option.map_none, Option.getD_none, Int.toNat_natCast] at hb
    refine ⟨.slice (some (if m = (l.getD 0).toNat then i.at_.add a.off else (i.at_.add a.off).add ((l.getD 0).toNat * inf.size))) ((h.getD m).toNat - (l.getD 0).toNat) (m - (l.getD 0).toNat), ?_, ?_⟩
    · simp only [execOp, Instr.sliceAt, g3, Instr.sureAddr, Sem.run_bind, run_underlying ht, Result.andThen_ok, Option.map_none, hb, Sem.run_pure, run_sizeOf hi']
    · by_cases hcl : m = (l.getD 0).toNat
      · rw [if_pos hcl]
        exact .slice a.block _ _ _ _ i _ g1 (.inr ⟨by omega, by omega⟩) (by omega) (by omega) (fun h => by omega) (fun _ => rfl)
      · rw [if_neg hcl, add_add]
        exact .slice a.block _ _ _ _ i _ g1 (.inl rfl) (by omega) (by omega) (fun h => by omega) (fun _ => rfl)

/-- The address of a slice's first element. -/
theorem od_sliceData {ts : Array TypeId} {x : Operand} {a : Addr} {len cap : Nat} (ex : ev A x = .slice (some a) len cap) (hl : len ≠ 0) : OpDoes P ⟨d, .call ⟨.builtin .unsafeSliceData, #[x], ts⟩, ty, pos, af, g⟩ A H (.pointer (some a)) H :=
  .pure_ fun ρ w s hs he => by
    have hv := he x (by simp [Op.operands, Call.operands])
    rw [ex] at hv
    obtain ⟨i, a', cap', g1, g2, g3, g4, g5, g0, g6, g7⟩ := hv.slice_inv
    have ha : a' = i.at_.add a.off := by rcases g4 with h | ⟨h, _⟩; exact h; exact absurd h hl
    refine ⟨.pointer (some a'), ?_, ?_⟩
    · rw [exec_builtin]
      have hz : (Builtin.unsafeSliceData_ ts ty #[.slice (some a') len cap']).run P w = .ok (.pointer (some a')) w := by
        have hdef : Builtin.unsafeSliceData_ ts ty #[.slice (some a') len cap'] = (do
            if cap' ≠ 0 then pure (.pointer (some a'))
            else if (← viewAt a'.block).isSome then pure (.pointer (some a'))
            else pure (.pointer (some ⟨← newObj (.view a' (← elemOf ty)), 0, none⟩))) := rfl
        rw [hdef, if_pos (by omega)]
        rfl
      simp only [builtin, List.map_toArray, List.map_cons, List.map_nil, g3, Sem.run_bind, hz, Result.andThen_ok, Sem.run_pure]
    · obtain ⟨b, o, sp⟩ := a
      simp only at g1 g2 ha
      subst g2
      rw [ha]
      exact .ptr b o i g1
theorem od_sliceData_nil {ts : Array TypeId} {x : Operand} {len cap : Nat} (ex : ev A x = .slice none len cap) : OpDoes P ⟨d, .call ⟨.builtin .unsafeSliceData, #[x], ts⟩, ty, pos, af, g⟩ A H (.pointer none) H :=
  .pure_ fun ρ w s hs he => by
    have hv := he x (by simp [Op.operands, Call.operands])
    rw [ex] at hv
    refine ⟨.pointer none, ?_, .same _ rfl⟩
    rw [exec_builtin]
    simp only [builtin, List.map_toArray, List.map_cons, List.map_nil, hv.plain_eq rfl, Sem.run_bind]
    rfl

theorem od_unsafeStr_nil {pt it : TypeId} {x y : Operand} (ex : ev A x = .pointer none) (ey : ev A y = .int .i64 0) : OpDoes P ⟨d, .call ⟨.builtin .unsafeString, #[x, y], #[pt, it]⟩, ty, pos, af, g⟩ A H (.string (mkS [])) H :=
  .pure_ fun ρ w s hs he => by
    have e1 := evalP (he x (by simp [Op.operands, Call.operands])) ex rfl
    have e2 := evalP (he y (by simp [Op.operands, Call.operands])) ey rfl
    refine ⟨.string (mkS []), ?_, .same _ rfl⟩
    rw [exec_builtin]
    simp only [builtin, List.map_toArray, List.map_cons, List.map_nil, e1, e2, Sem.run_bind, Lib.run_unsafeString_none, Result.andThen_ok, Sem.run_pure]
    rfl

/-- Bytes as a string, without a copy: from here on they may not be written. -/
theorem od_unsafeStr {pt it e : TypeId} {x y : Operand} {id len : Nat} {c : List Value} {bs : List UInt8} (ex : ev A x = .pointer (some ⟨id, 0, none⟩)) (ey : ev A y = .int .i64 (len : Int)) (hp : P.underlying pt = some (.pointer e)) (hc1 : P.cellsOf e = 1)
    (hg : H.get id = some (.cells c e false)) (hlen : len ≠ 0) (hle : len ≤ c.length) (h63 : len ≤ 9223372036854775807) (hb : bytesIn (c.take len) = some bs) (hrow : ∀ v ∈ c.take len, ∃ m : Int, v = .int .u8 m ∧ 0 ≤ m ∧ m < 256) :
    OpDoes P ⟨d, .call ⟨.builtin .unsafeString, #[x, y], #[pt, it]⟩, ty, pos, af, g⟩ A H (.string (mkS bs)) (H.set id (.cells c e true)) :=
  .of_run fun ρ w s hs he => by
    have hv := he x (by simp [Op.operands, Call.operands])
    rw [ex] at hv
    have e2 := evalP (he y (by simp [Op.operands, Call.operands])) ey rfl
    obtain ⟨i, cur, fz, hi, ha, e1, hh, hcl, hcell⟩ := hs.place hv hg
    have hbl : bs.length = len ∧ ∀ (j : Nat) b, bs[j]? = some b → c[j]? = some (.int .u8 (b.toNat : Int)) := by
      have key : ∀ (l : List Value) (bs : List UInt8), bytesIn l = some bs → (∀ v ∈ l, ∃ m : Int, v = .int .u8 m ∧ 0 ≤ m ∧ m < 256) → bs.length = l.length ∧ ∀ (j : Nat) b, bs[j]? = some b → l[j]? = some (.int .u8 (b.toNat : Int)) := by
        intro l
        induction l with
        | nil => intro bs h _; cases h; exact ⟨rfl, fun j b h => by simp at h⟩
        | cons v l ih =>
          intro bs h hr
          obtain ⟨m, rfl, m0, m1⟩ := hr v (by simp)
          simp only [bytesIn, Option.map_eq_some_iff] at h
          obtain ⟨bs1, h1, rfl⟩ := h
          obtain ⟨q1, q2⟩ := ih bs1 h1 (fun v hv => hr v (by simp [hv]))
          refine ⟨by simp [q1], fun j b hj => ?_⟩
          cases j with
          | zero =>
            simp at hj
            subst hj
            simp only [List.getElem?_cons_zero, Option.some.injEq, Value.int.injEq, true_and]
            have : (m.toNat.toUInt8).toNat = m.toNat := by simp [Nat.toUInt8, UInt8.toNat_ofNat']; omega
            rw [this]; omega
          | succ j => simp at hj ⊢; exact q2 j b hj
      obtain ⟨q1, q2⟩ := key _ bs hb hrow
      refine ⟨by rw [q1, List.length_take]; omega, fun j b hj => ?_⟩
      have := q2 j b hj
      rw [List.getElem?_take] at this
      split at this
      · exact this
      · cases this
    have hcells : ∀ j x, bs[j]? = some x → w.cell? ((⟨i.at_.block, 0, none⟩ : Addr).add j) = some (.int .u8 x.toNat) := fun j x hj => by
      obtain ⟨v', h1, h2⟩ := hcell j _ (hbl.2 j x hj)
      rw [add_lit, Nat.zero_add, cell_of_row w _ _ cur e fz hh, h1, h2.plain_eq rfl]
    have hrun := Lib.run_unsafeString_row (P := P) w pt it ty e hp hc1 i.at_.block cur.size (by simp [World.shape?, hh]) bs (fun h => by rw [h] at hbl; simp at hbl; omega) (by omega) (by omega) hcells
    rw [hbl.1] at hrun
    have hfz : ∃ fz', (w.freeze ⟨i.at_.block, 0, none⟩ len).heap[i.at_.block]? = some (.cells cur e fz') ∧ OneBlk w (w.freeze ⟨i.at_.block, 0, none⟩ len) i.at_.block := by
      unfold World.freeze
      rw [if_neg hlen]
      obtain ⟨lo, hi⟩ := fz
      refine ⟨if lo == hi then (0, 0 + len) else (min lo 0, max hi (0 + len)), ?_, ⟨fun k hk => ?_, by simp, rfl, rfl, rfl⟩⟩
      · simp only [Array.getElem?_modify, hh, if_true, Option.map_some]
      · simp only [Array.getElem?_modify]
        rw [if_neg (fun e => hk e.symm)]
    obtain ⟨fz', hh', hone⟩ := hfz
    have hblk : BlkRel P ρ i (w.freeze ⟨i.at_.block, 0, none⟩ len) (.cells c e true) := by
      refine ⟨(Array.getElem?_eq_some_iff.1 hh').1, fun j v hj => ?_⟩
      obtain ⟨v', h1, h2⟩ := hcell j v hj
      refine ⟨v', ?_, h2⟩
      rw [ha, add_lit, Nat.zero_add, cell_of_row _ _ _ cur e fz' hh']
      exact h1
    obtain ⟨q1, q2⟩ := hs.setBlk hi hg rfl hone hblk
    refine ⟨.string (mkS bs), ρ, _, ?_, .same _ rfl, q1, q2⟩
    rw [exec_builtin]
    simp only [builtin, List.map_toArray, List.map_cons, List.map_nil, e1, e2, Sem.run_bind, hrun, Result.andThen_ok, Sem.run_pure]
    rfl

/-- A method of an interface, whose receiver is the value itself. -/
noncomputable def isPtrD : TypeDesc → Bool
  | .pointer _ => true
  | _ => false

/-- Which function a method is. -/
noncomputable def methodOf (P : Program) (t : TypeId) (name : String) : Option FuncId :=
  match P.info? t, P.underlying t with
  | some inf, some td => match inf.methods.find? (·.name == name) with
    | some m => match m.path.toList, m.func with
      | [], some (f, pr) => if pr = isPtrD td then some f else none
      | _, _ => none
    | none => none
  | _, _ => none

theorem run_method {t : TypeId} {name : String} {f : FuncId} (h : methodOf P t name = some f) (v : Value) (w : World) (fuel : Nat) : (method (fuel + 1) t v name).run P w = .ok (f, v) w := by
  unfold methodOf at h
  split at h
  · rename_i inf td hi htd
    split at h
    · rename_i m hm
      split at h
      · rename_i f0 pr hp hf
        split at h
        · rename_i hpr
          cases h
          have hfol : (follow m.path.toList t (.val v)).run P w = .ok (t, .val v) w := by rw [hp]; rfl
          have hrec : ∀ wr, (receiverAt t (.val v) pr wr).run P w = .ok v w := fun wr => by
            simp only [receiverAt, Sem.run_bind, run_underlying htd, Result.andThen_ok]
            cases td <;> simp only [isPtrD] at hpr <;> subst hpr <;> rfl
          simp only [method, typeInfo, Sem.run_bind, run_program, Result.andThen_ok, hi, Sem.run_pure, hm, hfol, hf, hrec]
        · cases h
      · cases h
    · cases h
  · cases h

theorem od_invoke {recv : Operand} {name : String} {args : Array Operand} {ts : Array TypeId} {t : TypeId} {v u : Value} {f : FuncId} {H' : Heap} (er : ev A recv = .iface t v) (hm : methodOf P t name = some f) (hd : Callable P f (v :: (args.map (ev A)).toList) H u H') :
    OpDoes P ⟨d, .call ⟨.invoke recv name, args, ts⟩, ty, pos, af, g⟩ A H u H' :=
  od_of_run (fun ρ w a hs he => by
    have hv := he recv (by simp [Op.operands, Call.operands])
    rw [er] at hv
    obtain ⟨v', e, h1⟩ := hv.iface_inv
    refine ⟨v' :: (args.map a.eval).toList, .cons h1 (evals (fun x hx => he x (by simp [Op.operands, Call.operands, hx]))), ?_⟩
    have hdep : ∃ k, P.types.size + Made.depth = k + 1 := ⟨P.types.size + 99, rfl⟩
    obtain ⟨k, hk⟩ := hdep
    simp only [execOp, resolve, pure_bind, invoke, e]
    have h0 : (#[Value.iface t v'] ++ Array.map a.eval args)[0]? = some (.iface t v') := by rw [Array.getElem?_append_left (by simp)]; rfl
    have hx : (#[Value.iface t v'] ++ Array.map a.eval args).extract 1 (#[Value.iface t v'] ++ Array.map a.eval args).size = Array.map a.eval args := by
      apply Array.ext'
      simp
      exact List.take_of_length_le (by simp)
    simp only [h0, hx, callMethod, Sem.run_bind, run_program, Result.andThen_ok, hk, run_method hm]
    congr 2
    apply Array.ext'
    simp) hd
end
end Go.Ab
/- Maps with keys that are numbers, strings or bools; strings gone through; copies. -/
set_option linter.unusedVariables false
namespace Go.Ab

/-- A key that is told apart at once. -/
noncomputable def keyOk : TypeDesc → Value → Bool
  | .int _, .int _ _ => true
  | .string, .string _ => true
  | .bool, .bool _ => true
  | _, _ => false

/-- A key's entry: its place and its value. -/
noncomputable def afind (d : TypeDesc) (k : Value) : List (Value × Value) → Nat → Option (Option (Nat × Value))
  | [], _ => some none
  | (a, b) :: l, i => bif keyOk d a then (match Instr.sameNow d k a with | some true => some (some (i, b)) | some false => afind d k l (i + 1) | none => none) else none

theorem keyOk_plain {d : TypeDesc} {v : Value} (h : keyOk d v = true) : plain v = true := by cases d <;> cases v <;> simp_all [keyOk, plain]

section
variable {P : Program} {n : Nat} {A : Env} {H : Heap} {d : Option Nat} {ty : TypeId} {pos : String} {af : Array Edge} {g : Option (Nat × Bool)}

theorem run_check {kt : TypeId} {td : TypeDesc} {k : Value} (hd : P.underlying kt = some td) (hk : keyOk td k = true) (e : Bool) (m : Nat) (w : World) : (Instr.checkKey e (m + 1) kt k).run P w = .ok () w := by
  unfold Instr.checkKey
  simp only [Sem.run_bind, run_underlying hd, Result.andThen_ok]
  cases td <;> cases k <;> simp_all [keyOk]

theorem afind_rel {ρ : Ren} {td : TypeDesc} {k : Value} : ∀ (es : List (Value × Value)) (es' : List MapEntry) (i : Nat) (r : Option (Nat × Value)), VL ρ (es.map (·.1)) (es'.map (·.key)) → VL ρ (es.map (·.2)) (es'.map (·.val)) → afind td k es i = some r →
    match r with
    | none => Instr.findNow td k es' i = some none
    | some (j, v) => i ≤ j ∧ ∃ v', Instr.findNow td k es' i = some (some (j, v')) ∧ V ρ v v' ∧ ∃ a, es[j - i]? = some (a, v) ∧ Instr.sameNow td k a = some true ∧ plain a = true
  | [], es', i, r, h1, h2, h => by
    cases h
    have : es' = [] := by
      have := h1.1
      simp at this
      exact List.length_eq_zero_iff.1 this.symm
    subst this
    rfl
  | (a, b) :: es, es', i, r, h1, h2, h => by
    cases es' with
    | nil => have := h1.1; simp at this
    | cons e es' =>
      simp only [List.map_cons] at h1 h2
      obtain ⟨x, xs, ex, hx, hxs⟩ := h1.uncons
      obtain ⟨y, ys, ey, hy, hys⟩ := h2.uncons
      cases ex
      cases ey
      unfold afind at h
      cases hk : keyOk td a with
      | false => rw [hk] at h; cases h
      | true =>
        rw [hk] at h
        simp only [cond_true] at h
        have hke := hx.plain_eq (keyOk_plain hk)
        split at h
        · rename_i hs
          cases h
          refine ⟨Nat.le_refl _, e.val, ?_, hy, a, by simp, hs, keyOk_plain hk⟩
          simp only [Instr.findNow, hke, hs]
        · rename_i hs
          have ih := afind_rel es es' (i + 1) r hxs hys h
          cases r with
          | none => simp only [Instr.findNow, hke, hs]; exact ih
          | some jv =>
            obtain ⟨j, v⟩ := jv
            obtain ⟨q0, v', q1, q2, a1, q3, q4, q5⟩ := ih
            refine ⟨by omega, v', by simp only [Instr.findNow, hke, hs]; exact q1, q2, a1, ?_, q4, q5⟩
            rw [show j - i = (j - (i + 1)) + 1 by omega]
            simpa using q3
        · cases h

theorem run_findNow {kt : TypeId} {td : TypeDesc} {k : Value} {l : List MapEntry} {r : Option (Nat × Value)} (hd : P.underlying kt = some td) (h : Instr.findNow td k l 0 = some r) (w : World) : (Instr.findKey kt k l).run P w = .ok r w := by
  simp only [Instr.findKey, Sem.run_bind, run_underlying hd, Result.andThen_ok, h, Sem.run_pure]

theorem od_makeMap {t : TypeId} : OpDoes P ⟨d, .makeMap t none, ty, pos, af, g⟩ A H (.map (some H.next)) (H.push (.map [])) :=
  .of_run fun ρ w s hs he => by
    obtain ⟨h1, h2⟩ := hs.push (.map #[] 0) (.map []) ⟨⟨w.heap.size, 0, none⟩, 0, 0⟩ rfl ⟨#[], 0, by
      show (w.heap.push (Obj.map #[] 0))[w.heap.size]? = _
      simp, .nil _, .nil _, rfl, fun j e h => by simp at h⟩
    refine ⟨.map (some w.heap.size), _, _, ?_, .map H.next _ (ext_same _ _ _), h1, h2⟩
    simp only [execOp, Option.map_none, Instr.makeMap, Sem.run_bind, run_newObj, Result.andThen_ok, Sem.run_pure, World.alloc]

/-- What a map tells of a key. -/
noncomputable def alook (P : Program) (k e : TypeId) (m ix : Value) (ok : Bool) (H : Heap) : Option Value :=
  match P.underlying k, P.info? e with
  | some td, some inf => match inf.zero with
    | some z => bif keyOk td ix && closedV z then
        (match m with
        | .map none => some (bif ok then .tuple #[z, .bool false] else z)
        | .map (some id) => (match H.get id with
          | some (.map es) => (match afind td ix es 0 with
            | some none => some (bif ok then .tuple #[z, .bool false] else z)
            | some (some (_, v)) => some (bif ok then .tuple #[v, .bool true] else v)
            | none => none)
          | _ => none)
        | _ => none)
      else none
    | none => none
  | _, _ => none

theorem V.pair {ρ : Ren} {v v' : Value} (h : V ρ v v') (b : Bool) : V ρ (.tuple #[v, .bool b]) (.tuple #[v', .bool b]) :=
  .tuple _ _ rfl (fun j x x' h1 h2 => by
    rcases j with _ | _ | j
    · simp at h1 h2; subst h1; subst h2; exact h
    · simp at h1 h2; subst h1; subst h2; exact .same _ rfl
    · simp at h1)

theorem od_lookup {t k e : TypeId} {x ix : Operand} {ok : Bool} {v : Value} (ht : P.underlying t = some (.map k e)) (h : alook P k e (ev A x) (ev A ix) ok H = some v) : OpDoes P ⟨d, .lookup t x ix ok, ty, pos, af, g⟩ A H v H :=
  .pure_ fun ρ w s hs he => by
    have hvx := he x (by simp [Op.operands])
    have hvi := he ix (by simp [Op.operands])
    unfold alook at h
    split at h
    · rename_i td inf hk hi
      split at h
      · rename_i z hz
        cases hc : (keyOk td (ev A ix) && closedV z) with
        | false => rw [hc] at h; cases h
        | true =>
          rw [hc] at h
          simp only [cond_true] at h
          simp only [Bool.and_eq_true] at hc
          have hix := hvi.plain_eq (keyOk_plain hc.1)
          have hzv : V ρ z z := .closed hc.2
          split at h
          · rename_i em
            rw [em] at hvx
            have hx := hvx.plain_eq rfl
            cases h
            refine ⟨bif ok then .tuple #[z, .bool false] else z, ?_, by cases ok; exact hzv; exact hzv.pair false⟩
            simp only [execOp, Instr.lookup, hx, hix, Sem.run_bind, run_underlying ht, Result.andThen_ok, Sem.run_pure, run_check hk hc.1 _ 9999, run_findNow hk (l := []) (r := none) rfl, run_zeroValue hi hz]
            cases ok <;> rfl
          · rename_i id em
            rw [em] at hvx
            obtain ⟨i, hi', ex⟩ := hvx.map_inv
            split at h
            · rename_i es hg
              obtain ⟨es', clock, hh, v1, v2, hclk, hborn⟩ := hs.live id _ i hg hi'
              have hget : (getObj i.at_.block).run P w = .ok (.map es' clock) w := by simp [getObj, Sem.run, hh]
              split at h
              · rename_i hf
                cases h
                have := afind_rel es es'.toList 0 none v1 v2 hf
                refine ⟨bif ok then .tuple #[z, .bool false] else z, ?_, by cases ok; exact hzv; exact hzv.pair false⟩
                simp only [execOp, Instr.lookup, ex, hix, Sem.run_bind, run_underlying ht, Result.andThen_ok, Sem.run_pure, hget, run_check hk hc.1 _ 9999, run_findNow hk this, run_zeroValue hi hz]
                cases ok <;> rfl
              · rename_i j v0 hf
                cases h
                obtain ⟨_, v', q1, q2, _⟩ := afind_rel es es'.toList 0 (some (j, v0)) v1 v2 hf
                refine ⟨bif ok then .tuple #[v', .bool true] else v', ?_, by cases ok; exact q2; exact q2.pair true⟩
                simp only [execOp, Instr.lookup, ex, hix, Sem.run_bind, run_underlying ht, Result.andThen_ok, Sem.run_pure, hget, run_check hk hc.1 _ 9999, run_findNow hk q1]
                cases ok <;> rfl
              · cases h
            · cases h
          · cases h
      · cases h
    · cases h

/-- A map with a key set. -/
noncomputable def aput (P : Program) (k : TypeId) (m ix v : Value) (H : Heap) : Option Heap :=
  match P.underlying k, m with
  | some td, .map (some id) => (match H.get id with
    | some (.map es) => bif keyOk td ix then (match afind td ix es 0 with
        | some none => some (H.set id (.map (es ++ [(ix, v)])))
        | some (some (j, _)) => some (H.set id (.map (es.set j (ix, v))))
        | none => none) else none
    | _ => none)
  | _, _ => none

theorem ba_beq (a b : ByteArray) : (a == b) = (bl a == bl b) := by simp [beq_toListBytes, ByteArray.toList_eq, bl]
theorem ba_eq {a b : ByteArray} (h : (a == b) = true) : b = a := by
  rw [ba_beq] at h
  have h : bl a = bl b := by simpa using h
  rw [← mkS_bl a, ← mkS_bl b, h]
theorem sameNow_eq {td : TypeDesc} {k a : Value} (h : Instr.sameNow td k a = some true) : a = k := by
  cases td <;> cases k <;> cases a <;> simp_all [Instr.sameNow]
  exact ba_eq h

theorem run_put {t k e : TypeId} {m ix v m' ix' v' : Value} {ρ : Ren} {w : World} {H' : Heap} (hs : Sim P ρ H w) (ht : P.underlying t = some (.map k e)) (hm : V ρ m m') (hix : V ρ ix ix') (hv : V ρ v v') (h : aput P k m ix v H = some H') :
    ∃ w', (Instr.mapUpdate t m' ix' v').run P w = .ok () w' ∧ St ρ H w ρ H' w' ∧ Sim P ρ H' w' := by
  unfold aput at h
  split at h
  · rename_i td id hk
    split at h
    · rename_i es hg
      cases hc : keyOk td ix with
      | false => rw [hc] at h; cases h
      | true =>
        rw [hc] at h
        simp only [cond_true] at h
        have hixe := hix.plain_eq (keyOk_plain hc)
        obtain ⟨i, hi', ex⟩ := hm.map_inv
        obtain ⟨es', clock, hh, v1, v2, hclk, hborn⟩ := hs.live id _ i hg hi'
        have hlt : i.at_.block < w.heap.size := (Array.getElem?_eq_some_iff.1 hh).1
        have hget : (getObj i.at_.block).run P w = .ok (.map es' clock) w := by simp [getObj, Sem.run, hh]
        have hset : ∀ o, (setObj i.at_.block o).run P w = .ok () { w with heap := w.heap.setIfInBounds i.at_.block o } := fun o => by simp [setObj, Sem.run, hh]
        have hone : ∀ o, OneBlk w { w with heap := w.heap.setIfInBounds i.at_.block o } i.at_.block := fun o => ⟨fun k hk => by simp [Array.getElem?_setIfInBounds_ne (Ne.symm hk)], by simp, rfl, rfl, rfl⟩
        split at h
        · rename_i hf
          cases h
          have := afind_rel es es'.toList 0 none v1 v2 hf
          obtain ⟨q1, q2⟩ := hs.setBlk (b' := .map (es ++ [(ix, v)])) hi' hg rfl (hone (.map (es'.push { key := ix, val := v', born := clock }) (clock + 1)))
            ⟨es'.push { key := ix, val := v', born := clock }, clock + 1, by simp [hlt], by simpa using v1.append (.cons (.same ix (keyOk_plain hc)) (.nil ρ)), by simpa using v2.append (.cons hv (.nil ρ)), by simp [hclk], fun j e he => by
              rw [Array.getElem?_push] at he
              split at he
              · rename_i hj; cases he; show clock = j; rw [hclk, hj]
              · exact hborn j e he⟩
          refine ⟨_, ?_, q1, q2⟩
          simp only [Instr.mapUpdate, ex, hixe, Sem.run_bind, run_underlying ht, Result.andThen_ok, hget, run_check hk hc _ 9999, run_findNow hk this, hset]
        · rename_i j v0 hf
          cases h
          obtain ⟨_, v1', p1, p2, a, p3, p4, p5⟩ := afind_rel es es'.toList 0 (some (j, v0)) v1 v2 hf
          have ea := sameNow_eq p4
          subst ea
          have hj : j < es.length := (List.getElem?_eq_some_iff.1 p3).1
          obtain ⟨kk, r1, r2⟩ := v1.get (j := j) (x := a) (by rw [List.getElem?_map]; simp only [Nat.sub_zero] at p3; rw [p3]; rfl)
          have r3 := r2.plain_eq p5
          rw [List.getElem?_map] at r1
          have hkey : ((es'[j]?).map (·.key)).getD a = a := by
            rw [← Array.getElem?_toList]
            rw [r1, r3]; rfl
          have hst : (Instr.keyThatStays a a).run P w = .ok a w := by
            have : Instr.sameBits 10000 a a = true := by
              cases td <;> cases a <;> simp_all [keyOk, Instr.sameBits]
              rw [ba_beq]; simp
            simp only [Instr.keyThatStays, this, if_true, Sem.run_pure]
          have hmod : (es'.modify j fun e => { e with key := a, val := v' }).toList = es'.toList.modify j (fun e => { e with key := a, val := v' }) := by simp
          obtain ⟨q1, q2⟩ := hs.setBlk (b' := .map (es.set j (a, v))) hi' hg rfl (hone (.map (es'.modify j fun e => { e with key := a, val := v' }) clock))
            ⟨es'.modify j fun e => { e with key := a, val := v' }, clock, by simp [hlt], by
              have := v1.set (k := j) (x := a) (x' := a) (.same a p5)
              rw [List.map_set, hmod]
              have e1 : List.map (·.key) (es'.toList.modify j (fun e => { e with key := a, val := v' })) = (List.map (·.key) es'.toList).set j a := by
                apply List.ext_getElem?
                intro m
                rw [List.getElem?_map, List.getElem?_modify, List.getElem?_set, List.getElem?_map]
                by_cases hm : j = m
                · subst hm
                  cases he : es'.toList[j]? with
                  | none => rw [he] at r1; simp at r1
                  | some e => have := (List.getElem?_eq_some_iff.1 he).1; simp at this; simp [this]
                · simp [hm]
              rw [e1]; exact this, by
              have := v2.set (k := j) (x := v) (x' := v') hv
              rw [List.map_set, hmod]
              have e1 : List.map (·.val) (es'.toList.modify j (fun e => { e with key := a, val := v' })) = (List.map (·.val) es'.toList).set j v' := by
                apply List.ext_getElem?
                intro m
                rw [List.getElem?_map, List.getElem?_modify, List.getElem?_set, List.getElem?_map]
                by_cases hm : j = m
                · subst hm
                  cases he : es'.toList[j]? with
                  | none => rw [he] at r1; simp at r1
                  | some e => have := (List.getElem?_eq_some_iff.1 he).1; simp at this; simp [this]
                · simp [hm]
              rw [e1]; exact this, by simp [hclk], fun m e he => by
              rw [Array.getElem?_modify] at he
              split at he
              · simp only [Option.map_eq_some_iff] at he
                obtain ⟨e0, he0, rfl⟩ := he
                exact hborn m e0 he0
              · exact hborn m e he⟩
          refine ⟨_, ?_, q1, q2⟩
          simp only [Instr.mapUpdate, ex, hixe, Sem.run_bind, run_underlying ht, Result.andThen_ok, hget, run_check hk hc _ 9999, run_findNow hk p1, hkey, hst, hset]
        · cases h
    · cases h
  · cases h

theorem od_mapUpdate {t k e : TypeId} {m ix x : Operand} {H' : Heap} (ht : P.underlying t = some (.map k e)) (h : aput P k (ev A m) (ev A ix) (ev A x) H = some H') : OpDoes P ⟨d, .mapUpdate t m ix x, ty, pos, af, g⟩ A H undef H' :=
  .of_skip fun ρ w s hs he => by
    obtain ⟨w', h1, h2, h3⟩ := run_put hs ht (he m (by simp [Op.operands])) (he ix (by simp [Op.operands])) (he x (by simp [Op.operands])) h
    exact ⟨ρ, w', by simp only [execOp, Sem.run_bind, h1, Result.andThen_ok, Sem.run_pure], h2, h3⟩
theorem od_insert {t k e : TypeId} {m ix x : Operand} {H' : Heap} (ht : P.underlying t = some (.map k e)) (h : aput P k (ev A m) (ev A ix) (ev A x) H = some H') : OpDoes P ⟨d, .insert t m ix x, ty, pos, af, g⟩ A H undef H' :=
  .of_skip fun ρ w s hs he => by
    obtain ⟨w', h1, h2, h3⟩ := run_put hs ht (he m (by simp [Op.operands])) (he ix (by simp [Op.operands])) (he x (by simp [Op.operands])) h
    exact ⟨ρ, w', by simp only [execOp, Sem.run_bind, h1, Result.andThen_ok, Sem.run_pure], h2, h3⟩

/-! ### Strings, gone through -/
theorem od_range {t : TypeId} {x : Operand} {s : ByteArray} (ht : P.underlying t = some .string) (ex : ev A x = .string s) : OpDoes P ⟨d, .range t x, ty, pos, af, g⟩ A H (.pointer (some ⟨H.next, 0, none⟩)) (H.push (.iter s 0)) :=
  .of_run fun ρ w a hs he => by
    have e1 := evalP (he x (by simp [Op.operands])) ex rfl
    obtain ⟨h1, h2⟩ := hs.push (.stringIter s 0) (.iter s 0) ⟨⟨w.heap.size, 0, none⟩, 0, 0⟩ rfl ⟨by
      show (w.heap.push (Obj.stringIter s 0))[w.heap.size]? = _
      simp, rfl⟩
    refine ⟨.pointer (some ⟨w.heap.size, 0, none⟩), _, _, ?_, .ptr H.next 0 _ (ext_same _ _ _), h1, h2⟩
    simp only [execOp, Instr.range, e1, Sem.run_bind, run_underlying ht, Result.andThen_ok, run_newObj, Sem.run_pure, World.alloc]

/-- A string's next rune. -/
noncomputable def anext (H : Heap) (v : Value) : Option (Value × Heap) :=
  match v with
  | .pointer (some a) => bif Nat.beq a.off 0 then (match H.get a.block with
    | some (.iter s p) => if p < s.size then some (.tuple #[.bool true, .int .i64 p, .int .i32 (Utf8.decode s p).1], H.set a.block (.iter s (p + (Utf8.decode s p).2))) else some (.tuple #[.bool false], H)
    | _ => none) else none
  | _ => none

theorem V.closedT {ρ : Ren} {xs : Array Value} (h : xs.all plain = true) : V ρ (.tuple xs) (.tuple xs) := .closed h

theorem od_next {it : Operand} {v : Value} {H' : Heap} (h : anext H (ev A it) = some (v, H')) : OpDoes P ⟨d, .next it true, ty, pos, af, g⟩ A H v H' :=
  .of_run fun ρ w s hs he => by
    have hv := he it (by simp [Op.operands])
    unfold anext at h
    split at h
    · rename_i a ea
      rw [ea] at hv
      cases h0 : Nat.beq a.off 0 with
      | false => rw [h0] at h; cases h
      | true =>
        rw [h0] at h
        simp only [cond_true] at h
        have h0 : a.off = 0 := by simpa [nbeq] using h0
        obtain ⟨i, hi, _, ez⟩ := hv.ptr_inv
        rw [h0] at ez
        split at h
        · rename_i st p hg
          obtain ⟨hh, hoff⟩ := hs.live _ _ i hg hi
          have hadd : i.at_.add 0 = ⟨i.at_.block, 0, i.at_.spot⟩ := by
            unfold Addr.add; simp; obtain ⟨⟨b, o, sp⟩, _, _⟩ := i; simp at hoff ⊢; exact hoff
          rw [hadd] at ez
          have hget : (getObj i.at_.block).run P w = .ok (.stringIter st p) w := by simp [getObj, Sem.run, hh]
          split at h
          · rename_i hp
            cases h
            have hset : ∀ o, (setObj i.at_.block o).run P w = .ok () { w with heap := w.heap.setIfInBounds i.at_.block o } := fun o => by simp [setObj, Sem.run, hh]
            have hlt : i.at_.block < w.heap.size := (Array.getElem?_eq_some_iff.1 hh).1
            obtain ⟨q1, q2⟩ := hs.setBlk (b' := .iter st (p + (Utf8.decode st p).2)) hi hg rfl (w' := { w with heap := w.heap.setIfInBounds i.at_.block (.stringIter st (p + (Utf8.decode st p).2)) })
              ⟨fun k hk => by simp [Array.getElem?_setIfInBounds_ne (Ne.symm hk)], by simp, rfl, rfl, rfl⟩ ⟨by simp [hlt], hoff⟩
            refine ⟨.tuple #[.bool true, .int .i64 p, .int .i32 (Utf8.decode st p).1], ρ, _, ?_, .closedT (by simp [plain]), q1, q2⟩
            simp only [execOp, Instr.next, ez, Sem.run_bind, hget, Result.andThen_ok, hp, if_true, hset, Sem.run_pure, goInt]
          · rename_i hp
            cases h
            refine ⟨.tuple #[.bool false], ρ, w, ?_, .closedT (by simp [plain]), .refl _ _ _, hs⟩
            simp only [execOp, Instr.next, ez, Sem.run_bind, hget, Result.andThen_ok, hp, if_false, Sem.run_pure]
        · cases h
    · cases h

/-! ### Maps gone through, where the next entry is the only one -/
noncomputable def left_ (seen : List Nat) (m : Nat) : List Nat := (List.range m).filter fun j => !seen.contains j

/-- A map's next entry. -/
noncomputable def anextM (H : Heap) (v : Value) : Option (Value × Heap) :=
  match v with
  | .pointer (some a) => bif Nat.beq a.off 0 then (match H.get a.block with
    | some (.miter none _ _ _) => some (.tuple #[.bool false], H)
    | some (.miter (some m) since seen stp) => (match H.get m with
      | some (.map es) => bif seen.isEmpty || Nat.ble 1 stp then (match left_ seen es.length with
        | [] => some (.tuple #[.bool false], H)
        | [j] => (match es[j]? with
          | some (k, x) => bif Nat.blt j since then some (.tuple #[.bool true, k, x], H.set a.block (.miter (some m) since (seen ++ [j]) es.length)) else none
          | none => none)
        | _ => none) else none
      | _ => none)
    | _ => none) else none
  | _ => none

/-- The entry of the last step. -/
noncomputable def aentry (H : Heap) (v : Value) : Option Value :=
  match v with
  | .pointer (some a) => bif Nat.beq a.off 0 then (match H.get a.block with
    | some (.miter (some m) _ seen stp) => (match H.get m, seen.getLast? with
      | some (.map es), some j => bif Nat.beq es.length stp then (match es[j]? with
        | some (k, x) => some (.tuple #[k, x])
        | none => none) else none
      | _, _ => none)
    | _ => none) else none
  | _ => none

theorem V.tup2 {ρ : Ren} {a a' b b' : Value} (h : V ρ a a') (h' : V ρ b b') : V ρ (.tuple #[a, b]) (.tuple #[a', b']) :=
  .tuple _ _ rfl (fun j x x' h1 h2 => by
    rcases j with _ | _ | j
    · simp at h1 h2; subst h1; subst h2; exact h
    · simp at h1 h2; subst h1; subst h2; exact h'
    · simp at h1)
theorem V.tup3 {ρ : Ren} {a a' b b' c c' : Value} (h : V ρ a a') (h' : V ρ b b') (h'' : V ρ c c') : V ρ (.tuple #[a, b, c]) (.tuple #[a', b', c']) :=
  .tuple _ _ rfl (fun j x x' h1 h2 => by
    rcases j with _ | _ | _ | j
    · simp at h1 h2; subst h1; subst h2; exact h
    · simp at h1 h2; subst h1; subst h2; exact h'
    · simp at h1 h2; subst h1; subst h2; exact h''
    · simp at h1)

theorem od_rangeM {t k e : TypeId} {x : Operand} {m : Option Nat} (ht : P.underlying t = some (.map k e)) (ex : ev A x = .map m) {since : Nat} (hm : ∀ id, m = some id → ∃ es, H.get id = some (.map es) ∧ since = es.length) :
    OpDoes P ⟨d, .range t x, ty, pos, af, g⟩ A H (.pointer (some ⟨H.next, 0, none⟩)) (H.push (.miter m since [] since)) :=
  .of_run fun ρ w s hs he => by
    have hv := he x (by simp [Op.operands])
    rw [ex] at hv
    cases m with
    | none =>
      have e1 := hv.plain_eq rfl
      obtain ⟨h1, h2⟩ := hs.push (.mapIter none 0 #[] 0) (.miter none since [] since) ⟨⟨w.heap.size, 0, none⟩, 0, 0⟩ rfl ⟨by
        show (w.heap.push (Obj.mapIter none 0 #[] 0))[w.heap.size]? = _
        simp, rfl⟩
      refine ⟨.pointer (some ⟨w.heap.size, 0, none⟩), _, _, ?_, .ptr H.next 0 _ (ext_same _ _ _), h1, h2⟩
      simp only [execOp, Instr.range, e1, Sem.run_bind, run_underlying ht, Result.andThen_ok, run_newObj, Sem.run_pure, World.alloc]
    | some id =>
      obtain ⟨es, hg, hsn⟩ := hm id rfl
      obtain ⟨i, hi, e1⟩ := hv.map_inv
      obtain ⟨es', clock, hh, v1, v2, hclk, hborn⟩ := hs.live id _ i hg hi
      have hlen : es.length = es'.size := by have := v1.1; simpa using this
      have hget : (getObj i.at_.block).run P w = .ok (.map es' clock) w := by simp [getObj, Sem.run, hh]
      have hid : id ≠ H.next := by have := hs.dom id i hi; omega
      obtain ⟨h1, h2⟩ := hs.push (.mapIter (some i.at_.block) clock #[] clock) (.miter (some id) since [] since) ⟨⟨w.heap.size, 0, none⟩, 0, 0⟩ rfl ⟨⟨i, by
        rw [ext_ne _ _ hid]; exact hi, by
        show (w.heap.push (Obj.mapIter (some i.at_.block) clock #[] clock))[w.heap.size]? = _
        simp [hsn, hlen, hclk]⟩, rfl⟩
      refine ⟨.pointer (some ⟨w.heap.size, 0, none⟩), _, _, ?_, .ptr H.next 0 _ (ext_same _ _ _), h1, h2⟩
      simp only [execOp, Instr.range, e1, Sem.run_bind, run_underlying ht, Result.andThen_ok, hget, run_newObj, Sem.run_pure, World.alloc]

theorem left_borns {es : List MapEntry} (hb : ∀ (j : Nat) e, es[j]? = some e → e.born = j) (seen : List Nat) : (es.filter fun e => !seen.contains e.born).map (·.born) = left_ seen es.length := by
  have h1 : es.map (·.born) = List.range es.length := by
    apply List.ext_getElem?
    intro j
    rw [List.getElem?_map]
    cases he : es[j]? with
    | none => rw [List.getElem?_eq_none_iff] at he; rw [List.getElem?_eq_none (by simpa using he)]; rfl
    | some e =>
      have hj := (List.getElem?_eq_some_iff.1 he).1
      rw [List.getElem?_eq_getElem (by simpa using hj)]
      simp [hb j e he]
  unfold left_
  rw [← h1, List.filter_map]
  rfl

theorem od_nextM {it : Operand} {v : Value} {H' : Heap} (h : anextM H (ev A it) = some (v, H')) : OpDoes P ⟨d, .next it false, ty, pos, af, g⟩ A H v H' :=
  .of_run fun ρ w s hs he => by
    have hv := he it (by simp [Op.operands])
    unfold anextM at h
    split at h
    · rename_i a ea
      rw [ea] at hv
      cases h0 : Nat.beq a.off 0 with
      | false => rw [h0] at h; cases h
      | true =>
        rw [h0] at h
        simp only [cond_true] at h
        have h0 : a.off = 0 := by simpa [nbeq] using h0
        obtain ⟨i, hi, _, ez⟩ := hv.ptr_inv
        rw [h0] at ez
        split at h
        · rename_i s1 s2 s3 hg
          cases h
          obtain ⟨hh, hoff⟩ := hs.live _ _ i hg hi
          have hadd : i.at_.add 0 = ⟨i.at_.block, 0, i.at_.spot⟩ := by
            unfold Addr.add; simp; obtain ⟨⟨b, o, sp⟩, _, _⟩ := i; simp at hoff ⊢; exact hoff
          rw [hadd] at ez
          have hget : (getObj i.at_.block).run P w = .ok (.mapIter none 0 #[] 0) w := by simp [getObj, Sem.run, hh]
          refine ⟨.tuple #[.bool false], ρ, w, ?_, .closedT (by simp [plain]), .refl _ _ _, hs⟩
          simp only [execOp, Instr.next, ez, Sem.run_bind, hget, Result.andThen_ok, Sem.run_pure]
        · rename_i m since seen stp hg
          obtain ⟨⟨im, him, hh⟩, hoff⟩ := hs.live _ _ i hg hi
          have hadd : i.at_.add 0 = ⟨i.at_.block, 0, i.at_.spot⟩ := by
            unfold Addr.add; simp; obtain ⟨⟨b, o, sp⟩, _, _⟩ := i; simp at hoff ⊢; exact hoff
          rw [hadd] at ez
          have hget : (getObj i.at_.block).run P w = .ok (.mapIter (some im.at_.block) since seen.toArray stp) w := by simp [getObj, Sem.run, hh]
          split at h
          · rename_i es hgm
            obtain ⟨es', clock, hhm, v1, v2, hclk, hborn⟩ := hs.live _ _ im hgm him
            have hlen : es.length = es'.size := by have := v1.1; simpa using this
            have hgetm : (getObj im.at_.block).run P w = .ok (.map es' clock) w := by simp [getObj, Sem.run, hhm]
            cases hst : (seen.isEmpty || Nat.ble 1 stp) with
            | false => rw [hst] at h; cases h
            | true =>
              rw [hst] at h
              simp only [cond_true] at h
              have hun : (!seen.toArray.isEmpty && !es'.isEmpty && es'.all fun x => decide (x.born ≥ stp)) = false := by
                cases hse : seen.isEmpty with
                | true => simp [hse]
                | false =>
                  rw [hse] at hst
                  have hst : 1 ≤ stp := by simpa using hst
                  cases hem : es'.isEmpty with
                  | true => simp
                  | false =>
                    have hsz : 0 < es'.size := by
                      rcases Nat.eq_zero_or_pos es'.size with h | h
                      · simp [Array.isEmpty, h] at hem
                      · exact h
                    have : es'.all (fun x => decide (x.born ≥ stp)) = false := by
                      rw [Bool.eq_false_iff]
                      intro hall
                      rw [Array.all_eq_true] at hall
                      have h1 := hall 0 hsz
                      have h2 := hborn 0 _ (Array.getElem?_eq_getElem hsz)
                      rw [h2] at h1
                      simp at h1; omega
                    simp [this]
              have hfil := left_borns (es := es'.toList) (fun j e hj => hborn j e (by simpa using hj)) seen
              have hff : es'.filter (fun e => !seen.toArray.contains e.born) = (es'.toList.filter fun e => !seen.contains e.born).toArray := by
                apply Array.toList_inj.1; simp
              have hl2 : es'.toList.length = es.length := by simpa using hlen.symm
              rw [hl2] at hfil
              split at h
              · rename_i hleft
                cases h
                rw [hleft] at hfil
                have hnil := List.map_eq_nil_iff.1 hfil
                refine ⟨.tuple #[.bool false], ρ, w, ?_, .closedT (by simp [plain]), .refl _ _ _, hs⟩
                simp only [execOp, Instr.next, ez, Sem.run_bind, hget, hgetm, Result.andThen_ok, hun, Bool.false_eq_true, if_false, hff, hnil, Sem.run_pure]
                simp [choose, Sem.run, Question.forced]
              · rename_i j hleft
                rw [hleft] at hfil
                obtain ⟨e, hfe, hej⟩ := List.map_eq_singleton_iff.1 hfil
                have hme : e ∈ es'.toList := by
                  have : e ∈ es'.toList.filter (fun e => !seen.contains e.born) := by rw [hfe]; simp
                  exact (List.mem_filter.1 this).1
                obtain ⟨j', hj', hje⟩ := List.getElem_of_mem hme
                have hj2 : es'[j']? = some e := by rw [← Array.getElem?_toList, List.getElem?_eq_getElem hj', hje]
                have hjj : j' = j := by rw [← hborn j' e hj2, hej]
                subst hjj
                split at h
                · rename_i k x hkx
                  cases hsi : Nat.blt j' since with
                  | false => rw [hsi] at h; cases h
                  | true =>
                    rw [hsi] at h
                    simp only [cond_true, Option.some.injEq, Prod.mk.injEq] at h
                    obtain ⟨rfl, rfl⟩ := h
                    have hsi : j' < since := by simpa using hsi
                    obtain ⟨k', r1, r2⟩ := v1.get (j := j') (x := k) (by rw [List.getElem?_map, hkx]; rfl)
                    obtain ⟨x', r3, r4⟩ := v2.get (j := j') (x := x) (by rw [List.getElem?_map, hkx]; rfl)
                    rw [List.getElem?_map, Array.getElem?_toList, hj2] at r1 r3
                    cases r1; cases r3
                    have hset : ∀ o, (setObj i.at_.block o).run P w = .ok () { w with heap := w.heap.setIfInBounds i.at_.block o } := fun o => by simp [setObj, Sem.run, hh]
                    have hlt : i.at_.block < w.heap.size := (Array.getElem?_eq_some_iff.1 hh).1
                    obtain ⟨q1, q2⟩ := hs.setBlk (b' := .miter (some m) since (seen ++ [j']) es.length) hi hg rfl (w' := { w with heap := w.heap.setIfInBounds i.at_.block (.mapIter (some im.at_.block) since (seen.toArray.push e.born) clock) })
                      ⟨fun k hk => by simp [Array.getElem?_setIfInBounds_ne (Ne.symm hk)], by simp, rfl, rfl, rfl⟩ ⟨⟨im, him, by simp [hlt, hej, hclk, hlen]⟩, hoff⟩
                    refine ⟨.tuple #[.bool true, e.key, e.val], ρ, _, ?_, .tup3 (.same _ rfl) r2 r4, q1, q2⟩
                    simp only [execOp, Instr.next, ez, Sem.run_bind, hget, hgetm, Result.andThen_ok, hun, Bool.false_eq_true, if_false, hff, hfe, Sem.run_pure]
                    have hos : decide (e.born < since) = true := by simp [hej, hsi]
                    have hns : decide (e.born ≥ since) = false := by simp [hej]; omega
                    simp only [List.filter_toArray', List.filter, hos, hns, List.size_toArray, List.isEmpty_toArray]
                    simp [choose, Sem.run, Question.forced, hset]
                · cases h
              · cases h
          · cases h
        · cases h
    · cases h

theorem od_entry {it : Operand} {v : Value} (h : aentry H (ev A it) = some v) : OpDoes P ⟨d, .entry it, ty, pos, af, g⟩ A H v H :=
  .pure_ fun ρ w s hs he => by
    have hv := he it (by simp [Op.operands])
    unfold aentry at h
    split at h
    · rename_i a ea
      rw [ea] at hv
      cases h0 : Nat.beq a.off 0 with
      | false => rw [h0] at h; cases h
      | true =>
        rw [h0] at h
        simp only [cond_true] at h
        have h0 : a.off = 0 := by simpa [nbeq] using h0
        obtain ⟨i, hi, _, ez⟩ := hv.ptr_inv
        rw [h0] at ez
        split at h
        · rename_i m since seen stp hg
          obtain ⟨⟨im, him, hh⟩, hoff⟩ := hs.live _ _ i hg hi
          have hadd : i.at_.add 0 = ⟨i.at_.block, 0, i.at_.spot⟩ := by
            unfold Addr.add; simp; obtain ⟨⟨b, o, sp⟩, _, _⟩ := i; simp at hoff ⊢; exact hoff
          rw [hadd] at ez
          have hget : (getObj i.at_.block).run P w = .ok (.mapIter (some im.at_.block) since seen.toArray stp) w := by simp [getObj, Sem.run, hh]
          split at h
          · rename_i es j hgm hlast
            obtain ⟨es', clock, hhm, v1, v2, hclk, hborn⟩ := hs.live _ _ im hgm him
            have hlen : es.length = es'.size := by have := v1.1; simpa using this
            have hgetm : (getObj im.at_.block).run P w = .ok (.map es' clock) w := by simp [getObj, Sem.run, hhm]
            cases hst : Nat.beq es.length stp with
            | false => rw [hst] at h; cases h
            | true =>
              rw [hst] at h
              simp only [cond_true] at h
              have hst : es.length = stp := by simpa [nbeq] using hst
              split at h
              · rename_i k x hkx
                cases h
                obtain ⟨k', r1, r2⟩ := v1.get (j := j) (x := k) (by rw [List.getElem?_map, hkx]; rfl)
                obtain ⟨x', r3, r4⟩ := v2.get (j := j) (x := x) (by rw [List.getElem?_map, hkx]; rfl)
                rw [List.getElem?_map, Array.getElem?_toList] at r1 r3
                obtain ⟨e, he2, rfl⟩ := Option.map_eq_some_iff.1 r1
                rw [he2] at r3; cases r3
                have hfind : es'.find? (fun x => x.born == j) = some e := by
                  rw [Array.find?_eq_some_iff_getElem]
                  have hj := (Array.getElem?_eq_some_iff.1 he2)
                  obtain ⟨hj1, hj2⟩ := hj
                  refine ⟨by simp [hborn j e he2], j, hj1, hj2, fun q hq => ?_⟩
                  have := hborn q _ (Array.getElem?_eq_getElem (by omega))
                  simp [this]; omega
                refine ⟨.tuple #[e.key, e.val], ?_, .tup2 r2 r4⟩
                simp only [execOp, Instr.entry, ez, Sem.run_bind, hget, hgetm, Result.andThen_ok, List.back?_toArray, hlast]
                simp [hclk, ← hlen, hst, hfind, Sem.run_pure]
              · cases h
          · cases h
        · cases h
    · cases h


/-! ### Copies -/
noncomputable def acopy (size : Nat) (x y : Value) (H : Heap) : Option (Value × Heap) :=
  match asrc size y H with
  | none => none
  | some (m, news) =>
    match x with
    | .slice none 0 _ => some (.int .i64 0, H)
    | .slice (some a) len _ =>
      if Nat.min m len = 0 then some (.int .i64 0, H) else
      match H.get a.block with
      | some (.cells c e false) =>
        if a.off + Nat.min m len * size ≤ c.length ∧ (news.take (Nat.min m len * size)).all (·.oneCell') = true then some (.int .i64 (Nat.min m len : Nat), H.set a.block (.cells (splice c a.off (news.take (Nat.min m len * size))) e false)) else none
      | _ => none
    | _ => none

theorem od_copy {t t2 e : TypeId} {x y : Operand} {inf : TypeInfo} {v : Value} {H' : Heap} (ht : P.underlying t = some (.slice e)) (hi : P.info? e = some inf) (h : acopy inf.size (ev A x) (ev A y) H = some (v, H')) :
    OpDoes P ⟨d, .call ⟨.builtin .copy, #[x, y], #[t, t2]⟩, ty, pos, af, g⟩ A H v H' :=
  .of_run fun ρ w s hs he => by
    have hvx := he x (by simp [Op.operands, Call.operands])
    have hvy := he y (by simp [Op.operands, Call.operands])
    suffices hmain : ∃ v' ρ' w', (Builtin.copy_ #[t, t2] ty #[s.eval x, s.eval y]).run P w = .ok v' w' ∧ V ρ' v v' ∧ St ρ H w ρ' H' w' ∧ Sim P ρ' H' w' by
      obtain ⟨v', ρ', w', h1, h2, h3, h4⟩ := hmain
      refine ⟨v', ρ', w', ?_, h2, h3, h4⟩
      rw [exec_builtin]
      simp only [builtin, List.map_toArray, List.map_cons, List.map_nil, Sem.run_bind, h1, Result.andThen_ok, Sem.run_pure]
    generalize ev A x = u at hvx h
    generalize ev A y = u2 at hvy h
    generalize s.eval x = x' at hvx
    generalize s.eval y = y' at hvy
    unfold acopy at h
    split at h
    · cases h
    · rename_i m news hsrc
      obtain ⟨hlen, hcl, hcs⟩ := src_rel hs hvy hsrc
      have hdef : ∀ (b : Option Addr) (dl dc : Nat), Builtin.copy_ #[t, t2] ty #[.slice b dl dc, y'] = (do
          let .slice elem ← underlying t | stuck "copy: slice type expected"
          let n := Nat.min (← Builtin.lenOf y') dl
          let cells ← Builtin.firstCells (← sizeOf elem) n y'
          if let some a := b then storeCells a cells.toList
          pure (goInt n)) := fun b dl dc => rfl
      split at h
      · rename_i cap
        cases h
        rw [hvx.plain_eq rfl]
        obtain ⟨c', _, hfc⟩ := hcs 0 (by omega)
        refine ⟨.int .i64 0, ρ, w, ?_, .same _ rfl, .refl _ _ _, hs⟩
        rw [hdef]
        have h0 : Nat.min m 0 = 0 := Nat.min_zero m
        simp only [Sem.run_bind, run_underlying ht, Result.andThen_ok, hlen, run_sizeOf hi, h0, hfc w (fun _ => rfl), Sem.run_pure, goInt]
        rfl
      · rename_i a len cap
        obtain ⟨i, a', cap', g1, g2, g3, g4, g5, g0, g6, g7⟩ := hvx.slice_inv
        rw [g3]
        split at h
        · rename_i h0
          cases h
          obtain ⟨c', hv0, hfc⟩ := hcs 0 (by omega)
          have hc0 : c' = [] := by simp at hv0; exact hv0.unnil
          subst hc0
          refine ⟨.int .i64 0, ρ, w, ?_, .same _ rfl, .refl _ _ _, hs⟩
          rw [hdef]
          simp only [Sem.run_bind, run_underlying ht, Result.andThen_ok, hlen, run_sizeOf hi, h0, hfc w (fun _ => rfl), Sem.run_pure, goInt]
          rfl
        · rename_i h0
          split at h
          · rename_i c e' hg
            split at h
            · rename_i hc
              cases h
              obtain ⟨c', hv0, hfc⟩ := hcs (Nat.min m len) (Nat.min_le_left _ _)
              have hln : len ≠ 0 := fun e => h0 (by rw [e]; exact Nat.min_zero m)
              have ha : a' = i.at_.add a.off := by rcases g4 with h | ⟨h, _⟩; exact h; exact absurd h hln
              have htl : (news.take (Nat.min m len * inf.size)).length = Nat.min m len * inf.size := by
                rw [List.length_take, hcl]
                exact Nat.min_eq_left (Nat.mul_le_mul_right _ (Nat.min_le_left _ _))
              obtain ⟨w', hr, hone, hb⟩ := (hs.live _ _ i hg g1).storeList (off := a.off) hv0 (by rw [htl]; exact hc.1) (fun u hu => List.all_eq_true.1 hc.2 u hu)
              obtain ⟨q1, q2⟩ := hs.setBlk g1 hg rfl hone hb
              refine ⟨.int .i64 (Nat.min m len : Nat), ρ, w', ?_, .same _ rfl, q1, q2⟩
              rw [hdef]
              rw [← ha] at hr
              simp only [Sem.run_bind, run_underlying ht, Result.andThen_ok, hlen, run_sizeOf hi, hfc w (fun _ => rfl), hr, Sem.run_pure, goInt]
            · cases h
          · cases h
      · cases h
end
end Go.Ab
/- Equality, assertions of types. -/
set_option linter.unusedVariables false
namespace Go.Ab

/-- Whether fields are equal, one by one, by a given equality. -/
noncomputable def aeqFields (P : Program) (eq : TypeId → Value → Value → Option Bool) : List Field → Array Value → Array Value → Option Bool
  | [], _, _ => some true
  | fd :: fs, xs, ys =>
    if fd.name = "_" then aeqFields P eq fs xs ys else
    match apart P fd.type xs fd.offset, apart P fd.type ys fd.offset with
    | some a, some b => match eq fd.type a b with
      | some true => aeqFields P eq fs xs ys
      | r => r
    | _, _ => none

/-- Whether two values of a type are equal. -/
noncomputable def aeq (P : Program) : Nat → TypeId → Value → Value → Option Bool
  | 0, _, _, _ => none
  | f + 1, t, x, y =>
    match P.underlying t with
    | some .bool => match x, y with | .bool a, .bool b => some (a == b) | _, _ => none
    | some (.int _) => match x, y with | .int k a, .int k' b => if k = k' then some (a == b) else none | _, _ => none
    | some .string => match x, y with | .string a, .string b => some (bl a == bl b) | _, _ => none
    | some (.pointer q) => match x, y with
      | .pointer none, .pointer b => some b.isNone
      | .pointer (some _), .pointer none => some false
      | .pointer (some a), .pointer (some b) => (match P.info? q with | some j => if j.size ≠ 0 ∧ a.block = b.block ∧ a.off = b.off then some true else none | none => none)
      | _, _ => none
    | some (.slice _) => match x, y with | .slice none _ _, .slice b _ _ => some b.isNone | .slice (some _) _ _, .slice none _ _ => some false | _, _ => none
    | some (.map _ _) => match x, y with | .map none, .map b => some b.isNone | .map (some _), .map none => some false | _, _ => none
    | some (.func _ _ _) => match x, y with | .nilFunc, .nilFunc => some true | .nilFunc, .func _ _ _ => some false | .func _ _ _, .nilFunc => some false | _, _ => none
    | some (.interface _) => match x, y with
      | .nilIface, .nilIface => some true
      | .nilIface, .iface _ _ => some false
      | .iface _ _, .nilIface => some false
      | .iface tx vx, .iface ty vy => if tx = ty then (match P.info? tx with | some inf => if inf.comparable then aeq P f tx vx vy else none | none => none) else some false
      | _, _ => none
    | some (.struct fs) => match x, y with | .agg xs, .agg ys => if P.stoodInHeld t then none else aeqFields P (aeq P f) fs.toList xs ys | _, _ => none
    | _ => none

section
variable {P : Program} {n : Nat} {A : Env} {H : Heap} {d : Option Nat} {ty : TypeId} {pos : String} {af : Array Edge} {g : Option (Nat × Bool)}

theorem V.nilness {ρ : Ren} {x x' : Value} (h : V ρ x x') : (∀ a l c, x = .slice a l c → ∃ a' l' c', x' = .slice a' l' c' ∧ a'.isNone = a.isNone) ∧ (∀ a, x = .pointer a → ∃ a', x' = .pointer a' ∧ a'.isNone = a.isNone) ∧ (∀ a, x = .map a → ∃ a', x' = .map a' ∧ a'.isNone = a.isNone) ∧
    (∀ f a b, x = .func f a b → ∃ f' a' b', x' = .func f' a' b') := by
  cases h with
  | same v hp => exact ⟨fun a l c e => ⟨a, l, c, e, rfl⟩, fun a e => ⟨a, e, rfl⟩, fun a e => ⟨a, e, rfl⟩, fun f a b e => ⟨f, a, b, e⟩⟩
  | _ => simp

theorem aeqFields_sound (w : World) {eq : TypeId → Value → Value → Option Bool} {dd : Nat} {ρ : Ren} (heq : ∀ t x y x' y' b, V ρ x x' → V ρ y y' → eq t x y = some b → (Op.equalIn dd t x' y').run P w = .ok b w) :
    ∀ (fs : List Field) (xs ys xs' ys' : Array Value) (b : Bool), VL ρ xs.toList xs'.toList → VL ρ ys.toList ys'.toList → aeqFields P eq fs xs ys = some b → (Op.eqFields dd xs' ys' fs).run P w = .ok b w
  | [], xs, ys, xs', ys', b, hx, hy, h => by simp [aeqFields] at h; subst h; rfl
  | fd :: fs, xs, ys, xs', ys', b, hx, hy, h => by
    unfold aeqFields at h
    unfold Op.eqFields
    split at h
    · rename_i hn
      rw [if_neg (by simpa using hn)]
      exact aeqFields_sound w heq fs xs ys xs' ys' b hx hy h
    · rename_i hn
      rw [if_pos (by simpa using hn)]
      split at h
      · rename_i a b' ha hb
        obtain ⟨a1, p1, p2⟩ := run_part hx ha w
        obtain ⟨b1, q1, q2⟩ := run_part hy hb w
        simp only [Sem.run_bind, p1, Result.andThen_ok, q1]
        split at h
        · rename_i hr
          rw [heq fd.type a b' a1 b1 true p2 q2 hr]
          simp only [Result.andThen_ok, Bool.not_true, Bool.false_eq_true, if_false]
          exact aeqFields_sound w heq fs xs ys xs' ys' b hx hy h
        · rename_i r hr
          have hb' : b = false := by
            cases b with
            | false => rfl
            | true => exact absurd h hr
          subst hb'
          rw [heq fd.type a b' a1 b1 false p2 q2 h]
          simp
      · cases h

set_option maxHeartbeats 1000000 in
theorem aeq_sound (w : World) : ∀ (f : Nat) (t : TypeId) (ρ : Ren) (x y x' y' : Value) (b : Bool), V ρ x x' → V ρ y y' → aeq P f t x y = some b → ∀ dd, f ≤ dd → (Op.equalIn dd t x' y').run P w = .ok b w
  | 0, t, ρ, x, y, x', y', b, hx, hy, h, dd, hd => by simp [aeq] at h
  | f + 1, t, ρ, x, y, x', y', b, hx, hy, h, dd, hd => by
    obtain ⟨dd, rfl⟩ : ∃ k, dd = k + 1 := ⟨dd - 1, by omega⟩
    unfold aeq at h
    split at h
    · rename_i ht
      split at h
      · cases h; rw [hx.plain_eq rfl, hy.plain_eq rfl]; simp [Op.equalIn, run_underlying ht]
      · cases h
    · rename_i k ht
      split at h
      · split at h
        · rename_i e; subst e; cases h; rw [hx.plain_eq rfl, hy.plain_eq rfl]; simp [Op.equalIn, run_underlying ht]
        · cases h
      · cases h
    · rename_i ht
      split at h
      · cases h; rw [hx.plain_eq rfl, hy.plain_eq rfl]; simp [Op.equalIn, run_underlying ht, beq_toListBytes, ByteArray.toList_eq, bl]
      · cases h
    · rename_i q ht
      split at h
      · cases h
        rw [hx.plain_eq rfl]
        obtain ⟨a', e, e'⟩ := hy.nilness.2.1 _ rfl
        rw [e, ← e']; simp [Op.equalIn, run_underlying ht]
      · cases h
        rw [hy.plain_eq rfl]
        obtain ⟨a', e, e'⟩ := hx.nilness.2.1 _ rfl
        cases a' with
        | none => simp at e'
        | some a' => rw [e]; simp [Op.equalIn, run_underlying ht]
      · rename_i a1 b1
        split at h
        · rename_i j hj
          split at h
          · rename_i hc
            obtain ⟨c1, c2, c3⟩ := hc
            cases h
            obtain ⟨i1, p1, p2, p3⟩ := hx.ptr_inv
            obtain ⟨i2, q1, q2, q3⟩ := hy.ptr_inv
            rw [c2, q1] at p1
            cases p1
            rw [p3, q3, c3]
            simp [Op.equalIn, run_underlying ht, sizeOf, typeInfo, hj, run_sameAddr_same]
          · cases h
        · cases h
      · cases h
    · rename_i q ht
      split at h
      · cases h
        rw [hx.plain_eq rfl]
        obtain ⟨a', l', c', e, e'⟩ := hy.nilness.1 _ _ _ rfl
        rw [e, ← e']; simp [Op.equalIn, run_underlying ht]
      · cases h
        rw [hy.plain_eq rfl]
        obtain ⟨a', l', c', e, e'⟩ := hx.nilness.1 _ _ _ rfl
        cases a' with
        | none => simp at e'
        | some a' => rw [e]; simp [Op.equalIn, run_underlying ht]
      · cases h
    · rename_i q q' ht
      split at h
      · cases h
        rw [hx.plain_eq rfl]
        obtain ⟨a', e, e'⟩ := hy.nilness.2.2.1 _ rfl
        rw [e, ← e']; simp [Op.equalIn, run_underlying ht]
      · cases h
        rw [hy.plain_eq rfl]
        obtain ⟨a', e, e'⟩ := hx.nilness.2.2.1 _ rfl
        cases a' with
        | none => simp at e'
        | some a' => rw [e]; simp [Op.equalIn, run_underlying ht]
      · cases h
    · rename_i q1 q2 q3 ht
      split at h
      · cases h; rw [hx.plain_eq rfl, hy.plain_eq rfl]; simp [Op.equalIn, run_underlying ht]
      · cases h
        obtain ⟨f', a', b', e⟩ := hy.nilness.2.2.2 _ _ _ rfl
        rw [hx.plain_eq rfl, e]; simp [Op.equalIn, run_underlying ht]
      · cases h
        obtain ⟨f', a', b', e⟩ := hx.nilness.2.2.2 _ _ _ rfl
        rw [hy.plain_eq rfl, e]; simp [Op.equalIn, run_underlying ht]
      · cases h
    · rename_i ms ht
      split at h
      · cases h; rw [hx.plain_eq rfl, hy.plain_eq rfl]; simp [Op.equalIn, run_underlying ht]
      · cases h
        obtain ⟨v', e, _⟩ := hy.iface_inv
        rw [hx.plain_eq rfl, e]; simp [Op.equalIn, run_underlying ht]
      · cases h
        obtain ⟨v', e, _⟩ := hx.iface_inv
        rw [hy.plain_eq rfl, e]; simp [Op.equalIn, run_underlying ht]
      · rename_i tx vx ty' vy
        obtain ⟨v1, e1, h1⟩ := hx.iface_inv
        obtain ⟨v2, e2, h2⟩ := hy.iface_inv
        rw [e1, e2]
        split at h
        · rename_i et
          subst et
          split at h
          · rename_i inf hinf
            split at h
            · rename_i hcomp
              have ih := aeq_sound w f tx ρ vx vy v1 v2 b h1 h2 h dd (by omega)
              simp only [Op.equalIn, Sem.run_bind, run_underlying ht, Result.andThen_ok, ne_eq, not_true_eq_false, if_false, typeInfo, run_program, hinf, Sem.run_pure, hcomp, Bool.not_true, Bool.false_eq_true, ih]
            · cases h
          · cases h
        · rename_i et
          cases h
          simp [Op.equalIn, run_underlying ht, et]
      · cases h
    · rename_i fs ht
      split at h
      · rename_i xs ys
        split at h
        · cases h
        · rename_i hst
          obtain ⟨xs', e1, h1⟩ := hx.agg_inv
          obtain ⟨ys', e2, h2⟩ := hy.agg_inv
          rw [e1, e2]
          have hfs : P.fieldsOf t = fs := by simp [Program.fieldsOf, ht]
          rw [run_equalIn_struct w dd t xs' ys' (by rw [hfs]; exact ht) (by simpa using hst), hfs]
          exact aeqFields_sound w (fun t x y x' y' b a1 a2 a3 => aeq_sound w f t ρ x y x' y' b a1 a2 a3 dd (by omega)) fs.toList xs ys xs' ys' b h1 h2 h
      · cases h
    · cases h
noncomputable def notNum : Value → Bool
  | .int _ _ | .string _ | .float _ _ | .complex _ _ _ => false
  | _ => true

noncomputable def isNI : Value → Bool
  | .nilIface => true
  | _ => false
noncomputable def isAg : Value → Bool
  | .agg _ => true
  | _ => false

/-- A constant operand. -/
def isCO : Operand → Bool
  | .const _ => true
  | _ => false

/-- Whether the model's guard of an equality lets it by. -/
noncomputable def guardOk (P : Program) (k : Bool) (t : TypeId) (x y : Value) : Bool := (k || !(isNI x && isNI y)) && !(isAg x && isAg y && P.eqGuardType P.depth t)

/-- Equality of values that are no numbers and no strings. -/
noncomputable def eqBin (P : Program) (k : Bool) (op : BinOp) (t : TypeId) (x y : Value) : Option Value :=
  if notNum x && notNum y && guardOk P k t x y then
    match op with
    | .eql => (aeq P 20 t x y).map .bool
    | .neq => (aeq P 20 t x y).map fun b => .bool !b
    | _ => none
  else none

theorem V.notNum_eq {ρ : Ren} {x x' : Value} (h : V ρ x x') : notNum x' = notNum x := by cases h <;> rfl
theorem V.isNI_eq {ρ : Ren} {x x' : Value} (h : V ρ x x') : isNI x' = isNI x := by cases h <;> rfl
theorem V.isAg_eq {ρ : Ren} {x x' : Value} (h : V ρ x x') : isAg x' = isAg x := by cases h <;> rfl
theorem V.guard_eq {ρ : Ren} {x x' y y' : Value} (k : Bool) (t : TypeId) (h : V ρ x x') (h' : V ρ y y') : guardOk P k t x' y' = guardOk P k t x y := by
  simp only [guardOk, h.isNI_eq, h'.isNI_eq, h.isAg_eq, h'.isAg_eq]

theorem binOp_eql (t : TypeId) (x y : Value) (h : notNum x = true) : binOp .eql t x y = (do pure (.bool (← Op.equal t x y))) := by
  cases x <;> simp [notNum] at h <;> (cases y <;> rfl)
theorem binOp_neq (t : TypeId) (x y : Value) (h : notNum x = true) : binOp .neq t x y = (do pure (.bool (!(← Op.equal t x y)))) := by
  cases x <;> simp [notNum] at h <;> (cases y <;> rfl)
theorem run_guard (op : BinOp) (t : TypeId) (x y : Operand) (a b : Value) (w : World) (h : guardOk P (isCO x || isCO y) t a b = true) : (eqGuard op t x y a b).run P w = .ok () w := by
  by_cases hni : isNI a = true ∧ isNI b = true
  · obtain ⟨h1, h2⟩ := hni
    cases a <;> simp [isNI] at h1
    cases b <;> simp [isNI] at h2
    have hc : (isCO x || isCO y) = true := by
      cases hk : (isCO x || isCO y) with
      | true => rfl
      | false => rw [hk] at h; simp [guardOk, isNI] at h
    cases op <;> first
      | rfl
      | (cases x <;> cases y <;> first | rfl | (simp [isCO] at hc))
  · cases a <;> cases b <;> simp [guardOk, isNI, isAg] at h hni <;> first
      | (cases op <;> rfl)
      | (cases op <;> simp [eqGuard, run_program, h])

theorem od_eq {op : BinOp} {t t' : TypeId} {x y : Operand} {v : Value} (h : eqBin P (isCO x || isCO y) op t (ev A x) (ev A y) = some v) : OpDoes P ⟨d, .binOp op t x y t', ty, pos, af, g⟩ A H v H :=
  .pure_ fun ρ w s hs he => by
    have h1 := he x (by simp [Op.operands])
    have h2 := he y (by simp [Op.operands])
    generalize ev A x = u at h1 h
    generalize ev A y = u2 at h2 h
    have hkey : ∀ b, aeq P 20 t u u2 = some b → (Op.equal t (s.eval x) (s.eval y)).run P w = .ok b w := fun b hb => aeq_sound w 20 t ρ u u2 _ _ b h1 h2 hb 10000 (by omega)
    unfold eqBin at h
    split at h
    · rename_i hc
      simp only [Bool.and_eq_true] at hc
      obtain ⟨⟨c1, c2⟩, c3⟩ := hc
      rw [← h1.notNum_eq] at c1
      rw [← V.guard_eq _ t h1 h2] at c3
      have hgd := run_guard (P := P) op t x y _ _ w c3
      split at h
      · simp only [Option.map_eq_some_iff] at h
        obtain ⟨b, hb, rfl⟩ := h
        refine ⟨.bool b, ?_, .same _ rfl⟩
        simp only [execOp, Sem.run_bind, hgd, Result.andThen_ok, binOp_eql _ _ _ c1, hkey b hb, Sem.run_pure]
      · simp only [Option.map_eq_some_iff] at h
        obtain ⟨b, hb, rfl⟩ := h
        refine ⟨.bool !b, ?_, .same _ rfl⟩
        simp only [execOp, Sem.run_bind, hgd, Result.andThen_ok, binOp_neq _ _ _ c1, hkey b hb, Sem.run_pure]
      · cases h
    · cases h

/-! ### Assertions of types -/

/-- What an assertion to a type gives, where it does not fail outright. -/
noncomputable def aassert (P : Program) (x : Value) (t : TypeId) (ok : Bool) : Option Value :=
  match P.underlying t, P.info? t with
  | some td, some inf =>
    match inf.zero with
    | some z =>
      if closedV z then
        let no : Option Value := if ok then some (.tuple #[z, .bool false]) else none
        let yes (v : Value) : Option Value := some (if ok then .tuple #[v, .bool true] else v)
        match td, x with
        | .interface _, .nilIface => no
        | .interface want, .iface u v =>
          match P.info? u with
          | some iu => match Instr.missingMethod want iu.methods with
            | none => yes (.iface u v)
            | some _ => no
          | none => none
        | _, .nilIface => no
        | _, .iface u v => if u = t then yes v else no
        | _, _ => none
      else none
    | none => none
  | _, _ => none

theorem od_assert {x : Operand} {xt t : TypeId} {ok : Bool} {v : Value} (h : aassert P (ev A x) t ok = some v) : OpDoes P ⟨d, .typeAssert x xt t ok, ty, pos, af, g⟩ A H v H :=
  .pure_ fun ρ w s hs he => by
    have hv := he x (by simp [Op.operands])
    suffices hm : ∃ v', (Instr.typeAssert (s.eval x) xt t ok).run P w = .ok v' w ∧ V ρ v v' by
      obtain ⟨v', h1, h2⟩ := hm
      exact ⟨v', by simp only [execOp, Sem.run_bind, h1, Result.andThen_ok, Sem.run_pure], h2⟩
    generalize ev A x = u at hv h
    generalize s.eval x = u' at hv
    have pair : ∀ {a a' : Value} (b : Bool), V ρ a a' → V ρ (.tuple #[a, .bool b]) (.tuple #[a', .bool b]) := fun b ha => by
      have hl : VL ρ [_, .bool b] [_, .bool b] := .cons ha (.cons (.same (.bool b) rfl) (.nil ρ))
      exact .tuple _ _ rfl (fun j x x' e e' => hl.2 j x x' (by simpa using e) (by simpa using e'))
    unfold aassert at h
    split at h
    · rename_i td inf hu hi
      split at h
      · rename_i z hz
        split at h
        · rename_i hcl
          have hzv := run_zeroValue (P := P) hi hz w
          have hclz : V ρ z z := .closed hcl
          simp only at h
          split at h
          · split at h
            · rename_i hok; cases h; subst hok
              exact ⟨.tuple #[z, .bool false], by simp [Instr.typeAssert, run_underlying hu, hv.plain_eq rfl, hzv], pair false hclz⟩
            · cases h
          · rename_i want u0 v0
            obtain ⟨v1, e1, h1⟩ := hv.iface_inv
            split at h
            · rename_i iu hiu
              split at h
              · rename_i hmm
                cases h
                refine ⟨if ok then .tuple #[.iface u0 v1, .bool true] else .iface u0 v1, ?_, ?_⟩
                · simp [Instr.typeAssert, run_underlying hu, e1, typeInfo, hiu, hmm]
                · cases ok
                  · exact .iface _ _ _ h1
                  · exact pair true (.iface _ _ _ h1)
              · rename_i mm hmm
                split at h
                · rename_i hok; cases h; subst hok
                  exact ⟨.tuple #[z, .bool false], by simp [Instr.typeAssert, run_underlying hu, e1, typeInfo, hiu, hmm, hzv], pair false hclz⟩
                · cases h
            · cases h
          · rename_i hni
            split at h
            · rename_i hok; cases h; subst hok
              refine ⟨.tuple #[z, .bool false], ?_, pair false hclz⟩
              rw [hv.plain_eq rfl]
              cases td <;> first
                | (simp [Instr.typeAssert, run_underlying hu, hzv]; done)
                | (exact absurd rfl (hni _))
            · cases h
          · rename_i u0 v0 hni
            obtain ⟨v1, e1, h1⟩ := hv.iface_inv
            split at h
            · rename_i hut
              cases h
              refine ⟨if ok then .tuple #[v1, .bool true] else v1, ?_, ?_⟩
              · rw [e1]
                cases td <;> first
                  | (simp [Instr.typeAssert, run_underlying hu, hut]; done)
                  | (exact absurd rfl (hni _))
              · cases ok
                · exact h1
                · exact pair true h1
            · rename_i hut
              split at h
              · rename_i hok; cases h; subst hok
                refine ⟨.tuple #[z, .bool false], ?_, pair false hclz⟩
                rw [e1]
                cases td <;> first
                  | (simp [Instr.typeAssert, run_underlying hu, hzv, hut]; done)
                  | (exact absurd rfl (hni _))
              · cases h
          · cases h
        · cases h
      · cases h
    · cases h

end
end Go.Ab
