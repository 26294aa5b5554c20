/- Pointers as unsafe ones and back, bytes as strings, slices of arrays, methods of interfaces. -/
import Derived.Test.YtdjkkoacinpdeaaDoorAbFn
import Derived.Lib.Builder
import Derived.Lib.UnsafeStr
import Derived.Laws.BytesString
set_option linter.unusedVariables false
namespace Go.Ab

theorem rowAt_mono (P : Program) (fits : TypeId → Bool) : ∀ (dd : Nat) (e : TypeId) (count count' off n : Nat), count ≤ count' → rowAt P fits dd e count off n = true → rowAt P fits dd e count' off n = true
  | 0, e, count, count', off, n, hc, h => by simp [rowAt] at h
  | dd + 1, e, count, count', off, n, hc, h => by
    unfold rowAt at h ⊢
    simp only at h ⊢
    split at h
    · cases h
    · rename_i hs
      rw [if_neg hs]
      simp only [Bool.or_eq_true, Bool.and_eq_true, decide_eq_true_eq] at h ⊢
      rcases h with ⟨⟨h1, h2⟩, h3⟩ | ⟨h1, h2⟩
      · exact .inl ⟨⟨h1, by omega⟩, h3⟩
      · exact .inr ⟨by omega, h2⟩

theorem liesAt_mono (P : Program) : ∀ (dd : Nat) (e : TypeId) (count count' off : Nat) (u : TypeId) (n : Nat), count ≤ count' → liesAt P dd e count off u n = true → liesAt P dd e count' off u n = true
  | 0, e, count, count', off, u, n, hc, h => by simp [liesAt] at h
  | dd + 1, e, count, count', off, u, n, hc, h => by
    unfold liesAt at h ⊢
    simp only [Bool.or_eq_true] at h ⊢
    rcases h with h | h
    · exact .inl (rowAt_mono P _ _ _ _ _ _ _ hc h)
    · right
      split at h
      · exact liesAt_mono P dd e count count' off _ _ hc h
      · cases h

section
variable {P : Program} {n : Nat} {A : Env} {H : Heap} {d : Option Nat} {ty : TypeId} {pos : String} {af : Array Edge} {g : Option (Nat × Bool)}

/-- Where a pointer into a block that may be written leads. -/
theorem Sim.place {ρ : Ren} {w : World} (hs : Sim P ρ H w) {id off : Nat} {z : Value} {c : List Value} {e : TypeId} (hv : V ρ (.pointer (some ⟨id, off, none⟩)) z) (hg : H.get id = some (.cells c e false)) :
    ∃ i cur fz, ρ id = some i ∧ i.at_ = ⟨i.at_.block, 0, none⟩ ∧ z = .pointer (some ⟨i.at_.block, off, none⟩) ∧ w.heap[i.at_.block]? = some (.cells cur e fz) ∧ c.length ≤ cur.size ∧ (∀ (j : Nat) v, c[j]? = some v → ∃ v', cur[j]? = some v' ∧ V ρ v v') := by
  obtain ⟨i, hi, _, e1⟩ := hv.ptr_inv
  obtain ⟨cur, fz, hh, ⟨h1, h2⟩, h3, h4, h5, _⟩ := hs.live id _ i hg hi
  have ha : i.at_ = ⟨i.at_.block, 0, none⟩ := by
    obtain ⟨⟨b, o, s⟩, nn, ss⟩ := i
    simp only at h1 h2
    subst h1; subst h2; rfl
  refine ⟨i, cur, fz, hi, ha, ?_, hh, by omega, fun j v hj => ?_⟩
  · rw [e1, ha, add_lit]; simp
  · have := h5 j v hj; rw [h2, Nat.zero_add] at this; exact this

theorem spot_none {ρ : Ren} {a : Addr} {z : Value} (hv : V ρ (.pointer (some a)) z) : a = ⟨a.block, a.off, none⟩ := by
  obtain ⟨i, _, h, _⟩ := hv.ptr_inv
  obtain ⟨b, o, s⟩ := a
  simp only at h
  subst h; rfl

theorem od_toUnsafe {src dst t e : TypeId} {j : TypeInfo} {x : Operand} {a : Addr} {c : List Value} (ex : ev A x = .pointer (some a)) (hsrc : P.underlying src = some (.pointer t)) (hdst : P.underlying dst = some .unsafePointer) (ht : P.info? t = some j) (hj : j.size ≠ 0)
    (hg : H.get a.block = some (.cells c e false)) (ho : a.off < c.length) : OpDoes P ⟨d, .convert src dst x, ty, pos, af, g⟩ A H (.pointer (some a)) H :=
  .pure_ fun ρ w s hs he => by
    have hv := he x (by simp [Op.operands])
    rw [ex] at hv
    have ea := spot_none hv
    rw [ea] at hv
    obtain ⟨i, cur, fz, hi, ha, e1, hh, hl, _⟩ := hs.place hv hg
    rw [e1] at hv
    refine ⟨.pointer (some ⟨i.at_.block, a.off, none⟩), ?_, by rw [ea]; exact hv⟩
    simp only [execOp, e1, Sem.run_bind, Lib.run_to_unsafe w ⟨i.at_.block, a.off, none⟩ hsrc hdst ht hj (e := e) (cells := cur.size) (by simp [World.shape?, hh]) (by simp only; omega), Result.andThen_ok, Sem.run_pure]

theorem od_fromUnsafe {src dst u e : TypeId} {j : TypeInfo} {x : Operand} {a : Addr} {c : List Value} (ex : ev A x = .pointer (some a)) (hsrc : P.underlying src = some .unsafePointer) (hdst : P.underlying dst = some (.pointer u)) (hu : P.info? u = some j)
    (hg : H.get a.block = some (.cells c e false)) (hl : liesAt P P.depth e (c.length / P.cellsOf e) a.off u 1 = true) : OpDoes P ⟨d, .convert src dst x, ty, pos, af, g⟩ A H (.pointer (some a)) H :=
  .pure_ fun ρ w s hs he => by
    have hv := he x (by simp [Op.operands])
    rw [ex] at hv
    have ea := spot_none hv
    rw [ea] at hv
    obtain ⟨i, cur, fz, hi, ha, e1, hh, hle, _⟩ := hs.place hv hg
    rw [e1] at hv
    refine ⟨.pointer (some ⟨i.at_.block, a.off, none⟩), ?_, by rw [ea]; exact hv⟩
    simp only [execOp, e1, Sem.run_bind, Lib.run_from_unsafe w ⟨i.at_.block, a.off, none⟩ hsrc hdst hu (e := e) (cells := cur.size) (by simp [World.shape?, hh]) (liesAt_mono P _ _ _ _ _ _ _ (Nat.div_le_div_right hle) hl), Result.andThen_ok, Sem.run_pure]

/-- Cells that are bytes. -/
noncomputable def bytesIn : List Value → Option (List UInt8)
  | [] => some []
  | .int .u8 m :: l => (bytesIn l).map (m.toNat.toUInt8 :: ·)
  | _ :: _ => none

theorem bytesIn_rel {ρ : Ren} : ∀ (l l' : List Value) (bs : List UInt8), VL ρ l l' → bytesIn l = some bs → ∃ ns : List Int, l' = ns.map (Value.int .u8) ∧ bs = ns.map fun m => m.toNat.toUInt8
  | [], l', bs, hv, h => by cases h; obtain rfl := hv.unnil; exact ⟨[], rfl, rfl⟩
  | v :: l, l', bs, hv, h => by
    obtain ⟨v', l1, rfl, h1, h2⟩ := hv.uncons
    unfold bytesIn at h
    split at h
    · rename_i heq; cases heq
    · rename_i m l0 heq
      cases heq
      simp only [Option.map_eq_some_iff] at h
      obtain ⟨bs1, hb, rfl⟩ := h
      obtain ⟨ns, rfl, rfl⟩ := bytesIn_rel l l1 bs1 h2 hb
      exact ⟨m :: ns, by rw [h1.plain_eq rfl]; rfl, rfl⟩
    · cases h

theorem foldl_push : ∀ (ns : List Int) (acc : ByteArray), ns.foldl (fun r (m : Int) => r.push (UInt8.ofNat m.toNat)) acc = ⟨acc.data ++ (ns.map fun m => m.toNat.toUInt8).toArray⟩
  | [], acc => by simp
  | m :: ns, acc => by
    rw [List.foldl_cons, foldl_push ns]
    apply ByteArray.ext
    apply Array.ext'
    simp [ByteArray.push, Nat.toUInt8]

/-- A slice's cells, by its elements' size. -/
noncomputable def sliceCells (size : Nat) (v : Value) (H : Heap) : Option (List Value) :=
  match v with
  | .slice none 0 _ => some []
  | .slice (some a) len _ => if len = 0 then some [] else match H.get a.block with
    | some (.cells c _ _) => if a.off + len * size ≤ c.length then some ((c.drop a.off).take (len * size)) else none
    | _ => none
  | _ => none

theorem od_toStr {src dst e : TypeId} {x : Operand} {l : List Value} {bs : List UInt8} (hsrc : P.underlying src = some (.slice e)) (h8 : P.underlying e = some (.int .u8)) (hdst : P.underlying dst = some .string)
    (hl : sliceCells 1 (ev A x) H = some l) (hb : bytesIn l = some bs) : OpDoes P ⟨d, .convert src dst x, ty, pos, af, g⟩ A H (.string (mkS bs)) H :=
  .pure_ fun ρ w s hs he => by
    have hv := he x (by simp [Op.operands])
    refine ⟨.string (mkS bs), ?_, .same _ rfl⟩
    simp only [execOp, Sem.run_bind]
    generalize ev A x = u at hv hl
    unfold sliceCells at hl
    split at hl
    · rename_i cap
      cases hl
      cases hb
      rw [hv.plain_eq rfl]
      rw [run_convert_bytes_string w src dst e none 0 cap hsrc h8 hdst]
      rfl
    · rename_i a len cap
      obtain ⟨i, a', cap', g1, g2, g3, g4, g5, g0, g6, g7⟩ := hv.slice_inv
      rw [g3, run_convert_bytes_string w src dst e (some a') len cap' hsrc h8 hdst]
      split at hl
      · rename_i h0
        subst h0
        cases hl
        cases hb
        rw [run_bytesToString w a' 0 cap' [] (by simp [loadCells, loadCellsFrom])]
        rfl
      · rename_i h0
        split at hl
        · rename_i c e' ro hg
          split at hl
          · rename_i hle
            cases hl
            obtain ⟨cs, k1, k2, k3⟩ := (hs.live a.block _ i hg g1).cellsAt a.off (len * 1) hle
            obtain ⟨ns, rfl, rfl⟩ := bytesIn_rel _ cs bs k2 hb
            have ha : a' = i.at_.add a.off := by rcases g4 with h | ⟨h, _⟩; exact h; exact absurd h h0
            have hlen : ns.length = len := by simpa using k1
            have hld := run_loadCells_list (P := P) (w := w) a' (ns.map (Value.int .u8)) (fun j v hj => by rw [ha]; exact k3 j v hj)
            rw [List.length_map, hlen] at hld
            rw [run_bytesToString w a' len cap' ns hld, foldl_push]
            simp [mkS]
          · cases hl
        · cases hl
    · cases hl

/-- A slice of an array. -/
theorem od_slice_array {t e : TypeId} {m : Nat} {x : Operand} {lo hi : Option Operand} {inf : TypeInfo} {l h : Option Int} {a : Addr} (ht : P.underlying t = some (.array m e)) (hi' : P.info? e = some inf) (ex : ev A x = .pointer (some a))
    (el : boundOf A lo = some l) (eh : boundOf A hi = some h) (h1 : 0 ≤ l.getD 0) (h2 : l.getD 0 ≤ h.getD m) (h3 : h.getD m ≤ m) (hm : m < UNK) :
    OpDoes P ⟨d, .slice t x lo hi none, ty, pos, af, g⟩ A H (.slice (some ⟨a.block, a.off + (l.getD 0).toNat * inf.size, none⟩) ((h.getD m).toNat - (l.getD 0).toNat) (m - (l.getD 0).toNat)) H :=
  .pure_ fun ρ w s hs he => by
    have hv := he x (by simp [Op.operands])
    rw [ex] at hv
    obtain ⟨i, g1, g2, g3⟩ := hv.ptr_inv
    have hb := run_bounds (P := P) (A := A) (w := w) (fun y e => he y (by simp [Op.operands, e])) (fun y e => he y (by simp [Op.operands, e])) (mx := none) (fun y e => by cases e) el eh (m := none) rfl (by simp) (len := m) (cap := m) h1 h2 (by simpa using h3) (by simp) false
    simp only [Option.map_none, Option.getD_none, Int.toNat_natCast] at hb
    refine ⟨.slice (some (if m = (l.getD 0).toNat then i.at_.add a.off else (i.at_.add a.off).add ((l.getD 0).toNat * inf.size))) ((h.getD m).toNat - (l.getD 0).toNat) (m - (l.getD 0).toNat), ?_, ?_⟩
    · simp only [execOp, Instr.sliceAt, g3, Instr.sureAddr, Sem.run_bind, run_underlying ht, Result.andThen_ok, Option.map_none, hb, Sem.run_pure, run_sizeOf hi']
    · by_cases hcl : m = (l.getD 0).toNat
      · rw [if_pos hcl]
        exact .slice a.block _ _ _ _ i _ g1 (.inr ⟨by omega, by omega⟩) (by omega) (by omega) (fun h => by omega) (fun _ => rfl)
      · rw [if_neg hcl, add_add]
        exact .slice a.block _ _ _ _ i _ g1 (.inl rfl) (by omega) (by omega) (fun h => by omega) (fun _ => rfl)

/-- The address of a slice's first element. -/
theorem od_sliceData {ts : Array TypeId} {x : Operand} {a : Addr} {len cap : Nat} (ex : ev A x = .slice (some a) len cap) (hl : len ≠ 0) : OpDoes P ⟨d, .call ⟨.builtin .unsafeSliceData, #[x], ts⟩, ty, pos, af, g⟩ A H (.pointer (some a)) H :=
  .pure_ fun ρ w s hs he => by
    have hv := he x (by simp [Op.operands, Call.operands])
    rw [ex] at hv
    obtain ⟨i, a', cap', g1, g2, g3, g4, g5, g0, g6, g7⟩ := hv.slice_inv
    have ha : a' = i.at_.add a.off := by rcases g4 with h | ⟨h, _⟩; exact h; exact absurd h hl
    refine ⟨.pointer (some a'), ?_, ?_⟩
    · rw [exec_builtin]
      have hz : (Builtin.unsafeSliceData_ ts ty #[.slice (some a') len cap']).run P w = .ok (.pointer (some a')) w := by
        have hdef : Builtin.unsafeSliceData_ ts ty #[.slice (some a') len cap'] = (do
            if cap' ≠ 0 then pure (.pointer (some a'))
            else if (← viewAt a'.block).isSome then pure (.pointer (some a'))
            else pure (.pointer (some ⟨← newObj (.view a' (← elemOf ty)), 0, none⟩))) := rfl
        rw [hdef, if_pos (by omega)]
        rfl
      simp only [builtin, List.map_toArray, List.map_cons, List.map_nil, g3, Sem.run_bind, hz, Result.andThen_ok, Sem.run_pure]
    · obtain ⟨b, o, sp⟩ := a
      simp only at g1 g2 ha
      subst g2
      rw [ha]
      exact .ptr b o i g1
theorem od_sliceData_nil {ts : Array TypeId} {x : Operand} {len cap : Nat} (ex : ev A x = .slice none len cap) : OpDoes P ⟨d, .call ⟨.builtin .unsafeSliceData, #[x], ts⟩, ty, pos, af, g⟩ A H (.pointer none) H :=
  .pure_ fun ρ w s hs he => by
    have hv := he x (by simp [Op.operands, Call.operands])
    rw [ex] at hv
    refine ⟨.pointer none, ?_, .same _ rfl⟩
    rw [exec_builtin]
    simp only [builtin, List.map_toArray, List.map_cons, List.map_nil, hv.plain_eq rfl, Sem.run_bind]
    rfl

theorem od_unsafeStr_nil {pt it : TypeId} {x y : Operand} (ex : ev A x = .pointer none) (ey : ev A y = .int .i64 0) : OpDoes P ⟨d, .call ⟨.builtin .unsafeString, #[x, y], #[pt, it]⟩, ty, pos, af, g⟩ A H (.string (mkS [])) H :=
  .pure_ fun ρ w s hs he => by
    have e1 := evalP (he x (by simp [Op.operands, Call.operands])) ex rfl
    have e2 := evalP (he y (by simp [Op.operands, Call.operands])) ey rfl
    refine ⟨.string (mkS []), ?_, .same _ rfl⟩
    rw [exec_builtin]
    simp only [builtin, List.map_toArray, List.map_cons, List.map_nil, e1, e2, Sem.run_bind, Lib.run_unsafeString_none, Result.andThen_ok, Sem.run_pure]
    rfl

/-- Bytes as a string, without a copy: from here on they may not be written. -/
theorem od_unsafeStr {pt it e : TypeId} {x y : Operand} {id len : Nat} {c : List Value} {bs : List UInt8} (ex : ev A x = .pointer (some ⟨id, 0, none⟩)) (ey : ev A y = .int .i64 (len : Int)) (hp : P.underlying pt = some (.pointer e)) (hc1 : P.cellsOf e = 1)
    (hg : H.get id = some (.cells c e false)) (hlen : len ≠ 0) (hle : len ≤ c.length) (h63 : len ≤ 9223372036854775807) (hb : bytesIn (c.take len) = some bs) (hrow : ∀ v ∈ c.take len, ∃ m : Int, v = .int .u8 m ∧ 0 ≤ m ∧ m < 256) :
    OpDoes P ⟨d, .call ⟨.builtin .unsafeString, #[x, y], #[pt, it]⟩, ty, pos, af, g⟩ A H (.string (mkS bs)) (H.set id (.cells c e true)) :=
  .of_run fun ρ w s hs he => by
    have hv := he x (by simp [Op.operands, Call.operands])
    rw [ex] at hv
    have e2 := evalP (he y (by simp [Op.operands, Call.operands])) ey rfl
    obtain ⟨i, cur, fz, hi, ha, e1, hh, hcl, hcell⟩ := hs.place hv hg
    have hbl : bs.length = len ∧ ∀ (j : Nat) b, bs[j]? = some b → c[j]? = some (.int .u8 (b.toNat : Int)) := by
      have key : ∀ (l : List Value) (bs : List UInt8), bytesIn l = some bs → (∀ v ∈ l, ∃ m : Int, v = .int .u8 m ∧ 0 ≤ m ∧ m < 256) → bs.length = l.length ∧ ∀ (j : Nat) b, bs[j]? = some b → l[j]? = some (.int .u8 (b.toNat : Int)) := by
        intro l
        induction l with
        | nil => intro bs h _; cases h; exact ⟨rfl, fun j b h => by simp at h⟩
        | cons v l ih =>
          intro bs h hr
          obtain ⟨m, rfl, m0, m1⟩ := hr v (by simp)
          simp only [bytesIn, Option.map_eq_some_iff] at h
          obtain ⟨bs1, h1, rfl⟩ := h
          obtain ⟨q1, q2⟩ := ih bs1 h1 (fun v hv => hr v (by simp [hv]))
          refine ⟨by simp [q1], fun j b hj => ?_⟩
          cases j with
          | zero =>
            simp at hj
            subst hj
            simp only [List.getElem?_cons_zero, Option.some.injEq, Value.int.injEq, true_and]
            have : (m.toNat.toUInt8).toNat = m.toNat := by simp [Nat.toUInt8, UInt8.toNat_ofNat']; omega
            rw [this]; omega
          | succ j => simp at hj ⊢; exact q2 j b hj
      obtain ⟨q1, q2⟩ := key _ bs hb hrow
      refine ⟨by rw [q1, List.length_take]; omega, fun j b hj => ?_⟩
      have := q2 j b hj
      rw [List.getElem?_take] at this
      split at this
      · exact this
      · cases this
    have hcells : ∀ j x, bs[j]? = some x → w.cell? ((⟨i.at_.block, 0, none⟩ : Addr).add j) = some (.int .u8 x.toNat) := fun j x hj => by
      obtain ⟨v', h1, h2⟩ := hcell j _ (hbl.2 j x hj)
      rw [add_lit, Nat.zero_add, cell_of_row w _ _ cur e fz hh, h1, h2.plain_eq rfl]
    have hrun := Lib.run_unsafeString_row (P := P) w pt it ty e hp hc1 i.at_.block cur.size (by simp [World.shape?, hh]) bs (fun h => by rw [h] at hbl; simp at hbl; omega) (by omega) (by omega) hcells
    rw [hbl.1] at hrun
    have hfz : ∃ fz', (w.freeze ⟨i.at_.block, 0, none⟩ len).heap[i.at_.block]? = some (.cells cur e fz') ∧ OneBlk w (w.freeze ⟨i.at_.block, 0, none⟩ len) i.at_.block := by
      unfold World.freeze
      rw [if_neg hlen]
      obtain ⟨lo, hi⟩ := fz
      refine ⟨if lo == hi then (0, 0 + len) else (min lo 0, max hi (0 + len)), ?_, ⟨fun k hk => ?_, by simp, rfl, rfl, rfl⟩⟩
      · simp only [Array.getElem?_modify, hh, if_true, Option.map_some]
      · simp only [Array.getElem?_modify]
        rw [if_neg (fun e => hk e.symm)]
    obtain ⟨fz', hh', hone⟩ := hfz
    have hblk : BlkRel P ρ i (w.freeze ⟨i.at_.block, 0, none⟩ len) (.cells c e true) := by
      refine ⟨(Array.getElem?_eq_some_iff.1 hh').1, fun j v hj => ?_⟩
      obtain ⟨v', h1, h2⟩ := hcell j v hj
      refine ⟨v', ?_, h2⟩
      rw [ha, add_lit, Nat.zero_add, cell_of_row _ _ _ cur e fz' hh']
      exact h1
    obtain ⟨q1, q2⟩ := hs.setBlk hi hg rfl hone hblk
    refine ⟨.string (mkS bs), ρ, _, ?_, .same _ rfl, q1, q2⟩
    rw [exec_builtin]
    simp only [builtin, List.map_toArray, List.map_cons, List.map_nil, e1, e2, Sem.run_bind, hrun, Result.andThen_ok, Sem.run_pure]
    rfl

/-- A method of an interface, whose receiver is the value itself. -/
noncomputable def isPtrD : TypeDesc → Bool
  | .pointer _ => true
  | _ => false

/-- Which function a method is. -/
noncomputable def methodOf (P : Program) (t : TypeId) (name : String) : Option FuncId :=
  match P.info? t, P.underlying t with
  | some inf, some td => match inf.methods.find? (·.name == name) with
    | some m => match m.path.toList, m.func with
      | [], some (f, pr) => if pr = isPtrD td then some f else none
      | _, _ => none
    | none => none
  | _, _ => none

theorem run_method {t : TypeId} {name : String} {f : FuncId} (h : methodOf P t name = some f) (v : Value) (w : World) (fuel : Nat) : (method (fuel + 1) t v name).run P w = .ok (f, v) w := by
  unfold methodOf at h
  split at h
  · rename_i inf td hi htd
    split at h
    · rename_i m hm
      split at h
      · rename_i f0 pr hp hf
        split at h
        · rename_i hpr
          cases h
          have hfol : (follow m.path.toList t (.val v)).run P w = .ok (t, .val v) w := by rw [hp]; rfl
          have hrec : ∀ wr, (receiverAt t (.val v) pr wr).run P w = .ok v w := fun wr => by
            simp only [receiverAt, Sem.run_bind, run_underlying htd, Result.andThen_ok]
            cases td <;> simp only [isPtrD] at hpr <;> subst hpr <;> rfl
          simp only [method, typeInfo, Sem.run_bind, run_program, Result.andThen_ok, hi, Sem.run_pure, hm, hfol, hf, hrec]
        · cases h
      · cases h
    · cases h
  · cases h

theorem od_invoke {recv : Operand} {name : String} {args : Array Operand} {ts : Array TypeId} {t : TypeId} {v u : Value} {f : FuncId} {H' : Heap} (er : ev A recv = .iface t v) (hm : methodOf P t name = some f) (hd : Callable P f (v :: (args.map (ev A)).toList) H u H') :
    OpDoes P ⟨d, .call ⟨.invoke recv name, args, ts⟩, ty, pos, af, g⟩ A H u H' :=
  od_of_run (fun ρ w a hs he => by
    have hv := he recv (by simp [Op.operands, Call.operands])
    rw [er] at hv
    obtain ⟨v', e, h1⟩ := hv.iface_inv
    refine ⟨v' :: (args.map a.eval).toList, .cons h1 (evals (fun x hx => he x (by simp [Op.operands, Call.operands, hx]))), ?_⟩
    have hdep : ∃ k, P.types.size + Made.depth = k + 1 := ⟨P.types.size + 99, rfl⟩
    obtain ⟨k, hk⟩ := hdep
    simp only [execOp, resolve, pure_bind, invoke, e]
    have h0 : (#[Value.iface t v'] ++ Array.map a.eval args)[0]? = some (.iface t v') := by rw [Array.getElem?_append_left (by simp)]; rfl
    have hx : (#[Value.iface t v'] ++ Array.map a.eval args).extract 1 (#[Value.iface t v'] ++ Array.map a.eval args).size = Array.map a.eval args := by
      apply Array.ext'
      simp
      exact List.take_of_length_le (by simp)
    simp only [h0, hx, callMethod, Sem.run_bind, run_program, Result.andThen_ok, hk, run_method hm]
    congr 2
    apply Array.ext'
    simp) hd
end
end Go.Ab
