/- Builtins: len, cap, min, max, append, copy; bytes and strings. -/
import Derived.Test.YtgbdkammehhchaaDoorAbOps3
set_option linter.unusedVariables false
namespace Go.Ab
section
variable {P : Program} {n : Nat} {A : Env} {H : Heap} {d : Option Nat} {ty : TypeId} {pos : String} {af : Array Edge} {g : Option (Nat × Bool)}

theorem exec_builtin (ρ : Operand → Value) (b : Builtin) (args : Array Operand) (ts : Array TypeId) :
    execOp ρ ⟨d, .call ⟨.builtin b, args, ts⟩, ty, pos, af, g⟩ = builtin b ts ty (args.map fun | .const _ => true | _ => false) (args.map ρ) := by
  simp only [execOp, resolve, invoke, pure_bind]
  rfl

/-- A length that needs no memory. -/
noncomputable def alen (P : Program) (t : TypeId) (x : Value) : Option Nat :=
  match P.underlying t with
  | some .string => match x with | .string s => some (bl s).length | _ => none
  | some (.array m _) => some m
  | some (.slice _) => match x with | .slice _ m _ => some m | _ => none
  | some (.pointer q) => match P.underlying q with | some (.array m _) => some m | _ => none
  | some (.map _ _) => match x with | .map none => some 0 | _ => none
  | _ => none

theorem od_len {t : TypeId} {x : Operand} {m : Nat} (h : alen P t (ev A x) = some m) : OpDoes P ⟨d, .call ⟨.builtin .len, #[x], #[t]⟩, ty, pos, af, g⟩ A H (.int .i64 m) H :=
  .pure_ fun ρ w s hs he => by
    have hv := he x (by simp [Op.operands, Call.operands])
    refine ⟨.int .i64 m, ?_, .same _ rfl⟩
    rw [exec_builtin]
    generalize ev A x = u at hv h
    have hz : (Builtin.len_ #[t] ty #[s.eval x]).run P w = .ok (.int .i64 m) w := by
      unfold alen at h
      split at h
      · rename_i ht
        split at h
        · cases h
          simp [Builtin.len_, run_underlying ht, hv.plain_eq rfl, goInt, bl_size]
        · cases h
      · rename_i q e ht
        cases h
        simp [Builtin.len_, run_underlying ht, goInt]
      · rename_i e ht
        split at h
        · rename_i a m' c
          cases h
          cases a with
          | none => simp [Builtin.len_, run_underlying ht, hv.plain_eq rfl, goInt]
          | some a =>
            obtain ⟨i, a', cap', g1, g2, g3, _⟩ := hv.slice_inv
            simp [Builtin.len_, run_underlying ht, g3, goInt]
        · cases h
      · rename_i q ht
        split at h
        · rename_i m' e hq
          cases h
          simp [Builtin.len_, run_underlying ht, run_underlying hq, goInt]
        · cases h
      · rename_i k e ht
        split at h
        · cases h
          simp [Builtin.len_, run_underlying ht, hv.plain_eq rfl, goInt]
        · cases h
      · cases h
    simp only [builtin, List.map_toArray, List.map_cons, List.map_nil, Sem.run_bind, hz, Result.andThen_ok, Sem.run_pure]

theorem od_cap {t e : TypeId} {x : Operand} {a : Option Addr} {m c : Nat} (ht : P.underlying t = some (.slice e)) (ex : ev A x = .slice a m c) (hc : Nat.blt c UNK = true) :
    OpDoes P ⟨d, .call ⟨.builtin .cap, #[x], #[t]⟩, ty, pos, af, g⟩ A H (.int .i64 c) H :=
  .pure_ fun ρ w s hs he => by
    have hv := he x (by simp [Op.operands, Call.operands])
    rw [ex] at hv
    refine ⟨.int .i64 c, ?_, .same _ rfl⟩
    rw [exec_builtin]
    have hz : (Builtin.cap_ #[t] ty #[s.eval x]).run P w = .ok (.int .i64 c) w := by
      cases a with
      | none => simp [Builtin.cap_, run_underlying ht, hv.plain_eq rfl, goInt]
      | some a =>
        obtain ⟨i, a', cap', g1, g2, g3, g4, g5, g0, g6, g7⟩ := hv.slice_inv
        have := g7 (by simpa using hc)
        simp [Builtin.cap_, run_underlying ht, g3, goInt, this]
    simp only [builtin, List.map_toArray, List.map_cons, List.map_nil, Sem.run_bind, hz, Result.andThen_ok, Sem.run_pure]

theorem od_max2 {ts : Array TypeId} {x y : Operand} {k : IntKind} {a b : Int} (ex : ev A x = .int k a) (ey : ev A y = .int k b) :
    OpDoes P ⟨d, .call ⟨.builtin .max, #[x, y], ts⟩, ty, pos, af, g⟩ A H (.int k (if b > a then b else a)) H :=
  .pure_ fun ρ w s hs he => by
    have e1 := evalP (he x (by simp [Op.operands, Call.operands])) ex rfl
    have e2 := evalP (he y (by simp [Op.operands, Call.operands])) ey rfl
    refine ⟨_, ?_, .same _ rfl⟩
    rw [exec_builtin]
    simp [builtin, e1, e2, Builtin.max_, Builtin.max2]

theorem od_min2 {ts : Array TypeId} {x y : Operand} {k : IntKind} {a b : Int} (ex : ev A x = .int k a) (ey : ev A y = .int k b) :
    OpDoes P ⟨d, .call ⟨.builtin .min, #[x, y], ts⟩, ty, pos, af, g⟩ A H (.int k (if b < a then b else a)) H :=
  .pure_ fun ρ w s hs he => by
    have e1 := evalP (he x (by simp [Op.operands, Call.operands])) ex rfl
    have e2 := evalP (he y (by simp [Op.operands, Call.operands])) ey rfl
    refine ⟨_, ?_, .same _ rfl⟩
    rw [exec_builtin]
    simp [builtin, e1, e2, Builtin.min_, Builtin.min2]

/-! ### append -/

noncomputable def bytesOf (s : ByteArray) : List Value := s.data.toList.map fun b => .int .u8 b.toNat

/-- What is appended or copied: how many elements, and their cells. -/
noncomputable def asrc (size : Nat) (x : Value) (H : Heap) : Option (Nat × List Value) :=
  match x with
  | .slice none 0 _ => some (0, [])
  | .slice (some a) m _ =>
    if m = 0 then some (0, []) else
    match H.get a.block with
    | some (.cells c _ _) => if a.off + m * size ≤ c.length then some (m, (c.drop a.off).take (m * size)) else none
    | _ => none
  | .string s => if size = 1 then some ((bl s).length, bytesOf s) else none
  | _ => none

theorem src_rel {ρ : Ren} {w : World} (hs : Sim P ρ H w) {size m : Nat} {x x' : Value} {c : List Value} (hx : V ρ x x') (h : asrc size x H = some (m, c)) :
    (Builtin.lenOf x').run P w = .ok m w ∧ c.length = m * size ∧ ∀ m', m' ≤ m → ∃ c' : List Value, VL ρ (c.take (m' * size)) c' ∧ ∀ w' : World, (∀ a : Addr, w'.cell? a = w.cell? a) → (Builtin.firstCells size m' x').run P w' = .ok c'.toArray w' := by
  unfold asrc at h
  split at h
  · cases h
    rw [hx.plain_eq rfl]
    refine ⟨rfl, by simp, fun m' hm => ⟨[], by simpa using VL.nil ρ, fun w' _ => rfl⟩⟩
  · rename_i a m0 cap
    obtain ⟨i, a', cap', g1, g2, g3, g4, g5, g0, g6, g7⟩ := hx.slice_inv
    split at h
    · rename_i hm0
      cases h
      subst hm0
      rw [g3]
      refine ⟨rfl, by simp, fun m' hm => ⟨[], by simpa using VL.nil ρ, fun w' _ => ?_⟩⟩
      obtain rfl : m' = 0 := by omega
      simp [Builtin.firstCells, loadCells, loadCellsFrom]
    · rename_i hm0
      split at h
      · rename_i cc e ro hg
        split at h
        · rename_i hle
          cases h
          have ha : a' = i.at_.add a.off := by rcases g4 with h | ⟨h, _⟩; exact h; omega
          rw [g3]
          refine ⟨rfl, by simp; omega, fun m' hm => ?_⟩
          have hmul : m' * size ≤ m * size := Nat.mul_le_mul_right _ hm
          obtain ⟨cs, k1, k2, k3⟩ := (hs.live _ _ i hg g1).cellsAt a.off (m' * size) (by omega)
          refine ⟨cs, by rw [List.take_take, Nat.min_eq_left hmul]; exact k2, fun w' hw' => ?_⟩
          have := run_firstCells_some (P := P) w' size m' a' m cap' cs k1 (fun j v hj => by rw [hw', ha]; exact k3 j v hj)
          exact this
        · cases h
      · cases h
  · rename_i s
    split at h
    · rename_i hsz
      cases h
      subst hsz
      rw [hx.plain_eq rfl]
      refine ⟨rfl, (by rw [Nat.mul_one]; simp only [bytesOf, List.length_map, Array.length_toList]; rfl), fun m' hm => ⟨(bytesOf s).take (m' * 1), .closed ?_, fun w' _ => ?_⟩⟩
      · rw [List.all_eq_true]
        intro v hv
        have := List.mem_of_mem_take hv
        simp only [bytesOf, List.mem_map] at this
        obtain ⟨b, _, rfl⟩ := this
        rfl
      · simp only [Builtin.firstCells, Sem.run_pure]
        congr 1
        apply Array.ext'
        rw [Nat.mul_one]
        simp only [Array.toList_map, bytesOf]
        simp [ByteArray.data_extract, List.map_take]
    · cases h
  · cases h

noncomputable def isSeqD : TypeDesc → Bool
  | .slice _ => true
  | .string => true
  | _ => false

theorem isSeqD_cases {td : TypeDesc} (h : isSeqD td = true) : td = .string ∨ ∃ e, td = .slice e := by
  cases td <;> simp [isSeqD] at h
  · exact .inl rfl
  · exact .inr ⟨_, rfl⟩

theorem run_append_in {t t2 e : TypeId} {inf : TypeInfo} {td : TypeDesc} {x' : Value} {sLen sCap m : Nat} {base : Option Addr} {w w' : World} {c' : List Value} (ht : P.underlying t = some (.slice e)) (ht2 : P.underlying t2 = some td) (hni : isSeqD td = true) (hi : P.info? e = some inf)
    (hl : (Builtin.lenOf x').run P w = .ok m w) (hf : (Builtin.firstCells inf.size m x').run P w = .ok c'.toArray w) (hroom : sLen + m ≤ sCap)
    (hst : ∀ a, base = some a → (storeCells (a.add (sLen * inf.size)) c').run P w = .ok () w') (hnone : base = none → w' = w) :
    (Builtin.append_ #[t, t2] ty #[.slice base sLen sCap, x']).run P w = .ok (.slice base (sLen + m) sCap) w' := by
  cases base with
  | none =>
    obtain rfl := hnone rfl
    rcases isSeqD_cases hni with rfl | ⟨e', rfl⟩ <;> simp [Builtin.append_, run_underlying ht, run_underlying ht2, run_sizeOf hi, hl, hroom, hf]
  | some a =>
    have := hst a rfl
    rcases isSeqD_cases hni with rfl | ⟨e', rfl⟩ <;> simp [Builtin.append_, run_underlying ht, run_underlying ht2, run_sizeOf hi, hl, hroom, hf, this]

theorem run_append_grows {t t2 e : TypeId} {inf : TypeInfo} {z : Value} {td : TypeDesc} {x' : Value} {sLen sCap m : Nat} {base : Option Addr} {w : World} {c' old : List Value} (ht : P.underlying t = some (.slice e)) (ht2 : P.underlying t2 = some td) (hni : isSeqD td = true) (hi : P.info? e = some inf) (hz0 : inf.zero = some z)
    (hl : (Builtin.lenOf x').run P w = .ok m w) (hf : (Builtin.firstCells inf.size m x').run P w.drew = .ok c'.toArray w.drew) (hfo : (Builtin.firstCells inf.size sLen (.slice base sLen sCap)).run P w.drew = .ok old.toArray w.drew) (hroom : ¬ sLen + m ≤ sCap)
    (h63 : sLen + m ≤ 9223372036854775807) (hby : (sLen + m) * inf.bytes ≤ 140737488355328) :
    (Builtin.append_ #[t, t2] ty #[.slice base sLen sCap, x']).run P w = .ok (.slice (some ⟨w.heap.size, 0, none⟩) (sLen + m) (grownCap w (sLen + m) sCap e)) (w.drew.alloc (.cells (old.toArray ++ c'.toArray ++ Builtin.zeroCells z.cells (grownCap w (sLen + m) sCap e - (sLen + m))) e)) := by
  have h63' : ¬ (9223372036854775807 < ((sLen : Int) + (m : Int))) := by omega
  have h48' : ¬ (281474976710656 < Builtin.nextslicecap (sLen + m) sCap * inf.bytes) := by have := growslice_fits (need := sLen + m) (old := sCap) (bytes := inf.bytes) (by omega) hby; omega
  rcases isSeqD_cases hni with rfl | ⟨e', rfl⟩ <;> simp [Builtin.append_, run_underlying ht, run_underlying ht2, sizeOf, typeInfo, zeroValue, hi, hz0, hl, hroom, h63', h48', Question.forced, hf, hfo, newRow, grownCap] <;> (congr 2; apply Array.ext'; simp)

theorem Sim.drew {ρ : Ren} {w : World} (hs : Sim P ρ H w) : St ρ H w ρ H w.drew ∧ Sim P ρ H w.drew :=
  ⟨⟨.refl ρ, Nat.le_refl _, fun _ _ _ h => h, fun _ _ b b' _ h hr h' => (by rw [h] at h'; cases h'; exact hr), fun id i h h' => (by rw [h'] at h; cases h), rfl, rfl, rfl, Nat.le_refl _, fun _ _ _ => rfl⟩,
   ⟨hs.dom, fun id b i h h' => (hs.live id b i h h').mono (.refl ρ) rfl, hs.sep, hs.glob⟩⟩

/-- A block is given up for a new one that lies where it lay. -/
theorem Sim.move {ρ : Ren} {w w' : World} (hs : Sim P ρ H w) {id : Nat} {i i' : Info} {b b' : Blk} (hi : ρ id = some i) (hg : H.get id = some b) (hro : b.ro = false) (hw : OneBlk w w' i.at_.block) (hi' : i'.at_.block = i.at_.block)
    (hb : BlkRel P (ext ρ H.next i') i' w' b') : St ρ H w (ext ρ H.next i') ((H.kill id).push b') w' ∧ Sim P (ext ρ H.next i') ((H.kill id).push b') w' := by
  have hn := hs.none_next
  have hsub := sub_ext i' hn
  have hne : ∀ x j, ρ x = some j → x ≠ H.next := fun x j h e => by rw [e, hn] at h; cases h
  have hget : ∀ x, ((H.kill id).push b').get x = if x = H.next then some b' else if x = id then none else H.get x := fun x => by rw [Heap.get_push, Heap.next_kill, Heap.get_kill]
  refine ⟨⟨hsub, by simp, fun x j h h' => ?_, fun x j b1 b2 h h1 h2 h3 => ?_, fun x j h h' => ?_, hw.os, hw.tape, hw.output, (by rw [hw.size]; exact Nat.le_refl _), fun k hk hnn => ?_⟩, ⟨fun x j h => ?_, fun x bl j h h' => ?_, fun id1 id2 b1 b2 i1 i2 h1 h2 h3 h4 h5 h6 => ?_, fun gg hgg => ?_⟩⟩
  · rw [hget, if_neg (hne x j h)]; split
    · rfl
    · exact h'
  · rw [hget, if_neg (hne x j h)] at h3
    split at h3
    · cases h3
    · rw [h1] at h3; cases h3; exact h2
  · by_cases e : x = H.next
    · subst e; rw [ext_same] at h; cases h
      exact ⟨Nat.le_refl _, .inr ⟨id, i, b, hi, hi'.symm, hg, hro⟩⟩
    · rw [ext_ne ρ i' e, h'] at h; cases h
  · exact hw.other k (fun e => hnn id i b hi hg hro e.symm)
  · by_cases e : x = H.next
    · subst e; simp
    · rw [ext_ne ρ i' e] at h; have := hs.dom _ _ h; simp; omega
  · by_cases e : x = H.next
    · subst e; rw [ext_same] at h'; cases h'; rw [hget, if_pos rfl] at h; cases h; exact hb
    · rw [ext_ne ρ i' e] at h'; rw [hget, if_neg e] at h
      split at h
      · cases h
      · rename_i e2
        refine (hs.live x bl j h h').mono hsub (hw.other _ ?_)
        exact fun e' => hs.sep id x b bl i j hg h hi h' hro (fun h => e2 h.symm) e'.symm
  · rw [hget] at h1 h2
    by_cases e1 : id1 = H.next
    · subst e1
      rw [if_neg (fun h => h6 h.symm)] at h2
      split at h2
      · cases h2
      · rename_i e2
        rw [ext_same] at h3; cases h3
        rw [ext_ne ρ _ (fun h => h6 h.symm)] at h4
        rw [hi']
        exact hs.sep id id2 b b2 i i2 hg h2 hi h4 hro (fun h => e2 h.symm)
    · rw [if_neg e1] at h1
      rw [ext_ne ρ i' e1] at h3
      split at h1
      · cases h1
      · rename_i e3
        by_cases e2 : id2 = H.next
        · subst e2
          rw [ext_same] at h4; cases h4
          rw [hi']
          exact hs.sep id1 id b1 b i1 i h1 hg h3 hi h5 e3
        · rw [if_neg e2] at h2
          rw [ext_ne ρ i' e2] at h4
          split at h2
          · cases h2
          · exact hs.sep id1 id2 b1 b2 i1 i2 h1 h2 h3 h4 h5 h6
  · obtain ⟨j, hj, e⟩ := hs.glob gg hgg
    exact ⟨j, hsub _ _ hj, e⟩

theorem zeroCells_list (z : Array Value) (m : Nat) : (Builtin.zeroCells z m).toList = zeros z (m * z.size) := by
  simp [Builtin.zeroCells, zeros, Array.toList_range]

theorem Sim.grow {ρ : Ren} {w : World} (hs : Sim P ρ H w) {e : TypeId} {inf : TypeInfo} {z : Value} (hok : ElemOk P e inf z) {o o' c c' : List Value} {need cap : Nat} (ho : VL ρ o o') (hc : VL ρ c c') (hl : o.length + c.length = need * inf.size) (hcap : need ≤ cap) (hc63 : cap < UNK) :
    let i : Info := ⟨⟨w.heap.size, 0, none⟩, cap * inf.size, P.cellsOf e⟩
    let w' := w.drew.alloc (.cells (o'.toArray ++ c'.toArray ++ Builtin.zeroCells z.cells (cap - need)) e)
    St ρ H w (ext ρ H.next i) (H.push (.cells (o ++ c) e false)) w' ∧ Sim P (ext ρ H.next i) (H.push (.cells (o ++ c) e false)) w' ∧ V (ext ρ H.next i) (.slice (some ⟨H.next, 0, none⟩) need (UNK + inf.size)) (.slice (some ⟨w.heap.size, 0, none⟩) need cap) := by
  intro i w'
  obtain ⟨s1, s2⟩ := hs.drew
  have hlist : (o'.toArray ++ c'.toArray ++ Builtin.zeroCells z.cells (cap - need)).toList = (o' ++ c') ++ zeros z.cells ((cap - need) * inf.size) := by
    rw [Array.toList_append, zeroCells_list, hok.cells]; simp
  have hlen2 : (o' ++ c').length = need * inf.size := by rw [List.length_append, ← ho.1, ← hc.1]; exact hl
  have hmul : need * inf.size + (cap - need) * inf.size = cap * inf.size := by rw [← Nat.add_mul]; congr 1; omega
  have hsize : (o'.toArray ++ c'.toArray ++ Builtin.zeroCells z.cells (cap - need)).size = cap * inf.size := by
    rw [← Array.length_toList, hlist, List.length_append, hlen2]; simp [zeros]; exact hmul
  have hb : BlkRel P (ext ρ H.next i) i (w.drew.alloc (.cells (o'.toArray ++ c'.toArray ++ Builtin.zeroCells z.cells (cap - need)) e)) (.cells (o ++ c) e false) := by
    have hvl : VL (ext ρ H.next i) (o ++ c) (o' ++ c') := (ho.append hc).mono (sub_ext _ hs.none_next)
    refine ⟨_, (0, 0), heap_alloc_new w.drew _, ⟨rfl, rfl⟩, by simp only [i]; rw [hsize]; simp, ?_, fun j v hj => ?_, fun o _ _ => by simp, fun k v hk hkv => ?_, rfl⟩
    · simp only [i]; rw [List.length_append, hl]; exact Nat.mul_le_mul_right _ hcap
    · obtain ⟨v', h1, h2⟩ := hvl.get hj
      refine ⟨v', ?_, h2⟩
      simp only [i, Nat.zero_add]
      rw [← Array.getElem?_toList, hlist, List.getElem?_append_left (List.getElem?_eq_some_iff.1 h1).1]
      exact h1
    · simp only [i, Nat.zero_add] at hk
      rw [← Array.getElem?_toList, hlist, List.getElem?_append_right (by rw [← hvl.1]; exact hk)] at hkv
      exact hok.spare (zeros_get _ _ (by rw [hok.cells]; exact hok.pos) hkv)
  obtain ⟨t1, t2⟩ := s2.push _ (.cells (o ++ c) e false) i rfl hb
  refine ⟨s1.trans t1, t2, ?_⟩
  refine .slice H.next 0 need _ cap i _ (ext_same _ _ _) (.inl (by rw [add_lit])) hcap hc63 (fun _ => ?_) (fun h => by omega)
  simp only [i, Nat.zero_add]
  rw [hok.cellsOf]
  exact ⟨by omega, Nat.le_refl _⟩

/-- Appending, abstractly. -/
noncomputable def aappend (e : TypeId) (inf : TypeInfo) (s x : Value) (H : Heap) : Option (Value × Heap) :=
  match asrc inf.size x H with
  | none => none
  | some (m, news) =>
    if news.all (·.oneCell') = true then
      match s with
      | .slice none 0 0 =>
        if m = 0 then some (.slice none 0 0, H) else
        if m ≤ 9223372036854775807 ∧ m * inf.bytes ≤ 140737488355328 then some (.slice (some ⟨H.next, 0, none⟩) m (UNK + inf.size), H.push (.cells news e false)) else none
      | .slice (some a) len cap =>
        if m = 0 then (if UNK ≤ cap ∨ len ≤ cap then some (.slice (some a) len cap, H) else none) else
        match H.get a.block with
        | some (.cells c e' ro) =>
          if a.off + len * inf.size ≤ c.length ∧ len + m ≤ 9223372036854775807 ∧ (len + m) * inf.bytes ≤ 140737488355328 then
            if UNK ≤ cap then
              if ro = false ∧ e' = e ∧ a.off = 0 ∧ a.off + len * inf.size = c.length then some (.slice (some ⟨H.next, 0, none⟩) (len + m) (UNK + inf.size), (H.kill a.block).push (.cells (c.drop a.off ++ news) e false)) else none
            else if len + m ≤ cap then
              (if ro = false ∧ a.off + (len + m) * inf.size ≤ c.length then some (.slice (some a) (len + m) cap, H.set a.block (.cells (splice c (a.off + len * inf.size) news) e' false)) else none)
            else some (.slice (some ⟨H.next, 0, none⟩) (len + m) (UNK + inf.size), H.push (.cells ((c.drop a.off).take (len * inf.size) ++ news) e false))
          else none
        | _ => none
      | _ => none
    else none

theorem BlkRel.storeEnd {ρ : Ren} {i : Info} {w : World} {c : List Value} {e : TypeId} (hb : BlkRel P ρ i w (.cells c e false)) {off : Nat} {vs vs' : List Value} (hvs : VL ρ vs vs') (hoff : off ≤ c.length) (h00 : off = 0) (hl : c.length + vs.length ≤ i.n)
    (h1 : ∀ v ∈ vs, v.oneCell' = true) : ∃ w', (storeCells (i.at_.add c.length) vs').run P w = .ok () w' ∧ OneBlk w w' i.at_.block ∧ BlkRel P ρ ⟨i.at_.add off, i.n - off, i.s⟩ w' (.cells (c.drop off ++ vs) e false) := by
  obtain ⟨cur, fz, hh, hsp, hsz, hcl, hcell, hfz, hspare, hes⟩ := hb
  have hlen := hvs.1
  have h1' : ∀ v ∈ vs', v.oneCell' = true := fun v' hv' => by
    obtain ⟨j, hj⟩ := List.getElem?_of_mem hv'
    have hjl : j < vs.length := by rw [hlen]; exact (List.getElem?_eq_some_iff.1 hj).1
    have := hvs.2 j _ v' (List.getElem?_eq_getElem hjl) hj
    rw [this.oneCell]
    exact h1 _ (List.getElem_mem hjl)
  rw [add_none hsp.1, add_none hsp.1]
  obtain ⟨w', cur', hr, hg', hone, hsz', hk⟩ := run_store_list P i.at_.block (i.at_.off + c.length) e fz vs' 0 cur w hh (by omega) (fun k hk1 hk2 => hfz k (by omega) (by omega)) h1'
  simp only [Nat.add_zero] at hk
  refine ⟨w', hr, hone, cur', fz, hg', ⟨rfl, by have := hsp.2; simp only; omega⟩, ?_, ?_, fun j v hj => ?_, fun o ho1 ho2 => hfz o (by simp only at ho1; omega) (by rw [hsz'] at ho2; exact ho2), fun o v ho hov => ?_, hes⟩
  · simp only; omega
  · simp; omega
  · simp only
    rw [hk]
    by_cases hin : j < c.length - off
    · rw [List.getElem?_append_left (by simpa using hin), List.getElem?_drop] at hj
      rw [if_neg (by omega), Nat.add_assoc]
      exact hcell _ v hj
    · rw [List.getElem?_append_right (by simpa using hin)] at hj
      simp only [List.length_drop] at hj
      have hj2 : j - (c.length - off) < vs.length := (List.getElem?_eq_some_iff.1 hj).1
      rw [if_pos ⟨by omega, by omega⟩]
      rw [show i.at_.off + off + j - (i.at_.off + c.length) = j - (c.length - off) by omega]
      exact hvs.get hj
  · simp only [List.length_append, List.length_drop] at ho
    rw [hk, if_neg (by omega)] at hov
    exact hspare o v (by omega) hov

theorem Less.kill_push (H : Heap) (id : Nat) (b : Blk) : Less ((H.kill id).push b) (H.push b) := by
  refine ⟨by simp, fun k bl hk => ?_⟩
  have h1 := Heap.get_push (H.kill id) k b
  have h2 := Heap.get_push H k b
  by_cases e : k = H.next
  · rw [if_pos (by exact e)] at h1 h2; rw [h1] at hk; rw [h2]; exact hk
  · rw [if_neg (by exact e)] at h1 h2; rw [h1, Heap.get_kill] at hk; rw [h2]
    by_cases e2 : k = id
    · rw [if_pos e2] at hk; cases hk
    · rw [if_neg e2] at hk; exact hk

theorem od_append {t t2 e : TypeId} {x y : Operand} {inf : TypeInfo} {z : Value} {td : TypeDesc} {v : Value} {H' : Heap} (ht : P.underlying t = some (.slice e)) (ht2 : P.underlying t2 = some td) (hni : isSeqD td = true) (hok : ElemOk P e inf z)
    (h : aappend e inf (ev A x) (ev A y) H = some (v, H')) : OpDoes P ⟨d, .call ⟨.builtin .append, #[x, y], #[t, t2]⟩, ty, pos, af, g⟩ A H v H' :=
  .of_run fun ρ w s hs he => by
    rw [exec_builtin]
    have hvx := he x (by simp [Op.operands, Call.operands])
    have hvy := he y (by simp [Op.operands, Call.operands])
    suffices hmain : ∃ v' ρ' w', (Builtin.append_ #[t, t2] ty #[s.eval x, s.eval y]).run P w = .ok v' w' ∧ V ρ' v v' ∧ St ρ H w ρ' H' w' ∧ Sim P ρ' H' w' by
      obtain ⟨v', ρ', w', h1, h2, h3, h4⟩ := hmain
      refine ⟨v', ρ', w', ?_, h2, h3, h4⟩
      simp only [builtin, List.map_toArray, List.map_cons, List.map_nil, Sem.run_bind, h1, Result.andThen_ok, Sem.run_pure]
    generalize ev A x = u at hvx h
    generalize ev A y = u2 at hvy h
    generalize s.eval x = x' at hvx
    generalize s.eval y = y' at hvy
    unfold aappend at h
    split at h
    · cases h
    · rename_i m news hsrc
      obtain ⟨hlen, hcl, hcs⟩ := src_rel hs hvy hsrc
      obtain ⟨c', hvl, hfc⟩ := hcs m (Nat.le_refl _)
      rw [List.take_of_length_le (by omega)] at hvl
      have hfw := hfc w (fun _ => rfl)
      have hfd := hfc w.drew (fun _ => rfl)
      split at h
      · rename_i hone
        have hone' : ∀ v ∈ news, v.oneCell' = true := fun v hv => List.all_eq_true.1 hone v hv
        split at h
        · -- nil
          have e1 := hvx.plain_eq rfl
          subst e1
          split at h
          · rename_i hm0
            cases h
            subst hm0
            exact ⟨.slice none 0 0, ρ, w, run_append_in ht ht2 hni hok.info hlen hfw (by omega) (fun a h => by cases h) (fun _ => rfl), .same _ rfl, .refl _ _ _, hs⟩
          · rename_i hm0
            split at h
            · rename_i hbd
              cases h
              have hroom : ¬ 0 + m ≤ 0 := by omega
              have hr := run_append_grows (ty := ty) (old := []) (base := none) (sCap := 0) ht ht2 hni hok.info hok.zero hlen hfd rfl hroom (by omega) (by rw [Nat.zero_add]; exact hbd.2)
              obtain ⟨g1, g2, g3⟩ := hs.grow hok (o := []) (o' := []) (.nil ρ) hvl (need := m) (cap := grownCap w (0 + m) 0 e) (by simpa using hcl) (by have := grownCap_ge w (0 + m) 0 e; omega) (by
                have := grownCap_le_maxLen w (0 + m) 0 e (by simp only [maxLen]; omega)
                simp only [maxLen, UNK] at *; omega)
              rw [Nat.zero_add] at hr g1 g2 g3
              exact ⟨_, _, _, hr, g3, g1, g2⟩
            · cases h
        · rename_i a len cap
          obtain ⟨i, a', cap', g1, g2, g3, g4, g5, g0, g6, g7⟩ := hvx.slice_inv
          obtain ⟨id, off, sp⟩ := a
          simp only at g1 g2 g4 g6 g7 h
          subst g2
          subst g3
          split at h
          · rename_i hm0
            split at h
            · rename_i hcc
              cases h
              subst hm0
              have hnil : c' = [] := by
                have : news = [] := List.length_eq_zero_iff.1 (by simpa using hcl)
                rw [this] at hvl; exact hvl.unnil
              subst hnil
              exact ⟨_, ρ, w, run_append_in ht ht2 hni hok.info hlen hfw (by omega) (fun a _ => rfl) (fun h => by cases h), hvx, .refl _ _ _, hs⟩
            · cases h
          · rename_i hm0
            split at h
            · rename_i c e' ro hg
              split at h
              · rename_i hb
                obtain ⟨hb1, hb2, hb3⟩ := hb
                have hlive := hs.live id _ i hg g1
                obtain ⟨o', k1, k2, k3⟩ := hlive.cellsAt off (len * inf.size) hb1
                have hold : (Builtin.firstCells inf.size len (.slice (some a') len cap')).run P w.drew = .ok o'.toArray w.drew := by
                  by_cases hl0 : len = 0
                  · subst hl0
                    have : o' = [] := List.length_eq_zero_iff.1 (by simpa using k1)
                    subst this
                    simp [Builtin.firstCells, loadCells, loadCellsFrom]
                  · have ha : a' = i.at_.add off := by rcases g4 with h | ⟨h, _⟩; exact h; omega
                    exact run_firstCells_some (P := P) w.drew inf.size len a' len cap' o' k1 (fun j v hj => by rw [ha]; exact k3 j v hj)
                have hgrow : ¬ len + m ≤ cap' → ∃ v' ρ' w', (Builtin.append_ #[t, t2] ty #[.slice (some a') len cap', y']).run P w = .ok v' w' ∧ V ρ' (.slice (some ⟨H.next, 0, none⟩) (len + m) (UNK + inf.size)) v' ∧
                    St ρ H w ρ' (H.push (.cells ((c.drop off).take (len * inf.size) ++ news) e false)) w' ∧ Sim P ρ' (H.push (.cells ((c.drop off).take (len * inf.size) ++ news) e false)) w' := fun hroom => by
                  have hr := run_append_grows (ty := ty) (old := o') ht ht2 hni hok.info hok.zero hlen hfd hold hroom hb2 hb3
                  obtain ⟨g1, g2, g3⟩ := hs.grow hok k2 hvl (need := len + m) (cap := grownCap w (len + m) cap' e) (by rw [k2.1, k1, hcl, Nat.add_mul]) (grownCap_ge w (len + m) cap' e) (by
                    have := grownCap_le_maxLen w (len + m) cap' e (by simp only [maxLen]; omega)
                    simp only [maxLen, UNK] at *; omega)
                  exact ⟨_, _, _, hr, g3, g1, g2⟩
                split at h
                · rename_i hu
                  split at h
                  · rename_i hcnd
                    obtain ⟨hro, he', hz0, hend⟩ := hcnd
                    cases h
                    subst hro
                    subst he'
                    by_cases hroom : len + m ≤ cap'
                    · obtain ⟨hes0, g6'⟩ := g6 hu
                      have hes : i.s = inf.size := by
                        obtain ⟨cur, fz, _, _, _, _, _, _, _, he⟩ := hlive
                        rw [he, hok.cellsOf]
                      have ha : a' = i.at_.add off := by rcases g4 with h | ⟨h, h'⟩; exact h; omega
                      have hfit : c.length + news.length ≤ i.n := by
                        rw [hes] at g6'
                        have : (len + m) * inf.size ≤ cap' * inf.size := Nat.mul_le_mul_right _ hroom
                        rw [Nat.add_mul] at this
                        omega
                      obtain ⟨w', hr, hone1, hbr⟩ := hlive.storeEnd (off := off) hvl (by omega) hz0 hfit hone'
                      obtain ⟨q1, q2⟩ := hs.move (i' := ⟨i.at_.add off, i.n - off, i.s⟩) g1 hg rfl hone1 (by simp [block_add]) (hbr.mono (sub_ext _ hs.none_next) rfl)
                      refine ⟨.slice (some a') (len + m) cap', _, w', run_append_in ht ht2 hni hok.info hlen hfw hroom (fun b hb => ?_) (fun h => by cases h), ?_, q1, q2⟩
                      · cases hb
                        rw [ha, add_add, hend]
                        exact hr
                      · refine .slice H.next 0 (len + m) _ cap' _ a' (ext_same _ _ _) (.inl ?_) hroom g0 (fun _ => ?_) (fun h => by omega)
                        · simp only [add_add, Nat.add_zero]; exact ha
                        · simp only [Nat.zero_add]; exact ⟨by omega, by omega⟩
                    · obtain ⟨v', ρ', w', r1, r2, r3, r4⟩ := hgrow hroom
                      have hdrop : (c.drop off).take (len * inf.size) = c.drop off := List.take_of_length_le (by simp; omega)
                      rw [hdrop] at r3 r4
                      have hless := Less.kill_push H id (.cells (c.drop off ++ news) e' false)
                      exact ⟨v', ρ', w', r1, r2, r3.less hless, r4.less hless⟩
                  · cases h
                · rename_i hu
                  have g7' := g7 (by omega)
                  subst g7'
                  split at h
                  · rename_i hroom
                    split at h
                    · rename_i hcnd
                      cases h
                      obtain ⟨hro, hfit⟩ := hcnd
                      subst hro
                      have ha : a' = i.at_.add off := by rcases g4 with h | ⟨h, h'⟩; exact h; omega
                      obtain ⟨w', hr, hone1, hbr⟩ := hlive.storeList (off := off + len * inf.size) hvl (by rw [hcl]; rw [Nat.add_mul] at hfit; omega) hone'
                      obtain ⟨q1, q2⟩ := hs.setBlk g1 hg rfl hone1 hbr
                      refine ⟨.slice (some a') (len + m) cap', ρ, w', run_append_in ht ht2 hni hok.info hlen hfw hroom (fun b hb => ?_) (fun h => by cases h), ?_, q1, q2⟩
                      · cases hb
                        rw [ha, add_add]
                        exact hr
                      · exact .slice id off (len + m) cap' cap' i a' g1 (.inl ha) hroom g0 (fun h => by omega) (fun _ => rfl)
                    · cases h
                  · rename_i hroom
                    cases h
                    exact hgrow hroom
              · cases h
            · cases h
        · cases h
      · cases h

end
end Go.Ab
