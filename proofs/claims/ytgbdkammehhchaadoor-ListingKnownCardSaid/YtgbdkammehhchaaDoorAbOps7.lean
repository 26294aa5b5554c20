/- Maps with keys that are numbers, strings or bools; strings gone through; copies. -/
import Derived.Test.YtgbdkammehhchaaDoorAbOps6
set_option linter.unusedVariables false
namespace Go.Ab

/-- A key that is told apart at once. -/
noncomputable def keyOk : TypeDesc → Value → Bool
  | .int _, .int _ _ => true
  | .string, .string _ => true
  | .bool, .bool _ => true
  | _, _ => false

/-- A key's entry: its place and its value. -/
noncomputable def afind (d : TypeDesc) (k : Value) : List (Value × Value) → Nat → Option (Option (Nat × Value))
  | [], _ => some none
  | (a, b) :: l, i => bif keyOk d a then (match Instr.sameNow d k a with | some true => some (some (i, b)) | some false => afind d k l (i + 1) | none => none) else none

theorem keyOk_plain {d : TypeDesc} {v : Value} (h : keyOk d v = true) : plain v = true := by cases d <;> cases v <;> simp_all [keyOk, plain]

section
variable {P : Program} {n : Nat} {A : Env} {H : Heap} {d : Option Nat} {ty : TypeId} {pos : String} {af : Array Edge} {g : Option (Nat × Bool)}

theorem run_check {kt : TypeId} {td : TypeDesc} {k : Value} (hd : P.underlying kt = some td) (hk : keyOk td k = true) (e : Bool) (m : Nat) (w : World) : (Instr.checkKey e (m + 1) kt k).run P w = .ok () w := by
  unfold Instr.checkKey
  simp only [Sem.run_bind, run_underlying hd, Result.andThen_ok]
  cases td <;> cases k <;> simp_all [keyOk]

theorem afind_rel {ρ : Ren} {td : TypeDesc} {k : Value} : ∀ (es : List (Value × Value)) (es' : List MapEntry) (i : Nat) (r : Option (Nat × Value)), VL ρ (es.map (·.1)) (es'.map (·.key)) → VL ρ (es.map (·.2)) (es'.map (·.val)) → afind td k es i = some r →
    match r with
    | none => Instr.findNow td k es' i = some none
    | some (j, v) => i ≤ j ∧ ∃ v', Instr.findNow td k es' i = some (some (j, v')) ∧ V ρ v v' ∧ ∃ a, es[j - i]? = some (a, v) ∧ Instr.sameNow td k a = some true ∧ plain a = true
  | [], es', i, r, h1, h2, h => by
    cases h
    have : es' = [] := by
      have := h1.1
      simp at this
      exact List.length_eq_zero_iff.1 this.symm
    subst this
    rfl
  | (a, b) :: es, es', i, r, h1, h2, h => by
    cases es' with
    | nil => have := h1.1; simp at this
    | cons e es' =>
      simp only [List.map_cons] at h1 h2
      obtain ⟨x, xs, ex, hx, hxs⟩ := h1.uncons
      obtain ⟨y, ys, ey, hy, hys⟩ := h2.uncons
      cases ex
      cases ey
      unfold afind at h
      cases hk : keyOk td a with
      | false => rw [hk] at h; cases h
      | true =>
        rw [hk] at h
        simp only [cond_true] at h
        have hke := hx.plain_eq (keyOk_plain hk)
        split at h
        · rename_i hs
          cases h
          refine ⟨Nat.le_refl _, e.val, ?_, hy, a, by simp, hs, keyOk_plain hk⟩
          simp only [Instr.findNow, hke, hs]
        · rename_i hs
          have ih := afind_rel es es' (i + 1) r hxs hys h
          cases r with
          | none => simp only [Instr.findNow, hke, hs]; exact ih
          | some jv =>
            obtain ⟨j, v⟩ := jv
            obtain ⟨q0, v', q1, q2, a1, q3, q4, q5⟩ := ih
            refine ⟨by omega, v', by simp only [Instr.findNow, hke, hs]; exact q1, q2, a1, ?_, q4, q5⟩
            rw [show j - i = (j - (i + 1)) + 1 by omega]
            simpa using q3
        · cases h

theorem run_findNow {kt : TypeId} {td : TypeDesc} {k : Value} {l : List MapEntry} {r : Option (Nat × Value)} (hd : P.underlying kt = some td) (h : Instr.findNow td k l 0 = some r) (w : World) : (Instr.findKey kt k l).run P w = .ok r w := by
  simp only [Instr.findKey, Sem.run_bind, run_underlying hd, Result.andThen_ok, h, Sem.run_pure]

theorem od_makeMap {t : TypeId} : OpDoes P ⟨d, .makeMap t none, ty, pos, af, g⟩ A H (.map (some H.next)) (H.push (.map [])) :=
  .of_run fun ρ w s hs he => by
    obtain ⟨h1, h2⟩ := hs.push (.map #[] 0) (.map []) ⟨⟨w.heap.size, 0, none⟩, 0, 0⟩ rfl ⟨#[], 0, by
      show (w.heap.push (Obj.map #[] 0))[w.heap.size]? = _
      simp, .nil _, .nil _⟩
    refine ⟨.map (some w.heap.size), _, _, ?_, .map H.next _ (ext_same _ _ _), h1, h2⟩
    simp only [execOp, Option.map_none, Instr.makeMap, Sem.run_bind, run_newObj, Result.andThen_ok, Sem.run_pure, World.alloc]

/-- What a map tells of a key. -/
noncomputable def alook (P : Program) (k e : TypeId) (m ix : Value) (ok : Bool) (H : Heap) : Option Value :=
  match P.underlying k, P.info? e with
  | some td, some inf => match inf.zero with
    | some z => bif keyOk td ix && closedV z then
        (match m with
        | .map none => some (bif ok then .tuple #[z, .bool false] else z)
        | .map (some id) => (match H.get id with
          | some (.map es) => (match afind td ix es 0 with
            | some none => some (bif ok then .tuple #[z, .bool false] else z)
            | some (some (_, v)) => some (bif ok then .tuple #[v, .bool true] else v)
            | none => none)
          | _ => none)
        | _ => none)
      else none
    | none => none
  | _, _ => none

theorem V.pair {ρ : Ren} {v v' : Value} (h : V ρ v v') (b : Bool) : V ρ (.tuple #[v, .bool b]) (.tuple #[v', .bool b]) :=
  .tuple _ _ rfl (fun j x x' h1 h2 => by
    rcases j with _ | _ | j
    · simp at h1 h2; subst h1; subst h2; exact h
    · simp at h1 h2; subst h1; subst h2; exact .same _ rfl
    · simp at h1)

theorem od_lookup {t k e : TypeId} {x ix : Operand} {ok : Bool} {v : Value} (ht : P.underlying t = some (.map k e)) (h : alook P k e (ev A x) (ev A ix) ok H = some v) : OpDoes P ⟨d, .lookup t x ix ok, ty, pos, af, g⟩ A H v H :=
  .pure_ fun ρ w s hs he => by
    have hvx := he x (by simp [Op.operands])
    have hvi := he ix (by simp [Op.operands])
    unfold alook at h
    split at h
    · rename_i td inf hk hi
      split at h
      · rename_i z hz
        cases hc : (keyOk td (ev A ix) && closedV z) with
        | false => rw [hc] at h; cases h
        | true =>
          rw [hc] at h
          simp only [cond_true] at h
          simp only [Bool.and_eq_true] at hc
          have hix := hvi.plain_eq (keyOk_plain hc.1)
          have hzv : V ρ z z := .closed hc.2
          split at h
          · rename_i em
            rw [em] at hvx
            have hx := hvx.plain_eq rfl
            cases h
            refine ⟨bif ok then .tuple #[z, .bool false] else z, ?_, by cases ok; exact hzv; exact hzv.pair false⟩
            simp only [execOp, Instr.lookup, hx, hix, Sem.run_bind, run_underlying ht, Result.andThen_ok, Sem.run_pure, run_check hk hc.1 _ 9999, run_findNow hk (l := []) (r := none) rfl, run_zeroValue hi hz]
            cases ok <;> rfl
          · rename_i id em
            rw [em] at hvx
            obtain ⟨i, hi', ex⟩ := hvx.map_inv
            split at h
            · rename_i es hg
              obtain ⟨es', clock, hh, v1, v2⟩ := hs.live id _ i hg hi'
              have hget : (getObj i.at_.block).run P w = .ok (.map es' clock) w := by simp [getObj, Sem.run, hh]
              split at h
              · rename_i hf
                cases h
                have := afind_rel es es'.toList 0 none v1 v2 hf
                refine ⟨bif ok then .tuple #[z, .bool false] else z, ?_, by cases ok; exact hzv; exact hzv.pair false⟩
                simp only [execOp, Instr.lookup, ex, hix, Sem.run_bind, run_underlying ht, Result.andThen_ok, Sem.run_pure, hget, run_check hk hc.1 _ 9999, run_findNow hk this, run_zeroValue hi hz]
                cases ok <;> rfl
              · rename_i j v0 hf
                cases h
                obtain ⟨_, v', q1, q2, _⟩ := afind_rel es es'.toList 0 (some (j, v0)) v1 v2 hf
                refine ⟨bif ok then .tuple #[v', .bool true] else v', ?_, by cases ok; exact q2; exact q2.pair true⟩
                simp only [execOp, Instr.lookup, ex, hix, Sem.run_bind, run_underlying ht, Result.andThen_ok, Sem.run_pure, hget, run_check hk hc.1 _ 9999, run_findNow hk q1]
                cases ok <;> rfl
              · cases h
            · cases h
          · cases h
      · cases h
    · cases h

/-- A map with a key set. -/
noncomputable def aput (P : Program) (k : TypeId) (m ix v : Value) (H : Heap) : Option Heap :=
  match P.underlying k, m with
  | some td, .map (some id) => (match H.get id with
    | some (.map es) => bif keyOk td ix then (match afind td ix es 0 with
        | some none => some (H.set id (.map (es ++ [(ix, v)])))
        | some (some (j, _)) => some (H.set id (.map (es.set j (ix, v))))
        | none => none) else none
    | _ => none)
  | _, _ => none

theorem ba_beq (a b : ByteArray) : (a == b) = (bl a == bl b) := by simp [beq_toListBytes, ByteArray.toList_eq, bl]
theorem ba_eq {a b : ByteArray} (h : (a == b) = true) : b = a := by
  rw [ba_beq] at h
  have h : bl a = bl b := by simpa using h
  rw [← mkS_bl a, ← mkS_bl b, h]
theorem sameNow_eq {td : TypeDesc} {k a : Value} (h : Instr.sameNow td k a = some true) : a = k := by
  cases td <;> cases k <;> cases a <;> simp_all [Instr.sameNow]
  exact ba_eq h

theorem run_put {t k e : TypeId} {m ix v m' ix' v' : Value} {ρ : Ren} {w : World} {H' : Heap} (hs : Sim P ρ H w) (ht : P.underlying t = some (.map k e)) (hm : V ρ m m') (hix : V ρ ix ix') (hv : V ρ v v') (h : aput P k m ix v H = some H') :
    ∃ w', (Instr.mapUpdate t m' ix' v').run P w = .ok () w' ∧ St ρ H w ρ H' w' ∧ Sim P ρ H' w' := by
  unfold aput at h
  split at h
  · rename_i td id hk
    split at h
    · rename_i es hg
      cases hc : keyOk td ix with
      | false => rw [hc] at h; cases h
      | true =>
        rw [hc] at h
        simp only [cond_true] at h
        have hixe := hix.plain_eq (keyOk_plain hc)
        obtain ⟨i, hi', ex⟩ := hm.map_inv
        obtain ⟨es', clock, hh, v1, v2⟩ := hs.live id _ i hg hi'
        have hlt : i.at_.block < w.heap.size := (Array.getElem?_eq_some_iff.1 hh).1
        have hget : (getObj i.at_.block).run P w = .ok (.map es' clock) w := by simp [getObj, Sem.run, hh]
        have hset : ∀ o, (setObj i.at_.block o).run P w = .ok () { w with heap := w.heap.setIfInBounds i.at_.block o } := fun o => by simp [setObj, Sem.run, hh]
        have hone : ∀ o, OneBlk w { w with heap := w.heap.setIfInBounds i.at_.block o } i.at_.block := fun o => ⟨fun k hk => by simp [Array.getElem?_setIfInBounds_ne (Ne.symm hk)], by simp, rfl, rfl, rfl⟩
        split at h
        · rename_i hf
          cases h
          have := afind_rel es es'.toList 0 none v1 v2 hf
          obtain ⟨q1, q2⟩ := hs.setBlk (b' := .map (es ++ [(ix, v)])) hi' hg rfl (hone (.map (es'.push { key := ix, val := v', born := clock }) (clock + 1)))
            ⟨es'.push { key := ix, val := v', born := clock }, clock + 1, by simp [hlt], by simpa using v1.append (.cons (.same ix (keyOk_plain hc)) (.nil ρ)), by simpa using v2.append (.cons hv (.nil ρ))⟩
          refine ⟨_, ?_, q1, q2⟩
          simp only [Instr.mapUpdate, ex, hixe, Sem.run_bind, run_underlying ht, Result.andThen_ok, hget, run_check hk hc _ 9999, run_findNow hk this, hset]
        · rename_i j v0 hf
          cases h
          obtain ⟨_, v1', p1, p2, a, p3, p4, p5⟩ := afind_rel es es'.toList 0 (some (j, v0)) v1 v2 hf
          have ea := sameNow_eq p4
          subst ea
          have hj : j < es.length := (List.getElem?_eq_some_iff.1 p3).1
          obtain ⟨kk, r1, r2⟩ := v1.get (j := j) (x := a) (by rw [List.getElem?_map]; simp only [Nat.sub_zero] at p3; rw [p3]; rfl)
          have r3 := r2.plain_eq p5
          rw [List.getElem?_map] at r1
          have hkey : ((es'[j]?).map (·.key)).getD a = a := by
            rw [← Array.getElem?_toList]
            rw [r1, r3]; rfl
          have hst : (Instr.keyThatStays a a).run P w = .ok a w := by
            have : Instr.sameBits 10000 a a = true := by
              cases td <;> cases a <;> simp_all [keyOk, Instr.sameBits]
              rw [ba_beq]; simp
            simp only [Instr.keyThatStays, this, if_true, Sem.run_pure]
          have hmod : (es'.modify j fun e => { e with key := a, val := v' }).toList = es'.toList.modify j (fun e => { e with key := a, val := v' }) := by simp
          obtain ⟨q1, q2⟩ := hs.setBlk (b' := .map (es.set j (a, v))) hi' hg rfl (hone (.map (es'.modify j fun e => { e with key := a, val := v' }) clock))
            ⟨es'.modify j fun e => { e with key := a, val := v' }, clock, by simp [hlt], by
              have := v1.set (k := j) (x := a) (x' := a) (.same a p5)
              rw [List.map_set, hmod]
              have e1 : List.map (·.key) (es'.toList.modify j (fun e => { e with key := a, val := v' })) = (List.map (·.key) es'.toList).set j a := by
                apply List.ext_getElem?
                intro m
                rw [List.getElem?_map, List.getElem?_modify, List.getElem?_set, List.getElem?_map]
                by_cases hm : j = m
                · subst hm
                  cases he : es'.toList[j]? with
                  | none => rw [he] at r1; simp at r1
                  | some e => have := (List.getElem?_eq_some_iff.1 he).1; simp at this; simp [this]
                · simp [hm]
              rw [e1]; exact this, by
              have := v2.set (k := j) (x := v) (x' := v') hv
              rw [List.map_set, hmod]
              have e1 : List.map (·.val) (es'.toList.modify j (fun e => { e with key := a, val := v' })) = (List.map (·.val) es'.toList).set j v' := by
                apply List.ext_getElem?
                intro m
                rw [List.getElem?_map, List.getElem?_modify, List.getElem?_set, List.getElem?_map]
                by_cases hm : j = m
                · subst hm
                  cases he : es'.toList[j]? with
                  | none => rw [he] at r1; simp at r1
                  | some e => have := (List.getElem?_eq_some_iff.1 he).1; simp at this; simp [this]
                · simp [hm]
              rw [e1]; exact this⟩
          refine ⟨_, ?_, q1, q2⟩
          simp only [Instr.mapUpdate, ex, hixe, Sem.run_bind, run_underlying ht, Result.andThen_ok, hget, run_check hk hc _ 9999, run_findNow hk p1, hkey, hst, hset]
        · cases h
    · cases h
  · cases h

theorem od_mapUpdate {t k e : TypeId} {m ix x : Operand} {H' : Heap} (ht : P.underlying t = some (.map k e)) (h : aput P k (ev A m) (ev A ix) (ev A x) H = some H') : OpDoes P ⟨d, .mapUpdate t m ix x, ty, pos, af, g⟩ A H undef H' :=
  .of_skip fun ρ w s hs he => by
    obtain ⟨w', h1, h2, h3⟩ := run_put hs ht (he m (by simp [Op.operands])) (he ix (by simp [Op.operands])) (he x (by simp [Op.operands])) h
    exact ⟨ρ, w', by simp only [execOp, Sem.run_bind, h1, Result.andThen_ok, Sem.run_pure], h2, h3⟩
theorem od_insert {t k e : TypeId} {m ix x : Operand} {H' : Heap} (ht : P.underlying t = some (.map k e)) (h : aput P k (ev A m) (ev A ix) (ev A x) H = some H') : OpDoes P ⟨d, .insert t m ix x, ty, pos, af, g⟩ A H undef H' :=
  .of_skip fun ρ w s hs he => by
    obtain ⟨w', h1, h2, h3⟩ := run_put hs ht (he m (by simp [Op.operands])) (he ix (by simp [Op.operands])) (he x (by simp [Op.operands])) h
    exact ⟨ρ, w', by simp only [execOp, Sem.run_bind, h1, Result.andThen_ok, Sem.run_pure], h2, h3⟩

/-! ### Strings, gone through -/
theorem od_range {t : TypeId} {x : Operand} {s : ByteArray} (ht : P.underlying t = some .string) (ex : ev A x = .string s) : OpDoes P ⟨d, .range t x, ty, pos, af, g⟩ A H (.pointer (some ⟨H.next, 0, none⟩)) (H.push (.iter s 0)) :=
  .of_run fun ρ w a hs he => by
    have e1 := evalP (he x (by simp [Op.operands])) ex rfl
    obtain ⟨h1, h2⟩ := hs.push (.stringIter s 0) (.iter s 0) ⟨⟨w.heap.size, 0, none⟩, 0, 0⟩ rfl ⟨by
      show (w.heap.push (Obj.stringIter s 0))[w.heap.size]? = _
      simp, rfl⟩
    refine ⟨.pointer (some ⟨w.heap.size, 0, none⟩), _, _, ?_, .ptr H.next 0 _ (ext_same _ _ _), h1, h2⟩
    simp only [execOp, Instr.range, e1, Sem.run_bind, run_underlying ht, Result.andThen_ok, run_newObj, Sem.run_pure, World.alloc]

/-- A string's next rune. -/
noncomputable def anext (H : Heap) (v : Value) : Option (Value × Heap) :=
  match v with
  | .pointer (some a) => bif Nat.beq a.off 0 then (match H.get a.block with
    | some (.iter s p) => if p < s.size then some (.tuple #[.bool true, .int .i64 p, .int .i32 (Utf8.decode s p).1], H.set a.block (.iter s (p + (Utf8.decode s p).2))) else some (.tuple #[.bool false], H)
    | _ => none) else none
  | _ => none

theorem V.closedT {ρ : Ren} {xs : Array Value} (h : xs.all plain = true) : V ρ (.tuple xs) (.tuple xs) := .closed h

theorem od_next {it : Operand} {v : Value} {H' : Heap} (h : anext H (ev A it) = some (v, H')) : OpDoes P ⟨d, .next it true, ty, pos, af, g⟩ A H v H' :=
  .of_run fun ρ w s hs he => by
    have hv := he it (by simp [Op.operands])
    unfold anext at h
    split at h
    · rename_i a ea
      rw [ea] at hv
      cases h0 : Nat.beq a.off 0 with
      | false => rw [h0] at h; cases h
      | true =>
        rw [h0] at h
        simp only [cond_true] at h
        have h0 : a.off = 0 := by simpa [nbeq] using h0
        obtain ⟨i, hi, _, ez⟩ := hv.ptr_inv
        rw [h0] at ez
        split at h
        · rename_i st p hg
          obtain ⟨hh, hoff⟩ := hs.live _ _ i hg hi
          have hadd : i.at_.add 0 = ⟨i.at_.block, 0, i.at_.spot⟩ := by
            unfold Addr.add; simp; obtain ⟨⟨b, o, sp⟩, _, _⟩ := i; simp at hoff ⊢; exact hoff
          rw [hadd] at ez
          have hget : (getObj i.at_.block).run P w = .ok (.stringIter st p) w := by simp [getObj, Sem.run, hh]
          split at h
          · rename_i hp
            cases h
            have hset : ∀ o, (setObj i.at_.block o).run P w = .ok () { w with heap := w.heap.setIfInBounds i.at_.block o } := fun o => by simp [setObj, Sem.run, hh]
            have hlt : i.at_.block < w.heap.size := (Array.getElem?_eq_some_iff.1 hh).1
            obtain ⟨q1, q2⟩ := hs.setBlk (b' := .iter st (p + (Utf8.decode st p).2)) hi hg rfl (w' := { w with heap := w.heap.setIfInBounds i.at_.block (.stringIter st (p + (Utf8.decode st p).2)) })
              ⟨fun k hk => by simp [Array.getElem?_setIfInBounds_ne (Ne.symm hk)], by simp, rfl, rfl, rfl⟩ ⟨by simp [hlt], hoff⟩
            refine ⟨.tuple #[.bool true, .int .i64 p, .int .i32 (Utf8.decode st p).1], ρ, _, ?_, .closedT (by simp [plain]), q1, q2⟩
            simp only [execOp, Instr.next, ez, Sem.run_bind, hget, Result.andThen_ok, hp, if_true, hset, Sem.run_pure, goInt]
          · rename_i hp
            cases h
            refine ⟨.tuple #[.bool false], ρ, w, ?_, .closedT (by simp [plain]), .refl _ _ _, hs⟩
            simp only [execOp, Instr.next, ez, Sem.run_bind, hget, Result.andThen_ok, hp, if_false, Sem.run_pure]
        · cases h
    · cases h

/-! ### Copies -/
noncomputable def acopy (size : Nat) (x y : Value) (H : Heap) : Option (Value × Heap) :=
  match asrc size y H with
  | none => none
  | some (m, news) =>
    match x with
    | .slice none 0 _ => some (.int .i64 0, H)
    | .slice (some a) len _ =>
      if Nat.min m len = 0 then some (.int .i64 0, H) else
      match H.get a.block with
      | some (.cells c e false) =>
        if a.off + Nat.min m len * size ≤ c.length ∧ (news.take (Nat.min m len * size)).all (·.oneCell') = true then some (.int .i64 (Nat.min m len : Nat), H.set a.block (.cells (splice c a.off (news.take (Nat.min m len * size))) e false)) else none
      | _ => none
    | _ => none

theorem od_copy {t t2 e : TypeId} {x y : Operand} {inf : TypeInfo} {v : Value} {H' : Heap} (ht : P.underlying t = some (.slice e)) (hi : P.info? e = some inf) (h : acopy inf.size (ev A x) (ev A y) H = some (v, H')) :
    OpDoes P ⟨d, .call ⟨.builtin .copy, #[x, y], #[t, t2]⟩, ty, pos, af, g⟩ A H v H' :=
  .of_run fun ρ w s hs he => by
    have hvx := he x (by simp [Op.operands, Call.operands])
    have hvy := he y (by simp [Op.operands, Call.operands])
    suffices hmain : ∃ v' ρ' w', (Builtin.copy_ #[t, t2] ty #[s.eval x, s.eval y]).run P w = .ok v' w' ∧ V ρ' v v' ∧ St ρ H w ρ' H' w' ∧ Sim P ρ' H' w' by
      obtain ⟨v', ρ', w', h1, h2, h3, h4⟩ := hmain
      refine ⟨v', ρ', w', ?_, h2, h3, h4⟩
      rw [exec_builtin]
      simp only [builtin, List.map_toArray, List.map_cons, List.map_nil, Sem.run_bind, h1, Result.andThen_ok, Sem.run_pure]
    generalize ev A x = u at hvx h
    generalize ev A y = u2 at hvy h
    generalize s.eval x = x' at hvx
    generalize s.eval y = y' at hvy
    unfold acopy at h
    split at h
    · cases h
    · rename_i m news hsrc
      obtain ⟨hlen, hcl, hcs⟩ := src_rel hs hvy hsrc
      have hdef : ∀ (b : Option Addr) (dl dc : Nat), Builtin.copy_ #[t, t2] ty #[.slice b dl dc, y'] = (do
          let .slice elem ← underlying t | stuck "copy: slice type expected"
          let n := Nat.min (← Builtin.lenOf y') dl
          let cells ← Builtin.firstCells (← sizeOf elem) n y'
          if let some a := b then storeCells a cells.toList
          pure (goInt n)) := fun b dl dc => rfl
      split at h
      · rename_i cap
        cases h
        rw [hvx.plain_eq rfl]
        obtain ⟨c', _, hfc⟩ := hcs 0 (by omega)
        refine ⟨.int .i64 0, ρ, w, ?_, .same _ rfl, .refl _ _ _, hs⟩
        rw [hdef]
        have h0 : Nat.min m 0 = 0 := Nat.min_zero m
        simp only [Sem.run_bind, run_underlying ht, Result.andThen_ok, hlen, run_sizeOf hi, h0, hfc w (fun _ => rfl), Sem.run_pure, goInt]
        rfl
      · rename_i a len cap
        obtain ⟨i, a', cap', g1, g2, g3, g4, g5, g0, g6, g7⟩ := hvx.slice_inv
        rw [g3]
        split at h
        · rename_i h0
          cases h
          obtain ⟨c', hv0, hfc⟩ := hcs 0 (by omega)
          have hc0 : c' = [] := by simp at hv0; exact hv0.unnil
          subst hc0
          refine ⟨.int .i64 0, ρ, w, ?_, .same _ rfl, .refl _ _ _, hs⟩
          rw [hdef]
          simp only [Sem.run_bind, run_underlying ht, Result.andThen_ok, hlen, run_sizeOf hi, h0, hfc w (fun _ => rfl), Sem.run_pure, goInt]
          rfl
        · rename_i h0
          split at h
          · rename_i c e' hg
            split at h
            · rename_i hc
              cases h
              obtain ⟨c', hv0, hfc⟩ := hcs (Nat.min m len) (Nat.min_le_left _ _)
              have hln : len ≠ 0 := fun e => h0 (by rw [e]; exact Nat.min_zero m)
              have ha : a' = i.at_.add a.off := by rcases g4 with h | ⟨h, _⟩; exact h; exact absurd h hln
              have htl : (news.take (Nat.min m len * inf.size)).length = Nat.min m len * inf.size := by
                rw [List.length_take, hcl]
                exact Nat.min_eq_left (Nat.mul_le_mul_right _ (Nat.min_le_left _ _))
              obtain ⟨w', hr, hone, hb⟩ := (hs.live _ _ i hg g1).storeList (off := a.off) hv0 (by rw [htl]; exact hc.1) (fun u hu => List.all_eq_true.1 hc.2 u hu)
              obtain ⟨q1, q2⟩ := hs.setBlk g1 hg rfl hone hb
              refine ⟨.int .i64 (Nat.min m len : Nat), ρ, w', ?_, .same _ rfl, q1, q2⟩
              rw [hdef]
              rw [← ha] at hr
              simp only [Sem.run_bind, run_underlying ht, Result.andThen_ok, hlen, run_sizeOf hi, hfc w (fun _ => rfl), hr, Sem.run_pure, goInt]
            · cases h
          · cases h
      · cases h
end
end Go.Ab
