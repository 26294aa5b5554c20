/- Equality, assertions of types. -/
import Derived.Test.YtgbdkammehhchaaDoorAbFn
import Derived.Lib.Builder
set_option linter.unusedVariables false
namespace Go.Ab

/-- Whether fields are equal, one by one, by a given equality. -/
noncomputable def aeqFields (P : Program) (eq : TypeId → Value → Value → Option Bool) : List Field → Array Value → Array Value → Option Bool
  | [], _, _ => some true
  | fd :: fs, xs, ys =>
    if fd.name = "_" then aeqFields P eq fs xs ys else
    match apart P fd.type xs fd.offset, apart P fd.type ys fd.offset with
    | some a, some b => match eq fd.type a b with
      | some true => aeqFields P eq fs xs ys
      | r => r
    | _, _ => none

/-- Whether two values of a type are equal. -/
noncomputable def aeq (P : Program) : Nat → TypeId → Value → Value → Option Bool
  | 0, _, _, _ => none
  | f + 1, t, x, y =>
    match P.underlying t with
    | some .bool => match x, y with | .bool a, .bool b => some (a == b) | _, _ => none
    | some (.int _) => match x, y with | .int k a, .int k' b => if k = k' then some (a == b) else none | _, _ => none
    | some .string => match x, y with | .string a, .string b => some (bl a == bl b) | _, _ => none
    | some (.pointer q) => match x, y with
      | .pointer none, .pointer b => some b.isNone
      | .pointer (some _), .pointer none => some false
      | .pointer (some a), .pointer (some b) => (match P.info? q with | some j => if j.size ≠ 0 ∧ a.block = b.block ∧ a.off = b.off then some true else none | none => none)
      | _, _ => none
    | some (.slice _) => match x, y with | .slice none _ _, .slice b _ _ => some b.isNone | .slice (some _) _ _, .slice none _ _ => some false | _, _ => none
    | some (.map _ _) => match x, y with | .map none, .map b => some b.isNone | .map (some _), .map none => some false | _, _ => none
    | some (.func _ _ _) => match x, y with | .nilFunc, .nilFunc => some true | .nilFunc, .func _ _ _ => some false | .func _ _ _, .nilFunc => some false | _, _ => none
    | some (.interface _) => match x, y with
      | .nilIface, .nilIface => some true
      | .nilIface, .iface _ _ => some false
      | .iface _ _, .nilIface => some false
      | .iface tx vx, .iface ty vy => if tx = ty then (match P.info? tx with | some inf => if inf.comparable then aeq P f tx vx vy else none | none => none) else some false
      | _, _ => none
    | some (.struct fs) => match x, y with | .agg xs, .agg ys => if P.stoodInHeld t then none else aeqFields P (aeq P f) fs.toList xs ys | _, _ => none
    | _ => none

section
variable {P : Program} {n : Nat} {A : Env} {H : Heap} {d : Option Nat} {ty : TypeId} {pos : String} {af : Array Edge} {g : Option (Nat × Bool)}

theorem V.nilness {ρ : Ren} {x x' : Value} (h : V ρ x x') : (∀ a l c, x = .slice a l c → ∃ a' l' c', x' = .slice a' l' c' ∧ a'.isNone = a.isNone) ∧ (∀ a, x = .pointer a → ∃ a', x' = .pointer a' ∧ a'.isNone = a.isNone) ∧ (∀ a, x = .map a → ∃ a', x' = .map a' ∧ a'.isNone = a.isNone) ∧
    (∀ f a b, x = .func f a b → ∃ f' a' b', x' = .func f' a' b') := by
  cases h with
  | same v hp => exact ⟨fun a l c e => ⟨a, l, c, e, rfl⟩, fun a e => ⟨a, e, rfl⟩, fun a e => ⟨a, e, rfl⟩, fun f a b e => ⟨f, a, b, e⟩⟩
  | _ => simp

theorem aeqFields_sound (w : World) {eq : TypeId → Value → Value → Option Bool} {dd : Nat} {ρ : Ren} (heq : ∀ t x y x' y' b, V ρ x x' → V ρ y y' → eq t x y = some b → (Op.equalIn dd t x' y').run P w = .ok b w) :
    ∀ (fs : List Field) (xs ys xs' ys' : Array Value) (b : Bool), VL ρ xs.toList xs'.toList → VL ρ ys.toList ys'.toList → aeqFields P eq fs xs ys = some b → (Op.eqFields dd xs' ys' fs).run P w = .ok b w
  | [], xs, ys, xs', ys', b, hx, hy, h => by simp [aeqFields] at h; subst h; rfl
  | fd :: fs, xs, ys, xs', ys', b, hx, hy, h => by
    unfold aeqFields at h
    unfold Op.eqFields
    split at h
    · rename_i hn
      rw [if_neg (by simpa using hn)]
      exact aeqFields_sound w heq fs xs ys xs' ys' b hx hy h
    · rename_i hn
      rw [if_pos (by simpa using hn)]
      split at h
      · rename_i a b' ha hb
        obtain ⟨a1, p1, p2⟩ := run_part hx ha w
        obtain ⟨b1, q1, q2⟩ := run_part hy hb w
        simp only [Sem.run_bind, p1, Result.andThen_ok, q1]
        split at h
        · rename_i hr
          rw [heq fd.type a b' a1 b1 true p2 q2 hr]
          simp only [Result.andThen_ok, Bool.not_true, Bool.false_eq_true, if_false]
          exact aeqFields_sound w heq fs xs ys xs' ys' b hx hy h
        · rename_i r hr
          have hb' : b = false := by
            cases b with
            | false => rfl
            | true => exact absurd h hr
          subst hb'
          rw [heq fd.type a b' a1 b1 false p2 q2 h]
          simp
      · cases h

set_option maxHeartbeats 1000000 in
theorem aeq_sound (w : World) : ∀ (f : Nat) (t : TypeId) (ρ : Ren) (x y x' y' : Value) (b : Bool), V ρ x x' → V ρ y y' → aeq P f t x y = some b → ∀ dd, f ≤ dd → (Op.equalIn dd t x' y').run P w = .ok b w
  | 0, t, ρ, x, y, x', y', b, hx, hy, h, dd, hd => by simp [aeq] at h
  | f + 1, t, ρ, x, y, x', y', b, hx, hy, h, dd, hd => by
    obtain ⟨dd, rfl⟩ : ∃ k, dd = k + 1 := ⟨dd - 1, by omega⟩
    unfold aeq at h
    split at h
    · rename_i ht
      split at h
      · cases h; rw [hx.plain_eq rfl, hy.plain_eq rfl]; simp [Op.equalIn, run_underlying ht]
      · cases h
    · rename_i k ht
      split at h
      · split at h
        · rename_i e; subst e; cases h; rw [hx.plain_eq rfl, hy.plain_eq rfl]; simp [Op.equalIn, run_underlying ht]
        · cases h
      · cases h
    · rename_i ht
      split at h
      · cases h; rw [hx.plain_eq rfl, hy.plain_eq rfl]; simp [Op.equalIn, run_underlying ht, beq_toListBytes, ByteArray.toList_eq, bl]
      · cases h
    · rename_i q ht
      split at h
      · cases h
        rw [hx.plain_eq rfl]
        obtain ⟨a', e, e'⟩ := hy.nilness.2.1 _ rfl
        rw [e, ← e']; simp [Op.equalIn, run_underlying ht]
      · cases h
        rw [hy.plain_eq rfl]
        obtain ⟨a', e, e'⟩ := hx.nilness.2.1 _ rfl
        cases a' with
        | none => simp at e'
        | some a' => rw [e]; simp [Op.equalIn, run_underlying ht]
      · rename_i a1 b1
        split at h
        · rename_i j hj
          split at h
          · rename_i hc
            obtain ⟨c1, c2, c3⟩ := hc
            cases h
            obtain ⟨i1, p1, p2, p3⟩ := hx.ptr_inv
            obtain ⟨i2, q1, q2, q3⟩ := hy.ptr_inv
            rw [c2, q1] at p1
            cases p1
            rw [p3, q3, c3]
            simp [Op.equalIn, run_underlying ht, sizeOf, typeInfo, hj, run_sameAddr_same]
          · cases h
        · cases h
      · cases h
    · rename_i q ht
      split at h
      · cases h
        rw [hx.plain_eq rfl]
        obtain ⟨a', l', c', e, e'⟩ := hy.nilness.1 _ _ _ rfl
        rw [e, ← e']; simp [Op.equalIn, run_underlying ht]
      · cases h
        rw [hy.plain_eq rfl]
        obtain ⟨a', l', c', e, e'⟩ := hx.nilness.1 _ _ _ rfl
        cases a' with
        | none => simp at e'
        | some a' => rw [e]; simp [Op.equalIn, run_underlying ht]
      · cases h
    · rename_i q q' ht
      split at h
      · cases h
        rw [hx.plain_eq rfl]
        obtain ⟨a', e, e'⟩ := hy.nilness.2.2.1 _ rfl
        rw [e, ← e']; simp [Op.equalIn, run_underlying ht]
      · cases h
        rw [hy.plain_eq rfl]
        obtain ⟨a', e, e'⟩ := hx.nilness.2.2.1 _ rfl
        cases a' with
        | none => simp at e'
        | some a' => rw [e]; simp [Op.equalIn, run_underlying ht]
      · cases h
    · rename_i q1 q2 q3 ht
      split at h
      · cases h; rw [hx.plain_eq rfl, hy.plain_eq rfl]; simp [Op.equalIn, run_underlying ht]
      · cases h
        obtain ⟨f', a', b', e⟩ := hy.nilness.2.2.2 _ _ _ rfl
        rw [hx.plain_eq rfl, e]; simp [Op.equalIn, run_underlying ht]
      · cases h
        obtain ⟨f', a', b', e⟩ := hx.nilness.2.2.2 _ _ _ rfl
        rw [hy.plain_eq rfl, e]; simp [Op.equalIn, run_underlying ht]
      · cases h
    · rename_i ms ht
      split at h
      · cases h; rw [hx.plain_eq rfl, hy.plain_eq rfl]; simp [Op.equalIn, run_underlying ht]
      · cases h
        obtain ⟨v', e, _⟩ := hy.iface_inv
        rw [hx.plain_eq rfl, e]; simp [Op.equalIn, run_underlying ht]
      · cases h
        obtain ⟨v', e, _⟩ := hx.iface_inv
        rw [hy.plain_eq rfl, e]; simp [Op.equalIn, run_underlying ht]
      · rename_i tx vx ty' vy
        obtain ⟨v1, e1, h1⟩ := hx.iface_inv
        obtain ⟨v2, e2, h2⟩ := hy.iface_inv
        rw [e1, e2]
        split at h
        · rename_i et
          subst et
          split at h
          · rename_i inf hinf
            split at h
            · rename_i hcomp
              have ih := aeq_sound w f tx ρ vx vy v1 v2 b h1 h2 h dd (by omega)
              simp only [Op.equalIn, Sem.run_bind, run_underlying ht, Result.andThen_ok, ne_eq, not_true_eq_false, if_false, typeInfo, run_program, hinf, Sem.run_pure, hcomp, Bool.not_true, Bool.false_eq_true, ih]
            · cases h
          · cases h
        · rename_i et
          cases h
          simp [Op.equalIn, run_underlying ht, et]
      · cases h
    · rename_i fs ht
      split at h
      · rename_i xs ys
        split at h
        · cases h
        · rename_i hst
          obtain ⟨xs', e1, h1⟩ := hx.agg_inv
          obtain ⟨ys', e2, h2⟩ := hy.agg_inv
          rw [e1, e2]
          have hfs : P.fieldsOf t = fs := by simp [Program.fieldsOf, ht]
          rw [run_equalIn_struct w dd t xs' ys' (by rw [hfs]; exact ht) (by simpa using hst), hfs]
          exact aeqFields_sound w (fun t x y x' y' b a1 a2 a3 => aeq_sound w f t ρ x y x' y' b a1 a2 a3 dd (by omega)) fs.toList xs ys xs' ys' b h1 h2 h
      · cases h
    · cases h
noncomputable def notNum : Value → Bool
  | .int _ _ | .string _ | .float _ _ | .complex _ _ _ => false
  | _ => true

noncomputable def isNI : Value → Bool
  | .nilIface => true
  | _ => false
noncomputable def isAg : Value → Bool
  | .agg _ => true
  | _ => false

/-- A constant operand. -/
def isCO : Operand → Bool
  | .const _ => true
  | _ => false

/-- Whether the model's guard of an equality lets it by. -/
noncomputable def guardOk (P : Program) (k : Bool) (t : TypeId) (x y : Value) : Bool := (k || !(isNI x && isNI y)) && !(isAg x && isAg y && P.eqGuardType P.depth t)

/-- Equality of values that are no numbers and no strings. -/
noncomputable def eqBin (P : Program) (k : Bool) (op : BinOp) (t : TypeId) (x y : Value) : Option Value :=
  if notNum x && notNum y && guardOk P k t x y then
    match op with
    | .eql => (aeq P 20 t x y).map .bool
    | .neq => (aeq P 20 t x y).map fun b => .bool !b
    | _ => none
  else none

theorem V.notNum_eq {ρ : Ren} {x x' : Value} (h : V ρ x x') : notNum x' = notNum x := by cases h <;> rfl
theorem V.isNI_eq {ρ : Ren} {x x' : Value} (h : V ρ x x') : isNI x' = isNI x := by cases h <;> rfl
theorem V.isAg_eq {ρ : Ren} {x x' : Value} (h : V ρ x x') : isAg x' = isAg x := by cases h <;> rfl
theorem V.guard_eq {ρ : Ren} {x x' y y' : Value} (k : Bool) (t : TypeId) (h : V ρ x x') (h' : V ρ y y') : guardOk P k t x' y' = guardOk P k t x y := by
  simp only [guardOk, h.isNI_eq, h'.isNI_eq, h.isAg_eq, h'.isAg_eq]

theorem binOp_eql (t : TypeId) (x y : Value) (h : notNum x = true) : binOp .eql t x y = (do pure (.bool (← Op.equal t x y))) := by
  cases x <;> simp [notNum] at h <;> (cases y <;> rfl)
theorem binOp_neq (t : TypeId) (x y : Value) (h : notNum x = true) : binOp .neq t x y = (do pure (.bool (!(← Op.equal t x y)))) := by
  cases x <;> simp [notNum] at h <;> (cases y <;> rfl)
theorem run_guard (op : BinOp) (t : TypeId) (x y : Operand) (a b : Value) (w : World) (h : guardOk P (isCO x || isCO y) t a b = true) : (eqGuard op t x y a b).run P w = .ok () w := by
  by_cases hni : isNI a = true ∧ isNI b = true
  · obtain ⟨h1, h2⟩ := hni
    cases a <;> simp [isNI] at h1
    cases b <;> simp [isNI] at h2
    have hc : (isCO x || isCO y) = true := by
      cases hk : (isCO x || isCO y) with
      | true => rfl
      | false => rw [hk] at h; simp [guardOk, isNI] at h
    cases op <;> first
      | rfl
      | (cases x <;> cases y <;> first | rfl | (simp [isCO] at hc))
  · cases a <;> cases b <;> simp [guardOk, isNI, isAg] at h hni <;> first
      | (cases op <;> rfl)
      | (cases op <;> simp [eqGuard, run_program, h])

theorem od_eq {op : BinOp} {t t' : TypeId} {x y : Operand} {v : Value} (h : eqBin P (isCO x || isCO y) op t (ev A x) (ev A y) = some v) : OpDoes P ⟨d, .binOp op t x y t', ty, pos, af, g⟩ A H v H :=
  .pure_ fun ρ w s hs he => by
    have h1 := he x (by simp [Op.operands])
    have h2 := he y (by simp [Op.operands])
    generalize ev A x = u at h1 h
    generalize ev A y = u2 at h2 h
    have hkey : ∀ b, aeq P 20 t u u2 = some b → (Op.equal t (s.eval x) (s.eval y)).run P w = .ok b w := fun b hb => aeq_sound w 20 t ρ u u2 _ _ b h1 h2 hb 10000 (by omega)
    unfold eqBin at h
    split at h
    · rename_i hc
      simp only [Bool.and_eq_true] at hc
      obtain ⟨⟨c1, c2⟩, c3⟩ := hc
      rw [← h1.notNum_eq] at c1
      rw [← V.guard_eq _ t h1 h2] at c3
      have hgd := run_guard (P := P) op t x y _ _ w c3
      split at h
      · simp only [Option.map_eq_some_iff] at h
        obtain ⟨b, hb, rfl⟩ := h
        refine ⟨.bool b, ?_, .same _ rfl⟩
        simp only [execOp, Sem.run_bind, hgd, Result.andThen_ok, binOp_eql _ _ _ c1, hkey b hb, Sem.run_pure]
      · simp only [Option.map_eq_some_iff] at h
        obtain ⟨b, hb, rfl⟩ := h
        refine ⟨.bool !b, ?_, .same _ rfl⟩
        simp only [execOp, Sem.run_bind, hgd, Result.andThen_ok, binOp_neq _ _ _ c1, hkey b hb, Sem.run_pure]
      · cases h
    · cases h

/-! ### Assertions of types -/

/-- What an assertion to a type gives, where it does not fail outright. -/
noncomputable def aassert (P : Program) (x : Value) (t : TypeId) (ok : Bool) : Option Value :=
  match P.underlying t, P.info? t with
  | some td, some inf =>
    match inf.zero with
    | some z =>
      if closedV z then
        let no : Option Value := if ok then some (.tuple #[z, .bool false]) else none
        let yes (v : Value) : Option Value := some (if ok then .tuple #[v, .bool true] else v)
        match td, x with
        | .interface _, .nilIface => no
        | .interface want, .iface u v =>
          match P.info? u with
          | some iu => match Instr.missingMethod want iu.methods with
            | none => yes (.iface u v)
            | some _ => no
          | none => none
        | _, .nilIface => no
        | _, .iface u v => if u = t then yes v else no
        | _, _ => none
      else none
    | none => none
  | _, _ => none

theorem od_assert {x : Operand} {xt t : TypeId} {ok : Bool} {v : Value} (h : aassert P (ev A x) t ok = some v) : OpDoes P ⟨d, .typeAssert x xt t ok, ty, pos, af, g⟩ A H v H :=
  .pure_ fun ρ w s hs he => by
    have hv := he x (by simp [Op.operands])
    suffices hm : ∃ v', (Instr.typeAssert (s.eval x) xt t ok).run P w = .ok v' w ∧ V ρ v v' by
      obtain ⟨v', h1, h2⟩ := hm
      exact ⟨v', by simp only [execOp, Sem.run_bind, h1, Result.andThen_ok, Sem.run_pure], h2⟩
    generalize ev A x = u at hv h
    generalize s.eval x = u' at hv
    have pair : ∀ {a a' : Value} (b : Bool), V ρ a a' → V ρ (.tuple #[a, .bool b]) (.tuple #[a', .bool b]) := fun b ha => by
      have hl : VL ρ [_, .bool b] [_, .bool b] := .cons ha (.cons (.same (.bool b) rfl) (.nil ρ))
      exact .tuple _ _ rfl (fun j x x' e e' => hl.2 j x x' (by simpa using e) (by simpa using e'))
    unfold aassert at h
    split at h
    · rename_i td inf hu hi
      split at h
      · rename_i z hz
        split at h
        · rename_i hcl
          have hzv := run_zeroValue (P := P) hi hz w
          have hclz : V ρ z z := .closed hcl
          simp only at h
          split at h
          · split at h
            · rename_i hok; cases h; subst hok
              exact ⟨.tuple #[z, .bool false], by simp [Instr.typeAssert, run_underlying hu, hv.plain_eq rfl, hzv], pair false hclz⟩
            · cases h
          · rename_i want u0 v0
            obtain ⟨v1, e1, h1⟩ := hv.iface_inv
            split at h
            · rename_i iu hiu
              split at h
              · rename_i hmm
                cases h
                refine ⟨if ok then .tuple #[.iface u0 v1, .bool true] else .iface u0 v1, ?_, ?_⟩
                · simp [Instr.typeAssert, run_underlying hu, e1, typeInfo, hiu, hmm]
                · cases ok
                  · exact .iface _ _ _ h1
                  · exact pair true (.iface _ _ _ h1)
              · rename_i mm hmm
                split at h
                · rename_i hok; cases h; subst hok
                  exact ⟨.tuple #[z, .bool false], by simp [Instr.typeAssert, run_underlying hu, e1, typeInfo, hiu, hmm, hzv], pair false hclz⟩
                · cases h
            · cases h
          · rename_i hni
            split at h
            · rename_i hok; cases h; subst hok
              refine ⟨.tuple #[z, .bool false], ?_, pair false hclz⟩
              rw [hv.plain_eq rfl]
              cases td <;> first
                | (simp [Instr.typeAssert, run_underlying hu, hzv]; done)
                | (exact absurd rfl (hni _))
            · cases h
          · rename_i u0 v0 hni
            obtain ⟨v1, e1, h1⟩ := hv.iface_inv
            split at h
            · rename_i hut
              cases h
              refine ⟨if ok then .tuple #[v1, .bool true] else v1, ?_, ?_⟩
              · rw [e1]
                cases td <;> first
                  | (simp [Instr.typeAssert, run_underlying hu, hut]; done)
                  | (exact absurd rfl (hni _))
              · cases ok
                · exact h1
                · exact pair true h1
            · rename_i hut
              split at h
              · rename_i hok; cases h; subst hok
                refine ⟨.tuple #[z, .bool false], ?_, pair false hclz⟩
                rw [e1]
                cases td <;> first
                  | (simp [Instr.typeAssert, run_underlying hu, hzv, hut]; done)
                  | (exact absurd rfl (hni _))
              · cases h
          · cases h
        · cases h
      · cases h
    · cases h

end
end Go.Ab
