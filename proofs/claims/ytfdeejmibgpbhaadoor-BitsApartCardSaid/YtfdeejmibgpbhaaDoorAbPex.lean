/- Code made of resolved operations, and what it does, as a proposition. -/
import Derived.Test.YtfdeejmibgpbhaaDoorAbCompOk
import Derived.Test.YtfdeejmibgpbhaaDoorAbJump
set_option linter.unusedVariables false
namespace Go.Ab

structure PO where
  d : Option Nat
  r : R
  g : Option (Nat × Bool)
  s : Bool

inductive PC where
  | skip
  | ops (l : List PO)
  | seq (a b : PC)
  | cond (c : Operand) (a b : PC)
  | block (id : Nat) (b : PC)
  | loop (b : PC)
  | exit (id : Nat)
  | ret

/-! ### Resolving code -/

noncomputable def isLd (o : Oper) : Bool := match o.op with | .load .. => true | _ => false
noncomputable def allocL (o : Oper) : Bool := match o.op with | .alloc .. | .box .. | .makeSlice .. | .buildSlice .. | .convert .. => true | _ => false
noncomputable def isCallF (o : Oper) : Bool := match o.op with | .call ⟨.value _, _, _⟩ => true | _ => false
noncomputable def ldAt (ops : Array Oper) (i : Nat) : Bool := match ops[i]? with | some o => isLd o | none => false
noncomputable def allocAt (ops : Array Oper) (i : Nat) : Bool := match ops[i]? with | some o => allocL o | none => false
noncomputable def callAt (ops : Array Oper) (i : Nat) : Bool := match ops[i]? with | some o => isCallF o | none => false

/-- A call beside which something stands that is not ordered; a load beside which such a call stands. -/
noncomputable def flagged (ops : Array Oper) (ms : List Nat) (k : Nat) : Bool :=
  (sgenAt ops k && (List.range ops.size).any fun i => (ldAt ops i && !(ordered ms i k) && !(ordered ms k i)) || (allocAt ops i && Nat.blt i k && !(ordered ms i k))) ||
  (ldAt ops k && (List.range ops.size).any fun i => sgenAt ops i && !(ordered ms i k) && !(ordered ms k i))

/-- Nothing between two places turns the memory. -/
noncomputable def quiet (ops : Array Oper) (ms : List Nat) (i k : Nat) : Bool :=
  (List.range ops.size).all fun j => !(Nat.blt (Nat.min i k) j && Nat.blt j (Nat.max i k)) || (!(allocAt ops j) && (!(sgenAt ops j) || (flagged ops ms j && callAt ops j)))

noncomputable def isSt (o : Oper) : Bool := match o.op with | .store .. => true | _ => false
noncomputable def stAt (ops : Array Oper) (i : Nat) : Bool := match ops[i]? with | some o => isSt o | none => false
noncomputable def unord (ms : List Nat) (i k : Nat) : Bool := !(ordered ms i k) && !(ordered ms k i)
noncomputable def ldTmp (ops : Array Oper) (i : Nat) : Option Nat := match ops[i]? with | some o => (match o.op with | .load _ (.tmp t) => some t | _ => none) | none => none
/-- The places of loads that stand ahead of a store and are not ordered with it. -/
noncomputable def others (ops : Array Oper) (ms : List Nat) (k : Nat) : List Operand := (List.range k).filterMap fun i => bif ldAt ops i && unord ms i k then (ldTmp ops i).map .tmp else none
/-- Between a load and a store nothing writes where the load looks. -/
noncomputable def calm (ops : Array Oper) (ms : List Nat) (i k : Nat) : Bool :=
  Nat.blt i k && (ldTmp ops i).isSome && (List.range k).all fun j => Nat.blt j i || ((match ops[j]? with | some o => !(o.dst == ldTmp ops i) | none => true) && (!(sgenAt ops j) || (callAt ops j && flagged ops ms j) || (stAt ops j && flagged ops ms j && unord ms i j)))

noncomputable def drawChk (ops : Array Oper) (ms : List Nat) : Bool :=
  (List.range ops.size).all fun k => !(sgenAt ops k) || !(flagged ops ms k) || (callAt ops k && (List.range ops.size).all fun i => !(ldAt ops i) || ordered ms i k || ordered ms k i || quiet ops ms i k) ||
    (stAt ops k && (List.range ops.size).all fun i => (!(ldAt ops i) || ordered ms i k || ordered ms k i || calm ops ms i k) && (!(allocAt ops i) || !(Nat.blt i k) || ordered ms i k))

/-- A store that is not ordered with loads tells which. -/
noncomputable def resolveF (P : Program) (ops : Array Oper) (i : Nat) (o : Oper) : R :=
  match o.op with
  | .store t x y => match P.info? t with | some inf => .stf inf.size x y (others ops (masks ops.toList []) i) | none => resolve1 P o.op
  | _ => resolve1 P o.op
noncomputable def resolve2 (P : Program) (ops : Array Oper) (f : Bool) (i : Nat) (o : Oper) : R := bif f then resolveF P ops i o else resolve1 P o.op

noncomputable def cGuard (n : Nat) (ops : Array Oper) (o : Oper) : Option (Option (Nat × Bool)) :=
  match o.guard with
  | none => some none
  | some (j, want) => match guardSlot ops j with
    | some t => if t < n then some (some (t, want)) else none
    | none => none

noncomputable def compOps (P : Program) (n : Nat) (ops : Array Oper) (fl : Nat → Bool) : List Oper → Nat → Option (List PO)
  | [], _ => some []
  | o :: l, i => if okOp P n o then
      match cGuard n ops o, compOps P n ops fl l (i + 1) with
      | some g, some pl => some (⟨o.dst, resolve2 P ops (fl i) i o, g, fl i⟩ :: pl)
      | _, _ => none
    else none

noncomputable def noGoto : Code → Bool
  | .goto _ => false
  | .seq a b => noGoto a && noGoto b
  | .cond _ a b => noGoto a && noGoto b
  | .block _ b => noGoto b
  | .loop b => noGoto b
  | .scope b => noGoto b
  | .rangeFunc .. => false
  | _ => true

noncomputable def comp (P : Program) (n : Nat) : Code → Option PC
  | .skip => some .skip
  | .label _ => some .skip
  | .ret => some .ret
  | .exit id => some (.exit id)
  | .region _ ops false => (compOps P n ops (fun _ => false) ops.toList 0).map .ops
  | .region _ ops true => if P.follows .mixedOrders && drawOk ops (sgenAt ops) && drawChk ops (masks ops.toList []) then (compOps P n ops (flagged ops (masks ops.toList [])) ops.toList 0).map .ops else none
  | .seq a b => match comp P n a, comp P n b with
    | some .skip, some y => some y
    | some x, some .skip => some x
    | some x, some y => some (.seq x y)
    | _, _ => none
  | .cond c a b => if okArg P n c then (match comp P n a, comp P n b with | some x, some y => some (.cond c x y) | _, _ => none) else none
  | .block id b => (comp P n b).map (.block id)
  | .loop b => (comp P n b).map .loop
  | .scope b => comp P n b
  | _ => none

/-! ### What it does -/

structure Kp where
  ret : Env → Heap → Prop
  ext : Nat → Env → Heap → Prop

def onS (o : Option (Value × Heap)) (k : Value → Heap → Prop) : Prop := ∃ v H', o = some (v, H') ∧ k v H'

/-- No block stands beyond the numbers that are taken. -/
def Heap.Wf (H : Heap) : Prop := ∀ id, H.next ≤ id → H.get id = none
theorem Heap.Wf.lt {H : Heap} (h : H.Wf) {id : Nat} {b : Blk} (hg : H.get id = some b) : id < H.next := by
  rcases Nat.lt_or_ge id H.next with h1 | h1
  · exact h1
  · rw [h id h1] at hg; cases hg
theorem Heap.Wf.push {H : Heap} (h : H.Wf) (b : Blk) : (H.push b).Wf := fun id hid => by
  simp only [Heap.next_push] at hid
  rw [Heap.get_push, if_neg (by omega)]; exact h id (by omega)
theorem Heap.Wf.set {H : Heap} (h : H.Wf) {i : Nat} {b0 : Blk} (hg : H.get i = some b0) (b : Blk) : (H.set i b).Wf := fun id hid => by
  have := h.lt hg
  simp only [Heap.next_set] at hid
  rw [Heap.get_set, if_neg (by omega)]; exact h id hid
theorem Heap.Wf.kill {H : Heap} (h : H.Wf) (i : Nat) : (H.kill i).Wf := fun id hid => by
  simp only [Heap.next_kill] at hid
  rw [Heap.get_kill]
  split
  · rfl
  · exact h id hid

/-- A call that gives so. -/
def CallQ (P : Program) (f : FuncId) (args : List Value) (H : Heap) (k : Value → Heap → Prop) : Prop := H.Wf → ∃ v H', Callable P f args H v H' ∧ H.next ≤ H'.next ∧ H'.Wf ∧ k v H'

/-- Places in different blocks. -/
def apartV : Value → Value → Prop
  | .pointer (some a), .pointer (some b) => b.block ≠ a.block
  | _, _ => False

def pr (P : Program) (r : R) (s : Bool) (A : Env) (H : Heap) (k : Value → Heap → Prop) : Prop :=
  match r with
  | .call f args => CallQ P f (args.map (ev A)) H fun v H' => (s = true → ∀ id, H'.get id = H.get id) ∧ k v H'
  | .callv c args => match ev A c with
    | .func (.func f) xs ys => CallQ P f (xs.toList ++ args.map (ev A) ++ ys.toList) H fun v H' => (s = true → ∀ id, H'.get id = H.get id) ∧ k v H'
    | _ => False
  | .stf size x y os => onS (rop P (.stf size x y os) A H) fun v H' => (∀ z ∈ os, apartV (ev A x) (ev A z)) ∧ k v H'
  | r => onS (rop P r A H) fun v H' => (s = true → belowV H.next 6 v = true) ∧ k v H'

def pg (g : Option (Nat × Bool)) (A : Env) (yes no : Prop) : Prop :=
  match g with
  | none => yes
  | some (t, w) => match A t with
    | .bool b => if b = w then yes else no
    | .tuple _ => no
    | _ => False

def pops (P : Program) : List PO → (Env → Heap → Prop) → Env → Heap → Prop
  | [], k, A, H => k A H
  | o :: l, k, A, H => pg o.g A (pr P o.r o.s A H fun v H' => pops P l k (updO A o.d v) H') (pops P l k (updO A o.d undef) H)

def pexec (P : Program) : PC → Kp → (Env → Heap → Prop) → Env → Heap → Prop
  | .skip, _, k, A, H => k A H
  | .ops l, _, k, A, H => pops P l k A H
  | .seq a b, ks, k, A, H => pexec P a ks (pexec P b ks k) A H
  | .cond c a b, ks, k, A, H => match ev A c with
    | .bool t => (t = true → pexec P a ks k A H) ∧ (t = false → pexec P b ks k A H)
    | _ => False
  | .block id b, ks, k, A, H => pexec P b ⟨ks.ret, fun j => if j = id then k else ks.ext j⟩ k A H
  | .loop b, ks, k, A, H => ∃ I : Nat → Env → Heap → Prop, (∃ m, I m A H) ∧ ∀ m A' H', I m A' H' → pexec P b ks (fun A'' H'' => ∃ m', m' < m ∧ I m' A'' H'') A' H'
  | .exit id, ks, _, A, H => ks.ext id A H
  | .ret, ks, _, A, H => ks.ret A H

/-! ### Soundness -/
section
variable {P : Program} {n : Nat}

theorem noCall_ok : CallOk P noCall := fun f args H v H' h => by cases h

theorem aop_op (call : CallF) (o : Oper) (A : Env) (H : Heap) : aop P call o A H = aop P call ⟨none, o.op, 0, "", #[], none⟩ A H := rfl

theorem pureR_cls {H H' : Heap} {r : Option Value} {c : Cls} {v : Value} (h : pureR H r = some (c, v, H')) : c = .pure ∧ H' = H := by
  obtain ⟨_, h1, h2⟩ := pureR_some h; exact ⟨h1, h2⟩

theorem cond_some {α : Type} {b : Bool} {x : Option α} {y : α} (h : (bif b then x else none) = some y) : x = some y := by cases b <;> simp_all

theorem aappend_next {e : TypeId} {inf : TypeInfo} {s x : Value} {H H' : Heap} {v : Value} (h : aappend e inf s x H = some (v, H')) : H.next ≤ H'.next ∧ (H.Wf → H'.Wf) := by
  unfold aappend at h
  repeat' (split at h)
  all_goals first
    | (cases h; done)
    | (simp only [Option.some.injEq, Prod.mk.injEq] at h; obtain ⟨_, rfl⟩ := h; refine ⟨by simp, fun hw => ?_⟩
       first
         | exact hw
         | exact hw.push _
         | exact (hw.kill _).push _
         | exact hw.set (by assumption) _)

/-- What an operation is, by the text. -/
structure Syn (o : Oper) (H H' : Heap) (c : Cls) : Prop where
  gen : isGen c = true → sgen o = true
  load : c = .load → isLd o = true
  alloc : ∀ b, c = .alloc b → allocL o = true
  next : H.next ≤ H'.next
  wf : H.Wf → H'.Wf

theorem aop_syn {o : Oper} {A : Env} {H H' : Heap} {c : Cls} {v : Value} (h : aop P noCall o A H = some (c, v, H')) : Syn o H H' c := by
  obtain ⟨dst, op, ty, pos, af, g⟩ := o
  have hs : ∀ {u : Value}, some (Cls.pure, u, H) = some (c, v, H') → Syn ⟨dst, op, ty, pos, af, g⟩ H H' c := fun h => by
    simp only [Option.some.injEq, Prod.mk.injEq] at h
    obtain ⟨rfl, _, rfl⟩ := h
    exact ⟨fun h => (by cases h), fun h => (by cases h), fun b h => (by cases h), Nat.le_refl _, id⟩
  have hp : ∀ {r : Option Value}, pureR H r = some (c, v, H') → Syn ⟨dst, op, ty, pos, af, g⟩ H H' c := fun {r} h => by
    obtain ⟨rfl, rfl⟩ := pureR_cls h
    exact ⟨fun h => (by cases h), fun h => (by cases h), fun b h => (by cases h), Nat.le_refl _, id⟩
  have ha : ∀ {b : Blk} {u : Value}, allocL ⟨dst, op, ty, pos, af, g⟩ = true → some (Cls.alloc b, u, H.push b) = some (c, v, H') → Syn ⟨dst, op, ty, pos, af, g⟩ H H' c := fun hl h => by
    simp only [Option.some.injEq, Prod.mk.injEq] at h
    obtain ⟨rfl, _, rfl⟩ := h
    exact ⟨fun h => (by cases h), fun h => (by cases h), fun b _ => hl, by simp, fun hw => hw.push _⟩
  unfold aop at h
  split at h
  case h_1 hop => exact hs h
  case h_2 hop => exact hs h
  case h_3 hop =>
    unfold a_pick at h
    split at h
    · exact hs h
    · cases h
  case h_4 hop => exact hs (cond_some h)
  case h_5 hop => exact hp h
  case h_6 hop => exact hp h
  case h_7 hop =>
    unfold a_convert at h
    simp only at hop
    split at h
    · split at h
      · split at h
        · exact ha (by subst hop; rfl) (cond_some h)
        · cases h
      · cases h
    · exact hp h
  case h_8 hop =>
    unfold a_makeInterface at h
    split at h
    · cases h
    · exact hs h
    · cases h
  case h_9 hop => exact hs (cond_some h)
  case h_10 hop =>
    unfold a_field at h
    repeat' (split at h)
    all_goals first | exact hp h | cases h
  case h_11 hop =>
    unfold a_fieldAddr at h
    repeat' (split at h)
    all_goals first
      | (cases h; done)
      | (revert h; cases hz : Nat.beq _ 0 <;> intro h <;> first | exact hs h | cases h)
  case h_12 hop =>
    unfold a_indexAddr at h
    repeat' (split at h)
    all_goals first | exact hs h | cases h
  case h_13 hop =>
    unfold a_index at h
    repeat' (split at h)
    all_goals first | exact hs h | exact hp h | cases h
  case h_14 hop =>
    unfold a_extract at h
    split at h
    · exact hp h
    · cases h
  case h_15 hop => exact hp h
  case h_16 hop =>
    unfold a_build at h
    repeat' (split at h)
    all_goals first | (cases h; done) | exact hp (cond_some h)
  case h_17 hop =>
    simp only at hop
    unfold a_buildSlice at h
    split at h
    · split at h
      · split at h
        · have h := cond_some h
          split at h
          · exact ha (by subst hop; rfl) h
          · cases h
        · cases h
      · cases h
    · cases h
  case h_18 hop =>
    simp only at hop
    unfold a_alloc at h
    split at h
    · split at h
      · exact ha (by subst hop; rfl) (cond_some h)
      · cases h
    · cases h
  case h_19 hop => simp only at hop; unfold a_box at h; exact ha (by subst hop; rfl) h
  case h_20 hop =>
    simp only at hop
    unfold a_makeSlice at h
    repeat' (split at h)
    all_goals first | (cases h; done) | exact ha (by subst hop; rfl) h
  case h_21 hop =>
    unfold a_slice at h
    repeat' (split at h)
    all_goals first | exact hs h | exact hp h | cases h
  case h_22 hop =>
    simp only at hop
    unfold a_load at h
    repeat' (split at h)
    all_goals first
      | (cases h; done)
      | (simp only [Option.some.injEq, Prod.mk.injEq] at h
         obtain ⟨rfl, _, rfl⟩ := h
         exact ⟨fun h => (by cases h), fun _ => (by subst hop; rfl), fun b h => (by cases h), Nat.le_refl _, id⟩)
  case h_23 hop =>
    simp only at hop
    unfold a_store at h
    split at h
    · split at h
      · rename_i H1 hst
        simp only [Option.some.injEq, Prod.mk.injEq] at h
        obtain ⟨rfl, _, rfl⟩ := h
        have hst2 : H.next ≤ H1.next ∧ (H.Wf → H1.Wf) := by
          unfold astore at hst
          split at hst
          · rename_i hg
            split at hst
            · cases hst; exact ⟨by simp, fun hw => hw.set hg _⟩
            · cases hst
          · cases hst
        exact ⟨fun _ => (by subst hop; rfl), fun h => (by cases h), fun b h => (by cases h), hst2.1, hst2.2⟩
      · cases h
    · cases h
  case h_24 cl hop =>
    simp only at hop
    unfold a_call at h
    split at h
    · split at h
      · split at h
        · exact hs h
        · cases h
      · split at h
        · exact hs (cond_some h)
        · cases h
      · split at h
        · split at h
          · exact hs h
          · cases h
        · cases h
      · split at h
        · split at h
          · exact hs h
          · cases h
        · cases h
      · split at h
        · split at h
          · split at h
            · have h := cond_some h
              simp only [Option.map_eq_some_iff, Prod.mk.injEq] at h
              obtain ⟨⟨u, H1⟩, h1, rfl, rfl, rfl⟩ := h
              exact ⟨fun _ => (by subst hop; rfl), fun h => (by cases h), fun b h => (by cases h), (aappend_next h1).1, (aappend_next h1).2⟩
            · cases h
          · cases h
        · cases h
      · cases h
    · simp [noCall] at h
    · split at h
      · simp [noCall] at h
      · cases h
    · cases h
  case h_25 => cases h
end
end Go.Ab
