/- Rules for runs of resolved code over values that are not all known: each rule takes one step. -/
import Derived.Test.YthoanamkoigjeaaGreatDoorAbG
import Derived.Test.YthoanamkoigjeaaGreatDoorAbF
import Derived.Lib.MakeNoZero
set_option linter.unusedVariables false
namespace Go.Ab

/-- The same blocks; more numbers are taken. -/
def Heap.up (H : Heap) (m : Nat) : Heap := ⟨m, H.tr⟩
theorem Heap.get_up (H : Heap) (m id : Nat) : (H.up m).get id = H.get id := Eq.trans rfl rfl
@[simp] theorem Heap.next_up (H : Heap) (m : Nat) : (H.up m).next = m := Eq.trans rfl rfl
@[simp] theorem Heap.up_up (H : Heap) (m m' : Nat) : (H.up m).up m' = H.up m' := rfl
theorem Heap.up_self (H : Heap) : H.up H.next = H := rfl
theorem Less.up {H H1 : Heap} {m : Nat} (hm : H1.next ≤ m) (h : ∀ id b, H.get id = some b → H1.get id = some b) : Less (H.up m) H1 := ⟨hm, h⟩

/-- A temporary. -/
def t (n : Nat) : Operand := .tmp n
def U : Env := fun _ => undef

theorem Zz (A : Env) (d : Nat) (v : Value) : upd A d v d = v := upd_same A d v
theorem upd_other (A : Env) (d n : Nat) (v : Value) (h : n ≠ d) : upd A d v n = A n := upd_ne A v h
theorem Zaa (A : Env) (d n : Nat) (v : Value) : upd A d v n = bif n == d then v else A n := by
  by_cases h : n = d
  · subst h; simp
  · have e : (n == d) = false := beq_false_of_ne h
    rw [upd_ne A v h, e]; rfl
theorem Zad (A : Env) (n : Nat) : ev A (t n) = A n := Eq.trans rfl rfl
theorem Zae (A : Env) (v : Value) : ev A (.const v) = v := Eq.trans rfl rfl
theorem Zaf (A : Env) (g : Nat) : ev A (.global g) = .pointer (some ⟨g, 0, none⟩) := Eq.trans rfl rfl
theorem Zag (A : Env) (f : Nat) : ev A (.func f) = .func (.func f) #[] #[] := Eq.trans rfl rfl
theorem Zab (A : Env) (d : Nat) (v : Value) : updO A (some d) v = upd A d v := Eq.trans rfl rfl
theorem Zac (A : Env) (v : Value) : updO A none v = A := Eq.trans rfl rfl

theorem envOf_getD (l : List Value) (n : Nat) : envOf l n = l.getD n undef := Eq.trans rfl rfl
theorem env0 : envOf [] = U := by funext n; simp [envOf, U]
theorem env1 (a : Value) : envOf [a] = upd U 0 a := by
  funext n
  rcases n with _ | n
  · rw [Zz]; rfl
  · rw [upd_other _ _ _ _ (by omega)]; simp [envOf, U]
theorem env2 (a b : Value) : envOf [a, b] = upd (upd U 0 a) 1 b := by
  funext n
  rcases n with _ | _ | n
  · rw [upd_other _ _ _ _ (by omega), Zz]; rfl
  · rw [Zz]; rfl
  · rw [upd_other _ _ _ _ (by omega), upd_other _ _ _ _ (by omega)]; simp [envOf, U]
theorem env3 (a b c : Value) : envOf [a, b, c] = upd (upd (upd U 0 a) 1 b) 2 c := by
  funext n
  rcases n with _ | _ | _ | n
  · rw [upd_other _ _ _ _ (by omega), upd_other _ _ _ _ (by omega), Zz]; rfl
  · rw [upd_other _ _ _ _ (by omega), Zz]; rfl
  · rw [Zz]; rfl
  · rw [upd_other _ _ _ _ (by omega), upd_other _ _ _ _ (by omega), upd_other _ _ _ _ (by omega)]; simp [envOf, U]
theorem env4 (a b c d : Value) : envOf [a, b, c, d] = upd (upd (upd (upd U 0 a) 1 b) 2 c) 3 d := by
  funext n
  rcases n with _ | _ | _ | _ | n
  · rw [upd_other _ _ _ _ (by omega), upd_other _ _ _ _ (by omega), upd_other _ _ _ _ (by omega), Zz]; rfl
  · rw [upd_other _ _ _ _ (by omega), upd_other _ _ _ _ (by omega), Zz]; rfl
  · rw [upd_other _ _ _ _ (by omega), Zz]; rfl
  · rw [Zz]; rfl
  · rw [upd_other _ _ _ _ (by omega), upd_other _ _ _ _ (by omega), upd_other _ _ _ _ (by omega), upd_other _ _ _ _ (by omega)]; simp [envOf, U]

theorem env5 (a b c d e : Value) : envOf [a, b, c, d, e] = upd (upd (upd (upd (upd U 0 a) 1 b) 2 c) 3 d) 4 e := by
  funext n
  rcases n with _ | _ | _ | _ | _ | n
  · rw [upd_other _ _ _ _ (by omega), upd_other _ _ _ _ (by omega), upd_other _ _ _ _ (by omega), upd_other _ _ _ _ (by omega), Zz]; rfl
  · rw [upd_other _ _ _ _ (by omega), upd_other _ _ _ _ (by omega), upd_other _ _ _ _ (by omega), Zz]; rfl
  · rw [upd_other _ _ _ _ (by omega), upd_other _ _ _ _ (by omega), Zz]; rfl
  · rw [upd_other _ _ _ _ (by omega), Zz]; rfl
  · rw [Zz]; rfl
  · rw [upd_other _ _ _ _ (by omega), upd_other _ _ _ _ (by omega), upd_other _ _ _ _ (by omega), upd_other _ _ _ _ (by omega), upd_other _ _ _ _ (by omega)]; simp [envOf, U]
theorem env6 (a b c d e f : Value) : envOf [a, b, c, d, e, f] = upd (upd (upd (upd (upd (upd U 0 a) 1 b) 2 c) 3 d) 4 e) 5 f := by
  funext n
  rcases n with _ | _ | _ | _ | _ | _ | n
  · rw [upd_other _ _ _ _ (by omega), upd_other _ _ _ _ (by omega), upd_other _ _ _ _ (by omega), upd_other _ _ _ _ (by omega), upd_other _ _ _ _ (by omega), Zz]; rfl
  · rw [upd_other _ _ _ _ (by omega), upd_other _ _ _ _ (by omega), upd_other _ _ _ _ (by omega), upd_other _ _ _ _ (by omega), Zz]; rfl
  · rw [upd_other _ _ _ _ (by omega), upd_other _ _ _ _ (by omega), upd_other _ _ _ _ (by omega), Zz]; rfl
  · rw [upd_other _ _ _ _ (by omega), upd_other _ _ _ _ (by omega), Zz]; rfl
  · rw [upd_other _ _ _ _ (by omega), Zz]; rfl
  · rw [Zz]; rfl
  · rw [upd_other _ _ _ _ (by omega), upd_other _ _ _ _ (by omega), upd_other _ _ _ _ (by omega), upd_other _ _ _ _ (by omega), upd_other _ _ _ _ (by omega), upd_other _ _ _ _ (by omega)]; simp [envOf, U]

section
variable {k : Value → Heap → Prop} {v : Value} {H H' : Heap}
theorem onS_some : onS (some (v, H')) k = k v H' := by
  apply propext
  constructor
  · rintro ⟨v1, H1, h, hk⟩; cases h; exact hk
  · exact fun h => ⟨_, _, rfl, h⟩
theorem onS_none : onS none k = False := by
  apply propext
  constructor
  · rintro ⟨v1, H1, h, hk⟩; cases h
  · exact fun h => h.elim
theorem onS_ite {c : Prop} [Decidable c] {a : Option (Value × Heap)} : onS (if c then a else none) k = (c ∧ onS a k) := by
  by_cases h : c
  · simp [h]
  · simp [h, onS_none]
theorem onS_optV {r : Option Value} : onS (optV H r) k = ∃ v, r = some v ∧ k v H := by
  cases r with
  | none => simp [optV, onS_none]
  | some u => simp [optV, onS_some]
end

/-! ### Code -/
section
variable {P : Program}

/-- What follows an operation. -/
def popsK (P : Program) (l : List PO) (k : Env → Heap → Prop) (A : Env) (d : Option Nat) (v : Value) (H : Heap) : Prop := pops P l k (updO A d v) H
theorem Zt (l : List PO) (k : Env → Heap → Prop) (A : Env) (d : Nat) (v : Value) (H : Heap) : popsK P l k A (some d) v H = pops P l k (upd A d v) H := Eq.trans rfl rfl
theorem Zu (l : List PO) (k : Env → Heap → Prop) (A : Env) (v : Value) (H : Heap) : popsK P l k A none v H = pops P l k A H := Eq.trans rfl rfl

/-- An operation that a test may leave out. -/
def gB (b : Bool) (P : Program) (r : R) (s : Bool) (l : List PO) (k : Env → Heap → Prop) (A : Env) (d : Option Nat) (H : Heap) : Prop :=
  (b = true → pr P r s A H (popsK P l k A d)) ∧ (b = false → pops P l k (updO A d undef) H)
def gV (v : Value) (w : Bool) (P : Program) (r : R) (s : Bool) (l : List PO) (k : Env → Heap → Prop) (A : Env) (d : Option Nat) (H : Heap) : Prop :=
  match v with
  | .bool b => gB (b == w) P r s l k A d H
  | .tuple _ => pops P l k (updO A d undef) H
  | _ => False
theorem Zx (r : R) (s : Bool) (l : List PO) (k : Env → Heap → Prop) (A : Env) (d : Option Nat) (H : Heap) : gB true P r s l k A d H = pr P r s A H (popsK P l k A d) := by simp [gB]
theorem Zy (r : R) (s : Bool) (l : List PO) (k : Env → Heap → Prop) (A : Env) (d : Option Nat) (H : Heap) : gB false P r s l k A d H = pops P l k (updO A d undef) H := by simp [gB]
theorem Zv (b w : Bool) (r : R) (s : Bool) (l : List PO) (k : Env → Heap → Prop) (A : Env) (d : Option Nat) (H : Heap) : gV (.bool b) w P r s l k A d H = gB (b == w) P r s l k A d H := Eq.trans rfl rfl
theorem Zw (w : Bool) (r : R) (s : Bool) (l : List PO) (k : Env → Heap → Prop) (A : Env) (d : Option Nat) (H : Heap) : gV undef w P r s l k A d H = pops P l k (updO A d undef) H := Eq.trans rfl rfl
theorem bt (b : Bool) : (b == true) = b := by cases b <;> rfl
theorem bf (b : Bool) : (b == false) = !b := by cases b <;> rfl

theorem Zq (k : Env → Heap → Prop) (A : Env) (H : Heap) : pops P [] k A H = k A H := Eq.trans rfl rfl
theorem Zr (d : Option Nat) (r : R) (s : Bool) (l : List PO) (k : Env → Heap → Prop) (A : Env) (H : Heap) : pops P (⟨d, r, none, s⟩ :: l) k A H = pr P r s A H (popsK P l k A d) := Eq.trans rfl rfl
theorem Zs (d : Option Nat) (r : R) (n : Nat) (w s : Bool) (l : List PO) (k : Env → Heap → Prop) (A : Env) (H : Heap) : pops P (⟨d, r, some (n, w), s⟩ :: l) k A H = gV (A n) w P r s l k A d H := by
  show pg (some (n, w)) A (pr P r s A H (popsK P l k A d)) (pops P l k (updO A d undef) H) = _
  show (match A n with | .bool b => if b = w then pr P r s A H (popsK P l k A d) else pops P l k (updO A d undef) H | .tuple _ => pops P l k (updO A d undef) H | _ => False) = _
  unfold gV
  cases A n <;> try rfl
  rename_i b
  cases b <;> cases w <;> simp [gB]

theorem Za (ks : Kp) (k : Env → Heap → Prop) (A : Env) (H : Heap) : pexec P .skip ks k A H = k A H := Eq.trans rfl rfl
theorem Zd (ks : Kp) (k : Env → Heap → Prop) (A : Env) (H : Heap) : pexec P .ret ks k A H = ks.ret A H := Eq.trans rfl rfl
theorem Ze (id : Nat) (ks : Kp) (k : Env → Heap → Prop) (A : Env) (H : Heap) : pexec P (.exit id) ks k A H = ks.ext id A H := Eq.trans rfl rfl
theorem Zf (l : List PO) (ks : Kp) (k : Env → Heap → Prop) (A : Env) (H : Heap) : pexec P (.ops l) ks k A H = pops P l k A H := Eq.trans rfl rfl
theorem Zg (a b : PC) (ks : Kp) (k : Env → Heap → Prop) (A : Env) (H : Heap) : pexec P (.seq a b) ks k A H = pexec P a ks (pexec P b ks k) A H := Eq.trans rfl rfl

theorem Zb (l : Nat) (ks : Kp) (k : Env → Heap → Prop) (A : Env) (H : Heap) : pexec P (.label l) ks k A H = k A H := Eq.trans rfl rfl
theorem Zc (l : Nat) (ks : Kp) (k : Env → Heap → Prop) (A : Env) (H : Heap) : pexec P (.goto l) ks k A H = ks.ext (J0 + l) A H := Eq.trans rfl rfl
theorem pexec_bad (ks : Kp) (k : Env → Heap → Prop) (A : Env) (H : Heap) : pexec P .bad ks k A H = False := Eq.trans rfl rfl
theorem jmK_this (l : Nat) (I : Nat → Env → Heap → Prop) (m : Nat) (e : Nat → Env → Heap → Prop) (A : Env) (H : Heap) : jmK l I m e (J0 + l) A H = ∃ m', m' < m ∧ I m' A H := by simp [jmK]
theorem jmK_exit (l j : Nat) (I : Nat → Env → Heap → Prop) (m : Nat) (e : Nat → Env → Heap → Prop) (A : Env) (H : Heap) (h : j < 1000000) : jmK l I m e j A H = e j A H := by
  unfold jmK; rw [if_neg (by unfold J0; omega)]
theorem scope_intro {b r : PC} {l : Nat} {ks : Kp} {k : Env → Heap → Prop} {A : Env} {H : Heap} (I : Nat → Env → Heap → Prop) (m : Nat) (h0 : pexec P b ⟨ks.ret, jmK l I m ks.ext⟩ k A H) (h : ∀ m A' H', I m A' H' → pexec P r ⟨ks.ret, jmK l I m ks.ext⟩ k A' H') : pexec P (.scope b l r) ks k A H :=
  ⟨I, ⟨m, h0⟩, h⟩

/-- Ends of a block. -/
def exK (id : Nat) (k : Env → Heap → Prop) (e : Nat → Env → Heap → Prop) (j : Nat) : Env → Heap → Prop := if j = id then k else e j
theorem Zk (id : Nat) (k : Env → Heap → Prop) (e : Nat → Env → Heap → Prop) (A : Env) (H : Heap) : exK id k e id A H = k A H := by simp [exK]
theorem Zl (id j : Nat) (k : Env → Heap → Prop) (e : Nat → Env → Heap → Prop) (A : Env) (H : Heap) (h : j ≠ id) : exK id k e j A H = e j A H := by simp [exK, h]
theorem exK_jmp (id l : Nat) (k : Env → Heap → Prop) (e : Nat → Env → Heap → Prop) (A : Env) (H : Heap) (h : id < 1000000) : exK id k e (J0 + l) A H = e (J0 + l) A H := Zl _ _ _ _ _ _ (by unfold J0; omega)
def noEx : Nat → Env → Heap → Prop := fun _ _ _ => False
theorem Zh (id : Nat) (b : PC) (ks : Kp) (k : Env → Heap → Prop) (A : Env) (H : Heap) : pexec P (.block id b) ks k A H = pexec P b ⟨ks.ret, exK id k ks.ext⟩ k A H := Eq.trans rfl rfl
theorem Zi (r : Env → Heap → Prop) (e : Nat → Env → Heap → Prop) : (Kp.mk r e).ret = r := Eq.trans rfl rfl
theorem Zj (r : Env → Heap → Prop) (e : Nat → Env → Heap → Prop) : (Kp.mk r e).ext = e := Eq.trans rfl rfl

def cB (b : Bool) (P : Program) (x y : PC) (ks : Kp) (k : Env → Heap → Prop) (A : Env) (H : Heap) : Prop := (b = true → pexec P x ks k A H) ∧ (b = false → pexec P y ks k A H)
def cV (v : Value) (P : Program) (x y : PC) (ks : Kp) (k : Env → Heap → Prop) (A : Env) (H : Heap) : Prop := match v with
  | .bool b => cB b P x y ks k A H
  | _ => False
theorem Zm (c : Operand) (x y : PC) (ks : Kp) (k : Env → Heap → Prop) (A : Env) (H : Heap) : pexec P (.cond c x y) ks k A H = cV (ev A c) P x y ks k A H := Eq.trans rfl rfl
theorem Zn (b : Bool) (x y : PC) (ks : Kp) (k : Env → Heap → Prop) (A : Env) (H : Heap) : cV (.bool b) P x y ks k A H = cB b P x y ks k A H := Eq.trans rfl rfl
theorem Zo (x y : PC) (ks : Kp) (k : Env → Heap → Prop) (A : Env) (H : Heap) : cB true P x y ks k A H = pexec P x ks k A H := by simp [cB]
theorem Zp (x y : PC) (ks : Kp) (k : Env → Heap → Prop) (A : Env) (H : Heap) : cB false P x y ks k A H = pexec P y ks k A H := by simp [cB]

/-! ### Operations -/
variable {k : Value → Heap → Prop} {A : Env} {H : Heap}

/-- What must be asked besides. -/
def flK (H : Heap) (k : Value → Heap → Prop) (v : Value) (H' : Heap) : Prop := belowV H.next 6 v = true ∧ k v H'
theorem Zdy (H : Heap) (k : Value → Heap → Prop) (v : Value) (H' : Heap) : flK H k v H' = (belowV H.next 6 v = true ∧ k v H') := Eq.trans rfl rfl
def stK (H : Heap) (k : Value → Heap → Prop) (v : Value) (H' : Heap) : Prop := (∀ id, H'.get id = H.get id) ∧ k v H'
theorem Zdz (H : Heap) (k : Value → Heap → Prop) (v : Value) (H' : Heap) : stK H k v H' = ((∀ id, H'.get id = H.get id) ∧ k v H') := Eq.trans rfl rfl

theorem onS_fl (r : Option (Value × Heap)) : onS r (fun v H' => (false = true → belowV H.next 6 v = true) ∧ k v H') = onS r k := by
  congr 1; funext v H'; simp
theorem onS_fl' (r : Option (Value × Heap)) : onS r (fun v H' => (true = true → belowV H.next 6 v = true) ∧ k v H') = onS r (flK H k) := by
  congr 1; funext v H'; simp [flK]

theorem Zdm (f : FuncId) (l : List Operand) : pr P (.call f l) false A H k = CallQ P f (l.map (ev A)) H k := by
  show CallQ P f (l.map (ev A)) H (fun v H' => (false = true → ∀ id, H'.get id = H.get id) ∧ k v H') = _
  congr 1; funext v H'; simp
theorem Zdo (f : FuncId) (l : List Operand) : pr P (.call f l) true A H k = CallQ P f (l.map (ev A)) H (stK H k) := by
  show CallQ P f (l.map (ev A)) H (fun v H' => (true = true → ∀ id, H'.get id = H.get id) ∧ k v H') = _
  congr 1; funext v H'; simp [stK]
/-- What a call leaves that stands beside loads. -/
def kpK (H : Heap) (k : Value → Heap → Prop) (v : Value) (H' : Heap) : Prop := EqB H H' ∧ k v H'
theorem Zdu (H : Heap) (k : Value → Heap → Prop) (v : Value) (H' : Heap) : kpK H k v H' = (EqB H H' ∧ k v H') := Eq.trans rfl rfl
def lowL (n : Nat) : List Value → Prop
  | [] => True
  | v :: l => lowV n v ∧ lowL n l
theorem Zdv (n : Nat) : lowL n [] = True := Eq.trans rfl rfl
theorem Zdw (n : Nat) (v : Value) (l : List Value) : lowL n (v :: l) = (lowV n v ∧ lowL n l) := Eq.trans rfl rfl
theorem Zdx (n b o : Nat) : lowV n (.pointer (some ⟨b, o, none⟩)) = (b < n) := Eq.trans rfl rfl
theorem lowV_slice (n b o l c : Nat) : lowV n (.slice (some ⟨b, o, none⟩) l c) = (b < n) := Eq.trans rfl rfl
theorem lowL_iff (n : Nat) (f : Operand → Value) : ∀ l : List Operand, (∀ z ∈ l, lowV n (f z)) ↔ lowL n (l.map f)
  | [] => ⟨fun _ => trivial, fun _ _ h => by cases h⟩
  | x :: l => by
    have ih := lowL_iff n f l
    simp only [List.mem_cons, forall_eq_or_imp, List.map_cons, lowL, ih]
theorem Zdp (f : FuncId) (l os : List Operand) (s : Bool) : pr P (.callF f l os) s A H k = (lowL H.next (os.map (ev A)) ∧ CallQ P f (l.map (ev A)) H (kpK H k)) := by
  show ((∀ z ∈ os, lowV H.next (ev A z)) ∧ CallQ P f (l.map (ev A)) H fun v H' => EqB H H' ∧ k v H') = _
  rw [lowL_iff]
  rfl
def cvK (v : Value) (P : Program) (l : List Value) (H : Heap) (k : Value → Heap → Prop) : Prop := match v with
  | .func (.func f) xs ys => CallQ P f (xs.toList ++ l ++ ys.toList) H k
  | _ => False
theorem cvK_func (f : FuncId) (xs ys l : List Value) : cvK (.func (.func f) xs.toArray ys.toArray) P l H k = CallQ P f (xs ++ l ++ ys) H k := Eq.trans rfl rfl
theorem Zdn (c : Operand) (l : List Operand) : pr P (.callv c l) false A H k = cvK (ev A c) P (l.map (ev A)) H k := by
  show (match ev A c with | .func (.func f) xs ys => CallQ P f (xs.toList ++ l.map (ev A) ++ ys.toList) H (fun v H' => (false = true → ∀ id, H'.get id = H.get id) ∧ k v H') | _ => False) = _
  unfold cvK
  split <;> first | rfl | skip
  congr 1; funext v H'; simp

theorem Zah (x : Operand) : pr P (.mv x) false A H k = k (ev A x) H := (onS_fl _).trans onS_some

def pickK (c x y : Value) (H : Heap) (k : Value → Heap → Prop) : Prop := onS (match c with | .bool b => some (bif b then x else y, H) | _ => none) k
theorem Zai (c x y : Operand) : pr P (.pick c x y) false A H k = pickK (ev A c) (ev A x) (ev A y) H k := onS_fl _
theorem Zaj (b : Bool) (x y : Value) : pickK (.bool b) x y H k = k (bif b then x else y) H := onS_some

def binK (op : BinOp) (x y : Value) (H : Heap) (k : Value → Heap → Prop) : Prop := ∃ v, rbin op x y = some v ∧ k v H
theorem Zak (op : BinOp) (x y : Operand) : pr P (.bin op x y) false A H k = binK op (ev A x) (ev A y) H k := (onS_fl _).trans onS_optV
theorem binK_some {op : BinOp} {x y v : Value} (h : rbin op x y = some v) : binK op x y H k = k v H := by
  apply propext
  constructor
  · rintro ⟨u, h1, h2⟩; rw [h] at h1; cases h1; exact h2
  · exact fun hk => ⟨v, h, hk⟩
theorem Zal (ik : IntKind) (a b : Int) : binK .add (.int ik a) (.int ik b) H k = k (.int ik (ik.wrap (a + b))) H := binK_some (by simp [rbin, intBin])
theorem Zam (ik : IntKind) (a b : Int) : binK .sub (.int ik a) (.int ik b) H k = k (.int ik (ik.wrap (a - b))) H := binK_some (by simp [rbin, intBin])
theorem Zan (ik : IntKind) (a b : Int) : binK .mul (.int ik a) (.int ik b) H k = k (.int ik (ik.wrap (a * b))) H := binK_some (by simp [rbin, intBin])
theorem Zao (ik : IntKind) (a b : Int) : binK .and (.int ik a) (.int ik b) H k = k (.int ik (ik.wrap (BitVec.ofInt ik.bits a &&& BitVec.ofInt ik.bits b).toNat)) H := binK_some (by simp [rbin, intBin])
theorem Zap (ik : IntKind) (a b : Int) : binK .or (.int ik a) (.int ik b) H k = k (.int ik (ik.wrap (BitVec.ofInt ik.bits a ||| BitVec.ofInt ik.bits b).toNat)) H := binK_some (by simp [rbin, intBin])
theorem Zaq (ik : IntKind) (a b : Int) : binK .xor (.int ik a) (.int ik b) H k = k (.int ik (ik.wrap (BitVec.ofInt ik.bits a ^^^ BitVec.ofInt ik.bits b).toNat)) H := binK_some (by simp [rbin, intBin])
theorem Zar (ik : IntKind) (a b : Int) : binK .andNot (.int ik a) (.int ik b) H k = k (.int ik (ik.wrap (BitVec.ofInt ik.bits a &&& ~~~BitVec.ofInt ik.bits b).toNat)) H := binK_some (by simp [rbin, intBin])
theorem Zas (ik : IntKind) (a b : Int) : binK .eql (.int ik a) (.int ik b) H k = k (.bool (a == b)) H := binK_some (by simp [rbin, intBin])
theorem Zat (ik : IntKind) (a b : Int) : binK .neq (.int ik a) (.int ik b) H k = k (.bool (!(a == b))) H := binK_some (by simp [rbin, intBin, bne])
theorem Zau (ik : IntKind) (a b : Int) : binK .lss (.int ik a) (.int ik b) H k = k (.bool (decide (a < b))) H := binK_some (by simp [rbin, intBin])
theorem Zav (ik : IntKind) (a b : Int) : binK .leq (.int ik a) (.int ik b) H k = k (.bool (decide (a ≤ b))) H := binK_some (by simp [rbin, intBin])
theorem Zaw (ik : IntKind) (a b : Int) : binK .gtr (.int ik a) (.int ik b) H k = k (.bool (decide (b < a))) H := binK_some (by simp [rbin, intBin])
theorem Zax (ik : IntKind) (a b : Int) : binK .geq (.int ik a) (.int ik b) H k = k (.bool (decide (b ≤ a))) H := binK_some (by simp [rbin, intBin])
theorem Zay (ik : IntKind) (a b : Int) : binK .rem (.int ik a) (.int ik b) H k = (b ≠ 0 ∧ k (.int ik (a.tmod b)) H) := by
  unfold binK; by_cases h : b = 0 <;> simp [rbin, intBin, h]
theorem Zaz (ik : IntKind) (a b : Int) : binK .quo (.int ik a) (.int ik b) H k = (b ≠ 0 ∧ k (.int ik (ik.wrap (a.tdiv b))) H) := by
  unfold binK; by_cases h : b = 0 <;> simp [rbin, intBin, h]
theorem Zba (ik ik' : IntKind) (a b : Int) : binK .shl (.int ik a) (.int ik' b) H k = (0 ≤ b ∧ k (.int ik (ik.wrap (a * 2 ^ (min b.toNat ik.bits)))) H) := by
  unfold binK; by_cases h : b < 0
  · simp [rbin, shiftBin, h]; omega
  · simp [rbin, shiftBin, h]; intro _; omega
theorem Zbb (ik ik' : IntKind) (a b : Int) : binK .shr (.int ik a) (.int ik' b) H k = (0 ≤ b ∧ k (.int ik (a.fdiv (2 ^ (min b.toNat ik.bits)))) H) := by
  unfold binK; by_cases h : b < 0
  · simp [rbin, shiftBin, h]; omega
  · simp [rbin, shiftBin, h]; intro _; omega
theorem Zbc (a b : ByteArray) : binK .eql (.string a) (.string b) H k = k (.bool (bl a == bl b)) H := binK_some (by simp [rbin, strBin])
theorem Zbd (a b : ByteArray) : binK .neq (.string a) (.string b) H k = k (.bool (!(bl a == bl b))) H := binK_some (by simp [rbin, strBin])
theorem Zbe (a b : ByteArray) : binK .add (.string a) (.string b) H k = ((bl a).length + (bl b).length ≤ 9223372036854775807 ∧ k (.string (mkS (bl a ++ bl b))) H) := by
  unfold binK; by_cases h : (bl a).length + (bl b).length ≤ 9223372036854775807 <;> simp [rbin, strBin, h]

def beqK (ne : Bool) (x y : Value) (H : Heap) (k : Value → Heap → Prop) : Prop := onS (match x, y with | .bool a, .bool b => some (.bool (bif ne then !(a == b) else a == b), H) | _, _ => none) k
theorem Zbf (ne : Bool) (x y : Operand) : pr P (.beq ne x y) false A H k = beqK ne (ev A x) (ev A y) H k := onS_fl _
theorem Zbg (a b : Bool) : beqK false (.bool a) (.bool b) H k = k (.bool (a == b)) H := onS_some
theorem Zbh (a b : Bool) : beqK true (.bool a) (.bool b) H k = k (.bool (!(a == b))) H := onS_some

/-- Equality of cells, as a list. -/
def eqsK (ne : Bool) (ks : List Sk) (x y : Value) (H : Heap) (k : Value → Heap → Prop) : Prop := onS (match x, y with
  | .agg xs, .agg ys => match eqCells ks xs ys 0 with | some b => some (.bool (bif ne then !b else b), H) | none => none
  | _, _ => none) k
theorem Zbi (ne : Bool) (ks : List Sk) (x y : Operand) : pr P (.eqs ne ks x y) false A H k = eqsK ne ks (ev A x) (ev A y) H k := onS_fl _
theorem eqsK_some {ne : Bool} {ks : List Sk} {xs ys : Array Value} {b : Bool} (h : eqCells ks xs ys 0 = some b) : eqsK ne ks (.agg xs) (.agg ys) H k = k (.bool (bif ne then !b else b)) H := by
  simp only [eqsK, h, onS_some]
theorem eqCells_step {kd : Sk} {ks : List Sk} {xs ys : Array Value} {i : Nat} {a b : Value} {p q : Bool} (ha : xs[i]? = some a) (hb : ys[i]? = some b) (hp : eqSk kd a b = some p) (hq : eqCells ks xs ys (i + 1) = some q) : eqCells (kd :: ks) xs ys i = some (p && q) := by
  unfold eqCells
  rw [ha, hb]
  simp only [hp]
  cases p
  · rfl
  · simp [hq]

def notK (x : Value) (H : Heap) (k : Value → Heap → Prop) : Prop := onS (match x with | .bool b => some (.bool !b, H) | _ => none) k
theorem Zbj (x : Operand) : pr P (.not x) false A H k = notK (ev A x) H k := onS_fl _
theorem Zbk (b : Bool) : notK (.bool b) H k = k (.bool !b) H := onS_some

def toIntK (ik : IntKind) (x : Value) (H : Heap) (k : Value → Heap → Prop) : Prop := onS (match x with | .int _ m => some (.int ik (ik.wrap m), H) | _ => none) k
theorem Zbl (ik : IntKind) (x : Operand) : pr P (.toInt ik x) false A H k = toIntK ik (ev A x) H k := onS_fl _
theorem Zbm (ik ik' : IntKind) (m : Int) : toIntK ik (.int ik' m) H k = k (.int ik (ik.wrap m)) H := onS_some

theorem Zbn (ty : TypeId) (x : Operand) : pr P (.mkIf ty x) false A H k = k (.iface ty (ev A x)) H := (onS_fl _).trans onS_some

def fldK (agg : Bool) (off size : Nat) (x : Value) (H : Heap) (k : Value → Heap → Prop) : Prop := onS (match x with
  | .agg cs => optV H (bif agg then some (.agg (cs.extract off (off + size))) else cs[off]?)
  | _ => none) k
theorem Zbo (agg : Bool) (off size : Nat) (x : Operand) : pr P (.fld agg off size x) false A H k = fldK agg off size (ev A x) H k := onS_fl _
theorem Zbp (off size : Nat) (l : List Value) : fldK false off size (.agg l.toArray) H k = ∃ v, l[off]? = some v ∧ k v H := by
  show onS (optV H l.toArray[off]?) k = _
  rw [onS_optV]; simp
theorem Zbq (off size : Nat) (l : List Value) : fldK true off size (.agg l.toArray) H k = k (.agg ((l.drop off).take size).toArray) H := by
  show onS (optV H (some (.agg (l.toArray.extract off (off + size))))) k = _
  rw [onS_optV]; simp

def fldAK (off : Nat) (x : Value) (H : Heap) (k : Value → Heap → Prop) : Prop := onS (match x with | .pointer (some a) => some (.pointer (some ⟨a.block, a.off + off, none⟩), H) | _ => none) k
theorem Zbr (off : Nat) (x : Operand) : pr P (.fldA off x) false A H k = fldAK off (ev A x) H k := onS_fl _
theorem Zbs (off b o : Nat) : fldAK off (.pointer (some ⟨b, o, none⟩)) H k = k (.pointer (some ⟨b, o + off, none⟩)) H := onS_some

def idxK (size : Nat) (x ix : Value) (H : Heap) (k : Value → Heap → Prop) : Prop := onS (match ix, x with
  | .int _ m, .slice (some a) len _ => if 0 ≤ m ∧ m < len then some (.pointer (some ⟨a.block, a.off + m.toNat * size, none⟩), H) else none
  | _, _ => none) k
theorem Zbt (size : Nat) (x ix : Operand) : pr P (.idxS size x ix) false A H k = idxK size (ev A x) (ev A ix) H k := onS_fl _
theorem Zbu (size : Nat) (ik : IntKind) (m : Int) (b o len cap : Nat) : idxK size (.slice (some ⟨b, o, none⟩) len cap) (.int ik m) H k = ((0 ≤ m ∧ m < len) ∧ k (.pointer (some ⟨b, o + m.toNat * size, none⟩)) H) := by
  show onS (if 0 ≤ m ∧ m < len then some (.pointer (some ⟨b, o + m.toNat * size, none⟩), H) else none) k = _
  rw [onS_ite, onS_some]

def chrK (x ix : Value) (H : Heap) (k : Value → Heap → Prop) : Prop := onS (match ix, x with
  | .int _ m, .string s => if 0 ≤ m then (match (bl s)[m.toNat]? with | some b => some (.int .u8 b.toNat, H) | none => none) else none
  | _, _ => none) k
theorem Zbv (x ix : Operand) : pr P (.chr x ix) false A H k = chrK (ev A x) (ev A ix) H k := onS_fl _
theorem Zbw (ik : IntKind) (m : Int) (s : ByteArray) : chrK (.string s) (.int ik m) H k = (0 ≤ m ∧ ∃ b, (bl s)[m.toNat]? = some b ∧ k (.int .u8 b.toNat) H) := by
  show onS (if 0 ≤ m then (match (bl s)[m.toNat]? with | some b => some (.int .u8 b.toNat, H) | none => none) else none) k = _
  rw [onS_ite]
  congr 1
  cases hb : (bl s)[m.toNat]? with
  | some b => simp [onS_some]
  | none => simp [onS_none]

def extK (x : Value) (i : Nat) (H : Heap) (k : Value → Heap → Prop) : Prop := onS (match x with | .tuple vs => optV H vs[i]? | _ => none) k
theorem Zbx (x : Operand) (i : Nat) : pr P (.ext x i) false A H k = extK (ev A x) i H k := onS_fl _
theorem Zby (a : Value) (l : List Value) : extK (.tuple (a :: l).toArray) 0 H k = k a H := onS_some
theorem Zbz (a b : Value) (l : List Value) : extK (.tuple (a :: b :: l).toArray) 1 H k = k b H := onS_some
theorem Zca (a b c : Value) (l : List Value) : extK (.tuple (a :: b :: c :: l).toArray) 2 H k = k c H := onS_some

def asrtK (ty : TypeId) (z : Value) (ok : Bool) (x : Value) (H : Heap) (k : Value → Heap → Prop) : Prop := onS (match x with
  | .nilIface => bif ok then some (.tuple #[z, .bool false], H) else none
  | .iface u v => if u = ty then some (bif ok then .tuple #[v, .bool true] else v, H) else (bif ok then some (.tuple #[z, .bool false], H) else none)
  | _ => none) k
theorem Zcb (ty : TypeId) (z : Value) (ok : Bool) (x : Operand) : pr P (.asrt ty z ok x) false A H k = asrtK ty z ok (ev A x) H k := onS_fl _
theorem Zcc (ty : TypeId) (z v : Value) : asrtK ty z true (.iface ty v) H k = k (.tuple #[v, .bool true]) H := by simp [asrtK, onS_some]
theorem Zcd (ty u : TypeId) (z v : Value) (h : u ≠ ty) : asrtK ty z true (.iface u v) H k = k (.tuple #[z, .bool false]) H := by simp [asrtK, h, onS_some]
theorem Zce (ty : TypeId) (z v : Value) : asrtK ty z false (.iface ty v) H k = k v H := by simp [asrtK, onS_some]

def buildK (r : Option (List Value)) (H : Heap) (k : Value → Heap → Prop) : Prop := onS (match r with | some r => some (.agg r.toArray, H) | none => none) k
theorem Zcf (z : List Value) (parts : List (Nat × Nat × Operand)) : pr P (.build z parts) false A H k = buildK (rfill (ev A) z parts) H k := onS_fl _
theorem Zcg (l : List Value) : buildK (some l) H k = k (.agg l.toArray) H := onS_some
theorem Zch (f : Operand → Value) (cells : List Value) : rfill f cells [] = some cells := Eq.trans rfl rfl
theorem Zem (f : Operand → Value) (cells : List Value) (off size : Nat) (x : Operand) (rest : List (Nat × Nat × Operand)) : rfill f cells ((off, size, x) :: rest) = if (f x).cells.toList.length = size ∧ off + size ≤ cells.length then rfill f (splice cells off (f x).cells.toList) rest else none := Eq.trans rfl rfl

def bsliceK (e len : Nat) (r : Option (List Value)) (H : Heap) (k : Value → Heap → Prop) : Prop := onS (match r with | some r => some (.slice (some ⟨H.next, 0, none⟩) len len, H.push (.cells r e false)) | none => none) k
noncomputable def bfill (size : Nat) (cells : List Value) (parts : List (Nat × Value)) : Option (List Value) := afill (fun i => some (i * size, size)) cells parts
def evP (A : Env) (p : Nat × Operand) : Nat × Value := (p.1, ev A p.2)
theorem Zcl (A : Env) (i : Nat) (x : Operand) : evP A (i, x) = (i, ev A x) := Eq.trans rfl rfl
theorem Zci (e size len : Nat) (z : List Value) (parts : List (Nat × Operand)) : pr P (.bslice e size len z parts) false A H k = bsliceK e len (bfill size z (parts.map (evP A))) H k := onS_fl _
theorem Zcj (e len : Nat) (l : List Value) : bsliceK e len (some l) H k = k (.slice (some ⟨H.next, 0, none⟩) len len) (H.push (.cells l e false)) := onS_some
theorem Zck (size : Nat) (cells : List Value) : bfill size cells [] = some cells := Eq.trans rfl rfl
theorem Zen (size : Nat) (cells : List Value) (i : Nat) (v : Value) (rest : List (Nat × Value)) : bfill size cells ((i, v) :: rest) = if v.cells.toList.length = size ∧ i * size + size ≤ cells.length then bfill size (splice cells (i * size) v.cells.toList) rest else none := Eq.trans rfl rfl

theorem Zcm (e : TypeId) (z : List Value) : pr P (.alloc e z) false A H k = k (.pointer (some ⟨H.next, 0, none⟩)) (H.push (.cells z e false)) := (onS_fl _).trans onS_some
theorem Zcn (e : TypeId) (x : Operand) : pr P (.box e x) false A H k = k (.pointer (some ⟨H.next, 0, none⟩)) (H.push (.cells (ev A x).cells.toList e false)) := (onS_fl _).trans onS_some

def mkSlK (e size bytes : Nat) (z : List Value) (x y : Value) (H : Heap) (k : Value → Heap → Prop) : Prop := onS (match x, y with
  | .int .i64 l, .int .i64 c => if 0 ≤ l ∧ l ≤ c ∧ (bytes : Int) * c ≤ 281474976710656 ∧ c ≤ 9223372036854775807 then
      some (.slice (some ⟨H.next, 0, none⟩) l.toNat c.toNat, H.push (.cells (zeros z.toArray (c.toNat * size)) e false)) else none
  | _, _ => none) k
theorem Zco (e size bytes : Nat) (z : List Value) (x y : Operand) : pr P (.mkSl e size bytes z x y) false A H k = mkSlK e size bytes z (ev A x) (ev A y) H k := onS_fl _
theorem Zcp (e size bytes : Nat) (z : List Value) (l c : Int) : mkSlK e size bytes z (.int .i64 l) (.int .i64 c) H k = ((0 ≤ l ∧ l ≤ c ∧ (bytes : Int) * c ≤ 281474976710656 ∧ c ≤ 9223372036854775807) ∧ k (.slice (some ⟨H.next, 0, none⟩) l.toNat c.toNat) (H.push (.cells (zeros z.toArray (c.toNat * size)) e false))) := by
  show onS (if 0 ≤ l ∧ l ≤ c ∧ (bytes : Int) * c ≤ 281474976710656 ∧ c ≤ 9223372036854775807 then some (.slice (some ⟨H.next, 0, none⟩) l.toNat c.toNat, H.push (.cells (zeros z.toArray (c.toNat * size)) e false)) else none) k = _
  rw [onS_ite, onS_some]

def slK (size : Nat) (x : Value) (lo hi : Option (Option Int)) (H : Heap) (k : Value → Heap → Prop) : Prop := onS (match lo, hi with
  | some l, some h => optV H (asliceS size x l h none)
  | _, _ => none) k
theorem Zcr (size : Nat) (x : Value) (l h : Option Int) : slK size x (some l) (some h) H k = ∃ v, asliceS size x l h none = some v ∧ k v H := onS_optV
theorem Zcq (size : Nat) (x : Operand) (lo hi : Option Operand) : pr P (.slS size x lo hi) false A H k = slK size (ev A x) (bndOf (ev A) lo) (bndOf (ev A) hi) H k := onS_fl _
theorem Zcs (f : Operand → Value) : bndOf f none = some none := Eq.trans rfl rfl
theorem Zct (f : Operand → Value) (x : Operand) : bndOf f (some x) = match f x with | .int _ m => some (some m) | _ => none := Eq.trans rfl rfl

/-- A load: the block, then the place. -/
def ldB (agg : Bool) (size off : Nat) (b : Option Blk) (H : Heap) (k : Value → Heap → Prop) : Prop := onS (match b with
  | some (.cells c _ _) => bif agg then (if off + size ≤ c.length then some (.agg ((c.drop off).take size).toArray, H) else none) else optV H c[off]?
  | _ => none) k
def ldK (agg : Bool) (size : Nat) (x : Value) (H : Heap) (k : Value → Heap → Prop) : Prop := onS (match x with
  | .pointer (some a) => match H.get a.block with
    | some (.cells c _ _) => bif agg then (if a.off + size ≤ c.length then some (.agg ((c.drop a.off).take size).toArray, H) else none) else optV H c[a.off]?
    | _ => none
  | _ => none) k
theorem Zcu (agg : Bool) (size : Nat) (x : Operand) : pr P (.ld agg size x) false A H k = ldK agg size (ev A x) H k := onS_fl _
theorem Zcv (agg : Bool) (size : Nat) (x : Operand) : pr P (.ld agg size x) true A H k = ldK agg size (ev A x) H (flK H k) := onS_fl' _
theorem Zcw (agg : Bool) (size b o : Nat) : ldK agg size (.pointer (some ⟨b, o, none⟩)) H k = ldB agg size o (H.get b) H k := Eq.trans rfl rfl
theorem Zcx (size off : Nat) (c : List Value) (e : TypeId) (ro : Bool) : ldB false size off (some (.cells c e ro)) H k = ∃ v, c[off]? = some v ∧ k v H := onS_optV
theorem Zcy (size off : Nat) (c : List Value) (e : TypeId) (ro : Bool) : ldB true size off (some (.cells c e ro)) H k = (off + size ≤ c.length ∧ k (.agg ((c.drop off).take size).toArray) H) := by
  show onS (if off + size ≤ c.length then some (.agg ((c.drop off).take size).toArray, H) else none) k = _
  rw [onS_ite, onS_some]

/-- A store. -/
def stoB (size : Nat) (a : Addr) (y : Value) (b : Option Blk) (H : Heap) (k : Value → Heap → Prop) : Prop := onS (match b with
  | some (.cells c e false) => if y.cells.toList.length = size ∧ a.off + y.cells.toList.length ≤ c.length ∧ y.cells.toList.all (·.oneCell') = true then some (undef, H.set a.block (.cells (splice c a.off y.cells.toList) e false)) else none
  | _ => none) k
def stoK (size : Nat) (x y : Value) (H : Heap) (k : Value → Heap → Prop) : Prop := onS (match x with
  | .pointer (some a) => match H.get a.block with
    | some (.cells c e false) => if y.cells.toList.length = size ∧ a.off + y.cells.toList.length ≤ c.length ∧ y.cells.toList.all (·.oneCell') = true then some (undef, H.set a.block (.cells (splice c a.off y.cells.toList) e false)) else none
    | _ => none
  | _ => none) k
theorem Zcz (size : Nat) (x y : Operand) : pr P (.st size x y) false A H k = stoK size (ev A x) (ev A y) H k := onS_fl _
theorem Zdf (size b o : Nat) (y : Value) : stoK size (.pointer (some ⟨b, o, none⟩)) y H k = stoB size ⟨b, o, none⟩ y (H.get b) H k := Eq.trans rfl rfl
theorem Zdg (size b o : Nat) (y : Value) (c : List Value) (e : TypeId) : stoB size ⟨b, o, none⟩ y (some (.cells c e false)) H k = ((y.cells.toList.length = size ∧ o + y.cells.toList.length ≤ c.length ∧ y.cells.toList.all (·.oneCell') = true) ∧ k undef (H.set b (.cells (splice c o y.cells.toList) e false))) := by
  show onS (if y.cells.toList.length = size ∧ o + y.cells.toList.length ≤ c.length ∧ y.cells.toList.all (·.oneCell') = true then some (undef, H.set b (.cells (splice c o y.cells.toList) e false)) else none) k = _
  rw [onS_ite, onS_some]

/-- A store that stands beside loads with which it is not ordered. -/
def apL : List Value → Value → Prop
  | [], _ => True
  | z :: l, x => apartV x z ∧ apL l x
def apK (os : List Value) (x : Value) (k : Value → Heap → Prop) (v : Value) (H' : Heap) : Prop := apL os x ∧ k v H'
theorem Zdb (os : List Value) (x : Value) (k : Value → Heap → Prop) (v : Value) (H' : Heap) : apK os x k v H' = (apL os x ∧ k v H') := Eq.trans rfl rfl
theorem Zdc (x : Value) : apL [] x = True := Eq.trans rfl rfl
theorem Zdd (z x : Value) (l : List Value) : apL (z :: l) x = (apartV x z ∧ apL l x) := Eq.trans rfl rfl
theorem Zde (b o b' o' : Nat) : apartV (.pointer (some ⟨b, o, none⟩)) (.pointer (some ⟨b', o', none⟩)) = (b' ≠ b) := Eq.trans rfl rfl
theorem apartV_undef (b o : Nat) : apartV (.pointer (some ⟨b, o, none⟩)) undef = True := Eq.trans rfl rfl
theorem apL_all (os : List Operand) (x : Value) : apL (os.map (ev A)) x = ∀ z ∈ os, apartV x (ev A z) := by
  induction os with
  | nil => simp [apL]
  | cons z l ih => simp [apL, ih]
theorem Zda (size : Nat) (x y : Operand) (os : List Operand) (s : Bool) : pr P (.stf size x y os) s A H k = stoK size (ev A x) (ev A y) H (apK (os.map (ev A)) (ev A x) k) := by
  show onS (rop P (.st size x y) A H) (fun v H' => (∀ z ∈ os, apartV (ev A x) (ev A z)) ∧ k v H') = onS (rop P (.st size x y) A H) _
  congr 1; funext v H'
  rw [Zdb, apL_all]

def lenSK (x : Value) (H : Heap) (k : Value → Heap → Prop) : Prop := onS (match x with | .slice _ m _ => some (.int .i64 (m : Int), H) | _ => none) k
theorem Zdh (x : Operand) : pr P (.lenS x) false A H k = lenSK (ev A x) H k := onS_fl _
theorem Zdi (a : Option Addr) (len cap : Nat) : lenSK (.slice a len cap) H k = k (.int .i64 (len : Int)) H := onS_some
def lenTK (x : Value) (H : Heap) (k : Value → Heap → Prop) : Prop := onS (match x with | .string s => some (.int .i64 ((bl s).length : Int), H) | _ => none) k
theorem Zdj (x : Operand) : pr P (.lenT x) false A H k = lenTK (ev A x) H k := onS_fl _
theorem Zdk (s : ByteArray) : lenTK (.string s) H k = k (.int .i64 ((bl s).length : Int)) H := onS_some

def appK (e size bytes : Nat) (s x : Value) (H : Heap) (k : Value → Heap → Prop) : Prop := onS (rappend e size bytes s x H) k
theorem Zdl (e size bytes : Nat) (x y : Operand) : pr P (.app e size bytes x y) false A H k = appK e size bytes (ev A x) (ev A y) H k := onS_fl _

def genK (P : Program) (o : Op) (A : Env) (H : Heap) (k : Value → Heap → Prop) : Prop := onS (rop P (.gen o) A H) k
theorem Zdt (f : FuncId) (l : List Operand) : pr P (.gen (.makeFunc (.func f) #[] l.toArray)) false A H k = k (.func (.func f) #[] (l.map (ev A)).toArray) H := by
  have e : rop P (.gen (.makeFunc (.func f) #[] l.toArray)) A H = some (.func (.func f) #[] (l.map (ev A)).toArray, H) := by simp [rop, aop, a_makeFunc, noYield]
  refine (onS_fl _).trans ?_
  rw [e, onS_some]
def nilK (v : Value) (H : Heap) (k : Value → Heap → Prop) : Prop := onS (bif notNil v then some (v, H) else none) k
theorem Zdq (x : Operand) : pr P (.gen (.nilCheck x)) false A H k = nilK (ev A x) H k := by
  have e : rop P (.gen (.nilCheck x)) A H = (bif notNil (ev A x) then some (ev A x, H) else none) := by
    simp only [rop, aop, a_nilCheck]
    cases notNil (ev A x) <;> rfl
  refine (onS_fl _).trans ?_
  rw [e]; rfl
theorem Zdr (a : Addr) : nilK (.pointer (some a)) H k = k (.pointer (some a)) H := onS_some
theorem gen_max {x y : Operand} {ts : Array TypeId} {ik : IntKind} {a b : Int} (hx : ev A x = .int ik a) (hy : ev A y = .int ik b) : pr P (.gen (.call ⟨.builtin .max, #[x, y], ts⟩)) false A H k = k (.int ik (if b > a then b else a)) H := by
  have e : rop P (.gen (.call ⟨.builtin .max, #[x, y], ts⟩)) A H = some (.int ik (if b > a then b else a), H) := by simp [rop, aop, a_call, hx, hy]
  refine (onS_fl _).trans ?_
  rw [e, onS_some]
theorem Zds (ty : TypeId) : pr P (.gen (.makeMap ty none)) false A H k = k (.map (some H.next)) (H.push (.map [])) := by
  have e : rop P (.gen (.makeMap ty none)) A H = some (.map (some H.next), H.push (.map [])) := by simp [rop, aop]
  refine (onS_fl _).trans ?_
  rw [e, onS_some]
/-- A map that holds nothing. -/
theorem gen_look0 {ty kt e : TypeId} {td : TypeDesc} {inf : TypeInfo} {z : Value} {x ix : Operand} {m : Nat} (h1 : P.underlying ty = some (.map kt e)) (h2 : P.underlying kt = some td) (h3 : P.info? e = some inf) (h4 : inf.zero = some z) (hz : closedV z = true) (hx : ev A x = .map (some m)) (hk : keyOk td (ev A ix) = true) (hm : H.get m = some (.map [])) :
    pr P (.gen (.lookup ty x ix true)) false A H k = k (.tuple #[z, .bool false]) H := by
  have e : rop P (.gen (.lookup ty x ix true)) A H = some (.tuple #[z, .bool false], H) := by simp [rop, aop, a_lookup, h1, alook, h2, h3, h4, hz, hx, hk, hm, afind]
  refine (onS_fl _).trans ?_
  rw [e, onS_some]
theorem gen_put0 {ty kt e : TypeId} {td : TypeDesc} {x ix y : Operand} {m : Nat} (h1 : P.underlying ty = some (.map kt e)) (h2 : P.underlying kt = some td) (hx : ev A x = .map (some m)) (hk : keyOk td (ev A ix) = true) (hm : H.get m = some (.map [])) :
    pr P (.gen (.mapUpdate ty x ix y)) false A H k = k undef (H.set m (.map [(ev A ix, ev A y)])) := by
  have e : rop P (.gen (.mapUpdate ty x ix y)) A H = some (undef, H.set m (.map [(ev A ix, ev A y)])) := by simp [rop, aop, a_put, h1, aput, h2, hx, hk, hm, afind]
  refine (onS_fl _).trans ?_
  rw [e, onS_some]
/-- Where a number stands among a map's keys. -/
def posI (n : Int) : List (Value × Value) → Nat → Option (Option (Nat × Value))
  | [], _ => some none
  | (.int .i64 a, b) :: l, i => if n = a then some (some (i, b)) else posI n l (i + 1)
  | _, _ => none
theorem afind_posI (n : Int) : ∀ (es : List (Value × Value)) (i : Nat) r, posI n es i = some r → afind (.int .i64) (.int .i64 n) es i = some r
  | [], i, r, h => h
  | (a, b) :: l, i, r, h => by
    cases a with
    | int ik z =>
      cases ik with
      | i64 =>
        have g : (if n = z then some (some (i, b)) else posI n l (i + 1)) = some r := h
        unfold afind
        simp only [keyOk, cond_true, Instr.sameNow, if_true]
        by_cases hn : n = z
        · rw [if_pos hn] at g
          subst hn
          have hb : (n == n) = true := by simp
          simp only [hb]
          exact g
        · rw [if_neg hn] at g
          have : (n == z) = false := by simp [hn]
          simp only [this]
          exact afind_posI n _ _ r g
      | _ => exact absurd h (by simp [posI])
    | _ => exact absurd h (by simp [posI])
theorem gen_insI {ty kt e : TypeId} {x ix y : Operand} {m : Nat} {n : Int} {es : List (Value × Value)} (h1 : P.underlying ty = some (.map kt e)) (h2 : P.underlying kt = some (.int .i64)) (hx : ev A x = .map (some m)) (hk : ev A ix = .int .i64 n) (hm : H.get m = some (.map es)) (hp : posI n es 0 = some none) :
    pr P (.gen (.insert ty x ix y)) false A H k = k undef (H.set m (.map (es ++ [(.int .i64 n, ev A y)]))) := by
  have hf := afind_posI n es 0 _ hp
  have e : rop P (.gen (.insert ty x ix y)) A H = some (undef, H.set m (.map (es ++ [(.int .i64 n, ev A y)]))) := by simp [rop, aop, a_put, h1, aput, h2, hx, hk, hm, hf, keyOk]
  refine (onS_fl _).trans ?_
  rw [e, onS_some]
/-- What a lookup tells. -/
def lookV (z : Value) : Option (Nat × Value) → Value
  | none => .tuple #[z, .bool false]
  | some (_, v) => .tuple #[v, .bool true]
theorem gen_lookI {ty kt e : TypeId} {inf : TypeInfo} {z : Value} {x ix : Operand} {m : Nat} {n : Int} {es : List (Value × Value)} {r : Option (Nat × Value)} (h1 : P.underlying ty = some (.map kt e)) (h2 : P.underlying kt = some (.int .i64)) (h3 : P.info? e = some inf) (h4 : inf.zero = some z) (hz : closedV z = true) (hx : ev A x = .map (some m)) (hk : ev A ix = .int .i64 n) (hm : H.get m = some (.map es)) (hp : posI n es 0 = some r) :
    pr P (.gen (.lookup ty x ix true)) false A H k = k (lookV z r) H := by
  have hf := afind_posI n es 0 _ hp
  have e : rop P (.gen (.lookup ty x ix true)) A H = some (lookV z r, H) := by
    cases r <;> simp [lookV, rop, aop, a_lookup, h1, alook, h2, h3, h4, hz, hx, hk, hm, hf, keyOk]
  refine (onS_fl _).trans ?_
  rw [e, onS_some]
theorem pr_gen (o : Op) : pr P (.gen o) false A H k = genK P o A H k := onS_fl _
end

/-- What an appending gives: how many elements there are behind it, their cells behind a new number, or in place. -/
theorem rappend_grow {e size bytes m len b o cap : Nat} {news c : List Value} {x : Value} {H : Heap} {ro : Bool} {e' : TypeId} (hx : asrc size x H = some (m, news)) (h1 : news.all (·.oneCell') = true) (hm : m ≠ 0) (hb : H.get b = some (.cells c e' ro))
    (hlen : o + len * size ≤ c.length) (hsum : (len + m) * bytes ≤ 140737488355328) (hmax : len + m ≤ 9223372036854775807) (hcap : cap < UNK) (hfull : ¬ len + m ≤ cap) :
    rappend e size bytes (.slice (some ⟨b, o, none⟩) len cap) x H = some (.slice (some ⟨H.next, 0, none⟩) (len + m) (UNK + size), H.push (.cells ((c.drop o).take (len * size) ++ news) e false)) := by
  simp only [rappend, hx, h1, if_true, hm, if_false, hb]
  rw [if_pos ⟨hlen, hmax, hsum⟩, if_neg (by omega), if_neg hfull]
theorem rappend_own {e size bytes m len b o cap : Nat} (h0 : o = 0) {news c : List Value} {x : Value} {H : Heap} (hx : asrc size x H = some (m, news)) (h1 : news.all (·.oneCell') = true) (hm : m ≠ 0) (hb : H.get b = some (.cells c e false))
    (hlen : o + len * size = c.length) (hsum : (len + m) * bytes ≤ 140737488355328) (hmax : len + m ≤ 9223372036854775807) (hcap : UNK ≤ cap) :
    rappend e size bytes (.slice (some ⟨b, o, none⟩) len cap) x H = some (.slice (some ⟨H.next, 0, none⟩) (len + m) (UNK + size), (H.kill b).push (.cells (c.drop o ++ news) e false)) := by
  simp only [rappend, hx, h1, if_true, hm, if_false, hb]
  rw [if_pos ⟨by omega, hmax, hsum⟩, if_pos hcap, if_pos ⟨trivial, trivial, h0, hlen⟩]
theorem rappend_nil {e size bytes m : Nat} {news : List Value} {x : Value} {H : Heap} (hx : asrc size x H = some (m, news)) (h1 : news.all (·.oneCell') = true) (hm : m ≠ 0) (hsum : m * bytes ≤ 140737488355328) (hmax : m ≤ 9223372036854775807) :
    rappend e size bytes (.slice none 0 0) x H = some (.slice (some ⟨H.next, 0, none⟩) m (UNK + size), H.push (.cells news e false)) := by
  simp only [rappend, hx, h1, if_true, hm, if_false]
  rw [if_pos ⟨hmax, hsum⟩]

/-! ### Ends of functions -/

/-- A function ends with a value, and with a heap of which no more is told than is known. -/
def Ret (H0 : Heap) (k : Value → Heap → Prop) (v : Value) (H : Heap) : Prop := ∃ H2, Less H2 H ∧ (H.Wf → H2.Wf) ∧ H0.next ≤ H2.next ∧ k v H2
theorem Ret.mk {H0 H : Heap} {k : Value → Heap → Prop} {v : Value} (hn : H0.next ≤ H.next) (h : k v H) : Ret H0 k v H := ⟨H, .refl H, id, hn, h⟩
theorem Heap.Wf.up {H : Heap} (h : H.Wf) {m : Nat} (hm : H.next ≤ m) : (H.up m).Wf := fun id hid => h id (Nat.le_trans hm hid)
theorem Ret.up {H0 H : Heap} {k : Value → Heap → Prop} {v : Value} (hw : H0.Wf) (hn : H0.next ≤ H.next) (hg : ∀ id, id < H0.next → H.get id = H0.get id) (h : k v (H0.up H.next)) : Ret H0 k v H :=
  ⟨H0.up H.next, Less.up (Nat.le_refl _) (fun id b hb => by rw [hg id (hw.lt hb)]; exact hb), fun _ => hw.up hn, hn, h⟩

/-- The ends of a body. -/
def Rt (P : Program) (fn : Func) (H0 : Heap) (k : Value → Heap → Prop) : Env → Heap → Prop := RetK P fn fun v H' => H0.next ≤ H'.next ∧ k v H'

section
variable {P : Program} {fn : Func} {H0 : Heap} {k : Value → Heap → Prop} {A : Env} {H : Heap}
theorem rt_0 (hr : fn.results = #[]) : Rt P fn H0 k A H = Ret H0 k (.tuple #[]) H := by
  simp [Rt, RetK, Ret, ares, hr]
theorem rt_1 {r : Nat} (hr : fn.results = #[.tmp r]) (hn : Nat.blt r fn.ntmps = true) : Rt P fn H0 k A H = Ret H0 k (A r) H := by
  have : r < fn.ntmps := by simpa using hn
  simp [Rt, RetK, Ret, ares, hr, ares1, this]
theorem rt_2 {r s : Nat} (hr : fn.results = #[.tmp r, .tmp s]) (hn : (Nat.blt r fn.ntmps && Nat.blt s fn.ntmps) = true) : Rt P fn H0 k A H = Ret H0 k (.tuple #[A r, A s]) H := by
  have : r < fn.ntmps ∧ s < fn.ntmps := by simpa using hn
  simp [Rt, RetK, Ret, ares, hr, ares1, this]
theorem rt_3 {r s u : Nat} (hr : fn.results = #[.tmp r, .tmp s, .tmp u]) (hn : (Nat.blt r fn.ntmps && Nat.blt s fn.ntmps && Nat.blt u fn.ntmps) = true) : Rt P fn H0 k A H = Ret H0 k (.tuple #[A r, A s, A u]) H := by
  have : (r < fn.ntmps ∧ s < fn.ntmps) ∧ u < fn.ntmps := by simpa using hn
  simp [Rt, RetK, Ret, ares, hr, ares1, this]

/-- A result that lies in memory. -/
def ldR (agg : Bool) (size : Nat) (p : Value) (H : Heap) (k : Value → Prop) : Prop := match p with
  | .pointer (some a) => (match H.get a.block with
    | some (.cells c _ _) => bif agg then (a.off + size ≤ c.length ∧ k (.agg ((c.drop a.off).take size).toArray)) else ∃ v, c[a.off]? = some v ∧ k v
    | _ => False)
  | _ => False
def ldRB (agg : Bool) (size off : Nat) (b : Option Blk) (k : Value → Prop) : Prop := match b with
  | some (.cells c _ _) => bif agg then (off + size ≤ c.length ∧ k (.agg ((c.drop off).take size).toArray)) else ∃ v, c[off]? = some v ∧ k v
  | _ => False
theorem Zea (agg : Bool) (size b o : Nat) (k : Value → Prop) : ldR agg size (.pointer (some ⟨b, o, none⟩)) H k = ldRB agg size o (H.get b) k := Eq.trans rfl rfl
theorem Zeb (size o : Nat) (k : Value → Prop) (c : List Value) (e : TypeId) (ro : Bool) : ldRB true size o (some (.cells c e ro)) k = (o + size ≤ c.length ∧ k (.agg ((c.drop o).take size).toArray)) := Eq.trans rfl rfl
theorem Zec (size o : Nat) (k : Value → Prop) (c : List Value) (e : TypeId) (ro : Bool) : ldRB false size o (some (.cells c e ro)) k = ∃ v, c[o]? = some v ∧ k v := Eq.trans rfl rfl

noncomputable def aloadV (P : Program) (ty : TypeId) (p : Value) (H : Heap) : Option Value := match p with | .pointer (some ad) => aload P ty ad H | _ => none
theorem ares1_cell (n a : Nat) (ty : TypeId) : ares1 P n A H (.cell a ty) = if a < n then aloadV P ty (A a) H else none := Eq.trans rfl rfl
theorem aload_ldR {ty : TypeId} {d : TypeDesc} {inf : TypeInfo} {p : Value} {q : Value → Prop} (hd : P.underlying ty = some d) (hi : P.info? ty = some inf) :
    (∃ v, aloadV P ty p H = some v ∧ q v) ↔ ldR (isAggD d) inf.size p H q := by
  unfold ldR aloadV
  split
  · rename_i a
    have e : aload P ty a H = match H.get a.block with
      | some (.cells c _ _) => if isAggD d then (if a.off + inf.size ≤ c.length then some (.agg ((c.drop a.off).take inf.size).toArray) else none) else c[a.off]?
      | _ => none := by
      simp only [aload, hd, hi]
      cases H.get a.block with
      | none => rfl
      | some b => cases b <;> rfl
    rw [e]
    cases hg : H.get a.block with
    | none => simp
    | some b =>
      cases b with
      | cells c e ro =>
        cases hag : isAggD d with
        | true => by_cases hle : a.off + inf.size ≤ c.length <;> simp [hle]
        | false => simp
      | map es => simp
      | iter s pos => simp
      | miter a b c d => simp
      | loop A n ps as bd st => simp
  · simp

/-- What is asked of a type whose value is a result. -/
noncomputable def resTy (P : Program) (ty : TypeId) (agg : Bool) (size : Nat) : Bool := match P.underlying ty, P.info? ty with
  | some d, some inf => (isAggD d == agg) && Nat.beq inf.size size
  | _, _ => false
theorem resTy_spec {ty : TypeId} {agg : Bool} {size : Nat} (h : resTy P ty agg size = true) : ∃ d inf, P.underlying ty = some d ∧ P.info? ty = some inf ∧ isAggD d = agg ∧ inf.size = size := by
  unfold resTy at h
  split at h
  · rename_i d inf hd hi
    simp only [Bool.and_eq_true, beq_iff_eq, nbeq, decide_eq_true_eq] at h
    exact ⟨d, inf, hd, hi, h.1, h.2⟩
  · cases h

theorem rt_c {a ty size : Nat} {agg : Bool} (hr : fn.results = #[.cell a ty]) (hn : Nat.blt a fn.ntmps = true) (ht : resTy P ty agg size = true) : Rt P fn H0 k A H = ldR agg size (A a) H fun v => Ret H0 k v H := by
  have hn : a < fn.ntmps := by simpa using hn
  obtain ⟨d, inf, hd, hi, rfl, rfl⟩ := resTy_spec ht
  apply propext
  rw [← aload_ldR hd hi]
  simp only [Rt, RetK, Ret, ares, hr, ares1_cell, hn, if_true]
theorem rt_cn {a ty size : Nat} {agg : Bool} {r : Nat} (hr : fn.results = #[.cell a ty, .tmp r]) (hn : (Nat.blt a fn.ntmps && Nat.blt r fn.ntmps) = true) (ht : resTy P ty agg size = true) : Rt P fn H0 k A H = ldR agg size (A a) H fun v => Ret H0 k (.tuple #[v, A r]) H := by
  have hn : a < fn.ntmps ∧ r < fn.ntmps := by simpa using hn
  obtain ⟨d, inf, hd, hi, rfl, rfl⟩ := resTy_spec ht
  apply propext
  rw [← aload_ldR hd hi]
  have e1 : ares1 P fn.ntmps A H (.tmp r) = some (A r) := by simp [ares1, hn.2]
  simp only [Rt, RetK, Ret, ares, hr, ares1_cell, e1, hn.1, if_true, List.mapM_cons, List.mapM_nil, Option.pure_def, Option.bind_eq_bind, Option.bind_some]
  constructor
  · rintro ⟨v, hv, h⟩
    simp only [Option.map_eq_some_iff, Option.bind_eq_some_iff, Option.some.injEq] at hv
    obtain ⟨l, ⟨w, hw, rfl⟩, rfl⟩ := hv
    exact ⟨w, hw, h⟩
  · rintro ⟨v, hv, h⟩
    refine ⟨_, ?_, h⟩
    simp [hv]
theorem rt_cnn {a ty size : Nat} {agg : Bool} {r q : Nat} (hr : fn.results = #[.cell a ty, .tmp r, .tmp q]) (hn : (Nat.blt a fn.ntmps && (Nat.blt r fn.ntmps && Nat.blt q fn.ntmps)) = true) (ht : resTy P ty agg size = true) : Rt P fn H0 k A H = ldR agg size (A a) H fun v => Ret H0 k (.tuple #[v, A r, A q]) H := by
  have hn : a < fn.ntmps ∧ r < fn.ntmps ∧ q < fn.ntmps := by simpa using hn
  obtain ⟨d, inf, hd, hi, rfl, rfl⟩ := resTy_spec ht
  apply propext
  rw [← aload_ldR hd hi]
  have e1 : ares1 P fn.ntmps A H (.tmp r) = some (A r) := by simp [ares1, hn.2.1]
  have e2 : ares1 P fn.ntmps A H (.tmp q) = some (A q) := by simp [ares1, hn.2.2]
  simp only [Rt, RetK, Ret, ares, hr, ares1_cell, e1, e2, hn.1, if_true, List.mapM_cons, List.mapM_nil, Option.pure_def, Option.bind_eq_bind, Option.bind_some]
  constructor
  · rintro ⟨v, hv, h⟩
    simp only [Option.map_eq_some_iff, Option.bind_eq_some_iff, Option.some.injEq] at hv
    obtain ⟨l, ⟨w, hw, rfl⟩, rfl⟩ := hv
    exact ⟨w, hw, h⟩
  · rintro ⟨v, hv, h⟩
    refine ⟨_, ?_, h⟩
    simp [hv]
theorem rt_nc {a ty size : Nat} {agg : Bool} {r : Nat} (hr : fn.results = #[.tmp r, .cell a ty]) (hn : (Nat.blt a fn.ntmps && Nat.blt r fn.ntmps) = true) (ht : resTy P ty agg size = true) : Rt P fn H0 k A H = ldR agg size (A a) H fun v => Ret H0 k (.tuple #[A r, v]) H := by
  have hn : a < fn.ntmps ∧ r < fn.ntmps := by simpa using hn
  obtain ⟨d, inf, hd, hi, rfl, rfl⟩ := resTy_spec ht
  apply propext
  rw [← aload_ldR hd hi]
  have e1 : ares1 P fn.ntmps A H (.tmp r) = some (A r) := by simp [ares1, hn.2]
  simp only [Rt, RetK, Ret, ares, hr, ares1_cell, e1, hn.1, if_true, List.mapM_cons, List.mapM_nil, Option.pure_def, Option.bind_eq_bind, Option.bind_some]
  constructor
  · rintro ⟨v, hv, h⟩
    cases e : aloadV P ty (A a) H with
    | none => simp [e] at hv
    | some w =>
      simp [e] at hv
      subst hv
      exact ⟨w, rfl, h⟩
  · rintro ⟨v, hv, h⟩
    refine ⟨_, ?_, h⟩
    simp [hv]
theorem rt_nnc {a ty size : Nat} {agg : Bool} {r q : Nat} (hr : fn.results = #[.tmp r, .tmp q, .cell a ty]) (hn : (Nat.blt a fn.ntmps && (Nat.blt r fn.ntmps && Nat.blt q fn.ntmps)) = true) (ht : resTy P ty agg size = true) : Rt P fn H0 k A H = ldR agg size (A a) H fun v => Ret H0 k (.tuple #[A r, A q, v]) H := by
  have hn : a < fn.ntmps ∧ r < fn.ntmps ∧ q < fn.ntmps := by simpa using hn
  obtain ⟨d, inf, hd, hi, rfl, rfl⟩ := resTy_spec ht
  apply propext
  rw [← aload_ldR hd hi]
  have e1 : ares1 P fn.ntmps A H (.tmp r) = some (A r) := by simp [ares1, hn.2.1]
  have e2 : ares1 P fn.ntmps A H (.tmp q) = some (A q) := by simp [ares1, hn.2.2]
  simp only [Rt, RetK, Ret, ares, hr, ares1_cell, e1, e2, hn.1, if_true, List.mapM_cons, List.mapM_nil, Option.pure_def, Option.bind_eq_bind, Option.bind_some]
  constructor
  · rintro ⟨v, hv, h⟩
    cases e : aloadV P ty (A a) H with
    | none => simp [e] at hv
    | some w =>
      simp [e] at hv
      subst hv
      exact ⟨w, rfl, h⟩
  · rintro ⟨v, hv, h⟩
    refine ⟨_, ?_, h⟩
    simp [hv]
theorem rt_cc {a ty size a2 ty2 size2 : Nat} {agg agg2 : Bool} (hr : fn.results = #[.cell a ty, .cell a2 ty2]) (hn : (Nat.blt a fn.ntmps && Nat.blt a2 fn.ntmps) = true) (ht : resTy P ty agg size = true) (ht2 : resTy P ty2 agg2 size2 = true) : Rt P fn H0 k A H = ldR agg size (A a) H fun v => ldR agg2 size2 (A a2) H fun v2 => Ret H0 k (.tuple #[v, v2]) H := by
  have hn : a < fn.ntmps ∧ a2 < fn.ntmps := by simpa using hn
  obtain ⟨d, inf, hd, hi, rfl, rfl⟩ := resTy_spec ht
  obtain ⟨d2, inf2, hd2, hi2, rfl, rfl⟩ := resTy_spec ht2
  apply propext
  rw [← aload_ldR hd hi]
  simp only [← aload_ldR hd2 hi2]
  simp only [Rt, RetK, Ret, ares, hr, ares1_cell, hn.1, hn.2, if_true, List.mapM_cons, List.mapM_nil, Option.pure_def, Option.bind_eq_bind]
  constructor
  · rintro ⟨v, hv, h⟩
    cases e : aloadV P ty (A a) H with
    | none => simp [e] at hv
    | some w =>
      cases e2 : aloadV P ty2 (A a2) H with
      | none => simp [e, e2] at hv
      | some w2 =>
        simp [e, e2] at hv
        subst hv
        exact ⟨w, rfl, w2, rfl, h⟩
  · rintro ⟨v, hv, v2, hv2, h⟩
    refine ⟨_, ?_, h⟩
    simp [hv, hv2]
end

theorem call_in {P : Program} {f : FuncId} {fn : Func} {pc : PC} {args : List Value} {H : Heap} {k : Value → Heap → Prop} {A : Env} (hf : P.funcs[f]? = some fn) (hc : fn.body.bind (comp P fn.ntmps) = some pc) (he : entered P f = true) (hl : Nat.ble args.length fn.ntmps = true) (hA : envOf args = A)
    (h : H.Wf → pexec P pc ⟨Rt P fn H k, noEx⟩ (Rt P fn H k) A H) : CallQ P f args H k := callQ_of_pexec hf hc he (by simpa using hl) (by rw [hA]; exact h)

theorem Zed (l : List Value) : (Value.agg l.toArray).cells.toList = l := Eq.trans rfl rfl
theorem Zee (ik : IntKind) (n : Int) : (Value.int ik n).cells.toList = [.int ik n] := Eq.trans rfl rfl
theorem Zef (b : Bool) : (Value.bool b).cells.toList = [.bool b] := Eq.trans rfl rfl
theorem Zeg (a : Option Addr) (l c : Nat) : (Value.slice a l c).cells.toList = [.slice a l c] := Eq.trans rfl rfl
theorem Zeh (ty : TypeId) (v : Value) : (Value.iface ty v).cells.toList = [.iface ty v] := Eq.trans rfl rfl
theorem Zei (ik : IntKind) (n : Int) : (Value.int ik n).oneCell' = true := Eq.trans rfl rfl
theorem Zej (b : Bool) : (Value.bool b).oneCell' = true := Eq.trans rfl rfl
theorem Zek (a : Option Addr) (l c : Nat) : (Value.slice a l c).oneCell' = true := Eq.trans rfl rfl
theorem Zel (ty : TypeId) (v : Value) : (Value.iface ty v).oneCell' = true := Eq.trans rfl rfl

section
variable {P : Program}
theorem gB_cases {b : Bool} {r : R} {s : Bool} {l : List PO} {k : Env → Heap → Prop} {A : Env} {d : Option Nat} {H : Heap} (h1 : b = true → gB true P r s l k A d H) (h2 : b = false → gB false P r s l k A d H) : gB b P r s l k A d H := by
  cases b
  · exact h2 rfl
  · exact h1 rfl
theorem cB_cases {b : Bool} {x y : PC} {ks : Kp} {k : Env → Heap → Prop} {A : Env} {H : Heap} (h1 : b = true → cB true P x y ks k A H) (h2 : b = false → cB false P x y ks k A H) : cB b P x y ks k A H := by
  cases b
  · exact h2 rfl
  · exact h1 rfl
end

/-! ### Loops -/
section
variable {P : Program}
def LoopK (I : Nat → Env → Heap → Prop) (m : Nat) (A : Env) (H : Heap) : Prop := ∃ m', m' < m ∧ I m' A H
theorem loop_intro {b : PC} {ks : Kp} {k : Env → Heap → Prop} {A : Env} {H : Heap} (I : Nat → Env → Heap → Prop) (m : Nat) (h0 : I m A H) (h : ∀ m A' H', I m A' H' → pexec P b ks (LoopK I m) A' H') : pexec P (.loop b) ks k A H :=
  ⟨I, ⟨m, h0⟩, h⟩

/-- Old blocks stay as they were. -/
structure Ext (H H' : Heap) : Prop where
  next : H.next ≤ H'.next
  get : ∀ id, id < H.next → H'.get id = H.get id
theorem Ext.eqB {H H' : Heap} (h : Ext H H') : EqB H H' := fun id hid => h.get id hid
theorem Ext.refl (H : Heap) : Ext H H := ⟨Nat.le_refl _, fun _ _ => Eq.trans rfl rfl⟩
theorem Ext.trans {a b c : Heap} (h : Ext a b) (h' : Ext b c) : Ext a c := ⟨Nat.le_trans h.next h'.next, fun id hid => by rw [h'.get id (Nat.lt_of_lt_of_le hid h.next), h.get id hid]⟩
theorem Ext.push {H H' : Heap} (h : Ext H H') (b : Blk) : Ext H (H'.push b) := ⟨Nat.le_trans h.next (by simp), fun id hid => by
  have := h.next
  rw [Heap.get_push, if_neg (by omega)]; exact h.get id hid⟩
theorem Ext.up {H H' : Heap} (h : Ext H H') {m : Nat} (hm : H'.next ≤ m) : Ext H (H'.up m) := ⟨Nat.le_trans h.next hm, fun id hid => by rw [Heap.get_up]; exact h.get id hid⟩
theorem Ext.set {H H' : Heap} (h : Ext H H') {i : Nat} (hi : H.next ≤ i) (b : Blk) : Ext H (H'.set i b) := ⟨h.next, fun id hid => by
  rw [Heap.get_set, if_neg (by omega)]; exact h.get id hid⟩
theorem Ext.kill {H H' : Heap} (h : Ext H H') {i : Nat} (hi : H.next ≤ i) : Ext H (H'.kill i) := ⟨h.next, fun id hid => by
  rw [Heap.get_kill, if_neg (by omega)]; exact h.get id hid⟩
theorem Ret.ext {H0 H : Heap} {k : Value → Heap → Prop} {v : Value} (hw : H0.Wf) (he : Ext H0 H) (h : k v (H0.up H.next)) : Ret H0 k v H := .up hw he.next he.get h
end

/-! ### Appending -/
theorem asrc_sl {size m b o cap : Nat} {c : List Value} {e : TypeId} {ro : Bool} {H : Heap} (hb : H.get b = some (.cells c e ro)) (hm : m ≠ 0) (hc : o + m * size ≤ c.length) : asrc size (.slice (some ⟨b, o, none⟩) m cap) H = some (m, (c.drop o).take (m * size)) := by
  simp only [asrc, hm, if_false, hb]
  rw [if_pos hc]
theorem asrc_one {b cap : Nat} {v : Value} {e : TypeId} {ro : Bool} {H : Heap} (hb : H.get b = some (.cells [v] e ro)) : asrc 1 (.slice (some ⟨b, 0, none⟩) 1 cap) H = some (1, [v]) := asrc_sl hb (by decide) (by simp)
theorem appK_room {e size bytes m len b o cap : Nat} {news c : List Value} {x : Value} {H : Heap} {e' : TypeId} {k : Value → Heap → Prop} (hx : asrc size x H = some (m, news)) (h1 : news.all (·.oneCell') = true) (hm : m ≠ 0) (hb : H.get b = some (.cells c e' false))
    (hcap : cap < UNK) (hroom : len + m ≤ cap) (hc : o + (len + m) * size ≤ c.length) (hsum : (len + m) * bytes ≤ 140737488355328) (hmax : len + m ≤ 9223372036854775807) (h : k (.slice (some ⟨b, o, none⟩) (len + m) cap) (H.set b (.cells (splice c (o + len * size) news) e' false))) :
    appK e size bytes (.slice (some ⟨b, o, none⟩) len cap) x H k := by
  have hlen : o + len * size ≤ c.length := Nat.le_trans (Nat.add_le_add_left (Nat.mul_le_mul_right _ (Nat.le_add_right _ _)) _) hc
  have e1 : rappend e size bytes (.slice (some ⟨b, o, none⟩) len cap) x H = some (.slice (some ⟨b, o, none⟩) (len + m) cap, H.set b (.cells (splice c (o + len * size) news) e' false)) := by
    simp only [rappend, hx, h1, if_true, hm, if_false, hb]
    rw [if_pos ⟨hlen, hmax, hsum⟩, if_neg (by omega), if_pos hroom, if_pos ⟨trivial, hc⟩]
  unfold appK
  rw [e1, onS_some]
  exact h
theorem appK_own {e size bytes m len b o cap : Nat} (h0 : o = 0) {news c : List Value} {x : Value} {H : Heap} {k : Value → Heap → Prop} (hx : asrc size x H = some (m, news)) (h1 : news.all (·.oneCell') = true) (hm : m ≠ 0) (hb : H.get b = some (.cells c e false))
    (hlen : o + len * size = c.length) (hsum : (len + m) * bytes ≤ 140737488355328) (hmax : len + m ≤ 9223372036854775807) (hcap : UNK ≤ cap)
    (h : k (.slice (some ⟨H.next, 0, none⟩) (len + m) (UNK + size)) ((H.kill b).push (.cells (c.drop o ++ news) e false))) : appK e size bytes (.slice (some ⟨b, o, none⟩) len cap) x H k := by
  unfold appK
  rw [rappend_own h0 hx h1 hm hb hlen hsum hmax hcap, onS_some]
  exact h
theorem appK_grow {e size bytes m len b o cap : Nat} {news c : List Value} {x : Value} {H : Heap} {ro : Bool} {e' : TypeId} {k : Value → Heap → Prop} (hx : asrc size x H = some (m, news)) (h1 : news.all (·.oneCell') = true) (hm : m ≠ 0) (hb : H.get b = some (.cells c e' ro))
    (hlen : o + len * size ≤ c.length) (hsum : (len + m) * bytes ≤ 140737488355328) (hmax : len + m ≤ 9223372036854775807) (hcap : cap < UNK) (hfull : ¬ len + m ≤ cap)
    (h : k (.slice (some ⟨H.next, 0, none⟩) (len + m) (UNK + size)) (H.push (.cells ((c.drop o).take (len * size) ++ news) e false))) : appK e size bytes (.slice (some ⟨b, o, none⟩) len cap) x H k := by
  unfold appK
  rw [rappend_grow hx h1 hm hb hlen hsum hmax hcap hfull, onS_some]
  exact h
theorem appK_nil {e size bytes m : Nat} {news : List Value} {x : Value} {H : Heap} {k : Value → Heap → Prop} (hx : asrc size x H = some (m, news)) (h1 : news.all (·.oneCell') = true) (hm : m ≠ 0) (hsum : m * bytes ≤ 140737488355328) (hmax : m ≤ 9223372036854775807)
    (h : k (.slice (some ⟨H.next, 0, none⟩) m (UNK + size)) (H.push (.cells news e false))) : appK e size bytes (.slice none 0 0) x H k := by
  unfold appK
  rw [rappend_nil hx h1 hm hsum hmax, onS_some]
  exact h

theorem CallQ.thenW {P : Program} {f : FuncId} {args : List Value} {H : Heap} {k k' : Value → Heap → Prop} (h : CallQ P f args H k) (hk : ∀ v H', H.next ≤ H'.next → H'.Wf → k v H' → k' v H') : CallQ P f args H k' := by
  intro hw
  obtain ⟨v, H', h1, h2, h3, h4⟩ := h hw
  exact ⟨v, H', h1, h2, h3, hk v H' h2 h3 h4⟩
theorem get_push_eq {H : Heap} {b : Blk} {m : Nat} (h : m = H.next) : (H.push b).get m = some b := by rw [Heap.get_push, if_pos h]
theorem get_push_ne {H : Heap} {b : Blk} {m : Nat} (h : ¬ m = H.next) : (H.push b).get m = H.get m := by rw [Heap.get_push, if_neg h]
theorem get_set_eq {H : Heap} {b : Blk} {i m : Nat} (h : m = i) : (H.set i b).get m = some b := by rw [Heap.get_set, if_pos h]
theorem get_set_ne {H : Heap} {b : Blk} {i m : Nat} (h : ¬ m = i) : (H.set i b).get m = H.get m := by rw [Heap.get_set, if_neg h]

/-! ### Rules, together -/
abbrev sxA := And.intro @Za (And.intro @Zb (And.intro @Zc (And.intro @Zd (And.intro @Ze (And.intro @Zf (And.intro @Zg (And.intro @Zh (And.intro @Zi (And.intro @Zj (And.intro @Zk (And.intro @Zl (And.intro @Zm (And.intro @Zn (And.intro @Zo (And.intro @Zp (And.intro @Zq (And.intro @Zr (And.intro @Zs (And.intro @Zt (And.intro @Zu (And.intro @Zv (And.intro @Zw (And.intro @Zx (And.intro @Zy (And.intro @bt (And.intro @bf (And.intro @Zz (And.intro @Zaa (And.intro @Zab (And.intro @Zac (And.intro @Zad (And.intro @Zae (And.intro @Zaf (And.intro @Zag (And.intro @Zah (And.intro @Zai (And.intro @Zaj (And.intro @Zak (And.intro @Zal (And.intro @Zam (And.intro @Zan (And.intro @Zao (And.intro @Zap (And.intro @Zaq (And.intro @Zar (And.intro @Zas (And.intro @Zat (And.intro @Zau (And.intro @Zav (And.intro @Zaw (And.intro @Zax (And.intro @Zay (And.intro @Zaz (And.intro @Zba (And.intro @Zbb (And.intro @Zbc (And.intro @Zbd (And.intro @Zbe (And.intro @Zbf (And.intro @Zbg (And.intro @Zbh (And.intro @Zbi (And.intro @Zbj (And.intro @Zbk (And.intro @Zbl (And.intro @Zbm (And.intro @Zbn (And.intro @Zbo (And.intro @Zbp (And.intro @Zbq (And.intro @Zbr (And.intro @Zbs (And.intro @Zbt (And.intro @Zbu (And.intro @Zbv (And.intro @Zbw (And.intro @Zbx (And.intro @Zby (And.intro @Zbz (And.intro @Zca (And.intro @Zcb (And.intro @Zcc (And.intro @Zcd (And.intro @Zce (And.intro @Zcf (And.intro @Zcg (And.intro @Zch (And.intro @Zci (And.intro @Zcj (And.intro @Zck (And.intro @Zcl (And.intro @Zcm (And.intro @Zcn (And.intro @Zco (And.intro @Zcp (And.intro @Zcq (And.intro @Zcr (And.intro @Zcs (And.intro @Zct (And.intro @Zcu (And.intro @Zcv (And.intro @Zcw (And.intro @Zcx (And.intro @Zcy (And.intro @Zcz (And.intro @Zda (And.intro @Zdb (And.intro @Zdc (And.intro @Zdd (And.intro @Zde (And.intro @apartV_undef (And.intro @Zdf (And.intro @Zdg (And.intro @Zdh (And.intro @Zdi (And.intro @Zdj (And.intro @Zdk (And.intro @Zdl (And.intro @Zdm (And.intro @Zdn (And.intro @Zdo (And.intro @Zdp (And.intro @Zdq (And.intro @Zdr (And.intro @Zds (And.intro @Zdt (And.intro @Zdu (And.intro @Zdv (And.intro @Zdw (And.intro @Zdx (And.intro @lowV_slice (And.intro @Zdy (And.intro @Zdz (And.intro @Zea (And.intro @Zeb (@Zec))))))))))))))))))))))))))))))))))))))))))))))))))))))))))))))))))))))))))))))))))))))))))))))))))))))))))))))))))))))))))))))))))))))))
abbrev mxA := And.intro @Zed (And.intro @Zee (And.intro @Zef (And.intro @Zeg (And.intro @Zeh (And.intro @Zei (And.intro @Zej (And.intro @Zek (And.intro @Zel (And.intro @Zem (And.intro @Zen (And.intro @Heap.get_push (And.intro @Heap.next_push (And.intro @Heap.get_set (And.intro @Heap.next_set (And.intro @Heap.get_up (And.intro @Heap.next_up (And.intro @Nat.zero_add (And.intro @Nat.add_zero (And.intro @true_and (And.intro @and_true (And.intro @Nat.add_eq_left (And.intro @Nat.left_eq_add (And.intro @Nat.succ_ne_self (And.intro @Bool.and_self (And.intro @Nat.mul_one (And.intro @Nat.zero_mul (@Nat.one_mul)))))))))))))))))))))))))))
abbrev mxD := And.intro @Zed (And.intro @Zee (And.intro @Zef (And.intro @Zeg (And.intro @Zeh (And.intro @Zei (And.intro @Zej (And.intro @Zek (And.intro @Zel (And.intro @Zem (And.intro @Zen (And.intro @Heap.next_push (And.intro @Heap.next_set (And.intro @Heap.get_up (And.intro @Heap.next_up (And.intro @Nat.zero_add (And.intro @Nat.add_zero (And.intro @true_and (And.intro @and_true (And.intro @Nat.add_eq_left (And.intro @Nat.left_eq_add (And.intro @Nat.succ_ne_self (And.intro @Bool.and_self (And.intro @Nat.mul_one (And.intro @Nat.zero_mul (And.intro @Nat.one_mul (And.intro @get_push_eq (And.intro @get_push_ne (And.intro @get_set_eq (@get_set_ne)))))))))))))))))))))))))))))
abbrev uxA := And.intro @Zz (And.intro @Zaa (And.intro @Zab (And.intro @Zac (And.intro @Zad (@Zae)))))
abbrev sxB := And.intro @List.map_cons.{0, 0} (And.intro @List.map_nil.{0, 0} (And.intro @ne_eq.{1} (And.intro not_false_eq_true (And.intro not_true_eq_false (And.intro @cond_true.{1} (And.intro @cond_false.{1} (And.intro Bool.not_true (And.intro Bool.not_false @Bool.not_not))))))))
abbrev uxB := And.intro @cond_true.{1} @cond_false.{1}
abbrev mxB := And.intro @if_true.{1} (And.intro @if_false.{1} (And.intro @List.getElem?_cons_succ.{0} (And.intro @List.getElem?_cons_zero.{0} (And.intro @Option.some.injEq.{0} (And.intro @exists_eq_left'.{1} (And.intro @eq_self.{1} (And.intro @List.length_cons.{0} (And.intro @List.length_nil.{0} (And.intro @List.all_cons.{0} (And.intro @List.all_nil.{0} (And.intro @List.drop_zero.{0} (And.intro @List.drop_succ_cons.{0} (And.intro @List.take_succ_cons.{0} (And.intro @List.take_zero.{0} (And.intro @List.cons_append.{0} (And.intro @List.nil_append.{0} (And.intro @List.append_nil.{0} (And.intro @List.take_nil.{0} @List.drop_nil.{0}))))))))))))))))))
/-! ### The code's text, short -/
abbrev Ow (d : Nat) (r : R) : PO := ⟨some d, r, none, false⟩
abbrev Om (d : Nat) (x : Operand) : PO := ⟨some d, .mv x, none, false⟩
abbrev Ov (r : R) : PO := ⟨none, r, none, false⟩
abbrev Og (d : Nat) (r : R) (a : Nat) (b : Bool) : PO := ⟨some d, r, some (a, b), false⟩
abbrev On (d : Nat) (x : Operand) (a : Nat) (b : Bool) : PO := ⟨some d, .mv x, some (a, b), false⟩
abbrev Ci (n : Int) : Operand := .const (.int .i64 n)
abbrev In0 (P : Program) (f : FuncId) (fn : Func) (pc : PC) : Prop := ∀ {H : Heap} {k : Value → Heap → Prop}, (H.Wf → pexec P pc ⟨Rt P fn H k, noEx⟩ (Rt P fn H k) (U) H) → CallQ P f [] H k
theorem in0 {P : Program} {f : FuncId} {fn : Func} {pc : PC} (hf : P.funcs[f]? = some fn) (hc : fn.body.bind (comp P fn.ntmps) = some pc) (he : entered P f = true) (hl : Nat.ble 0 fn.ntmps = true) : In0 P f fn pc := fun h => call_in hf hc he hl env0 h
abbrev In1 (P : Program) (f : FuncId) (fn : Func) (pc : PC) : Prop := ∀ {a0 : Value} {H : Heap} {k : Value → Heap → Prop}, (H.Wf → pexec P pc ⟨Rt P fn H k, noEx⟩ (Rt P fn H k) (upd U 0 a0) H) → CallQ P f [a0] H k
theorem in1 {P : Program} {f : FuncId} {fn : Func} {pc : PC} (hf : P.funcs[f]? = some fn) (hc : fn.body.bind (comp P fn.ntmps) = some pc) (he : entered P f = true) (hl : Nat.ble 1 fn.ntmps = true) : In1 P f fn pc := fun h => call_in hf hc he hl (env1 _) h
abbrev In2 (P : Program) (f : FuncId) (fn : Func) (pc : PC) : Prop := ∀ {a0 a1 : Value} {H : Heap} {k : Value → Heap → Prop}, (H.Wf → pexec P pc ⟨Rt P fn H k, noEx⟩ (Rt P fn H k) (upd (upd U 0 a0) 1 a1) H) → CallQ P f [a0, a1] H k
theorem in2 {P : Program} {f : FuncId} {fn : Func} {pc : PC} (hf : P.funcs[f]? = some fn) (hc : fn.body.bind (comp P fn.ntmps) = some pc) (he : entered P f = true) (hl : Nat.ble 2 fn.ntmps = true) : In2 P f fn pc := fun h => call_in hf hc he hl (env2 _ _) h
abbrev In3 (P : Program) (f : FuncId) (fn : Func) (pc : PC) : Prop := ∀ {a0 a1 a2 : Value} {H : Heap} {k : Value → Heap → Prop}, (H.Wf → pexec P pc ⟨Rt P fn H k, noEx⟩ (Rt P fn H k) (upd (upd (upd U 0 a0) 1 a1) 2 a2) H) → CallQ P f [a0, a1, a2] H k
theorem in3 {P : Program} {f : FuncId} {fn : Func} {pc : PC} (hf : P.funcs[f]? = some fn) (hc : fn.body.bind (comp P fn.ntmps) = some pc) (he : entered P f = true) (hl : Nat.ble 3 fn.ntmps = true) : In3 P f fn pc := fun h => call_in hf hc he hl (env3 _ _ _) h
abbrev In4 (P : Program) (f : FuncId) (fn : Func) (pc : PC) : Prop := ∀ {a0 a1 a2 a3 : Value} {H : Heap} {k : Value → Heap → Prop}, (H.Wf → pexec P pc ⟨Rt P fn H k, noEx⟩ (Rt P fn H k) (upd (upd (upd (upd U 0 a0) 1 a1) 2 a2) 3 a3) H) → CallQ P f [a0, a1, a2, a3] H k
theorem in4 {P : Program} {f : FuncId} {fn : Func} {pc : PC} (hf : P.funcs[f]? = some fn) (hc : fn.body.bind (comp P fn.ntmps) = some pc) (he : entered P f = true) (hl : Nat.ble 4 fn.ntmps = true) : In4 P f fn pc := fun h => call_in hf hc he hl (env4 _ _ _ _) h
abbrev In5 (P : Program) (f : FuncId) (fn : Func) (pc : PC) : Prop := ∀ {a0 a1 a2 a3 a4 : Value} {H : Heap} {k : Value → Heap → Prop}, (H.Wf → pexec P pc ⟨Rt P fn H k, noEx⟩ (Rt P fn H k) (upd (upd (upd (upd (upd U 0 a0) 1 a1) 2 a2) 3 a3) 4 a4) H) → CallQ P f [a0, a1, a2, a3, a4] H k
theorem in5 {P : Program} {f : FuncId} {fn : Func} {pc : PC} (hf : P.funcs[f]? = some fn) (hc : fn.body.bind (comp P fn.ntmps) = some pc) (he : entered P f = true) (hl : Nat.ble 5 fn.ntmps = true) : In5 P f fn pc := fun h => call_in hf hc he hl (env5 _ _ _ _ _) h
abbrev In6 (P : Program) (f : FuncId) (fn : Func) (pc : PC) : Prop := ∀ {a0 a1 a2 a3 a4 a5 : Value} {H : Heap} {k : Value → Heap → Prop}, (H.Wf → pexec P pc ⟨Rt P fn H k, noEx⟩ (Rt P fn H k) (upd (upd (upd (upd (upd (upd U 0 a0) 1 a1) 2 a2) 3 a3) 4 a4) 5 a5) H) → CallQ P f [a0, a1, a2, a3, a4, a5] H k
theorem in6 {P : Program} {f : FuncId} {fn : Func} {pc : PC} (hf : P.funcs[f]? = some fn) (hc : fn.body.bind (comp P fn.ntmps) = some pc) (he : entered P f = true) (hl : Nat.ble 6 fn.ntmps = true) : In6 P f fn pc := fun h => call_in hf hc he hl (env6 _ _ _ _ _ _) h
end Go.Ab
/- Rules for operations that are seldom: texts, arrays, nil, unsafe pointers, entries of the model. -/
set_option linter.unusedVariables false
set_option linter.unusedSimpArgs false
namespace Go.Ab
variable {P : Program} {A : Env} {H : Heap} {k : Value → Heap → Prop}

theorem gen_ok {o : Op} {v : Value} {H' : Heap} (e : rop P (.gen o) A H = some (v, H')) : pr P (.gen o) false A H k = k v H' := by
  refine (onS_fl _).trans ?_
  rw [e, onS_some]
theorem gen_okS {o : Op} {v : Value} {H' : Heap} (e : rop P (.gen o) A H = some (v, H')) : pr P (.gen o) true A H k = flK H k v H' := by
  refine (onS_fl' _).trans ?_
  rw [e, onS_some]

/-! ### Texts -/
section
variable {ty : TypeId} {x lo hi : Operand} {s : ByteArray} {l h : Nat} {ik ik' : IntKind}
theorem rop_slT (ht : P.underlying ty = some .string) (hx : ev A x = .string s) (lo hi : Option Operand) (l h : Nat) (hl : boundOf A lo = some (some (l : Int)) ∨ (boundOf A lo = some none ∧ l = 0)) (hh : boundOf A hi = some (some (h : Int)) ∨ (boundOf A hi = some none ∧ h = (bl s).length)) (h1 : l ≤ h) (h2 : h ≤ (bl s).length) :
    rop P (.gen (.slice ty x lo hi none)) A H = some (.string (mkS (((bl s).drop l).take (h - l))), H) := by
  rcases hl with hl | ⟨hl, rfl⟩ <;> rcases hh with hh | ⟨hh, rfl⟩
  all_goals
    simp only [rop, aop, a_slice, ht, hx, hl, hh, Option.getD_some, Option.getD_none]
    rw [if_pos (by omega)]
    simp
theorem gen_slT (ht : P.underlying ty = some .string) (hx : ev A x = .string s) (hlo : ev A lo = .int ik l) (hhi : ev A hi = .int ik' h) (h1 : l ≤ h) (h2 : h ≤ (bl s).length) :
    pr P (.gen (.slice ty x (some lo) (some hi) none)) false A H k = k (.string (mkS (((bl s).drop l).take (h - l)))) H :=
  gen_ok (rop_slT ht hx _ _ l h (.inl (by simp [boundOf, hlo])) (.inl (by simp [boundOf, hhi])) h1 h2)
theorem gen_slTlo (ht : P.underlying ty = some .string) (hx : ev A x = .string s) (hlo : ev A lo = .int ik l) (h1 : l ≤ (bl s).length) :
    pr P (.gen (.slice ty x (some lo) none none)) false A H k = k (.string (mkS ((bl s).drop l))) H := by
  refine (gen_ok (rop_slT ht hx _ _ l (bl s).length (.inl (by simp [boundOf, hlo])) (.inr ⟨rfl, rfl⟩) h1 (Nat.le_refl _))).trans ?_
  rw [List.take_of_length_le (by rw [List.length_drop]; exact Nat.le_refl _)]
theorem gen_slThi (ht : P.underlying ty = some .string) (hx : ev A x = .string s) (hhi : ev A hi = .int ik h) (h1 : h ≤ (bl s).length) :
    pr P (.gen (.slice ty x none (some hi) none)) false A H k = k (.string (mkS ((bl s).take h))) H := by
  refine (gen_ok (rop_slT ht hx _ _ 0 h (.inr ⟨rfl, rfl⟩) (.inl (by simp [boundOf, hhi])) (Nat.zero_le _) h1)).trans ?_
  rw [List.drop_zero, Nat.sub_zero]
theorem bin_slt (a b : ByteArray) : binK .lss (.string a) (.string b) H k = k (.bool (Op.bytesLess (bl a) (bl b))) H := binK_some (by simp [rbin, strBin])
theorem bin_sle (a b : ByteArray) : binK .leq (.string a) (.string b) H k = k (.bool (Op.bytesLess (bl a) (bl b) || bl a == bl b)) H := binK_some (by simp [rbin, strBin])
theorem bin_sgt (a b : ByteArray) : binK .gtr (.string a) (.string b) H k = k (.bool !(Op.bytesLess (bl a) (bl b) || bl a == bl b)) H := binK_some (by simp [rbin, strBin])
theorem bin_sge (a b : ByteArray) : binK .geq (.string a) (.string b) H k = k (.bool !(Op.bytesLess (bl a) (bl b))) H := binK_some (by simp [rbin, strBin])
/-- Bytes as a text. -/
noncomputable def bytesTy (P : Program) (src dst : TypeId) : Bool := match P.underlying src, P.underlying dst with
  | some (.slice e), some .string => (match P.underlying e with | some (.int .u8) => true | _ => false)
  | _, _ => false
theorem gen_toStr {src dst : TypeId} {n c : Nat} {a : Option Addr} {vs : List Value} {bs : List UInt8} (ht : bytesTy P src dst = true) (hx : ev A x = .slice a n c) (hc : sliceCells 1 (.slice a n c) H = some vs) (hb : bytesIn vs = some bs) :
    pr P (.gen (.convert src dst x)) false A H k = k (.string (mkS bs)) H := by
  unfold bytesTy at ht
  split at ht
  · rename_i e hs hd
    split at ht
    · rename_i he
      exact gen_ok (by simp only [rop, aop, a_convert, hs, hd, hx, he, hc, hb])
    · cases ht
  · cases ht
end

/-! ### Arrays in memory -/
noncomputable def arrTy (P : Program) (ty : TypeId) (n size : Nat) : Bool := match P.underlying ty with
  | some (.array n' e) => Nat.beq n' n && (match P.info? e with | some inf => Nat.beq inf.size size | none => false)
  | _ => false
theorem arrTy_spec {ty : TypeId} {n size : Nat} (h : arrTy P ty n size = true) : ∃ e inf, P.underlying ty = some (.array n e) ∧ P.info? e = some inf ∧ inf.size = size := by
  unfold arrTy at h
  split at h
  · rename_i n' e ht
    simp only [Bool.and_eq_true] at h
    obtain ⟨h1, h2⟩ := h
    split at h2
    · rename_i inf hi
      rw [← Nat.eq_of_beq_eq_true h1]
      exact ⟨e, inf, ht, hi, Nat.eq_of_beq_eq_true h2⟩
    · cases h2
  · cases h
theorem gen_arrAt {ty : TypeId} {n size : Nat} {x ix : Operand} {b o i : Nat} {ik : IntKind} (ht : arrTy P ty n size = true) (hx : ev A x = .pointer (some ⟨b, o, none⟩)) (hi : ev A ix = .int ik i) (h : i < n) :
    pr P (.gen (.indexAddr ty x ix)) false A H k = k (.pointer (some ⟨b, o + i * size, none⟩)) H := by
  obtain ⟨e, inf, htu, he, rfl⟩ := arrTy_spec ht
  exact gen_ok (by
    simp only [rop, aop, a_indexAddr, hi, htu, hx, he]
    rw [if_pos (by omega), Int.toNat_natCast])
theorem gen_arrSl {ty : TypeId} {n size : Nat} {x : Operand} {lo hi : Option Operand} {b o l h : Nat} (ht : arrTy P ty n size = true) (hx : ev A x = .pointer (some ⟨b, o, none⟩))
    (hl : boundOf A lo = some (some (l : Int)) ∨ (boundOf A lo = some none ∧ l = 0)) (hh : boundOf A hi = some (some (h : Int)) ∨ (boundOf A hi = some none ∧ h = n)) (h1 : l ≤ h) (h2 : h ≤ n) (hn : n < UNK) :
    pr P (.gen (.slice ty x lo hi none)) false A H k = k (.slice (some ⟨b, o + l * size, none⟩) (h - l) (n - l)) H := by
  obtain ⟨e, inf, htu, he, rfl⟩ := arrTy_spec ht
  exact gen_ok (by
    rcases hl with hl | ⟨hl, rfl⟩ <;> rcases hh with hh | ⟨hh, rfl⟩
    all_goals
      simp only [rop, aop, a_slice, htu, hx, he, hl, hh, Option.getD_some, Option.getD_none]
      rw [if_pos (by omega)]
      simp)

/-! ### Nil, and places held against each other -/
noncomputable def sliceTy (P : Program) (t : TypeId) : Bool := match P.underlying t with | some (.slice _) => true | _ => false
theorem gen_nilSl {t t' : TypeId} {x : Operand} {a : Option Addr} {n c : Nat} (ht : sliceTy P t = true) (hx : ev A x = .slice a n c) :
    pr P (.gen (.binOp .eql t x (.const (.slice none 0 0)) t')) false A H k = k (.bool a.isNone) H := by
  have hc : ev A (.const (.slice none 0 0)) = .slice none 0 0 := rfl
  unfold sliceTy at ht
  split at ht
  · rename_i h1
    exact gen_ok (by cases a <;> simp [rop, aop, a_binOp, binV, eqBin, pureR, hx, hc, h1, aeq, isCO, notNum, guardOk, isNI, isAg])
  · cases ht
/-- Places of something. -/
noncomputable def ptrTy (P : Program) (t : TypeId) : Bool := match P.underlying t with | some (.pointer e) => (match P.info? e with | some inf => Nat.blt 0 inf.size | none => false) | _ => false
theorem ptrTy_spec {t : TypeId} (h : ptrTy P t = true) : ∃ e inf, P.underlying t = some (.pointer e) ∧ P.info? e = some inf ∧ ¬ inf.size = 0 := by
  unfold ptrTy at h
  split at h
  · rename_i e ht
    split at h
    · rename_i inf hi
      have : 0 < inf.size := by simpa using h
      exact ⟨e, inf, ht, hi, by omega⟩
    · cases h
  · cases h
theorem gen_nilPt {t t' : TypeId} {x : Operand} {a : Option Addr} (ht : ptrTy P t = true) (hx : ev A x = .pointer a) :
    pr P (.gen (.binOp .eql t x (.const (.pointer none)) t')) false A H k = k (.bool a.isNone) H := by
  have hc : ev A (.const (.pointer none)) = .pointer none := rfl
  obtain ⟨e, inf, h1, _, _⟩ := ptrTy_spec ht
  exact gen_ok (by cases a <;> simp [rop, aop, a_binOp, binV, eqBin, pureR, hx, hc, h1, aeq, isCO, notNum, guardOk, isNI, isAg])
noncomputable def funcTy (P : Program) (t : TypeId) : Bool := match P.underlying t with | some (.func _ _ _) => true | _ => false
theorem gen_nilF {t t' : TypeId} {x : Operand} (ht : funcTy P t = true) {f : Fn} {a b : Array Value} (hx : ev A x = .func f a b) :
    pr P (.gen (.binOp .eql t x (.const .nilFunc) t')) false A H k = k (.bool false) H := by
  have hc : ev A (.const .nilFunc) = .nilFunc := rfl
  unfold funcTy at ht
  split at ht
  · rename_i h1
    exact gen_ok (by simp [rop, aop, a_binOp, binV, eqBin, pureR, hx, hc, h1, aeq, isCO, notNum, guardOk, isNI, isAg])
  · cases ht
theorem gen_nilF0 {t t' : TypeId} {x : Operand} (ht : funcTy P t = true) (hx : ev A x = .nilFunc) :
    pr P (.gen (.binOp .eql t x (.const .nilFunc) t')) false A H k = k (.bool true) H := by
  have hc : ev A (.const .nilFunc) = .nilFunc := rfl
  unfold funcTy at ht
  split at ht
  · rename_i h1
    exact gen_ok (by simp [rop, aop, a_binOp, binV, eqBin, pureR, hx, hc, h1, aeq, isCO, notNum, guardOk, isNI, isAg])
  · cases ht
/-- A place held against itself. -/
theorem gen_neqPt {t t' : TypeId} {x y : Operand} {b o : Nat} (ht : ptrTy P t = true) (hx : ev A x = .pointer (some ⟨b, o, none⟩)) (hy : ev A y = .pointer (some ⟨b, o, none⟩)) :
    pr P (.gen (.binOp .neq t x y t')) false A H k = k (.bool false) H := by
  obtain ⟨e, inf, h1, h2, h3⟩ := ptrTy_spec ht
  exact gen_ok (by simp [rop, aop, a_binOp, binV, eqBin, pureR, hx, hy, h1, h2, h3, aeq, isCO, notNum, guardOk, isNI, isAg])

/-! ### Numbers -/
theorem gen_min {x y : Operand} {ts : Array TypeId} {ik : IntKind} {a b : Int} (hx : ev A x = .int ik a) (hy : ev A y = .int ik b) : pr P (.gen (.call ⟨.builtin .min, #[x, y], ts⟩)) false A H k = k (.int ik (if b < a then b else a)) H :=
  gen_ok (by simp [rop, aop, a_call, hx, hy])
theorem gen_negI {t : TypeId} {x : Operand} {ik : IntKind} {n : Int} (hx : ev A x = .int ik n) : pr P (.gen (.unOp .neg t x)) false A H k = k (.int ik (ik.wrap (-n))) H :=
  gen_ok (by simp [rop, aop, a_unOp, hx, pureR, unBin])

/-! ### Pointers without a type -/
noncomputable def toUn (P : Program) (src dst : TypeId) : Bool := match P.underlying src, P.underlying dst with
  | some (.pointer t), some .unsafePointer => (match P.info? t with | some j => Nat.blt 0 j.size | none => false)
  | _, _ => false
theorem gen_toUn {src dst : TypeId} {x : Operand} {b o : Nat} {c : List Value} {e : TypeId} (ht : toUn P src dst = true) (hx : ev A x = .pointer (some ⟨b, o, none⟩)) (hg : H.get b = some (.cells c e false)) (ho : o < c.length) :
    pr P (.gen (.convert src dst x)) false A H k = k (.pointer (some ⟨b, o, none⟩)) H := by
  unfold toUn at ht
  split at ht
  · rename_i t h1 h2
    split at ht
    · rename_i j hj
      have : 0 < j.size := by simpa using ht
      exact gen_ok (by
        simp only [rop, aop, a_convert, h1, h2, hx, hj, hg]
        rw [if_pos ⟨by omega, ho⟩])
    · cases ht
  · cases ht
noncomputable def fromUn (P : Program) (src dst e : TypeId) (n o : Nat) : Bool := match P.underlying src, P.underlying dst with
  | some .unsafePointer, some (.pointer u) => (match P.info? u with | some _ => liesAt P P.depth e (n / P.cellsOf e) o u 1 | none => false)
  | _, _ => false
theorem gen_fromUn {src dst : TypeId} {x : Operand} {b o : Nat} {c : List Value} {e : TypeId} (ht : fromUn P src dst e c.length o = true) (hx : ev A x = .pointer (some ⟨b, o, none⟩)) (hg : H.get b = some (.cells c e false)) :
    pr P (.gen (.convert src dst x)) false A H k = k (.pointer (some ⟨b, o, none⟩)) H := by
  unfold fromUn at ht
  split at ht
  · rename_i u h1 h2
    split at ht
    · rename_i j hj
      exact gen_ok (by
        simp only [rop, aop, a_convert, h1, h2, hx, hj, hg]
        rw [if_pos ht])
    · cases ht
  · cases ht
theorem gen_slData {x : Operand} {ts : Array TypeId} {a : Option Addr} {n c : Nat} (hx : ev A x = .slice a n c) (h : a = none ∨ n ≠ 0) : pr P (.gen (.call ⟨.builtin .unsafeSliceData, #[x], ts⟩)) false A H k = k (.pointer a) H :=
  gen_ok (by cases a <;> simp_all [rop, aop, a_call])
theorem gen_unStr0 {x y : Operand} {pt t2 : TypeId} (hx : ev A x = .pointer none) (hy : ev A y = .int .i64 0) : pr P (.gen (.call ⟨.builtin .unsafeString, #[x, y], #[pt, t2]⟩)) false A H k = k (.string (mkS [])) H :=
  gen_ok (by simp [rop, aop, a_call, hx, hy])
/-- Bytes become a text: nothing may be written there from then on. -/
noncomputable def byPtr (P : Program) (pt e : TypeId) : Bool := match P.underlying pt with | some (.pointer e') => Nat.beq e' e && Nat.beq (P.cellsOf e') 1 | _ => false
theorem gen_unStr {x y : Operand} {pt t2 e : TypeId} {b : Nat} {c : List Value} {bs : List UInt8} (ht : byPtr P pt e = true) (hx : ev A x = .pointer (some ⟨b, 0, none⟩)) (hy : ev A y = .int .i64 (c.length : Int)) (hg : H.get b = some (.cells c e false)) (h0 : 0 < c.length) (hm : c.length ≤ 9223372036854775807) (hu : c.all u8ok = true) (hb : bytesIn c = some bs) :
    pr P (.gen (.call ⟨.builtin .unsafeString, #[x, y], #[pt, t2]⟩)) false A H k = k (.string (mkS bs)) (H.set b (.cells c e true)) := by
  unfold byPtr at ht
  split at ht
  · rename_i e' h1
    simp only [Bool.and_eq_true] at ht
    obtain ⟨h2, h3⟩ := ht
    have h2 := Nat.eq_of_beq_eq_true h2
    have h3 := Nat.eq_of_beq_eq_true h3
    subst h2
    refine gen_ok ?_
    simp only [rop, aop, a_call, hx, hy, h1, hg, Int.toNat_natCast, List.take_length]
    rw [if_pos ⟨trivial, trivial, h3, by omega, Nat.le_refl _, by omega, hu⟩, hb]
  · cases ht

/-! ### Entries of the model -/
theorem callQ_ext {f : FuncId} {e : Xk} {args : List Value} {v : Value} (hx : IsExt P f e) (hv : e.val args = some v) (h : k v H) : CallQ P f args H k :=
  fun hw => ⟨v, H, .inr (ext_does hx hv), Nat.le_refl _, hw, h⟩

/-! ### Cells -/
theorem cellsV_string (s : ByteArray) : (Value.string s).cells.toList = [.string s] := Eq.trans rfl rfl
theorem cellsV_ptr (a : Option Addr) : (Value.pointer a).cells.toList = [.pointer a] := Eq.trans rfl rfl
theorem oneCell_string (s : ByteArray) : (Value.string s).oneCell' = true := Eq.trans rfl rfl
theorem oneCell_ptr (a : Option Addr) : (Value.pointer a).oneCell' = true := Eq.trans rfl rfl
abbrev syA := And.intro @cellsV_string (And.intro @cellsV_ptr (And.intro @oneCell_string (And.intro @oneCell_ptr (And.intro @bin_slt (And.intro @bin_sle (And.intro @bin_sgt (And.intro @bin_sge (And.intro @bl_mkS @mkS_bl))))))))
end Go.Ab
/- From what came in to the abstract heap, and back to the kit's calls. -/
set_option linter.unusedVariables false
namespace Go.Ab
open Go.RowKit
section
variable {P : Program} {ρ : Ren} {H : Heap} {w : World}

/-- No block may be written. -/
def AllRo (H : Heap) : Prop := ∀ id b, H.get id = some b → b.ro = true

theorem allRo_H0 : AllRo (H0 P) := fun id b h => by rw [H0_get] at h; cases h
theorem wf_H0 : (H0 P).Wf := fun id _ => H0_get P id

/-- Cells that came in. -/
theorem Sim.addRo (hs : Sim P ρ H w) (hro : AllRo H) {c : List Value} (e : TypeId) {a : Addr} (hlt : a.block < w.heap.size) (hc : ∀ (j : Nat) v, c[j]? = some v → ∃ v', w.cell? (a.add j) = some v' ∧ V ρ v v') :
    Sim P (ext ρ H.next ⟨a, 0, 0⟩) (H.push (.cells c e true)) w := by
  have hn := hs.none_next
  have hsub := sub_ext ⟨a, 0, 0⟩ hn
  refine ⟨fun id j h => ?_, fun id bl j h h' => ?_, fun id1 id2 b1 b2 i1 i2 h1 h2 h3 h4 h5 h6 => ?_, fun g hg => ?_⟩
  · by_cases ee : id = H.next
    · subst ee; simp
    · rw [ext_ne ρ _ ee] at h; have := hs.dom _ _ h; simp; omega
  · by_cases ee : id = H.next
    · subst ee
      rw [ext_same] at h'; cases h'
      rw [Heap.get_push, if_pos rfl] at h; cases h
      exact ⟨hlt, fun j v hj => by obtain ⟨v', x1, x2⟩ := hc j v hj; exact ⟨v', x1, x2.mono hsub⟩⟩
    · rw [ext_ne ρ _ ee] at h'; rw [Heap.get_push, if_neg ee] at h
      exact (hs.live id bl j h h').mono hsub rfl
  · have : b1.ro = true := by
      by_cases ee : id1 = H.next
      · subst ee; rw [Heap.get_push, if_pos rfl] at h1; cases h1; rfl
      · rw [Heap.get_push, if_neg ee] at h1; exact hro _ _ h1
    rw [this] at h5; cases h5
  · obtain ⟨j, hj, ee⟩ := hs.glob g hg
    exact ⟨j, hsub _ _ hj, ee⟩

/-- A number for an address of which nothing is known. -/
theorem Sim.addDead (hs : Sim P ρ H w) (hw : H.Wf) (a : Addr) : Sim P (ext ρ H.next ⟨a, 0, 0⟩) (H.up (H.next + 1)) w := by
  have hn := hs.none_next
  have hsub := sub_ext ⟨a, 0, 0⟩ hn
  refine ⟨fun id j h => ?_, fun id bl j h h' => ?_, fun id1 id2 b1 b2 i1 i2 h1 h2 h3 h4 h5 h6 => ?_, fun g hg => ?_⟩
  · by_cases ee : id = H.next
    · subst ee; simp
    · rw [ext_ne ρ _ ee] at h; have := hs.dom _ _ h; simp; omega
  · rw [Heap.get_up] at h
    have := hw.lt h
    rw [ext_ne ρ _ (by omega)] at h'
    exact (hs.live id bl j h h').mono hsub rfl
  · rw [Heap.get_up] at h1 h2
    have := hw.lt h1
    have := hw.lt h2
    rw [ext_ne ρ _ (by omega)] at h3 h4
    exact hs.sep id1 id2 b1 b2 i1 i2 h1 h2 h3 h4 h5 h6
  · obtain ⟨j, hj, ee⟩ := hs.glob g hg
    exact ⟨j, hsub _ _ hj, ee⟩

theorem AllRo.push (h : AllRo H) (c : List Value) (e : TypeId) : AllRo (H.push (.cells c e true)) := fun id b hb => by
  rw [Heap.get_push] at hb
  split at hb
  · cases hb; rfl
  · exact h id b hb
theorem AllRo.up (h : AllRo H) (m : Nat) : AllRo (H.up m) := fun id b hb => h id b (by rw [Heap.get_up] at hb; exact hb)

/-- A slice that came in. -/
theorem V.sliceIn {id len cap : Nat} {a : Addr} (hi : ρ id = some ⟨a, 0, 0⟩) (hl : len ≤ cap) (hc : cap < UNK) : V ρ (.slice (some ⟨id, 0, none⟩) len cap) (.slice (some a) len cap) :=
  .slice id 0 len cap cap ⟨a, 0, 0⟩ a hi (.inl (by rw [show (⟨a, 0, 0⟩ : Info).at_ = a from rfl]; unfold Addr.add; rw [if_pos rfl])) hl hc (fun h => by omega) (fun _ => rfl)

/-- A contract of a law, as the kit's calls say it. -/
theorem calls_of_callQ {f : FuncId} {args args' : List Value} {X : Value → Heap → Prop} (h : CallQ P f args H fun u H' => u = .bool true ∧ X u H') (hw : H.Wf) (he : entered P f = true) (hs : Sim P ρ H w) (ha : VL ρ args args') (hro : AllRo H) :
    Calls P f args'.toArray w fun e w' => e = .returned (.bool true) ∧ Below w.heap.size w w' := by
  obtain ⟨v, H', hc, _, _, rfl, _⟩ := h hw
  exact calls_of_does (hc.does he) hs ha rfl hro

theorem cells_get {base : Nat} {a : Addr} {n : Nat} {cs : List Value} (h : w.cells? base a n = some cs) : cs.length = n ∧ ∀ i, i < n → w.cell? (a.add i) = cs[i]? := by
  unfold World.cells? at h
  split at h
  · have hl := run_results.mapM_length h
    refine ⟨by simpa using hl, fun i hi => ?_⟩
    have key : ∀ (l : List Nat) (cs : List Value), l.mapM (fun i => w.cell? (a.add i)) = some cs → ∀ (j : Nat) x, l[j]? = some x → w.cell? (a.add x) = cs[j]? := by
      intro l
      induction l with
      | nil => intro cs h j x hx; simp at hx
      | cons y l ih =>
        intro cs h j x hx
        simp only [List.mapM_cons, Option.bind_eq_bind, Option.bind_eq_some_iff, Option.pure_def, Option.some.injEq] at h
        obtain ⟨v, hv, vs, hvs, rfl⟩ := h
        cases j with
        | zero => simp at hx; subst hx; simpa using hv
        | succ j => simpa using ih vs hvs j x (by simpa using hx)
    exact key _ _ h i i (by simp [hi])
  · cases h
end
end Go.Ab
/- A closed call over a small heap, whose blocks are found in a great one: what it tells it tells there too. -/
set_option linter.unusedVariables false
namespace Go.Ab
open Go.RowKit

variable {P : Program}

theorem does_view {f : FuncId} {args args2 : List Value} {v : Value} {B H1 H : Heap} {τ : Nat → Nat} (hd : Does P f args B (.ret v) H1) (hv : plain v = true) (hg : P.globals.size ≤ B.next) (hτ : ∀ g, g < P.globals.size → τ g = g)
    (hB : ∀ id b, B.get id = some b → ∃ c e c2 e2 ro, b = .cells c e true ∧ H.get (τ id) = some (.cells c2 e2 ro) ∧ c.length = c2.length ∧ ∀ (j : Nat) x y, c[j]? = some x → c2[j]? = some y → Seen τ B.next x y)
    (hl : args.length = args2.length) (ha : ∀ (j : Nat) x y, args[j]? = some x → args2[j]? = some y → Seen τ B.next x y) : Does P f args2 H (.ret v) H := by
  intro ρ w args' hs hargs
  have hargs' : VL (back ρ τ B.next) args args' := ⟨by rw [hl]; exact hargs.1, fun j x x' e e' => by
    have hj : j < args2.length := by have := (List.getElem?_eq_some_iff.1 e).1; omega
    exact ha j x args2[j] e (List.getElem?_eq_getElem hj) ρ x' (hargs.2 j _ x' (List.getElem?_eq_getElem hj) e')⟩
  have hsim : Sim P (back ρ τ B.next) B w := by
    refine ⟨fun id j h => (back_some h).1, fun id b i hb hi => ?_, fun id1 id2 b1 b2 i1 i2 h1 h2 h3 h4 h5 => ?_, fun g hgl => ?_⟩
    · obtain ⟨c, e, c2, e2, ro, rfl, hh, hc, hx⟩ := hB id b hb
      have hr := hs.live _ _ i hh (back_some hi).2
      refine ⟨hr.lt, fun j u hj => ?_⟩
      have hj2 : j < c2.length := by have := (List.getElem?_eq_some_iff.1 hj).1; omega
      obtain ⟨u', h1, h2⟩ := hr.cellAt (List.getElem?_eq_getElem hj2)
      exact ⟨u', h1, hx j u c2[j] hj (List.getElem?_eq_getElem hj2) ρ u' h2⟩
    · obtain ⟨c, e, c2, e2, ro, rfl, _⟩ := hB id1 b1 h1
      cases h5
    · obtain ⟨j, hj, e⟩ := hs.glob g hgl
      refine ⟨j, ?_, e⟩
      unfold back
      rw [if_pos (by omega), hτ g hgl]; exact hj
  refine (hd _ w args' hsim hargs').mono ?_
  rintro e w' ⟨ρ', ho, hst, hs'⟩
  have hbel := hst.below (fun id b h => by obtain ⟨c, e, c2, e2, ro, rfl, _⟩ := hB id b h; rfl)
  refine ⟨ρ, ?_, ⟨.refl ρ, Nat.le_refl _, fun _ _ _ h => h, fun _ _ b b' _ h hr h' => (by rw [h] at h'; cases h'; exact hr), fun id i h h' => (by rw [h'] at h; cases h), hbel.os, hbel.tape, hbel.output, hbel.size, fun b hb _ => hbel.block b hb⟩,
    ⟨hs.dom, fun id b i h h' => (hs.live id b i h h').mono (.refl ρ) (hbel.block _ (hs.live id b i h h').lt), hs.sep, hs.glob⟩⟩
  cases e with
  | returned v' =>
    have : v' = v := V.plain_eq ho hv
    subst this
    exact .same _ hv
  | _ => exact ho.elim
end Go.Ab
/- A read-only picture of what a call leaves: the call gives the picture, wherever what it reads lies. -/
set_option linter.unusedVariables false
namespace Go.Ab

/-- The renaming of a picture: below M as it was, from M on what is said. -/
def picR (M n : Nat) (ρ : Ren) (inf : Nat → Info) : Ren := fun id => if id < M then ρ id else if id < M + n then some (inf (id - M)) else none

/-- Rows numbered from M on are a read-only picture of a value of a heap. -/
def Pic (P : Program) (M : Nat) (H1 : Heap) (v u : Value) (rs : List Row) : Prop :=
  ∀ ρ1 w v', Sim P ρ1 H1 w → V ρ1 v v' → ∃ (src : Nat → Nat) (inf : Nat → Info),
    (∀ k, k < rs.length → M ≤ src k ∧ ∃ i, ρ1 (src k) = some i ∧ (inf k).at_ = i.at_) ∧
    V (picR M rs.length ρ1 inf) u v' ∧ ∀ k r, rs[k]? = some r → BlkRel P (picR M rs.length ρ1 inf) (inf k) w (.cells r.c r.e true)

theorem pic_does {P : Program} {f : FuncId} {args args2 : List Value} {v u : Value} {B H1 : Heap} {τ : Nat → Nat} (hd : Does P f args B (.ret v) H1) (hg : P.globals.size ≤ B.next) (hτ : ∀ g, g < P.globals.size → τ g = g)
    {rs : List Row} (hp : Pic P B.next H1 v u rs) (hu : okD 6 u = true) (hrs : ∀ r ∈ rs, r.ro = true ∧ r.c.all (okD 6) = true) (H : Heap)
    (hB : ∀ id b, B.get id = some b → ∃ c e c2 e2 ro, b = .cells c e true ∧ H.get (τ id) = some (.cells c2 e2 ro) ∧ c.length = c2.length ∧ ∀ (j : Nat) x y, c[j]? = some x → c2[j]? = some y → Seen τ B.next x y)
    (ha : beqL (mtV (sigmaT τ B.next) 6) args2 args = true) :
    Does P f args2 H (.ret (shW (shM τ B.next H.next) 6 u)) (pushW (shM τ B.next H.next) rs H) := by
  intro ρ w args' hs hargs
  have hbk := fun a b i => back_sig (ρ := ρ) (τ := τ) (n := B.next) (a := a) (b := b) (i := i)
  obtain ⟨hal, hav⟩ := beqL_get ha
  have hargs' : VL (back ρ τ B.next) args args' := ⟨by rw [← hal]; exact hargs.1, fun j x x' e e' => by
    have hj : j < args2.length := by have := (List.getElem?_eq_some_iff.1 e).1; omega
    exact mtV_V hbk 6 (hav j args2[j] x (List.getElem?_eq_getElem hj) e) (hargs.2 j _ x' (List.getElem?_eq_getElem hj) e')⟩
  have hnro : ∀ id b, B.get id = some b → b.ro = true := fun id b h => by obtain ⟨c, e, c2, e2, ro, rfl, _⟩ := hB id b h; rfl
  have hsim : Sim P (back ρ τ B.next) B w := by
    refine ⟨fun id j h => (back_some h).1, fun id b i hb hi => ?_, fun id1 id2 b1 b2 i1 i2 h1 h2 h3 h4 h5 => ?_, fun g hgl => ?_⟩
    · obtain ⟨c, e, c2, e2, ro, rfl, hh, hc, hx⟩ := hB id b hb
      have hr := hs.live _ _ i hh (back_some hi).2
      refine ⟨hr.lt, fun j u hj => ?_⟩
      have hj2 : j < c2.length := by have := (List.getElem?_eq_some_iff.1 hj).1; omega
      obtain ⟨u', h1, h2⟩ := hr.cellAt (List.getElem?_eq_getElem hj2)
      exact ⟨u', h1, hx j u c2[j] hj (List.getElem?_eq_getElem hj2) ρ u' h2⟩
    · rw [hnro id1 b1 h1] at h5; cases h5
    · obtain ⟨j, hj, e⟩ := hs.glob g hgl
      refine ⟨j, ?_, e⟩
      unfold back
      rw [if_pos (by omega), hτ g hgl]; exact hj
  refine (hd _ w args' hsim hargs').mono ?_
  rintro e w' ⟨ρ1, ho, hst, hs1⟩
  cases e with
  | returned v' =>
    have hsame : ∀ b, b < w.heap.size → w'.heap[b]? = w.heap[b]? := fun b hb => hst.frame b hb (fun id i bl _ h2 h3 => by rw [hnro id bl h2] at h3; cases h3)
    have hnew : ∀ id i, ρ1 id = some i → B.next ≤ id → w.heap.size ≤ i.at_.block := fun id i h hid => by
      have hn : back ρ τ B.next id = none := by unfold back; rw [if_neg (by omega)]
      rcases (hst.fresh id i h hn).2 with h | ⟨id0, i0, b0, _, _, h3, h4⟩
      · exact h
      · rw [hnro id0 b0 h3] at h4; cases h4
    obtain ⟨src, inf, hsrc, hpv, hpr⟩ := hp ρ1 w' v' hs1 ho
    generalize hM : B.next = M at *
    have hsh : ∀ id, shM τ M H.next id = if id < M then τ id else H.next + (id - M) := fun id => by
      unfold shM; rw [blt_dec]; by_cases h : id < M <;> simp [h]
    let ρc : Ren := picR M rs.length ρ1 inf
    let ρ' : Ren := fun id => if id < H.next then ρ id else ρc (M + (id - H.next))
    have hmap : ∀ b i, ρc b = some i → ρ' (shM τ M H.next b) = some i := fun b i h => by
      rw [hsh]
      by_cases hb : b < M
      · simp only [hb, if_true, ρ']
        simp only [ρc, picR, hb, if_true] at h
        cases hk : back ρ τ M b with
        | none =>
          have := (hst.fresh b i h hk).1
          omega
        | some i0 =>
          have := hst.mono b i0 hk
          rw [h] at this
          cases this
          have h2 := (back_some hk).2
          rw [if_pos (hs.dom _ _ h2)]
          exact h2
      · simp only [hb, if_false, ρ']
        rw [if_neg (by omega), show M + (H.next + (b - M) - H.next) = b by omega]
        exact h
    have hval : ∀ {y z : Value}, okD 6 y = true → V ρc y z → V ρ' (shW (shM τ M H.next) 6 y) z := fun h2 h3 => shW_V hmap 6 h3 h2
    have hsub : Sub ρ ρ' := fun id i h => by
      simp only [ρ']
      rw [if_pos (hs.dom id i h)]
      exact h
    have hget : ∀ id, (pushW (shM τ M H.next) rs H).get id = if H.next ≤ id ∧ id < H.next + rs.length then (rs[id - H.next]?).map (Row.blkW (shM τ M H.next)) else H.get id := fun id => pushW_get rs H id
    have hnext : (pushW (shM τ M H.next) rs H).next = H.next + rs.length := pushW_next rs H
    have hhigh : ∀ id i, ρ' id = some i → H.next ≤ id → id - H.next < rs.length ∧ i = inf (id - H.next) := fun id i hi hid => by
      simp only [ρ'] at hi
      rw [if_neg (by omega)] at hi
      simp only [ρc, picR] at hi
      rw [if_neg (by omega)] at hi
      by_cases hl : M + (id - H.next) < M + rs.length
      · rw [if_pos hl, show M + (id - H.next) - M = id - H.next by omega] at hi
        cases hi
        exact ⟨by omega, rfl⟩
      · rw [if_neg hl] at hi; cases hi
    have hlow : ∀ id i, ρ' id = some i → id < H.next → ρ id = some i := fun id i hi hid => by
      simp only [ρ'] at hi
      rwa [if_pos hid] at hi
    have hgl : ∀ id, id < H.next → (pushW (shM τ M H.next) rs H).get id = H.get id := fun id hid => by rw [hget, if_neg (by omega)]
    have hinf : ∀ k, k < rs.length → w.heap.size ≤ (inf k).at_.block := fun k hk => by
      obtain ⟨h1, i, h2, h3⟩ := hsrc k hk
      rw [h3]; exact hnew _ i h2 h1
    refine ⟨ρ', ?_, ⟨hsub, by rw [hnext]; omega, fun id i h h' => ?_, fun id i b b' h h1 h2 h3 => ?_, fun id i h h' => ?_, hst.os, hst.tape, hst.output, hst.size, fun b hb _ => hsame b hb⟩,
      ⟨fun id i h => ?_, fun id b i hb hi => ?_, fun id1 id2 b1 b2 i1 i2 h1 h2 h3 h4 h5 h6 => ?_, fun g hg => ?_⟩⟩
    · exact hval hu hpv
    · rw [hgl id (hs.dom id i h)]; exact h'
    · rw [hgl id (hs.dom id i h), h1] at h3; cases h3; exact h2
    · have hid : H.next ≤ id := by
        rcases Nat.lt_or_ge id H.next with hlt | hge
        · rw [hlow id i h hlt] at h'; cases h'
        · exact hge
      obtain ⟨hk, rfl⟩ := hhigh id i h hid
      exact ⟨hid, .inl (hinf _ hk)⟩
    · rw [hnext]
      rcases Nat.lt_or_ge id H.next with hlt | hge
      · omega
      · have := (hhigh id i h hge).1
        omega
    · rcases Nat.lt_or_ge id H.next with hlt | hge
      · rw [hgl id hlt] at hb
        have hr := hs.live id b i hb (hlow id i hi hlt)
        exact hr.mono hsub (hsame _ hr.lt)
      · obtain ⟨hk, rfl⟩ := hhigh id i hi hge
        have hrk := List.getElem?_eq_getElem hk
        rw [hget, if_pos ⟨hge, by omega⟩, hrk] at hb
        cases hb
        obtain ⟨ro1, ok1⟩ := hrs _ (List.getElem_mem hk)
        have hb1 := hpr _ _ hrk
        unfold Row.blkW
        rw [ro1]
        refine hb1.turn (by simp) fun j x y z hx hy hz => ?_
        simp only [List.getElem?_map, Option.map_eq_some_iff] at hy
        obtain ⟨y0, hy0, rfl⟩ := hy
        rw [hx] at hy0
        cases hy0
        exact hval (List.all_eq_true.1 ok1 x (List.mem_of_getElem? hx)) hz
    · have old : ∀ id b i, id < H.next → (pushW (shM τ M H.next) rs H).get id = some b → ρ' id = some i → i.at_.block < w.heap.size := fun id b i hlt hb hi => by
        rw [hgl id hlt] at hb
        exact (hs.live id b i hb (hlow id i hi hlt)).lt
      rcases Nat.lt_or_ge id1 H.next with l1 | l1
      · rcases Nat.lt_or_ge id2 H.next with l2 | l2
        · rw [hgl id1 l1] at h1; rw [hgl id2 l2] at h2
          exact hs.sep id1 id2 b1 b2 i1 i2 h1 h2 (hlow id1 i1 h3 l1) (hlow id2 i2 h4 l2) h5 h6
        · have a1 := old id1 b1 i1 l1 h1 h3
          obtain ⟨hk, rfl⟩ := hhigh id2 i2 h4 l2
          have a2 := hinf _ hk
          omega
      · obtain ⟨hk, rfl⟩ := hhigh id1 i1 h3 l1
        rw [hget, if_pos ⟨l1, by omega⟩, List.getElem?_eq_getElem hk] at h1
        cases h1
        have := (hrs _ (List.getElem_mem hk)).1
        unfold Row.blkW Blk.ro at h5
        simp only [this] at h5
        cases h5
    · obtain ⟨j, hj, e⟩ := hs.glob g hg
      exact ⟨j, hsub _ _ hj, e⟩
  | _ => exact ho.elim
/-- A closed call over blocks that may not be written, which are found in a world in any way. -/
theorem does_view2 {P : Program} {f : FuncId} {args args2 : List Value} {v : Value} {B H1 H : Heap} (hd : Does P f args B (.ret v) H1) (hv : mtV (fun _ => none) 6 v v = true) (hro : ∀ id b, B.get id = some b → b.ro = true)
    (hview : ∀ ρ w args', Sim P ρ H w → VL ρ args2 args' → ∃ ρb, Sim P ρb B w ∧ VL ρb args args') : Does P f args2 H (.ret v) H := by
  intro ρ w args' hs hargs
  obtain ⟨ρb, hsb, hab⟩ := hview ρ w args' hs hargs
  refine (hd ρb w args' hsb hab).mono ?_
  rintro e w' ⟨ρ', ho, hst, hs'⟩
  have hsame : ∀ b, b < w.heap.size → w'.heap[b]? = w.heap[b]? := fun b hb => hst.frame b hb (fun id i bl _ h2 h3 => by rw [hro id bl h2] at h3; cases h3)
  refine ⟨ρ, ?_, ⟨.refl ρ, Nat.le_refl _, fun _ _ _ h => h, fun _ _ b b' _ h hr h' => (by rw [h] at h'; cases h'; exact hr), fun id i h h' => (by rw [h'] at h; cases h), hst.os, hst.tape, hst.output, hst.size, fun b hb _ => hsame b hb⟩,
    ⟨hs.dom, fun id b i h h' => (hs.live id b i h h').mono (.refl ρ) (hsame _ (hs.live id b i h h').lt), hs.sep, hs.glob⟩⟩
  cases e with
  | returned v' => exact mtV_V (fun a b i h => by cases h) 6 hv ho
  | _ => exact ho.elim
end Go.Ab
/- The entry that gives room of whatever bytes: a slice of n bytes of which nothing is known. -/
set_option linter.unusedVariables false
namespace Go.Ab
open Go.Extern.BytealgMakeNoZero

theorem mem_digits : ∀ (n t : Nat) (acc : Array Value), (∀ v ∈ acc, ∃ k : Int, v = .int .u8 k ∧ 0 ≤ k ∧ k < 256) → ∀ v ∈ digits n t acc, ∃ k : Int, v = .int .u8 k ∧ 0 ≤ k ∧ k < 256
  | 0, t, acc, h => h
  | n + 1, t, acc, h => mem_digits n (t / 256) _ fun v hv => by
    rcases Array.mem_push.1 hv with hv | rfl
    · exact h v hv
    · refine ⟨_, rfl, ?_, ?_⟩
      · exact Int.natCast_nonneg _
      · have := Nat.mod_lt t (show 0 < 256 by decide)
        show ((t % 256 : Nat) : Int) < 256
        omega

section
variable {P : Program} {H : Heap}

theorem run_room (w : World) (ps : Array TypeId) (t e : TypeId) (ht : P.underlying t = some (.slice e)) (n : Nat) (hn : n ≤ 281474976710656) :
    ∃ cap t', (makeNoZero ps #[t] #[.int .i64 n]).run P w = .ok (.slice (some ⟨w.heap.size, 0, none⟩) n cap) (w.drew.drew.alloc (.cells (digits cap t' #[]) e)) ∧ n ≤ cap ∧ cap < UNK := by
  have hdef : makeNoZero ps #[t] #[.int .i64 n] =
      (do
        let .slice elem ← underlying t | stuck "bytealg.MakeNoZero: slice type expected"
        if (n : Int) < 0 || (n : Int) > 2 ^ 48 then runtimePanic (.error "makeslice: len out of range")
        let cap ← choose (.appendCap (n : Int).toNat 0 elem)
        askRoom cap
        let bytes ← choose (.extern "internal/bytealg.MakeNoZero.bytes" 0)
        let a ← newRow elem (digits cap bytes #[])
        pure (.slice (some a) (n : Int).toNat cap)) := rfl
  refine ⟨grownCap w n 0 e, (Question.extern "internal/bytealg.MakeNoZero.bytes" 0).cut (w.tape (w.drawn + 1) (.extern "internal/bytealg.MakeNoZero.bytes" 0)), ?_, ?_, ?_⟩
  · rw [hdef]
    have h1 : ¬ (n : Int) < 0 := by omega
    have h2 : ¬ (281474976710656 : Int) < (n : Int) := by omega
    simp [run_underlying ht, h1, h2, Question.forced, newRow, grownCap]
  · simpa using grownCap_ge w n 0 e
  · have := grownCap_le_maxLen w n 0 e (by simp only [maxLen]; omega)
    simp only [maxLen, UNK] at *
    omega

/-- A function that is this entry; its bytes' type. -/
def IsRoom (P : Program) (f : FuncId) (e : TypeId) : Prop :=
  ∃ fn ps t, P.funcs[f]? = some fn ∧ (fn.name == "runtime.NumGoroutine") = false ∧ fn.body.isNone = true ∧ (Extern.findNext fn).isNone = true ∧ Extern.find fn = some (makeNoZero ps #[t]) ∧ P.underlying t = some (.slice e) ∧ P.cellsOf e = 1

theorem room_does {f : FuncId} {e : TypeId} {n : Nat} (hx : IsRoom P f e) (hn : n ≤ 281474976710656) :
    ExtDoes P f [.int .i64 n] H (.slice (some ⟨H.next, 0, none⟩) n (UNK + 1)) (H.push (.cells [] e false)) := by
  obtain ⟨fn, ps, t, h1, h2, h3, h4, h5, h6, h7⟩ := hx
  have h4 : Extern.findNext fn = none := by simpa using h4
  intro ρ w args' hs ha
  obtain ⟨x, l, rfl, hx, hl⟩ := ha.uncons
  obtain rfl := hl.unnil
  rw [hx.plain_eq rfl, run_callFunc_extern h1 h2 h3 h4 h5]
  obtain ⟨cap, t', hr, hc1, hc2⟩ := run_room w ps t e h6 n hn
  rw [show [Value.int .i64 n].toArray = #[.int .i64 n] from rfl, hr]
  obtain ⟨s1, s2⟩ := hs.drew
  obtain ⟨s3, s4⟩ := s2.drew
  have hsz : (digits cap t' #[]).size = cap := by rw [Lib.size_digits]; simp
  have hb : BlkRel P (ext ρ H.next ⟨⟨w.heap.size, 0, none⟩, cap, P.cellsOf e⟩) ⟨⟨w.heap.size, 0, none⟩, cap, P.cellsOf e⟩ (w.drew.drew.alloc (.cells (digits cap t' #[]) e)) (.cells [] e false) := by
    refine ⟨_, (0, 0), heap_alloc_new w.drew.drew _, ⟨rfl, rfl⟩, by simp only [hsz]; simp, Nat.zero_le _, fun j v hj => by simp at hj, fun o _ _ => by simp, fun k v hk hkv hu => ?_, rfl⟩
    exact mem_digits cap t' #[] (by simp) v (Array.mem_of_getElem? hkv)
  obtain ⟨t1, t2⟩ := s4.push _ (.cells [] e false) _ rfl hb
  refine ⟨_, _, _, rfl, ?_, (s1.trans s3).trans t1, t2⟩
  refine .slice H.next 0 n _ cap _ _ (ext_same _ _ _) (.inl (by rw [add_lit])) hc1 hc2 (fun _ => ?_) (fun h => by omega)
  simp only [h7]
  exact ⟨by omega, by omega⟩

/-- The entry as a known call. -/
noncomputable def zknown (f0 : FuncId) (e : TypeId) : CallF := fun f args H =>
  bif Nat.beq f f0 then match args with
    | [.int .i64 (.ofNat n)] => bif Nat.ble n 281474976710656 then some (.slice (some ⟨H.next, 0, none⟩) n (UNK + 1), H.push (.cells [] e false)) else none
    | _ => none
  else none
theorem zknown_ok {f0 : FuncId} {e : TypeId} (h : IsRoom P f0 e) : CallOk P (zknown f0 e) := by
  intro f args H v H' hr
  unfold zknown at hr
  cases hf : Nat.beq f f0 with
  | false => rw [hf] at hr; cases hr
  | true =>
    rw [hf] at hr
    obtain rfl := Nat.eq_of_beq_eq_true hf
    simp only [cond_true] at hr
    split at hr
    · rename_i n
      cases hn : Nat.ble n 281474976710656 with
      | false => rw [hn] at hr; cases hr
      | true =>
        rw [hn] at hr
        cases hr
        exact .inr (room_does h (by simpa using hn))
    · cases hr
end
end Go.Ab
/- A call over a slice of bytes whose capacity is not known: by what it does over each capacity. -/
set_option linter.unusedVariables false
namespace Go.Ab
section
variable {P : Program}

/-- The block's bytes are all told: the same world. -/
theorem Sim.tell {ρ : Ren} {H : Heap} {w : World} (hs : Sim P ρ H w) {b : Nat} {c : List Value} {e : TypeId} {i : Info} (hg : H.get b = some (.cells c e false)) (hi : ρ b = some i) {l : List Int} {cur : Array Value} {fz : Nat × Nat}
    (hh : w.heap[i.at_.block]? = some (.cells cur e fz)) (hat : i.at_.spot = none ∧ i.at_.off = 0) (hn : i.at_.off + i.n = cur.size) (hfz : ∀ o, i.at_.off ≤ o → o < cur.size → ¬ (fz.1 ≤ o ∧ o < fz.2)) (hs' : i.s = P.cellsOf e) (hl : cur.toList = l.map (Value.int .u8 ·)) :
    Sim P ρ (H.set b (.cells (l.map (Value.int .u8 ·)) e false)) w := by
  have hlen : l.length = cur.size := by have := congrArg List.length hl; simpa using this.symm
  have key : ∀ id b1, (H.set b (.cells (l.map (Value.int .u8 ·)) e false)).get id = some b1 → ∃ b2, H.get id = some b2 ∧ b2.ro = b1.ro := fun id b1 h => by
    rw [Heap.get_set] at h
    split at h
    · rename_i e1
      subst e1
      cases h
      exact ⟨_, hg, rfl⟩
    · exact ⟨b1, h, rfl⟩
  refine ⟨hs.dom, fun id bl j h h' => ?_, fun id1 id2 b1 b2 i1 i2 h1 h2 h3 h4 h5 h6 => ?_, hs.glob⟩
  · rw [Heap.get_set] at h
    split at h
    · rename_i e1
      subst e1
      rw [hi] at h'
      cases h'
      cases h
      refine ⟨cur, fz, hh, hat, hn, by rw [List.length_map]; omega, fun j v hj => ?_, hfz, fun o v ho hv => ?_, hs'⟩
      · rw [List.getElem?_map] at hj
        obtain ⟨y, hy, rfl⟩ := Option.map_eq_some_iff.1 hj
        refine ⟨_, ?_, .same _ rfl⟩
        rw [hat.2, Nat.zero_add, ← Array.getElem?_toList, hl, List.getElem?_map, hy]
        rfl
      · rw [List.length_map, hat.2, Nat.zero_add] at ho
        have := (Array.getElem?_eq_some_iff.1 hv).1
        omega
    · exact hs.live id bl j h h'
  · obtain ⟨c1, g1, r1⟩ := key _ _ h1
    obtain ⟨c2, g2, _⟩ := key _ _ h2
    exact hs.sep id1 id2 c1 c2 i1 i2 g1 g2 h3 h4 (by rw [r1, h5]) h6
theorem does_unk {f : FuncId} {H : Heap} {b n : Nat} {c : List Value} {e : TypeId} {o : Out} (hu : P.underlying e = some (.int .u8)) (hg : H.get b = some (.cells c e false)) (hc : ∀ v ∈ c, ∃ z : Int, v = .int .u8 z ∧ 0 ≤ z ∧ z < 256)
    (h : ∀ l : List Int, (∀ z ∈ l, 0 ≤ z ∧ z < 256) → n ≤ l.length → l.length < UNK → ∃ H3, Does P f [.slice (some ⟨b, 0, none⟩) n l.length] (H.set b (.cells (l.map (Value.int .u8 ·)) e false)) o H3 ∧ H3.next = H.next ∧ ∀ id, id ≠ b → H3.get id = H.get id) :
    Does P f [.slice (some ⟨b, 0, none⟩) n (UNK + 1)] H o (H.kill b) := by
  intro ρ w args' hs ha
  obtain ⟨x, l0, rfl, hx, hl⟩ := ha.uncons
  obtain rfl := hl.unnil
  cases hx with
  | same _ hp => cases hp
  | slice _ _ _ _ cap' i a' hi h1 h2 h0 h3 h4 =>
    obtain ⟨cur, fz, hh, hat, hn, hcl, hck, hfz, hsp, hs'⟩ := hs.live b _ i hg hi
    obtain ⟨hs1, hs2⟩ := h3 (by omega)
    rw [show UNK + 1 - UNK = 1 by omega] at hs1
    rw [hs1] at hs2
    have hcur : cur.size = cap' := by omega
    have hby : ∀ v ∈ cur.toList, ∃ z : Int, v = .int .u8 z ∧ 0 ≤ z ∧ z < 256 := fun v hv => by
      obtain ⟨j, hj⟩ := List.mem_iff_getElem?.1 hv
      rw [Array.getElem?_toList] at hj
      by_cases hlt : j < c.length
      · obtain ⟨v', e1, e2⟩ := hck j _ (List.getElem?_eq_getElem hlt)
        rw [hat.2, Nat.zero_add, hj] at e1
        cases e1
        obtain ⟨z, ez, hz⟩ := hc _ (List.getElem_mem hlt)
        rw [ez] at e2
        exact ⟨z, e2.plain_eq rfl, hz⟩
      · exact hsp j v (by omega) hj hu
    obtain ⟨l, hl, hlb⟩ : ∃ l : List Int, cur.toList = l.map (Value.int .u8 ·) ∧ ∀ z ∈ l, 0 ≤ z ∧ z < 256 := by
      have key : ∀ L : List Value, (∀ v ∈ L, ∃ z : Int, v = .int .u8 z ∧ 0 ≤ z ∧ z < 256) → ∃ l : List Int, L = l.map (Value.int .u8 ·) ∧ ∀ z ∈ l, 0 ≤ z ∧ z < 256 := by
        intro L
        induction L with
        | nil => exact fun _ => ⟨[], rfl, fun z h => by cases h⟩
        | cons v L ih =>
          intro hL
          obtain ⟨z, rfl, hz⟩ := hL v (List.mem_cons_self ..)
          obtain ⟨l, rfl, hl⟩ := ih fun v hv => hL v (List.mem_cons_of_mem _ hv)
          refine ⟨z :: l, rfl, fun y hy => ?_⟩
          rcases List.mem_cons.1 hy with rfl | hy
          · exact hz
          · exact hl y hy
      exact key _ hby
    have hll : l.length = cap' := by have := congrArg List.length hl; simp at this; omega
    obtain ⟨H3, hd, hn3, hg3⟩ := h l hlb (by omega) (by omega)
    have hs2' := hs.tell hg hi hh hat hn hfz hs' hl
    have hv : VL ρ [.slice (some ⟨b, 0, none⟩) n l.length] [.slice (some a') n cap'] := .cons (.slice b 0 n l.length cap' i a' hi h1 h2 h0 (fun h => by omega) (fun _ => hll.symm)) (.nil _)
    refine (hd ρ w _ hs2' hv).mono fun ee w' ⟨ρ', r1, st, sim⟩ => ?_
    have hless : Less (H.kill b) H3 := ⟨by rw [hn3]; exact Nat.le_refl _, fun id x hx => by
      by_cases e1 : id = b
      · subst e1; rw [Heap.get_kill, if_pos rfl] at hx; cases hx
      · rw [Heap.get_kill, if_neg e1] at hx; rw [hg3 id e1]; exact hx⟩
    have st2 := st.less hless
    have gs : ∀ id, id ≠ b → (H.set b (.cells (l.map (Value.int .u8 ·)) e false)).get id = H.get id := fun id hne => by rw [Heap.get_set, if_neg hne]
    have gb : (H.set b (.cells (l.map (Value.int .u8 ·)) e false)).get b = some (.cells (l.map (Value.int .u8 ·)) e false) := by rw [Heap.get_set, if_pos rfl]
    refine ⟨ρ', r1, ⟨st2.mono, st2.next, fun id j h1 h2 => ?_, fun id j b1 b2 h1 h2 h3 h4 => ?_, fun id j h1 h2 => ?_, st2.os, st2.tape, st2.output, st2.size, fun bb hbb hf => ?_⟩, sim.less hless⟩
    · refine st2.dead id j h1 ?_
      by_cases e1 : id = b
      · subst e1; rw [hg] at h2; cases h2
      · rw [gs id e1]; exact h2
    · by_cases e1 : id = b
      · subst e1; rw [Heap.get_kill, if_pos rfl] at h4; cases h4
      · exact st2.ro id j b1 b2 h1 (by rw [gs id e1]; exact h2) h3 h4
    · obtain ⟨k1, k2⟩ := st2.fresh id j h1 h2
      refine ⟨k1, ?_⟩
      rcases k2 with k2 | ⟨id0, i0, b0, q1, q2, q3, q4⟩
      · exact .inl k2
      · refine .inr ?_
        by_cases e1 : id0 = b
        · subst e1; exact ⟨id0, i0, _, q1, q2, hg, rfl⟩
        · exact ⟨id0, i0, b0, q1, q2, by rw [← gs id0 e1]; exact q3, q4⟩
    · refine st2.frame bb hbb fun id j bl q1 q2 q3 => ?_
      by_cases e1 : id = b
      · subst e1; exact hf id j _ q1 hg rfl
      · exact hf id j bl q1 (by rw [← gs id e1]; exact q2) q3
/-- As a call. -/
theorem callQ_unk {f : FuncId} {H : Heap} {b n : Nat} {c : List Value} {e : TypeId} {v : Value} (he : entered P f = true) (hu : P.underlying e = some (.int .u8)) (hg : H.get b = some (.cells c e false)) (hc : ∀ v ∈ c, ∃ z : Int, v = .int .u8 z ∧ 0 ≤ z ∧ z < 256)
    (h : ∀ l : List Int, (∀ z ∈ l, 0 ≤ z ∧ z < 256) → n ≤ l.length → l.length < UNK → CallQ P f [.slice (some ⟨b, 0, none⟩) n l.length] (H.set b (.cells (l.map (Value.int .u8 ·)) e false)) fun u H3 => u = v ∧ H3.next = H.next ∧ ∀ id, id ≠ b → H3.get id = H.get id) :
    CallQ P f [.slice (some ⟨b, 0, none⟩) n (UNK + 1)] H fun u H' => u = v ∧ H' = H.kill b := by
  intro hw
  refine ⟨v, H.kill b, .inl ⟨he, does_unk hu hg hc fun l h1 h2 h3 => ?_⟩, Nat.le_refl _, hw.kill b, rfl, rfl⟩
  obtain ⟨u, H3, k1, k2, k3, rfl, k4, k5⟩ := h l h1 h2 h3 (hw.set hg _)
  exact ⟨H3, k1.does he, k4, k5⟩
end
end Go.Ab
