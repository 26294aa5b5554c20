/- Operations whose types are resolved; code made of them; what is resolved acts as what it came from. -/
import Derived.Test.YthoanamkoigjeaaGreatDoorAbE
import Derived.Test.YthoanamkoigjeaaGreatDoorAbD
import Derived.Test.YthoanamkoigjeaaGreatDoorAbF
set_option linter.unusedVariables false
namespace Go.Ab

/-- Scalars. -/
inductive Sk where
  | i | b | s

/-- An operation, resolved. -/
inductive R where
  | mv (x : Operand)
  | pick (c x y : Operand)
  | bin (op : BinOp) (x y : Operand)
  | beq (ne : Bool) (x y : Operand)
  | eqs (ne : Bool) (ks : List Sk) (x y : Operand)
  | not (x : Operand)
  | toInt (k : IntKind) (x : Operand)
  | mkIf (t : TypeId) (x : Operand)
  | fld (agg : Bool) (off size : Nat) (x : Operand)
  | fldA (off : Nat) (x : Operand)
  | idxS (size : Nat) (x ix : Operand)
  | chr (x ix : Operand)
  | ext (x : Operand) (i : Nat)
  | asrt (t : TypeId) (z : Value) (ok : Bool) (x : Operand)
  | build (z : List Value) (parts : List (Nat × Nat × Operand))
  | bslice (e size len : Nat) (z : List Value) (parts : List (Nat × Operand))
  | alloc (e : TypeId) (z : List Value)
  | box (e : TypeId) (x : Operand)
  | mkSl (e size bytes : Nat) (z : List Value) (x y : Operand)
  | slS (size : Nat) (x : Operand) (lo hi : Option Operand)
  | ld (agg : Bool) (size : Nat) (x : Operand)
  | st (size : Nat) (x y : Operand)
  | stf (size : Nat) (x y : Operand) (os : List Operand)
  | lenS (x : Operand)
  | lenT (x : Operand)
  | app (e size bytes : Nat) (x y : Operand)
  | gen (o : Op)
  | call (f : FuncId) (args : List Operand)
  | callv (c : Operand) (args : List Operand)
  | callF (f : FuncId) (args os : List Operand)

noncomputable def noCall : CallS := ⟨fun _ _ _ => none, fun _ _ _ => none, fun _ _ _ => none⟩

/-- Parts of an aggregate, laid over its zero. -/
noncomputable def rfill (f : Operand → Value) : List Value → List (Nat × Nat × Operand) → Option (List Value)
  | cells, [] => some cells
  | cells, (off, size, x) :: rest => if (f x).cells.toList.length = size ∧ off + size ≤ cells.length then rfill f (splice cells off (f x).cells.toList) rest else none

/-- The type's data that appending asks. -/
noncomputable def rappend (e size bytes : Nat) (s x : Value) (H : Heap) : Option (Value × Heap) :=
  match asrc size x H with
  | none => none
  | some (m, news) =>
    if news.all (·.oneCell') = true then
      match s with
      | .slice none 0 0 =>
        if m = 0 then some (.slice none 0 0, H) else
        if m ≤ 9223372036854775807 ∧ m * bytes ≤ 140737488355328 then some (.slice (some ⟨H.next, 0, none⟩) m (UNK + size), H.push (.cells news e false)) else none
      | .slice (some a) len cap =>
        if m = 0 then (if UNK ≤ cap ∨ len ≤ cap then some (.slice (some a) len cap, H) else none) else
        match H.get a.block with
        | some (.cells c e' ro) =>
          if a.off + len * size ≤ c.length ∧ len + m ≤ 9223372036854775807 ∧ (len + m) * bytes ≤ 140737488355328 then
            if UNK ≤ cap then
              if ro = false ∧ e' = e ∧ a.off = 0 ∧ a.off + len * size = c.length then some (.slice (some ⟨H.next, 0, none⟩) (len + m) (UNK + size), (H.kill a.block).push (.cells (c.drop a.off ++ news) e false))
              else if ro = false ∧ cap = UNK + size ∧ a.off + (len + m) * size ≤ c.length then some (.slice (some a) (len + m) cap, H.set a.block (.cells (splice c (a.off + len * size) news) e' false)) else none
            else if len + m ≤ cap then
              (if ro = false ∧ a.off + (len + m) * size ≤ c.length then some (.slice (some a) (len + m) cap, H.set a.block (.cells (splice c (a.off + len * size) news) e' false)) else none)
            else some (.slice (some ⟨H.next, 0, none⟩) (len + m) (UNK + size), H.push (.cells ((c.drop a.off).take (len * size) ++ news) e false))
          else none
        | _ => none
      | _ => none
    else none

theorem rappend_eq (e : TypeId) (inf : TypeInfo) (s x : Value) (H : Heap) : aappend e inf s x H = rappend e inf.size inf.bytes s x H := rfl

noncomputable def eqSk : Sk → Value → Value → Option Bool
  | .i, .int k a, .int k' b => if k = k' then some (a == b) else none
  | .b, .bool a, .bool b => some (a == b)
  | .s, .string a, .string b => some (bl a == bl b)
  | _, _, _ => none

/-- Cells of scalars, one by one. -/
noncomputable def eqCells : List Sk → Array Value → Array Value → Nat → Option Bool
  | [], _, _, _ => some true
  | k :: ks, xs, ys, i => match xs[i]?, ys[i]? with
    | some a, some b => match eqSk k a b with
      | some true => eqCells ks xs ys (i + 1)
      | r => r
    | _, _ => none

noncomputable def rbin (op : BinOp) (x y : Value) : Option Value :=
  match x, y with
  | .int ik a, .int ik' b => match op with
    | .shl | .shr => shiftBin op ik a b
    | _ => if ik = ik' then intBin op ik a b else none
  | .string a, .string b => strBin op (bl a) (bl b)
  | _, _ => none

noncomputable def optV (H : Heap) : Option Value → Option (Value × Heap)
  | some v => some (v, H)
  | none => none

noncomputable def bndOf (f : Operand → Value) : Option Operand → Option (Option Int)
  | none => some none
  | some x => match f x with | .int _ m => some (some m) | _ => none

/-- What a resolved operation gives; calls apart. -/
noncomputable def rop (P : Program) (r : R) (A : Env) (H : Heap) : Option (Value × Heap) :=
  match r with
  | .mv x => some (ev A x, H)
  | .pick c x y => match ev A c with | .bool t => some (bif t then ev A x else ev A y, H) | _ => none
  | .bin op x y => optV H (rbin op (ev A x) (ev A y))
  | .beq ne x y => match ev A x, ev A y with
    | .bool a, .bool b => some (.bool (bif ne then !(a == b) else a == b), H)
    | _, _ => none
  | .eqs ne m x y => match ev A x, ev A y with
    | .agg xs, .agg ys => match eqCells m xs ys 0 with | some b => some (.bool (bif ne then !b else b), H) | none => none
    | _, _ => none
  | .not x => match ev A x with | .bool b => some (.bool !b, H) | _ => none
  | .toInt k x => match ev A x with | .int _ m => some (.int k (k.wrap m), H) | _ => none
  | .mkIf t x => some (.iface t (ev A x), H)
  | .fld agg off size x => match ev A x with
    | .agg cs => optV H (bif agg then some (.agg (cs.extract off (off + size))) else cs[off]?)
    | _ => none
  | .fldA off x => match ev A x with | .pointer (some a) => some (.pointer (some ⟨a.block, a.off + off, none⟩), H) | _ => none
  | .idxS size x ix => match ev A ix, ev A x with
    | .int _ m, .slice (some a) len _ => if 0 ≤ m ∧ m < len then some (.pointer (some ⟨a.block, a.off + m.toNat * size, none⟩), H) else none
    | _, _ => none
  | .chr x ix => match ev A ix, ev A x with
    | .int _ m, .string s => if 0 ≤ m then (match (bl s)[m.toNat]? with | some b => some (.int .u8 b.toNat, H) | none => none) else none
    | _, _ => none
  | .ext x i => match ev A x with | .tuple vs => optV H vs[i]? | _ => none
  | .asrt t z ok x => match ev A x with
    | .nilIface => bif ok then some (.tuple #[z, .bool false], H) else none
    | .iface u v => if u = t then some (bif ok then .tuple #[v, .bool true] else v, H) else (bif ok then some (.tuple #[z, .bool false], H) else none)
    | _ => none
  | .build z parts => match rfill (ev A) z parts with | some r => some (.agg r.toArray, H) | none => none
  | .bslice e size len z parts => match afill (fun i => some (i * size, size)) z (parts.map fun p => (p.1, ev A p.2)) with
    | some r => some (.slice (some ⟨H.next, 0, none⟩) len len, H.push (.cells r e false))
    | none => none
  | .alloc e z => some (.pointer (some ⟨H.next, 0, none⟩), H.push (.cells z e false))
  | .box e x => some (.pointer (some ⟨H.next, 0, none⟩), H.push (.cells (ev A x).cells.toList e false))
  | .mkSl e size bytes z x y => match ev A x, ev A y with
    | .int .i64 l, .int .i64 c => if 0 ≤ l ∧ l ≤ c ∧ (bytes : Int) * c ≤ 281474976710656 ∧ c ≤ 9223372036854775807 then
        some (.slice (some ⟨H.next, 0, none⟩) l.toNat c.toNat, H.push (.cells (zeros z.toArray (c.toNat * size)) e false)) else none
    | _, _ => none
  | .slS size x lo hi => match bndOf (ev A) lo, bndOf (ev A) hi with
    | some l, some h => optV H (asliceS size (ev A x) l h none)
    | _, _ => none
  | .ld agg size x => match ev A x with
    | .pointer (some a) => match H.get a.block with
      | some (.cells c _ _) => bif agg then (if a.off + size ≤ c.length then some (.agg ((c.drop a.off).take size).toArray, H) else none) else optV H c[a.off]?
      | _ => none
    | _ => none
  | .st size x y => match ev A x with
    | .pointer (some a) => match H.get a.block with
      | some (.cells c e false) => if (ev A y).cells.toList.length = size ∧ a.off + (ev A y).cells.toList.length ≤ c.length ∧ (ev A y).cells.toList.all (·.oneCell') = true then some (undef, H.set a.block (.cells (splice c a.off (ev A y).cells.toList) e false)) else none
      | _ => none
    | _ => none
  | .stf size x y _ => match ev A x with
    | .pointer (some a) => match H.get a.block with
      | some (.cells c e false) => if (ev A y).cells.toList.length = size ∧ a.off + (ev A y).cells.toList.length ≤ c.length ∧ (ev A y).cells.toList.all (·.oneCell') = true then some (undef, H.set a.block (.cells (splice c a.off (ev A y).cells.toList) e false)) else none
      | _ => none
    | _ => none
  | .lenS x => match ev A x with | .slice _ m _ => some (.int .i64 (m : Int), H) | _ => none
  | .lenT x => match ev A x with | .string s => some (.int .i64 ((bl s).length : Int), H) | _ => none
  | .app e size bytes x y => rappend e size bytes (ev A x) (ev A y) H
  | .gen o => match aop P noCall ⟨none, o, 0, "", #[], none⟩ A H with | some (_, v, H') => some (v, H') | none => none
  | .call _ _ => none
  | .callv _ _ => none
  | .callF _ _ _ => none

/-! ### Resolving -/

/-- Fields that are scalars of one cell, one behind the other. -/
noncomputable def scalars (P : Program) : List Field → Nat → Option (List Sk)
  | [], _ => some []
  | fd :: fs, i =>
    if fd.name = "_" ∨ fd.offset ≠ i then none else
    match P.info? fd.type, scalars P fs (i + 1) with
    | some _, some ks => match P.underlying fd.type with
      | some (.int _) => some (.i :: ks)
      | some .bool => some (.b :: ks)
      | some .string => some (.s :: ks)
      | _ => none
    | _, _ => none

noncomputable def cPlaces (pl : Array (Nat × Nat)) : List (Nat × Operand) → Option (List (Nat × Nat × Operand))
  | [] => some []
  | (i, x) :: rest => match pl[i]?, cPlaces pl rest with
    | some (off, size), some l => some ((off, size, x) :: l)
    | _, _ => none

noncomputable def resolve1 (P : Program) (op : Op) : R :=
  match op with
  | .move x => .mv x
  | .assign x => .mv x
  | .pick c x y => .pick c x y
  | .binOp b t x y _ =>
    match P.underlying t with
    | some (.int _) | some .string => .bin b x y
    | some .bool => match b with | .eql => .beq false x y | .neq => .beq true x y | _ => .gen op
    | some (.struct fs) => if P.stoodInHeld t || P.eqGuardType P.depth t then .gen op else match scalars P fs.toList 0 with
      | some ks => (match b with | .eql => .eqs false ks x y | .neq => .eqs true ks x y | _ => .gen op)
      | none => .gen op
    | _ => .gen op
  | .unOp .not _ x => .not x
  | .convert src dst x => match P.underlying src, P.underlying dst with
    | some (.int _), some (.int k) => .toInt k x
    | _, _ => .gen op
  | .makeInterface t x => match P.underlying t with
    | some (.interface _) => .gen op
    | some _ => .mkIf t x
    | none => .gen op
  | .field t x f => match P.underlying t with
    | some (.struct fs) => match fs[f]? with
      | some fd => match P.underlying fd.type, P.info? fd.type with
        | some td, some inf => .fld (isAggD td) fd.offset inf.size x
        | _, _ => .gen op
      | none => .gen op
    | _ => .gen op
  | .fieldAddr t x f => match P.underlying t with
    | some (.struct fs) => match fs[f]? with
      | some fd => match P.info? fd.type with
        | some inf => if inf.size = 0 then .gen op else .fldA fd.offset x
        | none => .gen op
      | none => .gen op
    | _ => .gen op
  | .indexAddr t x ix => match P.underlying t with
    | some (.slice e) => match P.info? e with
      | some inf => .idxS inf.size x ix
      | none => .gen op
    | _ => .gen op
  | .index t x ix => match P.underlying t with
    | some .string => .chr x ix
    | _ => .gen op
  | .extract x i => .ext x i
  | .typeAssert x _ t ok => match P.underlying t, P.info? t with
    | some td, some inf => match inf.zero with
      | some z => if closedV z then (match td with | .interface _ => .gen op | _ => .asrt t z ok x) else .gen op
      | none => .gen op
    | _, _ => .gen op
  | .build t parts => match P.underlying t, P.info? t with
    | some (.struct fs), some inf => match inf.zero, placesOf P fs with
      | some z, some pl => if z.cells.toList.all plain then (match cPlaces pl parts.toList with | some l => .build z.cells.toList l | none => .gen op) else .gen op
      | _, _ => .gen op
    | _, _ => .gen op
  | .buildSlice t len parts => match P.underlying t with
    | some (.slice e) => match P.info? e with
      | some inf => match inf.zero with
        | some z => if z.cells.toList.all plain && Nat.blt 0 z.cells.size && Nat.ble len 16777216 && Nat.ble (len * inf.size) 16777216 then .bslice e inf.size len (zeros z.cells (len * inf.size)) parts.toList else .gen op
        | none => .gen op
      | none => .gen op
    | _ => .gen op
  | .alloc e => match P.info? e with
    | some inf => match inf.zero with
      | some z => if z.cells.toList.all plain then .alloc e z.cells.toList else .gen op
      | none => .gen op
    | none => .gen op
  | .makeSlice t x y => match P.underlying t with
    | some (.slice e) => match P.info? e with
      | some inf => match inf.zero with
        | some z => if elemOk P e inf z then .mkSl e inf.size inf.bytes z.cells.toList x y else .gen op
        | none => .gen op
      | none => .gen op
    | _ => .gen op
  | .slice t x lo hi none => match P.underlying t with
    | some (.slice e) => match P.info? e with
      | some inf => .slS inf.size x lo hi
      | none => .gen op
    | _ => .gen op
  | .load t x => match P.underlying t, P.info? t with
    | some d, some inf => .ld (isAggD d) inf.size x
    | _, _ => .gen op
  | .store t x y => match P.info? t with
    | some inf => .st inf.size x y
    | none => .gen op
  | .call ⟨.builtin .len, args, ts⟩ => match args.toList, ts.toList with
    | [x], [t] => match P.underlying t with
      | some (.slice _) => .lenS x
      | some .string => .lenT x
      | _ => .gen op
    | _, _ => .gen op
  | .call ⟨.builtin .append, args, ts⟩ => match args.toList, ts.toList with
    | [x, y], [t, t2] => match P.underlying t, P.underlying t2 with
      | some (.slice e), some td => match P.info? e with
        | some inf => match inf.zero with
          | some z => if isSeqD td && elemOk P e inf z then .app e inf.size inf.bytes x y else .gen op
          | none => .gen op
        | none => .gen op
      | _, _ => .gen op
    | _, _ => .gen op
  | .call ⟨.value (.func f), args, _⟩ => .call f args.toList
  | .call ⟨.value c, args, _⟩ => .callv c args.toList
  | .box e x => .box e x
  | op => .gen op

end Go.Ab
/- What is resolved acts as what it came from. -/
set_option linter.unusedVariables false
namespace Go.Ab
section
variable {P : Program} {A : Env} {H : Heap}

/-- An operation that gives so, in some way. -/
def Gives (P : Program) (op : Op) (A : Env) (H : Heap) (v : Value) (H' : Heap) : Prop := ∃ c, aop P noCall ⟨none, op, 0, "", #[], none⟩ A H = some (c, v, H')

theorem gives_gen {op : Op} {v : Value} {H' : Heap} (h : rop P (.gen op) A H = some (v, H')) : Gives P op A H v H' := by
  simp only [rop] at h
  split at h
  · rename_i c v1 H1 he
    simp only [Option.some.injEq, Prod.mk.injEq] at h
    obtain ⟨rfl, rfl⟩ := h
    exact ⟨c, he⟩
  · cases h

theorem optV_some {r : Option Value} {v : Value} {H' : Heap} (h : optV H r = some (v, H')) : r = some v ∧ H' = H := by
  cases r with
  | none => cases h
  | some u => simp [optV] at h; exact ⟨by rw [h.1], h.2.symm⟩

theorem rbin_binV {op : BinOp} {t : TypeId} {x y v : Value} {k : Bool} (h : rbin op x y = some v) : binV P k op t x y = some v := by
  unfold rbin at h
  split at h
  · exact h
  · exact h
  · cases h

def SkIs (P : Program) (t : TypeId) : Sk → Prop
  | .i => ∃ ik, P.underlying t = some (.int ik)
  | .b => P.underlying t = some .bool
  | .s => P.underlying t = some .string

theorem eqSk_aeq {f : Nat} {t : TypeId} {k : Sk} {a b : Value} {r : Bool} (h : eqSk k a b = some r) (hk : SkIs P t k) : aeq P (f + 1) t a b = some r := by
  unfold eqSk at h
  split at h
  · obtain ⟨ik, hu⟩ := hk; simp only [aeq, hu]; exact h
  · simp only [SkIs] at hk; simp only [aeq, hk]; exact h
  · simp only [SkIs] at hk; simp only [aeq, hk]; exact h
  · cases h

theorem eqCells_aeq {f : Nat} : ∀ (fs : List Field) (i : Nat) (ks : List Sk) (xs ys : Array Value) (b : Bool), scalars P fs i = some ks → eqCells ks xs ys i = some b → aeqFields P (aeq P (f + 1)) fs xs ys = some b
  | [], i, ks, xs, ys, b, hs, h => by simp only [scalars, Option.some.injEq] at hs; subst hs; simpa [eqCells, aeqFields] using h
  | fd :: fs, i, ks, xs, ys, b, hs, h => by
    unfold scalars at hs
    split at hs
    · cases hs
    · rename_i h1
      simp only [not_or, Decidable.not_not] at h1
      split at hs
      · rename_i inf ks1 hi hs1
        have main : ∀ k, (∀ zs : Array Value, apart P fd.type zs fd.offset = zs[i]?) → SkIs P fd.type k →
            eqCells (k :: ks1) xs ys i = some b → aeqFields P (aeq P (f + 1)) (fd :: fs) xs ys = some b := fun k hap hk h => by
          unfold eqCells at h
          unfold aeqFields
          rw [if_neg h1.1, hap, hap]
          split at h
          · rename_i a c ha hc
            rw [ha, hc]
            simp only
            split at h
            · rename_i he
              rw [eqSk_aeq he hk]
              exact eqCells_aeq fs (i + 1) ks1 xs ys b hs1 h
            · rename_i r hr
              have := eqSk_aeq (f := f) h hk
              rw [this]
              cases b with
              | true => exact absurd h hr
              | false => rfl
          · cases h
        split at hs
        · rename_i ik hu; cases hs; exact main .i (fun zs => by simp [apart, hu, hi, isAggD, h1.2]) ⟨ik, hu⟩ h
        · rename_i hu; cases hs; exact main .b (fun zs => by simp [apart, hu, hi, isAggD, h1.2]) hu h
        · rename_i hu; cases hs; exact main .s (fun zs => by simp [apart, hu, hi, isAggD, h1.2]) hu h
        · cases hs
      · cases hs

theorem rfill_afill {pl : Array (Nat × Nat)} : ∀ (parts : List (Nat × Operand)) (l : List (Nat × Nat × Operand)) (cells : List Value), cPlaces pl parts = some l → afill (pl[·]?) cells (parts.map fun p => (p.1, ev A p.2)) = rfill (ev A) cells l
  | [], l, cells, h => by simp only [cPlaces, Option.some.injEq] at h; subst h; rfl
  | (i, x) :: rest, l, cells, h => by
    unfold cPlaces at h
    split at h
    · rename_i off size l1 hp hr
      cases h
      simp only [List.map_cons, afill, rfill, hp]
      rw [rfill_afill rest l1 _ hr]
    · cases h

set_option maxHeartbeats 2000000 in
theorem resolve_ok {op : Op} {v : Value} {H' : Heap} (h : rop P (resolve1 P op) A H = some (v, H')) : Gives P op A H v H' := by
  have gen : rop P (.gen op) A H = some (v, H') → Gives P op A H v H' := gives_gen
  unfold resolve1 at h
  split at h
  case h_1 x => simp only [rop, Option.some.injEq, Prod.mk.injEq] at h; obtain ⟨rfl, rfl⟩ := h; exact ⟨_, rfl⟩
  case h_2 x => simp only [rop, Option.some.injEq, Prod.mk.injEq] at h; obtain ⟨rfl, rfl⟩ := h; exact ⟨_, rfl⟩
  case h_3 c x y =>
    simp only [rop] at h
    split at h
    · rename_i t ht
      simp only [Option.some.injEq, Prod.mk.injEq] at h; obtain ⟨rfl, rfl⟩ := h
      exact ⟨.pure, by simp only [aop, a_pick, ht]⟩
    · cases h
  case h_4 b t x y yt =>
    have bin : rop P (.bin b x y) A H = some (v, H') → Gives P (.binOp b t x y yt) A H v H' := fun h => by
      obtain ⟨h1, rfl⟩ := optV_some h
      exact ⟨.pure, by simp only [aop, a_binOp, rbin_binV h1, pureR]⟩
    split at h
    · exact bin h
    · exact bin h
    · rename_i hu
      have beq : ∀ ne : Bool, (b = bif ne then .neq else .eql) → rop P (.beq ne x y) A H = some (v, H') → Gives P (.binOp b t x y yt) A H v H' := fun ne hb h => by
        simp only [rop] at h
        split at h
        · rename_i p q hp hq
          simp only [Option.some.injEq, Prod.mk.injEq] at h; obtain ⟨rfl, rfl⟩ := h
          refine ⟨.pure, ?_⟩
          have hg : ∀ k, guardOk P k t (.bool p) (.bool q) = true := fun k => by simp [guardOk, isNI, isAg]
          simp only [aop, a_binOp, binV, hp, hq, eqBin, notNum, hg, Bool.and_self, if_true, hb]
          cases ne <;> simp [aeq, hu, pureR]
        · cases h
      split at h
      · exact beq false rfl h
      · exact beq true rfl h
      · exact gen h
    · rename_i fs hu
      split at h
      · exact gen h
      · rename_i hc
        simp only [Bool.or_eq_true, not_or, Bool.not_eq_true] at hc
        split at h
        · rename_i ks hks
          have eqs : ∀ ne : Bool, (b = bif ne then .neq else .eql) → rop P (.eqs ne ks x y) A H = some (v, H') → Gives P (.binOp b t x y yt) A H v H' := fun ne hb h => by
            simp only [rop] at h
            split at h
            · rename_i p q hp hq
              split at h
              · rename_i r hr
                simp only [Option.some.injEq, Prod.mk.injEq] at h; obtain ⟨rfl, rfl⟩ := h
                refine ⟨.pure, ?_⟩
                have hg : ∀ k, guardOk P k t (.agg p) (.agg q) = true := fun k => by simp [guardOk, isNI, hc.2]
                have ha := eqCells_aeq (f := 18) fs.toList 0 ks p q r hks hr
                have ha2 : aeq P 20 t (.agg p) (.agg q) = some r := by
                  unfold aeq
                  rw [hu]
                  simp only [hc.1, Bool.false_eq_true, if_false]
                  exact ha
                simp only [aop, a_binOp, binV, hp, hq, eqBin, notNum, hg, Bool.and_self, if_true, hb]
                cases ne <;> simp [ha2, pureR]
              · cases h
            · cases h
          split at h
          · exact eqs false rfl h
          · exact eqs true rfl h
          · exact gen h
        · exact gen h
    · exact gen h
  case h_5 t x =>
    simp only [rop] at h
    split at h
    · rename_i p hp
      simp only [Option.some.injEq, Prod.mk.injEq] at h; obtain ⟨rfl, rfl⟩ := h
      exact ⟨.pure, by simp only [aop, a_unOp, hp, unBin, pureR]⟩
    · cases h
  case h_6 src dst x =>
    split at h
    · rename_i ik k hs hd
      simp only [rop] at h
      split at h
      · rename_i k0 m hm
        simp only [Option.some.injEq, Prod.mk.injEq] at h; obtain ⟨rfl, rfl⟩ := h
        exact ⟨.pure, by simp only [aop, a_convert, hs, hd, hm, convBin, pureR]⟩
      · cases h
    · exact gen h
  case h_7 t x =>
    split at h
    · exact gen h
    · rename_i td hni hu
      simp only [rop, Option.some.injEq, Prod.mk.injEq] at h; obtain ⟨rfl, rfl⟩ := h
      refine ⟨.pure, ?_⟩
      simp only [aop, a_makeInterface, hu]
    · exact gen h
  case h_8 t x f =>
    split at h
    · rename_i fs hu
      split at h
      · rename_i fd hf
        split at h
        · rename_i td inf hd hi
          simp only [rop] at h
          split at h
          · rename_i cs hcs
            obtain ⟨h1, rfl⟩ := optV_some h
            refine ⟨.pure, ?_⟩
            simp only [aop, a_field, hu, hcs, hf, apart, hd, hi]
            cases hag : isAggD td <;> rw [hag] at h1 <;> simp only [cond_true, cond_false] at h1 <;> simp [h1, pureR]
          · cases h
        · exact gen h
      · exact gen h
    · exact gen h
  case h_9 t x f =>
    split at h
    · rename_i fs hu
      split at h
      · rename_i fd hf
        split at h
        · rename_i inf hi
          split at h
          · exact gen h
          · rename_i hz
            simp only [rop] at h
            split at h
            · rename_i a ha
              simp only [Option.some.injEq, Prod.mk.injEq] at h; obtain ⟨rfl, rfl⟩ := h
              refine ⟨.pure, ?_⟩
              have : Nat.beq inf.size 0 = false := by simp [nbeq, hz]
              simp only [aop, a_fieldAddr, hu, ha, hf, hi, this, cond_false]
            · cases h
        · exact gen h
      · exact gen h
    · exact gen h
  case h_10 t x ix =>
    split at h
    · rename_i e hu
      split at h
      · rename_i inf hi
        simp only [rop] at h
        split at h
        · rename_i ik m a len cap hm ha
          split at h
          · rename_i hc
            simp only [Option.some.injEq, Prod.mk.injEq] at h; obtain ⟨rfl, rfl⟩ := h
            exact ⟨.pure, by simp only [aop, a_indexAddr, hm, hu, ha, hi, hc, and_self, if_true]⟩
          · cases h
        · cases h
      · exact gen h
    · exact gen h
  case h_11 t x ix =>
    split at h
    · rename_i hu
      simp only [rop] at h
      split at h
      · rename_i ik m s hm hs
        split at h
        · rename_i h0
          split at h
          · rename_i b hb
            simp only [Option.some.injEq, Prod.mk.injEq] at h; obtain ⟨rfl, rfl⟩ := h
            exact ⟨.pure, by simp only [aop, a_index, hm, hu, hs, h0, if_true, hb]⟩
          · cases h
        · cases h
      · cases h
    · exact gen h
  case h_12 x i =>
    simp only [rop] at h
    split at h
    · rename_i vs hv
      obtain ⟨h1, rfl⟩ := optV_some h
      exact ⟨.pure, by simp only [aop, a_extract, hv, h1, pureR]⟩
    · cases h
  case h_13 x xt t ok =>
    split at h
    · rename_i td inf hu hi
      split at h
      · rename_i z hz
        split at h
        · rename_i hcl
          split at h
          · exact gen h
          · rename_i hni
            simp only [rop] at h
            refine ⟨.pure, ?_⟩
            simp only [aop, a_typeAssert, aassert, hu, hi, hz, hcl, if_true]
            split at h
            · rename_i hx
              cases ok with
              | true =>
                simp only [cond_true, Option.some.injEq, Prod.mk.injEq] at h; obtain ⟨rfl, rfl⟩ := h
                simp only [hx]
                cases td <;> first | rfl | exact absurd rfl (hni _)
              | false => cases h
            · rename_i u w hx
              simp only [hx]
              split at h
              · rename_i e
                simp only [Option.some.injEq, Prod.mk.injEq] at h; obtain ⟨rfl, rfl⟩ := h
                cases td <;> first | exact absurd rfl (hni _) | (cases ok <;> simp [e, pureR])
              · rename_i e
                cases ok with
                | true =>
                  simp only [cond_true, Option.some.injEq, Prod.mk.injEq] at h; obtain ⟨rfl, rfl⟩ := h
                  cases td <;> first | exact absurd rfl (hni _) | simp [e, pureR]
                | false => cases h
            · cases h
        · exact gen h
      · exact gen h
    · exact gen h
  case h_14 t parts =>
    split at h
    · rename_i fs inf hu hi
      split at h
      · rename_i z pl hz hpl
        split at h
        · rename_i hp
          split at h
          · rename_i l hl
            simp only [rop] at h
            split at h
            · rename_i r hr
              simp only [Option.some.injEq, Prod.mk.injEq] at h; obtain ⟨rfl, rfl⟩ := h
              have := rfill_afill (A := A) parts.toList l z.cells.toList hl
              rw [hr] at this
              exact ⟨.pure, by simp only [aop, a_build, hu, hi, hz, hpl, hp, cond_true, partsOf, this, Option.map_some, pureR]⟩
            · cases h
          · exact gen h
        · exact gen h
      · exact gen h
    · exact gen h
  case h_15 t len parts =>
    split at h
    · rename_i e hu
      split at h
      · rename_i inf hi
        split at h
        · rename_i z hz
          split at h
          · rename_i hc
            simp only [rop] at h
            split at h
            · rename_i r hr
              simp only [Option.some.injEq, Prod.mk.injEq] at h; obtain ⟨rfl, rfl⟩ := h
              exact ⟨.alloc _, by simp only [aop, a_buildSlice, hu, hi, hz, hc, cond_true, partsOf, hr]; rfl⟩
            · cases h
          · exact gen h
        · exact gen h
      · exact gen h
    · exact gen h
  case h_16 e =>
    split at h
    · rename_i inf hi
      split at h
      · rename_i z hz
        split at h
        · rename_i hp
          simp only [rop, Option.some.injEq, Prod.mk.injEq] at h; obtain ⟨rfl, rfl⟩ := h
          exact ⟨.alloc _, by simp only [aop, a_alloc, hi, hz, hp, cond_true]; rfl⟩
        · exact gen h
      · exact gen h
    · exact gen h
  case h_17 t x y =>
    split at h
    · rename_i e hu
      split at h
      · rename_i inf hi
        split at h
        · rename_i z hz
          split at h
          · rename_i hel
            simp only [rop] at h
            split at h
            · rename_i l c hl hc
              split at h
              · rename_i hcond
                simp only [Option.some.injEq, Prod.mk.injEq] at h; obtain ⟨rfl, rfl⟩ := h
                refine ⟨.alloc (.cells (zeros z.cells (c.toNat * inf.size)) e false), ?_⟩
                simp only [aop, a_makeSlice, hu, hl, hc, hi, hz]
                rw [if_pos ⟨hel, hcond⟩]
              · cases h
            · cases h
          · exact gen h
        · exact gen h
      · exact gen h
    · exact gen h
  case h_18 t x lo hi =>
    split at h
    · rename_i e hu
      split at h
      · rename_i inf hin
        simp only [rop] at h
        split at h
        · rename_i l hh hl hhi
          obtain ⟨h1, rfl⟩ := optV_some h
          have e1 : boundOf A lo = some l := by rw [← hl]; cases lo <;> rfl
          have e2 : boundOf A hi = some hh := by rw [← hhi]; cases hi <;> rfl
          have e3 : boundOf A none = some none := rfl
          exact ⟨.pure, by simp only [aop, a_slice, hu, hin, e1, e2, e3, Option.isNone_none, Bool.true_or, if_true, h1, pureR]⟩
        · cases h
      · exact gen h
    · exact gen h
  case h_19 t x =>
    split at h
    · rename_i d inf hu hi
      simp only [rop] at h
      split at h
      · rename_i a ha
        split at h
        · rename_i c e ro hg
          cases hag : isAggD d with
          | true =>
            rw [hag] at h
            simp only [cond_true] at h
            split at h
            · rename_i hle
              simp only [Option.some.injEq, Prod.mk.injEq] at h; obtain ⟨rfl, rfl⟩ := h
              exact ⟨.load, by simp only [aop, a_load, ha, aload, hu, hi, hg, hag, if_true, hle]⟩
            · cases h
          | false =>
            rw [hag] at h
            obtain ⟨h1, rfl⟩ := optV_some h
            exact ⟨.load, by simp only [aop, a_load, ha, aload, hu, hi, hg, hag, Bool.false_eq_true, if_false, h1]⟩
        · cases h
      · cases h
    · exact gen h
  case h_20 t x y =>
    split at h
    · rename_i inf hi
      simp only [rop] at h
      split at h
      · rename_i a ha
        split at h
        · rename_i c e hg
          split at h
          · rename_i hc
            simp only [Option.some.injEq, Prod.mk.injEq] at h; obtain ⟨rfl, rfl⟩ := h
            refine ⟨.gen, ?_⟩
            simp only [aop, a_store, ha, astore, hi, hg]
            rw [if_pos hc]
          · cases h
        · cases h
      · cases h
    · exact gen h
  case h_21 args ts =>
    split at h
    · rename_i x t ha ht
      split at h
      · rename_i e hu
        simp only [rop] at h
        split at h
        · rename_i q m c hx
          simp only [Option.some.injEq, Prod.mk.injEq] at h; obtain ⟨rfl, rfl⟩ := h
          exact ⟨.pure, by simp only [aop, a_call, ha, ht, alen, hu, hx]⟩
        · cases h
      · rename_i hu
        simp only [rop] at h
        split at h
        · rename_i s hx
          simp only [Option.some.injEq, Prod.mk.injEq] at h; obtain ⟨rfl, rfl⟩ := h
          exact ⟨.pure, by simp only [aop, a_call, ha, ht, alen, hu, hx]⟩
        · cases h
      · exact gen h
    · exact gen h
  case h_22 args ts =>
    split at h
    · rename_i x y t t2 ha ht
      split at h
      · rename_i e td hu hu2
        split at h
        · rename_i inf hi
          split at h
          · rename_i z hz
            split at h
            · rename_i hc
              simp only [rop] at h
              refine ⟨.gen, ?_⟩
              simp only [aop, a_call, ha, ht, hu, hu2, hi, hz, hc, cond_true, rappend_eq, h, Option.map_some]
            · exact gen h
          · exact gen h
        · exact gen h
      · exact gen h
    · exact gen h
  case h_23 => cases h
  case h_24 => cases h
  case h_25 e x => simp only [rop, Option.some.injEq, Prod.mk.injEq] at h; obtain ⟨rfl, rfl⟩ := h; exact ⟨.alloc _, rfl⟩
  case h_26 => exact gen h
end
end Go.Ab
/- Code made of resolved operations, and what it does, as a proposition. -/
set_option linter.unusedVariables false
namespace Go.Ab

structure PO where
  d : Option Nat
  r : R
  g : Option (Nat × Bool)
  s : Bool

inductive PC where
  | skip
  | ops (l : List PO)
  | seq (a b : PC)
  | cond (c : Operand) (a b : PC)
  | block (id : Nat) (b : PC)
  | loop (b : PC)
  | exit (id : Nat)
  | ret
  | label (l : Nat)
  | goto (l : Nat)
  | scope (b : PC) (l : Nat) (r : PC)
  | bad

/-! ### Resolving code -/

noncomputable def isLd (o : Oper) : Bool := match o.op with | .load .. => true | _ => false
noncomputable def allocL (o : Oper) : Bool := match o.op with | .alloc .. | .box .. | .makeSlice .. | .buildSlice .. | .convert .. | .makeMap .. | .range .. => true | _ => false
noncomputable def isCallF (o : Oper) : Bool := match o.op with | .call ⟨.value _, _, _⟩ => true | _ => false
noncomputable def ldAt (ops : Array Oper) (i : Nat) : Bool := match ops[i]? with | some o => isLd o | none => false
noncomputable def allocAt (ops : Array Oper) (i : Nat) : Bool := match ops[i]? with | some o => allocL o | none => false
noncomputable def callAt (ops : Array Oper) (i : Nat) : Bool := match ops[i]? with | some o => isCallF o | none => false

/-- A call beside which something stands that is not ordered; a load beside which such a call stands. -/
noncomputable def flagged (ops : Array Oper) (ms : List Nat) (k : Nat) : Bool :=
  (sgenAt ops k && (List.range ops.size).any fun i => (ldAt ops i && !(ordered ms i k) && !(ordered ms k i)) || (allocAt ops i && Nat.blt i k && !(ordered ms i k))) ||
  (ldAt ops k && (List.range ops.size).any fun i => sgenAt ops i && !(ordered ms i k) && !(ordered ms k i))

noncomputable def isSt (o : Oper) : Bool := match o.op with | .store .. => true | _ => false
noncomputable def stAt (ops : Array Oper) (i : Nat) : Bool := match ops[i]? with | some o => isSt o | none => false
noncomputable def unord (ms : List Nat) (i k : Nat) : Bool := !(ordered ms i k) && !(ordered ms k i)
noncomputable def ldTmp (ops : Array Oper) (i : Nat) : Option Nat := match ops[i]? with | some o => (match o.op with | .load _ (.tmp t) => some t | _ => none) | none => none
/-- The places of loads that stand ahead of a store and are not ordered with it. -/
noncomputable def others (ops : Array Oper) (ms : List Nat) (k : Nat) : List Operand := (List.range k).filterMap fun i => bif ldAt ops i && unord ms i k then (ldTmp ops i).map .tmp else none
/-- Between a load and a store nothing writes where the load looks. -/
noncomputable def calm (ops : Array Oper) (ms : List Nat) (i k : Nat) : Bool :=
  Nat.blt i k && (ldTmp ops i).isSome && (List.range k).all fun j => Nat.blt j i || ((match ops[j]? with | some o => !(o.dst == ldTmp ops i) | none => true) && (!(sgenAt ops j) || (callAt ops j && flagged ops ms j) || (stAt ops j && flagged ops ms j && unord ms i j)))

noncomputable def isDir (o : Oper) : Bool := match o.op with | .call ⟨.value (.func _), _, _⟩ => true | _ => false
noncomputable def dirAt (ops : Array Oper) (i : Nat) : Bool := match ops[i]? with | some o => isDir o | none => false
/-- In what the result of an operation lies. -/
noncomputable def leadOf (o : Oper) : Option Nat := match o.op with
  | .fieldAddr _ (.tmp b) _ => some b
  | .indexAddr _ (.tmp b) _ => some b
  | .move (.tmp b) => some b
  | .assign (.tmp b) => some b
  | _ => none
noncomputable def backS (o : Oper) (cur : Nat) : Option Nat := bif o.dst == some cur then leadOf o else some cur
/-- What leads to a temporary, as it stands ahead of the operation k. -/
noncomputable def backTo (ops : Array Oper) (k : Nat) : Nat → Nat → Option Nat
  | 0, cur => some cur
  | d + 1, cur => match ops[k + d]? with
    | some o => (match backS o cur with | some c => backTo ops k d c | none => none)
    | none => none
/-- What leads to a load, as it stands ahead of the operation k. -/
noncomputable def ldBase (ops : Array Oper) (k i : Nat) : Option Nat := match ldTmp ops i with
  | none => none
  | some t => backTo ops k (i - k) t
/-- The places of loads that stand behind a call and are not ordered with it. -/
noncomputable def laters (ops : Array Oper) (ms : List Nat) (k : Nat) : List Operand := (List.range ops.size).filterMap fun i => bif Nat.blt k i && (ldAt ops i && unord ms i k) then (ldBase ops k i).map .tmp else none
/-- Between a load and a call nothing is written. -/
noncomputable def quiet (ops : Array Oper) (ms : List Nat) (i k : Nat) : Bool :=
  (Nat.blt i k && (List.range k).all fun j => Nat.ble j i || (!(sgenAt ops j) || (flagged ops ms j && callAt ops j))) ||
  (Nat.blt k i && dirAt ops k && (ldBase ops k i).isSome && (List.range i).all fun j => Nat.blt j k || (!(sgenAt ops j) || (flagged ops ms j && callAt ops j)))

noncomputable def drawChk (ops : Array Oper) (ms : List Nat) : Bool :=
  (List.range ops.size).all fun k => !(sgenAt ops k) || !(flagged ops ms k) || (callAt ops k && (List.range ops.size).all fun i => !(ldAt ops i) || ordered ms i k || ordered ms k i || quiet ops ms i k) ||
    (stAt ops k && (List.range ops.size).all fun i => (!(ldAt ops i) || ordered ms i k || ordered ms k i || calm ops ms i k) && (!(allocAt ops i) || !(Nat.blt i k) || ordered ms i k))

/-- A store that is not ordered with loads tells which. -/
noncomputable def resolveF (P : Program) (ops : Array Oper) (i : Nat) (o : Oper) : R :=
  match o.op with
  | .store t x y => match P.info? t with | some inf => .stf inf.size x y (others ops (masks ops.toList []) i) | none => resolve1 P o.op
  | .call ⟨.value (.func f), args, _⟩ => .callF f args.toList (laters ops (masks ops.toList []) i)
  | _ => resolve1 P o.op
noncomputable def resolve2 (P : Program) (ops : Array Oper) (f : Bool) (i : Nat) (o : Oper) : R := bif f then resolveF P ops i o else resolve1 P o.op

noncomputable def cGuard (n : Nat) (ops : Array Oper) (o : Oper) : Option (Option (Nat × Bool)) :=
  match o.guard with
  | none => some none
  | some (j, want) => match guardSlot ops j with
    | some t => if t < n then some (some (t, want)) else none
    | none => none

noncomputable def compOps (P : Program) (n : Nat) (ops : Array Oper) (fl : Nat → Bool) : List Oper → Nat → Option (List PO)
  | [], _ => some []
  | o :: l, i => if okOp P n o then
      match cGuard n ops o, compOps P n ops fl l (i + 1) with
      | some g, some pl => some (⟨o.dst, resolve2 P ops (fl i) i o, g, fl i⟩ :: pl)
      | _, _ => none
    else none

/-- Conversions that look at memory. -/
noncomputable def rareOp (P : Program) (op : Op) : Bool := match op with
  | .convert src _ _ => (match P.underlying src with | some (.slice _) | some (.pointer _) | some .unsafePointer => true | _ => false)
  | .range t _ => (match P.underlying t with | some (.map _ _) => true | _ => false)
  | _ => false

/-- Jumps are exits with great numbers. -/
def J0 : Nat := 1000000

/-- One behind the other. -/
def sq : PC → PC → PC
  | .skip, y => y
  | x, .skip => x
  | x, y => .seq x y

/-- What stands behind a label. -/
noncomputable def findL : PC → Nat → Option PC
  | .seq a b, l => match findL a l with
    | some r => some (sq r b)
    | none => findL b l
  | .label l', l => bif Nat.beq l' l then some .skip else none
  | _, _ => none

noncomputable def labelsOf : PC → List Nat
  | .seq a b => labelsOf a ++ labelsOf b
  | .label l => [l]
  | _ => []

noncomputable def mkScope (b : PC) : PC :=
  match labelsOf b with
  | [] => b
  | [l] => match findL b l with
    | some r => .scope b l r
    | none => .bad
  | _ => .bad

noncomputable def comp (P : Program) (n : Nat) : Code → Option PC
  | .skip => some .skip
  | .label l => some (.label l)
  | .ret => some .ret
  | .exit id => some (bif Nat.blt id J0 then .exit id else .bad)
  | .goto l => some (.goto l)
  | .region _ ops false => some (match compOps P n ops (fun _ => false) ops.toList 0 with | some l => .ops l | none => .bad)
  | .region _ ops true => some (if P.follows .mixedOrders && drawOk ops (sgenAt ops) && drawChk ops (masks ops.toList []) && ops.all (fun o => !(rareOp P o.op)) then (match compOps P n ops (flagged ops (masks ops.toList [])) ops.toList 0 with | some l => .ops l | none => .bad) else .bad)
  | .seq a b => match comp P n a, comp P n b with
    | some x, some y => some (sq x y)
    | _, _ => none
  | .cond c a b => if okArg P n c then (match comp P n a, comp P n b with | some x, some y => some (.cond c x y) | _, _ => none) else none
  | .block id b => (comp P n b).map fun x => bif Nat.blt id J0 then .block id x else .bad
  | .loop b => (comp P n b).map .loop
  | .scope b => (comp P n b).map mkScope
  | _ => some .bad

/-! ### What it does -/

structure Kp where
  ret : Env → Heap → Prop
  ext : Nat → Env → Heap → Prop

def onS (o : Option (Value × Heap)) (k : Value → Heap → Prop) : Prop := ∃ v H', o = some (v, H') ∧ k v H'

/-- No block stands beyond the numbers that are taken. -/
def Heap.Wf (H : Heap) : Prop := ∀ id, H.next ≤ id → H.get id = none
theorem Heap.Wf.lt {H : Heap} (h : H.Wf) {id : Nat} {b : Blk} (hg : H.get id = some b) : id < H.next := by
  rcases Nat.lt_or_ge id H.next with h1 | h1
  · exact h1
  · rw [h id h1] at hg; cases hg
theorem Heap.Wf.push {H : Heap} (h : H.Wf) (b : Blk) : (H.push b).Wf := fun id hid => by
  simp only [Heap.next_push] at hid
  rw [Heap.get_push, if_neg (by omega)]; exact h id (by omega)
theorem Heap.Wf.set {H : Heap} (h : H.Wf) {i : Nat} {b0 : Blk} (hg : H.get i = some b0) (b : Blk) : (H.set i b).Wf := fun id hid => by
  have := h.lt hg
  simp only [Heap.next_set] at hid
  rw [Heap.get_set, if_neg (by omega)]; exact h id hid
theorem Heap.Wf.kill {H : Heap} (h : H.Wf) (i : Nat) : (H.kill i).Wf := fun id hid => by
  simp only [Heap.next_kill] at hid
  rw [Heap.get_kill]
  split
  · rfl
  · exact h id hid

/-- A call that gives so. -/
def CallQ (P : Program) (f : FuncId) (args : List Value) (H : Heap) (k : Value → Heap → Prop) : Prop := H.Wf → ∃ v H', Callable P f args H v H' ∧ H.next ≤ H'.next ∧ H'.Wf ∧ k v H'

/-- Places in different blocks. -/
def apartV : Value → Value → Prop
  | .pointer (some a), .pointer (some b) => b.block ≠ a.block
  | _, _ => True

/-- A place that stands already. -/
def lowV (n : Nat) : Value → Prop
  | .pointer (some a) => a.block < n
  | .slice (some a) _ _ => a.block < n
  | _ => False
/-- What stands stays. -/
def EqB (H H' : Heap) : Prop := ∀ id, id < H.next → H'.get id = H.get id

def pr (P : Program) (r : R) (s : Bool) (A : Env) (H : Heap) (k : Value → Heap → Prop) : Prop :=
  match r with
  | .call f args => CallQ P f (args.map (ev A)) H fun v H' => (s = true → ∀ id, H'.get id = H.get id) ∧ k v H'
  | .callv c args => match ev A c with
    | .func (.func f) xs ys => CallQ P f (xs.toList ++ args.map (ev A) ++ ys.toList) H fun v H' => (s = true → ∀ id, H'.get id = H.get id) ∧ k v H'
    | _ => False
  | .callF f args os => (∀ z ∈ os, lowV H.next (ev A z)) ∧ CallQ P f (args.map (ev A)) H fun v H' => EqB H H' ∧ k v H'
  | .stf size x y os => onS (rop P (.stf size x y os) A H) fun v H' => (∀ z ∈ os, apartV (ev A x) (ev A z)) ∧ k v H'
  | r => onS (rop P r A H) fun v H' => (s = true → belowV H.next 6 v = true) ∧ k v H'

def pg (g : Option (Nat × Bool)) (A : Env) (yes no : Prop) : Prop :=
  match g with
  | none => yes
  | some (t, w) => match A t with
    | .bool b => if b = w then yes else no
    | .tuple _ => no
    | _ => False

def pops (P : Program) : List PO → (Env → Heap → Prop) → Env → Heap → Prop
  | [], k, A, H => k A H
  | o :: l, k, A, H => pg o.g A (pr P o.r o.s A H fun v H' => pops P l k (updO A o.d v) H') (pops P l k (updO A o.d undef) H)

/-- Jumps to a label. -/
def jmK (l : Nat) (I : Nat → Env → Heap → Prop) (m : Nat) (e : Nat → Env → Heap → Prop) (j : Nat) (A : Env) (H : Heap) : Prop := if j = J0 + l then ∃ m', m' < m ∧ I m' A H else e j A H

def pexec (P : Program) : PC → Kp → (Env → Heap → Prop) → Env → Heap → Prop
  | .skip, _, k, A, H => k A H
  | .ops l, _, k, A, H => pops P l k A H
  | .seq a b, ks, k, A, H => pexec P a ks (pexec P b ks k) A H
  | .cond c a b, ks, k, A, H => match ev A c with
    | .bool t => (t = true → pexec P a ks k A H) ∧ (t = false → pexec P b ks k A H)
    | _ => False
  | .block id b, ks, k, A, H => pexec P b ⟨ks.ret, fun j => if j = id then k else ks.ext j⟩ k A H
  | .loop b, ks, k, A, H => ∃ I : Nat → Env → Heap → Prop, (∃ m, I m A H) ∧ ∀ m A' H', I m A' H' → pexec P b ks (fun A'' H'' => ∃ m', m' < m ∧ I m' A'' H'') A' H'
  | .exit id, ks, _, A, H => ks.ext id A H
  | .ret, ks, _, A, H => ks.ret A H
  | .label _, _, k, A, H => k A H
  | .goto l, ks, _, A, H => ks.ext (J0 + l) A H
  | .scope b l r, ks, k, A, H => ∃ I : Nat → Env → Heap → Prop, (∃ m, pexec P b ⟨ks.ret, jmK l I m ks.ext⟩ k A H) ∧ ∀ m A' H', I m A' H' → pexec P r ⟨ks.ret, jmK l I m ks.ext⟩ k A' H'
  | .bad, _, _, _, _ => False

/-! ### Soundness -/
section
variable {P : Program} {n : Nat}

theorem noCall_ok : CallSOk P noCall := ⟨fun f args H v H' h => (by cases h), fun f args H v H' h => (by cases h), fun f args H v H' h => (by cases h)⟩

theorem aop_op (call : CallS) (o : Oper) (A : Env) (H : Heap) : aop P call o A H = aop P call ⟨none, o.op, 0, "", #[], none⟩ A H := rfl

theorem pureR_cls {H H' : Heap} {r : Option Value} {c : Cls} {v : Value} (h : pureR H r = some (c, v, H')) : c = .pure ∧ H' = H := by
  obtain ⟨_, h1, h2⟩ := pureR_some h; exact ⟨h1, h2⟩

theorem cond_some {α : Type} {b : Bool} {x : Option α} {y : α} (h : (bif b then x else none) = some y) : x = some y := by cases b <;> simp_all

theorem aappend_next {e : TypeId} {inf : TypeInfo} {s x : Value} {H H' : Heap} {v : Value} (h : aappend e inf s x H = some (v, H')) : H.next ≤ H'.next ∧ (H.Wf → H'.Wf) := by
  unfold aappend at h
  repeat' (split at h)
  all_goals first
    | (cases h; done)
    | (simp only [Option.some.injEq, Prod.mk.injEq] at h; obtain ⟨_, rfl⟩ := h; refine ⟨by simp, fun hw => ?_⟩
       first
         | exact hw
         | exact hw.push _
         | exact (hw.kill _).push _
         | exact hw.set (by assumption) _)

theorem aput_next {k : TypeId} {m ix v : Value} {H H' : Heap} (h : aput P k m ix v H = some H') : H.next ≤ H'.next ∧ (H.Wf → H'.Wf) := by
  unfold aput at h
  split at h
  · split at h
    · rename_i hg
      have h := cond_some h
      split at h
      · cases h; exact ⟨by simp, fun hw => hw.set hg _⟩
      · cases h; exact ⟨by simp, fun hw => hw.set hg _⟩
      · cases h
    · cases h
  · cases h

/-- What an operation is, by the text. -/
structure Syn (P : Program) (o : Oper) (H H' : Heap) (c : Cls) : Prop where
  gen : isGen c = true → sgen o = true ∨ rareOp P o.op = true
  load : c = .load → isLd o = true
  alloc : ∀ b, c = .alloc b → allocL o = true
  next : H.next ≤ H'.next
  wf : H.Wf → H'.Wf

theorem aop_syn {o : Oper} {A : Env} {H H' : Heap} {c : Cls} {v : Value} (h : aop P noCall o A H = some (c, v, H')) : Syn P o H H' c := by
  obtain ⟨dst, op, ty, pos, af, g⟩ := o
  have hs : ∀ {u : Value}, some (Cls.pure, u, H) = some (c, v, H') → Syn P ⟨dst, op, ty, pos, af, g⟩ H H' c := fun h => by
    simp only [Option.some.injEq, Prod.mk.injEq] at h
    obtain ⟨rfl, _, rfl⟩ := h
    exact ⟨fun h => (by cases h), fun h => (by cases h), fun b h => (by cases h), Nat.le_refl _, id⟩
  have hp : ∀ {r : Option Value}, pureR H r = some (c, v, H') → Syn P ⟨dst, op, ty, pos, af, g⟩ H H' c := fun {r} h => by
    obtain ⟨rfl, rfl⟩ := pureR_cls h
    exact ⟨fun h => (by cases h), fun h => (by cases h), fun b h => (by cases h), Nat.le_refl _, id⟩
  have ha : ∀ {b : Blk} {u : Value}, allocL ⟨dst, op, ty, pos, af, g⟩ = true → some (Cls.alloc b, u, H.push b) = some (c, v, H') → Syn P ⟨dst, op, ty, pos, af, g⟩ H H' c := fun hl h => by
    simp only [Option.some.injEq, Prod.mk.injEq] at h
    obtain ⟨rfl, _, rfl⟩ := h
    exact ⟨fun h => (by cases h), fun h => (by cases h), fun b _ => hl, by simp, fun hw => hw.push _⟩
  unfold aop at h
  split at h
  case h_1 hop => exact hs h
  case h_2 hop => exact hs h
  case h_3 hop =>
    unfold a_pick at h
    split at h
    · exact hs h
    · cases h
  case h_4 hop => exact hs (cond_some h)
  case h_5 hop => exact hp h
  case h_6 hop => exact hp h
  case h_7 hop =>
    unfold a_convert at h
    simp only at hop
    split at h
    · split at h
      · split at h
        · exact ha (by subst hop; rfl) (cond_some h)
        · cases h
      · cases h
    · rename_i hu hd ex
      split at h
      · split at h
        · simp only [Option.some.injEq, Prod.mk.injEq] at h; obtain ⟨rfl, _, rfl⟩ := h
          exact ⟨fun _ => .inr (by subst hop; simp only [rareOp, hu]), fun h => (by cases h), fun b h => (by cases h), Nat.le_refl _, id⟩
        · cases h
      · cases h
    · rename_i hu hd ex
      split at h
      · split at h
        · simp only [Option.some.injEq, Prod.mk.injEq] at h; obtain ⟨rfl, _, rfl⟩ := h
          exact ⟨fun _ => .inr (by subst hop; simp only [rareOp, hu]), fun h => (by cases h), fun b h => (by cases h), Nat.le_refl _, id⟩
        · cases h
      · cases h
    · rename_i hu hd ex
      split at h
      · split at h
        · simp only [Option.some.injEq, Prod.mk.injEq] at h; obtain ⟨rfl, _, rfl⟩ := h
          exact ⟨fun _ => .inr (by subst hop; simp only [rareOp, hu]), fun h => (by cases h), fun b h => (by cases h), Nat.le_refl _, id⟩
        · cases h
      · cases h
    · exact hp h
  case h_8 hop =>
    unfold a_makeInterface at h
    split at h
    · cases h
    · exact hs h
    · cases h
  case h_9 hop => exact hs (cond_some h)
  case h_10 hop =>
    unfold a_field at h
    repeat' (split at h)
    all_goals first | exact hp h | cases h
  case h_11 hop =>
    unfold a_fieldAddr at h
    repeat' (split at h)
    all_goals first
      | (cases h; done)
      | (revert h; cases hz : Nat.beq _ 0 <;> intro h <;> first | exact hs h | cases h)
  case h_12 hop =>
    unfold a_indexAddr at h
    repeat' (split at h)
    all_goals first | exact hs h | cases h
  case h_13 hop =>
    unfold a_index at h
    repeat' (split at h)
    all_goals first | exact hs h | exact hp h | cases h
  case h_14 hop =>
    unfold a_extract at h
    split at h
    · exact hp h
    · cases h
  case h_15 hop => exact hp h
  case h_16 hop =>
    unfold a_build at h
    repeat' (split at h)
    all_goals first | (cases h; done) | exact hp (cond_some h)
  case h_17 hop =>
    simp only at hop
    unfold a_buildSlice at h
    split at h
    · split at h
      · split at h
        · have h := cond_some h
          split at h
          · exact ha (by subst hop; rfl) h
          · cases h
        · cases h
      · cases h
    · cases h
  case h_18 hop =>
    simp only at hop
    unfold a_alloc at h
    split at h
    · split at h
      · exact ha (by subst hop; rfl) (cond_some h)
      · cases h
    · cases h
  case h_19 hop => simp only at hop; unfold a_box at h; exact ha (by subst hop; rfl) h
  case h_20 hop =>
    simp only at hop
    unfold a_makeSlice at h
    repeat' (split at h)
    all_goals first | (cases h; done) | exact ha (by subst hop; rfl) h
  case h_21 hop =>
    unfold a_slice at h
    repeat' (split at h)
    all_goals first | exact hs h | exact hp h | cases h
  case h_22 hop =>
    simp only at hop
    unfold a_load at h
    repeat' (split at h)
    all_goals first
      | (cases h; done)
      | (simp only [Option.some.injEq, Prod.mk.injEq] at h
         obtain ⟨rfl, _, rfl⟩ := h
         exact ⟨fun h => (by cases h), fun _ => (by subst hop; rfl), fun b h => (by cases h), Nat.le_refl _, id⟩)
  case h_23 hop =>
    simp only at hop
    unfold a_store at h
    split at h
    · split at h
      · rename_i H1 hst
        simp only [Option.some.injEq, Prod.mk.injEq] at h
        obtain ⟨rfl, _, rfl⟩ := h
        have hst2 : H.next ≤ H1.next ∧ (H.Wf → H1.Wf) := by
          unfold astore at hst
          split at hst
          · rename_i hg
            split at hst
            · cases hst; exact ⟨by simp, fun hw => hw.set hg _⟩
            · cases hst
          · cases hst
        exact ⟨fun _ => .inl (by subst hop; rfl), fun h => (by cases h), fun b h => (by cases h), hst2.1, hst2.2⟩
      · cases h
    · cases h
  case h_24 cl hop =>
    simp only at hop
    unfold a_call at h
    split at h
    · split at h
      · split at h
        · exact hs h
        · cases h
      · split at h
        · exact hs (cond_some h)
        · cases h
      · split at h
        · split at h
          · exact hs h
          · cases h
        · cases h
      · split at h
        · split at h
          · exact hs h
          · cases h
        · cases h
      · split at h
        · split at h
          · split at h
            · have h := cond_some h
              simp only [Option.map_eq_some_iff, Prod.mk.injEq] at h
              obtain ⟨⟨u, H1⟩, h1, rfl, rfl, rfl⟩ := h
              exact ⟨fun _ => .inl (by subst hop; rfl), fun h => (by cases h), fun b h => (by cases h), (aappend_next h1).1, (aappend_next h1).2⟩
            · cases h
          · cases h
        · cases h
      · split at h
        · split at h
          · simp only [Option.map_eq_some_iff, Prod.mk.injEq] at h
            obtain ⟨⟨u, H1⟩, h1, rfl, rfl, rfl⟩ := h
            have hn : H.next ≤ H1.next ∧ (H.Wf → H1.Wf) := by
              unfold acopy at h1
              repeat' (split at h1)
              all_goals first
                | (cases h1; done)
                | (simp only [Option.some.injEq, Prod.mk.injEq] at h1; obtain ⟨_, rfl⟩ := h1; exact ⟨by simp, fun hw => by first | exact hw | exact hw.set (by assumption) _⟩)
            exact ⟨fun _ => .inl (by subst hop; rfl), fun h => (by cases h), fun b h => (by cases h), hn.1, hn.2⟩
          · cases h
        · cases h
      · split at h
        · exact hs h
        · split at h
          · exact hs h
          · cases h
        · cases h
      · split at h
        · simp only [Option.some.injEq, Prod.mk.injEq] at h; obtain ⟨rfl, _, rfl⟩ := h
          exact ⟨fun _ => .inl (by subst hop; rfl), fun h => (by cases h), fun b h => (by cases h), Nat.le_refl _, id⟩
        · split at h
          · rename_i hg
            split at h
            · split at h
              · simp only [Option.some.injEq, Prod.mk.injEq] at h; obtain ⟨rfl, _, rfl⟩ := h
                exact ⟨fun _ => .inl (by subst hop; rfl), fun h => (by cases h), fun b h => (by cases h), by simp, fun hw => hw.set hg _⟩
              · cases h
            · cases h
          · cases h
        · cases h
      · cases h
    · split at h
      · split at h
        · simp [noCall] at h
        · cases h
      · cases h
    · simp [noCall] at h
    · split at h
      · simp [noCall] at h
      · have h := cond_some h; simp [noCall] at h
      · cases h
  case h_25 hop => simp only at hop; exact ha (by subst hop; rfl) h
  case h_26 hop =>
    simp only at hop
    unfold a_lookup at h
    split at h
    · simp only [Option.map_eq_some_iff, Prod.mk.injEq] at h
      obtain ⟨u, h1, rfl, rfl, rfl⟩ := h
      exact ⟨fun _ => .inl (by subst hop; rfl), fun h => (by cases h), fun b h => (by cases h), Nat.le_refl _, id⟩
    · cases h
  case h_27 hop =>
    simp only at hop
    unfold a_put at h
    split at h
    · simp only [Option.map_eq_some_iff, Prod.mk.injEq] at h
      obtain ⟨H1, h1, rfl, rfl, rfl⟩ := h
      exact ⟨fun _ => .inl (by subst hop; rfl), fun h => (by cases h), fun b h => (by cases h), (aput_next h1).1, (aput_next h1).2⟩
    · cases h
  case h_28 hop =>
    simp only at hop
    unfold a_put at h
    split at h
    · simp only [Option.map_eq_some_iff, Prod.mk.injEq] at h
      obtain ⟨H1, h1, rfl, rfl, rfl⟩ := h
      exact ⟨fun _ => .inl (by subst hop; rfl), fun h => (by cases h), fun b h => (by cases h), (aput_next h1).1, (aput_next h1).2⟩
    · cases h
  case h_29 hop =>
    simp only at hop
    unfold a_range at h
    split at h
    · exact ha (by subst hop; rfl) h
    · rename_i ht ex
      simp only [Option.some.injEq, Prod.mk.injEq] at h
      obtain ⟨rfl, _, rfl⟩ := h
      exact ⟨fun _ => .inr (by subst hop; simp only [rareOp, ht]), fun h => (by cases h), fun b h => (by cases h), by simp, fun hw => hw.push _⟩
    · rename_i ht ex
      split at h
      · simp only [Option.some.injEq, Prod.mk.injEq] at h
        obtain ⟨rfl, _, rfl⟩ := h
        exact ⟨fun _ => .inr (by subst hop; simp only [rareOp, ht]), fun h => (by cases h), fun b h => (by cases h), by simp, fun hw => hw.push _⟩
      · cases h
    · cases h
  case h_30 hop =>
    simp only at hop
    simp only [Option.map_eq_some_iff, Prod.mk.injEq] at h
    obtain ⟨⟨u, H1⟩, h1, rfl, rfl, rfl⟩ := h
    have hn : H.next ≤ H1.next ∧ (H.Wf → H1.Wf) := by
      unfold anext at h1
      split at h1
      · have h1 := cond_some h1
        split at h1
        · rename_i hg
          split at h1
          · simp only [Option.some.injEq, Prod.mk.injEq] at h1; obtain ⟨_, rfl⟩ := h1; exact ⟨by simp, fun hw => hw.set hg _⟩
          · simp only [Option.some.injEq, Prod.mk.injEq] at h1; obtain ⟨_, rfl⟩ := h1; exact ⟨by simp, fun hw => hw⟩
        · cases h1
      · cases h1
    exact ⟨fun _ => .inl (by subst hop; rfl), fun h => (by cases h), fun b h => (by cases h), hn.1, hn.2⟩
  case h_31 hop =>
    simp only at hop
    simp only [Option.map_eq_some_iff, Prod.mk.injEq] at h
    obtain ⟨⟨u, H1⟩, h1, rfl, rfl, rfl⟩ := h
    have hn : H.next ≤ H1.next ∧ (H.Wf → H1.Wf) := by
      unfold anextM at h1
      split at h1
      · have h1 := cond_some h1
        split at h1
        · simp only [Option.some.injEq, Prod.mk.injEq] at h1; obtain ⟨_, rfl⟩ := h1; exact ⟨by simp, fun hw => hw⟩
        · rename_i hg
          split at h1
          · have h1 := cond_some h1
            split at h1
            · simp only [Option.some.injEq, Prod.mk.injEq] at h1; obtain ⟨_, rfl⟩ := h1; exact ⟨by simp, fun hw => hw⟩
            · split at h1
              · have h1 := cond_some h1
                simp only [Option.some.injEq, Prod.mk.injEq] at h1; obtain ⟨_, rfl⟩ := h1; exact ⟨by simp, fun hw => hw.set hg _⟩
              · cases h1
            · cases h1
          · cases h1
        · cases h1
      · cases h1
    exact ⟨fun _ => .inl (by subst hop; rfl), fun h => (by cases h), fun b h => (by cases h), hn.1, hn.2⟩
  case h_32 hop =>
    simp only at hop
    simp only [Option.map_eq_some_iff, Prod.mk.injEq] at h
    obtain ⟨u, h1, rfl, rfl, rfl⟩ := h
    exact ⟨fun _ => .inl (by subst hop; rfl), fun h => (by cases h), fun b h => (by cases h), Nat.le_refl _, fun hw => hw⟩
  case h_33 => cases h
end
end Go.Ab
/- What is said of code made of resolved operations holds of the code that it came from. -/
set_option linter.unusedVariables false
namespace Go.Ab
section
variable {P : Program} {n : Nat}

theorem pg_wanted {ops : Array Oper} {o : Oper} {g : Option (Nat × Bool)} {A : Env} {yes no : Prop} (hc : cGuard n ops o = some g) (h : pg g A yes no) :
    (wantedA n ops A o = some true ∧ yes) ∨ (wantedA n ops A o = some false ∧ no) := by
  unfold cGuard at hc
  unfold wantedA
  split at hc
  · rename_i hg
    cases hc
    exact .inl ⟨by rw [hg], h⟩
  · rename_i j want hg
    rw [hg]
    split at hc
    · rename_i t ht
      split at hc
      · rename_i hlt
        cases hc
        have h' : (match A t with | .bool b => if b = want then yes else no | .tuple _ => no | _ => False) := h
        simp only [ht, hlt, if_true]
        split at h'
        · rename_i b hb
          split at h'
          · rename_i e; exact .inl ⟨by simp [hb, e], h'⟩
          · rename_i e; exact .inr ⟨by simp [hb, e], h'⟩
        · rename_i hb; exact .inr ⟨by simp [hb], h'⟩
        · exact h'.elim
      · cases hc
    · cases hc

theorem resolve_call {op : Op} {f : FuncId} {args : List Operand} (h : resolve1 P op = .call f args) : ∃ a ts, op = .call ⟨.value (.func f), a, ts⟩ ∧ args = a.toList := by
  unfold resolve1 at h
  repeat' (split at h)
  all_goals first
    | (cases h; done)
    | (cases h; exact ⟨_, _, rfl, rfl⟩)

theorem resolve_callv {op : Op} {c : Operand} {args : List Operand} (h : resolve1 P op = .callv c args) : ∃ a ts, op = .call ⟨.value c, a, ts⟩ ∧ args = a.toList := by
  unfold resolve1 at h
  repeat' (split at h)
  all_goals first
    | (cases h; done)
    | (cases h; exact ⟨_, _, rfl, rfl⟩)

theorem resolve_stf {op : Op} {size : Nat} {x y : Operand} {os : List Operand} (h : resolve1 P op = .stf size x y os) : False := by
  unfold resolve1 at h
  repeat' (split at h)
  all_goals cases h

theorem resolve_callF {op : Op} {f : FuncId} {args os : List Operand} (h : resolve1 P op = .callF f args os) : False := by
  unfold resolve1 at h
  repeat' (split at h)
  all_goals cases h

/-- A place in a block, or a slice of it. -/
def InB (v : Value) (b : Nat) : Prop := (∃ a : Addr, v = .pointer (some a) ∧ a.block = b) ∨ ∃ (a : Addr) (n c : Nat), v = .slice (some a) n c ∧ a.block = b
theorem InB.uniq {v : Value} {b b' : Nat} (h : InB v b) (h' : InB v b') : b = b' := by
  rcases h with ⟨a, rfl, rfl⟩ | ⟨a, n, c, rfl, rfl⟩ <;> rcases h' with ⟨a', e, rfl⟩ | ⟨a', n', c', e, rfl⟩ <;> cases e <;> rfl
/-- A place lies in the block of what it is of. -/
def FA (o : Oper) (A : Env) (v : Value) : Prop := ∀ b, leadOf o = some b → ∀ n, InB v n → InB (A b) n
theorem FA.none {o : Oper} {A : Env} {v : Value} (h : leadOf o = none) : FA o A v := fun b h' => by rw [h] at h'; cases h'
theorem fa_aop {o : Oper} {A : Env} {H H' : Heap} {c : Cls} {v : Value} (h : aop P noCall o A H = some (c, v, H')) : FA o A v := by
  obtain ⟨dst, op, ty, pos, af, g⟩ := o
  intro b hf n hv
  unfold leadOf at hf
  split at hf
  · rename_i t b' f hop
    simp only at hop
    subst hop
    cases hf
    have h : a_fieldAddr P noCall A H t (.tmp b) f = some (c, v, H') := h
    unfold a_fieldAddr at h
    split at h
    · rename_i fs a _ ha
      split at h
      · split at h
        · rename_i inf _
          cases hz : Nat.beq inf.size 0 with
          | true => rw [hz] at h; cases h
          | false =>
            rw [hz] at h
            simp only [cond_false, Option.some.injEq, Prod.mk.injEq] at h
            have ha : A b = .pointer (some a) := ha
            obtain ⟨_, rfl, _⟩ := h
            rcases hv with ⟨a', e, rfl⟩ | ⟨a', n', c', e, rfl⟩
            · cases e; exact .inl ⟨a, ha, rfl⟩
            · cases e
        · cases h
      · cases h
    · cases h
  · rename_i t b' ix hop
    simp only at hop
    subst hop
    cases hf
    have h : a_indexAddr P noCall A H t (.tmp b) ix = some (c, v, H') := h
    unfold a_indexAddr at h
    split at h
    · split at h
      · rename_i e a len cap _ ha
        have ha : A b = .slice (some a) len cap := ha
        split at h
        · split at h
          · simp only [Option.some.injEq, Prod.mk.injEq] at h
            obtain ⟨_, rfl, _⟩ := h
            rcases hv with ⟨a', e, rfl⟩ | ⟨a', n', c', e, rfl⟩
            · cases e; exact .inr ⟨a, _, _, ha, rfl⟩
            · cases e
          · cases h
        · cases h
      · rename_i len e a _ ha
        have ha : A b = .pointer (some a) := ha
        split at h
        · split at h
          · simp only [Option.some.injEq, Prod.mk.injEq] at h
            obtain ⟨_, rfl, _⟩ := h
            rcases hv with ⟨a', e, rfl⟩ | ⟨a', n', c', e, rfl⟩
            · cases e; exact .inl ⟨a, ha, rfl⟩
            · cases e
          · cases h
        · cases h
      · cases h
    · cases h
  · rename_i b' hop
    simp only at hop
    subst hop
    cases hf
    have h : some (Cls.pure, ev A (.tmp b), H) = some (c, v, H') := h
    cases h
    exact hv
  · rename_i b' hop
    simp only at hop
    subst hop
    cases hf
    have h : some (Cls.pure, ev A (.tmp b), H) = some (c, v, H') := h
    cases h
    exact hv
  · cases hf

theorem pr_does {o : Oper} {s : Bool} {A : Env} {H : Heap} {k : Value → Heap → Prop} (hw : H.Wf) (h : pr P (resolve1 P o.op) s A H k) :
    ∃ c v H', ClsOk P o A H v H' c ∧ Syn P o H H' c ∧ (s = true → isCallF o = true → ∀ id, H'.get id = H.get id) ∧ (s = true → isLd o = true → belowV H.next 6 v = true) ∧ FA o A v ∧ k v H' := by
  obtain ⟨dst, op, ty, pos, af, g⟩ := o
  have other : onS (rop P (resolve1 P op) A H) (fun v H' => (s = true → belowV H.next 6 v = true) ∧ k v H') →
      ∃ c v H', ClsOk P ⟨dst, op, ty, pos, af, g⟩ A H v H' c ∧ Syn P ⟨dst, op, ty, pos, af, g⟩ H H' c ∧ (s = true → isCallF ⟨dst, op, ty, pos, af, g⟩ = true → ∀ id, H'.get id = H.get id) ∧ (s = true → isLd ⟨dst, op, ty, pos, af, g⟩ = true → belowV H.next 6 v = true) ∧ FA ⟨dst, op, ty, pos, af, g⟩ A v ∧ k v H' := fun ⟨v, H', hr, hs, hk⟩ => by
    obtain ⟨c, ha⟩ := resolve_ok hr
    have ha : aop P noCall ⟨dst, op, ty, pos, af, g⟩ A H = some (c, v, H') := ha
    refine ⟨c, v, H', aop_sound noCall_ok ha, aop_syn ha, fun _ hc => ?_, fun h _ => hs h, fa_aop ha, hk⟩
    unfold isCallF at hc
    split at hc
    · rename_i f a ts hop
      simp only at hop
      subst hop
      unfold aop at ha
      simp only [a_call] at ha
      split at ha
      · rename_i he; cases he
      · rename_i he; cases he
      · simp [noCall] at ha
      · split at ha
        · simp [noCall] at ha
        · have ha := cond_some ha; simp [noCall] at ha
        · cases ha
    · cases hc
  simp only [pr] at h
  split at h
  · rename_i f args hr
    obtain ⟨a, ts, hop, rfl⟩ := resolve_call hr
    subst hop
    obtain ⟨v, H', hc, hn, hwf, hs, hk⟩ := h hw
    refine ⟨.gen, v, H', od_call (by simpa using hc), ⟨fun _ => .inl rfl, fun h => (by cases h), fun b h => (by cases h), hn, fun _ => hwf⟩, fun h _ => hs h, fun _ h => (by cases h), .none rfl, hk⟩
  · rename_i c args hr
    obtain ⟨a, ts, hop, rfl⟩ := resolve_callv hr
    subst hop
    split at h
    · rename_i f xs ys hv
      obtain ⟨v, H', hc, hn, hwf, hs, hk⟩ := h hw
      refine ⟨.gen, v, H', od_callv hv (by simpa using hc), ⟨fun _ => .inl rfl, fun h => (by cases h), fun b h => (by cases h), hn, fun _ => hwf⟩, fun h _ => hs h, fun _ h => (by cases h), .none rfl, hk⟩
    · exact h.elim
  · rename_i hr; exact (resolve_callF hr).elim
  · rename_i hr; exact (resolve_stf hr).elim
  · exact other h

/-- The places that a call tells of stand already. -/
def Low (o : Oper) (os : List Operand) (A : Env) (H : Heap) : Prop := isDir o = true → ∀ z ∈ os, ∃ b : Nat, InB (ev A z) b ∧ b < H.next

/-- A store that tells which loads it may meet: it touches none of their blocks. -/
def Sep (o : Oper) (os : List Operand) (A : Env) (H H' : Heap) : Prop := isSt o = true → ∃ a : Nat, (∀ id, id ≠ a → H'.get id = H.get id) ∧ ∀ z ∈ os, ∀ b : Addr, ev A z = .pointer (some b) → b.block ≠ a

theorem pr_does2 {ops : Array Oper} {i : Nat} {o : Oper} {s : Bool} {A : Env} {H : Heap} {k : Value → Heap → Prop} (hw : H.Wf) (h : pr P (resolve2 P ops s i o) s A H k) :
    ∃ c v H', ClsOk P o A H v H' c ∧ Syn P o H H' c ∧ (s = true → isCallF o = true → EqB H H') ∧ (s = true → isLd o = true → belowV H.next 6 v = true) ∧ (s = true → Sep o (others ops (masks ops.toList []) i) A H H') ∧ (s = true → Low o (laters ops (masks ops.toList []) i) A H) ∧ FA o A v ∧ k v H' := by
  cases s with
  | false =>
    obtain ⟨c, v, H', h1, h2, h3, h4, hfa, h5⟩ := pr_does hw h
    exact ⟨c, v, H', h1, h2, fun h => (by cases h), h4, fun h => (by cases h), fun h => (by cases h), hfa, h5⟩
  | true =>
    have h : pr P (resolveF P ops i o) true A H k := h
    have plainly : isSt o = false → isDir o = false → resolveF P ops i o = resolve1 P o.op → ∃ c v H', ClsOk P o A H v H' c ∧ Syn P o H H' c ∧ (true = true → isCallF o = true → EqB H H') ∧ (true = true → isLd o = true → belowV H.next 6 v = true) ∧ (true = true → Sep o (others ops (masks ops.toList []) i) A H H') ∧ (true = true → Low o (laters ops (masks ops.toList []) i) A H) ∧ FA o A v ∧ k v H' := fun hns hnd e => by
      rw [e] at h
      obtain ⟨c, v, H', h1, h2, h3, h4, hfa, h5⟩ := pr_does hw h
      exact ⟨c, v, H', h1, h2, fun hh hc id _ => h3 hh hc id, h4, fun _ hs => (by rw [hns] at hs; cases hs), fun _ hs => (by rw [hnd] at hs; cases hs), hfa, h5⟩
    cases hst : isSt o with
    | false =>
      cases hdi : isDir o with
      | false =>
        refine plainly hst hdi ?_
        unfold resolveF
        unfold isSt at hst
        unfold isDir at hdi
        split
        · rename_i t x y hop; rw [hop] at hst; cases hst
        · rename_i hop; rw [hop] at hdi; cases hdi
        · rfl
      | true =>
        obtain ⟨dst, op, ty, pos, af, g⟩ := o
        unfold isDir at hdi
        split at hdi
        · rename_i f a ts hop
          simp only at hop
          subst hop
          obtain ⟨hlow, hq⟩ := h
          obtain ⟨v, H', hc, hn, hwf, hs, hk⟩ := hq hw
          refine ⟨.gen, v, H', od_call (by simpa using hc), ⟨fun _ => .inl rfl, fun h => (by cases h), fun b h => (by cases h), hn, fun _ => hwf⟩, fun _ _ => hs, fun _ h => (by cases h), fun _ h => (by cases h), fun _ _ z hz => ?_, .none rfl, hk⟩
          have := hlow z hz
          unfold lowV at this
          split at this
          · rename_i b hb; exact ⟨_, .inl ⟨b, hb, rfl⟩, this⟩
          · rename_i b n c hb; exact ⟨_, .inr ⟨b, n, c, hb, rfl⟩, this⟩
          · exact this.elim
        · cases hdi
    | true =>
      unfold isSt at hst
      split at hst
      · rename_i t x y hop
        unfold resolveF at h
        rw [hop] at h
        simp only at h
        cases hin : P.info? t with
        | none =>
          rw [hin] at h
          have e : resolve1 P (.store t x y) = .gen (.store t x y) := by simp [resolve1, hin]
          simp only at h
          rw [e] at h
          obtain ⟨v, H', hr, hs, hk⟩ := h
          simp only [rop, aop, a_store, astore, hin] at hr
          split at hr
          · rename_i hh; repeat' (split at hh)
            all_goals (first | (cases hh; done) | (rename_i h9; cases h9))
          · cases hr
        | some inf =>
          rw [hin] at h
          obtain ⟨v, H', hr, hs, hk⟩ := h
          have e : resolve1 P o.op = .st inf.size x y := by rw [hop]; simp [resolve1, hin]
          obtain ⟨c, v1, H1, h1, h2, h3, h4, hfa, h5⟩ := pr_does (s := false) (k := fun v' H1 => v' = v ∧ H1 = H') hw (o := o) (by
            rw [e]; exact ⟨v, H', hr, fun h => (by cases h), rfl, rfl⟩)
          obtain ⟨rfl, rfl⟩ := h5
          refine ⟨c, v1, H1, h1, h2, fun _ hc => ?_, fun _ hl => ?_, fun _ _ => ?_, fun _ hd => ?_, hfa, hk⟩
          · unfold isCallF at hc; rw [hop] at hc; cases hc
          · unfold isLd at hl; rw [hop] at hl; cases hl
          · simp only [rop] at hr
            split at hr
            · rename_i a ha
              split at hr
              · rename_i c' e' hg
                split at hr
                · simp only [Option.some.injEq, Prod.mk.injEq] at hr
                  obtain ⟨_, rfl⟩ := hr
                  refine ⟨a.block, fun id hid => by rw [Heap.get_set, if_neg hid], fun z hz => ?_⟩
                  have hap := hs z hz
                  rw [ha] at hap
                  intro b1 hb1
                  rw [hb1] at hap
                  exact hap
                · cases hr
              · cases hr
            · cases hr
          · unfold isDir at hd; rw [hop] at hd; cases hd
      · cases hst

theorem pops_sound {ops : Array Oper} {fl : Nat → Bool} : ∀ (l : List Oper) (i : Nat) (pl : List PO) (k : Env → Heap → Prop) (A : Env) (H : Heap), H.Wf → compOps P n ops fl l i = some pl → pops P pl k A H →
    ∃ A1 H1, H1.Wf ∧ k A1 H1 ∧ AOps P n ops l (fun e A' H' => e = .normal ∧ A' = A1 ∧ H' = H1) A H
  | [], i, pl, k, A, H, hwf, hc, h => by
    simp only [compOps, Option.some.injEq] at hc
    subst hc
    exact ⟨A, H, hwf, h, aops_nil ⟨rfl, rfl, rfl⟩⟩
  | o :: l, i, pl, k, A, H, hwf, hc, h => by
    unfold compOps at hc
    split at hc
    · rename_i hok
      split at hc
      · rename_i g pl1 hg hpl
        cases hc
        have h : pg g A (pr P (resolve2 P ops (fl i) i o) (fl i) A H fun v H' => pops P pl1 k (updO A o.dst v) H') (pops P pl1 k (updO A o.dst undef) H) := h
        rcases pg_wanted hg h with ⟨hw, hy⟩ | ⟨hw, hn⟩
        · obtain ⟨c, v, H', h1, h2, h3, h4, _, _, _, h5⟩ := pr_does2 hwf hy
          obtain ⟨A1, H1, hw1, hk, ha⟩ := pops_sound l (i + 1) pl1 k _ _ (h2.wf hwf) hpl h5
          refine ⟨A1, H1, hw1, hk, ?_⟩
          cases hgd : o.guard with
          | none => exact aops_cons hgd h1.does hok ha
          | some jw =>
            obtain ⟨j, w⟩ := jw
            exact aops_wanted hgd hw (fun _ => ⟨v, H', h1.does, ha⟩) (fun hh => by cases hh) hok
        · obtain ⟨A1, H1, hw1, hk, ha⟩ := pops_sound l (i + 1) pl1 k _ _ hwf hpl hn
          refine ⟨A1, H1, hw1, hk, ?_⟩
          cases hgd : o.guard with
          | none => simp [wantedA, hgd] at hw
          | some jw =>
            obtain ⟨j, w⟩ := jw
            exact aops_wanted hgd hw (fun hh => by cases hh) (fun _ => ha) hok
      · cases hc
    · cases hc

/-- One step of a trace. -/
structure StR (P : Program) (n : Nat) (ops : Array Oper) (fl : Nat → Bool) (i : Nat) (o : Oper) (s : Stp) (t' : Env) (H' : Heap) : Prop where
  ok : okOp P n o = true
  wf : s.H.Wf
  env : t' = updO s.t o.dst s.v
  next : s.H.next ≤ H'.next
  run : (wantedA n ops s.t o = some true ∧ ClsOk P o s.t s.H s.v H' s.c ∧ Syn P o s.H H' s.c ∧ (fl i = true → isCallF o = true → EqB s.H H') ∧ (fl i = true → isLd o = true → belowV s.H.next 6 s.v = true) ∧ (fl i = true → Sep o (others ops (masks ops.toList []) i) s.t s.H H') ∧ (fl i = true → Low o (laters ops (masks ops.toList []) i) s.t s.H) ∧ FA o s.t s.v) ∨
    (wantedA n ops s.t o = some false ∧ s.c = .pure ∧ s.v = undef ∧ H' = s.H)

noncomputable def envAt (l : List Stp) (t : Env) (i : Nat) : Env := match l[i]? with | some s => s.t | none => t

theorem pops_trace {ops : Array Oper} {fl : Nat → Bool} : ∀ (l : List Oper) (i : Nat) (pl : List PO) (k : Env → Heap → Prop) (A : Env) (H : Heap), H.Wf → compOps P n ops fl l i = some pl → pops P pl k A H →
    ∃ tr A1 H1, H1.Wf ∧ k A1 H1 ∧ tr.length = l.length ∧ envAt tr A1 0 = A ∧ heapAt tr H1 0 = H ∧ ∀ (j : Nat) o s, l[j]? = some o → tr[j]? = some s → StR P n ops fl (i + j) o s (envAt tr A1 (j + 1)) (heapAt tr H1 (j + 1))
  | [], i, pl, k, A, H, hwf, hc, h => by
    simp only [compOps, Option.some.injEq] at hc
    subst hc
    exact ⟨[], A, H, hwf, h, rfl, rfl, rfl, fun j o s h => by simp at h⟩
  | o :: l, i, pl, k, A, H, hwf, hc, h => by
    unfold compOps at hc
    split at hc
    · rename_i hok
      split at hc
      · rename_i g pl1 hg hpl
        cases hc
        have h : pg g A (pr P (resolve2 P ops (fl i) i o) (fl i) A H fun v H' => pops P pl1 k (updO A o.dst v) H') (pops P pl1 k (updO A o.dst undef) H) := h
        have step : ∀ (s : Stp) (t' : Env) (H' : Heap), s.t = A → s.H = H → H'.Wf → pops P pl1 k t' H' → StR P n ops fl i o s t' H' →
            ∃ tr A1 H1, H1.Wf ∧ k A1 H1 ∧ tr.length = (o :: l).length ∧ envAt tr A1 0 = A ∧ heapAt tr H1 0 = H ∧ ∀ (j : Nat) o' s, (o :: l)[j]? = some o' → tr[j]? = some s → StR P n ops fl (i + j) o' s (envAt tr A1 (j + 1)) (heapAt tr H1 (j + 1)) := by
          intro s t' H' e1 e2 hw' hp hst
          obtain ⟨tr, A1, H1, hw1, hk, hl, ht, hh, hs⟩ := pops_trace l (i + 1) pl1 k t' H' hw' hpl hp
          refine ⟨s :: tr, A1, H1, hw1, hk, by simp [hl], by simp [envAt, e1], by simp [heapAt, e2], fun j o' s' hj hs' => ?_⟩
          cases j with
          | zero =>
            simp only [List.getElem?_cons_zero, Option.some.injEq] at hj hs'
            subst hj; subst hs'
            have h1 : envAt (s :: tr) A1 (0 + 1) = t' := by rw [← ht]; simp [envAt]
            have h2 : heapAt (s :: tr) H1 (0 + 1) = H' := by rw [← hh]; simp [heapAt]
            rw [h1, h2]
            exact hst
          | succ j =>
            have := hs j o' s' (by simpa using hj) (by simpa using hs')
            rw [show i + (j + 1) = i + 1 + j by omega]
            simpa [envAt, heapAt] using this
        rcases pg_wanted hg h with ⟨hw, hy⟩ | ⟨hw, hn⟩
        · obtain ⟨c, v, H', h1, h2, h3, h4, h6, h7, hfa, h5⟩ := pr_does2 hwf hy
          exact step ⟨A, H, c, v⟩ _ H' rfl rfl (h2.wf hwf) h5 ⟨hok, hwf, rfl, h2.next, .inl ⟨hw, h1, h2, h3, h4, h6, h7, hfa⟩⟩
        · exact step ⟨A, H, .pure, undef⟩ _ H rfl rfl hwf hn ⟨hok, hwf, rfl, Nat.le_refl _, .inr ⟨hw, rfl, rfl, rfl⟩⟩
      · cases hc
    · cases hc

theorem heaps_same {Hs : Nat → Heap} {a b : Nat} (hab : a ≤ b) (h : ∀ j, a ≤ j → j < b → ∀ id, (Hs (j + 1)).get id = (Hs j).get id) : ∀ id, (Hs b).get id = (Hs a).get id := by
  induction b with
  | zero => rw [Nat.le_zero.1 hab]; exact fun _ => rfl
  | succ b ih =>
    intro id
    rcases Nat.lt_or_ge a (b + 1) with h1 | h1
    · rw [h b (by omega) (by omega)]; exact ih (by omega) (fun j hj hj' => h j hj (by omega)) id
    · rw [show a = b + 1 by omega]

theorem aload_get {t : TypeId} {a : Addr} {H1 H2 : Heap} (h : ∀ id, H1.get id = H2.get id) : aload P t a H1 = aload P t a H2 := by
  unfold aload
  rw [h]

theorem aload_get1 {t : TypeId} {a : Addr} {H1 H2 : Heap} (h : H1.get a.block = H2.get a.block) : aload P t a H1 = aload P t a H2 := by
  unfold aload
  rw [h]

theorem draw_sound {id : Nat} {ops : Array Oper} {pl : List PO} {k : Env → Heap → Prop} {A : Env} {H : Heap} (hwf : H.Wf) (hm : P.follows .mixedOrders = true) (hrare : ∀ o ∈ ops, rareOp P o.op = false) (hd : drawOk ops (sgenAt ops) = true) (hck : drawChk ops (masks ops.toList []) = true)
    (hc : compOps P n ops (flagged ops (masks ops.toList [])) ops.toList 0 = some pl) (h : pops P pl k A H) :
    ∃ A1 H1, H1.Wf ∧ k A1 H1 ∧ AWp P n (.region id ops true) (fun e A' H' => e = .normal ∧ A' = A1 ∧ H' = H1) A H := by
  obtain ⟨tr, A1, H1, hw1, hk, hl, hA, hH, hs⟩ := pops_trace ops.toList 0 pl k A H hwf hc h
  refine ⟨A1, H1, hw1, hk, ?_⟩
  have hlen : tr.length = ops.size := by simpa using hl
  let As : Nat → Env := envAt tr A1
  let Hs : Nat → Heap := heapAt tr H1
  let vs : Nat → Value := fun i => match tr[i]? with | some s => s.v | none => undef
  let cls : Nat → Cls := fun i => match tr[i]? with | some s => s.c | none => .pure
  have hat : ∀ (i : Nat) o, ops[i]? = some o → ∃ s, tr[i]? = some s ∧ StR P n ops (flagged ops (masks ops.toList [])) i o s (As (i + 1)) (Hs (i + 1)) ∧ As i = s.t ∧ Hs i = s.H ∧ vs i = s.v ∧ cls i = s.c := fun i o ho => by
    have hlt : i < tr.length := by rw [hlen]; exact (Array.getElem?_eq_some_iff.1 ho).1
    have hi := List.getElem?_eq_getElem hlt
    refine ⟨tr[i], hi, by have := hs i o tr[i] (by simpa using ho) hi; rwa [Nat.zero_add] at this, ?_, ?_, ?_, ?_⟩ <;> simp only [As, Hs, vs, cls, envAt, heapAt, hi]
  have hops : ∀ i, i < ops.size → ∃ o, ops[i]? = some o := fun i hi => ⟨ops[i], Array.getElem?_eq_getElem hi⟩
  have hgen : ∀ i, i < ops.size → isGen (cls i) = true → sgenAt ops i = true := fun i hi hg => by
    obtain ⟨o, ho⟩ := hops i hi
    obtain ⟨s, hsi, hst, _, _, _, e4⟩ := hat i o ho
    rw [e4] at hg
    simp only [sgenAt, ho]
    rcases hst.run with ⟨_, _, hsyn, _⟩ | ⟨_, hc0, _⟩
    · rcases hsyn.gen hg with h | h
      · exact h
      · have := hrare o (Array.mem_of_getElem? ho); rw [h] at this; cases this
    · rw [hc0] at hg; cases hg
  have hchk : ∀ k', k' < ops.size → sgenAt ops k' = true → flagged ops (masks ops.toList []) k' = true → (callAt ops k' = true ∧ ∀ i, i < ops.size → ldAt ops i = true → ordered (masks ops.toList []) i k' = false → ordered (masks ops.toList []) k' i = false → quiet ops (masks ops.toList []) i k' = true) ∨
      (stAt ops k' = true ∧ ∀ i, i < ops.size → (ldAt ops i = true → ordered (masks ops.toList []) i k' = false → ordered (masks ops.toList []) k' i = false → calm ops (masks ops.toList []) i k' = true) ∧ (allocAt ops i = true → i < k' → ordered (masks ops.toList []) i k' = true)) := fun k' hk' hg hf => by
    have := List.all_eq_true.1 hck k' (List.mem_range.2 hk')
    simp only [hg, hf, Bool.not_true, Bool.false_or, Bool.or_eq_true, Bool.and_eq_true, List.all_eq_true, List.mem_range] at this
    rcases this with this | this
    · refine .inl ⟨this.1, fun i hi h1 h2 h3 => ?_⟩
      have := this.2 i hi
      simpa [h1, h2, h3] using this
    · refine .inr ⟨this.1, fun i hi => ⟨fun h1 h2 h3 => ?_, fun h1 h2 => ?_⟩⟩
      · have := (this.2 i hi).1
        simpa [h1, h2, h3] using this
      · have h3 := (this.2 i hi).2
        have b : Nat.blt i k' = true := by rw [Nat.blt_eq]; exact h2
        simpa [h1, b] using h3
  have hnx : ∀ j, j < ops.size → (Hs j).next ≤ (Hs (j + 1)).next := fun j hj => by
    obtain ⟨o, ho⟩ := hops j hj
    obtain ⟨s, hsi, hst, e1, e2, e3, e4⟩ := hat j o ho
    rw [e2]; exact hst.next
  have hnxs : ∀ d a, a + d ≤ ops.size → (Hs a).next ≤ (Hs (a + d)).next := fun d => by
    induction d with
    | zero => exact fun a _ => Nat.le_refl _
    | succ d ih => exact fun a h => Nat.le_trans (ih a (by omega)) (hnx (a + d) (by omega))
  have hcallsame : ∀ k', k' < ops.size → callAt ops k' = true → flagged ops (masks ops.toList []) k' = true → EqB (Hs k') (Hs (k' + 1)) := fun k' hk' hcf hf => by
    obtain ⟨o, ho⟩ := hops k' hk'
    obtain ⟨s, hsi, hst, e1, e2, e3, e4⟩ := hat k' o ho
    simp only [callAt, ho] at hcf
    rw [e2]
    rcases hst.run with ⟨_, _, _, h3, _⟩ | ⟨_, _, _, h4⟩
    · exact h3 hf hcf
    · rw [h4]; exact fun _ _ => rfl
  have hkeep : ∀ j, j < ops.size → (sgenAt ops j = false ∨ (flagged ops (masks ops.toList []) j = true ∧ callAt ops j = true)) → EqB (Hs j) (Hs (j + 1)) := fun j hj hg => by
    obtain ⟨o, ho⟩ := hops j hj
    obtain ⟨s, hsi, hst, e1, e2, e3, e4⟩ := hat j o ho
    rcases hst.run with ⟨_, hcl, hsyn, _⟩ | ⟨_, _, _, h4⟩
    · cases hsc : s.c with
      | pure => rw [hsc] at hcl; rw [e2, hcl.1]; exact fun _ _ => rfl
      | load => rw [hsc] at hcl; rw [e2, hcl.1]; exact fun _ _ => rfl
      | alloc b =>
        rw [hsc] at hcl
        rw [e2, hcl.1]
        exact fun id hid => by rw [Heap.get_push, if_neg (by omega)]
      | gen =>
        have hsg : sgenAt ops j = true := hgen j hj (by rw [e4, hsc]; rfl)
        rcases hg with hg | hg
        · rw [hg] at hsg; cases hsg
        · exact hcallsame j hj hg.2 hg.1
    · rw [e2, h4]; exact fun _ _ => rfl
  have hkeeps : ∀ d a, a + d ≤ ops.size → (∀ j, a ≤ j → j < a + d → sgenAt ops j = false ∨ (flagged ops (masks ops.toList []) j = true ∧ callAt ops j = true)) → EqB (Hs a) (Hs (a + d)) := fun d => by
    induction d with
    | zero => exact fun a _ _ _ _ => rfl
    | succ d ih =>
      intro a h hj id hid
      have h1 := ih a (by omega) (fun j h1 h2 => hj j h1 (by omega)) id hid
      have h2 := hkeep (a + d) (by omega) (hj (a + d) (by omega) (by omega)) id (Nat.lt_of_lt_of_le hid (hnxs d a (by omega)))
      rw [show a + (d + 1) = a + d + 1 by omega, h2, h1]
  have F : Facts P n ops As Hs vs cls := by
    refine ⟨fun i o ho => ?_, fun i hi => ?_, fun i o ho => ?_, fun i o ho => ?_, drawOk_mono hgen hd⟩
    · obtain ⟨s, hsi, hst, e1, e2, e3, e4⟩ := hat i o ho
      rw [e1, e3, hst.env]
    · obtain ⟨o, ho⟩ := hops i hi
      obtain ⟨s, hsi, hst, e1, e2, e3, e4⟩ := hat i o ho
      rw [e2]; exact hst.next
    · obtain ⟨s, hsi, hst, e1, e2, e3, e4⟩ := hat i o ho
      exact hst.ok
    · obtain ⟨s, hsi, hst, e1, e2, e3, e4⟩ := hat i o ho
      have hi : i < ops.size := (Array.getElem?_eq_some_iff.1 ho).1
      unfold StepOk
      rw [e1, e2, e3, e4]
      rcases hst.run with ⟨hw, hcl, hsyn, hf1, hf2, _, _⟩ | ⟨hw, hc0, hv0, hH0⟩
      · right
        refine ⟨hw, ?_⟩
        cases hsc : s.c with
        | pure => rw [hsc] at hcl; exact hcl
        | gen => rw [hsc] at hcl; exact hcl
        | alloc b =>
          rw [hsc] at hcl
          refine ⟨hcl.1, hcl.2, fun k' hk1 hik hgk ho' => ?_⟩
          have hsg := hgen k' hk1 hgk
          have hal : allocAt ops i = true := by simp only [allocAt, ho]; exact hsyn.alloc b hsc
          have hfl : flagged ops (masks ops.toList []) k' = true := by
            unfold flagged
            simp only [hsg, Bool.true_and, Bool.or_eq_true]
            left
            rw [List.any_eq_true]
            exact ⟨i, List.mem_range.2 hi, by simp [hal, hik, ho']⟩
          rcases hchk k' hk1 hsg hfl with hch | hch
          · rw [hcallsame k' hk1 hch.1 hfl]
            have h9 := hnxs (k' - (i + 1)) (i + 1) (by omega)
            rw [show i + 1 + (k' - (i + 1)) = k' by omega, hcl.1, Heap.next_push] at h9
            omega
          · rw [(hch.2 i hi).2 hal hik] at ho'; cases ho'
        | load =>
          rw [hsc] at hcl
          obtain ⟨h1, tt, x, a, hop, ex, hl'⟩ := hcl
          refine ⟨h1, tt, x, a, hop, ex, hl', fun k' hk1 hgk o1 o2 => ?_⟩
          have hsg := hgen k' hk1 hgk
          have hld : ldAt ops i = true := by simp only [ldAt, ho]; exact hsyn.load hsc
          have hfl : flagged ops (masks ops.toList []) k' = true := by
            unfold flagged
            simp only [hsg, Bool.true_and, Bool.or_eq_true]
            left
            rw [List.any_eq_true]
            exact ⟨i, List.mem_range.2 hi, by simp [hld, o1, o2]⟩
          have hfi : flagged ops (masks ops.toList []) i = true := by
            unfold flagged
            simp only [Bool.or_eq_true]
            right
            simp only [hld, Bool.true_and]
            rw [List.any_eq_true]
            exact ⟨k', List.mem_range.2 hk1, by simp [hsg, o1, o2]⟩
          have hload : o.op = .load tt x := hop
          have hbel : belowV s.H.next 6 s.v = true := hf2 hfi (by unfold isLd; rw [hload])
          rcases hchk k' hk1 hsg hfl with hch | hch
          · have hq := hch.2 i hi hld o1 o2
            have hb0 : a.block < (Hs i).next := by
              rw [e2]
              unfold aload at hl'
              split at hl'
              · rename_i hg; exact hst.wf.lt hg
              · cases hl'
            unfold quiet at hq
            simp only [Bool.or_eq_true, Bool.and_eq_true, List.all_eq_true, List.mem_range] at hq
            have hget : (Hs k').get a.block = (Hs i).get a.block ∧ a.block < (Hs k').next := by
              rcases hq with ⟨hlt, hq⟩ | ⟨⟨⟨hlt, hdir⟩, hsm⟩, hq⟩
              · have hlt : i < k' := by simpa using hlt
                have hgi : sgenAt ops i = false := by
                  simp only [ldAt, ho] at hld
                  simp only [sgenAt, ho]
                  unfold isLd at hld
                  split at hld
                  · rename_i hop'; simp only [sgen, hop']
                  · cases hld
                have h8 := hkeeps (k' - i) i (by omega) (fun j h1 h2 => ?_)
                · rw [show i + (k' - i) = k' by omega] at h8
                  have h9 := hnxs (k' - i) i (by omega)
                  rw [show i + (k' - i) = k' by omega] at h9
                  exact ⟨h8 _ hb0, by omega⟩
                · rcases Nat.lt_or_ge i j with h3 | h3
                  · have h4 := hq j (by omega)
                    have h5 : Nat.ble j i = false := by
                      cases hb : Nat.ble j i with
                      | false => rfl
                      | true => rw [Nat.ble_eq] at hb; omega
                    simpa [h5] using h4
                  · rw [show j = i by omega]; exact .inl hgi
              · have hlt : k' < i := by simpa using hlt
                obtain ⟨bs, hbs⟩ := Option.isSome_iff_exists.1 hsm
                have hall : ∀ j, k' ≤ j → j < i → (sgenAt ops j = false ∨ (flagged ops (masks ops.toList []) j = true ∧ callAt ops j = true)) := fun j h1 h2 => by
                  have h4 := hq j h2
                  have h5 : Nat.blt j k' = false := by
                    cases hb : Nat.blt j k' with
                    | false => rfl
                    | true => rw [Nat.blt_eq] at hb; omega
                  rcases h4 with h4 | h4
                  · rw [h5] at h4; cases h4
                  · simpa using h4
                obtain ⟨ok, hok⟩ := hops k' hk1
                obtain ⟨sk, hsk, hstk, f1, f2, f3, f4⟩ := hat k' ok hok
                have hback : ∀ d cur, k' + d ≤ i → backTo ops k' d cur = some bs → InB (As (k' + d) cur) a.block → InB (As k' bs) a.block := fun d => by
                  induction d with
                  | zero => intro cur _ hb hv; cases hb; exact hv
                  | succ d ih =>
                    intro cur hd hb hv
                    obtain ⟨oj, hoj⟩ := hops (k' + d) (by omega)
                    obtain ⟨sj, hsj, hstj, g1, g2, g3, g4⟩ := hat (k' + d) oj hoj
                    simp only [backTo, hoj] at hb
                    split at hb
                    · rename_i c hc
                      refine ih c (by omega) hb ?_
                      rw [show k' + (d + 1) = k' + d + 1 by omega, hstj.env, ← g1] at hv
                      unfold backS at hc
                      cases hdst : oj.dst with
                      | none =>
                        rw [hdst] at hc hv
                        have hc : some cur = some c := hc
                        cases hc
                        exact hv
                      | some q =>
                        rw [hdst] at hc hv
                        have hv : InB (upd (As (k' + d)) q sj.v cur) a.block := hv
                        by_cases hqc : q = cur
                        · subst hqc
                          rw [upd_same] at hv
                          have hc : leadOf oj = some c := by simpa using hc
                          rcases hstj.run with ⟨_, _, _, _, _, _, _, hfa⟩ | ⟨_, _, _, hu⟩
                          · have := hfa c hc _ hv
                            rw [g1]; exact this
                          · exfalso
                            have hu : sj.v = undef := by first | exact hu.1 | exact hu | (rename_i hu2; exact hu2)
                            rw [hu] at hv
                            rcases hv with ⟨_, e, _⟩ | ⟨_, _, _, e, _⟩ <;> cases e
                        · rw [upd_ne _ _ (fun h => hqc h.symm)] at hv
                          have hc : some cur = some c := by have e : (q == cur) = false := beq_false_of_ne hqc; simpa [e] using hc
                          cases hc
                          exact hv
                    · cases hb
                have hpt : InB (As k' bs) a.block := by
                  unfold ldBase at hbs
                  cases htm : ldTmp ops i with
                  | none => rw [htm] at hbs; cases hbs
                  | some tm =>
                    have hx : x = .tmp tm := by
                      unfold ldTmp at htm
                      rw [ho] at htm
                      simp only [hload] at htm
                      split at htm
                      · rename_i hh; cases hh; cases htm; rfl
                      · cases htm
                    subst hx
                    have ex' : As i tm = .pointer (some a) := by rw [e1]; exact ex
                    rw [htm] at hbs
                    refine hback (i - k') tm (by omega) hbs ?_
                    rw [show k' + (i - k') = i by omega, ex']
                    exact .inl ⟨a, rfl, rfl⟩
                have hbk : a.block < (Hs k').next := by
                  have hlow : ∀ z ∈ laters ops (masks ops.toList []) k', ∃ b : Nat, InB (ev sk.t z) b ∧ b < sk.H.next := by
                    rcases hstk.run with ⟨_, _, _, _, _, _, h9, _⟩ | ⟨_, h9, _⟩
                    · exact h9 hfl (by simpa only [dirAt, hok] using hdir)
                    · rw [f4, h9] at hgk; cases hgk
                  obtain ⟨b, hb1, hb2⟩ := hlow (.tmp bs) (by
                    unfold laters
                    rw [List.mem_filterMap]
                    have b1 : Nat.blt k' i = true := by simpa using hlt
                    exact ⟨i, List.mem_range.2 hi, by simp [b1, hld, unord, o1, o2, hbs]⟩)
                  have hb1 : InB (sk.t bs) b := hb1
                  rw [← f1] at hb1
                  rw [f2, hpt.uniq hb1]; exact hb2
                have h8 := hkeeps (i - k') k' (by omega) (fun j h1 h2 => hall j h1 (by omega))
                rw [show k' + (i - k') = i by omega] at h8
                exact ⟨(h8 _ hbk).symm, hbk⟩
            have hk2 := hcallsame k' hk1 hch.1 hfl a.block hget.2
            exact ⟨by rw [aload_get1 hget.1, e2]; exact hl', by rw [aload_get1 hk2, aload_get1 hget.1, e2]; exact hl', hbel⟩
          · have hcalm := (hch.2 i hi).1 hld o1 o2
            unfold calm at hcalm
            simp only [Bool.and_eq_true, List.all_eq_true, List.mem_range] at hcalm
            obtain ⟨⟨hlt, hsm⟩, hall⟩ := hcalm
            have hlt : i < k' := by simpa using hlt
            obtain ⟨tm, htm⟩ := Option.isSome_iff_exists.1 hsm
            have hx : x = .tmp tm := by
              unfold ldTmp at htm
              rw [ho] at htm
              simp only [hload] at htm
              split at htm
              · rename_i hh; cases hh; cases htm; rfl
              · cases htm
            subst hx
            have hstep : ∀ j, i ≤ j → j < ops.size → As j tm = .pointer (some a) → (sgenAt ops j = false ∨ (callAt ops j = true ∧ flagged ops (masks ops.toList []) j = true) ∨ (i < j ∧ stAt ops j = true ∧ flagged ops (masks ops.toList []) j = true ∧ unord (masks ops.toList []) i j = true)) → a.block < (Hs j).next → (Hs (j + 1)).get a.block = (Hs j).get a.block := fun j hij hj hA hg hbl => by
              obtain ⟨oj, hoj⟩ := hops j hj
              obtain ⟨sj, hsj, hstj, f1, f2, f3, f4⟩ := hat j oj hoj
              rw [f2] at hbl ⊢
              rcases hstj.run with ⟨_, hcl, hsyn, _, _, hsep, _⟩ | ⟨_, _, _, h4⟩
              · cases hsc : sj.c with
                | pure => rw [hsc] at hcl; rw [hcl.1]
                | load => rw [hsc] at hcl; rw [hcl.1]
                | alloc b => rw [hsc] at hcl; rw [hcl.1, Heap.get_push, if_neg (by omega)]
                | gen =>
                  have hsg : sgenAt ops j = true := hgen j hj (by rw [f4, hsc]; rfl)
                  rcases hg with hg | hg | ⟨hij2, hg1, hg2, hg3⟩
                  · rw [hg] at hsg; cases hsg
                  · rw [← f2]; rw [← f2] at hbl; exact hcallsame j hj hg.1 hg.2 _ hbl
                  · simp only [stAt, hoj] at hg1
                    obtain ⟨a', hk1', hk2'⟩ := hsep hg2 hg1
                    have hb2 := hk2' (.tmp tm) (by
                      unfold others
                      rw [List.mem_filterMap]
                      exact ⟨i, List.mem_range.2 hij2, by simp [hld, hg3, htm]⟩) a (by show sj.t tm = _; rw [← f1]; exact hA)
                    exact hk1' _ hb2
              · rw [h4]
            have hb0 : a.block < (Hs i).next := by
              rw [e2]
              unfold aload at hl'
              split at hl'
              · rename_i hg; exact hst.wf.lt hg
              · cases hl'
            have hA0 : As i tm = .pointer (some a) := by rw [e1]; exact ex
            have hall2 : ∀ j, i ≤ j → j < k' → (∀ oj, ops[j]? = some oj → oj.dst ≠ some tm) ∧ (sgenAt ops j = false ∨ (callAt ops j = true ∧ flagged ops (masks ops.toList []) j = true) ∨ (i < j ∧ stAt ops j = true ∧ flagged ops (masks ops.toList []) j = true ∧ unord (masks ops.toList []) i j = true)) := fun j hij hjk => by
              have := hall j hjk
              have b1 : Nat.blt j i = false := by
                cases hb : Nat.blt j i with
                | false => rfl
                | true => rw [Nat.blt_eq] at hb; omega
              simp only [b1, Bool.or_eq_true, Bool.and_eq_true, htm, Bool.not_eq_true', Bool.false_eq_true, false_or] at this
              refine ⟨fun oj hoj hd => ?_, ?_⟩
              · have h9 := this.1
                rw [hoj] at h9
                simp [hd] at h9
              · rcases this.2 with (h | h) | h
                · exact .inl h
                · exact .inr (.inl h)
                · refine .inr (.inr ⟨?_, h.1.1, h.1.2, h.2⟩)
                  rcases Nat.lt_or_ge i j with h' | h'
                  · exact h'
                  · have e : j = i := by omega
                    subst e
                    have h7 := h.1.1
                    unfold stAt isSt at h7
                    rw [ho] at h7
                    simp only [hload] at h7
                    cases h7
            have hrun : ∀ d, i + d ≤ k' → As (i + d) tm = .pointer (some a) ∧ (Hs (i + d)).get a.block = (Hs i).get a.block ∧ a.block < (Hs (i + d)).next := by
              intro d
              induction d with
              | zero => exact fun _ => ⟨hA0, rfl, hb0⟩
              | succ d ih =>
                intro hd
                obtain ⟨i1, i2, i3⟩ := ih (by omega)
                have hj : i + d < ops.size := by omega
                obtain ⟨oj, hoj⟩ := hops (i + d) hj
                obtain ⟨sj, hsj, hstj, f1, f2, f3, f4⟩ := hat (i + d) oj hoj
                obtain ⟨g1, g2⟩ := hall2 (i + d) (by omega) (by omega)
                refine ⟨?_, ?_, ?_⟩
                · rw [show i + (d + 1) = i + d + 1 by omega, hstj.env, ← f1, ← i1]
                  cases hdst : oj.dst with
                  | none => rfl
                  | some q => exact upd_ne _ _ (fun h => g1 oj hoj (by rw [hdst, h]))
                · rw [show i + (d + 1) = i + d + 1 by omega, hstep (i + d) (by omega) hj i1 g2 i3, i2]
                · rw [show i + (d + 1) = i + d + 1 by omega]
                  have := hstj.next
                  rw [← f2] at this
                  omega
            obtain ⟨r1, r2, r3⟩ := hrun (k' - i) (by omega)
            rw [show i + (k' - i) = k' by omega] at r1 r2 r3
            have hlast := hstep k' (by omega) hk1 r1 (.inr (.inr ⟨hlt, hch.1, hfl, by unfold unord; rw [o1, o2]; rfl⟩)) r3
            exact ⟨by rw [aload_get1 r2, e2]; exact hl', by rw [aload_get1 hlast, aload_get1 r2, e2]; exact hl', hbel⟩
      · left
        exact ⟨hw, hv0, hH0, hc0⟩
  have hend : As ops.size = A1 ∧ Hs ops.size = H1 := by
    have : tr[ops.size]? = none := List.getElem?_eq_none (by omega)
    simp only [As, Hs, envAt, heapAt, this, and_self]
  have hAs0 : As 0 = A := hA
  have hHs0 : Hs 0 = H := hH
  have := awp_draw (id := id) (Q := fun e A' H' => e = .normal ∧ A' = A1 ∧ H' = H1) hm F ⟨rfl, hend.1, hend.2⟩
  rwa [hAs0, hHs0] at this

/-- How a run of code may end. -/
def Fp (ks : Kp) (k : Env → Heap → Prop) : Ex → Env → Heap → Prop
  | .normal, A, H => k A H
  | .ret, A, H => ks.ret A H
  | .exit j, A, H => j < J0 ∧ ks.ext j A H
  | .goto l, A, H => ks.ext (J0 + l) A H
  | _, _, _ => False

/-- It ends just so. -/
def Just (ex : Ex) (A1 : Env) (H1 : Heap) : Ex → Env → Heap → Prop := fun e A H => e = ex ∧ A = A1 ∧ H = H1

theorem sq_exec (x y : PC) (ks : Kp) (k : Env → Heap → Prop) (A : Env) (H : Heap) : pexec P (sq x y) ks k A H = pexec P x ks (pexec P y ks k) A H := by
  unfold sq
  split <;> rfl
theorem sq_skip {x y : PC} (h : sq x y = .skip) : x = .skip ∧ y = .skip := by
  unfold sq at h
  split at h
  · exact ⟨rfl, h⟩
  · rename_i hx; exact ⟨h, rfl⟩
  · cases h
theorem skip_noLabel : ∀ (c : Code), comp P n c = some .skip → ∀ l, findLabel c l = none := by
  intro c
  induction c with
  | seq a b iha ihb =>
    intro h l
    simp only [comp] at h
    split at h
    · rename_i x y hx hy
      simp only [Option.some.injEq] at h
      obtain ⟨rfl, rfl⟩ := sq_skip h
      simp only [findLabel, iha hx l, ihb hy l]
    · cases h
  | label l' => intro h; cases h
  | _ => intro _ l; rfl
theorem findL_sq (x y : PC) (l : Nat) (hx : x = .skip → True) : findL (sq x y) l = match findL x l with | some r => some (sq r y) | none => findL y l := by
  unfold sq
  split
  · simp [findL]
  · rename_i hne
    cases hf : findL x l with
    | none => simp [findL]
    | some r =>
      cases r <;> rfl
  · rfl
theorem find_some : ∀ (c : Code) (pc : PC), comp P n c = some pc → ∀ l, (∀ rest, findLabel c l = some rest → ∃ pr, findL pc l = some pr ∧ comp P n rest = some pr) ∧ (findLabel c l = none → findL pc l = none) := by
  intro c
  induction c with
  | seq a b iha ihb =>
    intro pc h l
    simp only [comp] at h
    split at h
    · rename_i x y hx hy
      simp only [Option.some.injEq] at h
      subst h
      obtain ⟨a1, a2⟩ := iha x hx l
      obtain ⟨b1, b2⟩ := ihb y hy l
      rw [findL_sq x y l (fun _ => trivial)]
      cases hf : findLabel a l with
      | some r =>
        obtain ⟨pr, h1, h2⟩ := a1 r hf
        rw [h1]
        refine ⟨fun rest hr => ?_, fun hn => ?_⟩
        · simp only [findLabel, hf, Option.some.injEq] at hr
          subst hr
          exact ⟨_, rfl, by simp only [comp, h2, hy]⟩
        · simp only [findLabel, hf] at hn; cases hn
      | none =>
        rw [a2 hf]
        simp only [findLabel, hf]
        exact ⟨b1, b2⟩
    · cases h
  | label l' =>
    intro pc h l
    simp only [comp, Option.some.injEq] at h
    subst h
    refine ⟨fun rest hr => ?_, fun hn => ?_⟩
    · simp only [findLabel] at hr
      split at hr
      · rename_i he
        have he : l' = l := by simpa using he
        subst he
        cases hr
        exact ⟨.skip, by simp [findL], rfl⟩
      · cases hr
    · simp only [findLabel] at hn
      split at hn
      · cases hn
      · rename_i he
        have he : ¬ l' = l := by simpa using he
        simp [findL, nbeq, he]
  | scope b ih =>
    intro pc h l
    refine ⟨fun rest hr => (by cases hr), fun _ => ?_⟩
    simp only [comp, Option.map_eq_some_iff] at h
    obtain ⟨pb, hb, rfl⟩ := h
    unfold mkScope
    split
    · rename_i hl
      exact nolab pb hl l
    · split
      · rfl
      · rfl
    · rfl
  | region id ops draw =>
    intro pc h l
    refine ⟨fun rest hr => (by cases hr), fun _ => ?_⟩
    cases draw
    · simp only [comp, Option.some.injEq] at h
      subst h
      split <;> rfl
    · simp only [comp, Option.some.injEq] at h
      subst h
      split
      · split <;> rfl
      · rfl
  | cond x a b iha ihb =>
    intro pc h l
    refine ⟨fun rest hr => (by cases hr), fun _ => ?_⟩
    simp only [comp] at h
    split at h
    · split at h
      · cases h; rfl
      · cases h
    · cases h
  | block id b ih =>
    intro pc h l
    refine ⟨fun rest hr => (by cases hr), fun _ => ?_⟩
    simp only [comp, Option.map_eq_some_iff] at h
    obtain ⟨pb, hb, rfl⟩ := h
    cases Nat.blt id J0 <;> rfl
  | loop b ih =>
    intro pc h l
    refine ⟨fun rest hr => (by cases hr), fun _ => ?_⟩
    simp only [comp, Option.map_eq_some_iff] at h
    obtain ⟨pb, hb, rfl⟩ := h
    rfl
  | exit id =>
    intro pc h l
    refine ⟨fun rest hr => (by cases hr), fun _ => ?_⟩
    simp only [comp, Option.some.injEq] at h
    subst h
    cases Nat.blt id J0 <;> rfl
  | _ =>
    intro pc h l
    refine ⟨fun rest hr => (by cases hr), fun _ => ?_⟩
    cases h
    rfl
  where
  nolab : ∀ (pc : PC), labelsOf pc = [] → ∀ l, findL pc l = none
    | .seq a b, h, l => by
      simp only [labelsOf, List.append_eq_nil_iff] at h
      simp only [findL, nolab a h.1 l, nolab b h.2 l]
    | .label l', h, l => by simp [labelsOf] at h
    | .skip, h, l => rfl
    | .ops _, h, l => rfl
    | .cond _ _ _, h, l => rfl
    | .block _ _, h, l => rfl
    | .loop _, h, l => rfl
    | .exit _, h, l => rfl
    | .ret, h, l => rfl
    | .goto _, h, l => rfl
    | .scope _ _ _, h, l => rfl
    | .bad, h, l => rfl
theorem findL_labels : ∀ (pc : PC) (l : Nat) (r : PC), findL pc l = some r → l ∈ labelsOf pc
  | .seq a b, l, r, h => by
    simp only [findL] at h
    simp only [labelsOf, List.mem_append]
    cases hf : findL a l with
    | some q => exact .inl (findL_labels a l q hf)
    | none => rw [hf] at h; exact .inr (findL_labels b l r h)
  | .label l', l, r, h => by
    simp only [findL] at h
    cases hb : Nat.beq l' l with
    | true => simp [labelsOf, Nat.eq_of_beq_eq_true hb]
    | false => rw [hb] at h; cases h
  | .skip, l, r, h => by cases h
  | .ops _, l, r, h => by cases h
  | .cond _ _ _, l, r, h => by cases h
  | .block _ _, l, r, h => by cases h
  | .loop _, l, r, h => by cases h
  | .exit _, l, r, h => by cases h
  | .ret, l, r, h => by cases h
  | .goto _, l, r, h => by cases h
  | .scope _ _ _, l, r, h => by cases h
  | .bad, l, r, h => by cases h

/-- What is said of a code. -/
def Snd (P : Program) (n : Nat) (c : Code) (pc : PC) : Prop := ∀ (ks : Kp) (k : Env → Heap → Prop) (A : Env) (H : Heap), H.Wf → pexec P pc ks k A H → ∃ ex A1 H1, H1.Wf ∧ Fp ks k ex A1 H1 ∧ AWp P n c (Just ex A1 H1) A H
/-- What stands behind a label is as sound. -/
theorem snd_find : ∀ (c : Code), (∀ pc, comp P n c = some pc → Snd P n c pc) → ∀ (pc : PC), comp P n c = some pc → ∀ (l : Nat) (rest : Code), findLabel c l = some rest → ∃ pr, comp P n rest = some pr ∧ findL pc l = some pr :=
  fun c _ pc h l rest hr => by
    obtain ⟨pr, h1, h2⟩ := (find_some c pc h l).1 rest hr
    exact ⟨pr, h2, h1⟩

theorem seq_snd {a b : Code} {x y : PC} (ha : Snd P n a x) (hb : Snd P n b y) : Snd P n (.seq a b) (sq x y) := by
  intro ks k A H hwf h
  rw [sq_exec] at h
  obtain ⟨ex, A1, H1, hw1, hf, ha⟩ := ha ks _ A H hwf h
  cases ex with
  | normal =>
    obtain ⟨ex2, A2, H2, hw2, hf2, ha2⟩ := hb ks k A1 H1 hw1 hf
    refine ⟨ex2, A2, H2, hw2, hf2, awp_seq (ha.mono ?_)⟩
    rintro e A' H' ⟨rfl, rfl, rfl⟩
    exact ha2
  | ret => exact ⟨.ret, A1, H1, hw1, hf, awp_seq (ha.mono (by rintro e A' H' ⟨rfl, rfl, rfl⟩; exact ⟨rfl, rfl, rfl⟩))⟩
  | exit j => exact ⟨.exit j, A1, H1, hw1, hf, awp_seq (ha.mono (by rintro e A' H' ⟨rfl, rfl, rfl⟩; exact ⟨rfl, rfl, rfl⟩))⟩
  | goto j => exact ⟨.goto j, A1, H1, hw1, hf, awp_seq (ha.mono (by rintro e A' H' ⟨rfl, rfl, rfl⟩; exact ⟨rfl, rfl, rfl⟩))⟩
  | panic v => exact hf.elim

/-- Sound, and so is what stands behind its labels. -/
def SndL (P : Program) (n : Nat) (c : Code) (pc : PC) : Prop := Snd P n c pc ∧ ∀ l rest, findLabel c l = some rest → ∃ pr, findL pc l = some pr ∧ comp P n rest = some pr ∧ Snd P n rest pr

theorem pexec_soundL : ∀ (c : Code) (pc : PC), comp P n c = some pc → SndL P n c pc := by
  intro c
  induction c with
  | skip => intro pc hc; cases hc; exact ⟨fun ks k A H hwf h => ⟨.normal, A, H, hwf, h, awp_skip ⟨rfl, rfl, rfl⟩⟩, fun l rest h => by cases h⟩
  | label l =>
    intro pc hc
    cases hc
    refine ⟨fun ks k A H hwf h => ⟨.normal, A, H, hwf, h, awp_label ⟨rfl, rfl, rfl⟩⟩, fun l' rest h => ?_⟩
    obtain ⟨pr, h1, h2⟩ := (find_some (P := P) (n := n) (.label l) (.label l) rfl l').1 rest h
    refine ⟨pr, h1, h2, ?_⟩
    simp only [findLabel] at h
    split at h
    · cases h
      cases h2
      exact fun ks k A H hwf h => ⟨.normal, A, H, hwf, h, awp_skip ⟨rfl, rfl, rfl⟩⟩
    · cases h
  | ret => intro pc hc; cases hc; exact ⟨fun ks k A H hwf h => ⟨.ret, A, H, hwf, h, awp_ret ⟨rfl, rfl, rfl⟩⟩, fun l rest h => by cases h⟩
  | exit id =>
    intro pc hc
    simp only [comp, Option.some.injEq] at hc
    subst hc
    refine ⟨fun ks k A H hwf h => ?_, fun l rest h => by cases h⟩
    cases hb : Nat.blt id J0 with
    | true =>
      rw [hb] at h
      exact ⟨.exit id, A, H, hwf, ⟨by simpa using hb, h⟩, awp_exit ⟨rfl, rfl, rfl⟩⟩
    | false => rw [hb] at h; exact h.elim
  | goto l => intro pc hc; cases hc; exact ⟨fun ks k A H hwf h => ⟨.goto l, A, H, hwf, h, awp_goto ⟨rfl, rfl, rfl⟩⟩, fun l rest h => by cases h⟩
  | refuse s => intro pc hc; cases hc; exact ⟨fun ks k A H hwf h => h.elim, fun l rest h => by cases h⟩
  | rangeFunc f p a b iha ihb => intro pc hc; cases hc; exact ⟨fun ks k A H hwf h => h.elim, fun l rest h => by cases h⟩
  | region id ops draw =>
    intro pc hc
    refine ⟨fun ks k A H hwf h => ?_, fun l rest h => by cases h⟩
    cases draw with
    | false =>
      simp only [comp, Option.some.injEq] at hc
      subst hc
      split at h
      · rename_i pl hpl
        obtain ⟨A1, H1, hw1, hk, ha⟩ := pops_sound ops.toList 0 pl k A H hwf hpl h
        exact ⟨.normal, A1, H1, hw1, hk, (by
          have hw : AWp P n (.region id ops.toList.toArray false) (Just .normal A1 H1) A H := awp_region (l := ops.toList) (by
            have ha : AOps P n ops ops.toList (Just .normal A1 H1) A H := ha
            simpa using ha)
          simpa using hw)⟩
      · exact h.elim
    | true =>
      simp only [comp, Option.some.injEq] at hc
      subst hc
      split at h
      · rename_i hcond
        simp only [Bool.and_eq_true] at hcond
        split at h
        · rename_i pl hpl
          obtain ⟨A1, H1, hw1, hk, ha⟩ := draw_sound (id := id) hwf hcond.1.1.1 (fun o ho => by simpa using Array.all_eq_true_iff_forall_mem.1 hcond.2 o ho) hcond.1.1.2 hcond.1.2 hpl h
          exact ⟨.normal, A1, H1, hw1, hk, ha⟩
        · exact h.elim
      · exact h.elim
  | seq a b iha ihb =>
    intro pc hc
    have hc0 := hc
    simp only [comp] at hc
    split at hc
    · rename_i x y hx hy
      simp only [Option.some.injEq] at hc
      subst hc
      obtain ⟨a1, a2⟩ := iha x hx
      obtain ⟨b1, b2⟩ := ihb y hy
      refine ⟨seq_snd a1 b1, fun l rest h => ?_⟩
      obtain ⟨pr, h1, h2⟩ := (find_some _ _ hc0 l).1 rest h
      refine ⟨pr, h1, h2, ?_⟩
      cases hf : findLabel a l with
      | some r =>
        simp only [findLabel, hf, Option.some.injEq] at h
        subst h
        obtain ⟨p1, q1, q2, q3⟩ := a2 l r hf
        simp only [comp, q2, hy, Option.some.injEq] at h2
        subst h2
        exact seq_snd q3 b1
      | none =>
        simp only [findLabel, hf] at h
        obtain ⟨p1, q1, q2, q3⟩ := b2 l rest h
        rw [h2] at q2
        cases q2
        exact q3
    · cases hc
  | cond x a b iha ihb =>
    intro pc hc
    refine ⟨fun ks k A H hwf h => ?_, fun l rest h => by cases h⟩
    simp only [comp] at hc
    split at hc
    · rename_i hok
      split at hc
      · rename_i pa pb ha hb
        cases hc
        simp only [pexec] at h
        split at h
        · rename_i t ht
          cases t with
          | true =>
            obtain ⟨ex, A1, H1, hw1, hf, hw⟩ := (iha pa ha).1 ks k A H hwf (h.1 rfl)
            exact ⟨ex, A1, H1, hw1, hf, awp_cond (t := true) hok ht hw⟩
          | false =>
            obtain ⟨ex, A1, H1, hw1, hf, hw⟩ := (ihb pb hb).1 ks k A H hwf (h.2 rfl)
            exact ⟨ex, A1, H1, hw1, hf, awp_cond (t := false) hok ht hw⟩
        · exact h.elim
      · cases hc
    · cases hc
  | block id b ih =>
    intro pc hc
    refine ⟨fun ks k A H hwf h => ?_, fun l rest h => by cases h⟩
    simp only [comp, Option.map_eq_some_iff] at hc
    obtain ⟨pb, hb, rfl⟩ := hc
    cases hlt : Nat.blt id J0 with
    | false => rw [hlt] at h; exact h.elim
    | true =>
      rw [hlt] at h
      have hlt : id < J0 := by simpa using hlt
      obtain ⟨ex, A1, H1, hw1, hf, hw⟩ := (ih pb hb).1 _ k A H hwf h
      cases ex with
      | normal => exact ⟨.normal, A1, H1, hw1, hf, awp_block (hw.mono (by rintro e A' H' ⟨rfl, rfl, rfl⟩; exact ⟨rfl, rfl, rfl⟩))⟩
      | ret => exact ⟨.ret, A1, H1, hw1, hf, awp_block (hw.mono (by rintro e A' H' ⟨rfl, rfl, rfl⟩; exact ⟨rfl, rfl, rfl⟩))⟩
      | exit j =>
        simp only [Fp] at hf
        by_cases hj : j = id
        · rw [if_pos hj] at hf
          exact ⟨.normal, A1, H1, hw1, hf.2, awp_block (hw.mono (by rintro e A' H' ⟨rfl, rfl, rfl⟩; simp only [InBlock, if_pos hj]; exact ⟨rfl, rfl, rfl⟩))⟩
        · rw [if_neg hj] at hf
          exact ⟨.exit j, A1, H1, hw1, hf, awp_block (hw.mono (by rintro e A' H' ⟨rfl, rfl, rfl⟩; simp only [InBlock, if_neg hj]; exact ⟨rfl, rfl, rfl⟩))⟩
      | goto j =>
        simp only [Fp] at hf
        rw [if_neg (by omega)] at hf
        exact ⟨.goto j, A1, H1, hw1, hf, awp_block (hw.mono (by rintro e A' H' ⟨rfl, rfl, rfl⟩; exact ⟨rfl, rfl, rfl⟩))⟩
      | panic v => exact hf.elim
  | loop b ih =>
    intro pc hc
    refine ⟨fun ks k A H hwf h => ?_, fun l rest h => by cases h⟩
    simp only [comp, Option.map_eq_some_iff] at hc
    obtain ⟨pb, hb, rfl⟩ := hc
    obtain ⟨I, ⟨m, hm⟩, hround⟩ := h
    have key : ∀ m A H, H.Wf → I m A H → ∃ ex A1 H1, H1.Wf ∧ Fp ks k ex A1 H1 ∧ LoopWp P n b (Just ex A1 H1) A H := by
      intro m
      induction m using Nat.strongRecOn with
      | _ m ihm =>
        intro A H hwf hI
        obtain ⟨ex, A1, H1, hw1, hf, hw⟩ := (ih pb hb).1 ks _ A H hwf (hround m A H hI)
        cases ex with
        | normal =>
          obtain ⟨m', hlt, hI'⟩ := hf
          obtain ⟨ex2, A2, H2, hw2, hf2, hl2⟩ := ihm m' hlt A1 H1 hw1 hI'
          exact ⟨ex2, A2, H2, hw2, hf2, loop_step (hw.mono (by rintro e A' H' ⟨rfl, rfl, rfl⟩; exact hl2))⟩
        | ret => exact ⟨.ret, A1, H1, hw1, hf, loop_step (hw.mono (by rintro e A' H' ⟨rfl, rfl, rfl⟩; exact ⟨rfl, rfl, rfl⟩))⟩
        | exit j => exact ⟨.exit j, A1, H1, hw1, hf, loop_step (hw.mono (by rintro e A' H' ⟨rfl, rfl, rfl⟩; exact ⟨rfl, rfl, rfl⟩))⟩
        | goto j => exact ⟨.goto j, A1, H1, hw1, hf, loop_step (hw.mono (by rintro e A' H' ⟨rfl, rfl, rfl⟩; exact ⟨rfl, rfl, rfl⟩))⟩
        | panic v => exact hf.elim
    obtain ⟨ex, A1, H1, hw1, hf, hw⟩ := key m A H hwf hm
    exact ⟨ex, A1, H1, hw1, hf, awp_of_loop hw⟩
  | scope b ih =>
    intro pc hc
    refine ⟨fun ks k A H hwf h => ?_, fun l rest h => by cases h⟩
    simp only [comp, Option.map_eq_some_iff] at hc
    obtain ⟨pb, hb, rfl⟩ := hc
    have hsnd := ih pb hb
    have plain : (∀ l, findLabel b l = none) → pexec P pb ks k A H → ∃ ex A1 H1, H1.Wf ∧ Fp ks k ex A1 H1 ∧ AWp P n (.scope b) (Just ex A1 H1) A H := fun hno h => by
      obtain ⟨ex, A1, H1, hw1, hf, hw⟩ := hsnd.1 ks k A H hwf h
      refine ⟨ex, A1, H1, hw1, hf, awp_of_scope (scope_step (hw.mono ?_))⟩
      rintro e A' H' ⟨rfl, rfl, rfl⟩
      cases e with
      | goto j => simp only [Jump, hno j]; exact ⟨rfl, rfl, rfl⟩
      | _ => exact ⟨rfl, rfl, rfl⟩
    unfold mkScope at h
    split at h
    · rename_i hl
      refine plain (fun l => ?_) h
      cases hf : findLabel b l with
      | none => rfl
      | some r =>
        obtain ⟨pr, h1, _⟩ := hsnd.2 l r hf
        have := findL_labels _ _ _ h1
        rw [hl] at this
        cases this
    · rename_i l hl
      split at h
      · rename_i r hr
        obtain ⟨I, ⟨m, hm⟩, hround⟩ := h
        obtain ⟨rest, hrest⟩ : ∃ rest, findLabel b l = some rest := by
          cases hf : findLabel b l with
          | none => rw [(find_some b pb hb l).2 hf] at hr; cases hr
          | some rest => exact ⟨rest, rfl⟩
        obtain ⟨pr, q1, q2, q3⟩ := hsnd.2 l rest hrest
        rw [hr] at q1
        cases q1
        have hother : ∀ j, j ≠ l → findLabel b j = none := fun j hj => by
          cases hf : findLabel b j with
          | none => rfl
          | some r2 =>
            obtain ⟨pr2, h1, _⟩ := hsnd.2 j r2 hf
            have := findL_labels _ _ _ h1
            rw [hl, List.mem_singleton] at this
            exact absurd this hj
        have key : ∀ m (c : Code) (pcc : PC), Snd P n c pcc → ∀ A H, H.Wf → pexec P pcc ⟨ks.ret, jmK l I m ks.ext⟩ k A H → ∃ ex A1 H1, H1.Wf ∧ Fp ks k ex A1 H1 ∧ ScopeWp P n b c (Just ex A1 H1) A H := by
          intro m
          induction m using Nat.strongRecOn with
          | _ m ihm =>
            intro c pcc hsc A H hwf hx
            obtain ⟨ex, A1, H1, hw1, hf, hw⟩ := hsc _ k A H hwf hx
            cases ex with
            | normal => exact ⟨.normal, A1, H1, hw1, hf, scope_step (hw.mono (by rintro e A' H' ⟨rfl, rfl, rfl⟩; exact ⟨rfl, rfl, rfl⟩))⟩
            | ret => exact ⟨.ret, A1, H1, hw1, hf, scope_step (hw.mono (by rintro e A' H' ⟨rfl, rfl, rfl⟩; exact ⟨rfl, rfl, rfl⟩))⟩
            | exit j =>
              simp only [Fp, jmK] at hf
              rw [if_neg (by omega)] at hf
              exact ⟨.exit j, A1, H1, hw1, hf, scope_step (hw.mono (by rintro e A' H' ⟨rfl, rfl, rfl⟩; exact ⟨rfl, rfl, rfl⟩))⟩
            | goto j =>
              simp only [Fp, jmK] at hf
              by_cases hj : j = l
              · subst hj
                rw [if_pos rfl] at hf
                obtain ⟨m', hlt, hI⟩ := hf
                obtain ⟨ex2, A2, H2, hw2, hf2, hs2⟩ := ihm m' hlt rest r q3 A1 H1 hw1 (hround m' A1 H1 hI)
                refine ⟨ex2, A2, H2, hw2, hf2, scope_step (hw.mono ?_)⟩
                rintro e A' H' ⟨rfl, rfl, rfl⟩
                simp only [Jump, hrest]
                exact hs2
              · rw [if_neg (by omega)] at hf
                refine ⟨.goto j, A1, H1, hw1, hf, scope_step (hw.mono ?_)⟩
                rintro e A' H' ⟨rfl, rfl, rfl⟩
                simp only [Jump, hother j hj]
                exact ⟨rfl, rfl, rfl⟩
            | panic v => exact hf.elim
        obtain ⟨ex, A1, H1, hw1, hf, hw⟩ := key m b pb hsnd.1 A H hwf hm
        exact ⟨ex, A1, H1, hw1, hf, awp_of_scope hw⟩
      · exact h.elim
    · exact h.elim

theorem pexec_sound (c : Code) (pc : PC) (ks : Kp) (k : Env → Heap → Prop) (A : Env) (H : Heap) (hwf : H.Wf) (hc : comp P n c = some pc) (h : pexec P pc ks k A H) :
    ∃ ex A1 H1, H1.Wf ∧ Fp ks k ex A1 H1 ∧ AWp P n c (Just ex A1 H1) A H := (pexec_soundL c pc hc).1 ks k A H hwf h

/-- What a body must reach. -/
def RetK (P : Program) (fn : Func) (k : Value → Heap → Prop) : Env → Heap → Prop := fun A H => ∃ v, ares P fn.ntmps fn.results A H = some v ∧ ∃ H2, Less H2 H ∧ (H.Wf → H2.Wf) ∧ k v H2

/-- A contract out of a body's run. -/
theorem callQ_of_pexec {f : FuncId} {fn : Func} {pc : PC} {args : List Value} {H : Heap} {k : Value → Heap → Prop} (hf : P.funcs[f]? = some fn) (hcb : fn.body.bind (comp P fn.ntmps) = some pc) (he : entered P f = true) (hl : args.length ≤ fn.ntmps)
    (h : H.Wf → pexec P pc ⟨RetK P fn fun v H' => H.next ≤ H'.next ∧ k v H', fun _ _ _ => False⟩ (RetK P fn fun v H' => H.next ≤ H'.next ∧ k v H') (envOf args) H) : CallQ P f args H k := by
  obtain ⟨c, hb, hc⟩ := Option.bind_eq_some_iff.1 hcb
  intro hwf
  obtain ⟨ex, A1, H1, hw1, hfp, hw⟩ := pexec_sound c pc _ _ (envOf args) H hwf hc (h hwf)
  have en : args.length + (fn.ntmps - args.length) = fn.ntmps := by omega
  have main : RetK P fn (fun v H' => H.next ≤ H'.next ∧ k v H') A1 H1 → (ex = .normal ∨ ex = .ret) → ∃ v H', Callable P f args H v H' ∧ H.next ≤ H'.next ∧ H'.Wf ∧ k v H' := fun ⟨v, hv, H2, hle, hw2, hn, hk⟩ hex => by
    refine ⟨v, H2, .inl ⟨he, does_of_wp hf hb ?_⟩, hn, hw2 hw1, hk⟩
    rw [en]
    refine hw.mono ?_
    rintro e A' H' ⟨rfl, rfl, rfl⟩
    rcases hex with rfl | rfl
    · exact ⟨v, rfl, hv, hle⟩
    · exact ⟨v, rfl, hv, hle⟩
  cases ex with
  | normal => exact main hfp (.inl rfl)
  | ret => exact main hfp (.inr rfl)
  | exit j => exact hfp.2.elim
  | goto j => exact hfp.elim
  | panic v => exact hfp.elim

theorem CallQ.mono {f : FuncId} {args : List Value} {H : Heap} {k k' : Value → Heap → Prop} (h : CallQ P f args H k) (hk : ∀ v H', k v H' → k' v H') : CallQ P f args H k' := by
  intro hw
  obtain ⟨v, H', h1, h2, h3, h4⟩ := h hw
  exact ⟨v, H', h1, h2, h3, hk v H' h4⟩

theorem CallQ.then {f : FuncId} {args : List Value} {H : Heap} {k k' : Value → Heap → Prop} (h : CallQ P f args H k) (hk : ∀ v H', H.next ≤ H'.next → k v H' → k' v H') : CallQ P f args H k' := by
  intro hw
  obtain ⟨v, H', h1, h2, h3, h4⟩ := h hw
  exact ⟨v, H', h1, h2, h3, hk v H' h2 h4⟩

/-- What a closed run gives. -/
theorem callQ_of_does {f : FuncId} {args : List Value} {H : Heap} {v : Value} (he : entered P f = true) (h : Does P f args H (.ret v) H) : CallQ P f args H fun u H' => u = v ∧ H' = H :=
  fun hw => ⟨v, H, .inl ⟨he, h⟩, Nat.le_refl _, hw, rfl, rfl⟩

/-- Ways that meet again. -/
theorem pexec_cut {a b : PC} {ks : Kp} {k : Env → Heap → Prop} {A : Env} {H : Heap} (R : Env → Heap → Prop) (ha : pexec P a ks R A H) (mono : ∀ (q q' : Env → Heap → Prop), (∀ A H, q A H → q' A H) → pexec P a ks q A H → pexec P a ks q' A H) (hb : ∀ A' H', R A' H' → pexec P b ks k A' H') : pexec P (.seq a b) ks k A H :=
  mono R _ hb ha
end
end Go.Ab
