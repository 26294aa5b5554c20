/- Operations whose types are resolved; code made of them; what is resolved acts as what it came from. -/
import Derived.Test.YtfdeejmibgpbhaaDoorAbExec
set_option linter.unusedVariables false
namespace Go.Ab

/-- Scalars. -/
inductive Sk where
  | i | b | s

/-- An operation, resolved. -/
inductive R where
  | mv (x : Operand)
  | pick (c x y : Operand)
  | bin (op : BinOp) (x y : Operand)
  | beq (ne : Bool) (x y : Operand)
  | eqs (ne : Bool) (ks : List Sk) (x y : Operand)
  | not (x : Operand)
  | toInt (k : IntKind) (x : Operand)
  | mkIf (t : TypeId) (x : Operand)
  | fld (agg : Bool) (off size : Nat) (x : Operand)
  | fldA (off : Nat) (x : Operand)
  | idxS (size : Nat) (x ix : Operand)
  | chr (x ix : Operand)
  | ext (x : Operand) (i : Nat)
  | asrt (t : TypeId) (z : Value) (ok : Bool) (x : Operand)
  | build (z : List Value) (parts : List (Nat × Nat × Operand))
  | bslice (e size len : Nat) (z : List Value) (parts : List (Nat × Operand))
  | alloc (e : TypeId) (z : List Value)
  | box (e : TypeId) (x : Operand)
  | mkSl (e size bytes : Nat) (z : List Value) (x y : Operand)
  | slS (size : Nat) (x : Operand) (lo hi : Option Operand)
  | ld (agg : Bool) (size : Nat) (x : Operand)
  | st (size : Nat) (x y : Operand)
  | stf (size : Nat) (x y : Operand) (os : List Operand)
  | lenS (x : Operand)
  | lenT (x : Operand)
  | app (e size bytes : Nat) (x y : Operand)
  | gen (o : Op)
  | call (f : FuncId) (args : List Operand)
  | callv (c : Operand) (args : List Operand)

noncomputable def noCall : CallF := fun _ _ _ => none

/-- Parts of an aggregate, laid over its zero. -/
noncomputable def rfill (f : Operand → Value) : List Value → List (Nat × Nat × Operand) → Option (List Value)
  | cells, [] => some cells
  | cells, (off, size, x) :: rest => if (f x).cells.toList.length = size ∧ off + size ≤ cells.length then rfill f (splice cells off (f x).cells.toList) rest else none

/-- The type's data that appending asks. -/
noncomputable def rappend (e size bytes : Nat) (s x : Value) (H : Heap) : Option (Value × Heap) :=
  match asrc size x H with
  | none => none
  | some (m, news) =>
    if news.all (·.oneCell') = true then
      match s with
      | .slice none 0 0 =>
        if m = 0 then some (.slice none 0 0, H) else
        if m ≤ 9223372036854775807 ∧ m * bytes ≤ 140737488355328 then some (.slice (some ⟨H.next, 0, none⟩) m (UNK + size), H.push (.cells news e false)) else none
      | .slice (some a) len cap =>
        if m = 0 then (if UNK ≤ cap ∨ len ≤ cap then some (.slice (some a) len cap, H) else none) else
        match H.get a.block with
        | some (.cells c e' ro) =>
          if a.off + len * size ≤ c.length ∧ len + m ≤ 9223372036854775807 ∧ (len + m) * bytes ≤ 140737488355328 then
            if UNK ≤ cap then
              if ro = false ∧ e' = e ∧ a.off + len * size = c.length then some (.slice (some ⟨H.next, 0, none⟩) (len + m) (UNK + size), (H.kill a.block).push (.cells (c.drop a.off ++ news) e false)) else none
            else if len + m ≤ cap then
              (if ro = false ∧ a.off + (len + m) * size ≤ c.length then some (.slice (some a) (len + m) cap, H.set a.block (.cells (splice c (a.off + len * size) news) e' false)) else none)
            else some (.slice (some ⟨H.next, 0, none⟩) (len + m) (UNK + size), H.push (.cells ((c.drop a.off).take (len * size) ++ news) e false))
          else none
        | _ => none
      | _ => none
    else none

theorem rappend_eq (e : TypeId) (inf : TypeInfo) (s x : Value) (H : Heap) : aappend e inf s x H = rappend e inf.size inf.bytes s x H := rfl

noncomputable def eqSk : Sk → Value → Value → Option Bool
  | .i, .int k a, .int k' b => if k = k' then some (a == b) else none
  | .b, .bool a, .bool b => some (a == b)
  | .s, .string a, .string b => some (bl a == bl b)
  | _, _, _ => none

/-- Cells of scalars, one by one. -/
noncomputable def eqCells : List Sk → Array Value → Array Value → Nat → Option Bool
  | [], _, _, _ => some true
  | k :: ks, xs, ys, i => match xs[i]?, ys[i]? with
    | some a, some b => match eqSk k a b with
      | some true => eqCells ks xs ys (i + 1)
      | r => r
    | _, _ => none

noncomputable def rbin (op : BinOp) (x y : Value) : Option Value :=
  match x, y with
  | .int ik a, .int ik' b => match op with
    | .shl | .shr => shiftBin op ik a b
    | _ => if ik = ik' then intBin op ik a b else none
  | .string a, .string b => strBin op (bl a) (bl b)
  | _, _ => none

noncomputable def optV (H : Heap) : Option Value → Option (Value × Heap)
  | some v => some (v, H)
  | none => none

noncomputable def bndOf (f : Operand → Value) : Option Operand → Option (Option Int)
  | none => some none
  | some x => match f x with | .int _ m => some (some m) | _ => none

/-- What a resolved operation gives; calls apart. -/
noncomputable def rop (P : Program) (r : R) (A : Env) (H : Heap) : Option (Value × Heap) :=
  match r with
  | .mv x => some (ev A x, H)
  | .pick c x y => match ev A c with | .bool t => some (bif t then ev A x else ev A y, H) | _ => none
  | .bin op x y => optV H (rbin op (ev A x) (ev A y))
  | .beq ne x y => match ev A x, ev A y with
    | .bool a, .bool b => some (.bool (bif ne then !(a == b) else a == b), H)
    | _, _ => none
  | .eqs ne m x y => match ev A x, ev A y with
    | .agg xs, .agg ys => match eqCells m xs ys 0 with | some b => some (.bool (bif ne then !b else b), H) | none => none
    | _, _ => none
  | .not x => match ev A x with | .bool b => some (.bool !b, H) | _ => none
  | .toInt k x => match ev A x with | .int _ m => some (.int k (k.wrap m), H) | _ => none
  | .mkIf t x => some (.iface t (ev A x), H)
  | .fld agg off size x => match ev A x with
    | .agg cs => optV H (bif agg then some (.agg (cs.extract off (off + size))) else cs[off]?)
    | _ => none
  | .fldA off x => match ev A x with | .pointer (some a) => some (.pointer (some ⟨a.block, a.off + off, none⟩), H) | _ => none
  | .idxS size x ix => match ev A ix, ev A x with
    | .int _ m, .slice (some a) len _ => if 0 ≤ m ∧ m < len then some (.pointer (some ⟨a.block, a.off + m.toNat * size, none⟩), H) else none
    | _, _ => none
  | .chr x ix => match ev A ix, ev A x with
    | .int _ m, .string s => if 0 ≤ m then (match (bl s)[m.toNat]? with | some b => some (.int .u8 b.toNat, H) | none => none) else none
    | _, _ => none
  | .ext x i => match ev A x with | .tuple vs => optV H vs[i]? | _ => none
  | .asrt t z ok x => match ev A x with
    | .nilIface => bif ok then some (.tuple #[z, .bool false], H) else none
    | .iface u v => if u = t then some (bif ok then .tuple #[v, .bool true] else v, H) else (bif ok then some (.tuple #[z, .bool false], H) else none)
    | _ => none
  | .build z parts => match rfill (ev A) z parts with | some r => some (.agg r.toArray, H) | none => none
  | .bslice e size len z parts => match afill (fun i => some (i * size, size)) z (parts.map fun p => (p.1, ev A p.2)) with
    | some r => some (.slice (some ⟨H.next, 0, none⟩) len len, H.push (.cells r e false))
    | none => none
  | .alloc e z => some (.pointer (some ⟨H.next, 0, none⟩), H.push (.cells z e false))
  | .box e x => some (.pointer (some ⟨H.next, 0, none⟩), H.push (.cells (ev A x).cells.toList e false))
  | .mkSl e size bytes z x y => match ev A x, ev A y with
    | .int .i64 l, .int .i64 c => if 0 ≤ l ∧ l ≤ c ∧ (bytes : Int) * c ≤ 281474976710656 ∧ c ≤ 9223372036854775807 then
        some (.slice (some ⟨H.next, 0, none⟩) l.toNat c.toNat, H.push (.cells (zeros z.toArray (c.toNat * size)) e false)) else none
    | _, _ => none
  | .slS size x lo hi => match bndOf (ev A) lo, bndOf (ev A) hi with
    | some l, some h => optV H (asliceS size (ev A x) l h none)
    | _, _ => none
  | .ld agg size x => match ev A x with
    | .pointer (some a) => match H.get a.block with
      | some (.cells c _ _) => bif agg then (if a.off + size ≤ c.length then some (.agg ((c.drop a.off).take size).toArray, H) else none) else optV H c[a.off]?
      | _ => none
    | _ => none
  | .st size x y => match ev A x with
    | .pointer (some a) => match H.get a.block with
      | some (.cells c e false) => if (ev A y).cells.toList.length = size ∧ a.off + (ev A y).cells.toList.length ≤ c.length ∧ (ev A y).cells.toList.all (·.oneCell') = true then some (undef, H.set a.block (.cells (splice c a.off (ev A y).cells.toList) e false)) else none
      | _ => none
    | _ => none
  | .stf size x y _ => match ev A x with
    | .pointer (some a) => match H.get a.block with
      | some (.cells c e false) => if (ev A y).cells.toList.length = size ∧ a.off + (ev A y).cells.toList.length ≤ c.length ∧ (ev A y).cells.toList.all (·.oneCell') = true then some (undef, H.set a.block (.cells (splice c a.off (ev A y).cells.toList) e false)) else none
      | _ => none
    | _ => none
  | .lenS x => match ev A x with | .slice _ m _ => some (.int .i64 (m : Int), H) | _ => none
  | .lenT x => match ev A x with | .string s => some (.int .i64 ((bl s).length : Int), H) | _ => none
  | .app e size bytes x y => rappend e size bytes (ev A x) (ev A y) H
  | .gen o => match aop P noCall ⟨none, o, 0, "", #[], none⟩ A H with | some (_, v, H') => some (v, H') | none => none
  | .call _ _ => none
  | .callv _ _ => none

/-! ### Resolving -/

/-- Fields that are scalars of one cell, one behind the other. -/
noncomputable def scalars (P : Program) : List Field → Nat → Option (List Sk)
  | [], _ => some []
  | fd :: fs, i =>
    if fd.name = "_" ∨ fd.offset ≠ i then none else
    match P.info? fd.type, scalars P fs (i + 1) with
    | some _, some ks => match P.underlying fd.type with
      | some (.int _) => some (.i :: ks)
      | some .bool => some (.b :: ks)
      | some .string => some (.s :: ks)
      | _ => none
    | _, _ => none

noncomputable def cPlaces (pl : Array (Nat × Nat)) : List (Nat × Operand) → Option (List (Nat × Nat × Operand))
  | [] => some []
  | (i, x) :: rest => match pl[i]?, cPlaces pl rest with
    | some (off, size), some l => some ((off, size, x) :: l)
    | _, _ => none

noncomputable def resolve1 (P : Program) (op : Op) : R :=
  match op with
  | .move x => .mv x
  | .assign x => .mv x
  | .pick c x y => .pick c x y
  | .binOp b t x y _ =>
    match P.underlying t with
    | some (.int _) | some .string => .bin b x y
    | some .bool => match b with | .eql => .beq false x y | .neq => .beq true x y | _ => .gen op
    | some (.struct fs) => if P.stoodInHeld t || P.eqGuardType P.depth t then .gen op else match scalars P fs.toList 0 with
      | some ks => (match b with | .eql => .eqs false ks x y | .neq => .eqs true ks x y | _ => .gen op)
      | none => .gen op
    | _ => .gen op
  | .unOp .not _ x => .not x
  | .convert src dst x => match P.underlying src, P.underlying dst with
    | some (.int _), some (.int k) => .toInt k x
    | _, _ => .gen op
  | .makeInterface t x => match P.underlying t with
    | some (.interface _) => .gen op
    | some _ => .mkIf t x
    | none => .gen op
  | .field t x f => match P.underlying t with
    | some (.struct fs) => match fs[f]? with
      | some fd => match P.underlying fd.type, P.info? fd.type with
        | some td, some inf => .fld (isAggD td) fd.offset inf.size x
        | _, _ => .gen op
      | none => .gen op
    | _ => .gen op
  | .fieldAddr t x f => match P.underlying t with
    | some (.struct fs) => match fs[f]? with
      | some fd => match P.info? fd.type with
        | some inf => if inf.size = 0 then .gen op else .fldA fd.offset x
        | none => .gen op
      | none => .gen op
    | _ => .gen op
  | .indexAddr t x ix => match P.underlying t with
    | some (.slice e) => match P.info? e with
      | some inf => .idxS inf.size x ix
      | none => .gen op
    | _ => .gen op
  | .index t x ix => match P.underlying t with
    | some .string => .chr x ix
    | _ => .gen op
  | .extract x i => .ext x i
  | .typeAssert x _ t ok => match P.underlying t, P.info? t with
    | some td, some inf => match inf.zero with
      | some z => if closedV z then (match td with | .interface _ => .gen op | _ => .asrt t z ok x) else .gen op
      | none => .gen op
    | _, _ => .gen op
  | .build t parts => match P.underlying t, P.info? t with
    | some (.struct fs), some inf => match inf.zero, placesOf P fs with
      | some z, some pl => if z.cells.toList.all plain then (match cPlaces pl parts.toList with | some l => .build z.cells.toList l | none => .gen op) else .gen op
      | _, _ => .gen op
    | _, _ => .gen op
  | .buildSlice t len parts => match P.underlying t with
    | some (.slice e) => match P.info? e with
      | some inf => match inf.zero with
        | some z => if z.cells.toList.all plain && Nat.blt 0 z.cells.size && Nat.ble len 16777216 && Nat.ble (len * inf.size) 16777216 then .bslice e inf.size len (zeros z.cells (len * inf.size)) parts.toList else .gen op
        | none => .gen op
      | none => .gen op
    | _ => .gen op
  | .alloc e => match P.info? e with
    | some inf => match inf.zero with
      | some z => if z.cells.toList.all plain then .alloc e z.cells.toList else .gen op
      | none => .gen op
    | none => .gen op
  | .makeSlice t x y => match P.underlying t with
    | some (.slice e) => match P.info? e with
      | some inf => match inf.zero with
        | some z => if elemOk P e inf z then .mkSl e inf.size inf.bytes z.cells.toList x y else .gen op
        | none => .gen op
      | none => .gen op
    | _ => .gen op
  | .slice t x lo hi none => match P.underlying t with
    | some (.slice e) => match P.info? e with
      | some inf => .slS inf.size x lo hi
      | none => .gen op
    | _ => .gen op
  | .load t x => match P.underlying t, P.info? t with
    | some d, some inf => .ld (isAggD d) inf.size x
    | _, _ => .gen op
  | .store t x y => match P.info? t with
    | some inf => .st inf.size x y
    | none => .gen op
  | .call ⟨.builtin .len, args, ts⟩ => match args.toList, ts.toList with
    | [x], [t] => match P.underlying t with
      | some (.slice _) => .lenS x
      | some .string => .lenT x
      | _ => .gen op
    | _, _ => .gen op
  | .call ⟨.builtin .append, args, ts⟩ => match args.toList, ts.toList with
    | [x, y], [t, t2] => match P.underlying t, P.underlying t2 with
      | some (.slice e), some td => match P.info? e with
        | some inf => match inf.zero with
          | some z => if isSeqD td && elemOk P e inf z then .app e inf.size inf.bytes x y else .gen op
          | none => .gen op
        | none => .gen op
      | _, _ => .gen op
    | _, _ => .gen op
  | .call ⟨.value (.func f), args, _⟩ => .call f args.toList
  | .call ⟨.value c, args, _⟩ => .callv c args.toList
  | .box e x => .box e x
  | op => .gen op

end Go.Ab
