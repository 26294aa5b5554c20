/- The interpreter: operations, code, functions; what it gives is so. -/
import Derived.Test.YthoanamkoigjeaaGreatDoorAbD
import Derived.Test.YthoanamkoigjeaaGreatDoorAbB
import Derived.Test.YthoanamkoigjeaaGreatDoorAbC
set_option linter.unusedVariables false
namespace Go.Ab

abbrev CallF := FuncId → List Value → Heap → Option (Value × Heap)
/-- Calls of functions, and of loops' yields. -/
structure CallS where
  fn : CallF
  yd : CallF
  /-- Calls that panic: what they panic with. -/
  pn : CallF

noncomputable def pureR (H : Heap) : Option Value → Option (Cls × Value × Heap)
  | some v => some (.pure, v, H)
  | none => none

noncomputable def binV (P : Program) (k : Bool) (op : BinOp) (t : TypeId) (x y : Value) : Option Value :=
  match x, y with
  | .int ik a, .int ik' b => match op with
    | .shl | .shr => shiftBin op ik a b
    | _ => if ik = ik' then intBin op ik a b else none
  | .string a, .string b => strBin op (bl a) (bl b)
  | x, y => eqBin P k op t x y

noncomputable def a_pick (P : Program) (call : CallS) (A : Env) (H : Heap) (c x y : Operand) : Option (Cls × Value × Heap) :=
  match ev A c with
    | .bool t => some (.pure, bif t then ev A x else ev A y, H)
    | _ => none

noncomputable def a_nilCheck (P : Program) (call : CallS) (A : Env) (H : Heap) (x : Operand) : Option (Cls × Value × Heap) :=
  bif notNil (ev A x) then some (.pure, ev A x, H) else none

noncomputable def a_binOp (P : Program) (call : CallS) (A : Env) (H : Heap) (op : BinOp) (t : TypeId) (x y : Operand) : Option (Cls × Value × Heap) :=
  pureR H (binV P (isCO x || isCO y) op t (ev A x) (ev A y))

noncomputable def a_unOp (P : Program) (call : CallS) (A : Env) (H : Heap) (op : UnOp) (x : Operand) : Option (Cls × Value × Heap) :=
  pureR H (unBin op (ev A x))

noncomputable def a_convert (P : Program) (call : CallS) (A : Env) (H : Heap) (src dst : TypeId) (x : Operand) : Option (Cls × Value × Heap) :=
  match P.underlying src, P.underlying dst, ev A x with
    | some _, some (.slice e), .string s => match P.underlying e, P.info? e with
      | some (.int .u8), some inf => match inf.zero with
        | some z => bif elemOk P e inf z && Nat.beq inf.size 1 && Nat.ble (bl s).length 140737488355328 then
            some (.alloc (.cells (bytesOf s) e false), .slice (some ⟨H.next, 0, none⟩) (bl s).length (UNK + 1), H.push (.cells (bytesOf s) e false)) else none
        | none => none
      | _, _ => none
    | some (.slice e), some .string, .slice a m c => match P.underlying e, sliceCells 1 (.slice a m c) H with
      | some (.int .u8), some l => match bytesIn l with
        | some bs => some (.gen, .string (mkS bs), H)
        | none => none
      | _, _ => none
    | some (.pointer t), some .unsafePointer, .pointer (some a) => match P.info? t, H.get a.block with
      | some j, some (.cells c e false) => if j.size ≠ 0 ∧ a.off < c.length then some (.gen, .pointer (some a), H) else none
      | _, _ => none
    | some .unsafePointer, some (.pointer u), .pointer (some a) => match P.info? u, H.get a.block with
      | some j, some (.cells c e false) => if liesAt P P.depth e (c.length / P.cellsOf e) a.off u 1 = true then some (.gen, .pointer (some a), H) else none
      | _, _ => none
    | _, _, _ => pureR H (convBin P src dst (ev A x))

noncomputable def a_makeInterface (P : Program) (call : CallS) (A : Env) (H : Heap) (t : TypeId) (x : Operand) : Option (Cls × Value × Heap) :=
  match P.underlying t with
    | some (.interface _) => none
    | some _ => some (.pure, .iface t (ev A x), H)
    | none => none

noncomputable def a_makeFunc (P : Program) (call : CallS) (A : Env) (H : Heap) (fn : Fn) (first captured : Array Operand) : Option (Cls × Value × Heap) :=
  bif noYield fn then some (.pure, .func fn (first.map (ev A)) (captured.map (ev A)), H) else none

noncomputable def a_field (P : Program) (call : CallS) (A : Env) (H : Heap) (t : TypeId) (x : Operand) (f : Nat) : Option (Cls × Value × Heap) :=
  match P.underlying t, ev A x with
    | some (.struct fs), .agg cs => match fs[f]? with
      | some fd => pureR H (apart P fd.type cs fd.offset)
      | none => none
    | _, _ => none

noncomputable def a_fieldAddr (P : Program) (call : CallS) (A : Env) (H : Heap) (t : TypeId) (x : Operand) (f : Nat) : Option (Cls × Value × Heap) :=
  match P.underlying t, ev A x with
    | some (.struct fs), .pointer (some a) => match fs[f]? with
      | some fd => match P.info? fd.type with
        | some inf => bif Nat.beq inf.size 0 then none else some (.pure, .pointer (some ⟨a.block, a.off + fd.offset, none⟩), H)
        | none => none
      | none => none
    | _, _ => none

noncomputable def a_indexAddr (P : Program) (call : CallS) (A : Env) (H : Heap) (t : TypeId) (x ix : Operand) : Option (Cls × Value × Heap) :=
  match ev A ix with
    | .int _ m => match P.underlying t, ev A x with
      | some (.slice e), .slice (some a) len _ => match P.info? e with
        | some inf => if 0 ≤ m ∧ m < len then some (.pure, .pointer (some ⟨a.block, a.off + m.toNat * inf.size, none⟩), H) else none
        | none => none
      | some (.array len e), .pointer (some a) => match P.info? e with
        | some inf => if 0 ≤ m ∧ m < len then some (.pure, .pointer (some ⟨a.block, a.off + m.toNat * inf.size, none⟩), H) else none
        | none => none
      | _, _ => none
    | _ => none

noncomputable def a_index (P : Program) (call : CallS) (A : Env) (H : Heap) (t : TypeId) (x ix : Operand) : Option (Cls × Value × Heap) :=
  match ev A ix with
    | .int _ m => match P.underlying t, ev A x with
      | some .string, .string s => if 0 ≤ m then (match (bl s)[m.toNat]? with | some b => some (.pure, .int .u8 b.toNat, H) | none => none) else none
      | some (.array len e), .agg cs => match P.info? e with
        | some inf => if 0 ≤ m ∧ m < len then pureR H (apart P e cs (m.toNat * inf.size)) else none
        | none => none
      | _, _ => none
    | _ => none

noncomputable def a_extract (P : Program) (call : CallS) (A : Env) (H : Heap) (x : Operand) (ix : Nat) : Option (Cls × Value × Heap) :=
  match ev A x with
    | .tuple vs => pureR H vs[ix]?
    | _ => none

noncomputable def a_typeAssert (P : Program) (call : CallS) (A : Env) (H : Heap) (x : Operand) (t : TypeId) (ok : Bool) : Option (Cls × Value × Heap) :=
  pureR H (aassert P (ev A x) t ok)

noncomputable def a_build (P : Program) (call : CallS) (A : Env) (H : Heap) (t : TypeId) (parts : Array (Nat × Operand)) : Option (Cls × Value × Heap) :=
  match P.underlying t, P.info? t with
    | some (.struct fs), some inf => match inf.zero, placesOf P fs with
      | some z, some pl => bif z.cells.toList.all plain then pureR H ((afill (pl[·]?) z.cells.toList (partsOf A parts)).map fun r => .agg r.toArray) else none
      | _, _ => none
    | some (.array _ e), some inf => match inf.zero, P.info? e with
      | some z, some inf' => bif z.cells.toList.all plain then pureR H ((afill (fun i => some (i * inf'.size, inf'.size)) z.cells.toList (partsOf A parts)).map fun r => .agg r.toArray) else none
      | _, _ => none
    | _, _ => none

noncomputable def a_buildSlice (P : Program) (call : CallS) (A : Env) (H : Heap) (t : TypeId) (len : Nat) (parts : Array (Nat × Operand)) : Option (Cls × Value × Heap) :=
  match P.underlying t with
    | some (.slice e) => match P.info? e with
      | some inf => match inf.zero with
        | some z => bif z.cells.toList.all plain && Nat.blt 0 z.cells.size && Nat.ble len 16777216 && Nat.ble (len * inf.size) 16777216 then
            match afill (fun i => some (i * inf.size, inf.size)) (zeros z.cells (len * inf.size)) (partsOf A parts) with
            | some r => some (.alloc (.cells r e false), .slice (some ⟨H.next, 0, none⟩) len len, H.push (.cells r e false))
            | none => none
          else none
        | none => none
      | none => none
    | _ => none

noncomputable def a_alloc (P : Program) (call : CallS) (A : Env) (H : Heap) (e : TypeId) : Option (Cls × Value × Heap) :=
  match P.info? e with
    | some inf => match inf.zero with
      | some z => bif z.cells.toList.all plain then some (.alloc (.cells z.cells.toList e false), .pointer (some ⟨H.next, 0, none⟩), H.push (.cells z.cells.toList e false)) else none
      | none => none
    | none => none

noncomputable def a_box (P : Program) (call : CallS) (A : Env) (H : Heap) (e : TypeId) (x : Operand) : Option (Cls × Value × Heap) :=
  some (.alloc (.cells (ev A x).cells.toList e false), .pointer (some ⟨H.next, 0, none⟩), H.push (.cells (ev A x).cells.toList e false))

noncomputable def a_makeSlice (P : Program) (call : CallS) (A : Env) (H : Heap) (t : TypeId) (x y : Operand) : Option (Cls × Value × Heap) :=
  match P.underlying t, ev A x, ev A y with
    | some (.slice e), .int .i64 l, .int .i64 c => match P.info? e with
      | some inf => match inf.zero with
        | some z => if elemOk P e inf z = true ∧ 0 ≤ l ∧ l ≤ c ∧ (inf.bytes : Int) * c ≤ 281474976710656 ∧ c ≤ 9223372036854775807 then
            some (.alloc (.cells (zeros z.cells (c.toNat * inf.size)) e false), .slice (some ⟨H.next, 0, none⟩) l.toNat c.toNat, H.push (.cells (zeros z.cells (c.toNat * inf.size)) e false))
          else none
        | none => none
      | none => none
    | _, _, _ => none

noncomputable def a_slice (P : Program) (call : CallS) (A : Env) (H : Heap) (t : TypeId) (x : Operand) (lo hi mx : Option Operand) : Option (Cls × Value × Heap) :=
  match P.underlying t with
    | some .string => match ev A x, mx, boundOf A lo, boundOf A hi with
      | .string s, none, some l, some h => if 0 ≤ l.getD 0 ∧ l.getD 0 ≤ h.getD (bl s).length ∧ h.getD (bl s).length ≤ (bl s).length then some (.pure, .string (mkS (((bl s).drop (l.getD 0).toNat).take ((h.getD (bl s).length).toNat - (l.getD 0).toNat))), H) else none
      | _, _, _, _ => none
    | some (.slice e) => match P.info? e, boundOf A lo, boundOf A hi, boundOf A mx with
      | some inf, some l, some h, some m => if m.isNone || h.isSome then pureR H (asliceS inf.size (ev A x) l h m) else none
      | _, _, _, _ => none
    | some (.array n e) => match ev A x, mx, boundOf A lo, boundOf A hi with
      | .pointer (some a), none, some l, some h => match P.info? e with
        | some inf => if 0 ≤ l.getD 0 ∧ l.getD 0 ≤ h.getD n ∧ h.getD n ≤ n ∧ n < UNK then some (.pure, .slice (some ⟨a.block, a.off + (l.getD 0).toNat * inf.size, none⟩) ((h.getD n).toNat - (l.getD 0).toNat) (n - (l.getD 0).toNat), H) else none
        | none => none
      | _, _, _, _ => none
    | _ => none

noncomputable def a_load (P : Program) (call : CallS) (A : Env) (H : Heap) (t : TypeId) (x : Operand) : Option (Cls × Value × Heap) :=
  match ev A x with
    | .pointer (some a) => match aload P t a H with
      | some v => some (.load, v, H)
      | none => none
    | _ => none

noncomputable def a_store (P : Program) (call : CallS) (A : Env) (H : Heap) (t : TypeId) (x y : Operand) : Option (Cls × Value × Heap) :=
  match ev A x with
    | .pointer (some a) => match astore P t a (ev A y) H with
      | some H' => some (.gen, undef, H')
      | none => none
    | _ => none

/-- A byte. -/
noncomputable def u8ok : Value → Bool
  | .int .u8 m => decide (0 ≤ m) && decide (m < 256)
  | _ => false

noncomputable def a_call (P : Program) (call : CallS) (A : Env) (H : Heap) (c : Call) : Option (Cls × Value × Heap) :=
  match c with
    | ⟨.builtin b, args, ts⟩ => match b, args.toList, ts.toList with
      | .len, [x], [t] => match alen P t (ev A x) with | some m => some (.pure, .int .i64 (m : Int), H) | none => none
      | .cap, [x], [t] => match P.underlying t, ev A x with
        | some (.slice _), .slice _ _ c => bif Nat.blt c UNK then some (.pure, .int .i64 c, H) else none
        | _, _ => none
      | .max, [x, y], _ => match ev A x, ev A y with
        | .int k a, .int k' b => if k = k' then some (.pure, .int k (if b > a then b else a), H) else none
        | _, _ => none
      | .min, [x, y], _ => match ev A x, ev A y with
        | .int k a, .int k' b => if k = k' then some (.pure, .int k (if b < a then b else a), H) else none
        | _, _ => none
      | .append, [x, y], [t, t2] => match P.underlying t, P.underlying t2 with
        | some (.slice e), some td => match P.info? e with
          | some inf => match inf.zero with
            | some z => bif isSeqD td && elemOk P e inf z then (aappend e inf (ev A x) (ev A y) H).map fun r => (.gen, r.1, r.2) else none
            | none => none
          | none => none
        | _, _ => none
      | .copy, [x, y], [t, _] => match P.underlying t with
        | some (.slice e) => match P.info? e with
          | some inf => (acopy inf.size (ev A x) (ev A y) H).map fun r => (.gen, r.1, r.2)
          | none => none
        | _ => none
      | .unsafeSliceData, [x], _ => match ev A x with
        | .slice none _ _ => some (.pure, .pointer none, H)
        | .slice (some a) m _ => if m ≠ 0 then some (.pure, .pointer (some a), H) else none
        | _ => none
      | .unsafeString, [x, y], [pt, _] => match ev A x, ev A y with
        | .pointer none, .int .i64 0 => some (.gen, .string (mkS []), H)
        | .pointer (some a), .int .i64 m => match P.underlying pt, H.get a.block with
          | some (.pointer e), some (.cells c e' false) =>
            if e = e' ∧ a = ⟨a.block, 0, none⟩ ∧ P.cellsOf e = 1 ∧ 0 < m ∧ m.toNat ≤ c.length ∧ m ≤ 9223372036854775807 ∧ (c.take m.toNat).all u8ok = true then
              (match bytesIn (c.take m.toNat) with
              | some bs => some (.gen, .string (mkS bs), H.set a.block (.cells c e true))
              | none => none)
            else none
          | _, _ => none
        | _, _ => none
      | _, _, _ => none
    | ⟨.invoke recv name, args, ts⟩ => match ev A recv with
      | .iface t v => match methodOf P t name with
        | some f => (call.fn f (v :: (args.map (ev A)).toList) H).map fun r => (.gen, r.1, r.2)
        | none => none
      | _ => none
    | ⟨.value (.func f), args, ts⟩ => (call.fn f (args.map (ev A)).toList H).map fun r => (.gen, r.1, r.2)
    | ⟨.value c, args, ts⟩ => match ev A c with
      | .func (.func f) xs ys => (call.fn f (xs.toList ++ (args.map (ev A)).toList ++ ys.toList) H).map fun r => (.gen, r.1, r.2)
      | .func (.yield l) xs ys => bif Nat.beq xs.size 0 && Nat.beq ys.size 0 then (call.yd l (args.map (ev A)).toList H).map fun r => (.gen, r.1, r.2) else none
      | _ => none

noncomputable def a_lookup (P : Program) (call : CallS) (A : Env) (H : Heap) (t : TypeId) (x ix : Operand) (ok : Bool) : Option (Cls × Value × Heap) :=
  match P.underlying t with
  | some (.map k e) => (alook P k e (ev A x) (ev A ix) ok H).map fun v => (.gen, v, H)
  | _ => none

noncomputable def a_put (P : Program) (call : CallS) (A : Env) (H : Heap) (t : TypeId) (m k x : Operand) : Option (Cls × Value × Heap) :=
  match P.underlying t with
  | some (.map kt _) => (aput P kt (ev A m) (ev A k) (ev A x) H).map fun H' => (.gen, undef, H')
  | _ => none

noncomputable def a_range (P : Program) (call : CallS) (A : Env) (H : Heap) (t : TypeId) (x : Operand) : Option (Cls × Value × Heap) :=
  match P.underlying t, ev A x with
  | some .string, .string s => some (.alloc (.iter s 0), .pointer (some ⟨H.next, 0, none⟩), H.push (.iter s 0))
  | some (.map _ _), .map none => some (.gen, .pointer (some ⟨H.next, 0, none⟩), H.push (.miter none 0 [] 0))
  | some (.map _ _), .map (some m) => match H.get m with
    | some (.map es) => some (.gen, .pointer (some ⟨H.next, 0, none⟩), H.push (.miter (some m) es.length [] es.length))
    | _ => none
  | _, _ => none

/-- An operation, abstractly: how it acts, its value, the heap behind it. -/
noncomputable def aop (P : Program) (call : CallS) (o : Oper) (A : Env) (H : Heap) : Option (Cls × Value × Heap) :=
  match o.op with
  | .move x => some (.pure, ev A x, H)
  | .assign x => some (.pure, ev A x, H)
  | .pick c x y => a_pick P call A H c x y
  | .nilCheck x => a_nilCheck P call A H x
  | .binOp op t x y _ => a_binOp P call A H op t x y
  | .unOp op _ x => a_unOp P call A H op x
  | .convert src dst x => a_convert P call A H src dst x
  | .makeInterface t x => a_makeInterface P call A H t x
  | .makeFunc fn first captured => a_makeFunc P call A H fn first captured
  | .field t x f => a_field P call A H t x f
  | .fieldAddr t x f => a_fieldAddr P call A H t x f
  | .indexAddr t x ix => a_indexAddr P call A H t x ix
  | .index t x ix => a_index P call A H t x ix
  | .extract x ix => a_extract P call A H x ix
  | .typeAssert x _ t ok => a_typeAssert P call A H x t ok
  | .build t parts => a_build P call A H t parts
  | .buildSlice t len parts => a_buildSlice P call A H t len parts
  | .alloc e => a_alloc P call A H e
  | .box e x => a_box P call A H e x
  | .makeSlice t x y => a_makeSlice P call A H t x y
  | .slice t x lo hi mx => a_slice P call A H t x lo hi mx
  | .load t x => a_load P call A H t x
  | .store t x y => a_store P call A H t x y
  | .call c => a_call P call A H c
  | .makeMap _ none => some (.alloc (.map []), .map (some H.next), H.push (.map []))
  | .lookup t x ix ok => a_lookup P call A H t x ix ok
  | .mapUpdate t m k x => a_put P call A H t m k x
  | .insert t m k x => a_put P call A H t m k x
  | .range t x => a_range P call A H t x
  | .next it true => (anext H (ev A it)).map fun r => (.gen, r.1, r.2)
  | .next it false => (anextM H (ev A it)).map fun r => (.gen, r.1, r.2)
  | .entry it => (aentry H (ev A it)).map fun v => (.gen, v, H)
  | _ => none

section
variable {P : Program} {n : Nat} {A : Env} {H : Heap}

noncomputable def ClsOk (P : Program) (o : Oper) (A : Env) (H : Heap) (v : Value) (H' : Heap) : Cls → Prop
  | .pure => H' = H ∧ ∀ h, OpDoes P o A h v h
  | .load => H' = H ∧ ∃ t x a, o.op = .load t x ∧ ev A x = .pointer (some a) ∧ aload P t a H = some v
  | .alloc b => H' = H.push b ∧ ∀ h, h.next = H.next → OpDoes P o A h v (h.push b)
  | .gen => OpDoes P o A H v H'

theorem ClsOk.does {o : Oper} {v : Value} {H' : Heap} {c : Cls} (h : ClsOk P o A H v H' c) : OpDoes P o A H v H' := by
  cases c with
  | pure => obtain ⟨rfl, h⟩ := h; exact h _
  | load =>
    obtain ⟨rfl, t, x, a, ho, ex, hl⟩ := h
    obtain ⟨dst, op, ty, pos, af, g⟩ := o
    simp only at ho
    subst ho
    exact od_load ex hl
  | alloc b => obtain ⟨rfl, h⟩ := h; exact h _ rfl
  | gen => exact h

noncomputable def CallOk (P : Program) (call : CallF) : Prop := ∀ f args H v H', call f args H = some (v, H') → Callable P f args H v H'
structure CallSOk (P : Program) (call : CallS) : Prop where
  fn : CallOk P call.fn
  yd : ∀ l args H v H', call.yd l args H = some (v, H') → YDoes P l args H v H'
  pn : ∀ f args H v H', call.pn f args H = some (v, H') → entered P f = true ∧ Does P f args H (.pan v) H'

theorem pureR_some {r : Option Value} {c : Cls} {v : Value} {H' : Heap} (h : pureR H r = some (c, v, H')) : r = some v ∧ c = .pure ∧ H' = H := by
  cases r with
  | none => simp [pureR] at h
  | some u => simp [pureR] at h; obtain ⟨rfl, rfl, rfl⟩ := h; exact ⟨rfl, rfl, rfl⟩

theorem binV_does {op : BinOp} {t t' : TypeId} {x y : Operand} {v : Value} {d : Option Nat} {ty : TypeId} {pos : String} {af : Array Edge} {g : Option (Nat × Bool)} (h : binV P (isCO x || isCO y) op t (ev A x) (ev A y) = some v) : OpDoes P ⟨d, .binOp op t x y t', ty, pos, af, g⟩ A H v H := by
  unfold binV at h
  split at h
  · rename_i k a k' b ex ey
    split at h
    · exact od_shift ex ey h
    · exact od_shift ex ey h
    · split at h
      · rename_i e; subst e; exact od_int ex ey h
      · cases h
  · rename_i a b ex ey; exact od_str ex ey h
  · rename_i h1 h2; exact od_eq h

set_option maxHeartbeats 2000000 in
theorem aop_sound {call : CallS} (hcall : CallSOk P call) {o : Oper} {c : Cls} {v : Value} {H' : Heap} (h : aop P call o A H = some (c, v, H')) : ClsOk P o A H v H' c := by
  obtain ⟨dst, op, ty, pos, af, g⟩ := o
  unfold aop at h
  split at h
  case h_1 x hop => simp only at hop; subst hop; simp only [Option.some.injEq, Prod.mk.injEq] at h; obtain ⟨rfl, rfl, rfl⟩ := h; exact ⟨rfl, fun h => od_move⟩
  case h_2 x hop => simp only at hop; subst hop; simp only [Option.some.injEq, Prod.mk.injEq] at h; obtain ⟨rfl, rfl, rfl⟩ := h; exact ⟨rfl, fun h => od_assign⟩
  case h_3 cc x y hop =>
    simp only at hop; subst hop; unfold a_pick at h
    split at h
    · rename_i t ec
      simp only [Option.some.injEq, Prod.mk.injEq] at h; obtain ⟨rfl, rfl, rfl⟩ := h
      refine ⟨rfl, fun h => ?_⟩
      have := od_pick (P := P) (H := h) (d := dst) (ty := ty) (pos := pos) (af := af) (g := g) (x := x) (y := y) ec
      cases t <;> exact this
    · cases h
  case h_4 x hop =>
    simp only at hop; subst hop; unfold a_nilCheck at h
    cases hn : notNil (ev A x) with
    | false => rw [hn] at h; cases h
    | true =>
      rw [hn] at h
      simp only [cond_true, Option.some.injEq, Prod.mk.injEq] at h; obtain ⟨rfl, rfl, rfl⟩ := h
      exact ⟨rfl, fun h => od_nilCheck hn⟩
  case h_5 bop t x y t' hop =>
    simp only at hop; subst hop; unfold a_binOp at h
    obtain ⟨h1, rfl, rfl⟩ := pureR_some h
    exact ⟨rfl, fun h => binV_does h1⟩
  case h_6 uop t x hop =>
    simp only at hop; subst hop; unfold a_unOp at h
    obtain ⟨h1, rfl, rfl⟩ := pureR_some h
    exact ⟨rfl, fun h => od_un h1⟩
  case h_7 src d' x hop =>
    simp only at hop; subst hop; unfold a_convert at h
    split at h
    · rename_i u e s hu hd ex
      split at h
      · rename_i inf h8 hi
        split at h
        · rename_i z hz
          cases hc : (elemOk P e inf z && Nat.beq inf.size 1 && Nat.ble (bl s).length 140737488355328) with
          | false => rw [hc] at h; cases h
          | true =>
            rw [hc] at h
            simp only [cond_true, Option.some.injEq, Prod.mk.injEq] at h; obtain ⟨rfl, rfl, rfl⟩ := h
            simp only [Bool.and_eq_true, nbeq, decide_eq_true_eq, Nat.ble_eq] at hc
            refine ⟨rfl, fun h hn => ?_⟩
            rw [← hn]
            exact od_toBytes hu hd h8 (ElemOk.mk' hi hz hc.1.1) hc.1.2 ex hc.2
        · cases h
      · cases h
    · rename_i e a m cp hu hd ex
      split at h
      · rename_i l h8 hl
        split at h
        · rename_i bs hb
          simp only [Option.some.injEq, Prod.mk.injEq] at h; obtain ⟨rfl, rfl, rfl⟩ := h
          exact od_toStr hu h8 hd (by rw [ex]; exact hl) hb
        · cases h
      · cases h
    · rename_i t a hu hd ex
      split at h
      · rename_i j c e hi hg
        split at h
        · rename_i hc
          simp only [Option.some.injEq, Prod.mk.injEq] at h; obtain ⟨rfl, rfl, rfl⟩ := h
          exact od_toUnsafe ex hu hd hi hc.1 hg hc.2
        · cases h
      · cases h
    · rename_i u a hu hd ex
      split at h
      · rename_i j c e hi hg
        split at h
        · rename_i hc
          simp only [Option.some.injEq, Prod.mk.injEq] at h; obtain ⟨rfl, rfl, rfl⟩ := h
          exact od_fromUnsafe ex hu hd hi hg hc
        · cases h
      · cases h
    · obtain ⟨h1, rfl, rfl⟩ := pureR_some h
      exact ⟨rfl, fun h => od_conv h1⟩
  case h_8 t x hop =>
    simp only at hop; subst hop; unfold a_makeInterface at h
    split at h
    · cases h
    · rename_i td hni htd
      simp only [Option.some.injEq, Prod.mk.injEq] at h; obtain ⟨rfl, rfl, rfl⟩ := h
      refine ⟨rfl, fun h => od_makeInterface htd ?_⟩
      cases td <;> first | rfl | exact absurd rfl (hni _)
    · cases h
  case h_9 fn first captured hop =>
    simp only at hop; subst hop; unfold a_makeFunc at h
    cases hn : noYield fn with
    | false => rw [hn] at h; cases h
    | true =>
      rw [hn] at h
      simp only [cond_true, Option.some.injEq, Prod.mk.injEq] at h; obtain ⟨rfl, rfl, rfl⟩ := h
      exact ⟨rfl, fun h => od_makeFunc hn⟩
  case h_10 t x f hop =>
    simp only at hop; subst hop; unfold a_field at h
    split at h
    · rename_i fs cs ht ex
      split at h
      · rename_i fd hf
        obtain ⟨h1, rfl, rfl⟩ := pureR_some h
        exact ⟨rfl, fun h => od_field ht hf ex h1⟩
      · cases h
    · cases h
  case h_11 t x f hop =>
    simp only at hop; subst hop; unfold a_fieldAddr at h
    split at h
    · rename_i fs a ht ex
      split at h
      · rename_i fd hf
        split at h
        · rename_i inf hi
          cases hz : Nat.beq inf.size 0 with
          | true => rw [hz] at h; cases h
          | false =>
            rw [hz] at h
            simp only [cond_false, Option.some.injEq, Prod.mk.injEq] at h; obtain ⟨rfl, rfl, rfl⟩ := h
            exact ⟨rfl, fun h => od_fieldAddr ht hf hi hz ex⟩
        · cases h
      · cases h
    · cases h
  case h_12 t x ix hop =>
    simp only at hop; subst hop; unfold a_indexAddr at h
    split at h
    · rename_i k m eix
      split at h
      · rename_i e a len cap ht ex
        split at h
        · rename_i inf hi
          split at h
          · rename_i hc
            simp only [Option.some.injEq, Prod.mk.injEq] at h; obtain ⟨rfl, rfl, rfl⟩ := h
            exact ⟨rfl, fun h => od_indexAddr_slice ht hi ex eix hc.1 hc.2⟩
          · cases h
        · cases h
      · rename_i len e a ht ex
        split at h
        · rename_i inf hi
          split at h
          · rename_i hc
            simp only [Option.some.injEq, Prod.mk.injEq] at h; obtain ⟨rfl, rfl, rfl⟩ := h
            exact ⟨rfl, fun h => od_indexAddr_array ht hi ex eix hc.1 hc.2⟩
          · cases h
        · cases h
      · cases h
    · cases h
  case h_13 t x ix hop =>
    simp only at hop; subst hop; unfold a_index at h
    split at h
    · rename_i k m eix
      split at h
      · rename_i s ht ex
        split at h
        · rename_i h0
          split at h
          · rename_i b hb
            simp only [Option.some.injEq, Prod.mk.injEq] at h; obtain ⟨rfl, rfl, rfl⟩ := h
            exact ⟨rfl, fun h => od_index_string ht ex eix h0 hb⟩
          · cases h
        · cases h
      · rename_i len e cs ht ex
        split at h
        · rename_i inf hi
          split at h
          · rename_i hc
            obtain ⟨h1, rfl, rfl⟩ := pureR_some h
            exact ⟨rfl, fun h => od_index_array ht hi ex eix hc.1 hc.2 h1⟩
          · cases h
        · cases h
      · cases h
    · cases h
  case h_14 x ix hop =>
    simp only at hop; subst hop; unfold a_extract at h
    split at h
    · rename_i vs ex
      obtain ⟨h1, rfl, rfl⟩ := pureR_some h
      exact ⟨rfl, fun h => od_extract ex h1⟩
    · cases h
  case h_15 x xt t ok hop =>
    simp only at hop; subst hop; unfold a_typeAssert at h
    obtain ⟨h1, rfl, rfl⟩ := pureR_some h
    exact ⟨rfl, fun h => od_assert h1⟩
  case h_16 t parts hop =>
    simp only at hop; subst hop; unfold a_build at h
    split at h
    · rename_i fs inf ht hi
      split at h
      · rename_i z pl hz hpl
        cases hc : z.cells.toList.all plain with
        | false => rw [hc] at h; cases h
        | true =>
          rw [hc] at h
          obtain ⟨h1, rfl, rfl⟩ := pureR_some h
          simp only [Option.map_eq_some_iff] at h1
          obtain ⟨r, hr, rfl⟩ := h1
          exact ⟨rfl, fun h => od_build_struct ht hi hz hc hpl hr⟩
      · cases h
    · rename_i len e inf ht hi
      split at h
      · rename_i z inf' hz hi'
        cases hc : z.cells.toList.all plain with
        | false => rw [hc] at h; cases h
        | true =>
          rw [hc] at h
          obtain ⟨h1, rfl, rfl⟩ := pureR_some h
          simp only [Option.map_eq_some_iff] at h1
          obtain ⟨r, hr, rfl⟩ := h1
          exact ⟨rfl, fun h => od_build_array ht hi hz hc hi' hr⟩
      · cases h
    · cases h
  case h_17 t len parts hop =>
    simp only at hop; subst hop; unfold a_buildSlice at h
    split at h
    · rename_i e ht
      split at h
      · rename_i inf hi
        split at h
        · rename_i z hz
          cases hc : (z.cells.toList.all plain && Nat.blt 0 z.cells.size && Nat.ble len 16777216 && Nat.ble (len * inf.size) 16777216) with
          | false => rw [hc] at h; cases h
          | true =>
            rw [hc] at h
            simp only [cond_true] at h
            simp only [Bool.and_eq_true] at hc
            obtain ⟨⟨⟨c1, c2⟩, c3⟩, c4⟩ := hc
            split at h
            · rename_i r hr
              simp only [Option.some.injEq, Prod.mk.injEq] at h; obtain ⟨rfl, rfl, rfl⟩ := h
              refine ⟨rfl, fun h hn => ?_⟩
              rw [← hn]
              exact od_buildSlice ht hi hz c1 c2 c3 c4 hr
            · cases h
        · cases h
      · cases h
    · cases h
  case h_18 e hop =>
    simp only at hop; subst hop; unfold a_alloc at h
    split at h
    · rename_i inf hi
      split at h
      · rename_i z hz
        cases hc : z.cells.toList.all plain with
        | false => rw [hc] at h; cases h
        | true =>
          rw [hc] at h
          simp only [cond_true, Option.some.injEq, Prod.mk.injEq] at h; obtain ⟨rfl, rfl, rfl⟩ := h
          refine ⟨rfl, fun h hn => ?_⟩
          rw [← hn]
          exact od_alloc hi hz hc
      · cases h
    · cases h
  case h_19 e x hop =>
    simp only at hop; subst hop; unfold a_box at h
    simp only [Option.some.injEq, Prod.mk.injEq] at h; obtain ⟨rfl, rfl, rfl⟩ := h
    refine ⟨rfl, fun h hn => ?_⟩
    rw [← hn]
    exact od_box
  case h_20 t x y hop =>
    simp only at hop; subst hop; unfold a_makeSlice at h
    split at h
    · rename_i e l cc ht ex ey
      split at h
      · rename_i inf hi
        split at h
        · rename_i z hz
          split at h
          · rename_i hc
            obtain ⟨c0, c1, c2, c3, c4⟩ := hc
            simp only [Option.some.injEq, Prod.mk.injEq] at h; obtain ⟨rfl, rfl, rfl⟩ := h
            refine ⟨rfl, fun h hn => ?_⟩
            rw [← hn]
            exact od_makeSlice ht (ElemOk.mk' hi hz c0) ex ey c1 c2 c3 c4
          · cases h
        · cases h
      · cases h
    · cases h
  case h_21 t x lo hi mx hop =>
    simp only at hop; subst hop; unfold a_slice at h
    split at h
    · rename_i ht
      split at h
      · rename_i s l hh ex el eh
        split at h
        · rename_i hc
          simp only [Option.some.injEq, Prod.mk.injEq] at h; obtain ⟨rfl, rfl, rfl⟩ := h
          exact ⟨rfl, fun h => od_slice_string ht ex el eh hc.1 hc.2.1 hc.2.2⟩
        · cases h
      · cases h
    · rename_i e ht
      split at h
      · rename_i inf l hh m hi' el eh em
        split at h
        · rename_i hc
          obtain ⟨h1, rfl, rfl⟩ := pureR_some h
          refine ⟨rfl, fun h => od_slice_slice ht hi' el eh em (fun hm hn => ?_) h1⟩
          subst hn
          cases m with
          | none => exact hm rfl
          | some m => simp at hc
        · cases h
      · cases h
    · rename_i m e ht
      split at h
      · rename_i a l hh ex el eh
        split at h
        · rename_i inf hi'
          split at h
          · rename_i hc
            simp only [Option.some.injEq, Prod.mk.injEq] at h; obtain ⟨rfl, rfl, rfl⟩ := h
            exact ⟨rfl, fun h => od_slice_array ht hi' ex el eh hc.1 hc.2.1 hc.2.2.1 hc.2.2.2⟩
          · cases h
        · cases h
      · cases h
    · cases h
  case h_22 t x hop =>
    simp only at hop; subst hop; unfold a_load at h
    split at h
    · rename_i a ex
      split at h
      · rename_i v' hl
        simp only [Option.some.injEq, Prod.mk.injEq] at h; obtain ⟨rfl, rfl, rfl⟩ := h
        exact ⟨rfl, t, x, a, rfl, ex, hl⟩
      · cases h
    · cases h
  case h_23 t x y hop =>
    simp only at hop; subst hop; unfold a_store at h
    split at h
    · rename_i a ex
      split at h
      · rename_i H1 hl
        simp only [Option.some.injEq, Prod.mk.injEq] at h; obtain ⟨rfl, rfl, rfl⟩ := h
        exact od_store ex hl
      · cases h
    · cases h
  case h_24 cc hop =>
    simp only at hop; subst hop; unfold a_call at h
    split at h
    · rename_i b args ts
      obtain ⟨args⟩ := args
      obtain ⟨ts⟩ := ts
      simp only at h
      split at h
      · rename_i x t
        split at h
        · rename_i m hm
          simp only [Option.some.injEq, Prod.mk.injEq] at h; obtain ⟨rfl, rfl, rfl⟩ := h
          exact ⟨rfl, fun h => od_len hm⟩
        · cases h
      · rename_i x t
        split at h
        · rename_i e a m cp ht ex
          cases hc : Nat.blt cp UNK with
          | false => rw [hc] at h; cases h
          | true =>
            rw [hc] at h
            simp only [cond_true, Option.some.injEq, Prod.mk.injEq] at h; obtain ⟨rfl, rfl, rfl⟩ := h
            exact ⟨rfl, fun h => od_cap ht ex hc⟩
        · cases h
      · rename_i x y
        split at h
        · rename_i k a k' b' ex ey
          split at h
          · rename_i e; subst e
            simp only [Option.some.injEq, Prod.mk.injEq] at h; obtain ⟨rfl, rfl, rfl⟩ := h
            exact ⟨rfl, fun h => od_max2 ex ey⟩
          · cases h
        · cases h
      · rename_i x y
        split at h
        · rename_i k a k' b' ex ey
          split at h
          · rename_i e; subst e
            simp only [Option.some.injEq, Prod.mk.injEq] at h; obtain ⟨rfl, rfl, rfl⟩ := h
            exact ⟨rfl, fun h => od_min2 ex ey⟩
          · cases h
        · cases h
      · rename_i x y t t2
        split at h
        · rename_i e td ht ht2
          split at h
          · rename_i inf hi
            split at h
            · rename_i z hz
              cases hc : (isSeqD td && elemOk P e inf z) with
              | false => rw [hc] at h; cases h
              | true =>
                rw [hc] at h
                simp only [cond_true, Option.map_eq_some_iff, Prod.mk.injEq] at h
                obtain ⟨⟨v1, H1⟩, hr, rfl, rfl, rfl⟩ := h
                simp only [Bool.and_eq_true] at hc
                exact od_append ht ht2 hc.1 (ElemOk.mk' hi hz hc.2) hr
            · cases h
          · cases h
        · cases h
      · rename_i x y t t2
        split at h
        · rename_i e ht
          split at h
          · rename_i inf hi
            simp only [Option.map_eq_some_iff, Prod.mk.injEq] at h
            obtain ⟨⟨v1, H1⟩, hr, rfl, rfl, rfl⟩ := h
            exact od_copy ht hi hr
          · cases h
        · cases h
      · rename_i x
        split at h
        · rename_i m cp ex
          simp only [Option.some.injEq, Prod.mk.injEq] at h; obtain ⟨rfl, rfl, rfl⟩ := h
          exact ⟨rfl, fun h => od_sliceData_nil ex⟩
        · rename_i a m cp ex
          split at h
          · rename_i hm
            simp only [Option.some.injEq, Prod.mk.injEq] at h; obtain ⟨rfl, rfl, rfl⟩ := h
            exact ⟨rfl, fun h => od_sliceData ex hm⟩
          · cases h
        · cases h
      · rename_i x y pt it
        split at h
        · rename_i ex ey
          simp only [Option.some.injEq, Prod.mk.injEq] at h; obtain ⟨rfl, rfl, rfl⟩ := h
          exact od_unsafeStr_nil ex ey
        · rename_i a m ex ey
          split at h
          · rename_i e c e' hp hg
            split at h
            · rename_i hc
              obtain ⟨rfl, c1, c2, c3, c4, c5, c6⟩ := hc
              split at h
              · rename_i bs hb
                simp only [Option.some.injEq, Prod.mk.injEq] at h; obtain ⟨rfl, rfl, rfl⟩ := h
                have em : m = (m.toNat : Int) := by omega
                rw [em] at ey
                rw [c1] at ex
                exact od_unsafeStr ex ey hp c2 hg (by omega) c4 (by omega) hb (fun v hv => by
                  have := List.all_eq_true.1 c6 v hv
                  unfold u8ok at this
                  split at this
                  · rename_i k
                    simp only [Bool.and_eq_true, decide_eq_true_eq] at this
                    exact ⟨k, rfl, this.1, this.2⟩
                  · cases this)
              · cases h
            · cases h
          · cases h
        · cases h
      · cases h
    · rename_i recv name args ts
      split at h
      · rename_i t v0 er
        split at h
        · rename_i f hm
          simp only [Option.map_eq_some_iff, Prod.mk.injEq] at h
          obtain ⟨⟨v1, H1⟩, hr, rfl, rfl, rfl⟩ := h
          exact od_invoke er hm (hcall.fn _ _ _ _ _ hr)
        · cases h
      · cases h
    · rename_i f args ts
      simp only [Option.map_eq_some_iff, Prod.mk.injEq] at h
      obtain ⟨⟨v1, H1⟩, hr, rfl, rfl, rfl⟩ := h
      exact od_call (hcall.fn _ _ _ _ _ hr)
    · rename_i cv args ts _
      split at h
      · rename_i f xs ys ec
        simp only [Option.map_eq_some_iff, Prod.mk.injEq] at h
        obtain ⟨⟨v1, H1⟩, hr, rfl, rfl, rfl⟩ := h
        exact od_callv ec (hcall.fn _ _ _ _ _ hr)
      · rename_i l xs ys ec
        cases hc : (Nat.beq xs.size 0 && Nat.beq ys.size 0) with
        | false => rw [hc] at h; cases h
        | true =>
          rw [hc] at h
          simp only [Bool.and_eq_true, nbeq, decide_eq_true_eq, Array.size_eq_zero_iff] at hc
          obtain ⟨rfl, rfl⟩ := hc
          simp only [cond_true, Option.map_eq_some_iff, Prod.mk.injEq] at h
          obtain ⟨⟨v1, H1⟩, hr, rfl, rfl, rfl⟩ := h
          exact od_yield ec (hcall.yd _ _ _ _ _ hr)
      · cases h
  case h_25 t hop =>
    simp only at hop; subst hop
    simp only [Option.some.injEq, Prod.mk.injEq] at h; obtain ⟨rfl, rfl, rfl⟩ := h
    exact ⟨rfl, fun h hn => by rw [← hn]; exact od_makeMap⟩
  case h_26 t x ix ok hop =>
    simp only at hop; subst hop; unfold a_lookup at h
    split at h
    · rename_i k e ht
      simp only [Option.map_eq_some_iff, Prod.mk.injEq] at h
      obtain ⟨v1, hr, rfl, rfl, rfl⟩ := h
      exact od_lookup ht hr
    · cases h
  case h_27 t m k x hop =>
    simp only at hop; subst hop; unfold a_put at h
    split at h
    · rename_i kt e ht
      simp only [Option.map_eq_some_iff, Prod.mk.injEq] at h
      obtain ⟨H1, hr, rfl, rfl, rfl⟩ := h
      exact od_mapUpdate ht hr
    · cases h
  case h_28 t m k x hop =>
    simp only at hop; subst hop; unfold a_put at h
    split at h
    · rename_i kt e ht
      simp only [Option.map_eq_some_iff, Prod.mk.injEq] at h
      obtain ⟨H1, hr, rfl, rfl, rfl⟩ := h
      exact od_insert ht hr
    · cases h
  case h_29 t x hop =>
    simp only at hop; subst hop; unfold a_range at h
    split at h
    · rename_i s ht ex
      simp only [Option.some.injEq, Prod.mk.injEq] at h; obtain ⟨rfl, rfl, rfl⟩ := h
      exact ⟨rfl, fun h hn => by rw [← hn]; exact od_range ht ex⟩
    · rename_i k e ht ex
      simp only [Option.some.injEq, Prod.mk.injEq] at h; obtain ⟨rfl, rfl, rfl⟩ := h
      exact od_rangeM ht ex (fun id hid => by cases hid)
    · rename_i k e m ht ex
      split at h
      · rename_i es hg
        simp only [Option.some.injEq, Prod.mk.injEq] at h; obtain ⟨rfl, rfl, rfl⟩ := h
        exact od_rangeM ht ex (fun id hid => by cases hid; exact ⟨es, hg, rfl⟩)
      · cases h
    · cases h
  case h_30 it hop =>
    simp only at hop; subst hop
    simp only [Option.map_eq_some_iff, Prod.mk.injEq] at h
    obtain ⟨⟨v1, H1⟩, hr, rfl, rfl, rfl⟩ := h
    exact od_next hr
  case h_31 it hop =>
    simp only at hop; subst hop
    simp only [Option.map_eq_some_iff, Prod.mk.injEq] at h
    obtain ⟨⟨v1, H1⟩, hr, rfl, rfl, rfl⟩ := h
    exact od_nextM hr
  case h_32 it hop =>
    simp only at hop; subst hop
    simp only [Option.map_eq_some_iff, Prod.mk.injEq] at h
    obtain ⟨v1, hr, rfl, rfl, rfl⟩ := h
    exact od_entry hr
  case h_33 => cases h
end
end Go.Ab
/- The temporaries as a tree of sixteens. -/
set_option linter.unusedVariables false
namespace Go.Ab

inductive D where
  | d0 | d1 | d2 | d3 | d4 | d5 | d6 | d7 | d8 | d9 | d10 | d11 | d12 | d13 | d14 | d15

structure N16 (α : Type) where
  mk ::
  a0 : α
  a1 : α
  a2 : α
  a3 : α
  a4 : α
  a5 : α
  a6 : α
  a7 : α
  a8 : α
  a9 : α
  a10 : α
  a11 : α
  a12 : α
  a13 : α
  a14 : α
  a15 : α

def D.num : D → Nat
  | .d0 => 0
  | .d1 => 1
  | .d2 => 2
  | .d3 => 3
  | .d4 => 4
  | .d5 => 5
  | .d6 => 6
  | .d7 => 7
  | .d8 => 8
  | .d9 => 9
  | .d10 => 10
  | .d11 => 11
  | .d12 => 12
  | .d13 => 13
  | .d14 => 14
  | .d15 => 15

/-- The digit of a number below sixteen. -/
def dig (n : Nat) : D := bif Nat.beq n 0 then .d0 else bif Nat.beq n 1 then .d1 else bif Nat.beq n 2 then .d2 else bif Nat.beq n 3 then .d3 else bif Nat.beq n 4 then .d4 else bif Nat.beq n 5 then .d5 else bif Nat.beq n 6 then .d6 else bif Nat.beq n 7 then .d7 else bif Nat.beq n 8 then .d8 else bif Nat.beq n 9 then .d9 else bif Nat.beq n 10 then .d10 else bif Nat.beq n 11 then .d11 else bif Nat.beq n 12 then .d12 else bif Nat.beq n 13 then .d13 else bif Nat.beq n 14 then .d14 else .d15

theorem dig_num {n : Nat} (h : n < 16) : (dig n).num = n := by
  have : n = 0 ∨ n = 1 ∨ n = 2 ∨ n = 3 ∨ n = 4 ∨ n = 5 ∨ n = 6 ∨ n = 7 ∨ n = 8 ∨ n = 9 ∨ n = 10 ∨ n = 11 ∨ n = 12 ∨ n = 13 ∨ n = 14 ∨ n = 15 := by omega
  rcases this with rfl | rfl | rfl | rfl | rfl | rfl | rfl | rfl | rfl | rfl | rfl | rfl | rfl | rfl | rfl | rfl <;> rfl
theorem dig_inj {n m : Nat} (hn : n < 16) (hm : m < 16) (h : dig n = dig m) : n = m := by rw [← dig_num hn, ← dig_num hm, h]

noncomputable def N16.get {α : Type} (n : N16 α) (d : D) : α := D.rec (motive := fun _ => N16 α → α) N16.a0 N16.a1 N16.a2 N16.a3 N16.a4 N16.a5 N16.a6 N16.a7 N16.a8 N16.a9 N16.a10 N16.a11 N16.a12 N16.a13 N16.a14 N16.a15 d n
noncomputable def N16.set0 {α : Type} (v : α) (n : N16 α) : N16 α := N16.rec (motive := fun _ => N16 α) (fun a0 a1 a2 a3 a4 a5 a6 a7 a8 a9 a10 a11 a12 a13 a14 a15 => ⟨v, a1, a2, a3, a4, a5, a6, a7, a8, a9, a10, a11, a12, a13, a14, a15⟩) n
noncomputable def N16.set1 {α : Type} (v : α) (n : N16 α) : N16 α := N16.rec (motive := fun _ => N16 α) (fun a0 a1 a2 a3 a4 a5 a6 a7 a8 a9 a10 a11 a12 a13 a14 a15 => ⟨a0, v, a2, a3, a4, a5, a6, a7, a8, a9, a10, a11, a12, a13, a14, a15⟩) n
noncomputable def N16.set2 {α : Type} (v : α) (n : N16 α) : N16 α := N16.rec (motive := fun _ => N16 α) (fun a0 a1 a2 a3 a4 a5 a6 a7 a8 a9 a10 a11 a12 a13 a14 a15 => ⟨a0, a1, v, a3, a4, a5, a6, a7, a8, a9, a10, a11, a12, a13, a14, a15⟩) n
noncomputable def N16.set3 {α : Type} (v : α) (n : N16 α) : N16 α := N16.rec (motive := fun _ => N16 α) (fun a0 a1 a2 a3 a4 a5 a6 a7 a8 a9 a10 a11 a12 a13 a14 a15 => ⟨a0, a1, a2, v, a4, a5, a6, a7, a8, a9, a10, a11, a12, a13, a14, a15⟩) n
noncomputable def N16.set4 {α : Type} (v : α) (n : N16 α) : N16 α := N16.rec (motive := fun _ => N16 α) (fun a0 a1 a2 a3 a4 a5 a6 a7 a8 a9 a10 a11 a12 a13 a14 a15 => ⟨a0, a1, a2, a3, v, a5, a6, a7, a8, a9, a10, a11, a12, a13, a14, a15⟩) n
noncomputable def N16.set5 {α : Type} (v : α) (n : N16 α) : N16 α := N16.rec (motive := fun _ => N16 α) (fun a0 a1 a2 a3 a4 a5 a6 a7 a8 a9 a10 a11 a12 a13 a14 a15 => ⟨a0, a1, a2, a3, a4, v, a6, a7, a8, a9, a10, a11, a12, a13, a14, a15⟩) n
noncomputable def N16.set6 {α : Type} (v : α) (n : N16 α) : N16 α := N16.rec (motive := fun _ => N16 α) (fun a0 a1 a2 a3 a4 a5 a6 a7 a8 a9 a10 a11 a12 a13 a14 a15 => ⟨a0, a1, a2, a3, a4, a5, v, a7, a8, a9, a10, a11, a12, a13, a14, a15⟩) n
noncomputable def N16.set7 {α : Type} (v : α) (n : N16 α) : N16 α := N16.rec (motive := fun _ => N16 α) (fun a0 a1 a2 a3 a4 a5 a6 a7 a8 a9 a10 a11 a12 a13 a14 a15 => ⟨a0, a1, a2, a3, a4, a5, a6, v, a8, a9, a10, a11, a12, a13, a14, a15⟩) n
noncomputable def N16.set8 {α : Type} (v : α) (n : N16 α) : N16 α := N16.rec (motive := fun _ => N16 α) (fun a0 a1 a2 a3 a4 a5 a6 a7 a8 a9 a10 a11 a12 a13 a14 a15 => ⟨a0, a1, a2, a3, a4, a5, a6, a7, v, a9, a10, a11, a12, a13, a14, a15⟩) n
noncomputable def N16.set9 {α : Type} (v : α) (n : N16 α) : N16 α := N16.rec (motive := fun _ => N16 α) (fun a0 a1 a2 a3 a4 a5 a6 a7 a8 a9 a10 a11 a12 a13 a14 a15 => ⟨a0, a1, a2, a3, a4, a5, a6, a7, a8, v, a10, a11, a12, a13, a14, a15⟩) n
noncomputable def N16.set10 {α : Type} (v : α) (n : N16 α) : N16 α := N16.rec (motive := fun _ => N16 α) (fun a0 a1 a2 a3 a4 a5 a6 a7 a8 a9 a10 a11 a12 a13 a14 a15 => ⟨a0, a1, a2, a3, a4, a5, a6, a7, a8, a9, v, a11, a12, a13, a14, a15⟩) n
noncomputable def N16.set11 {α : Type} (v : α) (n : N16 α) : N16 α := N16.rec (motive := fun _ => N16 α) (fun a0 a1 a2 a3 a4 a5 a6 a7 a8 a9 a10 a11 a12 a13 a14 a15 => ⟨a0, a1, a2, a3, a4, a5, a6, a7, a8, a9, a10, v, a12, a13, a14, a15⟩) n
noncomputable def N16.set12 {α : Type} (v : α) (n : N16 α) : N16 α := N16.rec (motive := fun _ => N16 α) (fun a0 a1 a2 a3 a4 a5 a6 a7 a8 a9 a10 a11 a12 a13 a14 a15 => ⟨a0, a1, a2, a3, a4, a5, a6, a7, a8, a9, a10, a11, v, a13, a14, a15⟩) n
noncomputable def N16.set13 {α : Type} (v : α) (n : N16 α) : N16 α := N16.rec (motive := fun _ => N16 α) (fun a0 a1 a2 a3 a4 a5 a6 a7 a8 a9 a10 a11 a12 a13 a14 a15 => ⟨a0, a1, a2, a3, a4, a5, a6, a7, a8, a9, a10, a11, a12, v, a14, a15⟩) n
noncomputable def N16.set14 {α : Type} (v : α) (n : N16 α) : N16 α := N16.rec (motive := fun _ => N16 α) (fun a0 a1 a2 a3 a4 a5 a6 a7 a8 a9 a10 a11 a12 a13 a14 a15 => ⟨a0, a1, a2, a3, a4, a5, a6, a7, a8, a9, a10, a11, a12, a13, v, a15⟩) n
noncomputable def N16.set15 {α : Type} (v : α) (n : N16 α) : N16 α := N16.rec (motive := fun _ => N16 α) (fun a0 a1 a2 a3 a4 a5 a6 a7 a8 a9 a10 a11 a12 a13 a14 a15 => ⟨a0, a1, a2, a3, a4, a5, a6, a7, a8, a9, a10, a11, a12, a13, a14, v⟩) n
noncomputable def N16.put {α : Type} (n : N16 α) (d : D) (v : α) : N16 α := D.rec (motive := fun _ => α → N16 α → N16 α) N16.set0 N16.set1 N16.set2 N16.set3 N16.set4 N16.set5 N16.set6 N16.set7 N16.set8 N16.set9 N16.set10 N16.set11 N16.set12 N16.set13 N16.set14 N16.set15 d v n
theorem N16.get_put {α : Type} (n : N16 α) (d dx : D) (v : α) [Decidable (dx = d)] : (n.put d v).get dx = if dx = d then v else n.get dx := by
  obtain ⟨a0, a1, a2, a3, a4, a5, a6, a7, a8, a9, a10, a11, a12, a13, a14, a15⟩ := n
  split
  · rename_i h; subst h; cases dx <;> rfl
  · rename_i h; cases d <;> cases dx <;> first | rfl | exact absurd rfl h
def N16.all {α : Type} (v : α) : N16 α := ⟨v, v, v, v, v, v, v, v, v, v, v, v, v, v, v, v⟩
theorem N16.get_all {α : Type} (v : α) (d : D) : (N16.all v).get d = v := by cases d <;> rfl

abbrev E := N16 (N16 Value)

/-- The temporaries. -/
noncomputable def envT (e : E) : Env := fun t => (e.get (dig (Nat.div t 16))).get (dig (Nat.mod t 16))

/-- An operand's value. -/
noncomputable def evE (x : Operand) (e : E) : Value :=
  Operand.rec (motive := fun _ => E → Value) (fun t e => (e.get (dig (Nat.div t 16))).get (dig (Nat.mod t 16))) (fun v _ => v) (fun g _ => .pointer (some ⟨g, 0, none⟩)) (fun f _ => .func (.func f) #[] #[]) x e
theorem evE_eq (x : Operand) (e : E) : evE x e = ev (envT e) x := by cases x <;> rfl

noncomputable def putN (e : E) (d : Nat) (v : Value) : E := e.put (dig (Nat.div d 16)) ((e.get (dig (Nat.div d 16))).put (dig (Nat.mod d 16)) v)

noncomputable def putT (e : E) (d : Option Nat) (v : Value) : E := Option.rec (motive := fun _ => E) e (fun d => putN e d v) d

/-- Up to the last temporary. -/
def upTo (A B : Env) : Prop := ∀ t, t < 256 → A t = B t

open Classical in
theorem envT_putN (e : E) {d t : Nat} (v : Value) (hd : d < 256) (ht : t < 256) : envT (putN e d v) t = upd (envT e) d v t := by
  have e1 : ∀ x y : Nat, Nat.div x y = x / y := fun _ _ => rfl
  have e2 : ∀ x y : Nat, Nat.mod x y = x % y := fun _ _ => rfl
  simp only [envT, putN, upd, nbeq, e1, e2]
  rw [N16.get_put]
  by_cases h : t = d
  · subst h; rw [if_pos rfl, N16.get_put, if_pos rfl]; simp
  · simp only [h, decide_false, cond_false]
    by_cases h1 : dig (t / 16) = dig (d / 16)
    · rw [if_pos h1, N16.get_put]
      have h2 := dig_inj (by omega) (by omega) h1
      rw [if_neg (fun h3 => h (by have := dig_inj (by omega) (by omega) h3; omega)), h1]
    · rw [if_neg h1]

theorem envT_put (e : E) {d : Option Nat} (v : Value) (hd : dstOk 256 d = true) : upTo (envT (putT e d v)) (updO (envT e) d v) := by
  intro t ht
  cases d with
  | none => rfl
  | some d => exact envT_putN e v (by simpa [dstOk] using hd) ht

def E.none : E := N16.all (N16.all undef)
theorem envT_none (t : Nat) : envT E.none t = undef := by simp only [envT, E.none, N16.get_all]

noncomputable def argsE : List Value → Nat → E → E
  | [], _, e => e
  | v :: vs, i, e => argsE vs (i + 1) (putN e i v)

theorem argsE_get : ∀ (l : List Value) (i : Nat) (e : E) (j : Nat), i + l.length ≤ 256 → j < 256 → envT (argsE l i e) j = if i ≤ j ∧ j < i + l.length then l.getD (j - i) undef else envT e j
  | [], i, e, j, _, _ => by simp [argsE]; omega
  | v :: l, i, e, j, h, hj => by
    simp only [List.length_cons] at h
    simp only [argsE]
    rw [argsE_get l (i + 1) _ j (by omega) hj, envT_putN e v (by omega) hj]
    simp only [List.length_cons]
    by_cases h1 : j = i
    · subst h1; rw [if_neg (by omega), if_pos ⟨by omega, by omega⟩]; simp
    · by_cases h2 : i + 1 ≤ j ∧ j < i + 1 + l.length
      · rw [if_pos h2, if_pos ⟨by omega, by omega⟩, show j - i = (j - (i + 1)) + 1 by omega]; simp
      · rw [if_neg h2, if_neg (by omega), upd_ne _ _ h1]

theorem envT_args {l : List Value} (h : l.length ≤ 256) : upTo (envT (argsE l 0 E.none)) (envOf l) := by
  intro j hj
  rw [argsE_get l 0 _ j (by omega) hj]
  simp only [envOf, Nat.zero_le, true_and, Nat.zero_add, Nat.sub_zero, envT_none]
  split
  · rfl
  · rename_i h1; simp [List.getD, List.getElem?_eq_none (by omega : l.length ≤ j)]
end Go.Ab
/- The interpreter of code and functions, by continuations; what it gives is so. -/
set_option linter.unusedVariables false
namespace Go.Ab

/-! ### Equality of values and blocks, by a run -/

noncomputable def beqL (eq : Value → Value → Bool) : List Value → List Value → Bool
  | [], [] => true
  | x :: xs, y :: ys => eq x y && beqL eq xs ys
  | _, _ => false

theorem beqL_eq {eq : Value → Value → Bool} (h : ∀ x y, eq x y = true → x = y) : ∀ xs ys, beqL eq xs ys = true → xs = ys
  | [], [], _ => rfl
  | x :: xs, y :: ys, hb => by
    simp only [beqL, Bool.and_eq_true] at hb
    rw [h x y hb.1, beqL_eq h xs ys hb.2]
  | [], _ :: _, hb => by simp [beqL] at hb
  | _ :: _, [], hb => by simp [beqL] at hb

noncomputable def beqV : Nat → Value → Value → Bool
  | 0, _, _ => false
  | f + 1, x, y => match x, y with
    | .bool a, .bool b => a == b
    | .int k a, .int k' b => decide (k = k') && decide (a = b)
    | .string a, .string b => decide (bl a = bl b)
    | .pointer a, .pointer b => decide (a = b)
    | .slice a l c, .slice a' l' c' => decide (a = a') && Nat.beq l l' && Nat.beq c c'
    | .map a, .map b => decide (a = b)
    | .nilFunc, .nilFunc => true
    | .nilIface, .nilIface => true
    | .iface t v, .iface t' v' => Nat.beq t t' && beqV f v v'
    | .agg xs, .agg ys => beqL (beqV f) xs.toList ys.toList
    | .tuple xs, .tuple ys => beqL (beqV f) xs.toList ys.toList
    | .func fn xs zs, .func fn' ys us => decide (fn = fn') && beqL (beqV f) xs.toList ys.toList && beqL (beqV f) zs.toList us.toList
    | _, _ => false

theorem beqV_eq : ∀ (f : Nat) (x y : Value), beqV f x y = true → x = y := by
  intro f
  induction f with
  | zero => intro x y h; simp [beqV] at h
  | succ f ih =>
    intro x y h
    have harr : ∀ {xs ys : Array Value}, beqL (beqV f) xs.toList ys.toList = true → xs = ys := fun h => Array.ext' (beqL_eq ih _ _ h)
    unfold beqV at h
    split at h
    · simp at h; rw [h]
    · simp only [Bool.and_eq_true, decide_eq_true_eq] at h; rw [h.1, h.2]
    · rename_i a b
      have h' : bl a = bl b := by simpa using h
      rw [← mkS_bl a, ← mkS_bl b, h']
    · simp at h; rw [h]
    · simp only [Bool.and_eq_true, decide_eq_true_eq, nbeq] at h; rw [h.1.1, h.1.2, h.2]
    · simp at h; rw [h]
    · rfl
    · rfl
    · simp only [Bool.and_eq_true, decide_eq_true_eq, nbeq] at h; rw [h.1, ih _ _ h.2]
    · rw [harr h]
    · rw [harr h]
    · simp only [Bool.and_eq_true, decide_eq_true_eq] at h; rw [h.1.1, harr h.1.2, harr h.2]
    · cases h

noncomputable def beqB : Option Blk → Option Blk → Bool
  | some (.cells c e r), some (.cells c' e' r') => Nat.beq e e' && r == r' && beqL (beqV 8) c c'
  | none, none => true
  | _, _ => false

theorem beqB_eq {x y : Option Blk} (h : beqB x y = true) : x = y := by
  unfold beqB at h
  split at h
  · simp only [Bool.and_eq_true, nbeq, decide_eq_true_eq, beq_iff_eq] at h
    rw [h.1.1, h.1.2, beqL_eq (beqV_eq 8) _ _ h.2]
  · rfl
  · cases h

noncomputable def beqO : Option Value → Value → Bool
  | some x, y => beqV 8 x y
  | none, _ => false
theorem beqO_eq {x : Option Value} {y : Value} (h : beqO x y = true) : x = some y := by
  cases x with
  | none => simp [beqO] at h
  | some x => rw [beqV_eq 8 x y h]

/-! ### Regions that draw their order -/

structure Stp where
  t : Env
  H : Heap
  c : Cls
  v : Value

/-- The operations of a region in the text's order, with each step told. -/
noncomputable def runTrace (P : Program) (call : CallS) (n : Nat) (ops : Array Oper) : List Oper → Env → Heap → Option (List Stp × Env × Heap)
  | [], t, H => some ([], t, H)
  | o :: rest, t, H =>
    bif okOp P n o then
      match wantedA n ops t o with
      | some true => match aop P call o t H with
        | some (c, v, H') => match runTrace P call n ops rest (updO t o.dst v) H' with
          | some (l, r) => some (⟨t, H, c, v⟩ :: l, r)
          | none => none
        | none => none
      | some false => match runTrace P call n ops rest (updO t o.dst undef) H with
        | some (l, r) => some (⟨t, H, .pure, undef⟩ :: l, r)
        | none => none
      | none => none
    else none

/-- Which operations act on memory, by the text. -/
noncomputable def sgen (o : Oper) : Bool :=
  match o.op with
  | .store .. => true
  | .lookup .. => true
  | .mapUpdate .. => true
  | .insert .. => true
  | .next .. => true
  | .entry .. => true
  | .call ⟨.builtin b, _, _⟩ => match b with | .len | .cap | .max | .min | .unsafeSliceData => false | _ => true
  | .call _ => true
  | _ => false

noncomputable def sgenAt (ops : Array Oper) (i : Nat) : Bool := match ops[i]? with | some o => sgen o | none => false

noncomputable def heapAt (l : List Stp) (H : Heap) (i : Nat) : Heap := match l[i]? with | some s => s.H | none => H

/-- What must be asked of a step by the run: of a load, that no other step that acts on memory changes what it loads; of a new block, that none touches it. -/
noncomputable def stepChk (P : Program) (ops : Array Oper) (ms : List Nat) (l : List Stp) (H : Heap) (i : Nat) (s : Stp) : Bool :=
  Nat.ble s.H.next (heapAt l H (i + 1)).next &&
  match s.c with
  | .pure => true
  | .gen => sgenAt ops i
  | .load => match ops[i]? with
    | some o => match o.op with
      | .load t x => match ev (s.t) x with
        | .pointer (some a) => (List.range ops.size).all fun k => !(sgenAt ops k) || ordered ms i k || ordered ms k i ||
            (beqO (aload P t a (heapAt l H k)) s.v && beqO (aload P t a (heapAt l H (k + 1))) s.v && belowV s.H.next 6 s.v)
        | _ => false
      | _ => false
    | none => false
  | .alloc b => (List.range ops.size).all fun k => !(sgenAt ops k) || !(Nat.blt i k) || ordered ms i k || beqB ((heapAt l H (k + 1)).get s.H.next) ((heapAt l H k).get s.H.next)

noncomputable def allIdx (p : Nat → Stp → Bool) : Nat → List Stp → Bool
  | _, [] => true
  | i, s :: l => p i s && allIdx p (i + 1) l

theorem allIdx_spec {p : Nat → Stp → Bool} : ∀ (l : List Stp) (i : Nat), allIdx p i l = true → ∀ (j : Nat) s, l[j]? = some s → p (i + j) s = true
  | [], _, _, j, s, h => by simp at h
  | x :: l, i, h, j, s, hj => by
    simp only [allIdx, Bool.and_eq_true] at h
    cases j with
    | zero => simp at hj; subst hj; exact h.1
    | succ j => have := allIdx_spec l (i + 1) h.2 j s (by simpa using hj); rwa [show i + 1 + j = i + (j + 1) by omega] at this

/-- The steps' values, laid into the temporaries. -/
noncomputable def putAll : List Oper → List Stp → E → E
  | o :: os, s :: ss, e => putAll os ss (putT e o.dst s.v)
  | _, _, e => e

noncomputable def runDraw (P : Program) (call : CallS) (n : Nat) (ops : Array Oper) (t : Env) (H : Heap) : Option (List Stp × Env × Heap) :=
  bif P.follows .mixedOrders && drawOk ops (sgenAt ops) then
    match runTrace P call n ops ops.toList t H with
    | some (l, t1, H1) => bif allIdx (stepChk P ops (masks ops.toList []) l H1) 0 l then some (l, t1, H1) else none
    | none => none
  else none

section
variable {P : Program} {n : Nat} {Q : Ex → Env → Heap → Prop}

/-- One step of a trace. -/
noncomputable def StpOk (P : Program) (call : CallS) (n : Nat) (ops : Array Oper) (o : Oper) (s : Stp) (t' : Env) (H' : Heap) : Prop :=
  okOp P n o = true ∧ t' = updO s.t o.dst s.v ∧ ((wantedA n ops (s.t) o = some true ∧ aop P call o (s.t) s.H = some (s.c, s.v, H')) ∨ (wantedA n ops (s.t) o = some false ∧ s.c = .pure ∧ s.v = undef ∧ H' = s.H))

theorem runTrace_spec {call : CallS} {ops : Array Oper} : ∀ (l : List Oper) (t : Env) (H : Heap) (tr : List Stp) (t1 : Env) (H1 : Heap), runTrace P call n ops l t H = some (tr, t1, H1) →
    tr.length = l.length ∧ (match tr[0]? with | some s => s.t = t ∧ s.H = H | none => t1 = t ∧ H1 = H) ∧
    ∀ (j : Nat) o s, l[j]? = some o → tr[j]? = some s → StpOk P call n ops o s (match tr[j + 1]? with | some s' => s'.t | none => t1) (heapAt tr H1 (j + 1))
  | [], t, H, tr, t1, H1, h => by simp only [runTrace, Option.some.injEq, Prod.mk.injEq] at h; obtain ⟨rfl, rfl, rfl⟩ := h; exact ⟨rfl, ⟨rfl, rfl⟩, fun j o s hj => by simp at hj⟩
  | o :: rest, t, H, tr, t1, H1, h => by
    have step : ∀ (s : Stp) (l : List Stp) (t' : Env) (H' : Heap), s.t = t → s.H = H → runTrace P call n ops rest t' H' = some (l, t1, H1) → tr = s :: l → StpOk P call n ops o s t' H' →
        tr.length = (o :: rest).length ∧ (match tr[0]? with | some s => s.t = t ∧ s.H = H | none => t1 = t ∧ H1 = H) ∧
        ∀ (j : Nat) o' s, (o :: rest)[j]? = some o' → tr[j]? = some s → StpOk P call n ops o' s (match tr[j + 1]? with | some s' => s'.t | none => t1) (heapAt tr H1 (j + 1)) := by
      intro s l t' H' e1 e2 hl htr hok
      obtain ⟨i1, i2, i3⟩ := runTrace_spec rest t' H' l t1 H1 hl
      subst htr
      refine ⟨by simp [i1], by simp [e1, e2], fun j o' s' hj hs => ?_⟩
      cases j with
      | zero =>
        simp only [List.getElem?_cons_zero, Option.some.injEq] at hj hs
        subst hj; subst hs
        have : (match (s :: l)[0 + 1]? with | some s' => s'.t | none => t1) = t' ∧ heapAt (s :: l) H1 (0 + 1) = H' := by
          simp only [heapAt, Nat.zero_add, List.getElem?_cons_succ]
          cases hl0 : l[0]? with
          | none => rw [hl0] at i2; exact ⟨i2.1, i2.2⟩
          | some s1 => rw [hl0] at i2; exact ⟨i2.1, i2.2⟩
        rw [this.1, this.2]
        exact hok
      | succ j =>
        have := i3 j o' s' (by simpa using hj) (by simpa using hs)
        simpa [heapAt] using this
    unfold runTrace at h
    cases hok : okOp P n o with
    | false => rw [hok] at h; cases h
    | true =>
      rw [hok] at h
      simp only [cond_true] at h
      split at h
      · rename_i hw
        split at h
        · rename_i c v H' ha
          split at h
          · rename_i l r hl
            obtain ⟨t1', H1'⟩ := r
            simp only [Option.some.injEq, Prod.mk.injEq] at h
            obtain ⟨rfl, rfl, rfl⟩ := h
            exact step ⟨t, H, c, v⟩ l _ H' rfl rfl hl rfl ⟨hok, rfl, .inl ⟨hw, ha⟩⟩
          · cases h
        · cases h
      · rename_i hw
        split at h
        · rename_i l r hl
          obtain ⟨t1', H1'⟩ := r
          simp only [Option.some.injEq, Prod.mk.injEq] at h
          obtain ⟨rfl, rfl, rfl⟩ := h
          exact step ⟨t, H, .pure, undef⟩ l _ H rfl rfl hl rfl ⟨hok, rfl, .inr ⟨hw, rfl, rfl, rfl⟩⟩
        · cases h
      · cases h

theorem drawOk_mono {ops : Array Oper} {g g' : Nat → Bool} (h : ∀ i, i < ops.size → g i = true → g' i = true) (hd : drawOk ops g' = true) : drawOk ops g = true := by
  unfold drawOk at hd ⊢
  simp only [List.all_eq_true, List.mem_range] at hd ⊢
  intro j hj
  have h1 := hd j hj
  split
  · rfl
  · rename_i o ho
    rw [ho] at h1
    simp only [Bool.and_eq_true, List.all_eq_true, List.mem_range] at h1 ⊢
    refine ⟨h1.1, fun i hi => ?_⟩
    have h2 := h1.2 i hi
    split
    · rfl
    · rename_i oi hoi
      rw [hoi] at h2
      simp only [Bool.and_eq_true] at h2 ⊢
      refine ⟨h2.1, ?_⟩
      have h3 := h2.2
      cases gi : g i with
      | false => simp
      | true =>
        cases gj : g j with
        | false => simp
        | true => simpa [h i hi gi, h j hj gj] using h3

theorem runDraw_sound {call : CallS} (hcall : CallSOk P call) {id : Nat} {ops : Array Oper} {t t1 : Env} {H H1 : Heap} {tr : List Stp} (h : runDraw P call n ops t H = some (tr, t1, H1)) (hq : Q .normal t1 H1) : AWp P n (.region id ops true) Q t H := by
  unfold runDraw at h
  cases hc : (P.follows .mixedOrders && drawOk ops (sgenAt ops)) with
  | false => rw [hc] at h; cases h
  | true =>
    rw [hc] at h
    simp only [cond_true] at h
    simp only [Bool.and_eq_true] at hc
    obtain ⟨hm, hd⟩ := hc
    split at h
    · rename_i l t1' H1' htr
      cases hall : allIdx (stepChk P ops (masks ops.toList []) l H1') 0 l with
      | false => rw [hall] at h; cases h
      | true =>
        rw [hall] at h
        simp only [cond_true, Option.some.injEq, Prod.mk.injEq] at h
        obtain ⟨rfl, rfl, rfl⟩ := h
        obtain ⟨s1, s2, s3⟩ := runTrace_spec ops.toList t H l t1' H1' htr
        have hlen : l.length = ops.size := by simpa using s1
        have hchk : ∀ (j : Nat) s, l[j]? = some s → stepChk P ops (masks ops.toList []) l H1' j s = true := fun j s hj => by have := allIdx_spec l 0 hall j s hj; rwa [Nat.zero_add] at this
        let As : Nat → Env := fun i => match l[i]? with | some s => s.t | none => t1'
        let Hs : Nat → Heap := heapAt l H1'
        let vs : Nat → Value := fun i => match l[i]? with | some s => s.v | none => undef
        let cls : Nat → Cls := fun i => match l[i]? with | some s => s.c | none => .pure
        have hat : ∀ (i : Nat) o, ops[i]? = some o → ∃ s, l[i]? = some s := fun i o ho => by
          have : i < l.length := by rw [hlen]; exact (Array.getElem?_eq_some_iff.1 ho).1
          exact ⟨l[i], List.getElem?_eq_getElem this⟩
        have hgen : ∀ i, i < ops.size → isGen (cls i) = true → sgenAt ops i = true := fun i hi hg => by
          obtain ⟨s, hs⟩ := hat i ops[i] (Array.getElem?_eq_getElem hi)
          have hcl : cls i = s.c := by simp only [cls, hs]
          rw [hcl] at hg
          have hk := hchk i s hs
          unfold stepChk at hk
          simp only [Bool.and_eq_true] at hk
          cases hsc : s.c with
          | gen => rw [hsc] at hk; exact hk.2
          | _ => rw [hsc] at hg; cases hg
        have F : Facts P n ops As Hs vs cls := by
          refine ⟨fun i o ho => ?_, fun i hi => ?_, fun i o ho => ?_, fun i o ho => ?_, drawOk_mono hgen hd⟩
          · obtain ⟨s, hs⟩ := hat i o ho
            have hok := s3 i o s (by simpa using ho) hs
            have e1 : As i = s.t := by simp only [As, hs]
            have e2 : vs i = s.v := by simp only [vs, hs]
            rw [e1, e2, ← hok.2.1]
          · obtain ⟨s, hs⟩ := hat i ops[i] (Array.getElem?_eq_getElem hi)
            have hk := hchk i s hs
            unfold stepChk at hk
            simp only [Bool.and_eq_true] at hk
            have e1 : Hs i = s.H := by simp only [Hs, heapAt, hs]
            rw [e1]
            simpa using hk.1
          · obtain ⟨s, hs⟩ := hat i o ho
            exact (s3 i o s (by simpa using ho) hs).1
          · obtain ⟨s, hs⟩ := hat i o ho
            have hok := s3 i o s (by simpa using ho) hs
            have hk := hchk i s hs
            have e1 : As i = s.t := by simp only [As, hs]
            have e2 : vs i = s.v := by simp only [vs, hs]
            have e3 : Hs i = s.H := by simp only [Hs, heapAt, hs]
            have e4 : cls i = s.c := by simp only [cls, hs]
            unfold StepOk
            rw [e1, e2, e3, e4]
            rcases hok.2.2 with ⟨hw, ha⟩ | ⟨hw, hc0, hv0, hH0⟩
            · right
              refine ⟨hw, ?_⟩
              have hcl := aop_sound hcall ha
              unfold stepChk at hk
              simp only [Bool.and_eq_true] at hk
              cases hsc : s.c with
              | pure => rw [hsc] at hcl; exact hcl
              | gen => rw [hsc] at hcl; exact hcl
              | alloc b =>
                rw [hsc] at hcl hk
                refine ⟨hcl.1, hcl.2, fun k hk1 hik hgk ho' => ?_⟩
                have := List.all_eq_true.1 hk.2 k (List.mem_range.2 hk1)
                have hb : Nat.blt i k = true := by simpa using hik
                simp only [hgen k hk1 hgk, hb, ho', Bool.not_true, Bool.false_or] at this
                exact beqB_eq this
              | load =>
                rw [hsc] at hcl hk
                obtain ⟨h1, tt, x, a, hop, ex, hl⟩ := hcl
                refine ⟨h1, tt, x, a, hop, ex, hl, fun k hk1 hgk o1 o2 => ?_⟩
                have hk2 := hk.2
                rw [ho] at hk2
                simp only [hop, ex] at hk2
                have := List.all_eq_true.1 hk2 k (List.mem_range.2 hk1)
                simp only [hgen k hk1 hgk, o1, o2, Bool.not_true, Bool.false_or, Bool.and_eq_true] at this
                exact ⟨beqO_eq this.1.1, beqO_eq this.1.2, this.2⟩
            · left
              exact ⟨hw, hv0, hH0, hc0⟩
        have hN : l[ops.size]? = none := List.getElem?_eq_none (by omega)
        have eN : As ops.size = t1' := by simp only [As, hN]
        have eH : Hs ops.size = H1' := by simp only [Hs, heapAt, hN]
        have e0 : As 0 = t ∧ Hs 0 = H := by
          cases hl0 : l[0]? with
          | none => rw [hl0] at s2; simp only [As, Hs, heapAt, hl0, s2.1, s2.2, and_self]
          | some s => rw [hl0] at s2; simp only [As, Hs, heapAt, hl0, s2.1, s2.2, and_self]
        have := awp_draw (id := id) (Q := Q) hm F (by rw [eN, eH]; exact hq)
        rw [e0.1, e0.2] at this
        exact this
    · cases h

theorem aops_wanted {ops : Array Oper} {o : Oper} {rest : List Oper} {A : Env} {H : Heap} {b : Bool} {j : Nat} {want : Bool} (hg : o.guard = some (j, want)) (hw : wantedA n ops A o = some b)
    (hyes : b = true → ∃ v H', OpDoes P o A H v H' ∧ AOps P n ops rest Q (updO A o.dst v) H') (hno : b = false → AOps P n ops rest Q (updO A o.dst undef) H) (hd : okOp P n o = true) : AOps P n ops (o :: rest) Q A H := by
  intro z ρ w a hs he
  have hwc : Region.wanted o (yielded ops a.tmps) = b := by
    unfold wantedA at hw
    rw [hg] at hw
    simp only at hw
    split at hw
    · rename_i t hsl
      split at hw
      · rename_i htn
        have hv := he.tmps t htn
        have hlt : t < a.tmps.size := by rw [he.size]; exact htn
        rw [Array.getD_eq_getD_getElem?, Array.getElem?_eq_getElem hlt] at hv
        simp only [Option.getD_some] at hv
        have hsl' := hsl
        unfold guardSlot at hsl'
        split at hw
        · rename_i b0 eb
          cases hw
          rw [eb] at hv
          have hcb : a.tmps[t]? = some (.bool b0) := by rw [Array.getElem?_eq_getElem hlt, hv.plain_eq rfl]
          have hy : yielded ops a.tmps j = some b0 := by unfold yielded; rw [hsl']; simp [hcb]
          simp [Region.wanted, hg, hy]
        · rename_i vs0 eb
          cases hw
          rw [eb] at hv
          obtain ⟨vs1, e1, _⟩ := hv.tuple_inv
          have hcb : a.tmps[t]? = some (.tuple vs1) := by rw [Array.getElem?_eq_getElem hlt, e1]
          have hy : yielded ops a.tmps j = none := by unfold yielded; rw [hsl']; simp [hcb]
          simp [Region.wanted, hg, hy]
        · cases hw
      · cases hw
    · cases hw
  refine wpListIn_step fun K hK => ?_
  cases b with
  | true =>
    obtain ⟨v, H', ho, h⟩ := hyes rfl
    rw [if_pos hwc]
    refine ho ρ w a hs (he.op hs hd) K _ (fun v' ρ' w' hv hst hs' => ?_) z
    have := h z ρ' w' (a.put o.dst v') hs' ((he.step hst).putO (okOp_dst hd) hv)
    exact hK _ _ (wpList_lift hst this)
  | false =>
    rw [if_neg (by rw [hwc]; simp)]
    exact ⟨fun _ _ => trivial, hK _ _ (hno rfl z ρ w _ hs (he.putO (okOp_dst hd) (.closed (by simp [undef, closedV]))))⟩

end
end Go.Ab
