/- The interpreter: operations, code, functions; what it gives is so. -/
import Derived.Test.YtgbdkammehhchaaDoorAbRng
import Derived.Test.YtgbdkammehhchaaDoorAbOps5
import Derived.Test.YtgbdkammehhchaaDoorAbOps7
set_option linter.unusedVariables false
namespace Go.Ab

abbrev CallF := FuncId → List Value → Heap → Option (Value × Heap)
/-- Calls of functions, and of loops' yields. -/
structure CallS where
  fn : CallF
  yd : CallF

noncomputable def pureR (H : Heap) : Option Value → Option (Cls × Value × Heap)
  | some v => some (.pure, v, H)
  | none => none

noncomputable def binV (P : Program) (k : Bool) (op : BinOp) (t : TypeId) (x y : Value) : Option Value :=
  match x, y with
  | .int ik a, .int ik' b => match op with
    | .shl | .shr => shiftBin op ik a b
    | _ => if ik = ik' then intBin op ik a b else none
  | .string a, .string b => strBin op (bl a) (bl b)
  | x, y => eqBin P k op t x y

noncomputable def a_pick (P : Program) (call : CallS) (A : Env) (H : Heap) (c x y : Operand) : Option (Cls × Value × Heap) :=
  match ev A c with
    | .bool t => some (.pure, bif t then ev A x else ev A y, H)
    | _ => none

noncomputable def a_nilCheck (P : Program) (call : CallS) (A : Env) (H : Heap) (x : Operand) : Option (Cls × Value × Heap) :=
  bif notNil (ev A x) then some (.pure, ev A x, H) else none

noncomputable def a_binOp (P : Program) (call : CallS) (A : Env) (H : Heap) (op : BinOp) (t : TypeId) (x y : Operand) : Option (Cls × Value × Heap) :=
  pureR H (binV P (isCO x || isCO y) op t (ev A x) (ev A y))

noncomputable def a_unOp (P : Program) (call : CallS) (A : Env) (H : Heap) (op : UnOp) (x : Operand) : Option (Cls × Value × Heap) :=
  pureR H (unBin op (ev A x))

noncomputable def a_convert (P : Program) (call : CallS) (A : Env) (H : Heap) (src dst : TypeId) (x : Operand) : Option (Cls × Value × Heap) :=
  match P.underlying src, P.underlying dst, ev A x with
    | some _, some (.slice e), .string s => match P.underlying e, P.info? e with
      | some (.int .u8), some inf => match inf.zero with
        | some z => bif elemOk P e inf z && Nat.beq inf.size 1 && Nat.ble (bl s).length 140737488355328 then
            some (.alloc (.cells (bytesOf s) e false), .slice (some ⟨H.next, 0, none⟩) (bl s).length (UNK + 1), H.push (.cells (bytesOf s) e false)) else none
        | none => none
      | _, _ => none
    | some (.slice e), some .string, .slice a m c => match P.underlying e, sliceCells 1 (.slice a m c) H with
      | some (.int .u8), some l => match bytesIn l with
        | some bs => some (.gen, .string (mkS bs), H)
        | none => none
      | _, _ => none
    | some (.pointer t), some .unsafePointer, .pointer (some a) => match P.info? t, H.get a.block with
      | some j, some (.cells c e false) => if j.size ≠ 0 ∧ a.off < c.length then some (.gen, .pointer (some a), H) else none
      | _, _ => none
    | some .unsafePointer, some (.pointer u), .pointer (some a) => match P.info? u, H.get a.block with
      | some j, some (.cells c e false) => if liesAt P P.depth e (c.length / P.cellsOf e) a.off u 1 = true then some (.gen, .pointer (some a), H) else none
      | _, _ => none
    | _, _, _ => pureR H (convBin P src dst (ev A x))

noncomputable def a_makeInterface (P : Program) (call : CallS) (A : Env) (H : Heap) (t : TypeId) (x : Operand) : Option (Cls × Value × Heap) :=
  match P.underlying t with
    | some (.interface _) => none
    | some _ => some (.pure, .iface t (ev A x), H)
    | none => none

noncomputable def a_makeFunc (P : Program) (call : CallS) (A : Env) (H : Heap) (fn : Fn) (first captured : Array Operand) : Option (Cls × Value × Heap) :=
  bif noYield fn then some (.pure, .func fn (first.map (ev A)) (captured.map (ev A)), H) else none

noncomputable def a_field (P : Program) (call : CallS) (A : Env) (H : Heap) (t : TypeId) (x : Operand) (f : Nat) : Option (Cls × Value × Heap) :=
  match P.underlying t, ev A x with
    | some (.struct fs), .agg cs => match fs[f]? with
      | some fd => pureR H (apart P fd.type cs fd.offset)
      | none => none
    | _, _ => none

noncomputable def a_fieldAddr (P : Program) (call : CallS) (A : Env) (H : Heap) (t : TypeId) (x : Operand) (f : Nat) : Option (Cls × Value × Heap) :=
  match P.underlying t, ev A x with
    | some (.struct fs), .pointer (some a) => match fs[f]? with
      | some fd => match P.info? fd.type with
        | some inf => bif Nat.beq inf.size 0 then none else some (.pure, .pointer (some ⟨a.block, a.off + fd.offset, none⟩), H)
        | none => none
      | none => none
    | _, _ => none

noncomputable def a_indexAddr (P : Program) (call : CallS) (A : Env) (H : Heap) (t : TypeId) (x ix : Operand) : Option (Cls × Value × Heap) :=
  match ev A ix with
    | .int _ m => match P.underlying t, ev A x with
      | some (.slice e), .slice (some a) len _ => match P.info? e with
        | some inf => if 0 ≤ m ∧ m < len then some (.pure, .pointer (some ⟨a.block, a.off + m.toNat * inf.size, none⟩), H) else none
        | none => none
      | some (.array len e), .pointer (some a) => match P.info? e with
        | some inf => if 0 ≤ m ∧ m < len then some (.pure, .pointer (some ⟨a.block, a.off + m.toNat * inf.size, none⟩), H) else none
        | none => none
      | _, _ => none
    | _ => none

noncomputable def a_index (P : Program) (call : CallS) (A : Env) (H : Heap) (t : TypeId) (x ix : Operand) : Option (Cls × Value × Heap) :=
  match ev A ix with
    | .int _ m => match P.underlying t, ev A x with
      | some .string, .string s => if 0 ≤ m then (match (bl s)[m.toNat]? with | some b => some (.pure, .int .u8 b.toNat, H) | none => none) else none
      | some (.array len e), .agg cs => match P.info? e with
        | some inf => if 0 ≤ m ∧ m < len then pureR H (apart P e cs (m.toNat * inf.size)) else none
        | none => none
      | _, _ => none
    | _ => none

noncomputable def a_extract (P : Program) (call : CallS) (A : Env) (H : Heap) (x : Operand) (ix : Nat) : Option (Cls × Value × Heap) :=
  match ev A x with
    | .tuple vs => pureR H vs[ix]?
    | _ => none

noncomputable def a_typeAssert (P : Program) (call : CallS) (A : Env) (H : Heap) (x : Operand) (t : TypeId) (ok : Bool) : Option (Cls × Value × Heap) :=
  pureR H (aassert P (ev A x) t ok)

noncomputable def a_build (P : Program) (call : CallS) (A : Env) (H : Heap) (t : TypeId) (parts : Array (Nat × Operand)) : Option (Cls × Value × Heap) :=
  match P.underlying t, P.info? t with
    | some (.struct fs), some inf => match inf.zero, placesOf P fs with
      | some z, some pl => bif z.cells.toList.all plain then pureR H ((afill (pl[·]?) z.cells.toList (partsOf A parts)).map fun r => .agg r.toArray) else none
      | _, _ => none
    | some (.array _ e), some inf => match inf.zero, P.info? e with
      | some z, some inf' => bif z.cells.toList.all plain then pureR H ((afill (fun i => some (i * inf'.size, inf'.size)) z.cells.toList (partsOf A parts)).map fun r => .agg r.toArray) else none
      | _, _ => none
    | _, _ => none

noncomputable def a_buildSlice (P : Program) (call : CallS) (A : Env) (H : Heap) (t : TypeId) (len : Nat) (parts : Array (Nat × Operand)) : Option (Cls × Value × Heap) :=
  match P.underlying t with
    | some (.slice e) => match P.info? e with
      | some inf => match inf.zero with
        | some z => bif z.cells.toList.all plain && Nat.blt 0 z.cells.size && Nat.ble len 16777216 && Nat.ble (len * inf.size) 16777216 then
            match afill (fun i => some (i * inf.size, inf.size)) (zeros z.cells (len * inf.size)) (partsOf A parts) with
            | some r => some (.alloc (.cells r e false), .slice (some ⟨H.next, 0, none⟩) len len, H.push (.cells r e false))
            | none => none
          else none
        | none => none
      | none => none
    | _ => none

noncomputable def a_alloc (P : Program) (call : CallS) (A : Env) (H : Heap) (e : TypeId) : Option (Cls × Value × Heap) :=
  match P.info? e with
    | some inf => match inf.zero with
      | some z => bif z.cells.toList.all plain then some (.alloc (.cells z.cells.toList e false), .pointer (some ⟨H.next, 0, none⟩), H.push (.cells z.cells.toList e false)) else none
      | none => none
    | none => none

noncomputable def a_box (P : Program) (call : CallS) (A : Env) (H : Heap) (e : TypeId) (x : Operand) : Option (Cls × Value × Heap) :=
  some (.alloc (.cells (ev A x).cells.toList e false), .pointer (some ⟨H.next, 0, none⟩), H.push (.cells (ev A x).cells.toList e false))

noncomputable def a_makeSlice (P : Program) (call : CallS) (A : Env) (H : Heap) (t : TypeId) (x y : Operand) : Option (Cls × Value × Heap) :=
  match P.underlying t, ev A x, ev A y with
    | some (.slice e), .int .i64 l, .int .i64 c => match P.info? e with
      | some inf => match inf.zero with
        | some z => if elemOk P e inf z = true ∧ 0 ≤ l ∧ l ≤ c ∧ (inf.bytes : Int) * c ≤ 281474976710656 ∧ c ≤ 9223372036854775807 then
            some (.alloc (.cells (zeros z.cells (c.toNat * inf.size)) e false), .slice (some ⟨H.next, 0, none⟩) l.toNat c.toNat, H.push (.cells (zeros z.cells (c.toNat * inf.size)) e false))
          else none
        | none => none
      | none => none
    | _, _, _ => none

noncomputable def a_slice (P : Program) (call : CallS) (A : Env) (H : Heap) (t : TypeId) (x : Operand) (lo hi mx : Option Operand) : Option (Cls × Value × Heap) :=
  match P.underlying t with
    | some .string => match ev A x, mx, boundOf A lo, boundOf A hi with
      | .string s, none, some l, some h => if 0 ≤ l.getD 0 ∧ l.getD 0 ≤ h.getD (bl s).length ∧ h.getD (bl s).length ≤ (bl s).length then some (.pure, .string (mkS (((bl s).drop (l.getD 0).toNat).take ((h.getD (bl s).length).toNat - (l.getD 0).toNat))), H) else none
      | _, _, _, _ => none
    | some (.slice e) => match P.info? e, boundOf A lo, boundOf A hi, boundOf A mx with
      | some inf, some l, some h, some m => if m.isNone || h.isSome then pureR H (asliceS inf.size (ev A x) l h m) else none
      | _, _, _, _ => none
    | some (.array n e) => match ev A x, mx, boundOf A lo, boundOf A hi with
      | .pointer (some a), none, some l, some h => match P.info? e with
        | some inf => if 0 ≤ l.getD 0 ∧ l.getD 0 ≤ h.getD n ∧ h.getD n ≤ n ∧ n < UNK then some (.pure, .slice (some ⟨a.block, a.off + (l.getD 0).toNat * inf.size, none⟩) ((h.getD n).toNat - (l.getD 0).toNat) (n - (l.getD 0).toNat), H) else none
        | none => none
      | _, _, _, _ => none
    | _ => none

noncomputable def a_load (P : Program) (call : CallS) (A : Env) (H : Heap) (t : TypeId) (x : Operand) : Option (Cls × Value × Heap) :=
  match ev A x with
    | .pointer (some a) => match aload P t a H with
      | some v => some (.load, v, H)
      | none => none
    | _ => none

noncomputable def a_store (P : Program) (call : CallS) (A : Env) (H : Heap) (t : TypeId) (x y : Operand) : Option (Cls × Value × Heap) :=
  match ev A x with
    | .pointer (some a) => match astore P t a (ev A y) H with
      | some H' => some (.gen, undef, H')
      | none => none
    | _ => none

/-- A byte. -/
noncomputable def u8ok : Value → Bool
  | .int .u8 m => decide (0 ≤ m) && decide (m < 256)
  | _ => false

noncomputable def a_call (P : Program) (call : CallS) (A : Env) (H : Heap) (c : Call) : Option (Cls × Value × Heap) :=
  match c with
    | ⟨.builtin b, args, ts⟩ => match b, args.toList, ts.toList with
      | .len, [x], [t] => match alen P t (ev A x) with | some m => some (.pure, .int .i64 (m : Int), H) | none => none
      | .cap, [x], [t] => match P.underlying t, ev A x with
        | some (.slice _), .slice _ _ c => bif Nat.blt c UNK then some (.pure, .int .i64 c, H) else none
        | _, _ => none
      | .max, [x, y], _ => match ev A x, ev A y with
        | .int k a, .int k' b => if k = k' then some (.pure, .int k (if b > a then b else a), H) else none
        | _, _ => none
      | .min, [x, y], _ => match ev A x, ev A y with
        | .int k a, .int k' b => if k = k' then some (.pure, .int k (if b < a then b else a), H) else none
        | _, _ => none
      | .append, [x, y], [t, t2] => match P.underlying t, P.underlying t2 with
        | some (.slice e), some td => match P.info? e with
          | some inf => match inf.zero with
            | some z => bif isSeqD td && elemOk P e inf z then (aappend e inf (ev A x) (ev A y) H).map fun r => (.gen, r.1, r.2) else none
            | none => none
          | none => none
        | _, _ => none
      | .copy, [x, y], [t, _] => match P.underlying t with
        | some (.slice e) => match P.info? e with
          | some inf => (acopy inf.size (ev A x) (ev A y) H).map fun r => (.gen, r.1, r.2)
          | none => none
        | _ => none
      | .unsafeSliceData, [x], _ => match ev A x with
        | .slice none _ _ => some (.pure, .pointer none, H)
        | .slice (some a) m _ => if m ≠ 0 then some (.pure, .pointer (some a), H) else none
        | _ => none
      | .unsafeString, [x, y], [pt, _] => match ev A x, ev A y with
        | .pointer none, .int .i64 0 => some (.gen, .string (mkS []), H)
        | .pointer (some a), .int .i64 m => match P.underlying pt, H.get a.block with
          | some (.pointer e), some (.cells c e' false) =>
            if e = e' ∧ a = ⟨a.block, 0, none⟩ ∧ P.cellsOf e = 1 ∧ 0 < m ∧ m.toNat ≤ c.length ∧ m ≤ 9223372036854775807 ∧ (c.take m.toNat).all u8ok = true then
              (match bytesIn (c.take m.toNat) with
              | some bs => some (.gen, .string (mkS bs), H.set a.block (.cells c e true))
              | none => none)
            else none
          | _, _ => none
        | _, _ => none
      | _, _, _ => none
    | ⟨.invoke recv name, args, ts⟩ => match ev A recv with
      | .iface t v => match methodOf P t name with
        | some f => (call.fn f (v :: (args.map (ev A)).toList) H).map fun r => (.gen, r.1, r.2)
        | none => none
      | _ => none
    | ⟨.value (.func f), args, ts⟩ => (call.fn f (args.map (ev A)).toList H).map fun r => (.gen, r.1, r.2)
    | ⟨.value c, args, ts⟩ => match ev A c with
      | .func (.func f) xs ys => (call.fn f (xs.toList ++ (args.map (ev A)).toList ++ ys.toList) H).map fun r => (.gen, r.1, r.2)
      | .func (.yield l) xs ys => bif Nat.beq xs.size 0 && Nat.beq ys.size 0 then (call.yd l (args.map (ev A)).toList H).map fun r => (.gen, r.1, r.2) else none
      | _ => none

noncomputable def a_lookup (P : Program) (call : CallS) (A : Env) (H : Heap) (t : TypeId) (x ix : Operand) (ok : Bool) : Option (Cls × Value × Heap) :=
  match P.underlying t with
  | some (.map k e) => (alook P k e (ev A x) (ev A ix) ok H).map fun v => (.gen, v, H)
  | _ => none

noncomputable def a_put (P : Program) (call : CallS) (A : Env) (H : Heap) (t : TypeId) (m k x : Operand) : Option (Cls × Value × Heap) :=
  match P.underlying t with
  | some (.map kt _) => (aput P kt (ev A m) (ev A k) (ev A x) H).map fun H' => (.gen, undef, H')
  | _ => none

noncomputable def a_range (P : Program) (call : CallS) (A : Env) (H : Heap) (t : TypeId) (x : Operand) : Option (Cls × Value × Heap) :=
  match P.underlying t, ev A x with
  | some .string, .string s => some (.alloc (.iter s 0), .pointer (some ⟨H.next, 0, none⟩), H.push (.iter s 0))
  | _, _ => none

/-- An operation, abstractly: how it acts, its value, the heap behind it. -/
noncomputable def aop (P : Program) (call : CallS) (o : Oper) (A : Env) (H : Heap) : Option (Cls × Value × Heap) :=
  match o.op with
  | .move x => some (.pure, ev A x, H)
  | .assign x => some (.pure, ev A x, H)
  | .pick c x y => a_pick P call A H c x y
  | .nilCheck x => a_nilCheck P call A H x
  | .binOp op t x y _ => a_binOp P call A H op t x y
  | .unOp op _ x => a_unOp P call A H op x
  | .convert src dst x => a_convert P call A H src dst x
  | .makeInterface t x => a_makeInterface P call A H t x
  | .makeFunc fn first captured => a_makeFunc P call A H fn first captured
  | .field t x f => a_field P call A H t x f
  | .fieldAddr t x f => a_fieldAddr P call A H t x f
  | .indexAddr t x ix => a_indexAddr P call A H t x ix
  | .index t x ix => a_index P call A H t x ix
  | .extract x ix => a_extract P call A H x ix
  | .typeAssert x _ t ok => a_typeAssert P call A H x t ok
  | .build t parts => a_build P call A H t parts
  | .buildSlice t len parts => a_buildSlice P call A H t len parts
  | .alloc e => a_alloc P call A H e
  | .box e x => a_box P call A H e x
  | .makeSlice t x y => a_makeSlice P call A H t x y
  | .slice t x lo hi mx => a_slice P call A H t x lo hi mx
  | .load t x => a_load P call A H t x
  | .store t x y => a_store P call A H t x y
  | .call c => a_call P call A H c
  | .makeMap _ none => some (.alloc (.map []), .map (some H.next), H.push (.map []))
  | .lookup t x ix ok => a_lookup P call A H t x ix ok
  | .mapUpdate t m k x => a_put P call A H t m k x
  | .insert t m k x => a_put P call A H t m k x
  | .range t x => a_range P call A H t x
  | .next it true => (anext H (ev A it)).map fun r => (.gen, r.1, r.2)
  | _ => none

section
variable {P : Program} {n : Nat} {A : Env} {H : Heap}

noncomputable def ClsOk (P : Program) (o : Oper) (A : Env) (H : Heap) (v : Value) (H' : Heap) : Cls → Prop
  | .pure => H' = H ∧ ∀ h, OpDoes P o A h v h
  | .load => H' = H ∧ ∃ t x a, o.op = .load t x ∧ ev A x = .pointer (some a) ∧ aload P t a H = some v
  | .alloc b => H' = H.push b ∧ ∀ h, h.next = H.next → OpDoes P o A h v (h.push b)
  | .gen => OpDoes P o A H v H'

theorem ClsOk.does {o : Oper} {v : Value} {H' : Heap} {c : Cls} (h : ClsOk P o A H v H' c) : OpDoes P o A H v H' := by
  cases c with
  | pure => obtain ⟨rfl, h⟩ := h; exact h _
  | load =>
    obtain ⟨rfl, t, x, a, ho, ex, hl⟩ := h
    obtain ⟨dst, op, ty, pos, af, g⟩ := o
    simp only at ho
    subst ho
    exact od_load ex hl
  | alloc b => obtain ⟨rfl, h⟩ := h; exact h _ rfl
  | gen => exact h

noncomputable def CallOk (P : Program) (call : CallF) : Prop := ∀ f args H v H', call f args H = some (v, H') → Callable P f args H v H'
structure CallSOk (P : Program) (call : CallS) : Prop where
  fn : CallOk P call.fn
  yd : ∀ l args H v H', call.yd l args H = some (v, H') → YDoes P l args H v H'

theorem pureR_some {r : Option Value} {c : Cls} {v : Value} {H' : Heap} (h : pureR H r = some (c, v, H')) : r = some v ∧ c = .pure ∧ H' = H := by
  cases r with
  | none => simp [pureR] at h
  | some u => simp [pureR] at h; obtain ⟨rfl, rfl, rfl⟩ := h; exact ⟨rfl, rfl, rfl⟩

theorem binV_does {op : BinOp} {t t' : TypeId} {x y : Operand} {v : Value} {d : Option Nat} {ty : TypeId} {pos : String} {af : Array Edge} {g : Option (Nat × Bool)} (h : binV P (isCO x || isCO y) op t (ev A x) (ev A y) = some v) : OpDoes P ⟨d, .binOp op t x y t', ty, pos, af, g⟩ A H v H := by
  unfold binV at h
  split at h
  · rename_i k a k' b ex ey
    split at h
    · exact od_shift ex ey h
    · exact od_shift ex ey h
    · split at h
      · rename_i e; subst e; exact od_int ex ey h
      · cases h
  · rename_i a b ex ey; exact od_str ex ey h
  · rename_i h1 h2; exact od_eq h

set_option maxHeartbeats 2000000 in
theorem aop_sound {call : CallS} (hcall : CallSOk P call) {o : Oper} {c : Cls} {v : Value} {H' : Heap} (h : aop P call o A H = some (c, v, H')) : ClsOk P o A H v H' c := by
  obtain ⟨dst, op, ty, pos, af, g⟩ := o
  unfold aop at h
  split at h
  case h_1 x hop => simp only at hop; subst hop; simp only [Option.some.injEq, Prod.mk.injEq] at h; obtain ⟨rfl, rfl, rfl⟩ := h; exact ⟨rfl, fun h => od_move⟩
  case h_2 x hop => simp only at hop; subst hop; simp only [Option.some.injEq, Prod.mk.injEq] at h; obtain ⟨rfl, rfl, rfl⟩ := h; exact ⟨rfl, fun h => od_assign⟩
  case h_3 cc x y hop =>
    simp only at hop; subst hop; unfold a_pick at h
    split at h
    · rename_i t ec
      simp only [Option.some.injEq, Prod.mk.injEq] at h; obtain ⟨rfl, rfl, rfl⟩ := h
      refine ⟨rfl, fun h => ?_⟩
      have := od_pick (P := P) (H := h) (d := dst) (ty := ty) (pos := pos) (af := af) (g := g) (x := x) (y := y) ec
      cases t <;> exact this
    · cases h
  case h_4 x hop =>
    simp only at hop; subst hop; unfold a_nilCheck at h
    cases hn : notNil (ev A x) with
    | false => rw [hn] at h; cases h
    | true =>
      rw [hn] at h
      simp only [cond_true, Option.some.injEq, Prod.mk.injEq] at h; obtain ⟨rfl, rfl, rfl⟩ := h
      exact ⟨rfl, fun h => od_nilCheck hn⟩
  case h_5 bop t x y t' hop =>
    simp only at hop; subst hop; unfold a_binOp at h
    obtain ⟨h1, rfl, rfl⟩ := pureR_some h
    exact ⟨rfl, fun h => binV_does h1⟩
  case h_6 uop t x hop =>
    simp only at hop; subst hop; unfold a_unOp at h
    obtain ⟨h1, rfl, rfl⟩ := pureR_some h
    exact ⟨rfl, fun h => od_un h1⟩
  case h_7 src d' x hop =>
    simp only at hop; subst hop; unfold a_convert at h
    split at h
    · rename_i u e s hu hd ex
      split at h
      · rename_i inf h8 hi
        split at h
        · rename_i z hz
          cases hc : (elemOk P e inf z && Nat.beq inf.size 1 && Nat.ble (bl s).length 140737488355328) with
          | false => rw [hc] at h; cases h
          | true =>
            rw [hc] at h
            simp only [cond_true, Option.some.injEq, Prod.mk.injEq] at h; obtain ⟨rfl, rfl, rfl⟩ := h
            simp only [Bool.and_eq_true, nbeq, decide_eq_true_eq, Nat.ble_eq] at hc
            refine ⟨rfl, fun h hn => ?_⟩
            rw [← hn]
            exact od_toBytes hu hd h8 (ElemOk.mk' hi hz hc.1.1) hc.1.2 ex hc.2
        · cases h
      · cases h
    · rename_i e a m cp hu hd ex
      split at h
      · rename_i l h8 hl
        split at h
        · rename_i bs hb
          simp only [Option.some.injEq, Prod.mk.injEq] at h; obtain ⟨rfl, rfl, rfl⟩ := h
          exact od_toStr hu h8 hd (by rw [ex]; exact hl) hb
        · cases h
      · cases h
    · rename_i t a hu hd ex
      split at h
      · rename_i j c e hi hg
        split at h
        · rename_i hc
          simp only [Option.some.injEq, Prod.mk.injEq] at h; obtain ⟨rfl, rfl, rfl⟩ := h
          exact od_toUnsafe ex hu hd hi hc.1 hg hc.2
        · cases h
      · cases h
    · rename_i u a hu hd ex
      split at h
      · rename_i j c e hi hg
        split at h
        · rename_i hc
          simp only [Option.some.injEq, Prod.mk.injEq] at h; obtain ⟨rfl, rfl, rfl⟩ := h
          exact od_fromUnsafe ex hu hd hi hg hc
        · cases h
      · cases h
    · obtain ⟨h1, rfl, rfl⟩ := pureR_some h
      exact ⟨rfl, fun h => od_conv h1⟩
  case h_8 t x hop =>
    simp only at hop; subst hop; unfold a_makeInterface at h
    split at h
    · cases h
    · rename_i td hni htd
      simp only [Option.some.injEq, Prod.mk.injEq] at h; obtain ⟨rfl, rfl, rfl⟩ := h
      refine ⟨rfl, fun h => od_makeInterface htd ?_⟩
      cases td <;> first | rfl | exact absurd rfl (hni _)
    · cases h
  case h_9 fn first captured hop =>
    simp only at hop; subst hop; unfold a_makeFunc at h
    cases hn : noYield fn with
    | false => rw [hn] at h; cases h
    | true =>
      rw [hn] at h
      simp only [cond_true, Option.some.injEq, Prod.mk.injEq] at h; obtain ⟨rfl, rfl, rfl⟩ := h
      exact ⟨rfl, fun h => od_makeFunc hn⟩
  case h_10 t x f hop =>
    simp only at hop; subst hop; unfold a_field at h
    split at h
    · rename_i fs cs ht ex
      split at h
      · rename_i fd hf
        obtain ⟨h1, rfl, rfl⟩ := pureR_some h
        exact ⟨rfl, fun h => od_field ht hf ex h1⟩
      · cases h
    · cases h
  case h_11 t x f hop =>
    simp only at hop; subst hop; unfold a_fieldAddr at h
    split at h
    · rename_i fs a ht ex
      split at h
      · rename_i fd hf
        split at h
        · rename_i inf hi
          cases hz : Nat.beq inf.size 0 with
          | true => rw [hz] at h; cases h
          | false =>
            rw [hz] at h
            simp only [cond_false, Option.some.injEq, Prod.mk.injEq] at h; obtain ⟨rfl, rfl, rfl⟩ := h
            exact ⟨rfl, fun h => od_fieldAddr ht hf hi hz ex⟩
        · cases h
      · cases h
    · cases h
  case h_12 t x ix hop =>
    simp only at hop; subst hop; unfold a_indexAddr at h
    split at h
    · rename_i k m eix
      split at h
      · rename_i e a len cap ht ex
        split at h
        · rename_i inf hi
          split at h
          · rename_i hc
            simp only [Option.some.injEq, Prod.mk.injEq] at h; obtain ⟨rfl, rfl, rfl⟩ := h
            exact ⟨rfl, fun h => od_indexAddr_slice ht hi ex eix hc.1 hc.2⟩
          · cases h
        · cases h
      · rename_i len e a ht ex
        split at h
        · rename_i inf hi
          split at h
          · rename_i hc
            simp only [Option.some.injEq, Prod.mk.injEq] at h; obtain ⟨rfl, rfl, rfl⟩ := h
            exact ⟨rfl, fun h => od_indexAddr_array ht hi ex eix hc.1 hc.2⟩
          · cases h
        · cases h
      · cases h
    · cases h
  case h_13 t x ix hop =>
    simp only at hop; subst hop; unfold a_index at h
    split at h
    · rename_i k m eix
      split at h
      · rename_i s ht ex
        split at h
        · rename_i h0
          split at h
          · rename_i b hb
            simp only [Option.some.injEq, Prod.mk.injEq] at h; obtain ⟨rfl, rfl, rfl⟩ := h
            exact ⟨rfl, fun h => od_index_string ht ex eix h0 hb⟩
          · cases h
        · cases h
      · rename_i len e cs ht ex
        split at h
        · rename_i inf hi
          split at h
          · rename_i hc
            obtain ⟨h1, rfl, rfl⟩ := pureR_some h
            exact ⟨rfl, fun h => od_index_array ht hi ex eix hc.1 hc.2 h1⟩
          · cases h
        · cases h
      · cases h
    · cases h
  case h_14 x ix hop =>
    simp only at hop; subst hop; unfold a_extract at h
    split at h
    · rename_i vs ex
      obtain ⟨h1, rfl, rfl⟩ := pureR_some h
      exact ⟨rfl, fun h => od_extract ex h1⟩
    · cases h
  case h_15 x xt t ok hop =>
    simp only at hop; subst hop; unfold a_typeAssert at h
    obtain ⟨h1, rfl, rfl⟩ := pureR_some h
    exact ⟨rfl, fun h => od_assert h1⟩
  case h_16 t parts hop =>
    simp only at hop; subst hop; unfold a_build at h
    split at h
    · rename_i fs inf ht hi
      split at h
      · rename_i z pl hz hpl
        cases hc : z.cells.toList.all plain with
        | false => rw [hc] at h; cases h
        | true =>
          rw [hc] at h
          obtain ⟨h1, rfl, rfl⟩ := pureR_some h
          simp only [Option.map_eq_some_iff] at h1
          obtain ⟨r, hr, rfl⟩ := h1
          exact ⟨rfl, fun h => od_build_struct ht hi hz hc hpl hr⟩
      · cases h
    · rename_i len e inf ht hi
      split at h
      · rename_i z inf' hz hi'
        cases hc : z.cells.toList.all plain with
        | false => rw [hc] at h; cases h
        | true =>
          rw [hc] at h
          obtain ⟨h1, rfl, rfl⟩ := pureR_some h
          simp only [Option.map_eq_some_iff] at h1
          obtain ⟨r, hr, rfl⟩ := h1
          exact ⟨rfl, fun h => od_build_array ht hi hz hc hi' hr⟩
      · cases h
    · cases h
  case h_17 t len parts hop =>
    simp only at hop; subst hop; unfold a_buildSlice at h
    split at h
    · rename_i e ht
      split at h
      · rename_i inf hi
        split at h
        · rename_i z hz
          cases hc : (z.cells.toList.all plain && Nat.blt 0 z.cells.size && Nat.ble len 16777216 && Nat.ble (len * inf.size) 16777216) with
          | false => rw [hc] at h; cases h
          | true =>
            rw [hc] at h
            simp only [cond_true] at h
            simp only [Bool.and_eq_true] at hc
            obtain ⟨⟨⟨c1, c2⟩, c3⟩, c4⟩ := hc
            split at h
            · rename_i r hr
              simp only [Option.some.injEq, Prod.mk.injEq] at h; obtain ⟨rfl, rfl, rfl⟩ := h
              refine ⟨rfl, fun h hn => ?_⟩
              rw [← hn]
              exact od_buildSlice ht hi hz c1 c2 c3 c4 hr
            · cases h
        · cases h
      · cases h
    · cases h
  case h_18 e hop =>
    simp only at hop; subst hop; unfold a_alloc at h
    split at h
    · rename_i inf hi
      split at h
      · rename_i z hz
        cases hc : z.cells.toList.all plain with
        | false => rw [hc] at h; cases h
        | true =>
          rw [hc] at h
          simp only [cond_true, Option.some.injEq, Prod.mk.injEq] at h; obtain ⟨rfl, rfl, rfl⟩ := h
          refine ⟨rfl, fun h hn => ?_⟩
          rw [← hn]
          exact od_alloc hi hz hc
      · cases h
    · cases h
  case h_19 e x hop =>
    simp only at hop; subst hop; unfold a_box at h
    simp only [Option.some.injEq, Prod.mk.injEq] at h; obtain ⟨rfl, rfl, rfl⟩ := h
    refine ⟨rfl, fun h hn => ?_⟩
    rw [← hn]
    exact od_box
  case h_20 t x y hop =>
    simp only at hop; subst hop; unfold a_makeSlice at h
    split at h
    · rename_i e l cc ht ex ey
      split at h
      · rename_i inf hi
        split at h
        · rename_i z hz
          split at h
          · rename_i hc
            obtain ⟨c0, c1, c2, c3, c4⟩ := hc
            simp only [Option.some.injEq, Prod.mk.injEq] at h; obtain ⟨rfl, rfl, rfl⟩ := h
            refine ⟨rfl, fun h hn => ?_⟩
            rw [← hn]
            exact od_makeSlice ht (ElemOk.mk' hi hz c0) ex ey c1 c2 c3 c4
          · cases h
        · cases h
      · cases h
    · cases h
  case h_21 t x lo hi mx hop =>
    simp only at hop; subst hop; unfold a_slice at h
    split at h
    · rename_i ht
      split at h
      · rename_i s l hh ex el eh
        split at h
        · rename_i hc
          simp only [Option.some.injEq, Prod.mk.injEq] at h; obtain ⟨rfl, rfl, rfl⟩ := h
          exact ⟨rfl, fun h => od_slice_string ht ex el eh hc.1 hc.2.1 hc.2.2⟩
        · cases h
      · cases h
    · rename_i e ht
      split at h
      · rename_i inf l hh m hi' el eh em
        split at h
        · rename_i hc
          obtain ⟨h1, rfl, rfl⟩ := pureR_some h
          refine ⟨rfl, fun h => od_slice_slice ht hi' el eh em (fun hm hn => ?_) h1⟩
          subst hn
          cases m with
          | none => exact hm rfl
          | some m => simp at hc
        · cases h
      · cases h
    · rename_i m e ht
      split at h
      · rename_i a l hh ex el eh
        split at h
        · rename_i inf hi'
          split at h
          · rename_i hc
            simp only [Option.some.injEq, Prod.mk.injEq] at h; obtain ⟨rfl, rfl, rfl⟩ := h
            exact ⟨rfl, fun h => od_slice_array ht hi' ex el eh hc.1 hc.2.1 hc.2.2.1 hc.2.2.2⟩
          · cases h
        · cases h
      · cases h
    · cases h
  case h_22 t x hop =>
    simp only at hop; subst hop; unfold a_load at h
    split at h
    · rename_i a ex
      split at h
      · rename_i v' hl
        simp only [Option.some.injEq, Prod.mk.injEq] at h; obtain ⟨rfl, rfl, rfl⟩ := h
        exact ⟨rfl, t, x, a, rfl, ex, hl⟩
      · cases h
    · cases h
  case h_23 t x y hop =>
    simp only at hop; subst hop; unfold a_store at h
    split at h
    · rename_i a ex
      split at h
      · rename_i H1 hl
        simp only [Option.some.injEq, Prod.mk.injEq] at h; obtain ⟨rfl, rfl, rfl⟩ := h
        exact od_store ex hl
      · cases h
    · cases h
  case h_24 cc hop =>
    simp only at hop; subst hop; unfold a_call at h
    split at h
    · rename_i b args ts
      obtain ⟨args⟩ := args
      obtain ⟨ts⟩ := ts
      simp only at h
      split at h
      · rename_i x t
        split at h
        · rename_i m hm
          simp only [Option.some.injEq, Prod.mk.injEq] at h; obtain ⟨rfl, rfl, rfl⟩ := h
          exact ⟨rfl, fun h => od_len hm⟩
        · cases h
      · rename_i x t
        split at h
        · rename_i e a m cp ht ex
          cases hc : Nat.blt cp UNK with
          | false => rw [hc] at h; cases h
          | true =>
            rw [hc] at h
            simp only [cond_true, Option.some.injEq, Prod.mk.injEq] at h; obtain ⟨rfl, rfl, rfl⟩ := h
            exact ⟨rfl, fun h => od_cap ht ex hc⟩
        · cases h
      · rename_i x y
        split at h
        · rename_i k a k' b' ex ey
          split at h
          · rename_i e; subst e
            simp only [Option.some.injEq, Prod.mk.injEq] at h; obtain ⟨rfl, rfl, rfl⟩ := h
            exact ⟨rfl, fun h => od_max2 ex ey⟩
          · cases h
        · cases h
      · rename_i x y
        split at h
        · rename_i k a k' b' ex ey
          split at h
          · rename_i e; subst e
            simp only [Option.some.injEq, Prod.mk.injEq] at h; obtain ⟨rfl, rfl, rfl⟩ := h
            exact ⟨rfl, fun h => od_min2 ex ey⟩
          · cases h
        · cases h
      · rename_i x y t t2
        split at h
        · rename_i e td ht ht2
          split at h
          · rename_i inf hi
            split at h
            · rename_i z hz
              cases hc : (isSeqD td && elemOk P e inf z) with
              | false => rw [hc] at h; cases h
              | true =>
                rw [hc] at h
                simp only [cond_true, Option.map_eq_some_iff, Prod.mk.injEq] at h
                obtain ⟨⟨v1, H1⟩, hr, rfl, rfl, rfl⟩ := h
                simp only [Bool.and_eq_true] at hc
                exact od_append ht ht2 hc.1 (ElemOk.mk' hi hz hc.2) hr
            · cases h
          · cases h
        · cases h
      · rename_i x y t t2
        split at h
        · rename_i e ht
          split at h
          · rename_i inf hi
            simp only [Option.map_eq_some_iff, Prod.mk.injEq] at h
            obtain ⟨⟨v1, H1⟩, hr, rfl, rfl, rfl⟩ := h
            exact od_copy ht hi hr
          · cases h
        · cases h
      · rename_i x
        split at h
        · rename_i m cp ex
          simp only [Option.some.injEq, Prod.mk.injEq] at h; obtain ⟨rfl, rfl, rfl⟩ := h
          exact ⟨rfl, fun h => od_sliceData_nil ex⟩
        · rename_i a m cp ex
          split at h
          · rename_i hm
            simp only [Option.some.injEq, Prod.mk.injEq] at h; obtain ⟨rfl, rfl, rfl⟩ := h
            exact ⟨rfl, fun h => od_sliceData ex hm⟩
          · cases h
        · cases h
      · rename_i x y pt it
        split at h
        · rename_i ex ey
          simp only [Option.some.injEq, Prod.mk.injEq] at h; obtain ⟨rfl, rfl, rfl⟩ := h
          exact od_unsafeStr_nil ex ey
        · rename_i a m ex ey
          split at h
          · rename_i e c e' hp hg
            split at h
            · rename_i hc
              obtain ⟨rfl, c1, c2, c3, c4, c5, c6⟩ := hc
              split at h
              · rename_i bs hb
                simp only [Option.some.injEq, Prod.mk.injEq] at h; obtain ⟨rfl, rfl, rfl⟩ := h
                have em : m = (m.toNat : Int) := by omega
                rw [em] at ey
                rw [c1] at ex
                exact od_unsafeStr ex ey hp c2 hg (by omega) c4 (by omega) hb (fun v hv => by
                  have := List.all_eq_true.1 c6 v hv
                  unfold u8ok at this
                  split at this
                  · rename_i k
                    simp only [Bool.and_eq_true, decide_eq_true_eq] at this
                    exact ⟨k, rfl, this.1, this.2⟩
                  · cases this)
              · cases h
            · cases h
          · cases h
        · cases h
      · cases h
    · rename_i recv name args ts
      split at h
      · rename_i t v0 er
        split at h
        · rename_i f hm
          simp only [Option.map_eq_some_iff, Prod.mk.injEq] at h
          obtain ⟨⟨v1, H1⟩, hr, rfl, rfl, rfl⟩ := h
          exact od_invoke er hm (hcall.fn _ _ _ _ _ hr)
        · cases h
      · cases h
    · rename_i f args ts
      simp only [Option.map_eq_some_iff, Prod.mk.injEq] at h
      obtain ⟨⟨v1, H1⟩, hr, rfl, rfl, rfl⟩ := h
      exact od_call (hcall.fn _ _ _ _ _ hr)
    · rename_i cv args ts _
      split at h
      · rename_i f xs ys ec
        simp only [Option.map_eq_some_iff, Prod.mk.injEq] at h
        obtain ⟨⟨v1, H1⟩, hr, rfl, rfl, rfl⟩ := h
        exact od_callv ec (hcall.fn _ _ _ _ _ hr)
      · rename_i l xs ys ec
        cases hc : (Nat.beq xs.size 0 && Nat.beq ys.size 0) with
        | false => rw [hc] at h; cases h
        | true =>
          rw [hc] at h
          simp only [Bool.and_eq_true, nbeq, decide_eq_true_eq, Array.size_eq_zero_iff] at hc
          obtain ⟨rfl, rfl⟩ := hc
          simp only [cond_true, Option.map_eq_some_iff, Prod.mk.injEq] at h
          obtain ⟨⟨v1, H1⟩, hr, rfl, rfl, rfl⟩ := h
          exact od_yield ec (hcall.yd _ _ _ _ _ hr)
      · cases h
  case h_25 t hop =>
    simp only at hop; subst hop
    simp only [Option.some.injEq, Prod.mk.injEq] at h; obtain ⟨rfl, rfl, rfl⟩ := h
    exact ⟨rfl, fun h hn => by rw [← hn]; exact od_makeMap⟩
  case h_26 t x ix ok hop =>
    simp only at hop; subst hop; unfold a_lookup at h
    split at h
    · rename_i k e ht
      simp only [Option.map_eq_some_iff, Prod.mk.injEq] at h
      obtain ⟨v1, hr, rfl, rfl, rfl⟩ := h
      exact od_lookup ht hr
    · cases h
  case h_27 t m k x hop =>
    simp only at hop; subst hop; unfold a_put at h
    split at h
    · rename_i kt e ht
      simp only [Option.map_eq_some_iff, Prod.mk.injEq] at h
      obtain ⟨H1, hr, rfl, rfl, rfl⟩ := h
      exact od_mapUpdate ht hr
    · cases h
  case h_28 t m k x hop =>
    simp only at hop; subst hop; unfold a_put at h
    split at h
    · rename_i kt e ht
      simp only [Option.map_eq_some_iff, Prod.mk.injEq] at h
      obtain ⟨H1, hr, rfl, rfl, rfl⟩ := h
      exact od_insert ht hr
    · cases h
  case h_29 t x hop =>
    simp only at hop; subst hop; unfold a_range at h
    split at h
    · rename_i s ht ex
      simp only [Option.some.injEq, Prod.mk.injEq] at h; obtain ⟨rfl, rfl, rfl⟩ := h
      exact ⟨rfl, fun h hn => by rw [← hn]; exact od_range ht ex⟩
    · cases h
  case h_30 it hop =>
    simp only at hop; subst hop
    simp only [Option.map_eq_some_iff, Prod.mk.injEq] at h
    obtain ⟨⟨v1, H1⟩, hr, rfl, rfl, rfl⟩ := h
    exact od_next hr
  case h_31 => cases h
end
end Go.Ab
