/- Operations that touch no memory. -/
import Derived.Test.YtdjkkoacinpdeaaDoorAbStore
import Derived.Laws.StructEq
import Derived.Laws.Cover3
import Derived.Laws.Pointers
set_option linter.unusedVariables false
namespace Go.Ab

theorem V.plain_eq {ρ : Ren} {v z : Value} (h : V ρ v z) (hp : plain v = true) : z = v := by
  cases h <;> first | rfl | (simp [plain] at hp)

section
variable {P : Program} {n : Nat} {A : Env} {H : Heap} {d : Option Nat} {ty : TypeId} {pos : String} {af : Array Edge} {g : Option (Nat × Bool)}

theorem evalP {ρ : Ren} {a : Act} {x : Operand} {v : Value} (h : V ρ (ev A x) (a.eval x)) (ex : ev A x = v) (hp : plain v = true) : a.eval x = v := by
  rw [ex] at h
  exact h.plain_eq hp

theorem od_move {x : Operand} : OpDoes P ⟨d, .move x, ty, pos, af, g⟩ A H (ev A x) H :=
  .pure_ fun ρ w a hs he => ⟨a.eval x, by simp only [execOp, Sem.run_pure], he x (by simp [Op.operands])⟩
theorem od_assign {x : Operand} : OpDoes P ⟨d, .assign x, ty, pos, af, g⟩ A H (ev A x) H :=
  .pure_ fun ρ w a hs he => ⟨a.eval x, by simp only [execOp, Sem.run_pure], he x (by simp [Op.operands])⟩
theorem od_pick {c x y : Operand} {t : Bool} (ec : ev A c = .bool t) :
    OpDoes P ⟨d, .pick c x y, ty, pos, af, g⟩ A H (if t then ev A x else ev A y) H :=
  .pure_ fun ρ w a hs he => by
    have e := evalP (he c (by simp [Op.operands])) ec rfl
    refine ⟨if t then a.eval x else a.eval y, ?_, ?_⟩
    · simp only [execOp, e, asBool, pure_bind, Sem.run_pure]
    · cases t
      · exact he y (by simp [Op.operands])
      · exact he x (by simp [Op.operands])

/-- What a check for nil lets by. -/
noncomputable def notNil : Value → Bool
  | .pointer none | .nilIface | .nilFunc => false
  | .func (.method _) _ _ => false
  | _ => true

theorem od_nilCheck {x : Operand} (hn : notNil (ev A x) = true) : OpDoes P ⟨d, .nilCheck x, ty, pos, af, g⟩ A H (ev A x) H :=
  .pure_ fun ρ w a hs he => by
    have hv := he x (by simp [Op.operands])
    refine ⟨a.eval x, ?_, hv⟩
    simp only [execOp]
    generalize ev A x = v at hv hn
    generalize a.eval x = z at hv
    cases hv with
    | same v hp => cases v <;> simp [plain, notNil] at hp hn <;> first | rfl | (rename_i p; cases p <;> simp_all)
    | func fn xs ys xs' ys' h1 h2 h3 h4 h5 => cases fn <;> simp [notNil] at hn <;> rfl
    | _ => rfl

/-! ### Integers -/

noncomputable def intBin (op : BinOp) (k : IntKind) (a b : Int) : Option Value :=
  match op with
  | .add => some (.int k (k.wrap (a + b)))
  | .sub => some (.int k (k.wrap (a - b)))
  | .mul => some (.int k (k.wrap (a * b)))
  | .quo => if b = 0 then none else some (.int k (k.wrap (a.tdiv b)))
  | .rem => if b = 0 then none else some (.int k (a.tmod b))
  | .and => some (.int k (k.wrap (BitVec.ofInt k.bits a &&& BitVec.ofInt k.bits b).toNat))
  | .or => some (.int k (k.wrap (BitVec.ofInt k.bits a ||| BitVec.ofInt k.bits b).toNat))
  | .xor => some (.int k (k.wrap (BitVec.ofInt k.bits a ^^^ BitVec.ofInt k.bits b).toNat))
  | .andNot => some (.int k (k.wrap (BitVec.ofInt k.bits a &&& ~~~BitVec.ofInt k.bits b).toNat))
  | .eql => some (.bool (a == b))
  | .neq => some (.bool (a != b))
  | .lss => some (.bool (decide (a < b)))
  | .leq => some (.bool (decide (a ≤ b)))
  | .gtr => some (.bool (decide (a > b)))
  | .geq => some (.bool (decide (a ≥ b)))
  | _ => none

theorem run_intBin {op : BinOp} {k : IntKind} {a b : Int} {v : Value} (t : TypeId) (w : World) (h : intBin op k a b = some v) : (binOp op t (.int k a) (.int k b)).run P w = .ok v w ∧ plain v = true := by
  cases op <;> simp only [intBin, reduceCtorEq] at h <;> simp only [binOp, ne_eq, not_true_eq_false, if_false] <;> first
    | (cases h; exact ⟨rfl, rfl⟩)
    | (split at h
       · cases h
       · cases h; rename_i hb; simp only [Op.intDiv, hb, if_false]; exact ⟨rfl, rfl⟩)

theorem run_eqGuard_int (op : BinOp) (t : TypeId) (x y : Operand) (k k' : IntKind) (a b : Int) (w : World) : (eqGuard op t x y (.int k a) (.int k' b)).run P w = .ok () w := by
  cases op <;> rfl

theorem od_int {op : BinOp} {t t' : TypeId} {x y : Operand} {k : IntKind} {a b : Int} {v : Value} (ex : ev A x = .int k a) (ey : ev A y = .int k b) (h : intBin op k a b = some v) :
    OpDoes P ⟨d, .binOp op t x y t', ty, pos, af, g⟩ A H v H :=
  .pure_ fun ρ w s hs he => by
    have e1 := evalP (he x (by simp [Op.operands])) ex rfl
    have e2 := evalP (he y (by simp [Op.operands])) ey rfl
    obtain ⟨h1, h2⟩ := run_intBin (P := P) t w h
    refine ⟨v, ?_, .same v h2⟩
    simp only [execOp, e1, e2, Sem.run_bind, run_eqGuard_int, Result.andThen_ok, h1, Sem.run_pure]

noncomputable def shiftBin (op : BinOp) (k : IntKind) (a b : Int) : Option Value :=
  if b < 0 then none else
  match op with
  | .shl => some (.int k (k.wrap (a * 2 ^ (min b.toNat k.bits))))
  | .shr => some (.int k (a.fdiv (2 ^ (min b.toNat k.bits))))
  | _ => none

theorem od_shift {op : BinOp} {t t' : TypeId} {x y : Operand} {k k' : IntKind} {a b : Int} {v : Value} (ex : ev A x = .int k a) (ey : ev A y = .int k' b) (h : shiftBin op k a b = some v) :
    OpDoes P ⟨d, .binOp op t x y t', ty, pos, af, g⟩ A H v H :=
  .pure_ fun ρ w s hs he => by
    have e1 := evalP (he x (by simp [Op.operands])) ex rfl
    have e2 := evalP (he y (by simp [Op.operands])) ey rfl
    have hr : (binOp op t (.int k a) (.int k' b)).run P w = .ok v w ∧ plain v = true := by
      unfold shiftBin at h
      split at h
      · cases h
      · rename_i hb
        cases op <;> simp only [reduceCtorEq] at h <;> (cases h; simp only [binOp, Op.shift, hb, if_false]; exact ⟨rfl, rfl⟩)
    refine ⟨v, ?_, .same v hr.2⟩
    simp only [execOp, e1, e2, Sem.run_bind, run_eqGuard_int, Result.andThen_ok, hr.1, Sem.run_pure]

/-- A string's bytes; a string of bytes. -/
noncomputable def bl (s : ByteArray) : List UInt8 := s.data.toList
noncomputable def mkS (l : List UInt8) : ByteArray := ⟨⟨l⟩⟩
@[simp] theorem bl_mkS (l : List UInt8) : bl (mkS l) = l := rfl
@[simp] theorem mkS_bl (s : ByteArray) : mkS (bl s) = s := rfl
theorem bl_size (s : ByteArray) : (bl s).length = s.size := rfl

noncomputable def strBin (op : BinOp) (x y : List UInt8) : Option Value :=
  match op with
  | .add => if x.length + y.length ≤ 9223372036854775807 then some (.string (mkS (x ++ y))) else none
  | .eql => some (.bool (x == y))
  | .neq => some (.bool !(x == y))
  | .lss => some (.bool (Op.bytesLess x y))
  | .leq => some (.bool (Op.bytesLess x y || x == y))
  | .gtr => some (.bool !(Op.bytesLess x y || x == y))
  | .geq => some (.bool !(Op.bytesLess x y))
  | _ => none

theorem bytes_append (x y : ByteArray) : x ++ y = mkS (bl x ++ bl y) := by
  apply ByteArray.ext
  rw [ByteArray.data_append]
  apply Array.ext'
  simp [mkS, bl]

theorem od_str {op : BinOp} {t t' : TypeId} {x y : Operand} {a b : ByteArray} {v : Value} (ex : ev A x = .string a) (ey : ev A y = .string b) (h : strBin op (bl a) (bl b) = some v) :
    OpDoes P ⟨d, .binOp op t x y t', ty, pos, af, g⟩ A H v H :=
  .pure_ fun ρ w s hs he => by
    have e1 := evalP (he x (by simp [Op.operands])) ex rfl
    have e2 := evalP (he y (by simp [Op.operands])) ey rfl
    have hgd : (eqGuard op t x y (.string a) (.string b)).run P w = .ok () w := by cases op <;> rfl
    have hr : (binOp op t (.string a) (.string b)).run P w = .ok v w ∧ plain v = true := by
      cases op <;> simp only [strBin, reduceCtorEq] at h <;> first
        | (cases h; simp only [binOp, Op.stringOp, ByteArray.toList_eq]; exact ⟨rfl, rfl⟩)
        | (split at h
           · cases h
             rename_i hb
             refine ⟨?_, rfl⟩
             simp only [bl_size] at hb
             simp only [binOp, Op.stringOp]
             rw [if_neg (by simp; omega), bytes_append]
             rfl
           · cases h)
    refine ⟨v, ?_, .same v hr.2⟩
    simp only [execOp, e1, e2, Sem.run_bind, hgd, Result.andThen_ok, hr.1, Sem.run_pure]

noncomputable def unBin (op : UnOp) : Value → Option Value
  | .int k m => match op with
    | .neg => some (.int k (k.wrap (0 - m)))
    | .xor => some (.int k (k.wrap (BitVec.ofInt k.bits (if k.signed then -1 else k.max) ^^^ BitVec.ofInt k.bits m).toNat))
    | _ => none
  | .bool b => match op with
    | .not => some (.bool !b)
    | _ => none
  | _ => none

theorem od_un {op : UnOp} {t : TypeId} {x : Operand} {v : Value} (h : unBin op (ev A x) = some v) : OpDoes P ⟨d, .unOp op t x, ty, pos, af, g⟩ A H v H :=
  .pure_ fun ρ w s hs he => by
    have hv := he x (by simp [Op.operands])
    have hr : (Op.unary op (s.eval x)).run P w = .ok v w ∧ plain v = true := by
      generalize ev A x = u at hv h
      cases u with
      | int k m =>
        rw [hv.plain_eq rfl]
        cases op <;> simp only [unBin, reduceCtorEq] at h <;> (cases h; exact ⟨rfl, rfl⟩)
      | bool b =>
        rw [hv.plain_eq rfl]
        cases op <;> simp only [unBin, reduceCtorEq] at h <;> (cases h; exact ⟨rfl, rfl⟩)
      | _ => simp [unBin] at h
    refine ⟨v, ?_, .same v hr.2⟩
    simp only [execOp, Sem.run_bind, hr.1, Result.andThen_ok, Sem.run_pure]

/-! ### Conversions without memory -/

noncomputable def convBin (P : Program) (src dst : TypeId) (x : Value) : Option Value :=
  match P.underlying src, P.underlying dst with
  | some _, some (.int k) => match x with | .int _ m => some (.int k (k.wrap m)) | _ => none
  | some (.string), some (.string) => match x with | .string s => some (.string s) | _ => none
  | some (.int _), some (.string) => match x with | .int _ m => some (.string (Utf8.encode m)) | _ => none
  | _, _ => none

theorem od_conv {src dst : TypeId} {x : Operand} {v : Value} (h : convBin P src dst (ev A x) = some v) : OpDoes P ⟨d, .convert src dst x, ty, pos, af, g⟩ A H v H :=
  .pure_ fun ρ w s hs he => by
    have hv := he x (by simp [Op.operands])
    have hr : (convert src dst (s.eval x)).run P w = .ok v w ∧ plain v = true := by
      generalize ev A x = u at hv h
      unfold convBin at h
      split at h
      · rename_i _ _ k h1 h2
        split at h
        · cases h
          rw [hv.plain_eq rfl]
          refine ⟨?_, rfl⟩
          simp only [convert, Sem.run_bind, run_underlying h1, run_underlying h2, Result.andThen_ok]
          rfl
        · cases h
      · rename_i _ _ h1 h2
        split at h
        · cases h
          rw [hv.plain_eq rfl]
          refine ⟨?_, rfl⟩
          simp only [convert, Sem.run_bind, run_underlying h1, run_underlying h2, Result.andThen_ok]
          rfl
        · cases h
      · rename_i _ _ k h1 h2
        split at h
        · cases h
          rw [hv.plain_eq rfl]
          refine ⟨?_, rfl⟩
          simp only [convert, Sem.run_bind, run_underlying h1, run_underlying h2, Result.andThen_ok]
          rfl
        · cases h
      · cases h
    refine ⟨v, ?_, .same v hr.2⟩
    simp only [execOp, Sem.run_bind, hr.1, Result.andThen_ok, Sem.run_pure]

/-! ### Interfaces, functions, parts -/

theorem od_makeInterface {t : TypeId} {x : Operand} {td : TypeDesc} (ht : P.underlying t = some td) (hi : (match td with | .interface _ => false | _ => true) = true) :
    OpDoes P ⟨d, .makeInterface t x, ty, pos, af, g⟩ A H (.iface t (ev A x)) H :=
  .pure_ fun ρ w s hs he => by
    refine ⟨.iface t (s.eval x), ?_, .iface _ _ _ (he x (by simp [Op.operands]))⟩
    simp only [execOp, Instr.makeInterface, Sem.run_bind, run_underlying ht, Result.andThen_ok]
    cases td <;> first | rfl | simp at hi

theorem evals {ρ : Ren} {a : Act} {xs : Array Operand} (h : ∀ x ∈ xs, V ρ (ev A x) (a.eval x)) : VL ρ (xs.map (ev A)).toList (xs.map a.eval).toList := by
  refine ⟨by simp, fun j x x' h1 h2 => ?_⟩
  simp only [Array.getElem?_toList, Array.getElem?_map, Option.map_eq_some_iff] at h1 h2
  obtain ⟨o, ho, rfl⟩ := h1
  obtain ⟨o', ho', rfl⟩ := h2
  rw [ho] at ho'; cases ho'
  exact h o (Array.mem_of_getElem? ho)

theorem od_makeFunc {fn : Fn} {first captured : Array Operand} (hn : noYield fn = true) :
    OpDoes P ⟨d, .makeFunc fn first captured, ty, pos, af, g⟩ A H (.func fn (first.map (ev A)) (captured.map (ev A))) H :=
  .pure_ fun ρ w s hs he => by
    have h1 := evals (xs := first) (fun x hx => he x (by simp [Op.operands, hx]))
    have h2 := evals (xs := captured) (fun x hx => he x (by simp [Op.operands, hx]))
    refine ⟨.func fn (first.map s.eval) (captured.map s.eval), rfl, .func _ _ _ _ _ hn (by simp) (by simp) (fun j x x' a b => h1.2 j x x' (by simpa using a) (by simpa using b)) (fun j x x' a b => h2.2 j x x' (by simpa using a) (by simpa using b))⟩

/-- A part of a struct or an array, given by its cells. -/
noncomputable def apart (P : Program) (t : TypeId) (cs : Array Value) (off : Nat) : Option Value :=
  match P.underlying t, P.info? t with
  | some td, some inf => if isAggD td then some (.agg (cs.extract off (off + inf.size))) else cs[off]?
  | _, _ => none

theorem run_isAgg {t : TypeId} {td : TypeDesc} (hu : P.underlying t = some td) (w : World) : (isAgg t).run P w = .ok (isAggD td) w := by
  simp only [isAgg, Sem.run_bind, run_underlying hu, Result.andThen_ok]
  cases td <;> rfl

theorem run_sizeOf {t : TypeId} {inf : TypeInfo} (hi : P.info? t = some inf) (w : World) : (sizeOf t).run P w = .ok inf.size w := by
  simp only [sizeOf, typeInfo, Sem.run_bind, run_program, Result.andThen_ok, hi, Sem.run_pure]

theorem run_part {ρ : Ren} {t : TypeId} {cs cs' : Array Value} {off : Nat} {v : Value} (hc : VL ρ cs.toList cs'.toList) (h : apart P t cs off = some v) (w : World) : ∃ v', (part t cs' off).run P w = .ok v' w ∧ V ρ v v' := by
  unfold apart at h
  split at h
  · rename_i td inf hu hi
    split at h
    · rename_i hd
      cases h
      refine ⟨.agg (cs'.extract off (off + inf.size)), ?_, ?_⟩
      · simp only [part, Sem.run_bind, run_isAgg hu, Result.andThen_ok, hd, if_true, run_sizeOf hi, Sem.run_pure]
      · have hsz : cs.size = cs'.size := by have := hc.1; simpa using this
        refine .agg _ _ (by simp [hsz]) (fun j x x' a b => ?_)
        rw [Array.getElem?_extract] at a b
        split at a
        · rename_i hh
          rw [if_pos (by rw [← hsz]; exact hh)] at b
          exact hc.2 (off + j) x x' (by simpa using a) (by simpa using b)
        · cases a
    · rename_i hd
      have h' : cs.toList[off]? = some v := by simpa using h
      obtain ⟨v', h1, h2⟩ := hc.get h'
      refine ⟨v', ?_, h2⟩
      have h1' : cs'[off]? = some v' := by simpa using h1
      simp only [part, Sem.run_bind, run_isAgg hu, Result.andThen_ok, hd, Bool.false_eq_true, if_false, h1', Sem.run_pure]
  · cases h

theorem V.agg_inv {ρ : Ren} {cs : Array Value} {z : Value} (h : V ρ (.agg cs) z) : ∃ cs', z = .agg cs' ∧ VL ρ cs.toList cs'.toList := by
  cases h with
  | same _ hp => simp [plain] at hp
  | agg xs xs' h1 h2 => exact ⟨xs', rfl, by simpa using h1, fun j x x' a b => h2 j x x' (by simpa using a) (by simpa using b)⟩

theorem V.tuple_inv {ρ : Ren} {cs : Array Value} {z : Value} (h : V ρ (.tuple cs) z) : ∃ cs', z = .tuple cs' ∧ VL ρ cs.toList cs'.toList := by
  cases h with
  | same _ hp => simp [plain] at hp
  | tuple xs xs' h1 h2 => exact ⟨xs', rfl, by simpa using h1, fun j x x' a b => h2 j x x' (by simpa using a) (by simpa using b)⟩

theorem V.ptr_inv {ρ : Ren} {a : Addr} {z : Value} (h : V ρ (.pointer (some a)) z) : ∃ i, ρ a.block = some i ∧ a.spot = none ∧ z = .pointer (some (i.at_.add a.off)) := by
  cases h with
  | same _ hp => simp [plain] at hp
  | ptr id off i h => exact ⟨i, h, rfl, rfl⟩

theorem V.iface_inv {ρ : Ren} {t : TypeId} {v z : Value} (h : V ρ (.iface t v) z) : ∃ v', z = .iface t v' ∧ V ρ v v' := by
  cases h with
  | same _ hp => simp [plain] at hp
  | iface t v v' h => exact ⟨v', rfl, h⟩

theorem V.map_inv {ρ : Ren} {id : Nat} {z : Value} (h : V ρ (.map (some id)) z) : ∃ i, ρ id = some i ∧ z = .map (some i.at_.block) := by
  cases h with
  | same _ hp => simp [plain] at hp
  | map id i h => exact ⟨i, h, rfl⟩

theorem V.slice_inv {ρ : Ren} {a : Addr} {len cap : Nat} {z : Value} (h : V ρ (.slice (some a) len cap) z) : ∃ i a' cap', ρ a.block = some i ∧ a.spot = none ∧ z = .slice (some a') len cap' ∧
    (a' = i.at_.add a.off ∨ (len = 0 ∧ cap' = 0)) ∧ len ≤ cap' ∧ cap' < UNK ∧ (UNK ≤ cap → i.s = cap - UNK ∧ a.off + cap' * i.s ≤ i.n) ∧ (cap < UNK → cap' = cap) := by
  cases h with
  | same _ hp => simp [plain] at hp
  | slice id off len cap cap' i a' h h1 h2 h0 h3 h4 => exact ⟨i, a', cap', h, rfl, rfl, h1, h2, h0, h3, h4⟩

theorem od_field {t : TypeId} {x : Operand} {f : Nat} {fs : Array Field} {fd : Field} {cs : Array Value} {v : Value} (ht : P.underlying t = some (.struct fs)) (hf : fs[f]? = some fd) (ex : ev A x = .agg cs)
    (hp : apart P fd.type cs fd.offset = some v) : OpDoes P ⟨d, .field t x f, ty, pos, af, g⟩ A H v H :=
  .pure_ fun ρ w s hs he => by
    have hv := he x (by simp [Op.operands])
    rw [ex] at hv
    obtain ⟨cs', e, hc⟩ := hv.agg_inv
    obtain ⟨v', h1, h2⟩ := run_part hc hp w
    refine ⟨v', ?_, h2⟩
    simp only [execOp, Instr.field, Sem.run_bind, run_underlying ht, Result.andThen_ok, hf, e, asAgg, Sem.run_pure, h1]

theorem od_fieldAddr {t : TypeId} {x : Operand} {f : Nat} {fs : Array Field} {fd : Field} {inf : TypeInfo} {a : Addr} (ht : P.underlying t = some (.struct fs)) (hf : fs[f]? = some fd) (hi : P.info? fd.type = some inf) (hz : Nat.beq inf.size 0 = false)
    (ex : ev A x = .pointer (some a)) : OpDoes P ⟨d, .fieldAddr t x f, ty, pos, af, g⟩ A H (.pointer (some ⟨a.block, a.off + fd.offset, none⟩)) H :=
  .pure_ fun ρ w s hs he => by
    have hv := he x (by simp [Op.operands])
    rw [ex] at hv
    obtain ⟨i, h1, h2, h3⟩ := hv.ptr_inv
    refine ⟨.pointer (some (i.at_.add (a.off + fd.offset))), ?_, .ptr _ _ i h1⟩
    have hz' : ¬ inf.size = 0 := by simpa [nbeq] using hz
    simp only [execOp, Instr.fieldAt, Sem.run_bind, run_underlying ht, Result.andThen_ok, hf, h3, Instr.sureAddr, Sem.run_pure, fieldPlace, run_sizeOf hi, hz', if_false, add_add]

theorem od_indexAddr_slice {t e : TypeId} {x ix : Operand} {inf : TypeInfo} {a : Addr} {len cap : Nat} {k : IntKind} {m : Int} (ht : P.underlying t = some (.slice e)) (hi : P.info? e = some inf)
    (ex : ev A x = .slice (some a) len cap) (eix : ev A ix = .int k m) (h0 : 0 ≤ m) (h1 : m < len) :
    OpDoes P ⟨d, .indexAddr t x ix, ty, pos, af, g⟩ A H (.pointer (some ⟨a.block, a.off + m.toNat * inf.size, none⟩)) H :=
  .pure_ fun ρ w s hs he => by
    have hv := he x (by simp [Op.operands])
    rw [ex] at hv
    have e2 := evalP (he ix (by simp [Op.operands])) eix rfl
    obtain ⟨i, a', cap', g1, g2, g3, g4, g5, g0, g6, g7⟩ := hv.slice_inv
    have ha : a' = i.at_.add a.off := by rcases g4 with h | ⟨h, _⟩; exact h; omega
    refine ⟨.pointer (some (i.at_.add (a.off + m.toNat * inf.size))), ?_, .ptr _ _ i g1⟩
    simp only [execOp, Instr.indexAt, e2, asIntOf, g3, Sem.run_bind, Sem.run_pure, run_underlying ht, Result.andThen_ok, h0, h1, and_self, if_true, run_sizeOf hi, ha, add_add]

theorem od_indexAddr_array {t e : TypeId} {x ix : Operand} {inf : TypeInfo} {a : Addr} {len : Nat} {k : IntKind} {m : Int} (ht : P.underlying t = some (.array len e)) (hi : P.info? e = some inf)
    (ex : ev A x = .pointer (some a)) (eix : ev A ix = .int k m) (h0 : 0 ≤ m) (h1 : m < len) :
    OpDoes P ⟨d, .indexAddr t x ix, ty, pos, af, g⟩ A H (.pointer (some ⟨a.block, a.off + m.toNat * inf.size, none⟩)) H :=
  .pure_ fun ρ w s hs he => by
    have hv := he x (by simp [Op.operands])
    rw [ex] at hv
    have e2 := evalP (he ix (by simp [Op.operands])) eix rfl
    obtain ⟨i, g1, g2, g3⟩ := hv.ptr_inv
    refine ⟨.pointer (some (i.at_.add (a.off + m.toNat * inf.size))), ?_, .ptr _ _ i g1⟩
    simp only [execOp, Instr.indexAt, e2, asIntOf, g3, Instr.sureAddr, Sem.run_bind, Sem.run_pure, run_underlying ht, Result.andThen_ok, h0, h1, and_self, if_true, run_sizeOf hi, add_add]

theorem od_index_string {t : TypeId} {x ix : Operand} {s : ByteArray} {k : IntKind} {m : Int} {b : UInt8} (ht : P.underlying t = some .string) (ex : ev A x = .string s) (eix : ev A ix = .int k m) (h0 : 0 ≤ m) (hb' : (bl s)[m.toNat]? = some b) :
    OpDoes P ⟨d, .index t x ix, ty, pos, af, g⟩ A H (.int .u8 b.toNat) H :=
  .pure_ fun ρ w a hs he => by
    have e1 := evalP (he x (by simp [Op.operands])) ex rfl
    have e2 := evalP (he ix (by simp [Op.operands])) eix rfl
    refine ⟨.int .u8 b.toNat, ?_, .same _ rfl⟩
    have hb : s[m.toNat]? = some b := by
      have hlt : m.toNat < s.size := by rw [← bl_size]; exact (List.getElem?_eq_some_iff.1 hb').1
      rw [getElem?_pos s _ hlt]
      rw [List.getElem?_eq_getElem (by rw [bl_size]; exact hlt)] at hb'
      exact hb'
    simp only [execOp, Instr.index, e1, e2, asIntOf, Sem.run_bind, Sem.run_pure, run_underlying ht, Result.andThen_ok, h0, if_true, hb]

theorem od_index_array {t e : TypeId} {x ix : Operand} {len : Nat} {inf : TypeInfo} {cs : Array Value} {k : IntKind} {m : Int} {v : Value} (ht : P.underlying t = some (.array len e)) (hi : P.info? e = some inf) (ex : ev A x = .agg cs) (eix : ev A ix = .int k m)
    (h0 : 0 ≤ m) (h1 : m < len) (hp : apart P e cs (m.toNat * inf.size) = some v) : OpDoes P ⟨d, .index t x ix, ty, pos, af, g⟩ A H v H :=
  .pure_ fun ρ w a hs he => by
    have hv := he x (by simp [Op.operands])
    rw [ex] at hv
    have e2 := evalP (he ix (by simp [Op.operands])) eix rfl
    obtain ⟨cs', e', hc⟩ := hv.agg_inv
    obtain ⟨v', g1, g2⟩ := run_part hc hp w
    refine ⟨v', ?_, g2⟩
    simp only [execOp, Instr.index, e', e2, asIntOf, Sem.run_bind, Sem.run_pure, run_underlying ht, Result.andThen_ok, h0, h1, and_self, if_true, run_sizeOf hi, g1]

theorem od_extract {x : Operand} {ix : Nat} {vs : Array Value} {v : Value} (ex : ev A x = .tuple vs) (hv : vs[ix]? = some v) : OpDoes P ⟨d, .extract x ix, ty, pos, af, g⟩ A H v H :=
  .pure_ fun ρ w a hs he => by
    have hv' := he x (by simp [Op.operands])
    rw [ex] at hv'
    obtain ⟨vs', e', hc⟩ := hv'.tuple_inv
    obtain ⟨v', g1, g2⟩ := hc.get (j := ix) (x := v) (by simpa using hv)
    have g1' : vs'[ix]? = some v' := by simpa using g1
    refine ⟨v', ?_, g2⟩
    simp only [execOp, Instr.extract, e', g1', Sem.run_bind, Sem.run_pure, Result.andThen_ok]

end
end Go.Ab
