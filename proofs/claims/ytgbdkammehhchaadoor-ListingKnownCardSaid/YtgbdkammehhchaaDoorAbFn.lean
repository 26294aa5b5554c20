/- Functions: contracts, entering a body, calls. -/
import Derived.Test.YtgbdkammehhchaaDoorAbOps4
import Derived.RangeFuncNested
import Derived.Lib.Bytealg
set_option linter.unusedVariables false
namespace Go.Ab

inductive Out where
  | ret (v : Value)
  | pan (v : Value)

noncomputable def OutRel (ρ : Ren) : Out → Ending → Prop
  | .ret v, .returned v' => V ρ v v'
  | .pan v, .panicked ch => ∃ v', V ρ v v' ∧ ch = [{ v := v', recovered := false }]
  | _, _ => False

/-- A function called with such values, over such a heap, ends so, and leaves such a heap. -/
noncomputable def Does (P : Program) (f : FuncId) (args : List Value) (H : Heap) (o : Out) (H' : Heap) : Prop :=
  ∀ ρ w args', Sim P ρ H w → VL ρ args args' → Calls P f args'.toArray w fun e w' => ∃ ρ', OutRel ρ' o e ∧ St ρ H w ρ' H' w' ∧ Sim P ρ' H' w'

theorem Does.less {P : Program} {f : FuncId} {args : List Value} {H : Heap} {o : Out} {H1 H2 : Heap} (h : Does P f args H o H1) (l : Less H2 H1) : Does P f args H o H2 :=
  fun ρ w args' hs ha => (h ρ w args' hs ha).mono fun e w' ⟨ρ', h1, h2, h3⟩ => ⟨ρ', h1, h2.less l, h3.less l⟩

noncomputable def envOf (args : List Value) : Env := fun t => args.getD t undef

section
variable {P : Program} {n : Nat} {Q : Ex → Env → Heap → Prop} {A : Env} {H : Heap} {d : Option Nat} {ty : TypeId} {pos : String} {af : Array Edge} {g : Option (Nat × Bool)}

/-- What a function gives, by its results' variables. -/
noncomputable def ares1 (P : Program) (n : Nat) (A : Env) (H : Heap) : ResultVar → Option Value
  | .tmp t => if t < n then some (A t) else none
  | .cell a t => if a < n then (match A a with | .pointer (some ad) => aload P t ad H | _ => none) else none

noncomputable def ares (P : Program) (n : Nat) (rs : Array ResultVar) (A : Env) (H : Heap) : Option Value :=
  match rs.toList with
  | [r] => ares1 P n A H r
  | l => (l.mapM (ares1 P n A H)).map fun vs => .tuple vs.toArray

noncomputable def resOf (tmps : Array Value) : ResultVar → Sem Value
  | .tmp t => pure (tmps.getD t undef)
  | .cell a t => do loadVar t (← asAddr (tmps.getD a undef))

theorem run_res1 {ρ : Ren} {w : World} {a : Act} (hs : Sim P ρ H w) (he : EnvRel ρ n A a) {r : ResultVar} {v : Value} (h : ares1 P n A H r = some v) : ∃ v', (resOf a.tmps r).run P w = .ok v' w ∧ V ρ v v' := by
  cases r with
  | tmp t =>
    simp only [ares1] at h
    split at h
    · rename_i ht
      cases h
      exact ⟨_, rfl, he.tmps t ht⟩
    · cases h
  | cell p t =>
    simp only [ares1] at h
    split at h
    · rename_i ht
      split at h
      · rename_i ad ead
        have hv := he.tmps p ht
        rw [ead] at hv
        obtain ⟨i, g1, g2, g3⟩ := hv.ptr_inv
        obtain ⟨id, off, sp⟩ := ad
        simp only at g1 g2 g3
        subst g2
        obtain ⟨c, e, ro, hg⟩ := aload_cells h
        obtain ⟨v', h1, h2⟩ := run_aload g1 hg (hs.live id _ i hg g1) h
        refine ⟨v', ?_, h2⟩
        simp only [resOf, g3, asAddr, Sem.run_bind, Sem.run_pure, Result.andThen_ok, h1]
      · cases h
    · cases h

theorem run_resL {ρ : Ren} {w : World} {a : Act} (hs : Sim P ρ H w) (he : EnvRel ρ n A a) : ∀ (rs : List ResultVar) (vs : List Value), rs.mapM (ares1 P n A H) = some vs → ∃ vs', (rs.mapM (resOf a.tmps)).run P w = .ok vs' w ∧ VL ρ vs vs'
  | [], vs, h => by simp at h; subst h; exact ⟨[], rfl, .nil ρ⟩
  | r :: rs, vs, h => by
    simp only [List.mapM_cons, Option.bind_eq_bind, Option.bind_eq_some_iff, Option.pure_def, Option.some.injEq] at h
    obtain ⟨v, hv, vs0, hvs, rfl⟩ := h
    obtain ⟨v', h1, h2⟩ := run_res1 hs he hv
    obtain ⟨vs', h3, h4⟩ := run_resL hs he rs vs0 hvs
    refine ⟨v' :: vs', ?_, .cons h2 h4⟩
    simp only [List.mapM_cons, Sem.run_bind, h1, Result.andThen_ok, h3, Sem.run_pure]

theorem results_eq (fn : Func) (tmps : Array Value) (w : World) : (results fn tmps).run P w = ((fn.results.toList.mapM (resOf tmps)).run P w).andThen fun vs w' => .ok (if h : vs.length = 1 then vs[0] else .tuple vs.toArray) w' := by
  unfold results
  rw [Array.mapM_eq_mapM_toList]
  simp only [Sem.run_bind, Sem.run_map]
  have key : ∀ F : ResultVar → Sem Value, (∀ r, F r = resOf tmps r) → ((Sem.run P (List.mapM F fn.results.toList) w).andThen (fun a w' => Result.ok a.toArray w')).andThen (fun a w' => Sem.run P (pure (if h : a.size = 1 then a[0] else Value.tuple a)) w') =
      (Sem.run P (List.mapM (resOf tmps) fn.results.toList) w).andThen fun vs w' => Result.ok (if h : vs.length = 1 then vs[0] else Value.tuple vs.toArray) w' := by
    intro F hF
    obtain rfl : F = resOf tmps := funext hF
    cases (fn.results.toList.mapM (resOf tmps)).run P w with
    | ok vs w' =>
      simp only [Result.andThen_ok, Sem.run_pure]
      congr 1
    | halt x w' => rfl
  exact key _ (fun r => by cases r <;> rfl)

theorem run_results {ρ : Ren} {w : World} {a : Act} (hs : Sim P ρ H w) (he : EnvRel ρ n A a) {fn : Func} {v : Value} (h : ares P n fn.results A H = some v) : ∃ v', (results fn a.tmps).run P w = .ok v' w ∧ V ρ v v' := by
  rw [results_eq]
  unfold ares at h
  split at h
  · rename_i r hr
    rw [hr]
    obtain ⟨v', h1, h2⟩ := run_res1 hs he h
    refine ⟨v', ?_, h2⟩
    simp only [List.mapM_cons, List.mapM_nil, Sem.run_bind, h1, Result.andThen_ok, Sem.run_pure]
    rfl
  · rename_i hne
    simp only [Option.map_eq_some_iff] at h
    obtain ⟨vs, hvs, rfl⟩ := h
    obtain ⟨vs', h1, h2⟩ := run_resL hs he _ vs hvs
    have hl : vs'.length ≠ 1 := by
      rw [← h2.1]
      have hlen : vs.length = fn.results.toList.length := mapM_length hvs
      rw [hlen]
      intro hc
      obtain ⟨r, hr⟩ := List.length_eq_one_iff.1 hc
      exact hne r hr
    refine ⟨.tuple vs'.toArray, ?_, .tuple _ _ (by simpa using h2.1) (fun j x x' a b => h2.2 j x x' (by simpa using a) (by simpa using b))⟩
    rw [h1]
    simp only [Result.andThen_ok, hl, dite_false]
  where
  mapM_length {α β : Type} {f : α → Option β} {l : List α} {r : List β} (h : l.mapM f = some r) : r.length = l.length := by
    induction l generalizing r with
    | nil => simp at h; subst h; rfl
    | cons x l ih =>
      simp only [List.mapM_cons, Option.bind_eq_bind, Option.bind_eq_some_iff, Option.pure_def, Option.some.injEq] at h
      obtain ⟨b, _, r', hr', rfl⟩ := h
      simp [ih hr']

theorem envRel_enter {ρ : Ren} {args args' : List Value} (m : Nat) (h : VL ρ args args') : EnvRel ρ (args.length + (m - args.length)) (envOf args) { tmps := args'.toArray ++ Array.replicate (m - args'.toArray.size) undef, defers := [] } := by
  have hl := h.1
  refine ⟨by simp [hl], fun t ht => ?_⟩
  simp only [envOf]
  rw [Array.getD_eq_getD_getElem?]
  by_cases hlt : t < args.length
  · obtain ⟨x', h1, h2⟩ := h.get (List.getElem?_eq_getElem hlt)
    rw [Array.getElem?_append_left (by simpa [← hl] using hlt)]
    have h1' : args'.toArray[t]? = some x' := by simpa using h1
    rw [h1']
    simp only [List.getD, List.getElem?_eq_getElem hlt, Option.getD_some]
    exact h2
  · have e1 : args.getD t undef = undef := by simp [List.getD, List.getElem?_eq_none (by omega : args.length ≤ t)]
    rw [e1, Array.getElem?_append_right (by simp; omega), Array.getElem?_replicate]
    split
    · exact .closed (by simp [undef, closedV])
    · exact .closed (by simp [undef, closedV])

/-- How a body's end tells what a function gives. -/
noncomputable def Ends (P : Program) (n : Nat) (rs : Array ResultVar) (o : Out) (H' : Heap) : Ex → Env → Heap → Prop
  | .normal, A, H1 => ∃ v, o = .ret v ∧ ares P n rs A H1 = some v ∧ Less H' H1
  | .ret, A, H1 => ∃ v, o = .ret v ∧ ares P n rs A H1 = some v ∧ Less H' H1
  | .panic v, A, H1 => o = .pan v ∧ Less H' H1
  | _, _, _ => False

/-! ### Blocks that nothing known may write, written by the machine -/
theorem Sim.putHid {ρ : Ren} {w : World} {b : Nat} {o o' : Obj} (hs : Sim P ρ H w) (hh : Hid ρ H w b o) : Sim P ρ H (w.putObj b o') :=
  ⟨hs.dom, fun id bl i hb hi => (hs.live id bl i hb hi).mono (.refl ρ) (World.putObj_heap_other (hh.un id i bl hi hb)), hs.sep, hs.glob⟩

theorem St.putHid {ρ0 ρ : Ren} {H0 : Heap} {w0 w : World} {b : Nat} {o' : Obj} (hst : St ρ0 H0 w0 ρ H w) (hb : w0.heap.size ≤ b) : St ρ0 H0 w0 ρ H (w.putObj b o') :=
  { hst with
    size := by simpa using hst.size
    frame := fun k hk hn => by rw [World.putObj_heap_other (by omega)]; exact hst.frame k hk hn }

theorem Hid.put {ρ : Ren} {w : World} {b d : Nat} {o o' : Obj} (h : Hid ρ H w d o) (hne : d ≠ b) : Hid ρ H (w.putObj b o') d o :=
  ⟨by rw [World.putObj_heap_other hne]; exact h.at_, h.un⟩
theorem Hid.same {ρ : Ren} {w : World} {b : Nat} {o o' : Obj} (h : Hid ρ H w b o) : Hid ρ H (w.putObj b o') b o' := ⟨World.putObj_heap_same h.lt, h.un⟩

theorem leaves_marks {fn : Func} {tmps : Array Value} {R : Ending → World → Prop} {u : FrameMode} {z : Rd} {ρ0 ρ : Ren} {H0 : Heap} {w0 : World} (hu : u ≠ .run) : ∀ (ds : List Nat) (w : World), ds.Nodup → (∀ d ∈ ds, w0.heap.size ≤ d ∧ Hid ρ H w d (.deferred (some []))) →
    St ρ0 H0 w0 ρ H w → Sim P ρ H w → (∀ w, St ρ0 H0 w0 ρ H w → Sim P ρ H w → LeavesIn (fen z) 0 P fn tmps R [] u w) → LeavesInM (fen z) 0 P fn tmps R (ds.map mark) u w
  | [], w, _, _, hst, hs, h => h w hst hs
  | d :: ds, w, hn, hd, hst, hs, h => by
    obtain ⟨h1, h2⟩ := hd d (by simp)
    refine ⟨hu, .inl ⟨d, _, rfl, run_takeDeferred h2.at_, ?_⟩⟩
    rw [List.nodup_cons] at hn
    exact leaves_marks hu ds _ hn.2 (fun x hx => ⟨(hd x (by simp [hx])).1, (hd x (by simp [hx])).2.put (fun e => hn.1 (e ▸ hx))⟩) (hst.putHid h1) (hs.putHid h2) h

theorem does_of_wp {f : FuncId} {fn : Func} {c : Code} {args : List Value} {o : Out} {H' : Heap} (hf : P.funcs[f]? = some fn) (hb : fn.body = some c)
    (h : AWp P (args.length + (fn.ntmps - args.length)) c (Ends P (args.length + (fn.ntmps - args.length)) fn.results o H') (envOf args) H) : Does P f args H o H' := by
  intro ρ w args' hs ha
  refine callsIn_wide.1 (callsIn_of_wp_marks (F := fen ⟨none, w.heap.size⟩) (n := 0) hf hb trivial (wpIn_mono (h ⟨none, w.heap.size⟩ ρ w _ hs ⟨envRel_enter fn.ntmps ha, ⟨⟨[], rfl, .nil, fun d hd => by simp at hd⟩, fun l hl => by simp at hl, Nat.le_refl _⟩⟩) ?_))
  rintro e a1 w1 ⟨e', ρ1, A1, H1, hq, hst, hs1, he1, hr⟩
  obtain ⟨ds, hds, hnd, hdh⟩ := he1.fr.marks
  cases e' <;> cases e <;> simp only [ExRel] at hr <;> simp only [Ends] at hq
  case panic.panic v ch =>
    obtain ⟨rfl, hl⟩ := hq
    show LeavesInM _ _ _ _ _ _ a1.defers _ _
    rw [hds]
    exact leaves_marks (by simp) ds w1 hnd hdh hst hs1 (fun w2 hst2 hs2 => ⟨ρ1, hr, hst2.less hl, hs2.less hl⟩)
  all_goals
    obtain ⟨v, rfl, hv, hl⟩ := hq
    show LeavesInM _ _ _ _ _ _ a1.defers _ _
    rw [hds]
    refine leaves_marks (by simp) ds w1 hnd hdh hst hs1 (fun w2 hst2 hs2 => ?_)
    obtain ⟨v', h1, h2⟩ := run_results hs2 he1.toEnvRel (fn := fn) hv
    exact ⟨v', h1, ρ1, h2, hst2.less hl, hs2.less hl⟩

/-! ### Calls -/

/-- A function with a body, that is entered when it is called. -/
noncomputable def entered (P : Program) (f : FuncId) : Bool :=
  match P.funcs[f]? with
  | some fn => !(fn.name == "runtime.NumGoroutine") && fn.body.isSome
  | none => false

theorem run_callFunc {f : FuncId} (h : entered P f = true) (args : Array Value) (w : World) : (callFunc f args).run P w = .ok (.enter f args) w := by
  unfold entered at h
  split at h
  · rename_i fn hf
    simp only [Bool.and_eq_true, Bool.not_eq_true'] at h
    obtain ⟨h1, h2⟩ := h
    have h3 : fn.body.isNone = false := by cases hb : fn.body <;> simp_all
    simp only [callFunc, Sem.run_bind, run_program, Result.andThen_ok, hf, h1, Bool.false_eq_true, if_false, h3, Sem.run_pure]
  · cases h

theorem fenced_fen (P : Program) (z : Rd) (m : Machine) : m.fenced P (fen z) := fenced_wide P m
theorem stepsIn_fen {z : Rd} {m m' : Machine} : StepsIn (Machine.fenced P (fen z)) P m m' ↔ Steps P m m' := by
  have : Machine.fenced P (fen z) = Machine.fenced P Fence.wide := funext fun m => propext ⟨fun _ => fenced_wide P m, fun _ => fenced_fen P z m⟩
  rw [this]; exact stepsIn_wide
theorem callsIn_fen {z : Rd} {n : Nat} {f : FuncId} {args : Array Value} {w : World} {R : Ending → World → Prop} (h : Calls P f args w R) : CallsIn (fen z) n P f args w R := by
  refine ⟨trivial, fun cs _ => ?_⟩
  obtain ⟨e, w', fr, r, s, x⟩ := h cs
  refine ⟨e, w', fr, r, ?_, x⟩
  cases e with
  | returned v => exact stepsIn_fen.2 s
  | panicked ch => exact stepsIn_fen.2 s
  | outgrown => exact s

theorem od_call_of_run {o : Oper} {f : FuncId} {args : List Value} {v : Value} {H' : Heap}
    (hr : ∀ ρ w a, Sim P ρ H w → OpRel ρ o A a → ∃ args', VL ρ args args' ∧ (execOp a.eval o).run P w = .ok (.enter f args'.toArray) w) (hd : Does P f args H (.ret v) H') : OpDoes P o A H v H' := by
  intro ρ w a hs he K Q hk z
  obtain ⟨args', ha, hrun⟩ := hr ρ w a hs he
  refine ⟨fun _ _ => trivial, ?_⟩
  rw [semAt_of hrun (by simp) _]
  refine ⟨fun h => by simp [fen, Fence.wide] at h, ?_⟩
  refine callsIn_fen ((hd ρ w args' hs ha).mono ?_)
  rintro e w' ⟨ρ', ho, hst, hs'⟩
  cases e with
  | returned v' => exact hk v' ρ' w' ho hst hs'
  | panicked ch => exact ho.elim
  | outgrown => exact ho.elim

/-- What the model runs itself, at such values: it gives a value at once. -/
def ExtDoes (P : Program) (f : FuncId) (args : List Value) (H : Heap) (v : Value) (H' : Heap) : Prop :=
  ∀ ρ w args', Sim P ρ H w → VL ρ args args' → ∃ v' ρ' w', (callFunc f args'.toArray).run P w = .ok (.value v') w' ∧ V ρ' v v' ∧ St ρ H w ρ' H' w' ∧ Sim P ρ' H' w'

/-- What a call gives. -/
def Callable (P : Program) (f : FuncId) (args : List Value) (H : Heap) (v : Value) (H' : Heap) : Prop :=
  (entered P f = true ∧ Does P f args H (.ret v) H') ∨ ExtDoes P f args H v H'

theorem od_of_run {o : Oper} {f : FuncId} {args : List Value} {v : Value} {H' : Heap}
    (hr : ∀ ρ w a, Sim P ρ H w → OpRel ρ o A a → ∃ args', VL ρ args args' ∧ (execOp a.eval o).run P w = (callFunc f args'.toArray).run P w) (hd : Callable P f args H v H') : OpDoes P o A H v H' := by
  rcases hd with ⟨he, hd⟩ | hx
  · refine od_call_of_run (fun ρ w a hs ho => ?_) hd
    obtain ⟨args', h1, h2⟩ := hr ρ w a hs ho
    exact ⟨args', h1, by rw [h2, run_callFunc he]⟩
  · refine .of_run fun ρ w a hs ho => ?_
    obtain ⟨args', h1, h2⟩ := hr ρ w a hs ho
    rw [h2]
    exact hx ρ w args' hs h1

theorem od_call {f : FuncId} {args : Array Operand} {ts : Array TypeId} {v : Value} {H' : Heap} (hd : Callable P f (args.map (ev A)).toList H v H') :
    OpDoes P ⟨d, .call ⟨.value (.func f), args, ts⟩, ty, pos, af, g⟩ A H v H' :=
  od_of_run (fun ρ w a hs he => ⟨(args.map a.eval).toList, evals (fun x hx => he x (by simp [Op.operands, Call.operands, hx])), by
    simp only [execOp, resolve, Deferred.ofValue, Act.eval, invoke, pure_bind, Array.empty_append, Array.append_empty, Array.toArray_toList]⟩) hd

theorem V.func_inv {ρ : Ren} {f : FuncId} {xs ys : Array Value} {z : Value} (h : V ρ (.func (.func f) xs ys) z) : ∃ xs' ys', z = .func (.func f) xs' ys' ∧ VL ρ xs.toList xs'.toList ∧ VL ρ ys.toList ys'.toList := by
  cases h with
  | same _ hp => simp [plain] at hp
  | func fn xs ys xs' ys' hn h1 h2 h3 h4 =>
    exact ⟨xs', ys', rfl, ⟨by simpa using h1, fun j x x' a b => h3 j x x' (by simpa using a) (by simpa using b)⟩, ⟨by simpa using h2, fun j x x' a b => h4 j x x' (by simpa using a) (by simpa using b)⟩⟩

theorem od_callv {f : FuncId} {c : Operand} {args : Array Operand} {ts : Array TypeId} {xs ys : Array Value} {v : Value} {H' : Heap} (ec : ev A c = .func (.func f) xs ys)
    (hd : Callable P f (xs.toList ++ (args.map (ev A)).toList ++ ys.toList) H v H') : OpDoes P ⟨d, .call ⟨.value c, args, ts⟩, ty, pos, af, g⟩ A H v H' :=
  od_of_run (fun ρ w a hs he => by
    have hv := he c (by simp [Op.operands, Call.operands])
    rw [ec] at hv
    obtain ⟨xs', ys', e, h1, h2⟩ := hv.func_inv
    refine ⟨xs'.toList ++ (args.map a.eval).toList ++ ys'.toList, (h1.append (evals (fun x hx => he x (by simp [Op.operands, Call.operands, hx])))).append h2, ?_⟩
    simp only [execOp, resolve, e, Deferred.ofValue, invoke, pure_bind]
    congr 2
    apply Array.ext'
    simp) hd

theorem Callable.does {f : FuncId} {args : List Value} {v : Value} {H' : Heap} (he : entered P f = true) (h : Callable P f args H v H') : Does P f args H (.ret v) H' := by
  rcases h with ⟨_, hd⟩ | hx
  · exact hd
  · intro ρ w args' hs ha
    obtain ⟨v', ρ', w', h1, _⟩ := hx ρ w args' hs ha
    rw [run_callFunc he] at h1
    cases h1

/-! ### What the model runs itself -/

/-- The entries that are taken. -/
inductive Xk where
  | count | indexByte | noEscape | add64

noncomputable def Xk.entry : Xk → Array Value → Sem Value
  | .count => Extern.BytealgCount.count
  | .indexByte => Extern.BytealgIndexByte.indexByte
  | .noEscape => Extern.AbiNoEscape.same
  | .add64 => fun args => do
    let (x, y, c) ← Extern.MathBitsCarry.three "Add64" args
    pure (Extern.MathBitsCarry.pair ((x + y + c) % Extern.MathBitsCarry.m64) ((x + y + c) / Extern.MathBitsCarry.m64))

noncomputable def Xk.val : Xk → List Value → Option Value
  | .count, [.string s, .int .u8 c] => some (.int .i64 (Lib.countByte (bl s) c.toNat.toUInt8))
  | .indexByte, [.string s, .int .u8 c] => some (.int .i64 (Lib.indexByte (bl s) c.toNat.toUInt8))
  | .noEscape, [x] => some x
  | .add64, [.int .u64 x, .int .u64 y, .int .u64 c] => if c.toNat ≤ 1 then some (.tuple #[.int .u64 (((x.toNat + y.toNat + c.toNat) % 18446744073709551616 : Nat) : Int), .int .u64 (((x.toNat + y.toNat + c.toNat) / 18446744073709551616 : Nat) : Int)]) else none
  | _, _ => none

/-- A function that is such an entry. -/
def IsExt (P : Program) (f : FuncId) (k : Xk) : Prop :=
  ∃ fn, P.funcs[f]? = some fn ∧ (fn.name == "runtime.NumGoroutine") = false ∧ fn.body.isNone = true ∧ (Extern.findNext fn).isNone = true ∧ Extern.find fn = some k.entry

set_option maxHeartbeats 800000 in
theorem ext_does {f : FuncId} {k : Xk} {args : List Value} {v : Value} (hx : IsExt P f k) (hv : k.val args = some v) : ExtDoes P f args H v H := by
  obtain ⟨fn, h1, h2, h3, h4, h5⟩ := hx
  have h4 : Extern.findNext fn = none := by simpa using h4
  intro ρ w args' hs ha
  rw [run_callFunc_extern h1 h2 h3 h4 h5]
  unfold Xk.val at hv
  split at hv
  · rename_i s c
    cases hv
    obtain ⟨x, l, rfl, hx, hl⟩ := ha.uncons
    obtain ⟨y, l, rfl, hy, hl⟩ := hl.uncons
    obtain rfl := hl.unnil
    rw [hx.plain_eq rfl, hy.plain_eq rfl]
    refine ⟨_, ρ, w, ?_, .same _ rfl, .refl _ _ _, hs⟩
    rw [show Xk.count.entry = Extern.BytealgCount.count from rfl, Lib.run_countString]
    rfl
  · rename_i s c
    cases hv
    obtain ⟨x, l, rfl, hx, hl⟩ := ha.uncons
    obtain ⟨y, l, rfl, hy, hl⟩ := hl.uncons
    obtain rfl := hl.unnil
    rw [hx.plain_eq rfl, hy.plain_eq rfl]
    refine ⟨_, ρ, w, ?_, .same _ rfl, .refl _ _ _, hs⟩
    rw [show Xk.indexByte.entry = Extern.BytealgIndexByte.indexByte from rfl, Lib.run_indexByteString]
    rfl
  · rename_i x
    cases hv
    obtain ⟨y, l, rfl, hy, hl⟩ := ha.uncons
    obtain rfl := hl.unnil
    exact ⟨y, ρ, w, rfl, hy, .refl _ _ _, hs⟩
  · rename_i x y c
    split at hv
    · rename_i hc
      cases hv
      obtain ⟨x1, l, rfl, hx1, hl⟩ := ha.uncons
      obtain ⟨x2, l, rfl, hx2, hl⟩ := hl.uncons
      obtain ⟨x3, l, rfl, hx3, hl⟩ := hl.uncons
      obtain rfl := hl.unnil
      rw [hx1.plain_eq rfl, hx2.plain_eq rfl, hx3.plain_eq rfl]
      refine ⟨_, ρ, w, ?_, .closed (by simp [closedV, plain]), .refl _ _ _, hs⟩
      have hn : ¬ c.toNat > 1 := by omega
      have hdef : Extern.MathBitsCarry.three "Add64" #[.int .u64 x, .int .u64 y, .int .u64 c] = (do
          let c := (← asInt (.int .u64 c)).toNat
          if c > 1 then unsupported (.noEntry ("extern/math/bits." ++ "Add64" ++ ": a carry that is neither 0 nor 1"))
          pure ((← asInt (.int .u64 x)).toNat, (← asInt (.int .u64 y)).toNat, c)) := rfl
      have h3 : (Extern.MathBitsCarry.three "Add64" #[.int .u64 x, .int .u64 y, .int .u64 c]).run P w = .ok (x.toNat, y.toNat, c.toNat) w := by
        rw [hdef]
        have hi : ∀ (k : IntKind) (m : Int), (asInt (.int k m)).run P w = .ok m w := fun _ _ => rfl
        simp only [Sem.run_bind, hi, Result.andThen_ok, if_neg hn, Sem.run_pure]
      simp only [Xk.entry, Sem.run_bind, h3, Result.andThen_ok, Sem.run_pure]
      rfl
    · cases hv
  · cases hv

end
end Go.Ab
