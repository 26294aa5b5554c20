/- Loops over functions: rounds, yields, the statement. -/
import Derived.Test.YtdjkkoacinpdeaaDoorAbJump
set_option linter.unusedVariables false
namespace Go.Ab

/-- The temporaries of a round: those of the loop, with what is yielded in its parameters. -/
noncomputable def setPs (A : Env) (ps : List Nat) (vs : List Value) : Env := (ps.zip vs).foldl (fun A p => upd A p.1 p.2) A

theorem setPs_rel {ρ : Ren} {n : Nat} : ∀ (ps : List Nat) (A : Env) (tmps : Array Value) (vs vs' : List Value), VL ρ vs vs' → tmps.size = n → (∀ t, t < n → V ρ (A t) (tmps.getD t undef)) →
    ((ps.zip vs').foldl (fun t (p : Nat × Value) => t.setIfInBounds p.1 p.2) tmps).size = n ∧ ∀ t, t < n → V ρ (setPs A ps vs t) (((ps.zip vs').foldl (fun t (p : Nat × Value) => t.setIfInBounds p.1 p.2) tmps).getD t undef)
  | [], A, tmps, vs, vs', hv, hn, h => ⟨hn, h⟩
  | p :: ps, A, tmps, [], vs', hv, hn, h => by obtain rfl := hv.unnil; exact ⟨hn, h⟩
  | p :: ps, A, tmps, v :: vs, l, hv, hn, h => by
    obtain ⟨v', vs', rfl, h1, h2⟩ := hv.uncons
    refine setPs_rel ps (upd A p v) (tmps.setIfInBounds p v') vs vs' h2 (by simpa using hn) (fun t ht => ?_)
    by_cases e : t = p
    · subst e
      rw [upd_same, Array.getD_eq_getD_getElem?, Array.getElem?_setIfInBounds_self_of_lt (by omega)]
      exact h1
    · rw [upd_ne A v e, Array.getD_eq_getD_getElem?, Array.getElem?_setIfInBounds_ne (by omega), ← Array.getD_eq_getD_getElem?]
      exact h t ht

section
variable {P : Program} {n : Nat} {Q : Ex → Env → Heap → Prop} {A : Env} {H : Heap}

theorem St.putBoth {ρ ρ' : Ren} {H' : Heap} {w w' : World} {b : Nat} {o : Obj} (h : St ρ H w ρ' H' w') (hb : b < w.heap.size) : St ρ H (w.putObj b o) ρ' H' (w'.putObj b o) where
  mono := h.mono
  next := h.next
  dead := h.dead
  ro := h.ro
  fresh := fun id i h1 h2 => by simpa using h.fresh id i h1 h2
  os := h.os
  tape := h.tape
  output := h.output
  size := by simpa using h.size
  frame := fun k hk hn => by
    by_cases e : k = b
    · subst e
      rw [World.putObj_heap_same (Nat.lt_of_lt_of_le hb h.size), World.putObj_heap_same hb]
    · rw [World.putObj_heap_other e, World.putObj_heap_other e]
      exact h.frame k (by simpa using hk) hn

theorem heap_alloc {w : World} (o : Obj) (k : Nat) (hk : k < w.heap.size) : (w.alloc o).heap[k]? = w.heap[k]? := by
  show (w.heap.push o)[k]? = _
  rw [Array.getElem?_push, if_neg (by omega)]
theorem Less.kill (H : Heap) (l : Nat) : Less (H.kill l) H := ⟨Nat.le_refl _, fun id b hb => by
  rw [Heap.get_kill] at hb
  split at hb
  · cases hb
  · exact hb⟩

/-- What a round gives to whoever yielded. -/
noncomputable def RoundEnd (l : Nat) (L : Option Code → Blk) (v : Value) (H' : Heap) : Ex → Env → Heap → Prop
  | .normal, _, H1 => v = .bool true ∧ Less H' (H1.set l (L none))
  | .ret, _, H1 => v = .bool false ∧ Less H' (H1.set l (L (some .ret)))
  | .exit id, _, H1 => v = .bool false ∧ Less H' (H1.set l (L (some (.exit id))))
  | .goto t, _, H1 => v = .bool false ∧ Less H' (H1.set l (L (some (.goto t))))
  | .panic _, _, _ => False

/-- A yield with such values, over such a heap, gives so, and leaves such a heap. -/
def YDoes (P : Program) (l : Nat) (args : List Value) (H : Heap) (v : Value) (H' : Heap) : Prop :=
  ∀ ρ w args' i, Sim P ρ H w → VL ρ args args' → ρ l = some i → ∃ fn tmps as bd, (Instr.yield i.at_.block args'.toArray).run P w = .ok (.round i.at_.block fn tmps as bd) w ∧
    ∀ z m, RoundIn (fen z) m P i.at_.block fn tmps as bd w fun e w' => ∃ ρ', OutRel ρ' (.ret v) e ∧ St ρ H w ρ' H' w' ∧ Sim P ρ' H' w'

theorem wpIn_any {z : Rd} {c : Code} {Q : Exit → Act → World → Prop} {a : Act} {w : World} {m m' : Nat} (h : c.wpIn (fen z) m P Q a w) : c.wpIn (fen z) m' P Q a w :=
  fun b k cs hro hb hr => h b k cs hro hb (fen_room _ _)

theorem ydoes_of_wp {l : Nat} {A0 : Env} {ps : Array Tmp} {as bd : Code} {args : List Value} {v : Value} {H' : Heap} (hl : H.get l = some (.loop A0 n ps as bd none)) (hps : args.length = ps.size)
    (h : AWp P n as (Then (AWp P n bd (RoundEnd l (Blk.loop A0 n ps as bd) v H')) (fun _ _ _ => False)) (setPs A0 ps.toList args) (H.kill l)) : YDoes P l args H v H' := by
  intro ρ w args' i hs ha hi
  obtain ⟨fn, tmps, D, hh, hn, htm⟩ := hs.live l _ i hl hi
  obtain ⟨rc, hrc⟩ : ∃ rc : Loop, rc = { state := .ready, pending := none, fn := fn, tmps := tmps, params := ps, assign := as, body := bd, defers := D } := ⟨_, rfl⟩
  have hh : w.heap[i.at_.block]? = some (.loop rc) := by rw [hrc]; exact hh
  have hy := run_yield (P := P) (args := args'.toArray) hh (by rw [hrc]; simp [← hps, ha.1])
  refine ⟨_, _, _, _, hy, fun z m => ?_⟩
  obtain ⟨tm, htm'⟩ : ∃ tm, tm = (rc.params.zip args'.toArray).foldl (fun tmps x => tmps.setIfInBounds x.1 x.2) rc.tmps := ⟨_, rfl⟩
  have hz : rc.params.zip args'.toArray = (ps.toList.zip args').toArray := by
    rw [hrc]
    apply Array.ext'
    simp
  have htm2 : tm = (ps.toList.zip args').foldl (fun t (p : Nat × Value) => t.setIfInBounds p.1 p.2) tmps := by
    rw [htm', hz, hrc]
    simp
  obtain ⟨r1, r2⟩ := setPs_rel ps.toList A0 tmps args args' ha hn htm
  rw [← htm2] at r1 r2
  -- the loop's record is hidden
  have hid : Hid ρ (H.kill l) w i.at_.block (.loop rc) := ⟨hh, fun id j bl hj hb e => by
    rw [Heap.get_kill] at hb
    split at hb
    · cases hb
    · rename_i hne
      exact hs.sep l id _ bl i j hl hb hi hj rfl (fun e => hne e.symm) e.symm⟩
  have hk : Sim P ρ (H.kill l) w := hs.less (.kill H l)
  have hasn : rc.assign = as := by rw [hrc]
  have hbdy : rc.body = bd := by rw [hrc]
  rw [hasn, hbdy]
  show RoundIn (fen z) m P i.at_.block rc.fn ((rc.params.zip args'.toArray).foldl (fun tmps x => tmps.setIfInBounds x.1 x.2) rc.tmps) as bd w _
  rw [← htm']
  refine roundIn_of_wpIn (F := fen z) trivial ?_
  have h1 := h ⟨some i.at_.block, 0⟩ ρ w { tmps := tm, defers := [] } hk ⟨⟨r1, r2⟩, ⟨⟨[], rfl, .nil, fun d hd => by simp at hd⟩, fun l' hl' => by cases hl'; exact ⟨rfl, rc, hid⟩, Nat.zero_le _⟩⟩
  refine wpIn_mono (F := fen ⟨some i.at_.block, 0⟩) (wpIn_any h1) ?_
  rintro e a1 w1 ⟨e', ρ1, A1, H1, hq, hst, hs1, he1, hr⟩
  cases e' <;> cases e <;> simp only [ExRel] at hr
  case normal.normal =>
    have hid1 := hid.step hst
    refine ⟨_, run_beginRound hid1.at_ (by rw [hrc]), ?_⟩
    obtain ⟨bz, hbz⟩ : ∃ bz : Loop, bz = { rc with state := .busy } := ⟨_, rfl⟩
    rw [← hbz]
    have hs2 : Sim P ρ1 H1 (w1.putObj i.at_.block (.loop bz)) := hs1.putHid hid1
    have hid2 : Hid ρ1 H1 (w1.putObj i.at_.block (.loop bz)) i.at_.block (.loop bz) := hid1.same
    have h2 := hq ⟨some i.at_.block, 0⟩ ρ1 _ a1 hs2 ⟨he1.toEnvRel, ⟨⟨[], (he1.fr.round _ rfl).1, .nil, fun d hd => by simp at hd⟩, fun l' hl' => by cases hl'; exact ⟨(he1.fr.round _ rfl).1, bz, hid2⟩, Nat.zero_le _⟩⟩
    refine wpIn_mono (F := fen ⟨some i.at_.block, 0⟩) (wpIn_any h2) ?_
    have hst0 : St ρ (H.kill l) (w.putObj i.at_.block (.loop bz)) ρ1 H1 (w1.putObj i.at_.block (.loop bz)) := hst.putBoth hid.lt
    have fin : ∀ (jump : Option Code) (ρ3 : Ren) (H3 : Heap) (w3 : World), St ρ1 H1 (w1.putObj i.at_.block (.loop bz)) ρ3 H3 w3 → Sim P ρ3 H3 w3 → Less H' (H3.set l (Blk.loop A0 n ps as bd jump)) →
        ∃ w4, (Instr.endRound i.at_.block jump).run P w3 = .ok (.bool jump.isNone) w4 ∧ St ρ H w ρ3 H' w4 ∧ Sim P ρ3 H' w4 := by
      intro jump ρ3 H3 w3 hst3 hs3 hless
      have hid3 := hid2.step hst3
      have hst1 := hst0.trans hst3
      obtain ⟨en, hen⟩ : ∃ en : Loop, en = { bz with state := if jump.isNone then .ready else .done, pending := jump } := ⟨_, rfl⟩
      refine ⟨w3.putObj i.at_.block (.loop en), by rw [hen]; exact run_endRound jump hid3.at_, ?_, ?_⟩
      · refine St.less ?_ hless
        have hkg : ∀ id b, (H.kill l).get id = some b → H.get id = some b := fun id b hb => by
          rw [Heap.get_kill] at hb
          split at hb
          · cases hb
          · exact hb
        refine ⟨hst1.mono, hst1.next, fun id j hj hg => ?_, fun id j b b' hj hg hro hb' => ?_, fun id j hj hn' => ?_, hst1.os, hst1.tape, hst1.output, by have := hst1.size; simpa using this, fun k hk hun => ?_⟩
        · have hne : id ≠ l := fun e => by rw [e, hl] at hg; cases hg
          rw [Heap.get_set, if_neg hne]
          exact hst1.dead id j hj (by rw [Heap.get_kill, if_neg hne]; exact hg)
        · have hne : id ≠ l := fun e => by rw [e, hl] at hg; cases hg; cases hro
          rw [Heap.get_set, if_neg hne] at hb'
          exact hst1.ro id j b b' hj (by rw [Heap.get_kill, if_neg hne]; exact hg) hro hb'
        · obtain ⟨f1, f2⟩ := hst1.fresh id j hj hn'
          refine ⟨f1, ?_⟩
          rcases f2 with f2 | ⟨id0, i0, b0, e1, e2, e3, e4⟩
          · left; simpa using f2
          · right; exact ⟨id0, i0, b0, e1, e2, hkg _ _ e3, e4⟩
        · have hne : k ≠ i.at_.block := fun e => hun l i _ hi hl rfl e.symm
          rw [World.putObj_heap_other hne, hst1.frame k (by simpa using hk) (fun id j bl h1 h2 h3 => hun id j bl h1 (hkg _ _ h2) h3), World.putObj_heap_other hne]
      · refine Sim.less ?_ hless
        have hs4 : Sim P ρ3 H3 (w3.putObj i.at_.block (.loop en)) := hs3.putHid hid3
        have hi3 : ρ3 l = some i := hst1.mono _ _ hi
        refine ⟨hs4.dom, fun id b j hb hj => ?_, fun id1 id2 b1 b2 i1 i2 g1 g2 j1 j2 hro hne => ?_, hs4.glob⟩
        · rw [Heap.get_set] at hb
          split at hb
          · rename_i e
            subst e
            cases hb
            rw [hi3] at hj
            cases hj
            refine ⟨fn, tmps, D, ?_, hn, fun t ht => (htm t ht).mono hst1.mono⟩
            rw [World.putObj_heap_same hid3.lt, hen, hbz, hrc]
          · exact hs4.live id b j hb hj
        · rw [Heap.get_set] at g1 g2
          split at g1
          · rename_i e1
            rw [if_neg (fun e2 => hne (e1.trans e2.symm))] at g2
            rw [e1, hi3] at j1
            cases j1
            exact fun e => hid3.un id2 i2 b2 j2 g2 e.symm
          · split at g2
            · rename_i e1 e2
              rw [e2, hi3] at j2
              cases j2
              exact hid3.un id1 i1 b1 j1 g1
            · exact hs4.sep id1 id2 b1 b2 i1 i2 g1 g2 j1 j2 hro hne
    rintro e a3 w3 ⟨e', ρ3, A3, H3, hq3, hst3, hs3, he3, hr3⟩
    cases e' <;> cases e <;> simp only [ExRel] at hr3 <;> simp only [RoundEnd] at hq3
    case normal.normal =>
      obtain ⟨rfl, hless⟩ := hq3
      obtain ⟨w4, q1, q2, q3⟩ := fin none ρ3 H3 w3 hst3 hs3 hless
      exact ⟨_, w4, q1, ρ3, .same _ rfl, q2, q3⟩
    case ret.ret =>
      obtain ⟨rfl, hless⟩ := hq3
      obtain ⟨w4, q1, q2, q3⟩ := fin (some .ret) ρ3 H3 w3 hst3 hs3 hless
      exact ⟨_, w4, q1, ρ3, .same _ rfl, q2, q3⟩
    case exit.exit a b =>
      subst hr3
      obtain ⟨rfl, hless⟩ := hq3
      obtain ⟨w4, q1, q2, q3⟩ := fin (some (.exit a)) ρ3 H3 w3 hst3 hs3 hless
      exact ⟨_, w4, q1, ρ3, .same _ rfl, q2, q3⟩
    case goto.goto a b =>
      subst hr3
      obtain ⟨rfl, hless⟩ := hq3
      obtain ⟨w4, q1, q2, q3⟩ := fin (some (.goto a)) ρ3 H3 w3 hst3 hs3 hless
      exact ⟨_, w4, q1, ρ3, .same _ rfl, q2, q3⟩
  all_goals exact hq.elim

theorem V.yield_inv {ρ : Ren} {l : Nat} {z : Value} (h : V ρ (.func (.yield l) #[] #[]) z) : ∃ i, ρ l = some i ∧ z = .func (.yield i.at_.block) #[] #[] := by
  cases h with
  | same _ hp => simp [plain] at hp
  | func fn xs ys xs' ys' hn h1 h2 h3 h4 => simp [noYield] at hn
  | yield l i h => exact ⟨i, h, rfl⟩

theorem od_yield {d : Option Nat} {ty : TypeId} {pos : String} {af : Array Edge} {g : Option (Nat × Bool)} {c : Operand} {args : Array Operand} {ts : Array TypeId} {l : Nat} {v : Value} {H' : Heap} (ec : ev A c = .func (.yield l) #[] #[])
    (hd : YDoes P l (args.map (ev A)).toList H v H') : OpDoes P ⟨d, .call ⟨.value c, args, ts⟩, ty, pos, af, g⟩ A H v H' := by
  intro ρ w a hs he K Q hk z
  have hv := he c (by simp [Op.operands, Call.operands])
  rw [ec] at hv
  obtain ⟨i, hi, e⟩ := hv.yield_inv
  obtain ⟨fn, tmps, as, bd, hy, hr⟩ := hd ρ w (args.map a.eval).toList i hs (evals (fun x hx => he x (by simp [Op.operands, Call.operands, hx]))) hi
  have hrun : (execOp a.eval ⟨d, .call ⟨.value c, args, ts⟩, ty, pos, af, g⟩).run P w = .ok (.round i.at_.block fn tmps as bd) w := by
    rw [← hy]
    simp only [execOp, resolve, e, Deferred.ofValue, invoke, pure_bind]
    congr 2
    apply Array.ext'
    simp
  refine ⟨fun _ _ => trivial, ?_⟩
  rw [semAt_of hrun (by simp) _]
  refine ⟨fun h => by simp [fen, Fence.wide] at h, ?_⟩
  refine (hr z _).mono ?_
  rintro e w' ⟨ρ', ho, hst, hs'⟩
  cases e with
  | returned v' => exact hk v' ρ' w' ho hst hs'
  | panicked ch => exact ho.elim
  | outgrown => exact ho.elim

/-- How the activation goes on behind a loop: by the jump that ended it. -/
noncomputable def jumpQ (Q : Ex → Env → Heap → Prop) (A : Env) (H : Heap) : Option Code → Prop
  | none => Q .normal A H
  | some .ret => Q .ret A H
  | some (.exit id) => Q (.exit id) A H
  | some (.goto l) => Q (.goto l) A H
  | _ => False

theorem awp_rangeFunc {g : Operand} {ps : Array Tmp} {as bd : Code} {gf : FuncId} {xs ys : Array Value} {v : Value} {H2 : Heap} {st : Option Code} (hok : okArg P n g = true) (hg : ev A g = .func (.func gf) xs ys) (hen : entered P gf = true)
    (hd : Does P gf (xs.toList ++ [.func (.yield H.next) #[] #[]] ++ ys.toList) (H.push (.loop A n ps as bd none)) (.ret v) H2) {A' : Env} {n' : Nat} {ps' : Array Tmp} {as' bd' : Code} (hl : H2.get H.next = some (.loop A' n' ps' as' bd' st)) (hq : jumpQ Q A (H2.kill H.next) st) :
    AWp P n (.rangeFunc g ps as bd) Q A H := by
  intro z ρ w a hs he
  have hgv := he.eval hs hok
  rw [hg] at hgv
  obtain ⟨xs', ys', eg, hx, hy⟩ := hgv.func_inv
  refine wpIn_rangeFunc fun fn _ => ?_
  -- what is laid
  obtain ⟨lr, mk, w1, D, hrun, hw1, hlr, hsz, hold, hD⟩ : ∃ lr mk w1 D, (Instr.enterLoop fn a.tmps ps as bd (fen z).round).run P w = .ok (lr, mk) w1 ∧
      w1.heap[lr]? = some (.loop { state := .ready, pending := none, fn := fn, tmps := a.tmps, params := ps, assign := as, body := bd, defers := D }) ∧ w.heap.size ≤ lr ∧ (w.heap.size ≤ w1.heap.size ∧ w1.os = w.os ∧ w1.tape = w.tape ∧ w1.output = w.output) ∧ (∀ k, k < w.heap.size → w1.heap[k]? = w.heap[k]?) ∧
      ((mk = [] ∧ a.defers = []) ∨ (z.r = none ∧ mk = [mark w.heap.size] ∧ w1.heap[w.heap.size]? = some (.deferred (some [])) ∧ lr ≠ w.heap.size)) := by
    cases hz : z.r with
    | none =>
      refine ⟨w.heap.size + 1, [mark w.heap.size], (w.alloc (.deferred (some []))).alloc (.loop { state := .ready, pending := none, fn := fn, tmps := a.tmps, params := ps, assign := as, body := bd, defers := w.heap.size }), w.heap.size, by rw [show (fen z).round = none from hz]; exact run_enterLoop_outer _ _ _ _ _, ?_, by omega, ⟨by simp; omega, rfl, rfl, rfl⟩, fun k hk => ?_, .inr ⟨rfl, rfl, ?_, by omega⟩⟩
      · have := World.alloc_heap_new (w.alloc (.deferred (some []))) (.loop { state := .ready, pending := none, fn := fn, tmps := a.tmps, params := ps, assign := as, body := bd, defers := w.heap.size })
        rwa [World.size_alloc] at this
      · exact (heap_alloc _ _ (by simp; omega)).trans (heap_alloc _ _ hk)
      · exact (heap_alloc _ _ (by simp)).trans (World.alloc_heap_new w _)
    | some l0 =>
      obtain ⟨hd0, rc, hrc⟩ := he.fr.round l0 hz
      refine ⟨w.heap.size, [], w.alloc (.loop { state := .ready, pending := none, fn := fn, tmps := a.tmps, params := ps, assign := as, body := bd, defers := rc.defers }), rc.defers, by rw [show (fen z).round = some l0 from hz]; exact run_enterLoop_inner hrc.at_ _ _ _ _ _, ?_, Nat.le_refl _, ⟨by simp, rfl, rfl, rfl⟩, fun k hk => heap_alloc _ _ hk, .inl ⟨rfl, hd0⟩⟩
      exact World.alloc_heap_new w _
  obtain ⟨hsz, hos, htp, hou⟩ := hsz
  have hlr1 : lr < w1.heap.size := (Array.getElem?_eq_some_iff.1 hw1).1
  -- the loop's record is a block
  have hfreshid : ρ H.next = none := by
    cases hr : ρ H.next with
    | none => rfl
    | some i => have := hs.dom _ i hr; omega
  have hsub : Sub ρ (ext ρ H.next ⟨⟨lr, 0, none⟩, 0, 0⟩) := fun id i hi => by
    have : id ≠ H.next := fun e => by rw [e, hfreshid] at hi; cases hi
    rw [ext_ne _ _ this]; exact hi
  obtain ⟨ρ1, hρ1⟩ : ∃ ρ1, ρ1 = ext ρ H.next ⟨⟨lr, 0, none⟩, 0, 0⟩ := ⟨_, rfl⟩
  rw [← hρ1] at hsub
  have hthis : ρ1 H.next = some ⟨⟨lr, 0, none⟩, 0, 0⟩ := by rw [hρ1]; exact ext_same _ _ _
  have hother : ∀ id, id ≠ H.next → ρ1 id = ρ id := fun id h => by rw [hρ1]; exact ext_ne _ _ h
  have hs1 : Sim P ρ1 (H.push (.loop A n ps as bd none)) w1 := by
    refine ⟨fun id i hi => ?_, fun id b i hb hi => ?_, fun id1 id2 b1 b2 i1 i2 g1 g2 j1 j2 hro hne => ?_, fun k hk => ?_⟩
    · simp only [Heap.next_push]
      by_cases e : id = H.next
      · omega
      · rw [hother id e] at hi; have := hs.dom id i hi; omega
    · rw [Heap.get_push] at hb
      split at hb
      · rename_i e
        subst e
        cases hb
        rw [hthis] at hi
        cases hi
        exact ⟨fn, a.tmps, D, hw1, he.size, fun t ht => (he.tmps t ht).mono hsub⟩
      · rename_i e
        rw [hother id e] at hi
        have := hs.live id b i hb hi
        exact this.mono hsub (hold _ this.lt)
    · rw [Heap.get_push] at g1 g2
      split at g1
      · rename_i e1
        rw [if_neg (fun e2 => hne (e1.trans e2.symm))] at g2
        rw [e1, hthis] at j1
        cases j1
        rw [hother id2 (fun e2 => hne (e1.trans e2.symm))] at j2
        have := (hs.live id2 b2 i2 g2 j2).lt
        simp only
        omega
      · rename_i e1
        rw [hother id1 e1] at j1
        split at g2
        · rename_i e2
          rw [e2, hthis] at j2
          cases j2
          have := (hs.live id1 b1 i1 g1 j1).lt
          simp only
          omega
        · rename_i e2
          rw [hother id2 e2] at j2
          exact hs.sep id1 id2 b1 b2 i1 i2 g1 g2 j1 j2 hro hne
    · obtain ⟨i, hi, e⟩ := hs.glob k hk
      exact ⟨i, hsub _ _ hi, e⟩
  have hst1 : St ρ H w ρ1 (H.push (.loop A n ps as bd none)) w1 := by
    refine ⟨hsub, by simp, fun id i hi hg => ?_, fun id i b b' hi hg hro hb' => ?_, fun id i hi hn => ?_, hos, htp, hou, hsz, fun k hk _ => hold k hk⟩
    · rw [Heap.get_push, if_neg (by have := hs.dom id i hi; omega)]; exact hg
    · rw [Heap.get_push, if_neg (by have := hs.dom id i hi; omega), hg] at hb'; cases hb'; exact hro
    · by_cases e : id = H.next
      · rw [e, hthis] at hi; cases hi; exact ⟨by omega, .inl hlr⟩
      · rw [hother id e, hn] at hi; cases hi
  refine ⟨lr, mk, w1, { target := .fn (.func gf) ys', args := xs' ++ #[.func (.yield lr) #[] #[]] }, w1, gf, xs' ++ #[.func (.yield lr) #[] #[]] ++ ys', w1, hrun, ?_, fun _ _ => trivial, ?_, fun h => by simp [fen, Fence.wide] at h, ?_⟩
  · simp only [resolve, eg]
    simp [go_sem, Deferred.ofValue]
  · simp [invoke, go_sem, run_callFunc hen]
  · have hargs : VL ρ1 (xs.toList ++ [.func (.yield H.next) #[] #[]] ++ ys.toList) (xs'.toList ++ [.func (.yield lr) #[] #[]] ++ ys'.toList) :=
      ((hx.mono hsub).append (.cons (.yield _ _ hthis) (.nil _))).append (hy.mono hsub)
    have hcall := hd ρ1 w1 _ hs1 hargs
    rw [show (xs'.toList ++ [Value.func (.yield lr) #[] #[]] ++ ys'.toList).toArray = xs' ++ #[.func (.yield lr) #[] #[]] ++ ys' by apply Array.ext'; simp] at hcall
    refine callsIn_fen (hcall.mono ?_)
    rintro e w3 ⟨ρ3, ho, hst3, hs3⟩
    cases e with
    | panicked ch => exact ho.elim
    | outgrown => exact ho.elim
    | returned v' =>
      have hi3 : ρ3 H.next = some ⟨⟨lr, 0, none⟩, 0, 0⟩ := hst3.mono _ _ hthis
      obtain ⟨fn', tm', D', hh3, _⟩ := hs3.live _ _ _ hl hi3
      simp only at hh3
      obtain ⟨rc, hrc⟩ : ∃ rc : Loop, rc = { state := if st.isNone then .ready else .done, pending := st, fn := fn', tmps := tm', params := ps', assign := as', body := bd', defers := D' } := ⟨_, rfl⟩
      rw [← hrc] at hh3
      have hbusy : rc.state ≠ .busy := by rw [hrc]; cases st <;> simp
      have hpend : rc.pending = st := by rw [hrc]
      have hid3 : Hid ρ3 (H2.kill H.next) w3 lr (.loop rc) := ⟨hh3, fun id j bl hj hb e => by
        rw [Heap.get_kill] at hb
        split at hb
        · cases hb
        · rename_i hne
          exact hs3.sep H.next id _ bl _ j hl hb hi3 hj rfl (fun e => hne e.symm) e.symm⟩
      have hst4 : St ρ H w ρ3 (H2.kill H.next) (w3.putObj lr (.loop { rc with state := .exhausted })) := ((hst1.trans hst3).less (.kill H2 _)).putHid hlr
      have hs4 : Sim P ρ3 (H2.kill H.next) (w3.putObj lr (.loop { rc with state := .exhausted })) := (hs3.less (.kill H2 _)).putHid hid3
      have he4 : EnvFr z ρ3 (H2.kill H.next) (w3.putObj lr (.loop { rc with state := .exhausted })) n A { a with defers := mk ++ a.defers } := by
        refine ⟨⟨he.size, fun t ht => (he.tmps t ht).mono (hsub.trans hst3.mono)⟩, ?_⟩
        have f4 : Fr z ρ3 (H2.kill H.next) (w3.putObj lr (.loop { rc with state := .exhausted })) a := he.fr.step hst4 rfl
        rcases hD with ⟨rfl, _⟩ | ⟨hz, rfl, hDat, hDne⟩
        · exact f4
        · obtain ⟨ds, q1, q2, q3⟩ := f4.marks
          refine ⟨⟨w.heap.size :: ds, by rw [q1]; rfl, List.nodup_cons.2 ⟨fun hm => ?_, q2⟩, fun d hd => ?_⟩, fun l hl => (by rw [hz] at hl; cases hl), f4.base⟩
          · obtain ⟨ds0, p1, p2, p3⟩ := he.fr.marks
            have : ds0 = ds := by
              have := p1.symm.trans q1
              exact (List.map_inj_right (fun x y h => by simpa [mark] using h)).1 this
            subst this
            have := (p3 _ hm).2.lt
            omega
          · rcases List.mem_cons.1 hd with rfl | hd
            · have hD1 : Hid ρ1 (H.push (.loop A n ps as bd none)) w1 w.heap.size (.deferred (some [])) := ⟨hDat, fun id j bl hj hb => by
                by_cases e : id = H.next
                · rw [e, hthis] at hj; cases hj; exact hDne
                · rw [hother id e] at hj
                  rw [Heap.get_push, if_neg e] at hb
                  have := (hs.live id bl j hb hj).lt
                  omega⟩
              have hD3 := hD1.step hst3
              refine ⟨he.fr.base, ?_⟩
              have hD3' : Hid ρ3 (H2.kill H.next) w3 w.heap.size (.deferred (some [])) := ⟨hD3.at_, fun id j bl hj hb => hD3.un id j bl hj ((Less.kill H2 _).get _ _ hb)⟩
              exact hD3'.put (fun e => hDne e.symm)
            · exact q3 d hd
      refine ⟨st, w3.putObj lr (.loop { rc with state := .exhausted }), (run_endLoop (P := P) hh3 hbusy).trans (by rw [hpend]), ?_⟩
      cases st with
      | none => exact ⟨.normal, ρ3, A, _, hq, hst4, hs4, he4, trivial⟩
      | some c =>
        cases c <;> simp only [jumpQ] at hq
        case ret => exact wpIn_ret ⟨.ret, ρ3, A, _, hq, hst4, hs4, he4, trivial⟩
        case exit id => exact wpIn_exit ⟨.exit id, ρ3, A, _, hq, hst4, hs4, he4, rfl⟩
        case goto id => exact wpIn_goto ⟨.goto id, ρ3, A, _, hq, hst4, hs4, he4, rfl⟩
end
end Go.Ab
