/- What is resolved acts as what it came from. -/
import Derived.Test.YtfdeejmibgpbhaaDoorAbComp
set_option linter.unusedVariables false
namespace Go.Ab
section
variable {P : Program} {A : Env} {H : Heap}

/-- An operation that gives so, in some way. -/
def Gives (P : Program) (op : Op) (A : Env) (H : Heap) (v : Value) (H' : Heap) : Prop := ∃ c, aop P noCall ⟨none, op, 0, "", #[], none⟩ A H = some (c, v, H')

theorem gives_gen {op : Op} {v : Value} {H' : Heap} (h : rop P (.gen op) A H = some (v, H')) : Gives P op A H v H' := by
  simp only [rop] at h
  split at h
  · rename_i c v1 H1 he
    simp only [Option.some.injEq, Prod.mk.injEq] at h
    obtain ⟨rfl, rfl⟩ := h
    exact ⟨c, he⟩
  · cases h

theorem optV_some {r : Option Value} {v : Value} {H' : Heap} (h : optV H r = some (v, H')) : r = some v ∧ H' = H := by
  cases r with
  | none => cases h
  | some u => simp [optV] at h; exact ⟨by rw [h.1], h.2.symm⟩

theorem rbin_binV {op : BinOp} {t : TypeId} {x y v : Value} {k : Bool} (h : rbin op x y = some v) : binV P k op t x y = some v := by
  unfold rbin at h
  split at h
  · exact h
  · exact h
  · cases h

def SkIs (P : Program) (t : TypeId) : Sk → Prop
  | .i => ∃ ik, P.underlying t = some (.int ik)
  | .b => P.underlying t = some .bool
  | .s => P.underlying t = some .string

theorem eqSk_aeq {f : Nat} {t : TypeId} {k : Sk} {a b : Value} {r : Bool} (h : eqSk k a b = some r) (hk : SkIs P t k) : aeq P (f + 1) t a b = some r := by
  unfold eqSk at h
  split at h
  · obtain ⟨ik, hu⟩ := hk; simp only [aeq, hu]; exact h
  · simp only [SkIs] at hk; simp only [aeq, hk]; exact h
  · simp only [SkIs] at hk; simp only [aeq, hk]; exact h
  · cases h

theorem eqCells_aeq {f : Nat} : ∀ (fs : List Field) (i : Nat) (ks : List Sk) (xs ys : Array Value) (b : Bool), scalars P fs i = some ks → eqCells ks xs ys i = some b → aeqFields P (aeq P (f + 1)) fs xs ys = some b
  | [], i, ks, xs, ys, b, hs, h => by simp only [scalars, Option.some.injEq] at hs; subst hs; simpa [eqCells, aeqFields] using h
  | fd :: fs, i, ks, xs, ys, b, hs, h => by
    unfold scalars at hs
    split at hs
    · cases hs
    · rename_i h1
      simp only [not_or, Decidable.not_not] at h1
      split at hs
      · rename_i inf ks1 hi hs1
        have main : ∀ k, (∀ zs : Array Value, apart P fd.type zs fd.offset = zs[i]?) → SkIs P fd.type k →
            eqCells (k :: ks1) xs ys i = some b → aeqFields P (aeq P (f + 1)) (fd :: fs) xs ys = some b := fun k hap hk h => by
          unfold eqCells at h
          unfold aeqFields
          rw [if_neg h1.1, hap, hap]
          split at h
          · rename_i a c ha hc
            rw [ha, hc]
            simp only
            split at h
            · rename_i he
              rw [eqSk_aeq he hk]
              exact eqCells_aeq fs (i + 1) ks1 xs ys b hs1 h
            · rename_i r hr
              have := eqSk_aeq (f := f) h hk
              rw [this]
              cases b with
              | true => exact absurd h hr
              | false => rfl
          · cases h
        split at hs
        · rename_i ik hu; cases hs; exact main .i (fun zs => by simp [apart, hu, hi, isAggD, h1.2]) ⟨ik, hu⟩ h
        · rename_i hu; cases hs; exact main .b (fun zs => by simp [apart, hu, hi, isAggD, h1.2]) hu h
        · rename_i hu; cases hs; exact main .s (fun zs => by simp [apart, hu, hi, isAggD, h1.2]) hu h
        · cases hs
      · cases hs

theorem rfill_afill {pl : Array (Nat × Nat)} : ∀ (parts : List (Nat × Operand)) (l : List (Nat × Nat × Operand)) (cells : List Value), cPlaces pl parts = some l → afill (pl[·]?) cells (parts.map fun p => (p.1, ev A p.2)) = rfill (ev A) cells l
  | [], l, cells, h => by simp only [cPlaces, Option.some.injEq] at h; subst h; rfl
  | (i, x) :: rest, l, cells, h => by
    unfold cPlaces at h
    split at h
    · rename_i off size l1 hp hr
      cases h
      simp only [List.map_cons, afill, rfill, hp]
      rw [rfill_afill rest l1 _ hr]
    · cases h

set_option maxHeartbeats 2000000 in
theorem resolve_ok {op : Op} {v : Value} {H' : Heap} (h : rop P (resolve1 P op) A H = some (v, H')) : Gives P op A H v H' := by
  have gen : rop P (.gen op) A H = some (v, H') → Gives P op A H v H' := gives_gen
  unfold resolve1 at h
  split at h
  case h_1 x => simp only [rop, Option.some.injEq, Prod.mk.injEq] at h; obtain ⟨rfl, rfl⟩ := h; exact ⟨_, rfl⟩
  case h_2 x => simp only [rop, Option.some.injEq, Prod.mk.injEq] at h; obtain ⟨rfl, rfl⟩ := h; exact ⟨_, rfl⟩
  case h_3 c x y =>
    simp only [rop] at h
    split at h
    · rename_i t ht
      simp only [Option.some.injEq, Prod.mk.injEq] at h; obtain ⟨rfl, rfl⟩ := h
      exact ⟨.pure, by simp only [aop, a_pick, ht]⟩
    · cases h
  case h_4 b t x y yt =>
    have bin : rop P (.bin b x y) A H = some (v, H') → Gives P (.binOp b t x y yt) A H v H' := fun h => by
      obtain ⟨h1, rfl⟩ := optV_some h
      exact ⟨.pure, by simp only [aop, a_binOp, rbin_binV h1, pureR]⟩
    split at h
    · exact bin h
    · exact bin h
    · rename_i hu
      have beq : ∀ ne : Bool, (b = bif ne then .neq else .eql) → rop P (.beq ne x y) A H = some (v, H') → Gives P (.binOp b t x y yt) A H v H' := fun ne hb h => by
        simp only [rop] at h
        split at h
        · rename_i p q hp hq
          simp only [Option.some.injEq, Prod.mk.injEq] at h; obtain ⟨rfl, rfl⟩ := h
          refine ⟨.pure, ?_⟩
          have hg : ∀ k, guardOk P k t (.bool p) (.bool q) = true := fun k => by simp [guardOk, isNI, isAg]
          simp only [aop, a_binOp, binV, hp, hq, eqBin, notNum, hg, Bool.and_self, if_true, hb]
          cases ne <;> simp [aeq, hu, pureR]
        · cases h
      split at h
      · exact beq false rfl h
      · exact beq true rfl h
      · exact gen h
    · rename_i fs hu
      split at h
      · exact gen h
      · rename_i hc
        simp only [Bool.or_eq_true, not_or, Bool.not_eq_true] at hc
        split at h
        · rename_i ks hks
          have eqs : ∀ ne : Bool, (b = bif ne then .neq else .eql) → rop P (.eqs ne ks x y) A H = some (v, H') → Gives P (.binOp b t x y yt) A H v H' := fun ne hb h => by
            simp only [rop] at h
            split at h
            · rename_i p q hp hq
              split at h
              · rename_i r hr
                simp only [Option.some.injEq, Prod.mk.injEq] at h; obtain ⟨rfl, rfl⟩ := h
                refine ⟨.pure, ?_⟩
                have hg : ∀ k, guardOk P k t (.agg p) (.agg q) = true := fun k => by simp [guardOk, isNI, hc.2]
                have ha := eqCells_aeq (f := 18) fs.toList 0 ks p q r hks hr
                have ha2 : aeq P 20 t (.agg p) (.agg q) = some r := by
                  unfold aeq
                  rw [hu]
                  simp only [hc.1, Bool.false_eq_true, if_false]
                  exact ha
                simp only [aop, a_binOp, binV, hp, hq, eqBin, notNum, hg, Bool.and_self, if_true, hb]
                cases ne <;> simp [ha2, pureR]
              · cases h
            · cases h
          split at h
          · exact eqs false rfl h
          · exact eqs true rfl h
          · exact gen h
        · exact gen h
    · exact gen h
  case h_5 t x =>
    simp only [rop] at h
    split at h
    · rename_i p hp
      simp only [Option.some.injEq, Prod.mk.injEq] at h; obtain ⟨rfl, rfl⟩ := h
      exact ⟨.pure, by simp only [aop, a_unOp, hp, unBin, pureR]⟩
    · cases h
  case h_6 src dst x =>
    split at h
    · rename_i ik k hs hd
      simp only [rop] at h
      split at h
      · rename_i k0 m hm
        simp only [Option.some.injEq, Prod.mk.injEq] at h; obtain ⟨rfl, rfl⟩ := h
        exact ⟨.pure, by simp only [aop, a_convert, hs, hd, hm, convBin, pureR]⟩
      · cases h
    · exact gen h
  case h_7 t x =>
    split at h
    · exact gen h
    · rename_i td hni hu
      simp only [rop, Option.some.injEq, Prod.mk.injEq] at h; obtain ⟨rfl, rfl⟩ := h
      refine ⟨.pure, ?_⟩
      simp only [aop, a_makeInterface, hu]
    · exact gen h
  case h_8 t x f =>
    split at h
    · rename_i fs hu
      split at h
      · rename_i fd hf
        split at h
        · rename_i td inf hd hi
          simp only [rop] at h
          split at h
          · rename_i cs hcs
            obtain ⟨h1, rfl⟩ := optV_some h
            refine ⟨.pure, ?_⟩
            simp only [aop, a_field, hu, hcs, hf, apart, hd, hi]
            cases hag : isAggD td <;> rw [hag] at h1 <;> simp only [cond_true, cond_false] at h1 <;> simp [h1, pureR]
          · cases h
        · exact gen h
      · exact gen h
    · exact gen h
  case h_9 t x f =>
    split at h
    · rename_i fs hu
      split at h
      · rename_i fd hf
        split at h
        · rename_i inf hi
          split at h
          · exact gen h
          · rename_i hz
            simp only [rop] at h
            split at h
            · rename_i a ha
              simp only [Option.some.injEq, Prod.mk.injEq] at h; obtain ⟨rfl, rfl⟩ := h
              refine ⟨.pure, ?_⟩
              have : Nat.beq inf.size 0 = false := by simp [nbeq, hz]
              simp only [aop, a_fieldAddr, hu, ha, hf, hi, this, cond_false]
            · cases h
        · exact gen h
      · exact gen h
    · exact gen h
  case h_10 t x ix =>
    split at h
    · rename_i e hu
      split at h
      · rename_i inf hi
        simp only [rop] at h
        split at h
        · rename_i ik m a len cap hm ha
          split at h
          · rename_i hc
            simp only [Option.some.injEq, Prod.mk.injEq] at h; obtain ⟨rfl, rfl⟩ := h
            exact ⟨.pure, by simp only [aop, a_indexAddr, hm, hu, ha, hi, hc, and_self, if_true]⟩
          · cases h
        · cases h
      · exact gen h
    · exact gen h
  case h_11 t x ix =>
    split at h
    · rename_i hu
      simp only [rop] at h
      split at h
      · rename_i ik m s hm hs
        split at h
        · rename_i h0
          split at h
          · rename_i b hb
            simp only [Option.some.injEq, Prod.mk.injEq] at h; obtain ⟨rfl, rfl⟩ := h
            exact ⟨.pure, by simp only [aop, a_index, hm, hu, hs, h0, if_true, hb]⟩
          · cases h
        · cases h
      · cases h
    · exact gen h
  case h_12 x i =>
    simp only [rop] at h
    split at h
    · rename_i vs hv
      obtain ⟨h1, rfl⟩ := optV_some h
      exact ⟨.pure, by simp only [aop, a_extract, hv, h1, pureR]⟩
    · cases h
  case h_13 x xt t ok =>
    split at h
    · rename_i td inf hu hi
      split at h
      · rename_i z hz
        split at h
        · rename_i hcl
          split at h
          · exact gen h
          · rename_i hni
            simp only [rop] at h
            refine ⟨.pure, ?_⟩
            simp only [aop, a_typeAssert, aassert, hu, hi, hz, hcl, if_true]
            split at h
            · rename_i hx
              cases ok with
              | true =>
                simp only [cond_true, Option.some.injEq, Prod.mk.injEq] at h; obtain ⟨rfl, rfl⟩ := h
                simp only [hx]
                cases td <;> first | rfl | exact absurd rfl (hni _)
              | false => cases h
            · rename_i u w hx
              simp only [hx]
              split at h
              · rename_i e
                simp only [Option.some.injEq, Prod.mk.injEq] at h; obtain ⟨rfl, rfl⟩ := h
                cases td <;> first | exact absurd rfl (hni _) | (cases ok <;> simp [e, pureR])
              · rename_i e
                cases ok with
                | true =>
                  simp only [cond_true, Option.some.injEq, Prod.mk.injEq] at h; obtain ⟨rfl, rfl⟩ := h
                  cases td <;> first | exact absurd rfl (hni _) | simp [e, pureR]
                | false => cases h
            · cases h
        · exact gen h
      · exact gen h
    · exact gen h
  case h_14 t parts =>
    split at h
    · rename_i fs inf hu hi
      split at h
      · rename_i z pl hz hpl
        split at h
        · rename_i hp
          split at h
          · rename_i l hl
            simp only [rop] at h
            split at h
            · rename_i r hr
              simp only [Option.some.injEq, Prod.mk.injEq] at h; obtain ⟨rfl, rfl⟩ := h
              have := rfill_afill (A := A) parts.toList l z.cells.toList hl
              rw [hr] at this
              exact ⟨.pure, by simp only [aop, a_build, hu, hi, hz, hpl, hp, cond_true, partsOf, this, Option.map_some, pureR]⟩
            · cases h
          · exact gen h
        · exact gen h
      · exact gen h
    · exact gen h
  case h_15 t len parts =>
    split at h
    · rename_i e hu
      split at h
      · rename_i inf hi
        split at h
        · rename_i z hz
          split at h
          · rename_i hc
            simp only [rop] at h
            split at h
            · rename_i r hr
              simp only [Option.some.injEq, Prod.mk.injEq] at h; obtain ⟨rfl, rfl⟩ := h
              exact ⟨.alloc _, by simp only [aop, a_buildSlice, hu, hi, hz, hc, cond_true, partsOf, hr]; rfl⟩
            · cases h
          · exact gen h
        · exact gen h
      · exact gen h
    · exact gen h
  case h_16 e =>
    split at h
    · rename_i inf hi
      split at h
      · rename_i z hz
        split at h
        · rename_i hp
          simp only [rop, Option.some.injEq, Prod.mk.injEq] at h; obtain ⟨rfl, rfl⟩ := h
          exact ⟨.alloc _, by simp only [aop, a_alloc, hi, hz, hp, cond_true]; rfl⟩
        · exact gen h
      · exact gen h
    · exact gen h
  case h_17 t x y =>
    split at h
    · rename_i e hu
      split at h
      · rename_i inf hi
        split at h
        · rename_i z hz
          split at h
          · rename_i hel
            simp only [rop] at h
            split at h
            · rename_i l c hl hc
              split at h
              · rename_i hcond
                simp only [Option.some.injEq, Prod.mk.injEq] at h; obtain ⟨rfl, rfl⟩ := h
                refine ⟨.alloc (.cells (zeros z.cells (c.toNat * inf.size)) e false), ?_⟩
                simp only [aop, a_makeSlice, hu, hl, hc, hi, hz]
                rw [if_pos ⟨hel, hcond⟩]
              · cases h
            · cases h
          · exact gen h
        · exact gen h
      · exact gen h
    · exact gen h
  case h_18 t x lo hi =>
    split at h
    · rename_i e hu
      split at h
      · rename_i inf hin
        simp only [rop] at h
        split at h
        · rename_i l hh hl hhi
          obtain ⟨h1, rfl⟩ := optV_some h
          have e1 : boundOf A lo = some l := by rw [← hl]; cases lo <;> rfl
          have e2 : boundOf A hi = some hh := by rw [← hhi]; cases hi <;> rfl
          have e3 : boundOf A none = some none := rfl
          exact ⟨.pure, by simp only [aop, a_slice, hu, hin, e1, e2, e3, Option.isNone_none, Bool.true_or, if_true, h1, pureR]⟩
        · cases h
      · exact gen h
    · exact gen h
  case h_19 t x =>
    split at h
    · rename_i d inf hu hi
      simp only [rop] at h
      split at h
      · rename_i a ha
        split at h
        · rename_i c e ro hg
          cases hag : isAggD d with
          | true =>
            rw [hag] at h
            simp only [cond_true] at h
            split at h
            · rename_i hle
              simp only [Option.some.injEq, Prod.mk.injEq] at h; obtain ⟨rfl, rfl⟩ := h
              exact ⟨.load, by simp only [aop, a_load, ha, aload, hu, hi, hg, hag, if_true, hle]⟩
            · cases h
          | false =>
            rw [hag] at h
            obtain ⟨h1, rfl⟩ := optV_some h
            exact ⟨.load, by simp only [aop, a_load, ha, aload, hu, hi, hg, hag, Bool.false_eq_true, if_false, h1]⟩
        · cases h
      · cases h
    · exact gen h
  case h_20 t x y =>
    split at h
    · rename_i inf hi
      simp only [rop] at h
      split at h
      · rename_i a ha
        split at h
        · rename_i c e hg
          split at h
          · rename_i hc
            simp only [Option.some.injEq, Prod.mk.injEq] at h; obtain ⟨rfl, rfl⟩ := h
            refine ⟨.gen, ?_⟩
            simp only [aop, a_store, ha, astore, hi, hg]
            rw [if_pos hc]
          · cases h
        · cases h
      · cases h
    · exact gen h
  case h_21 args ts =>
    split at h
    · rename_i x t ha ht
      split at h
      · rename_i e hu
        simp only [rop] at h
        split at h
        · rename_i q m c hx
          simp only [Option.some.injEq, Prod.mk.injEq] at h; obtain ⟨rfl, rfl⟩ := h
          exact ⟨.pure, by simp only [aop, a_call, ha, ht, alen, hu, hx]⟩
        · cases h
      · rename_i hu
        simp only [rop] at h
        split at h
        · rename_i s hx
          simp only [Option.some.injEq, Prod.mk.injEq] at h; obtain ⟨rfl, rfl⟩ := h
          exact ⟨.pure, by simp only [aop, a_call, ha, ht, alen, hu, hx]⟩
        · cases h
      · exact gen h
    · exact gen h
  case h_22 args ts =>
    split at h
    · rename_i x y t t2 ha ht
      split at h
      · rename_i e td hu hu2
        split at h
        · rename_i inf hi
          split at h
          · rename_i z hz
            split at h
            · rename_i hc
              simp only [rop] at h
              refine ⟨.gen, ?_⟩
              simp only [aop, a_call, ha, ht, hu, hu2, hi, hz, hc, cond_true, rappend_eq, h, Option.map_some]
            · exact gen h
          · exact gen h
        · exact gen h
      · exact gen h
    · exact gen h
  case h_23 => cases h
  case h_24 => cases h
  case h_25 e x => simp only [rop, Option.some.injEq, Prod.mk.injEq] at h; obtain ⟨rfl, rfl⟩ := h; exact ⟨.alloc _, rfl⟩
  case h_26 => exact gen h
end
end Go.Ab
