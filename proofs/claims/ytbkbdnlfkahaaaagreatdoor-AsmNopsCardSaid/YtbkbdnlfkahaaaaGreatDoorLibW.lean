/- linotypekit.Pick. -/
import Derived.Test.YtbkbdnlfkahaaaaGreatDoorLibA
import Derived.Test.YtbkbdnlfkahaaaaGreatDoorLibE
import Derived.Test.YtbkbdnlfkahaaaaGreatDoorAbH
import Derived.Test.YtbkbdnlfkahaaaaGreatDoorLibG
set_option linter.unusedVariables false
set_option linter.unusedSimpArgs false
set_option maxRecDepth 100000
namespace Go.Proofs.YtbkbdnlfkahaaaaGreatDoor.code
open Go.Ab

theorem q_linotypekit_Pick (x n : Int) (hx : I64 x) (hn : 1 ≤ n ∧ n ≤ 4611686018427387904) (H : Heap) : CallQ prog f_linotypekit_Pick [.int .i64 x, .int .i64 n] H fun u H' => u = .int .i64 (x % n) ∧ H' = H := by
  refine in_linotypekit_Pick fun hw => ?_
  have h1 : ¬ n < 1 := by omega
  have h2 : n ≠ 0 := by omega
  simp only [pc_linotypekit_Pick, sxA, sxB, Nat.reduceBEq, Nat.reduceEqDiff, reduceCtorEq, h1, decide_false]
  refine ⟨h2, ?_⟩
  have hp := Int.emod_nonneg x h2
  have hp2 := Int.emod_lt_of_pos x (by omega : 0 < n)
  have ht : x.tmod n = if 0 ≤ x then x % n else if x % n = 0 then 0 else x % n - n := by
    rw [Int.tmod_eq_emod]
    have hd : (n ∣ x) ↔ x % n = 0 := ⟨Int.emod_eq_zero_of_dvd, Int.dvd_of_emod_eq_zero⟩
    have hnn : (n.natAbs : Int) = n := Int.natAbs_of_nonneg (by omega)
    by_cases h0 : 0 ≤ x
    · simp [h0]
    · by_cases h3 : x % n = 0
      · simp [h0, hd.2 h3, h3]
      · have hnd : ¬ n ∣ x := fun h => h3 (hd.1 h)
        simp [h0, h3, hnd, hnn]
  refine cB_cases (fun h3 => ?_) (fun h3 => ?_)
  · have h3 : x.tmod n < 0 := of_decide_eq_true h3
    have e : IntKind.i64.wrap (x.tmod n + n) = x % n := by
      rw [w64 (by unfold I64; split at ht <;> (try split at ht) <;> omega)]
      split at ht <;> (try split at ht) <;> omega
    simp only [sxA, sxB, Nat.reduceBEq, Nat.reduceEqDiff, reduceCtorEq, ret_linotypekit_Pick, e]
    exact .mk (Nat.le_refl _) ⟨rfl, rfl⟩
  · have h3 : ¬ x.tmod n < 0 := of_decide_eq_false h3
    have e : x.tmod n = x % n := by split at ht <;> (try split at ht) <;> omega
    simp only [sxA, sxB, Nat.reduceBEq, Nat.reduceEqDiff, reduceCtorEq, ret_linotypekit_Pick, e]
    exact .mk (Nat.le_refl _) ⟨rfl, rfl⟩

end Go.Proofs.YtbkbdnlfkahaaaaGreatDoor.code
/- A closed call of decode.Decode over bytes, as it is of these bytes wherever they lie: what it makes is forgotten. -/
set_option linter.unusedVariables false
set_option linter.unusedSimpArgs false
set_option maxRecDepth 100000
namespace Go.Proofs.YtbkbdnlfkahaaaaGreatDoor.code
open Go.Ab

theorem v_tuple {ρ : Ren} {xs : List Value} {z : Value} (h : V ρ (.tuple xs.toArray) z) : ∃ ys : List Value, z = .tuple ys.toArray ∧ VL ρ xs ys := by
  cases h with
  | same _ hp => simp [Ab.plain] at hp
  | tuple _ ys h1 h2 => exact ⟨ys.toList, by simp, by simpa using h1, fun j x x' hx hx' => h2 j x x' (by simpa using hx) (by simpa using hx')⟩
theorem v_agg {ρ : Ren} {xs : List Value} {z : Value} (h : V ρ (.agg xs.toArray) z) : ∃ ys : List Value, z = .agg ys.toArray ∧ VL ρ xs ys := by
  cases h with
  | same _ hp => simp [Ab.plain] at hp
  | agg _ ys h1 h2 => exact ⟨ys.toList, by simp, by simpa using h1, fun j x x' hx hx' => h2 j x x' (by simpa using hx) (by simpa using hx')⟩
theorem tuple_v {ρ : Ren} {xs ys : List Value} (h : VL ρ xs ys) : V ρ (.tuple xs.toArray) (.tuple ys.toArray) := .tuple _ _ (by simpa using h.1) fun j x x' hx hx' => h.2 j x x' (by simpa using hx) (by simpa using hx')
theorem agg_v {ρ : Ren} {xs ys : List Value} (h : VL ρ xs ys) : V ρ (.agg xs.toArray) (.agg ys.toArray) := .agg _ _ (by simpa using h.1) fun j x x' hx hx' => h.2 j x x' (by simpa using hx) (by simpa using hx')

def instV (op : Int) (s : Value) (k : Int) : Value := .tuple [.agg [.int .i64 op, s].toArray, .int .i64 k, .int .i64 0].toArray
theorem inst_v {ρ : Ren} {op k : Int} {s z : Value} (h : V ρ (instV op s k) z) : ∃ s', V ρ s s' ∧ ∀ (ρc : Ren) s2, V ρc s2 s' → V ρc (instV op s2 k) z := by
  obtain ⟨ys, rfl, h1⟩ := v_tuple h
  obtain ⟨y0, l1, rfl, h2, h3⟩ := h1.uncons
  obtain ⟨y1, l2, rfl, h4, h5⟩ := h3.uncons
  obtain ⟨y2, l3, rfl, h6, h7⟩ := h5.uncons
  obtain rfl := h7.unnil
  obtain ⟨zs, rfl, g1⟩ := v_agg h2
  obtain ⟨z0, m1, rfl, g2, g3⟩ := g1.uncons
  obtain ⟨z1, m2, rfl, g4, g5⟩ := g3.uncons
  obtain rfl := g5.unnil
  rw [h4.plain_eq rfl, h6.plain_eq rfl, g2.plain_eq rfl]
  exact ⟨z1, g4, fun ρc s2 h => tuple_v (.cons (agg_v (.cons (.same _ rfl) (.cons h (.nil _)))) (.cons (.same _ rfl) (.cons (.same _ rfl) (.nil _))))⟩

theorem newSliceP {ρ : Ren} {b o n cap s : Nat} {z : Value} (h : V ρ (.slice (some ⟨b, o, none⟩) n cap) z) : ∃ inf : Info, (∃ i, ρ b = some i ∧ inf.at_ = i.at_.add o) ∧ ∀ (ρc : Ren) (id : Nat), ρc id = some inf → V ρc (.slice (some ⟨id, 0, none⟩) n (UNK + s)) z := by
  cases h with
  | same _ hp => simp [Ab.plain] at hp
  | slice _ _ _ _ cap' i a' h0 h1 h2 h3 h4 h5 =>
    refine ⟨⟨i.at_.add o, cap' * s, s⟩, ⟨i, h0, rfl⟩, fun ρc id hid => .slice id 0 n (UNK + s) cap' ⟨i.at_.add o, cap' * s, s⟩ a' hid ?_ h2 h3 (fun _ => ⟨(Nat.add_sub_cancel_left ..).symm, Nat.zero_add _⟩) (fun hc => by omega)⟩
    rcases h1 with h1 | h1
    · left; rw [h1, Ab.add_add]; rfl
    · right; exact h1

theorem does_new {f : FuncId} {args args2 : List Value} {B H1 H : Heap} {op k : Int} {b l c : Nat} (hw : H.Wf) (hd : Does prog f args B (.ret (instV op (.slice (some ⟨b, 0, none⟩) l c) k)) H1) (hb : B.next ≤ b) (hro : ∀ id b, B.get id = some b → b.ro = true)
    (hview : ∀ ρ w args', Sim prog ρ H w → VL ρ args2 args' → ∃ ρb, Sim prog ρb B w ∧ VL ρb args args') : Does prog f args2 H (.ret (instV op (.slice (some ⟨H.next, 0, none⟩) l (UNK + 1)) k)) (H.up (H.next + 1)) := by
  intro ρ w args' hs hargs
  obtain ⟨ρb, hsb, hab⟩ := hview ρ w args' hs hargs
  refine (hd ρb w args' hsb hab).mono ?_
  rintro e w' ⟨ρ', ho, hst, hs'⟩
  have hsame : ∀ b, b < w.heap.size → w'.heap[b]? = w.heap[b]? := fun b hb => hst.frame b hb (fun id i bl _ h2 h3 => by rw [hro id bl h2] at h3; cases h3)
  cases e with
  | returned v' =>
    obtain ⟨s', h1, h2⟩ := inst_v (show V ρ' _ v' from ho)
    obtain ⟨inf, ⟨i, hi, hat⟩, hV⟩ := newSliceP (s := 1) h1
    have hnew : w.heap.size ≤ inf.at_.block := by
      have hn : ρb b = none := by
        cases h : ρb b with
        | none => rfl
        | some j => have := hsb.dom b j h; omega
      rw [hat, Ab.block_add]
      rcases (hst.fresh b i hi hn).2 with h | ⟨id0, i0, b0, _, _, h3, h4⟩
      · exact h
      · rw [hro id0 b0 h3] at h4; cases h4
    have hn := hs.none_next
    have hsub := sub_ext inf hn
    refine ⟨ext ρ H.next inf, h2 _ _ (hV _ _ (ext_same _ _ _)), ⟨hsub, Nat.le_succ _, fun id i h h' => (by rw [Heap.get_up]; exact h'), fun id i b b' _ h hr h' => (by rw [Heap.get_up, h] at h'; cases h'; exact hr), fun id i h h' => ?_, hst.os, hst.tape, hst.output, hst.size, fun b hb _ => hsame b hb⟩, ?_⟩
    · by_cases ee : id = H.next
      · subst ee
        rw [ext_same] at h; cases h
        exact ⟨Nat.le_refl _, .inl hnew⟩
      · rw [ext_ne ρ _ ee, h'] at h; cases h
    · refine ⟨fun id j h => ?_, fun id bl j h h' => ?_, fun id1 id2 b1 b2 i1 i2 h1 h2 h3 h4 h5 h6 => ?_, fun g hg => ?_⟩
      · by_cases ee : id = H.next
        · subst ee; exact Nat.lt_succ_self _
        · rw [ext_ne ρ _ ee] at h; have := hs.dom _ _ h; exact Nat.lt_succ_of_lt this
      · rw [Heap.get_up] at h
        have := hw.lt h
        rw [ext_ne ρ _ (by omega)] at h'
        have hr := hs.live id bl j h h'
        exact hr.mono hsub (hsame _ hr.lt)
      · rw [Heap.get_up] at h1 h2
        have := hw.lt h1
        have := hw.lt h2
        rw [ext_ne ρ _ (by omega)] at h3 h4
        exact hs.sep id1 id2 b1 b2 i1 i2 h1 h2 h3 h4 h5 h6
      · obtain ⟨j, hj, ee⟩ := hs.glob g hg
        exact ⟨j, hsub _ _ hj, ee⟩
  | _ => exact ho.elim
theorem does_old {f : FuncId} {args args2 : List Value} {B H1 H : Heap} {op k : Int} (hd : Does prog f args B (.ret (instV op (.slice none 0 0) k)) H1) (hro : ∀ id b, B.get id = some b → b.ro = true)
    (hview : ∀ ρ w args', Sim prog ρ H w → VL ρ args2 args' → ∃ ρb, Sim prog ρb B w ∧ VL ρb args args') : Does prog f args2 H (.ret (instV op (.slice none 0 0) k)) H :=
  does_view2 hd (by unfold instV; simp [mtV, beqL, plain, beqV]) hro hview

noncomputable def nbHeap (tabs : List Tab) (bs : List Int) : Heap := (tabHeap prog.globals.size tabs).push (.cells (bytesV bs) 5 true)
noncomputable def nbArg (bs : List Int) : Value := .slice (some ⟨prog.globals.size, 0, none⟩) bs.length (UNK + 1)
theorem bytesV_pl2 {l : List Int} {j : Nat} {v : Value} (h : (bytesV l)[j]? = some v) : Ab.plain v = true := by
  have := List.mem_of_getElem? h
  simp only [bytesV, List.mem_map] at this
  obtain ⟨x, _, rfl⟩ := this
  rfl
theorem nb_get {tabs : List Tab} {bs : List Int} {id : Nat} {b : Blk} (h : (nbHeap tabs bs).get id = some b) : (id = prog.globals.size ∧ b = .cells (bytesV bs) 5 true) ∨ (tabHeap prog.globals.size tabs).get id = some b := by
  unfold nbHeap at h
  have n0 : (tabHeap prog.globals.size tabs).next = prog.globals.size := rfl
  rw [Heap.get_push, n0] at h
  by_cases e1 : id = prog.globals.size
  · rw [if_pos e1] at h; cases h; exact .inl ⟨e1, rfl⟩
  · rw [if_neg e1] at h; exact .inr h
theorem nb_ro {tabs : List Tab} {bs : List Int} : ∀ id b, (nbHeap tabs bs).get id = some b → b.ro = true := fun id b h => by
  rcases nb_get h with ⟨_, rfl⟩ | h
  · rfl
  · obtain ⟨t, _, _, rfl⟩ := tabHeap_get h; rfl
theorem view_bytes {tabs : List Tab} (ht : tabsOk tabs = true) (htab : ∀ t ∈ tabs, t.id < prog.globals.size) {bs : List Int} {va : Value} {H : Heap} (hT : TabT tabs H) (hb : BsAt H va bs) (hne : 0 < bs.length) :
    ∀ ρ w args', Sim prog ρ H w → VL ρ [va] args' → ∃ ρb, Sim prog ρb (nbHeap tabs bs) w ∧ VL ρb [nbArg bs] args' := by
  intro ρ w args' hs hargs
  obtain ⟨z1, l2, rfl, hz1, hr2⟩ := hargs.uncons
  obtain rfl := hr2.unnil
  obtain ⟨a, cap, rfl, h1⟩ := hb
  obtain ⟨b1, o, c, e, ro, rfl, hg, hc⟩ := h1 hne
  obtain ⟨inf, ⟨i, hi, hat⟩, hV⟩ := newSliceP (s := 1) hz1
  have hl2 := hs.live b1 _ i hg hi
  let ρb : Ren := fun id => if id < prog.globals.size then ρ id else if id = prog.globals.size then some inf else none
  have g1 : ρb prog.globals.size = some inf := by simp only [ρb]; rw [if_neg (Nat.lt_irrefl _), if_pos trivial]
  have glo : ∀ g, g < prog.globals.size → ρb g = ρ g := fun g hg => by simp only [ρb]; rw [if_pos hg]
  have hnext : (nbHeap tabs bs).next = prog.globals.size + 1 := rfl
  refine ⟨ρb, ⟨fun id i h => ?_, fun id b i hgb hi => ?_, fun id1 id2 b1 b2 i1 i2 h1 h2 h3 h4 h5 => ?_, fun g hg => ?_⟩, .cons (hV ρb _ g1) (.nil _)⟩
  · rw [hnext]
    simp only [ρb] at h
    by_cases h1 : id < prog.globals.size
    · omega
    · rw [if_neg h1] at h
      by_cases h2 : id = prog.globals.size
      · omega
      · rw [if_neg h2] at h; cases h
  · rcases nb_get hgb with ⟨rfl, rfl⟩ | hgb
    · rw [g1] at hi
      cases hi
      refine ⟨by rw [hat, Ab.block_add]; exact hl2.lt, fun j v hj => ?_⟩
      have hjl : j < bs.length := by have := (List.getElem?_eq_some_iff.1 hj).1; simpa [bytesV] using this
      have hvj : v = .int .u8 (bs.getD j 0) := by
        simp [bytesV, List.getElem?_eq_getElem hjl] at hj
        simp [List.getD, List.getElem?_eq_getElem hjl, hj]
      obtain ⟨v1, h3, h4⟩ := hl2.cellAt (hc j hjl)
      rw [hat, Ab.add_add]
      refine ⟨v1, h3, ?_⟩
      rw [hvj, h4.plain_eq rfl]
      exact .same _ rfl
    · have hgH := tabsIn_get hT id b hgb
      obtain ⟨t, ht1, rfl, rfl⟩ := tabHeap_get hgb
      rw [glo _ (htab t ht1)] at hi
      have hl := hs.live _ _ i hgH hi
      refine ⟨hl.lt, fun j v hj => ?_⟩
      obtain ⟨v1, h3, h4⟩ := hl.cellAt hj
      have hp := List.all_eq_true.1 (List.all_eq_true.1 ht t ht1) v (List.mem_of_getElem? hj)
      refine ⟨v1, h3, ?_⟩
      rw [h4.plain_eq hp]
      exact .same _ hp
  · rw [nb_ro id1 b1 h1] at h5; cases h5
  · obtain ⟨i, hi, e⟩ := hs.glob g hg
    exact ⟨i, by rw [glo g hg]; exact hi, e⟩

/-! ### The bytes that do nothing -/

def goL : Nat → Nat → List Int
  | 0, m => nopB m
  | f + 1, m => if 9 < m then nopB 9 ++ goL f (m - 9) else nopB m
theorem goL_eq : ∀ f m, m ≤ 9 + 9 * f → goL f m = goN m
  | 0, m, h => by rw [goN_last (by omega)]; rfl
  | f + 1, m, h => by
    unfold goL
    by_cases h9 : 9 < m
    · rw [if_pos h9, goN_more h9, goL_eq f (m - 9) (by omega)]
    · rw [if_neg h9, goN_last h9]
def kF (m : Nat) : Nat := if 9 < m then 9 else if m = 2 then 1 else m
noncomputable def nopRes (op : Int) (k : Int) (v : Value) : Bool := match v with
  | .tuple xs => (match xs.toList with
    | [.agg ys, .int .i64 z, .int .i64 e] => (match ys.toList with
      | [.int .i64 o, .slice none 0 0] => decide (o = op) && (decide (z = k) && decide (e = 0))
      | [.int .i64 o, .slice (some ⟨b, 0, none⟩) _ _] => Nat.ble (prog.globals.size + 1) b && (decide (o = op) && (decide (z = k) && decide (e = 0)))
      | _ => false)
    | _ => false)
  | _ => false
theorem nopRes_of {op k : Int} {v : Value} (h : nopRes op k v = true) : v = instV op (.slice none 0 0) k ∨ ∃ b l c, prog.globals.size + 1 ≤ b ∧ v = instV op (.slice (some ⟨b, 0, none⟩) l c) k := by
  unfold nopRes at h
  split at h
  · rename_i xs
    split at h
    · rename_i ys z e hx
      split at h
      · rename_i o hy
        simp only [Bool.and_eq_true, decide_eq_true_eq] at h
        obtain ⟨rfl, rfl, rfl⟩ := h
        left
        unfold instV
        rw [← hy, ← show ys.toList.toArray = ys from by simp] at *
        rw [← hx]
      · rename_i o b l c hy
        simp only [Bool.and_eq_true, decide_eq_true_eq] at h
        obtain ⟨h1, rfl, rfl, rfl⟩ := h
        refine .inr ⟨b, l, c, Nat.le_of_ble_eq_true h1, ?_⟩
        unfold instV
        rw [← hy]
        have : ys.toList.toArray = ys := by simp
        rw [this, ← hx]
      · cases h
    · cases h
  · cases h
noncomputable def nopChk (kn : CallF) (tabs : List Tab) (op : Int) (m : Nat) : Bool := match (run prog kn 100000 5 60).fn f_decode_Decode [nbArg (goL 34 m)] (nbHeap tabs (goL 34 m)) with
  | some (v, _) => nopRes op (kF m) v
  | none => false
def NopDec (T : Heap → Prop) (op : Int) (m : Nat) : Prop := ∀ (va : Value) (H : Heap), T H → BsAt H va (goN m) → CallQ prog f_decode_Decode [va] H fun u H' => ∃ s : Value, s.oneCell' = true ∧ u = instV op s (kF m) ∧ Ext H H'
theorem goN_pos {m : Nat} (h1 : 1 ≤ m) : (goN m).length = m := by
  induction m using Nat.strongRecOn with
  | ind m ih =>
    by_cases h9 : 9 < m
    · rw [goN_more h9, List.length_append, ih (m - 9) (by omega) (by omega), nopB_len (by decide) (by decide)]; omega
    · rw [goN_last h9, nopB_len h1 (by omega)]
theorem nopDec_of {tabs : List Tab} (ht : tabsOk tabs = true) (htab : ∀ t ∈ tabs, t.id < prog.globals.size) {kn : CallF} (hk : CallOk prog kn) (he : entered prog f_decode_Decode = true) {op : Int} {m : Nat} (h1 : 1 ≤ m) (h3 : m ≤ 300) (h : nopChk kn tabs op m = true) : NopDec (TabT tabs) op m := by
  intro va H hT hb
  have hgo : goL 34 m = goN m := goL_eq 34 m (by omega)
  unfold nopChk at h
  rw [hgo] at h
  have hview := view_bytes ht htab hT hb (by rw [goN_pos h1]; exact h1)
  split at h
  · rename_i v H1 hr
    have hd := ((run_sound hk 60).fn f_decode_Decode _ _ _ H1 hr).does he
    rcases nopRes_of h with rfl | ⟨b, l, c, hbb, rfl⟩
    · exact (callQ_of_does he (does_old hd nb_ro hview)).mono fun u H' ⟨e1, e2⟩ => ⟨_, rfl, e1, by rw [e2]; exact .refl _⟩
    · intro hw
      exact ⟨_, _, .inl ⟨he, does_new hw hd hbb nb_ro hview⟩, Nat.le_succ _, hw.up (Nat.le_succ _), _, rfl, rfl, (Ext.refl H).up (Nat.le_succ _)⟩
  · cases h
end Go.Proofs.YtbkbdnlfkahaaaaGreatDoor.code
/- The forms by which bytes that do nothing may be read: decode.find of them as a cheap known call. -/
set_option linter.unusedVariables false
set_option maxRecDepth 100000
namespace Go.Proofs.YtbkbdnlfkahaaaaGreatDoor.code
open Go.Ab

noncomputable def nopG (bs : List Int) : List Fm := match bs with
  | [] => findGo [] true 0 Lall
  | a :: r => bif decide (a = 144) then [⟨50, 0, 0, 144, -1, 0, 0, false, [], []⟩] else bif decide (a = 15) then (match r with
      | b :: _ => bif decide (b = 31) then [⟨50, 0, 1, 31, 0, 0, 0, false, [9], [2]⟩] else findGo bs true 0 Lall
      | [] => findGo bs true 0 Lall) else bif decide (a = 102) then (match r with
      | b :: c :: _ => bif decide (b = 15) then (bif decide (c = 31) then [⟨50, 1, 1, 31, 0, 0, 0, false, [8], [2]⟩] else findGo bs true 0 Lall) else findGo bs true 0 Lall
      | _ => findGo bs true 0 Lall) else findGo bs true 0 Lall
theorem nop0 (r : List Int) : findGo (144 :: r) true 0 Lall = [⟨50, 0, 0, 144, -1, 0, 0, false, [], []⟩] := by
  have h1 : openF 0 Lall = true := by kernel_rfl
  have h2 : (Lall.filter fun f => takesF f 0 144) = [⟨50, 0, 0, 144, -1, 0, 0, false, [], []⟩] := by kernel_rfl
  rw [findGo, h1]
  show findGo r false 1 (Lall.filter fun f => takesF f 0 144) = _
  rw [h2]
  cases r <;> rfl
theorem nop1 (r : List Int) : findGo (15 :: 31 :: r) true 0 Lall = [⟨50, 0, 1, 31, 0, 0, 0, false, [9], [2]⟩] := by
  have h1 : openF 0 Lall = true := by kernel_rfl
  have h2 : openF 1 (Lall.filter fun f => takesF f 0 15) = true := by kernel_rfl
  have h3 : ((Lall.filter fun f => takesF f 0 15).filter fun f => takesF f 1 31) = [⟨50, 0, 1, 31, 0, 0, 0, false, [9], [2]⟩] := by kernel_rfl
  rw [findGo, h1]
  show findGo (31 :: r) false 1 (Lall.filter fun f => takesF f 0 15) = _
  rw [findGo, h2]
  show findGo r false 2 ((Lall.filter fun f => takesF f 0 15).filter fun f => takesF f 1 31) = _
  rw [h3]
  cases r <;> rfl
theorem nop2 (r : List Int) : findGo (102 :: 15 :: 31 :: r) true 0 Lall = [⟨50, 1, 1, 31, 0, 0, 0, false, [8], [2]⟩] := by
  have h1 : openF 0 Lall = true := by kernel_rfl
  have h2 : openF 1 (Lall.filter fun f => takesF f 0 102) = true := by kernel_rfl
  have h2' : openF 2 ((Lall.filter fun f => takesF f 0 102).filter fun f => takesF f 1 15) = true := by kernel_rfl
  have h3 : (((Lall.filter fun f => takesF f 0 102).filter fun f => takesF f 1 15).filter fun f => takesF f 2 31) = [⟨50, 1, 1, 31, 0, 0, 0, false, [8], [2]⟩] := by kernel_rfl
  rw [findGo, h1]
  show findGo (15 :: 31 :: r) true 1 (Lall.filter fun f => takesF f 0 102) = _
  rw [findGo, h2]
  show findGo (31 :: r) false 2 ((Lall.filter fun f => takesF f 0 102).filter fun f => takesF f 1 15) = _
  rw [findGo, h2']
  show findGo r false 3 (((Lall.filter fun f => takesF f 0 102).filter fun f => takesF f 1 15).filter fun f => takesF f 2 31) = _
  rw [h3]
  cases r <;> rfl
theorem nopG_eq (bs : List Int) : nopG bs = findGo bs true 0 Lall := by
  unfold nopG
  split
  · rfl
  · rename_i a r
    by_cases h1 : a = 144
    · subst h1; simp only [decide_true, cond_true]; exact (nop0 r).symm
    · simp only [decide_eq_false h1, cond_false]
      by_cases h2 : a = 15
      · subst h2
        simp only [decide_true, cond_true]
        split
        · rename_i b r
          by_cases h3 : b = 31
          · subst h3; simp only [decide_true, cond_true]; exact (nop1 r).symm
          · simp only [decide_eq_false h3, cond_false]
        · rfl
      · simp only [decide_eq_false h2, cond_false]
        by_cases h3 : a = 102
        · subst h3
          simp only [decide_true, cond_true]
          split
          · rename_i b c r
            by_cases h4 : b = 15
            · subst h4
              simp only [decide_true, cond_true]
              by_cases h5 : c = 31
              · subst h5; simp only [decide_true, cond_true]; exact (nop2 r).symm
              · simp only [decide_eq_false h5, cond_false]
            · simp only [decide_eq_false h4, cond_false]
          · rfl
        · simp only [decide_eq_false h3, cond_false]
noncomputable def findNg (tabs : List Tab) (L : List Int → List Fm) : CallF := fun f args H =>
  bif Nat.beq f f_decode_find then (match args with
    | [.slice none 0 0] => picKn tabs (L []) H
    | [.slice (some a) n cap] => (match H.get a.block with
      | some (.cells c e ro) => (match bytesOf ((c.drop a.off).take n) with
        | some bs => bif tabsIn tabs H && (noSpot a && (c.all plain && (Nat.beq bs.length n && Nat.ble n 100000))) then
            some (shW (shM (tauB prog.globals.size a.block) (prog.globals.size + 1) H.next) 6 (canV (prog.globals.size + 1) (L bs)), pushW (shM (tauB prog.globals.size a.block) (prog.globals.size + 1) H.next) (canRows (prog.globals.size + 1) (L bs)) H) else none
        | none => none)
      | _ => none)
    | _ => none) else none
theorem findNg_eq : findNg tab.tabs nopG = findKn tab.tabs Lall := by
  have h : nopG = fun bs => findGo bs true 0 Lall := funext nopG_eq
  rw [h]
  rfl
noncomputable def knN : CallF := orKnown knT (findNg tab.tabs nopG)
theorem knN_ok : CallOk prog knN := by
  unfold knN
  rw [findNg_eq]
  exact knF_ok
end Go.Proofs.YtbkbdnlfkahaaaaGreatDoor.code
