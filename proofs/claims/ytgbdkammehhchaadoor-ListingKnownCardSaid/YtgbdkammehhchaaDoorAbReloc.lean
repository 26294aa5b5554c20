/- What a closed call does over the tables alone, it does over any heap that has them, its blocks' numbers moved up. -/
import Derived.Test.YtgbdkammehhchaaDoorAbCps
set_option linter.unusedVariables false
namespace Go.Ab

/-- A block's number, moved. -/
def shN (G δ id : Nat) : Nat := bif Nat.blt id G then id else id + δ

noncomputable def shV (G δ : Nat) : Nat → Value → Value
  | 0, v => v
  | f + 1, v => match v with
    | .pointer (some a) => .pointer (some ⟨shN G δ a.block, a.off, a.spot⟩)
    | .slice (some a) l c => .slice (some ⟨shN G δ a.block, a.off, a.spot⟩) l c
    | .map (some r) => .map (some (shN G δ r))
    | .iface t v => .iface t (shV G δ f v)
    | .agg xs => .agg (xs.toList.map (shV G δ f)).toArray
    | .tuple xs => .tuple (xs.toList.map (shV G δ f)).toArray
    | .func fn xs ys => .func fn (xs.toList.map (shV G δ f)).toArray (ys.toList.map (shV G δ f)).toArray
    | v => v

/-- Deep enough. -/
noncomputable def okD : Nat → Value → Bool
  | 0, v => plain v
  | f + 1, v => match v with
    | .iface _ v => okD f v
    | .agg xs => xs.toList.all (okD f)
    | .tuple xs => xs.toList.all (okD f)
    | .func fn xs ys => noYield fn && xs.toList.all (okD f) && ys.toList.all (okD f)
    | _ => true

theorem shV_plain (G δ : Nat) : ∀ (f : Nat) (v : Value), plain v = true → shV G δ f v = v
  | 0, v, _ => rfl
  | f + 1, v, h => by
    unfold shV
    split <;> first | (simp [plain] at h; done) | rfl

theorem shV_V {ρ ρ' : Ren} {G δ : Nat} (hr : ∀ id i, ρ id = some i → ρ' (shN G δ id) = some i) : ∀ (f : Nat) {v v' : Value}, V ρ v v' → okD f v = true → V ρ' (shV G δ f v) v' := by
  intro f
  induction f with
  | zero =>
    intro v v' h hk
    rw [h.plain_eq hk]
    exact .same _ hk
  | succ f ih =>
    intro v v' h hk
    have arr : ∀ (xs xs' : Array Value), xs.size = xs'.size → (∀ (j : Nat) x x', xs[j]? = some x → xs'[j]? = some x' → V ρ x x') → xs.toList.all (okD f) = true →
        (xs.toList.map (shV G δ f)).toArray.size = xs'.size ∧ ∀ (j : Nat) x x', (xs.toList.map (shV G δ f)).toArray[j]? = some x → xs'[j]? = some x' → V ρ' x x' := by
      intro xs xs' h1 h2 h3
      refine ⟨by simp [h1], fun j x x' e e' => ?_⟩
      simp only [List.getElem?_toArray, List.getElem?_map, Array.getElem?_toList, Option.map_eq_some_iff] at e
      obtain ⟨y, hy, rfl⟩ := e
      exact ih (h2 j y x' hy e') (List.all_eq_true.1 h3 y (by simpa using Array.mem_of_getElem? hy))
    cases h with
    | same v hp => rw [shV_plain G δ (f + 1) v hp]; exact .same v hp
    | ptr id off i h => exact .ptr _ off i (hr id i h)
    | slice id off len cap cap' i a' h h1 h2 h0 h3 h4 => exact .slice _ off len cap cap' i a' (hr id i h) h1 h2 h0 h3 h4
    | map id i h => exact .map _ i (hr id i h)
    | func fn xs ys xs' ys' hn h1 h2 h3 h4 =>
      simp only [okD, Bool.and_eq_true] at hk
      obtain ⟨p1, p2⟩ := arr xs xs' h1 h3 hk.1.2
      obtain ⟨q1, q2⟩ := arr ys ys' h2 h4 hk.2
      exact .func fn _ _ xs' ys' hn p1 q1 p2 q2
    | yield l i h => simp [okD, noYield] at hk
    | iface t v v' h => exact .iface t _ v' (ih h hk)
    | agg xs xs' h1 h2 =>
      obtain ⟨p1, p2⟩ := arr xs xs' h1 h2 hk
      exact .agg _ xs' p1 p2
    | tuple xs xs' h1 h2 =>
      obtain ⟨p1, p2⟩ := arr xs xs' h1 h2 hk
      exact .tuple _ xs' p1 p2

/-- Cells that a call leaves: where they lie in the heap that it leaves; what they hold, the blocks numbered anew. -/
structure Row where
  src : Nat
  c : List Value
  e : TypeId
  ro : Bool

noncomputable def Row.blk (G δ : Nat) (r : Row) : Blk := .cells (r.c.map (shV G δ 6)) r.e r.ro

noncomputable def pushR (G δ : Nat) : List Row → Heap → Heap
  | [], H => H
  | r :: rs, H => pushR G δ rs (H.push (r.blk G δ))

/-- A heap with such rows more. -/
noncomputable def addR (G : Nat) (rs : List Row) (H : Heap) : Heap := pushR G (H.next - G) rs H

theorem pushR_next {G δ : Nat} : ∀ (rs : List Row) (H : Heap), (pushR G δ rs H).next = H.next + rs.length
  | [], H => rfl
  | r :: rs, H => by simp only [pushR, pushR_next rs, Heap.next_push, List.length_cons]; omega

theorem pushR_get {G δ : Nat} : ∀ (rs : List Row) (H : Heap) (id : Nat), (pushR G δ rs H).get id = if H.next ≤ id ∧ id < H.next + rs.length then (rs[id - H.next]?).map (Row.blk G δ) else H.get id
  | [], H, id => by simp only [pushR, List.length_nil]; rw [if_neg (by omega)]
  | r :: rs, H, id => by
    simp only [pushR, pushR_get rs, Heap.next_push, List.length_cons, Heap.get_push]
    by_cases h1 : id = H.next
    · subst h1; rw [if_neg (by omega), if_pos rfl, if_pos ⟨by omega, by omega⟩]; simp
    · by_cases h2 : H.next + 1 ≤ id ∧ id < H.next + 1 + rs.length
      · rw [if_pos h2, if_pos ⟨by omega, by omega⟩, show id - H.next = (id - (H.next + 1)) + 1 by omega]; simp
      · rw [if_neg h2, if_neg h1, if_neg (by omega)]

/-- Which block of the heap that was left a new number means. -/
def sigma (G : Nat) (rs : List Row) (b : Nat) : Option Nat := bif Nat.blt b G then some b else (rs[b - G]?).map (·.src)

noncomputable def isId (o : Option Nat) (a : Nat) : Bool := match o with | some b => Nat.beq b a | none => false
theorem isId_eq {o : Option Nat} {a : Nat} (h : isId o a = true) : o = some a := by
  cases o with
  | none => cases h
  | some b => simp only [isId, nbeq, decide_eq_true_eq] at h; rw [h]

noncomputable def noSpot (a : Addr) : Bool := match a.spot with | none => true | some _ => false

/-- The same value, its blocks numbered anew. -/
noncomputable def mtV (σ : Nat → Option Nat) : Nat → Value → Value → Bool
  | 0, v, u => plain v && beqV 8 v u
  | f + 1, v, u => match v, u with
    | .pointer (some a), .pointer (some b) => isId (σ b.block) a.block && Nat.beq a.off b.off && noSpot b
    | .slice (some a) l c, .slice (some b) l' c' => isId (σ b.block) a.block && Nat.beq a.off b.off && noSpot b && Nat.beq l l' && Nat.beq c c'
    | .iface t v, .iface t' u => Nat.beq t t' && mtV σ f v u
    | .agg xs, .agg ys => beqL (mtV σ f) xs.toList ys.toList
    | .tuple xs, .tuple ys => beqL (mtV σ f) xs.toList ys.toList
    | v, u => plain v && beqV 8 v u

theorem beqL_get {eq : Value → Value → Bool} : ∀ {xs ys : List Value}, beqL eq xs ys = true → xs.length = ys.length ∧ ∀ (j : Nat) x y, xs[j]? = some x → ys[j]? = some y → eq x y = true
  | [], [], _ => ⟨rfl, fun j x y h => by simp at h⟩
  | x :: xs, y :: ys, h => by
    simp only [beqL, Bool.and_eq_true] at h
    obtain ⟨h1, h2⟩ := beqL_get h.2
    refine ⟨by simp [h1], fun j a b ha hb => ?_⟩
    cases j with
    | zero => simp at ha hb; subst ha; subst hb; exact h.1
    | succ j => exact h2 j a b (by simpa using ha) (by simpa using hb)
  | [], _ :: _, h => by simp [beqL] at h
  | _ :: _, [], h => by simp [beqL] at h

theorem mtV_V {σ : Nat → Option Nat} {ρ ρ' : Ren} (hr : ∀ a b i, σ b = some a → ρ a = some i → ρ' b = some i) : ∀ (f : Nat) {v u v' : Value}, mtV σ f v u = true → V ρ v v' → V ρ' u v' := by
  intro f
  have pl : ∀ {v u v' : Value}, (plain v && beqV 8 v u) = true → V ρ v v' → V ρ' u v' := fun h hv => by
    simp only [Bool.and_eq_true] at h
    rw [← beqV_eq 8 _ _ h.2, hv.plain_eq h.1]
    exact .same _ h.1
  induction f with
  | zero => intro v u v' h hv; exact pl h hv
  | succ f ih =>
    intro v u v' h hv
    have arr : ∀ (xs ys xs' : Array Value), xs.size = xs'.size → (∀ (j : Nat) x x', xs[j]? = some x → xs'[j]? = some x' → V ρ x x') → beqL (mtV σ f) xs.toList ys.toList = true →
        ys.size = xs'.size ∧ ∀ (j : Nat) x x', ys[j]? = some x → xs'[j]? = some x' → V ρ' x x' := by
      intro xs ys xs' h1 h2 h3
      obtain ⟨g1, g2⟩ := beqL_get h3
      simp only [Array.length_toList] at g1
      refine ⟨by omega, fun j x x' e e' => ?_⟩
      have hj : j < xs.size := by rw [h1]; exact (Array.getElem?_eq_some_iff.1 e').1
      exact ih (g2 j xs[j] x (by simp [hj]) (by simpa using e)) (h2 j _ x' (Array.getElem?_eq_getElem hj) e')
    unfold mtV at h
    split at h
    · rename_i a b
      simp only [Bool.and_eq_true, nbeq, decide_eq_true_eq] at h
      obtain ⟨⟨h1, h2⟩, h3⟩ := h
      obtain ⟨i, g1, g2, g3⟩ := hv.ptr_inv
      rw [g3, h2]
      obtain ⟨b0, bo, bs⟩ := b
      have : bs = none := by cases bs with | none => rfl | some _ => cases h3
      subst this
      exact .ptr b0 bo i (hr _ _ i (isId_eq h1) g1)
    · rename_i a l c b l' c'
      simp only [Bool.and_eq_true, nbeq, decide_eq_true_eq] at h
      obtain ⟨⟨⟨⟨h1, h2⟩, h3⟩, h4⟩, h5⟩ := h
      obtain ⟨i, a', cap', g1, g2, g3, g4, g5, g0, g6, g7⟩ := hv.slice_inv
      subst h4; subst h5
      rw [g3]
      obtain ⟨b0, bo, bs⟩ := b
      have : bs = none := by cases bs with | none => rfl | some _ => cases h3
      subst this
      simp only at h2
      rw [h2] at g4 g6
      exact .slice b0 bo l c cap' i a' (hr _ _ i (isId_eq h1) g1) g4 g5 g0 g6 g7
    · rename_i t v0 t' u0
      simp only [Bool.and_eq_true, nbeq, decide_eq_true_eq] at h
      obtain ⟨rfl, h2⟩ := h
      cases hv with
      | same _ hp => simp [plain] at hp
      | iface _ _ v1 hv1 => exact .iface t u0 v1 (ih h2 hv1)
    · rename_i xs ys
      cases hv with
      | same _ hp => simp [plain] at hp
      | agg _ xs' h1 h2 => obtain ⟨p1, p2⟩ := arr xs ys xs' h1 h2 h; exact .agg ys xs' p1 p2
    · rename_i xs ys
      cases hv with
      | same _ hp => simp [plain] at hp
      | tuple _ xs' h1 h2 => obtain ⟨p1, p2⟩ := arr xs ys xs' h1 h2 h; exact .tuple ys xs' p1 p2
    · exact pl h hv

/-- What is asked of the tables: they may not be written, they hold no address. -/
def TabOk (G : Nat) (B : Heap) : Prop := B.next = G ∧ ∀ id b, B.get id = some b → ∃ c e, b = .cells c e true ∧ c.all plain = true

/-- What is asked of the rows. -/
structure RowsOk (G : Nat) (H1 : Heap) (rs : List Row) : Prop where
  row : ∀ (k : Nat) (r : Row), rs[k]? = some r → G ≤ r.src ∧ r.c.all (okD 6) = true ∧ ∃ c1, H1.get r.src = some (.cells c1 r.e r.ro) ∧ beqL (mtV (sigma G rs) 6) c1 r.c = true
  inj : ∀ (j k : Nat) (r r' : Row), rs[j]? = some r → rs[k]? = some r' → j ≠ k → r.src ≠ r'.src

theorem BlkRel.turn {P : Program} {ρ ρ' : Ren} {i : Info} {w : World} {c u : List Value} {e : TypeId} {ro : Bool} (h : BlkRel P ρ i w (.cells c e ro)) (hl : u.length = c.length)
    (hv : ∀ (j : Nat) x y z, c[j]? = some x → u[j]? = some y → V ρ x z → V ρ' y z) : BlkRel P ρ' i w (.cells u e ro) := by
  have hx : ∀ (j : Nat) y, u[j]? = some y → ∃ x, c[j]? = some x := fun j y hj => by
    have : j < c.length := by rw [← hl]; exact (List.getElem?_eq_some_iff.1 hj).1
    exact ⟨c[j], List.getElem?_eq_getElem this⟩
  cases ro with
  | true =>
    refine ⟨h.1, fun j y hj => ?_⟩
    obtain ⟨x, hxj⟩ := hx j y hj
    obtain ⟨z, h1, h2⟩ := h.2 j x hxj
    exact ⟨z, h1, hv j x y z hxj hj h2⟩
  | false =>
    obtain ⟨cur, fz, hh, h1, h2, h3, h4, h5, h6, h7⟩ := h
    refine ⟨cur, fz, hh, h1, h2, by omega, fun j y hj => ?_, h5, by rw [hl]; exact h6, h7⟩
    obtain ⟨x, hxj⟩ := hx j y hj
    obtain ⟨z, g1, g2⟩ := h4 j x hxj
    exact ⟨z, g1, hv j x y z hxj hj g2⟩

theorem V.closed_eq {ρ : Ren} {v v' : Value} (h : V ρ v v') (hc : closedV v = true) : v' = v := by
  have arr : ∀ xs xs' : Array Value, xs.all Ab.plain = true → xs.size = xs'.size → (∀ (j : Nat) x x', xs[j]? = some x → xs'[j]? = some x' → V ρ x x') → xs' = xs := fun xs xs' hx hs hv => by
    apply Array.ext hs.symm
    intro j h1 h2
    have := hv j xs[j] xs'[j] (Array.getElem?_eq_getElem h2) (Array.getElem?_eq_getElem h1)
    exact this.plain_eq (Array.all_eq_true_iff_forall_mem.1 hx _ (Array.getElem_mem h2))
  cases h with
  | same v hp => rfl
  | agg xs xs' h1 h2 => rw [arr xs xs' hc h1 h2]
  | tuple xs xs' h1 h2 => rw [arr xs xs' hc h1 h2]
  | iface t v v' h => rw [h.plain_eq hc]
  | _ => simp [closedV, Ab.plain] at hc

theorem reloc {P : Program} {f : FuncId} {args : List Value} {v u : Value} {B H1 : Heap} (hB : TabOk P.globals.size B) (hd : Does P f args B (.ret v) H1) (ha : args.all closedV = true)
    {rs : List Row} (hv : mtV (sigma P.globals.size rs) 6 v u = true) (hu : okD 6 u = true) (hrs : RowsOk P.globals.size H1 rs) (H : Heap) (hH : ∀ id b, B.get id = some b → H.get id = some b) :
    Does P f args H (.ret (shV P.globals.size (H.next - P.globals.size) 6 u)) (addR P.globals.size rs H) := by
  intro ρ w args' hs hargs
  obtain ⟨hBn, hBt⟩ := hB
  have hG : P.globals.size ≤ H.next := by
    rcases Nat.eq_zero_or_pos P.globals.size with h | h
    · omega
    · obtain ⟨i, hi, _⟩ := hs.glob (P.globals.size - 1) (by omega)
      have := hs.dom _ _ hi
      omega
  have hargs0 : VL (restr ρ P.globals.size) args args' := ⟨hargs.1, fun j x x' e e' => by
    have hp : closedV x = true := List.all_eq_true.1 ha x (List.mem_of_getElem? e)
    rw [(hargs.2 j x x' e e').closed_eq hp]
    exact .closed hp⟩
  have hsim : Sim P (restr ρ P.globals.size) B w := by
    refine ⟨fun id j h => by rw [hBn]; exact (restr_some h).1, fun id b i hb hi => ?_, fun id1 id2 b1 b2 i1 i2 h1 h2 h3 h4 h5 => ?_, fun g hg => ?_⟩
    · obtain ⟨c, e, rfl, hc⟩ := hBt id b hb
      have := hs.live id _ i (hH id _ hb) (restr_some hi).2
      refine ⟨this.1, fun j u hj => ?_⟩
      obtain ⟨u', h1, h2⟩ := this.2 j u hj
      have hp : plain u = true := List.all_eq_true.1 hc u (List.mem_of_getElem? hj)
      rw [h2.plain_eq hp] at h1
      exact ⟨u, h1, .same u hp⟩
    · obtain ⟨c, e, rfl, _⟩ := hBt id1 b1 h1
      cases h5
    · obtain ⟨j, hj, e⟩ := hs.glob g hg
      exact ⟨j, restr_mk hg hj, e⟩
  refine (hd _ w args' hsim hargs0).mono ?_
  rintro e w' ⟨ρ1, ho, hst, hs1⟩
  have hnro : ∀ id b, B.get id = some b → b.ro = true := fun id b h => by obtain ⟨c, e, rfl, _⟩ := hBt id b h; rfl
  have hsame : ∀ b, b < w.heap.size → w'.heap[b]? = w.heap[b]? := fun b hb => hst.frame b hb (fun id i bl _ h2 h3 => by rw [hnro id bl h2] at h3; cases h3)
  have hnew : ∀ id i, ρ1 id = some i → P.globals.size ≤ id → w.heap.size ≤ i.at_.block := fun id i h hid => by
    have hn : restr ρ P.globals.size id = none := by unfold restr; rw [if_neg (by omega)]
    rcases (hst.fresh id i h hn).2 with h | ⟨id0, i0, b0, _, _, h3, h4⟩
    · exact h
    · rw [hnro id0 b0 h3] at h4; cases h4
  have hblt : ∀ id, Nat.blt id P.globals.size = decide (id < P.globals.size) := fun id => by
    cases hb : Nat.blt id P.globals.size with
    | false => by_cases h : id < P.globals.size
               · have : Nat.blt id P.globals.size = true := by simpa using h
                 rw [hb] at this; cases this
               · simp [h]
    | true => simp only [Nat.blt_eq] at hb; simp [hb]
  generalize hδ : H.next - P.globals.size = δ
  have hsh : ∀ id, shN P.globals.size δ id = if id < P.globals.size then id else id + δ := fun id => by
    unfold shN; rw [hblt]; by_cases h : id < P.globals.size <;> simp [h]
  -- the blocks by their new numbers
  let ρc : Ren := fun b => (sigma P.globals.size rs b).bind ρ1
  let ρ' : Ren := fun id => if id < H.next then ρ id else ρc (id - δ)
  have hc1 : ∀ a b i, sigma P.globals.size rs b = some a → ρ1 a = some i → ρc b = some i := fun a b i h h' => by simp only [ρc, h, Option.bind_some, h']
  have hcin : ∀ b i, ρc b = some i → P.globals.size ≤ b → ∃ r, rs[b - P.globals.size]? = some r ∧ ρ1 r.src = some i := fun b i h hb => by
    simp only [ρc, sigma, hblt, show ¬ b < P.globals.size by omega, decide_false, cond_false] at h
    cases hr : rs[b - P.globals.size]? with
    | none => rw [hr] at h; cases h
    | some r => rw [hr] at h; exact ⟨r, rfl, h⟩
  have hmap : ∀ b i, ρc b = some i → ρ' (shN P.globals.size δ b) = some i := fun b i h => by
    rw [hsh]
    by_cases hb : b < P.globals.size
    · simp only [hb, if_true, ρ']
      rw [if_pos (by omega)]
      simp only [ρc, sigma, hblt, hb, decide_true, cond_true, Option.bind_some] at h
      obtain ⟨i0, hi0, _⟩ := hs.glob b hb
      have := hst.mono b i0 (restr_mk hb hi0)
      rw [h] at this
      cases this
      exact hi0
    · simp only [hb, if_false, ρ']
      rw [if_neg (by omega), show b + δ - δ = b by omega]
      exact h
  have hval : ∀ {x y z : Value}, mtV (sigma P.globals.size rs) 6 x y = true → okD 6 y = true → V ρ1 x z → V ρ' (shV P.globals.size δ 6 y) z := fun h1 h2 h3 => shV_V hmap 6 (mtV_V hc1 6 h1 h3) h2
  have hsub : Sub ρ ρ' := fun id i h => by
    simp only [ρ']
    rw [if_pos (hs.dom id i h)]
    exact h
  have hget : ∀ id, (addR P.globals.size rs H).get id = if H.next ≤ id ∧ id < H.next + rs.length then (rs[id - H.next]?).map (Row.blk P.globals.size δ) else H.get id := fun id => by
    unfold addR; rw [pushR_get, hδ]
  have hnext : (addR P.globals.size rs H).next = H.next + rs.length := by unfold addR; exact pushR_next rs H
  have hidx : ∀ id, H.next ≤ id → id - δ - P.globals.size = id - H.next := fun id h => by omega
  have hhigh : ∀ id i, ρ' id = some i → H.next ≤ id → ∃ r, rs[id - H.next]? = some r ∧ ρ1 r.src = some i := fun id i hi hid => by
    simp only [ρ'] at hi
    rw [if_neg (by omega)] at hi
    have := hcin (id - δ) i hi (by omega)
    rwa [hidx id hid] at this
  have hlow : ∀ id i, ρ' id = some i → id < H.next → ρ id = some i := fun id i hi hid => by
    simp only [ρ'] at hi
    rwa [if_pos hid] at hi
  have hgl : ∀ id, id < H.next → (addR P.globals.size rs H).get id = H.get id := fun id hid => by rw [hget, if_neg (by omega)]
  have hgh : ∀ id r, H.next ≤ id → rs[id - H.next]? = some r → (addR P.globals.size rs H).get id = some (r.blk P.globals.size δ) := fun id r hid hr => by
    have := (List.getElem?_eq_some_iff.1 hr).1
    rw [hget, if_pos ⟨hid, by omega⟩, hr]; rfl
  refine ⟨ρ', ?_, ⟨hsub, by rw [hnext]; omega, fun id i h h' => ?_, fun id i b b' h h1 h2 h3 => ?_, fun id i h h' => ?_, hst.os, hst.tape, hst.output, hst.size, fun b hb _ => hsame b hb⟩,
    ⟨fun id i h => ?_, fun id b i hb hi => ?_, fun id1 id2 b1 b2 i1 i2 h1 h2 h3 h4 h5 h6 => ?_, fun g hg => ?_⟩⟩
  · cases e with
    | returned v' => exact hval hv hu ho
    | _ => exact ho.elim
  · rw [hgl id (hs.dom id i h)]; exact h'
  · rw [hgl id (hs.dom id i h), h1] at h3; cases h3; exact h2
  · have hid : H.next ≤ id := by
      rcases Nat.lt_or_ge id H.next with hlt | hge
      · rw [hlow id i h hlt] at h'; cases h'
      · exact hge
    obtain ⟨r, hr, hr1⟩ := hhigh id i h hid
    exact ⟨hid, .inl (hnew r.src i hr1 (hrs.row _ r hr).1)⟩
  · rw [hnext]
    rcases Nat.lt_or_ge id H.next with hlt | hge
    · omega
    · obtain ⟨r, hr, _⟩ := hhigh id i h hge
      have := (List.getElem?_eq_some_iff.1 hr).1
      omega
  · rcases Nat.lt_or_ge id H.next with hlt | hge
    · rw [hgl id hlt] at hb
      have hr := hs.live id b i hb (hlow id i hi hlt)
      exact hr.mono hsub (hsame _ hr.lt)
    · obtain ⟨r, hr, hr1⟩ := hhigh id i hi hge
      rw [hgh id r hge hr] at hb
      cases hb
      obtain ⟨g1, g2, c1, g3, g4⟩ := hrs.row _ r hr
      obtain ⟨q1, q2⟩ := beqL_get g4
      refine (hs1.live r.src _ i g3 hr1).turn (by simp [q1]) fun j x y z hx hy hz => ?_
      simp only [List.getElem?_map, Option.map_eq_some_iff] at hy
      obtain ⟨y0, hy0, rfl⟩ := hy
      exact hval (q2 j x y0 hx hy0) (List.all_eq_true.1 g2 y0 (List.mem_of_getElem? hy0)) hz
  · have old : ∀ id b i, id < H.next → (addR P.globals.size rs H).get id = some b → ρ' id = some i → i.at_.block < w.heap.size := fun id b i hlt hb hi => by
      rw [hgl id hlt] at hb
      exact (hs.live id b i hb (hlow id i hi hlt)).lt
    have new : ∀ id i, H.next ≤ id → ρ' id = some i → w.heap.size ≤ i.at_.block := fun id i hge hi => by
      obtain ⟨r, hr, hr1⟩ := hhigh id i hi hge
      exact hnew r.src i hr1 (hrs.row _ r hr).1
    rcases Nat.lt_or_ge id1 H.next with l1 | l1 <;> rcases Nat.lt_or_ge id2 H.next with l2 | l2
    · rw [hgl id1 l1] at h1; rw [hgl id2 l2] at h2
      exact hs.sep id1 id2 b1 b2 i1 i2 h1 h2 (hlow id1 i1 h3 l1) (hlow id2 i2 h4 l2) h5 h6
    · have a1 := old id1 b1 i1 l1 h1 h3
      have a2 := new id2 i2 l2 h4
      omega
    · have a1 := new id1 i1 l1 h3
      have a2 := old id2 b2 i2 l2 h2 h4
      omega
    · obtain ⟨r, hr, hr1⟩ := hhigh id1 i1 h3 l1
      obtain ⟨r', hr', hr1'⟩ := hhigh id2 i2 h4 l2
      rw [hgh id1 r l1 hr] at h1
      rw [hgh id2 r' l2 hr'] at h2
      cases h1; cases h2
      obtain ⟨_, _, c1, g3, _⟩ := hrs.row _ r hr
      obtain ⟨_, _, c2, g4, _⟩ := hrs.row _ r' hr'
      exact hs1.sep r.src r'.src _ _ i1 i2 g3 g4 hr1 hr1' h5 (hrs.inj _ _ r r' hr hr' (by omega))
  · obtain ⟨j, hj, e⟩ := hs.glob g hg
    exact ⟨j, hsub _ _ hj, e⟩

/-! ### Tables, and calls that are known -/

structure Tab where
  id : Nat
  c : List Value
  e : TypeId

noncomputable def tabHeap (G : Nat) (tabs : List Tab) : Heap := ⟨G, tabs.foldr (fun t tr => tr.set t.id (some (.cells t.c t.e true))) .nil⟩

theorem tabHeap_get {G : Nat} : ∀ {tabs : List Tab} {id : Nat} {b : Blk}, (tabHeap G tabs).get id = some b → ∃ t ∈ tabs, id = t.id ∧ b = .cells t.c t.e true
  | [], id, b, h => by cases h
  | t :: ts, id, b, h => by
    have h : ((tabHeap G ts).tr.set t.id (some (.cells t.c t.e true))).get id = some b := h
    rw [Tr.get_set] at h
    by_cases e : id = t.id
    · rw [if_pos e] at h; cases h; exact ⟨t, List.mem_cons_self .., e, rfl⟩
    · rw [if_neg e] at h
      obtain ⟨t', h1, h2, h3⟩ := tabHeap_get (G := G) (tabs := ts) (id := id) (b := b) h
      exact ⟨t', List.mem_cons_of_mem _ h1, h2, h3⟩

noncomputable def tabsOk (tabs : List Tab) : Bool := tabs.all fun t => t.c.all plain
theorem tabOk_of {G : Nat} {tabs : List Tab} (h : tabsOk tabs = true) : TabOk G (tabHeap G tabs) :=
  ⟨rfl, fun id b hb => by
    obtain ⟨t, h1, _, h3⟩ := tabHeap_get hb
    exact ⟨t.c, t.e, h3, List.all_eq_true.1 h t h1⟩⟩

noncomputable def tabIs (t : Tab) (b : Option Blk) : Bool :=
  match b with
  | some (.cells c e true) => Nat.beq e t.e && beqL (beqV 8) c t.c
  | _ => false
noncomputable def tabsIn (tabs : List Tab) (H : Heap) : Bool := tabs.all fun t => tabIs t (H.get t.id)
theorem tabsIn_get {G : Nat} {tabs : List Tab} {H : Heap} (h : tabsIn tabs H = true) : ∀ id b, (tabHeap G tabs).get id = some b → H.get id = some b := fun id b hb => by
  obtain ⟨t, h1, h2, h3⟩ := tabHeap_get hb
  have := List.all_eq_true.1 h t h1
  subst h2; subst h3
  unfold tabIs at this
  split at this
  · rename_i c e hg
    simp only [Bool.and_eq_true, nbeq, decide_eq_true_eq] at this
    rw [hg, this.1, beqL_eq (beqV_eq 8) _ _ this.2]
  · cases this

def rising : List Row → Bool
  | r :: r' :: rs => Nat.blt r.src r'.src && rising (r' :: rs)
  | _ => true

theorem rising_lt : ∀ (rs : List Row), rising rs = true → ∀ (j k : Nat) (r r' : Row), rs[j]? = some r → rs[k]? = some r' → j < k → r.src < r'.src
  | [], _, j, k, r, r', h, _, _ => by simp at h
  | [x], _, j, k, r, r', h, h', hjk => by
    have := (List.getElem?_eq_some_iff.1 h').1
    simp at this; omega
  | x :: y :: rs, hr, j, k, r, r', h, h', hjk => by
    simp only [rising, Bool.and_eq_true, Nat.blt_eq] at hr
    cases k with
    | zero => omega
    | succ k =>
      have hk : (y :: rs)[k]? = some r' := by simpa using h'
      cases j with
      | zero =>
        simp at h; subst h
        cases k with
        | zero => simp at hk; subst hk; exact hr.1
        | succ k => exact Nat.lt_trans hr.1 (rising_lt (y :: rs) hr.2 0 (k + 1) y r' (by simp) hk (by omega))
      | succ j => exact rising_lt (y :: rs) hr.2 j k r r' (by simpa using h) hk (by omega)

noncomputable def rowChk (G : Nat) (σ : Nat → Option Nat) (H1 : Heap) (r : Row) : Bool :=
  Nat.ble G r.src && r.c.all (okD 6) && match H1.get r.src with
    | some (.cells c1 e ro) => Nat.beq e r.e && (ro == r.ro) && beqL (mtV σ 6) c1 r.c
    | _ => false

/-- A run's end is as it is told. -/
noncomputable def sumOk (G : Nat) (u : Value) (rs : List Row) (r : Option (Value × Heap)) : Bool :=
  match r with
  | some (v, H1) => mtV (sigma G rs) 6 v u && okD 6 u && rising rs && rs.all (rowChk G (sigma G rs) H1)
  | none => false

theorem sum_does {P : Program} {known : CallF} (hk : CallOk P known) {F G k : Nat} {f : FuncId} {args : List Value} {tabs : List Tab} {u : Value} {rs : List Row} (he : entered P f = true) (ha : args.all closedV = true) (ht : tabsOk tabs = true)
    (h : sumOk P.globals.size u rs ((run P known F G k).fn f args (tabHeap P.globals.size tabs)) = true) (H : Heap) (hH : tabsIn tabs H = true) :
    Does P f args H (.ret (shV P.globals.size (H.next - P.globals.size) 6 u)) (addR P.globals.size rs H) := by
  unfold sumOk at h
  split at h
  · rename_i v H1 hr
    simp only [Bool.and_eq_true] at h
    obtain ⟨⟨⟨h1, h2⟩, h3⟩, h4⟩ := h
    refine reloc (tabOk_of ht) (((run_sound hk k).fn f args _ v H1 hr).does he) ha h1 h2 ⟨fun j r hj => ?_, fun j m r r' hj hm hne => ?_⟩ H (tabsIn_get hH)
    · have := List.all_eq_true.1 h4 r (List.mem_of_getElem? hj)
      unfold rowChk at this
      simp only [Bool.and_eq_true, Nat.ble_eq] at this
      obtain ⟨⟨g1, g2⟩, g3⟩ := this
      refine ⟨g1, g2, ?_⟩
      split at g3
      · rename_i c1 e ro hg
        simp only [Bool.and_eq_true, nbeq, decide_eq_true_eq, beq_iff_eq] at g3
        exact ⟨c1, by rw [hg, g3.1.1, g3.1.2], g3.2⟩
      · cases g3
    · rcases Nat.lt_or_ge j m with hlt | hge
      · have := rising_lt rs h3 j m r r' hj hm hlt; omega
      · have := rising_lt rs h3 m j r' r hm hj (by omega); omega
  · cases h

/-- A call that is known: its values, what it gives, the rows that it leaves. -/
structure Sum_ where
  f : FuncId
  args : List Value
  u : Value
  rs : List Row

def SumOk (P : Program) (tabs : List Tab) (s : Sum_) : Prop :=
  entered P s.f = true ∧ ∀ H, tabsIn tabs H = true → Does P s.f s.args H (.ret (shV P.globals.size (H.next - P.globals.size) 6 s.u)) (addR P.globals.size s.rs H)

noncomputable def sknown (G : Nat) (tabs : List Tab) (f : FuncId) (args : List Value) (H : Heap) : List Sum_ → Option (Value × Heap)
  | [] => none
  | s :: ss => bif Nat.beq f s.f && beqL (beqV 8) args s.args && tabsIn tabs H then some (shV G (H.next - G) 6 s.u, addR G s.rs H) else sknown G tabs f args H ss

theorem sknown_ok {P : Program} {tabs : List Tab} : ∀ {ss : List Sum_}, (∀ s ∈ ss, SumOk P tabs s) → CallOk P (fun f args H => sknown P.globals.size tabs f args H ss)
  | [], _, f, args, H, v, H', h => by cases h
  | s :: ss, hs, f, args, H, v, H', h => by
    simp only [sknown] at h
    cases hc : (Nat.beq f s.f && beqL (beqV 8) args s.args && tabsIn tabs H) with
    | false =>
      rw [hc] at h
      exact sknown_ok (ss := ss) (fun s' h' => hs s' (List.mem_cons_of_mem _ h')) f args H v H' h
    | true =>
      rw [hc] at h
      simp only [cond_true, Option.some.injEq, Prod.mk.injEq] at h
      obtain ⟨rfl, rfl⟩ := h
      simp only [Bool.and_eq_true, nbeq, decide_eq_true_eq] at hc
      obtain ⟨⟨e1, e2⟩, e3⟩ := hc
      obtain ⟨g1, g2⟩ := hs s (List.mem_cons_self ..)
      subst e1
      rw [beqL_eq (beqV_eq 8) _ _ e2]
      exact .inl ⟨g1, g2 H e3⟩

/-- Known by the one or by the other. -/
noncomputable def orKnown (a b : CallF) : CallF := fun f args H => Option.rec (motive := fun _ => Option (Value × Heap)) (b f args H) some (a f args H)
theorem orKnown_ok {P : Program} {a b : CallF} (ha : CallOk P a) (hb : CallOk P b) : CallOk P (orKnown a b) := by
  intro f args H v H' h
  unfold orKnown at h
  cases he : a f args H with
  | some r => rw [he] at h; cases h; exact ha f args H v H' he
  | none => rw [he] at h; exact hb f args H v H' h
end Go.Ab
