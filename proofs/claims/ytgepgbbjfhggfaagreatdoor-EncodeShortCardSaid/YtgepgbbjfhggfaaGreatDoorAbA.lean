/- Short names of the library's theorems. -/
import Derived.WalkKit
import Derived.Laws.AppendOwn
import Derived.OrdersIn
import Derived.TacticsIn
import Derived.RangeFuncRecord
import Derived.Laws.StructEq
import Derived.Laws.Cover3
import Derived.Laws.Pointers
import Derived.Laws.MakeOwn
import Derived.RangeFuncNested
import Derived.Lib.Bytealg
import Derived.Lib.ConvBytes
set_option linter.unusedVariables false
set_option linter.unusedSimpArgs false
noncomputable section
namespace Go.Ab
abbrev La:=@List.getElem?_eq_getElem
abbrev Lb:=@Nat.le_refl
abbrev Lc:=@if_pos
abbrev Le:=@if_neg
abbrev Lg:=@of_decide_eq_true
abbrev Lh:=@List.length_append
abbrev Li:=@List.all_eq_true
abbrev Lj:=@decide_eq_false
abbrev Lk:=@List.getElem?_eq_some_iff
abbrev Ll:=@of_decide_eq_false
abbrev Lm:=@Bool.and_eq_true
abbrev Ln:=@List.mem_of_getElem?
abbrev Lo:=@List.length_cons
abbrev Lp:=@decide_eq_true
abbrev Lq:=@cond_true
abbrev Lr:=@Bool.not_eq_true'
abbrev Ls:=@cond_false
abbrev Lt:=@Option.some.injEq
abbrev Lu:=@Bool.not_eq_false'
abbrev Lv:=@decide_eq_true_eq
abbrev Lw:=@List.drop_zero
abbrev Lx:=@Option.map_eq_some_iff
abbrev Ly:=@Option.some.inj
abbrev Lz:=@Result.andThen_ok
abbrev L0:=@beq_iff_eq
abbrev L7:=@Nat.zero_le
abbrev L8:=@Bool.not_true
abbrev L9:=@List.length_nil
abbrev LA:=@Nat.eq_of_beq_eq_true
abbrev LB:=@Prod.mk.injEq
abbrev LC:=@beq_eq_false_iff_ne
abbrev LD:=@List.getElem?_map
abbrev Sa:=@List.mem_singleton
abbrev LF:=@List.take_of_length_le
abbrev LG:=@Int.toNat_natCast
abbrev LH:=@List.nil_append
abbrev LI:=@List.mem_append
abbrev LJ:=@Bool.true_and
abbrev LK:=@List.mem_cons
abbrev LM:=@Bool.not_false
abbrev LN:=@if_false
abbrev LO:=@beq_self_eq_true
abbrev LP:=@Nat.zero_add
abbrev LQ:=@List.append_assoc
abbrev LR:=@List.getElem?_append_right
abbrev Sb:=@List.length_take
abbrev LU:=@List.mem_range
abbrev LV:=@Bool.false_eq_true
abbrev LW:=@Sem.run_bind
abbrev LX:=@List.getD_eq_getElem?_getD
abbrev LY:=@List.getElem?_append_left
abbrev LZ:=@run_underlying
abbrev Na:=@List.append_nil
abbrev Nb:=@List.getElem_mem
abbrev Nc:=@Sem.run_pure
abbrev Nf:=@decide_true
abbrev Ng:=@Array.getElem?_eq_getElem
abbrev Nh:=@List.drop_eq_getElem_cons
abbrev Ni:=@Bool.eq_iff_iff
abbrev Nj:=@Array.getElem?_eq_some_iff
abbrev Nk:=@List.getElem?_drop
abbrev Nl:=@List.getElem?_take
abbrev Nm:=@List.cons_append
abbrev Nn:=@List.length_map
abbrev Np:=@Int.fdiv_eq_ediv_of_nonneg
abbrev Nq:=@Nat.lt_or_ge
abbrev Nr:=@List.take_length
abbrev Ns:=@List.not_mem_nil
abbrev Nt:=@Bool.false_or
abbrev Nu:=@Eq.trans
abbrev Nv:=@List.take_add_one
abbrev Nw:=@Bool.or_eq_true
abbrev Ny:=@List.mem_cons_self
abbrev N0:=@Array.getD_eq_getD_getElem?
abbrev N1:=@Bool.true_or
abbrev N2:=@List.length_eq_zero_iff
abbrev N3:=@if_true
abbrev N4:=@List.mem_map
abbrev N5:=@Nat.lt_of_lt_of_le
abbrev N6:=@List.map_append
abbrev N7:=@List.getElem?_eq_none
abbrev N8:=@Nat.le_trans
abbrev N9:=@Nat.add_zero
abbrev NA:=@List.mem_cons_of_mem
abbrev NB:=@Option.getD_some
abbrev NC:=@IntKind.wrap_u64
abbrev ND:=@World.block_lt_of_cell?
abbrev NE:=@decide_false
abbrev NF:=@List.mem_flatMap
abbrev NG:=@Bool.false_and
abbrev NH:=@Nat.mul_one
abbrev NI:=@Bool.or_false
abbrev NJ:=@Bool.and_false
abbrev NK:=@List.drop_of_length_le
abbrev NL:=@Nat.add_sub_cancel_left
abbrev NM:=@List.take_succ_eq_append_getElem
abbrev NN:=@or_false
abbrev NO:=@List.take_append_of_le_length
abbrev NR:=@List.drop_eq_nil_of_le
abbrev NT:=@List.length_drop
abbrev NU:=@IntKind.wrap_i64
abbrev NW:=@List.take_append_drop
abbrev NX:=@Nat.lt_irrefl
abbrev NY:=@decide_eq_false_iff_not
abbrev NZ:=@List.map_cons
abbrev Ba:=@List.flatMap_cons
abbrev Bb:=@List.length_singleton
abbrev Bd:=@Bool.or_true
abbrev Be:=@Bool.and_true
abbrev Bg:=@List.getElem?_cons_succ
abbrev Bh:=@List.any_eq_true
abbrev Bi:=@Int.toNat_of_nonneg
abbrev Bj:=@Bool.and_self
abbrev Bl:=@Array.getElem?_toList
abbrev Bm:=@List.flatMap_append
abbrev Bn:=@Array.getElem?_setIfInBounds_ne
abbrev Bo:=@List.mem_filter
abbrev Bp:=@List.getElem?_cons_zero
abbrev Bq:=@List.map_nil
abbrev Br:=@Option.getD_none
abbrev Bs:=@Nat.mul_le_mul_right
abbrev Bv:=@List.all_cons
abbrev Bw:=@List.pairwise_singleton
abbrev Bx:=@List.mem_iff_getElem?
abbrev Bz:=@true_and
abbrev B0:=@Int.le_refl
abbrev B1:=@Array.all_eq_true_iff_forall_mem
abbrev B3:=@List.drop_append
abbrev B4:=@gt_iff_lt
abbrev B5:=@Nat.blt_eq
abbrev B6:=@Nat.eq_zero_or_pos
abbrev BA:=@List.ext_getElem?
abbrev BB:=@Array.mem_of_getElem?
abbrev BC:=@Nat.min_eq_left
abbrev BD:=@decide_eq_decide
abbrev BE:=@not_true_eq_false
abbrev BF:=@List.zip_cons_cons
abbrev BG:=@Bool.and_eq_false_iff
abbrev BH:=@Nat.zero_mul
abbrev BI:=@List.all_nil
abbrev BJ:=@Nat.sub_self
abbrev BL:=@Nat.ble_eq
abbrev BM:=@Int.tmod_eq_emod_of_nonneg
abbrev BN:=@eq_self
abbrev BO:=@List.length_range
abbrev BP:=@List.getElem?_of_mem
abbrev BR:=@List.pairwise_iff_getElem
abbrev BT:=@DataW.trod_int
abbrev BU:=@List.drop_length
abbrev BV:=@Option.bind_eq_bind
abbrev BY:=@Option.bind_eq_some_iff
abbrev Ra:=@List.mapM_cons
abbrev Rb:=@List.take_zero
abbrev Rc:=@List.drop_drop
abbrev Re:=@List.filter_append
abbrev Rh:=@Nat.add_assoc
abbrev Rj:=@List.length_pos_iff
abbrev Rm:=@Nat.mod_lt
abbrev Ro:=@Nat.le_add_right
abbrev Rq:=@Nat.lt_succ_self
abbrev Ru:=@Array.ext'
abbrev Rw:=@List.mem_map_of_mem
abbrev Rx:=@Option.pure_def
abbrev Ry:=@Nat.add_mul
abbrev Rz:=@List.any_append
abbrev R0:=@List.range_succ
abbrev R7:=@List.length_filter_le
abbrev R8:=@Option.bind_some
abbrev R9:=@List.map_toArray
abbrev RA:=@Nat.mod_eq_of_lt
abbrev RB:=@Option.toList_some
abbrev RC:=@Array.getElem?_setIfInBounds_self_of_lt
abbrev RD:=@run_sliceBound
abbrev RE:=@Array.toArray_toList
abbrev RL:=@DataW.trod_struct
abbrev RU:=@and_self
abbrev RV:=@Option.isNone_none
abbrev RW:=@Bool.false_ne_true
abbrev RY:=@Array.getElem?_modify
abbrev Da:=@ne_eq
abbrev Db:=@List.getElem?_eq_none_iff
abbrev Dd:=@Nat.add_eq_left
abbrev De:=@Nat.left_eq_add
abbrev Dg:=@exists_eq_left'
abbrev Dh:=@Option.map_some
abbrev Dj:=@Nat.lt_trichotomy
abbrev D9:=@Option.isSome_iff_exists
abbrev DB:=@List.getElem?_range
abbrev DC:=@List.map_congr_left
abbrev DE:=@List.take_take
abbrev DF:=@List.isEmpty_iff
abbrev DG:=@List.flatMap_nil
abbrev DJ:=@run_program
abbrev Fa:=@Nat.lt_or_gt_of_ne
abbrev Fe:=@Bool.true_eq_false
abbrev Ff:=@Option.isNone_some
abbrev Fk:=@Option.map_none
abbrev Fl:=@List.cons.injEq
abbrev Fo:=@List.all_append
abbrev Fs:=@StepsIn.trans
abbrev Ft:=@ge_iff_le
abbrev Fv:=@List.eq_replicate_iff
abbrev Fx:=@Nat.one_mul
abbrev FF:=@wpIn_mono
abbrev FG:=@List.countP_cons
abbrev FH:=@Nat.succ_pos
abbrev FL:=@Nat.div_eq_of_lt
abbrev FO:=@List.mapM_nil
abbrev FP:=@Bool.or_assoc
abbrev FQ:=@List.foldl_cons
abbrev FR:=@List.nodup_cons
abbrev FT:=@run_newObj
abbrev Hr:=@and_true
abbrev Ht:=@List.map_map
abbrev Hu:=@Int.mul_comm
abbrev Hv:=@Nat.mul_comm
def UNK:Nat:=9223372036854775808
structure Kg where
 at_:Addr
 n:Nat
 s:Nat
abbrev Ren:=Nat->Option Kg
def plain:Value->Bool
 | .bool _ | .int _ _ | .float _ _ | .complex _ _ _ | .string _ | .pointer none | .slice none _ _ | .map none | .chan none | .nilFunc | .nilIface=>true
 | _=>false
def QdZ:Fn->Bool
 | .yield _=>false
 | _=>true
inductive V (ρ:Ren):Value->Value->Prop
 | same (v:Value):plain v=true->V ρ v v
 | ptr (id off:Nat) (i:Kg):ρ id=some i->V ρ (.pointer (some ⟨id,off,none⟩)) (.pointer (some (i.at_.add off)))
 | slice (id off len cap cap':Nat) (i:Kg) (a':Addr):ρ id=some i->(a'=i.at_.add off∨(len=0∧cap'=0))->len<=cap'->cap'<UNK->
   (UNK<=cap->i.s=cap - UNK∧off+cap' * i.s=i.n)->(cap<UNK->cap'=cap)->V ρ (.slice (some ⟨id,off,none⟩) len cap) (.slice (some a') len cap')
 | map (id:Nat) (i:Kg):ρ id=some i->V ρ (.map (some id)) (.map (some i.at_.block))
 | func (fn:Fn) (xs ys xs' ys':Array Value):QdZ fn=true->xs.size=xs'.size->ys.size=ys'.size->
   (∀ (j:Nat) x x',xs[j]? = some x->xs'[j]? = some x'->V ρ x x')->(∀ (j:Nat) x x',ys[j]? = some x->ys'[j]? = some x'->V ρ x x')->V ρ (.func fn xs ys) (.func fn xs' ys')
 | yield (l:Nat) (i:Kg):ρ l=some i->V ρ (.func (.yield l) #[] #[]) (.func (.yield i.at_.block) #[] #[])
 | iface (t:TypeId) (v v':Value):V ρ v v'->V ρ (.iface t v) (.iface t v')
 | agg (xs xs':Array Value):xs.size=xs'.size->(∀ (j:Nat) x x',xs[j]? = some x->xs'[j]? = some x'->V ρ x x')->V ρ (.agg xs) (.agg xs')
 | tuple (xs xs':Array Value):xs.size=xs'.size->(∀ (j:Nat) x x',xs[j]? = some x->xs'[j]? = some x'->V ρ x x')->V ρ (.tuple xs) (.tuple xs')
def Sub (ρ ρ':Ren):Prop:=∀id i,ρ id=some i->ρ' id=some i
theorem Sub.refl (ρ:Ren):Sub ρ ρ:=λ_ _ h=>h
theorem Sub.trans {a b c:Ren}(h:Sub a b)(h':Sub b c):Sub a c:=λid i e=>h' id i (h id i e)
theorem V.mono {ρ ρ':Ren}(hs:Sub ρ ρ'){v v':Value}(h:V ρ v v'):V ρ' v v':=by
 induction h with
 | same v hp=>exact .same v hp
 | ptr id off i h=>exact .ptr id off i (hs _ _ h)
 | slice id off len cap cap' i a' h h1 h2 h0 h3 h4=>exact .slice id off len cap cap' i a' (hs _ _ h) h1 h2 h0 h3 h4
 | map id i h=>exact .map id i (hs _ _ h)
 | func fn xs ys xs' ys' hn h1 h2 _ _ ih1 ih2=>exact .func fn xs ys xs' ys' hn h1 h2 ih1 ih2
 | yield l i h=>exact .yield l i (hs _ _ h)
 | iface t v v' _ ih=>exact .iface t v v' ih
 | agg xs xs' h1 _ ih=>exact .agg xs xs' h1 ih
 | tuple xs xs' h1 _ ih=>exact .tuple xs xs' h1 ih
def VL (ρ:Ren)(xs xs':List Value):Prop:=xs.length=xs'.length∧∀ (j:Nat) x x',xs[j]? = some x->xs'[j]? = some x'->V ρ x x'
theorem VL.mono {ρ ρ':Ren}(hs:Sub ρ ρ'){v v':List Value}(h:VL ρ v v'):VL ρ' v v':=⟨h.1,λj x x' a b=>(h.2 j x x' a b).mono hs⟩
theorem VL.nil (ρ:Ren):VL ρ [] []:=⟨rfl,λ_ _ _ h=>by simp at h⟩
theorem VL.cons {ρ:Ren}{x x':Value}{xs xs':List Value}(h:V ρ x x')(hs:VL ρ xs xs'):VL ρ (x::xs) (x'::xs'):=
 ⟨by simp[hs.1],λj y y' a b=>by
  cases j with
  | zero=>simp at a b;subst a;subst b;exact h
  | succ j=>simp at a b;exact hs.2 j y y' a b⟩
theorem VL.uncons {ρ:Ren}{x:Value}{xs l:List Value}(h:VL ρ (x::xs) l):∃x' xs',l=x'::xs'∧V ρ x x'∧VL ρ xs xs':=by
 cases l with
 | nil=>have:=h.1;simp at this
 | cons x' xs'=>
  exact⟨x',xs',rfl,h.2 0 x x' rfl rfl,by have:=h.1;simp at this;exact this,λj y y' a b=>h.2 (j+1) y y' (by simpa using a) (by simpa using b)⟩
theorem VL.unnil {ρ:Ren}{l:List Value}(h:VL ρ [] l):l=[]:=by
 have:=h.1;simp at this;exact N2.1 this.symm
theorem VL.append {ρ:Ren}{a a' b b':List Value}(h:VL ρ a a')(h':VL ρ b b'):VL ρ (a++b) (a'++b'):=by
 refine⟨by simp[h.1,h'.1],λj x x' e e'=>?_⟩
 by_cases hj:j<a.length
 ·rw[LY hj]at e;rw[LY (by rw[<- h.1];exact hj)]at e';exact h.2 j x x' e e'
 ·rw[LR (by omega)]at e;rw[LR (by rw[<- h.1];omega),<- h.1]at e';exact h'.2 _ x x' e e'
theorem VL.drop {ρ:Ren}{a a':List Value}(h:VL ρ a a')(k:Nat):VL ρ (a.drop k) (a'.drop k):=
 ⟨by simp[h.1],λj x x' e e'=>h.2 (k+j) x x' (by rw[<- Nk];exact e) (by rw[<- Nk];exact e')⟩
theorem VL.take {ρ:Ren}{a a':List Value}(h:VL ρ a a')(k:Nat):VL ρ (a.take k) (a'.take k):=by
 refine⟨by simp[h.1],λj x x' e e'=>?_⟩;rw[Nl]at e e';split at e
 ·rename_i hj;rw[Lc hj]at e';exact h.2 j x x' e e'
 ·cases e
theorem VL.get {ρ:Ren}{a a':List Value}(h:VL ρ a a'){j:Nat}{x:Value}(e:a[j]? = some x):∃x',a'[j]? = some x'∧V ρ x x':=by
 have hj:j<a.length:=(Lk.1 e).1;have hj':j<a'.length:=by rw[<- h.1];exact hj
 exact⟨a'[j],La hj',h.2 j x _ e (La hj')⟩
theorem VL.set {ρ:Ren}{a a':List Value}(h:VL ρ a a'){k:Nat}{x x':Value}(hx:V ρ x x'):VL ρ (a.set k x) (a'.set k x'):=by
 refine⟨by simp[h.1],λj y y' e e'=>?_⟩;rw[List.getElem?_set]at e e'
 by_cases hk:k=j
 ·simp only[hk,N3]at e e';split at e
  ·split at e'
   ·cases e;cases e';exact hx
   ·cases e'
  ·cases e
 ·simp only[hk,LN]at e e';exact h.2 j y y' e e'
inductive Tr (α:Type) where
 | nil
 | node (l:Tr α) (x:Option α) (r:Tr α)
def Tr.get {α:Type}(t:Tr α):Nat->Option α:=
 Tr.rec (motive:=λ_=>Nat->Option α) (λ_=>none)
  (λ_ x _ ihl ihr n=>Bool.rec (motive:=λ_=>Option α) (Bool.rec (motive:=λ_=>Option α) (ihr (Nat.pred (Nat.div n 2))) (ihl (Nat.div n 2)) (Nat.beq (Nat.mod n 2) 1)) x (Nat.beq n 0)) t
def Tr.one {α:Type}(v:Option α)(f:Nat):Nat->Tr α:=
 Nat.rec (motive:=λ_=>Nat->Tr α) (λ_=>.nil)
  (λ_ ih n=>Bool.rec (motive:=λ_=>Tr α) (Bool.rec (motive:=λ_=>Tr α) (.node .nil none (ih (Nat.pred (Nat.div n 2)))) (.node (ih (Nat.div n 2)) none .nil) (Nat.beq (Nat.mod n 2) 1)) (.node .nil v .nil) (Nat.beq n 0)) f
def Tr.set {α:Type}(t:Tr α)(n:Nat)(v:Option α):Tr α:=
 Tr.rec (motive:=λ_=>Nat->Tr α) (λn=>Tr.one v (Nat.succ n) n)
  (λl x r ihl ihr n=>Bool.rec (motive:=λ_=>Tr α) (Bool.rec (motive:=λ_=>Tr α) (.node l x (ihr (Nat.pred (Nat.div n 2)))) (.node (ihl (Nat.div n 2)) x r) (Nat.beq (Nat.mod n 2) 1)) (.node l v r) (Nat.beq n 0)) t n
theorem Tr.get_nil {α:Type}(n:Nat):(Tr.nil:Tr α).get n=none:=rfl
theorem Tr.get_node {α:Type}(l:Tr α)(x:Option α)(r:Tr α)(n:Nat):(Tr.node l x r).get n=bif Nat.beq n 0 then x else bif Nat.beq (n % 2) 1 then l.get (n / 2) else r.get (n / 2 - 1):=by
 show Bool.rec (motive:=λ_=>Option α) (Bool.rec (motive:=λ_=>Option α) (r.get (Nat.pred (Nat.div n 2))) (l.get (Nat.div n 2)) (Nat.beq (Nat.mod n 2) 1)) x (Nat.beq n 0)=_;cases h:Nat.beq n 0 with
 | true=>rfl
 | false=>
  show Bool.rec (motive:=λ_=>Option α) (r.get (Nat.pred (Nat.div n 2))) (l.get (Nat.div n 2)) (Nat.beq (Nat.mod n 2) 1)=bif Nat.beq (n % 2) 1 then l.get (n / 2) else r.get (n / 2 - 1)
  show _=bif Nat.beq (Nat.mod n 2) 1 then l.get (n / 2) else r.get (n / 2 - 1)
  cases Nat.beq (Nat.mod n 2) 1<;>rfl
theorem Tr.set_nil {α:Type}(n:Nat)(v:Option α):(Tr.nil:Tr α).set n v=Tr.one v (n+1) n:=rfl
theorem Tr.set_node {α:Type}(l:Tr α)(x:Option α)(r:Tr α)(n:Nat)(v:Option α):(Tr.node l x r).set n v=bif Nat.beq n 0 then .node l v r else bif Nat.beq (n % 2) 1 then .node (l.set (n / 2) v) x r else .node l x (r.set (n / 2 - 1) v):=by
 show Bool.rec (motive:=λ_=>Tr α) (Bool.rec (motive:=λ_=>Tr α) (.node l x (r.set (Nat.pred (Nat.div n 2)) v)) (.node (l.set (Nat.div n 2) v) x r) (Nat.beq (Nat.mod n 2) 1)) (.node l v r) (Nat.beq n 0)=_;cases h:Nat.beq n 0 with
 | true=>rfl
 | false=>
  show Bool.rec (motive:=λ_=>Tr α) (.node l x (r.set (Nat.pred (Nat.div n 2)) v)) (.node (l.set (Nat.div n 2) v) x r) (Nat.beq (Nat.mod n 2) 1)=bif Nat.beq (Nat.mod n 2) 1 then Tr.node (l.set (n / 2) v) x r else Tr.node l x (r.set (n / 2 - 1) v)
  cases Nat.beq (Nat.mod n 2) 1<;>rfl
theorem Tr.one_succ {α:Type}(v:Option α)(f n:Nat):Tr.one v (f+1) n=bif Nat.beq n 0 then .node .nil v .nil else bif Nat.beq (n % 2) 1 then .node (Tr.one v f (n / 2)) none .nil else .node .nil none (Tr.one v f (n / 2 - 1)):=by
 show Bool.rec (motive:=λ_=>Tr α) (Bool.rec (motive:=λ_=>Tr α) (.node .nil none (Tr.one v f (Nat.pred (Nat.div n 2)))) (.node (Tr.one v f (Nat.div n 2)) none .nil) (Nat.beq (Nat.mod n 2) 1)) (.node .nil v .nil) (Nat.beq n 0)=_;cases h:Nat.beq n 0 with
 | true=>rfl
 | false=>
  show Bool.rec (motive:=λ_=>Tr α) (.node .nil none (Tr.one v f (Nat.pred (Nat.div n 2)))) (.node (Tr.one v f (Nat.div n 2)) none .nil) (Nat.beq (Nat.mod n 2) 1)=bif Nat.beq (Nat.mod n 2) 1 then Tr.node (Tr.one v f (n / 2)) none .nil else Tr.node .nil none (Tr.one v f (n / 2 - 1))
  cases Nat.beq (Nat.mod n 2) 1<;>rfl
theorem Kh (a b:Nat):Nat.beq a b=decide (a=b):=by
 by_cases h:a=b
 ·subst h;simp
 ·simp only[h,NE];cases hb:Nat.beq a b with
  | false=>rfl
  | true=>exact absurd (LA hb) h
theorem Tr.get_one {α:Type}(v:Option α):∀ (f n m:Nat),n<f->(Tr.one v f n).get m=if m=n then v else none:=by
 intro f
 induction f with
 | zero=>intro n m h;omega
 | succ f ih=>
  intro n m h;simp only[Tr.one_succ,Kh,cond_eq_ite,Lv]
  by_cases hn:n=0
  ·subst hn;simp only[N3,Tr.get_node,Tr.get_nil,Kh,cond_eq_ite,Lv,ite_self]
  ·simp only[hn,LN]
   by_cases hod:n % 2=1
   ·simp only[hod,N3,Tr.get_node,Tr.get_nil,Kh,cond_eq_ite,Lv,ih (n / 2) (m / 2) (by omega)]
    by_cases hm0:m=0
    ·subst hm0;simp[show ¬0=n by omega]
    ·simp only[hm0,LN]
     by_cases hmo:m % 2=1
     ·simp only[hmo,N3]
      by_cases e:m=n
      ·subst e;simp
      ·rw[Le (by omega),Le e]
     ·simp only[hmo,LN];rw[Le (by omega)]
   ·simp only[hod,LN,Tr.get_node,Tr.get_nil,Kh,cond_eq_ite,Lv,ih (n / 2 - 1) (m / 2 - 1) (by omega)]
    by_cases hm0:m=0
    ·subst hm0;simp[show ¬0=n by omega]
    ·simp only[hm0,LN]
     by_cases hmo:m % 2=1
     ·simp only[hmo,N3];rw[Le (by omega)]
     ·simp only[hmo,LN]
      by_cases e:m=n
      ·subst e;simp
      ·rw[Le (by omega),Le e]
theorem Tr.get_set {α:Type}(t:Tr α)(n m:Nat)(v:Option α):(t.set n v).get m=if m=n then v else t.get m:=by
 induction t generalizing n m with
 | nil=>rw[Tr.set_nil,Tr.get_one v (n+1) n m (by omega),Tr.get_nil]
 | node l x r ihl ihr=>
  simp only[Tr.set_node,Kh,cond_eq_ite,Lv]
  by_cases hn:n=0
  ·subst hn;simp only[N3,Tr.get_node,Kh,cond_eq_ite,Lv]
   by_cases hm0:m=0<;>simp[hm0]
  ·simp only[hn,LN]
   by_cases hod:n % 2=1
   ·simp only[hod,N3,Tr.get_node,Kh,cond_eq_ite,Lv,ihl (n / 2) (m / 2)]
    by_cases hm0:m=0
    ·subst hm0;simp[show ¬0=n by omega]
    ·simp only[hm0,LN]
     by_cases hmo:m % 2=1
     ·simp only[hmo,N3]
      by_cases e:m=n
      ·subst e;simp
      ·rw[Le (by omega),Le e]
     ·simp only[hmo,LN];rw[Le (by omega)]
   ·simp only[hod,LN,Tr.get_node,Kh,cond_eq_ite,Lv,ihr (n / 2 - 1) (m / 2 - 1)]
    by_cases hm0:m=0
    ·subst hm0;simp[show ¬0=n by omega]
    ·simp only[hm0,LN]
     by_cases hmo:m % 2=1
     ·simp only[hmo,N3];rw[Le (by omega)]
     ·simp only[hmo,LN]
      by_cases e:m=n
      ·subst e;simp
      ·rw[Le (by omega),Le e]
inductive Blk where
 | cells (c:List Value) (e:TypeId) (ro:Bool)
 | map (es:List (Value×Value))
 | iter (s:ByteArray) (pos:Nat)
 | miter (m:Option Nat) (since:Nat) (seen:List Nat) (stp:Nat)
 | loop (A:Nat->Value) (n:Nat) (ps:Array Tmp) (as bd:Code) (st:Option Code)
def Blk.ro:Blk->Bool
 | .cells _ _ r=>r
 | _=>false
structure Qa where
 next:Nat
 tr:Tr Blk
def Qa.get (H:Qa)(id:Nat):Option Blk:=H.tr.get id
def Qa.set (H:Qa)(id:Nat)(b:Blk):Qa:=⟨H.next,H.tr.set id (some b)⟩
def Qa.kill (H:Qa)(id:Nat):Qa:=⟨H.next,H.tr.set id none⟩
def Qa.push (H:Qa)(b:Blk):Qa:=⟨H.next+1,H.tr.set H.next (some b)⟩
@[simp] theorem Qt (H:Qa) (id:Nat) (b:Blk):(H.set id b).next=H.next:=rfl
@[simp] theorem Qdm (H:Qa) (id:Nat):(H.kill id).next=H.next:=rfl
@[simp] theorem Qc (H:Qa) (b:Blk):(H.push b).next=H.next+1:=rfl
theorem Qq (H:Qa)(id m:Nat)(b:Blk):(H.set id b).get m=if m=id then some b else H.get m:=Tr.get_set _ _ _ _
theorem WS (H:Qa)(id m:Nat):(H.kill id).get m=if m=id then none else H.get m:=Tr.get_set _ _ _ _
theorem Qd (H:Qa)(m:Nat)(b:Blk):(H.push b).get m=if m=H.next then some b else H.get m:=Tr.get_set _ _ _ _
def QAl (P:Program)(e:TypeId)(v:Value):Prop:=P.underlying e=some (.int .u8)->∃n:Int,v=.int .u8 n∧0<=n∧n<256
def Xf (P:Program)(ρ:Ren)(i:Kg)(w:World):Blk->Prop
 | .cells c _ true=>i.at_.block<w.heap.size∧∀ (j:Nat) v,c[j]? = some v->∃v',w.cell? (i.at_.add j)=some v'∧V ρ v v'
 | .cells c e false=>∃ (cur:Array Value) (fz:Nat×Nat),w.heap[i.at_.block]? = some (.cells cur e fz)∧(i.at_.spot=none∧i.at_.off=0)∧i.at_.off+i.n=cur.size∧c.length<=i.n∧
   (∀ (j:Nat) v,c[j]? = some v->∃v',cur[i.at_.off+j]? = some v'∧V ρ v v')∧
   (∀o,i.at_.off<=o->o<cur.size->¬ (fz.1<=o∧o<fz.2))∧
   (∀ (o:Nat) v,i.at_.off+c.length<=o->cur[o]? = some v->QAl P e v)∧i.s=P.cellsOf e
 | .map es=>∃ (es':Array MapEntry) (clock:Nat),w.heap[i.at_.block]? = some (.map es' clock)∧VL ρ (es.map (·.1)) (es'.toList.map (·.key))∧VL ρ (es.map (·.2)) (es'.toList.map (·.val))∧
   clock=es'.size∧∀ (j:Nat) e,es'[j]? = some e->e.born=j
 | .iter s pos=>w.heap[i.at_.block]? = some (.stringIter s pos)∧i.at_.off=0
 | .miter none _ _ _=>w.heap[i.at_.block]? = some (.mapIter none 0 #[] 0)∧i.at_.off=0
 | .miter (some m) since seen stp=>(∃i',ρ m=some i'∧w.heap[i.at_.block]? = some (.mapIter (some i'.at_.block) since seen.toArray stp))∧i.at_.off=0
 | .loop A n ps as bd st=>∃ (fn:FuncId) (tmps:Array Value) (D:Nat),w.heap[i.at_.block]? = some (.loop {state:=if st.isNone then .ready else .done,pending:=st,fn:=fn,tmps:=tmps,params:=ps,assign:=as,body:=bd,defers:=D})∧
   tmps.size=n∧∀t,t<n->V ρ (A t) (tmps.getD t undef)
structure Sim (P:Program) (ρ:Ren) (H:Qa) (w:World):Prop where
 dom:∀id i,ρ id=some i->id<H.next
 live:∀id b i,H.get id=some b->ρ id=some i->Xf P ρ i w b
 sep:∀id1 id2 b1 b2 i1 i2,H.get id1=some b1->H.get id2=some b2->ρ id1=some i1->ρ id2=some i2->b1.ro=false->id1≠id2->i1.at_.block≠i2.at_.block
 glob:∀g,g<P.globals.size->∃i,ρ g=some i∧i.at_=⟨g,0,none⟩
theorem Xf.lt {P:Program}{ρ:Ren}{i:Kg}{w:World}{b:Blk}(h:Xf P ρ i w b):i.at_.block<w.heap.size:=by
 cases b with
 | cells c e ro=>
  cases ro with
  | true=>exact h.1
  | false=>
   obtain⟨cur,fz,hh,_⟩:=h;exact(Nj.1 hh).1
 | map es=>obtain⟨es',clock,hh,_⟩:=h;exact(Nj.1 hh).1
 | iter s pos=>exact(Nj.1 h.1).1
 | miter m since seen stp=>
  cases m with
  | none=>exact(Nj.1 h.1).1
  | some m=>obtain⟨⟨i',_,hh⟩,_⟩:=h;exact(Nj.1 hh).1
 | loop A n ps as bd st=>obtain⟨fn,tmps,D,hh,_⟩:=h;exact(Nj.1 hh).1
theorem block_add (a:Addr)(n:Nat):(a.add n).block=a.block:=by unfold Addr.add;split<;>rfl
theorem Gi (a:Addr)(i j:Nat):(a.add i).add j=a.add (i+j):=by
 unfold Addr.add
 by_cases hi:i=0<;>by_cases hj:j=0<;>simp[hi,hj,Rh]
theorem Qe8 (b o n:Nat):(⟨b,o,none⟩:Addr).add n=⟨b,o+n,none⟩:=by
 unfold Addr.add;split<;>simp_all
theorem Qnr {a:Addr}(h:a.spot=none)(n:Nat):a.add n=⟨a.block,a.off+n,none⟩:=by
 obtain⟨b,o,s⟩:=a;simp at h;subst h;exact Qe8 b o n
theorem Xf.mono {P:Program}{ρ ρ':Ren}{i:Kg}{w w':World}{b:Blk}(hs:Sub ρ ρ')(hw:w'.heap[i.at_.block]? = w.heap[i.at_.block]?)(h:Xf P ρ i w b):Xf P ρ' i w' b:=by
 cases b with
 | cells c e ro=>
  cases ro with
  | true=>
   refine⟨?_,λj v hj=>?_⟩
   ·have:=h.1;rcases Nq i.at_.block w'.heap.size with h1 | h1
    ·exact h1
    ·rw[Array.getElem?_eq_none h1,Ng this]at hw;cases hw
   ·obtain⟨v',hc,hv⟩:=h.2 j v hj;refine⟨v',?_,hv.mono hs⟩;rw[<- hc];exact World.cell?_of_block (by rw[block_add];exact hw)
  | false=>
   obtain⟨cur,fz,hh,h1,h2,h3,h4,h5,h6,h7⟩:=h;exact⟨cur,fz,hw.trans hh,h1,h2,h3,λj v hj=>by obtain⟨v',a,b⟩:=h4 j v hj;exact⟨v',a,b.mono hs⟩,h5,h6,h7⟩
 | map es=>obtain⟨es',clock,hh,h1,h2,h3⟩:=h;exact⟨es',clock,hw.trans hh,h1.mono hs,h2.mono hs,h3⟩
 | iter s pos=>exact⟨hw.trans h.1,h.2⟩
 | miter m since seen stp=>
  cases m with
  | none=>exact⟨hw.trans h.1,h.2⟩
  | some m=>obtain⟨⟨i',h1,hh⟩,h2⟩:=h;exact⟨⟨i',hs _ _ h1,hw.trans hh⟩,h2⟩
 | loop A n ps as bd st=>obtain⟨fn,tmps,D,hh,h1,h2⟩:=h;exact⟨fn,tmps,D,hw.trans hh,h1,λt ht=>(h2 t ht).mono hs⟩
structure St (ρ:Ren) (H:Qa) (w:World) (ρ':Ren) (H':Qa) (w':World):Prop where
 mono:Sub ρ ρ'
 next:H.next<=H'.next
 dead:∀id i,ρ id=some i->H.get id=none->H'.get id=none
 ro:∀id i b b',ρ id=some i->H.get id=some b->b.ro=true->H'.get id=some b'->b'.ro=true
 fresh:∀id i,ρ' id=some i->ρ id=none->H.next<=id∧(w.heap.size<=i.at_.block∨∃id0 i0 b0,ρ id0=some i0∧i0.at_.block=i.at_.block∧H.get id0=some b0∧b0.ro=false)
 os:w'.os=w.os
 tape:w'.tape=w.tape
 output:w'.output=w.output
 size:w.heap.size<=w'.heap.size
 frame:∀b,b<w.heap.size->(∀id i bl,ρ id=some i->H.get id=some bl->bl.ro=false->i.at_.block≠b)->w'.heap[b]? = w.heap[b]?
theorem St.refl (ρ:Ren)(H:Qa)(w:World):St ρ H w ρ H w where
 mono:=Sub.refl ρ
 next:=Lb _
 dead:=λ_ _ _ h=>h
 ro:=λ_ _ b b' _ h hr h'=>by rw[h]at h';cases h';exact hr
 fresh:=λid i h h'=>by rw[h']at h;cases h
 os:=rfl
 tape:=rfl
 output:=rfl
 size:=Lb _
 frame:=λ_ _ _=>rfl
theorem St.owned {ρ:Ren}{H:Qa}{w:World}{ρ':Ren}{H':Qa}{w':World}(h:St ρ H w ρ' H' w'){id:Nat}{i:Kg}{bl:Blk}
  (h1:ρ' id=some i) (h2:H'.get id=some bl) (h3:bl.ro=false):
  w.heap.size<=i.at_.block∨∃id0 i0 b0,ρ id0=some i0∧i0.at_.block=i.at_.block∧H.get id0=some b0∧b0.ro=false:=by
 cases hr:ρ id with
 | none=>exact(h.fresh id i h1 hr).2
 | some i0=>
  have:i0=i:=by have:=h.mono id i0 hr;rw[h1]at this;cases this;rfl
  subst this;cases hg:H.get id with
  | none=>rw[h.dead id i0 hr hg]at h2;cases h2
  | some b0=>
   refine .inr ⟨id,i0,b0,hr,rfl,hg,?_⟩;cases hro:b0.ro with
   | false=>rfl
   | true=>rw[h.ro id i0 b0 bl hr hg hro h2]at h3;cases h3
theorem St.trans {ρ ρ1 ρ2:Ren}{H H1 H2:Qa}{w w1 w2:World}(a:St ρ H w ρ1 H1 w1)(b:St ρ1 H1 w1 ρ2 H2 w2):St ρ H w ρ2 H2 w2 where
 mono:=a.mono.trans b.mono
 next:=N8 a.next b.next
 dead:=λid i h h'=>b.dead id i (a.mono _ _ h) (a.dead id i h h')
 ro:=λid i bl bl' h h1 h2 h3=>by
  cases hg:H1.get id with
  | none=>rw[b.dead id i (a.mono _ _ h) hg]at h3;cases h3
  | some b1=>exact b.ro id i b1 bl' (a.mono _ _ h) hg (a.ro id i bl b1 h h1 h2 hg) h3
 fresh:=λid i h h'=>by
  cases hr:ρ1 id with
  | some i1=>
   have:i1=i:=by have:=b.mono id i1 hr;rw[h]at this;cases this;rfl
   subst this;exact a.fresh id i1 hr h'
  | none=>
   obtain⟨h1,h2⟩:=b.fresh id i h hr;refine⟨N8 a.next h1,?_⟩;rcases h2 with h2 | ⟨id0,i0,b0,e1,e2,e3,e4⟩
   ·exact .inl (N8 a.size h2)
   ·rw[<- e2];exact a.owned e1 e3 e4
 os:=b.os.trans a.os
 tape:=b.tape.trans a.tape
 output:=b.output.trans a.output
 size:=N8 a.size b.size
 frame:=λbk hb hn=>by
  rw[b.frame bk (N5 hb a.size) ?_,a.frame bk hb hn];intro id i bl h1 h2 h3 e;rcases a.owned h1 h2 h3 with h | ⟨id0,i0,b0,e1,e2,e3,e4⟩
  ·omega
  ·exact hn id0 i0 b0 e1 e3 e4 (e2.trans e)
structure Hid (ρ:Ren) (H:Qa) (w:World) (b:Nat) (o:Obj):Prop where
 at_:w.heap[b]? = some o
 un:∀id i bl,ρ id=some i->H.get id=some bl->i.at_.block≠b
theorem Hid.lt {ρ:Ren}{H:Qa}{w:World}{b:Nat}{o:Obj}(h:Hid ρ H w b o):b<w.heap.size:=(Nj.1 h.at_).1
theorem Hid.step {ρ ρ':Ren}{H H':Qa}{w w':World}{b:Nat}{o:Obj}(h:Hid ρ H w b o)(hst:St ρ H w ρ' H' w'):Hid ρ' H' w' b o:=
 ⟨(hst.frame b h.lt (λid i bl h1 h2 _=>h.un id i bl h1 h2)).trans h.at_,λid i bl h1 h2 e=>by
  cases hr:ρ id with
  | none=>
   rcases(hst.fresh id i h1 hr).2 with hh | ⟨id0,i0,b0,e1,e2,e3,e4⟩
   ·have:=h.lt;omega
   ·exact h.un id0 i0 b0 e1 e3 (e2.trans e)
  | some i0=>
   have:i0=i:=by have:=hst.mono id i0 hr;rw[h1]at this;cases this;rfl
   subst this;cases hg:H.get id with
   | none=>rw[hst.dead id i0 hr hg]at h2;cases h2
   | some b0=>exact h.un id i0 b0 hr hg e⟩
structure GE (H2 H1:Qa):Prop where
 next:H1.next<=H2.next
 get:∀id b,H2.get id=some b->H1.get id=some b
theorem GE.refl (H:Qa):GE H H:=⟨Lb _,λ_ _ h=>h⟩
theorem GE.trans {a b c:Qa}(h:GE a b)(h':GE b c):GE a c:=⟨N8 h'.next h.next,λid x e=>h'.get id x (h.get id x e)⟩
theorem Sim.less {P:Program}{ρ:Ren}{H1 H2:Qa}{w:World}(h:Sim P ρ H1 w)(l:GE H2 H1):Sim P ρ H2 w:=
 ⟨λid i hi=>N5 (h.dom id i hi) l.next,λid b i hb hi=>h.live id b i (l.get id b hb) hi,λid1 id2 b1 b2 i1 i2 h1 h2=>h.sep id1 id2 b1 b2 i1 i2 (l.get _ _ h1) (l.get _ _ h2),h.glob⟩
theorem St.less {ρ ρ':Ren}{H H1 H2:Qa}{w w':World}(h:St ρ H w ρ' H1 w')(l:GE H2 H1):St ρ H w ρ' H2 w':=
 {h with
  next:=N8 h.next l.next
  dead:=λid i hi hg=>by
   cases hc:H2.get id with
   | none=>rfl
   | some b=>have:=l.get id b hc;rw[h.dead id i hi hg]at this;cases this
  ro:=λid i b b' hi hg hr hb=>h.ro id i b b' hi hg hr (l.get id b' hb)}
abbrev Env:=Nat->Value
def upd (A:Env)(d:Nat)(v:Value):Env:=λt=>bif Nat.beq t d then v else A t
def GF (A:Env)(d:Option Nat)(v:Value):Env:=match d with | some d=>upd A d v | none=>A
@[simp] theorem QjQ (A:Env) (d:Nat) (v:Value):upd A d v d=v:=by simp[upd]
theorem QhE (A:Env){d t:Nat}(v:Value)(h:t≠d):upd A d v t=A t:=by simp[upd,Kh,h]
def ev (A:Env):Operand->Value
 | .tmp t=>A t
 | .const v=>v
 | .global g=>.pointer (some ⟨g,0,none⟩)
 | .func f=>.func (.func f) #[] #[]
inductive Ex where
 | normal
 | exit (id:Nat)
 | goto (l:Nat)
 | ret
 | panic (v:Value)
def Qp4 (ρ:Ren):Ex->Exit->Prop
 | .normal,.normal=>True
 | .exit i,.exit j=>i=j
 | .goto i,.goto j=>i=j
 | .ret,.ret=>True
 | .panic v,.panic ch=>∃v',V ρ v v'∧ch=[{v:=v',recovered:=false}]
 | _,_=>False
structure EnvRel (ρ:Ren) (n:Nat) (A:Env) (a:Act):Prop where
 size:a.tmps.size=n
 tmps:∀t,t<n->V ρ (A t) (a.tmps.getD t undef)
theorem EnvRel.mono {ρ ρ':Ren}{n:Nat}{A:Env}{a:Act}(hs:Sub ρ ρ')(h:EnvRel ρ n A a):EnvRel ρ' n A a:=
 ⟨h.size,λt ht=>(h.tmps t ht).mono hs⟩
theorem EnvRel.put {ρ:Ren}{n:Nat}{A:Env}{a:Act}{d:Nat}{v v':Value}(h:EnvRel ρ n A a)(hd:d<n)(hv:V ρ v v'):EnvRel ρ n (upd A d v) (a.put (some d) v'):=by
 refine⟨by simp[Act.put,h.size],λt ht=>?_⟩
 by_cases e:t=d
 ·subst e;simp only[QjQ,Act.put];rw[N0,RC (by rw[h.size];exact hd)];exact hv
 ·rw[QhE A v e];have:=h.tmps t ht;simp only[Act.put];rw[N0,Bn (by omega),<- N0];exact this
def Qns (n:Nat):Option Nat->Bool
 | some d=>Nat.blt d n
 | none=>true
theorem EnvRel.putO {ρ:Ren}{n:Nat}{A:Env}{a:Act}{d:Option Nat}{v v':Value}(h:EnvRel ρ n A a)(hd:Qns n d=true)(hv:V ρ v v'):EnvRel ρ n (GF A d v) (a.put d v'):=by
 cases d with
 | none=>exact h
 | some d=>exact h.put (by simpa[Qns] using hd) hv
def ZB:Value->Bool
 | .agg xs=>xs.all plain
 | .tuple xs=>xs.all plain
 | .iface _ v=>plain v
 | v=>plain v
theorem V.closed {ρ:Ren}{v:Value}(h:ZB v=true):V ρ v v:=by
 have arr:∀xs:Array Value,xs.all plain=true->∀ (j:Nat) x x',xs[j]? = some x->xs[j]? = some x'->V ρ x x':=λxs hx j x x' h1 h2=>by
  rw[h1]at h2;cases h2;exact .same x (B1.1 hx x (BB h1))
 cases v<;>first
  | exact .same _ h
  | exact .agg _ _ rfl (arr _ h)
  | exact .tuple _ _ rfl (arr _ h)
  | exact .iface _ _ _ (.same _ h)
def Qe9 (P:Program)(n:Nat):Operand->Bool
 | .tmp t=>Nat.blt t n
 | .const v=>ZB v
 | .global g=>Nat.blt g P.globals.size
 | .func _=>true
theorem EnvRel.eval {P:Program}{ρ:Ren}{H:Qa}{w:World}{n:Nat}{A:Env}{a:Act}(hs:Sim P ρ H w)(h:EnvRel ρ n A a){x:Operand}(hx:Qe9 P n x=true):V ρ (ev A x) (a.eval x):=by
 cases x with
 | tmp t=>exact h.tmps t (by simpa[Qe9] using hx)
 | const v=>exact .closed hx
 | global g=>
  obtain⟨i,hi,e⟩:=hs.glob g (by simpa[Qe9] using hx);have:=V.ptr (ρ:=ρ) g 0 i hi;rw[e]at this;exact this
 | func f=>exact .func _ _ _ _ _ rfl rfl rfl (λj x x' h=>by simp at h) (λj x x' h=>by simp at h)
structure Rd where
 r:Option Nat
 b:Nat
 d:List Deferred
def fen (z:Rd):Fence:={Fence.wide with round:=z.r}
theorem QCv (z:Rd)(m:Nat):(fen z).room m:=λd h=>by simp[fen,Fence.wide]at h
def Qwx (d:Nat):Deferred:={target:=.collected d,args:=#[]}
structure Fr (z:Rd) (ρ:Ren) (H:Qa) (w:World) (a:Act):Prop where
 marks:∃ds:List Nat,a.defers=ds.map Qwx++z.d∧ds.Nodup∧∀d∈ds,z.b<=d∧Hid ρ H w d (.deferred (some []))
 round:∀l,z.r=some l->a.defers=[]∧∃rc,Hid ρ H w l (.loop rc)
 base:z.b<=w.heap.size
theorem Fr.step {z:Rd}{ρ ρ':Ren}{H H':Qa}{w w':World}{a a':Act}(h:Fr z ρ H w a)(hst:St ρ H w ρ' H' w')(ha:a'.defers=a.defers):Fr z ρ' H' w' a':=by
 obtain⟨ds,h1,h2,h3⟩:=h.marks;exact⟨⟨ds,ha.trans h1,h2,λd hd=>⟨(h3 d hd).1,(h3 d hd).2.step hst⟩⟩,λl hl=>by
  obtain⟨e,rc,hr⟩:=h.round l hl;exact⟨ha.trans e,rc,hr.step hst⟩,N8 h.base hst.size⟩
structure Qeg (z:Rd) (ρ:Ren) (H:Qa) (w:World) (n:Nat) (A:Env) (a:Act):Prop extends EnvRel ρ n A a where
 fr:Fr z ρ H w a
theorem Qeg.step {z:Rd}{ρ ρ':Ren}{H H':Qa}{w w':World}{n:Nat}{A:Env}{a:Act}(h:Qeg z ρ H w n A a)(hst:St ρ H w ρ' H' w'):Qeg z ρ' H' w' n A a:=
 ⟨h.toEnvRel.mono hst.mono,h.fr.step hst rfl⟩
theorem Qyw (a:Act)(d:Option Nat)(v:Value):(a.put d v).defers=a.defers:=by cases d<;>rfl
theorem Qeg.putO {z:Rd}{ρ:Ren}{H:Qa}{w:World}{n:Nat}{A:Env}{a:Act}{d:Option Nat}{v v':Value}(h:Qeg z ρ H w n A a)(hd:Qns n d=true)(hv:V ρ v v'):Qeg z ρ H w n (GF A d v) (a.put d v'):=
 ⟨h.toEnvRel.putO hd hv,h.fr.step (.refl _ _ _) (Qyw a d v')⟩
section
variable (P:Program) (n:Nat)
def Qo7 (z:Rd)(ρ:Ren)(H:Qa)(w:World)(Q:Ex->Env->Qa->Prop):Exit->Act->World->Prop:=
 λe a' w'=>∃e' ρ' A' H',Q e' A' H'∧St ρ H w ρ' H' w'∧Sim P ρ' H' w'∧Qeg z ρ' H' w' n A' a'∧Qp4 ρ' e' e
def AWp (c:Code)(Q:Ex->Env->Qa->Prop)(A:Env)(H:Qa):Prop:=
 ∀z ρ w a,Sim P ρ H w->Qeg z ρ H w n A a->c.wpIn (fen z) 0 P (Qo7 P n z ρ H w Q) a w
end
section
variable {P:Program} {n:Nat} {Q:Ex->Env->Qa->Prop} {A:Env} {H:Qa}
theorem Qo7.weaken {z:Rd}{ρ ρ1:Ren}{H1:Qa}{w w1:World}(h:St ρ H w ρ1 H1 w1){e:Exit}{a':Act}{w':World}(hl:Qo7 P n z ρ1 H1 w1 Q e a' w'):Qo7 P n z ρ H w Q e a' w':=by
 obtain⟨e',ρ',A',H',hq,hst,r⟩:=hl;exact⟨e',ρ',A',H',hq,h.trans hst,r⟩
theorem AWp.mono {c:Code}{Q':Ex->Env->Qa->Prop}(h:AWp P n c Q A H)(hq:∀e A H,Q e A H->Q' e A H):AWp P n c Q' A H:=
 λz ρ w a hs he=>FF (h z ρ w a hs he) (λe a' w' ⟨e',ρ',A',H',q,r⟩=>⟨e',ρ',A',H',hq _ _ _ q,r⟩)
theorem Qrz (h:Q .normal A H):AWp P n .skip Q A H:=
 λz ρ w a hs he=>wpIn_skip ⟨.normal,ρ,A,H,h,.refl _ _ _,hs,he,trivial⟩
theorem Qt8 {l:Nat}(h:Q .normal A H):AWp P n (.label l) Q A H:=
 λz ρ w a hs he=>wpIn_label ⟨.normal,ρ,A,H,h,.refl _ _ _,hs,he,trivial⟩
theorem Qwy {id:Nat}(h:Q (.exit id) A H):AWp P n (.exit id) Q A H:=
 λz ρ w a hs he=>wpIn_exit ⟨.exit id,ρ,A,H,h,.refl _ _ _,hs,he,rfl⟩
theorem Qwz {l:Nat}(h:Q (.goto l) A H):AWp P n (.goto l) Q A H:=
 λz ρ w a hs he=>wpIn_goto ⟨.goto l,ρ,A,H,h,.refl _ _ _,hs,he,rfl⟩
theorem QAm (h:Q .ret A H):AWp P n .ret Q A H:=
 λz ρ w a hs he=>wpIn_ret ⟨.ret,ρ,A,H,h,.refl _ _ _,hs,he,trivial⟩
def QGD (k:Env->Qa->Prop)(Q:Ex->Env->Qa->Prop):Ex->Env->Qa->Prop
 | .normal,A,H=>k A H
 | e,A,H=>Q e A H
theorem Qnt {x y:Code}(h:AWp P n x (QGD (AWp P n y Q) Q) A H):AWp P n (.seq x y) Q A H:=by
 intro z ρ w a hs he;refine wpIn_seq (FF (h z ρ w a hs he) ?_);rintro e a1 w1 ⟨e',ρ1,A1,H1,hq,hst,hs1,he1,hr⟩;cases e'<;>cases e<;>simp only[Qp4]at hr
 case normal.normal=>
  exact FF (hq z ρ1 w1 a1 hs1 he1) (λe a' w' hl=>Qo7.weaken hst hl)
 all_goals exact⟨_,ρ1,A1,H1,hq,hst,hs1,he1,by first | trivial | exact hr⟩
theorem Qnu {c:Operand}{x y:Code}{t:Bool}(hok:Qe9 P n c=true)(hc:ev A c=.bool t)(h:AWp P n (if t then x else y) Q A H):AWp P n (.cond c x y) Q A H:=by
 intro z ρ w a hs he;have hv:=he.eval hs hok;rw[hc]at hv;have hb:a.eval c=.bool t:=by
  generalize a.eval c=z at hv;cases hv with
  | same _ _=>rfl
 exact wpIn_cond hb (h z ρ w a hs he)
def Qnv (id:Nat)(Q:Ex->Env->Qa->Prop):Ex->Env->Qa->Prop
 | .exit id',A,H=>if id'=id then Q .normal A H else Q (.exit id') A H
 | e,A,H=>Q e A H
theorem Qec {id:Nat}{c:Code}(h:AWp P n c (Qnv id Q) A H):AWp P n (.block id c) Q A H:=by
 intro z ρ w a hs he;refine wpIn_block (FF (h z ρ w a hs he) ?_);rintro e a1 w1 ⟨e',ρ1,A1,H1,hq,hst,hs1,he1,hr⟩;cases e'<;>cases e<;>simp only[Qp4]at hr
 case exit.exit i j=>
  subst hr;simp only[Exit.inBlock,Qnv]at *;split at hq
  ·rename_i e;rw[Lc e];exact⟨.normal,ρ1,A1,H1,hq,hst,hs1,he1,trivial⟩
  ·rename_i e;rw[Le e];exact⟨.exit i,ρ1,A1,H1,hq,hst,hs1,he1,rfl⟩
 all_goals exact⟨_,ρ1,A1,H1,hq,hst,hs1,he1,by first | trivial | exact hr⟩
end
def Qp5 (ρ:Ren)(o:Oper)(A:Env)(a:Act):Prop:=∀x∈o.op.operands,V ρ (ev A x) (a.eval x)
section
variable (P:Program) (n:Nat)
def Qje (o:Oper):Bool:=Qns n o.dst&&o.op.operands.all (Qe9 P n)
def QC (o:Oper)(A:Env)(H:Qa)(v:Value)(H':Qa):Prop:=
 ∀ρ w a,Sim P ρ H w->Qp5 ρ o A a->∀ (K:Act->World->Prop) (Q:Exit->Act->World->Prop),
  (∀v' ρ' w',V ρ' v v'->St ρ H w ρ' H' w'->Sim P ρ' H' w'->K (a.put o.dst v') w')->∀z,o.wpIn (fen z) 0 P a w K Q
def Qmq (ops:Array Oper)(l:List Oper)(Q:Ex->Env->Qa->Prop)(A:Env)(H:Qa):Prop:=
 ∀z ρ w a,Sim P ρ H w->Qeg z ρ H w n A a->wpListIn (fen z) 0 P ops (Qo7 P n z ρ H w Q) l a w
end
theorem QjR {P:Program}{o:Oper}{a:Act}{w w':World}{x:Next}(h:(execOp a.eval o).run P w=.ok x w')(hd:∀d,x≠.defer d)(r:Option Nat):(o.semAt r a.eval).run P w=.ok x w':=by
 by_cases hop:∀c,o.op≠.defer c
 ·rw[Oper.semAt_eq _ _ _ hop];exact h
 ·exfalso;obtain⟨c,hc⟩:=Classical.not_forall.1 hop;have hc:o.op=.defer c:=Classical.not_not.1 hc;simp only[execOp,hc,LW]at h;cases hr:(resolve a.eval c o.type).run P w with
  | ok d w1=>
   rw[hr]at h;simp only[Lz,Nc,Result.ok.injEq]at h;exact hd d h.1.symm
  | halt y w1=>rw[hr]at h;simp[Result.andThen]at h
section
variable {P:Program} {n:Nat} {Q:Ex->Env->Qa->Prop} {A:Env} {H:Qa}
theorem QC.of_run {o:Oper}{v:Value}{H':Qa}
  (h:∀ρ w a,Sim P ρ H w->Qp5 ρ o A a->∃v' ρ' w',(execOp a.eval o).run P w=.ok (.value v') w'∧V ρ' v v'∧St ρ H w ρ' H' w'∧Sim P ρ' H' w'):QC P o A H v H':=by
 intro ρ w a hs he K Q hk;obtain⟨v',ρ',w',hr,hv,hst,hs'⟩:=h ρ w a hs he;intro z;refine⟨λ_ _=>trivial,?_⟩;rw[QjR hr (by simp) _];exact hk v' ρ' w' hv hst hs'
theorem QC.of_skip {o:Oper}{H':Qa}
  (h:∀ρ w a,Sim P ρ H w->Qp5 ρ o A a->∃ρ' w',(execOp a.eval o).run P w=.ok .skip w'∧St ρ H w ρ' H' w'∧Sim P ρ' H' w'):QC P o A H undef H':=by
 intro ρ w a hs he K Q hk;obtain⟨ρ',w',hr,hst,hs'⟩:=h ρ w a hs he;intro z;refine⟨λ_ _=>trivial,?_⟩;rw[QjR hr (by simp) _];exact hk undef ρ' w' (.closed (by simp[undef,ZB])) hst hs'
theorem QC.pure_ {o:Oper}{v:Value}
  (h:∀ρ w a,Sim P ρ H w->Qp5 ρ o A a->∃v',(execOp a.eval o).run P w=.ok (.value v') w∧V ρ v v'):QC P o A H v H:=
 .of_run λρ w a hs he=>by
  obtain⟨v',hr,hv⟩:=h ρ w a hs he;exact⟨v',ρ,w,hr,hv,.refl _ _ _,hs⟩
theorem EnvRel.op {ρ:Ren}{w:World}{a:Act}(hs:Sim P ρ H w)(he:EnvRel ρ n A a){o:Oper}(ho:Qje P n o=true):Qp5 ρ o A a:=λx hx=>by
 simp only[Qje,Lm]at ho;exact he.eval hs (B1.1 ho.2 x hx)
theorem QjS {o:Oper}(ho:Qje P n o=true):Qns n o.dst=true:=by simp only[Qje,Lm]at ho;exact ho.1
theorem QwA {ops:Array Oper}(h:Q .normal A H):Qmq P n ops [] Q A H:=
 λz ρ w a hs he=>⟨.normal,ρ,A,H,h,.refl _ _ _,hs,he,trivial⟩
theorem QwB {z:Rd}{o:Oper}{a:Act}{K K':Act->World->Prop}{Q1 Q2:Exit->Act->World->Prop}(hk:∀a w,K a w->K' a w)(hq:∀e a w,Q1 e a w->Q2 e a w){r:Result Next}
  (h:o.uponIn (fen z) 0 P a K Q1 r):o.uponIn (fen z) 0 P a K' Q2 r:=by
 cases r with
 | ok nx w1=>
  cases nx<;>simp only[Oper.uponIn]at h ⊢<;>first
   | exact hk _ _ h
   | exact⟨h.1,CallsIn.mono h.2 (λe w2 he=>by
     cases e with
     | returned v=>exact hk _ _ he
     | panicked ch=>exact hq _ _ _ he
     | outgrown=>obtain⟨a0,w0,hh⟩:=he;exact⟨a0,w0,hq _ _ _ hh⟩)⟩
   | exact⟨h.1,RowsIn.mono h.2 (λv w2 he=>hk _ _ he)⟩
   | exact⟨h.1,RoundIn.mono h.2 (λe w2 he=>by
     cases e with
     | returned v=>exact hk _ _ he
     | panicked ch=>exact hq _ _ _ he
     | outgrown=>obtain⟨a0,w0,hh⟩:=he;exact⟨a0,w0,hq _ _ _ hh⟩)⟩
 | halt x w1=>cases x<;>simp only[Oper.uponIn]at h ⊢<;>exact hq _ _ _ h
theorem Qco {z:Rd}{ops:Array Oper}{Q1 Q2:Exit->Act->World->Prop}(hq:∀e a w,Q1 e a w->Q2 e a w):∀ (l:List Oper) (a:Act) (w:World),wpListIn (fen z) 0 P ops Q1 l a w->wpListIn (fen z) 0 P ops Q2 l a w
 | [],a,w,h=>hq _ _ _ h
 | o::rest,a,w,h=>by
  unfold wpListIn at h ⊢;split at h
  ·rename_i hw;rw[Lc hw];exact⟨h.1,QwB (Qco hq rest) hq h.2⟩
  ·rename_i hw;rw[Le hw];exact⟨h.1,Qco hq rest _ _ h.2⟩
theorem Qp6 {z:Rd}{ops:Array Oper}{rest:List Oper}{ρ ρ':Ren}{H H':Qa}{w w':World}{a:Act}{w0:World}(hst:St ρ H w ρ' H' w')
  (h:wpListIn (fen z) 0 P ops (Qo7 P n z ρ' H' w' Q) rest a w0):wpListIn (fen z) 0 P ops (Qo7 P n z ρ H w Q) rest a w0:=
 Qco (λe a' w1 hl=>Qo7.weaken hst hl) rest a w0 h
theorem Qt9 {ops:Array Oper}{o:Oper}{rest:List Oper}{v:Value}{H':Qa}(hg:o.guard=none)(ho:QC P o A H v H')(hd:Qje P n o=true)
  (h:Qmq P n ops rest Q (GF A o.dst v) H'):Qmq P n ops (o::rest) Q A H:=by
 intro z ρ w a hs he;refine wpListIn_plain hg λK hK=>?_;refine ho ρ w a hs (he.op hs hd) K _ (λv' ρ' w' hv hst hs'=>?_) z;have:=h z ρ' w' (a.put o.dst v') hs' ((he.step hst).putO (QjS hd) hv);exact hK _ _ (Qp6 hst this)
def Qcp (ops:Array Oper)(j:Nat):Option Nat:=(ops[j]?).bind (·.dst)
theorem QrA {id:Nat}{l:List Oper}(h:Qmq P n l.toArray l Q A H):AWp P n (.region id l.toArray false) Q A H:=
 λz ρ w a hs he=>wpIn_region_lit (h z ρ w a hs he)
/-! ### New blocks -/
def ext (ρ:Ren)(id:Nat)(i:Kg):Ren:=λx=>if x=id then some i else ρ x
theorem W9 (ρ:Ren)(id:Nat)(i:Kg):ext ρ id i id=some i:=by simp[ext]
theorem Jg (ρ:Ren){id x:Nat}(i:Kg)(h:x≠id):ext ρ id i x=ρ x:=by simp[ext,h]
theorem Qfa {ρ:Ren}{id:Nat}(i:Kg)(h:ρ id=none):Sub ρ (ext ρ id i):=λx j hx=>by
 by_cases e:x=id
 ·subst e;rw[h]at hx;cases hx
 ·rw[Jg ρ i e];exact hx
theorem Sim.none_next {ρ:Ren}{w:World}(hs:Sim P ρ H w):ρ H.next=none:=by
 cases h:ρ H.next with
 | none=>rfl
 | some i=>have:=hs.dom _ _ h;omega
theorem QjT (w:World)(o:Obj){b:Nat}(h:b<w.heap.size):(w.alloc o).heap[b]? = w.heap[b]? := by
 simp only[World.alloc,Array.getElem?_push];rw[Le (by omega)]
theorem Sim.push {ρ:Ren}{w:World}(hs:Sim P ρ H w)(o:Obj)(b:Blk)(i:Kg)(hi:i.at_.block=w.heap.size)
  (hb:Xf P (ext ρ H.next i) i (w.alloc o) b):St ρ H w (ext ρ H.next i) (H.push b) (w.alloc o)∧Sim P (ext ρ H.next i) (H.push b) (w.alloc o):=by
 have hn:=hs.none_next;have hsub:=Qfa i hn;have hlt:∀id j,ρ id=some j->id≠H.next:=λid j h e=>by rw[e,hn]at h;cases h
 refine⟨⟨hsub,by simp,λid j h h'=>?_,λid j b1 b' h h1 h2 h3=>?_,λid j h h'=>?_,rfl,rfl,rfl,by simp,λbk hbk _=>QjT w o hbk⟩,⟨λid j h=>?_,λid bl j h h'=>?_,λid1 id2 b1 b2 i1 i2 h1 h2 h3 h4 h5 h6=>?_,λg hg=>?_⟩⟩
 ·rw[Qd,Le (hlt id j h)];exact h'
 ·rw[Qd,Le (hlt id j h),h1]at h3;cases h3;exact h2
 ·by_cases e:id=H.next
  ·subst e;rw[W9]at h;cases h;exact⟨Lb _,.inl (by rw[hi];exact Lb _)⟩
  ·rw[Jg ρ i e,h']at h;cases h
 ·by_cases e:id=H.next
  ·subst e;simp
  ·rw[Jg ρ i e]at h;have:=hs.dom _ _ h;simp;omega
 ·by_cases e:id=H.next
  ·subst e;rw[W9]at h';cases h';rw[Qd,Lc rfl]at h;cases h;exact hb
  ·rw[Jg ρ i e]at h';rw[Qd,Le e]at h;have hr:=hs.live id bl j h h';exact hr.mono hsub (QjT w o hr.lt)
 ·by_cases e1:id1=H.next
  ·by_cases e2:id2=H.next
   ·exact absurd (e1.trans e2.symm) h6
   ·rw[Jg ρ i e2]at h4;rw[Qd,Le e2]at h2;subst e1;rw[W9]at h3;cases h3;have:=(hs.live id2 b2 i2 h2 h4).lt;omega
  ·rw[Jg ρ i e1]at h3;rw[Qd,Le e1]at h1
   by_cases e2:id2=H.next
   ·subst e2;rw[W9]at h4;cases h4;have:=(hs.live id1 b1 i1 h1 h3).lt;omega
   ·rw[Jg ρ i e2]at h4;rw[Qd,Le e2]at h2;exact hs.sep id1 id2 b1 b2 i1 i2 h1 h2 h3 h4 h5 h6
 ·obtain⟨j,hj,e⟩:=hs.glob g hg;exact⟨j,hsub _ _ hj,e⟩
theorem Xf.new {ρ:Ren}{w:World}{c:List Value}{c':Array Value}{e:TypeId}(hc:VL ρ c c'.toList):
  Xf P ρ ⟨⟨w.heap.size,0,none⟩,c.length,P.cellsOf e⟩ (w.alloc (.cells c' e)) (.cells c e false):=by
 have hl:=hc.1;refine⟨c',(0,0),heap_alloc_new w _,⟨rfl,rfl⟩,by simpa using hl,Lb _,λj v hj=>?_,λo _ _=>by simp,λo v h1 h2=>?_,rfl⟩
 ·obtain⟨v',h1,h2⟩:=hc.get hj;exact⟨v',by simpa using h1,h2⟩
 ·have:=(Nj.1 h2).1;simp at h1 hl;omega
theorem Sim.pushCells {ρ:Ren}{w:World}(hs:Sim P ρ H w){c:List Value}{c':Array Value}(e:TypeId)(hc:VL ρ c c'.toList):
  let i:Kg:=⟨⟨w.heap.size,0,none⟩,c.length,P.cellsOf e⟩
  St ρ H w (ext ρ H.next i) (H.push (.cells c e false)) (w.alloc (.cells c' e))∧Sim P (ext ρ H.next i) (H.push (.cells c e false)) (w.alloc (.cells c' e)):=
 hs.push _ _ _ rfl (Xf.new (hc.mono (Qfa _ hs.none_next)))
theorem V.cells {ρ:Ren}{v v':Value}(h:V ρ v v'):VL ρ v.cells.toList v'.cells.toList:=by
 have one:∀ {x x':Value},V ρ x x'->VL ρ [x] [x']:=λh=>.cons h (.nil ρ);cases h with
 | same v hp=>cases v<;>simp[plain]at hp<;>exact one (.same _ (by simp[plain, *]))
 | agg xs xs' h1 h2=>exact⟨by simpa[Value.cells] using h1,λj x x' e e'=>h2 j x x' (by simpa[Value.cells] using e) (by simpa[Value.cells] using e')⟩
 | ptr id off i h=>exact one (.ptr id off i h)
 | slice id off len cap cap' i a' h h1 h2 h0 h3 h4=>exact one (.slice id off len cap cap' i a' h h1 h2 h0 h3 h4)
 | map id i h=>exact one (.map id i h)
 | func fn xs ys xs' ys' hn h1 h2 h3 h4=>exact one (.func fn xs ys xs' ys' hn h1 h2 h3 h4)
 | yield l i h=>exact one (.yield l i h)
 | iface t v v' h=>exact one (.iface t v v' h)
 | tuple xs xs' h1 h2=>exact one (.tuple xs xs' h1 h2)
theorem V.oneCell {ρ:Ren}{v v':Value}(h:V ρ v v'):v'.oneCell'=v.oneCell':=by cases h<;>rfl
theorem VL.closed {ρ:Ren}{l:List Value}(h:l.all plain=true):VL ρ l l:=
 ⟨rfl,λj x x' a b=>by rw[a]at b;cases b;exact .same x (Li.1 h x (Ln a))⟩
/-! ### Loads -/
def GG:TypeDesc->Bool
 | .struct _ | .array _ _=>true
 | _=>false
def ZC (P:Program)(t:TypeId)(a:Addr)(H:Qa):Option Value:=
 match P.underlying t,P.info? t,H.get a.block with
 | some d,some inf,some (.cells c _ _)=>
  if GG d then(if a.off+inf.size<=c.length then some (.agg ((c.drop a.off).take inf.size).toArray) else none)
  else c[a.off]?
 | _,_,_=>none
theorem Xf.cellAt {ρ:Ren}{i:Kg}{w:World}{c:List Value}{e:TypeId}{ro:Bool}(h:Xf P ρ i w (.cells c e ro)){j:Nat}{v:Value}(hj:c[j]? = some v):
  ∃v',w.cell? (i.at_.add j)=some v'∧V ρ v v':=by
 cases ro with
 | true=>exact h.2 j v hj
 | false=>
  obtain⟨cur,fz,hh,h1,h2,h3,h4,_⟩:=h;obtain⟨v',ha,hv⟩:=h4 j v hj;refine⟨v',?_,hv⟩;rw[Qnr h1.1,cell_of_row w _ _ cur e fz hh];exact ha
theorem Xf.cellsAt {ρ:Ren}{i:Kg}{w:World}{c:List Value}{e:TypeId}{ro:Bool}(h:Xf P ρ i w (.cells c e ro))(off k:Nat)(hk:off+k<=c.length):
  ∃cs:List Value,cs.length=k∧VL ρ ((c.drop off).take k) cs∧(∀ (j:Nat) v,cs[j]? = some v->w.cell? ((i.at_.add off).add j)=some v):=by
 induction k generalizing off with
 | zero=>exact⟨[],rfl,by simpa using VL.nil ρ,λj v h=>by simp at h⟩
 | succ k ih=>
  have hlt:off<c.length:=by omega
  obtain⟨cs,hl,hvl,hc⟩:=ih (off+1) (by omega);obtain⟨v',h1,h2⟩:=h.cellAt (La hlt);refine⟨v'::cs,by simp[hl],?_,λj v hj=>?_⟩
  ·rw[Nh hlt,List.take_succ_cons];exact .cons h2 hvl
  ·cases j with
   | zero=>simp at hj;subst hj;rw[show(i.at_.add off).add 0=i.at_.add off by rw[Gi];rfl];exact h1
   | succ j=>
    have:=hc j v (by simpa using hj);rw[Gi]at this ⊢;rw[show off+(j+1)=off+1+j by omega];exact this
theorem Qo8 {ρ:Ren}{w:World}{t:TypeId}{id off:Nat}{v:Value}{i:Kg}{c:List Value}{e:TypeId}{ro:Bool}(hi:ρ id=some i)(hg:H.get id=some (.cells c e ro))(hb:Xf P ρ i w (.cells c e ro))
  (hl:ZC P t ⟨id,off,none⟩ H=some v):∃v',(loadVar t (i.at_.add off)).run P w=.ok v' w∧V ρ v v':=by
 unfold ZC at hl;cases hu:P.underlying t with
 | none=>simp[hu]at hl
 | some d=>
  cases hf:P.info? t with
  | none=>simp[hu,hf]at hl
  | some inf=>
   simp only[hu,hf,hg]at hl;have hagg:(isAgg t).run P w=.ok (GG d) w:=by
    simp only[isAgg,LW,LZ hu,Lz];cases d<;>rfl
   split at hl
   ·rename_i hd;split at hl
    ·rename_i hlen;obtain⟨cs,h1,h2,h3⟩:=hb.cellsAt off inf.size hlen;cases hl;refine⟨.agg cs.toArray,?_,.agg _ _ (by simpa using h2.1) (λj x x' a b=>h2.2 j x x' (by simpa using a) (by simpa using b))⟩;have:=run_loadCells_list (P:=P) w (i.at_.add off) cs h3;rw[h1]at this;simp only[loadVar,LW,hagg,Lz,hd,N3,sizeOf,typeInfo,DJ,hf,Nc,this]
    ·cases hl
   ·rename_i hd;obtain⟨v',h1,h2⟩:=hb.cellAt hl;refine⟨v',?_,h2⟩;simp only[loadVar,LW,hagg,Lz,hd,LV,LN,run_load,h1]
end
section
variable {P:Program} {n:Nat} {Q:Ex->Env->Qa->Prop} {A:Env} {H:Qa}
structure Qcq (w w':World) (g:Nat):Prop where
 other:∀b,b≠g->w'.heap[b]? = w.heap[b]?
 size:w'.heap.size=w.heap.size
 os:w'.os=w.os
 tape:w'.tape=w.tape
 output:w'.output=w.output
theorem Qcq.refl (w:World)(g:Nat):Qcq w w g:=⟨λ_ _=>rfl,rfl,rfl,rfl,rfl⟩
theorem Qcq.trans {w w1 w2:World}{g:Nat}(a:Qcq w w1 g)(b:Qcq w1 w2 g):Qcq w w2 g:=
 ⟨λk hk=>(b.other k hk).trans (a.other k hk),b.size.trans a.size,b.os.trans a.os,b.tape.trans a.tape,b.output.trans a.output⟩
theorem Sim.setBlk {ρ:Ren}{w w':World}(hs:Sim P ρ H w){id:Nat}{i:Kg}{b b':Blk}(hi:ρ id=some i)(hg:H.get id=some b)(hro:b.ro=false)
  (hw:Qcq w w' i.at_.block) (hb:Xf P ρ i w' b'):St ρ H w ρ (H.set id b') w'∧Sim P ρ (H.set id b') w':=by
 refine⟨⟨.refl ρ,Lb _,λx j h h'=>?_,λx j b1 b2 h h1 h2 h3=>?_,λx j h h'=>(by rw[h']at h;cases h),hw.os,hw.tape,hw.output,(by rw[hw.size];exact Lb _),λk hk hn=>?_⟩,⟨λx j h=>hs.dom x j h,λx bl j h h'=>?_,λid1 id2 b1 b2 i1 i2 h1 h2 h3 h4 h5 h6=>?_,hs.glob⟩⟩
 ·rw[Qq];by_cases e:x=id
  ·subst e;rw[hg]at h';cases h'
  ·rw[Le e];exact h'
 ·rw[Qq]at h3
  by_cases e:x=id
  ·subst e;rw[hg]at h1;cases h1;rw[hro]at h2;cases h2
  ·rw[Le e,h1]at h3;cases h3;exact h2
 ·exact hw.other k (λe=>hn id i b hi hg hro e.symm)
 ·rw[Qq]at h
  by_cases e:x=id
  ·subst e;rw[Lc rfl]at h;cases h;rw[hi]at h';cases h';exact hb
  ·rw[Le e]at h;refine(hs.live x bl j h h').mono (.refl ρ) (hw.other _ ?_);exact λe'=>hs.sep id x b bl i j hg h hi h' hro (λh=>e h.symm) e'.symm
 ·rw[Qq]at h1 h2
  by_cases e1:id1=id
  ·subst e1;rw[Le (λh=>h6 h.symm)]at h2;exact hs.sep id1 id2 b b2 i1 i2 hg h2 h3 h4 hro h6
  ·rw[Le e1]at h1
   by_cases e2:id2=id
   ·subst e2;exact hs.sep id1 id2 b1 b i1 i2 h1 hg h3 h4 h5 h6
   ·rw[Le e2]at h2;exact hs.sep id1 id2 b1 b2 i1 i2 h1 h2 h3 h4 h5 h6
def splice (c:List Value)(p:Nat)(vs:List Value):List Value:=c.take p++(vs++c.drop (p+vs.length))
theorem QlT {c:List Value}{p:Nat}{vs:List Value}(h:p+vs.length<=c.length):(splice c p vs).length=c.length:=by
 simp[splice];omega
theorem Qmr {c:List Value}{p:Nat}{vs:List Value}(h:p+vs.length<=c.length)(o:Nat):(splice c p vs)[o]? = if p<=o∧o<p+vs.length then vs[o - p]? else c[o]? := by
 unfold splice
 by_cases h1:o<p
 ·rw[LY (by simp;omega),Le (by omega),Nl,Lc h1]
 ·rw[LR (by simp;omega)];simp only[Sb,BC (show p<=c.length by omega)]
  by_cases h2:o<p+vs.length
  ·rw[LY (by omega),Lc ⟨by omega,h2⟩]
  ·rw[LR (by omega),Le (by omega),Nk];congr 1;omega
theorem Qtj (w:World)(g o:Nat)(cur:Array Value)(e:TypeId)(fz:Nat×Nat)(v:Value)(hg:w.heap[g]? = some (.cells cur e fz)):
  (w.setCell ⟨g,o,none⟩ v).heap[g]? = some (.cells (cur.setIfInBounds o v) e fz)∧Qcq w (w.setCell ⟨g,o,none⟩ v) g:=by
 refine⟨by simp[World.setCell,RY,hg],⟨λb hb=>?_,by simp,rfl,rfl,rfl⟩⟩;simp only[World.setCell,RY];rw[Le (λe=>hb e.symm)]
theorem Qeh (P:Program)(g o:Nat)(e:TypeId)(fz:Nat×Nat):∀ (vs:List Value) (i:Nat) (cur:Array Value) (w:World),w.heap[g]? = some (.cells cur e fz)->o+i+vs.length<=cur.size->
  (∀k,o+i<=k->k<o+i+vs.length->¬ (fz.1<=k∧k<fz.2))->(∀v∈vs,v.oneCell'=true)->
  ∃w' cur',(storeCells ⟨g,o,none⟩ vs i).run P w=.ok () w'∧w'.heap[g]? = some (.cells cur' e fz)∧Qcq w w' g∧cur'.size=cur.size∧
   ∀k,cur'[k]? = if o+i<=k∧k<o+i+vs.length then vs[k - (o+i)]? else cur[k]?
 | [],i,cur,w,hg,_,_,_=>⟨w,cur,rfl,hg,.refl _ _,rfl,λk=>by rw[Le (by simp)]⟩
 | v::rest,i,cur,w,hg,hl,hf,h1=>by
  simp only[Lo]at hl hf;have hlt:o+i<cur.size:=by omega
  have hcell:w.cell? ⟨g,o+i,none⟩=some cur[o+i]:=by
   rw[cell_of_row w g (o+i) cur e fz hg,Ng hlt]
  have hfz:w.frozen? ⟨g,o+i,none⟩=false:=by
   simp only[World.frozen?,hg];have:=hf (o+i) (by omega) (by omega);simp only[BG,NY]
   by_cases hh:fz.1<=o+i
   ·right;exact λhx=>this ⟨hh,hx⟩
   ·left;exact hh
  have hst:(store ((⟨g,o,none⟩:Addr).add i) v).run P w=.ok () (w.setCell ⟨g,o+i,none⟩ v):=by
   rw[Qe8,run_store P w _ v _ (h1 v (by simp)),hcell];simp[hfz]
  obtain⟨hg1,hone⟩:=Qtj w g (o+i) cur e fz v hg;obtain⟨w',cur',hr,hg',hone',hsz,hk⟩:=Qeh P g o e fz rest (i+1) (cur.setIfInBounds (o+i) v) (w.setCell ⟨g,o+i,none⟩ v) hg1 (by simp;omega)
   (λk hk1 hk2=>hf k (by omega) (by omega)) (λu hu=>h1 u (by simp[hu]))
  refine⟨w',cur',?_,hg',hone.trans hone',by simpa using hsz,λk=>?_⟩
  ·simp only[storeCells,LW,hst,Lz];exact hr
  ·rw[hk];simp only[Lo]
   by_cases hk0:k=o+i
   ·subst hk0;rw[Le (by omega),Lc ⟨Lb _,by omega⟩];simp[hlt]
   ·by_cases hin:o+(i+1)<=k∧k<o+(i+1)+rest.length
    ·rw[Lc hin,Lc ⟨by omega,by omega⟩];rw[show k - (o+i)=(k - (o+(i+1)))+1 by omega];simp
    ·rw[Le hin,Le (by omega)];rw[Bn (by omega)]
theorem Xf.storeList {ρ:Ren}{i:Kg}{w:World}{c:List Value}{e:TypeId}(hb:Xf P ρ i w (.cells c e false)){off:Nat}{vs vs':List Value}(hvs:VL ρ vs vs')(hl:off+vs.length<=c.length)
  (h1:∀v∈vs,v.oneCell'=true):∃w',(storeCells (i.at_.add off) vs').run P w=.ok () w'∧Qcq w w' i.at_.block∧Xf P ρ i w' (.cells (splice c off vs) e false):=by
 obtain⟨cur,fz,hh,hsp,hsz,hcl,hcell,hfz,hspare,hes⟩:=hb;have hlen:=hvs.1;have h1':∀v∈vs',v.oneCell'=true:=λv' hv'=>by
  obtain⟨j,hj⟩:=BP hv';have hjl:j<vs.length:=by rw[hlen];exact(Lk.1 hj).1
  have:=hvs.2 j _ v' (La hjl) hj;rw[this.oneCell];exact h1 _ (Nb hjl)
 rw[Qnr hsp.1];obtain⟨w',cur',hr,hg',hone,hsz',hk⟩:=Qeh P i.at_.block (i.at_.off+off) e fz vs' 0 cur w hh (by omega) (λk hk1 hk2=>hfz k (by omega) (by omega)) h1';simp only[N9]at hk;refine⟨w',hr,hone,cur',fz,hg',hsp,by rw[hsz'];exact hsz,by rw[QlT hl];exact hcl,λj v hj=>?_,λo ho1 ho2=>hfz o ho1 (by rw[hsz']at ho2;exact ho2),λo v ho hov=>?_,hes⟩
 ·rw[Qmr hl]at hj;rw[hk]
  by_cases hin:off<=j∧j<off+vs.length
  ·rw[Lc hin]at hj;rw[Lc ⟨by omega,by omega⟩];rw[show i.at_.off+j - (i.at_.off+off)=j - off by omega];exact hvs.get hj
  ·rw[Le hin]at hj;rw[Le (by omega)];exact hcell j v hj
 ·rw[QlT hl]at ho;rw[hk,Le (by omega)]at hov;exact hspare o v ho hov
def Qms (P:Program)(t:TypeId)(a:Addr)(v:Value)(H:Qa):Option Qa:=
 match P.info? t,H.get a.block with
 | some inf,some (.cells c e false)=>
  if v.cells.toList.length=inf.size∧a.off+v.cells.toList.length<=c.length∧v.cells.toList.all (·.oneCell')=true then some (H.set a.block (.cells (splice c a.off v.cells.toList) e false)) else none
 | _,_=>none
theorem Qyx {ρ:Ren}{w:World}(hs:Sim P ρ H w){t:TypeId}{id off:Nat}{v v':Value}{i:Kg}{H':Qa}(hi:ρ id=some i)(hv:V ρ v v')(hst:Qms P t ⟨id,off,none⟩ v H=some H'):
  ∃w',(storeVar t (i.at_.add off) v').run P w=.ok () w'∧St ρ H w ρ H' w'∧Sim P ρ H' w':=by
 unfold Qms at hst;cases hf:P.info? t with
 | none=>simp[hf]at hst
 | some inf=>
  simp only[hf]at hst;split at hst
  ·rename_i inf' c e he hg;cases he;split at hst
   ·rename_i hc;obtain⟨hc1,hc2,hc3⟩:=hc;cases hst;have hvl:=hv.cells;obtain⟨w',hr,hone,hb⟩:=(hs.live id _ i hg hi).storeList hvl hc2 (λu hu=>Li.1 hc3 u hu);refine⟨w',?_,hs.setBlk hi hg rfl hone hb⟩;have hsize:v'.cells.size=inf.size:=by have:=hvl.1;simp at this hc1;omega
    simp only[storeVar,LW,sizeOf,typeInfo,DJ,Lz,hf,Nc,hsize,Da,BE,LN];exact hr
   ·cases hst
  ·cases hst
end
theorem V.plain_eq {ρ:Ren}{v z:Value}(h:V ρ v z)(hp:plain v=true):z=v:=by
 cases h<;>first | rfl | (simp[plain]at hp)
section
variable {P:Program} {n:Nat} {A:Env} {H:Qa} {d:Option Nat} {ty:TypeId} {pos:String} {af:Array Edge} {g:Option (Nat×Bool)}
theorem VW {ρ:Ren}{a:Act}{x:Operand}{v:Value}(h:V ρ (ev A x) (a.eval x))(ex:ev A x=v)(hp:plain v=true):a.eval x=v:=by
 rw[ex]at h;exact h.plain_eq hp
theorem QEi {x:Operand}:QC P ⟨d,.move x,ty,pos,af,g⟩ A H (ev A x) H:=
 .pure_ λρ w a hs he=>⟨a.eval x,by simp only[execOp,Nc],he x (by simp[Op.operands])⟩
theorem QBg {x:Operand}:QC P ⟨d,.assign x,ty,pos,af,g⟩ A H (ev A x) H:=
 .pure_ λρ w a hs he=>⟨a.eval x,by simp only[execOp,Nc],he x (by simp[Op.operands])⟩
theorem QEj {c x y:Operand}{t:Bool}(ec:ev A c=.bool t):
  QC P ⟨d,.pick c x y,ty,pos,af,g⟩ A H (if t then ev A x else ev A y) H:=
 .pure_ λρ w a hs he=>by
  have e:=VW (he c (by simp[Op.operands])) ec rfl;refine⟨if t then a.eval x else a.eval y,?_,?_⟩
  ·simp only[execOp,e,asBool,pure_bind,Nc]
  ·cases t
   ·exact he y (by simp[Op.operands])
   ·exact he x (by simp[Op.operands])
def QhF:Value->Bool
 | .pointer none | .nilIface | .nilFunc=>false
 | .func (.method _) _ _=>false
 | _=>true
theorem QwC {x:Operand}(hn:QhF (ev A x)=true):QC P ⟨d,.nilCheck x,ty,pos,af,g⟩ A H (ev A x) H:=
 .pure_ λρ w a hs he=>by
  have hv:=he x (by simp[Op.operands]);refine⟨a.eval x,?_,hv⟩;simp only[execOp];generalize ev A x=v at hv hn;generalize a.eval x=z at hv;cases hv with
  | same v hp=>cases v<;>simp[plain,QhF]at hp hn<;>first | rfl | (rename_i p;cases p<;>simp_all)
  | func fn xs ys xs' ys' h1 h2 h3 h4 h5=>cases fn<;>simp[QhF]at hn<;>rfl
  | _=>rfl
/-! ### Integers -/
def Jh (op:BinOp)(k:IntKind)(a b:Int):Option Value:=
 match op with
 | .add=>some (.int k (k.wrap (a+b)))
 | .sub=>some (.int k (k.wrap (a - b)))
 | .mul=>some (.int k (k.wrap (a * b)))
 | .quo=>if b=0 then none else some (.int k (k.wrap (a.tdiv b)))
 | .rem=>if b=0 then none else some (.int k (a.tmod b))
 | .and=>some (.int k (k.wrap (BitVec.ofInt k.bits a &&& BitVec.ofInt k.bits b).toNat))
 | .or=>some (.int k (k.wrap (BitVec.ofInt k.bits a ||| BitVec.ofInt k.bits b).toNat))
 | .xor=>some (.int k (k.wrap (BitVec.ofInt k.bits a ^^^ BitVec.ofInt k.bits b).toNat))
 | .andNot=>some (.int k (k.wrap (BitVec.ofInt k.bits a &&& ~~~BitVec.ofInt k.bits b).toNat))
 | .eql=>some (.bool (a==b))
 | .neq=>some (.bool (a != b))
 | .lss=>some (.bool (decide (a<b)))
 | .leq=>some (.bool (decide (a<=b)))
 | .gtr=>some (.bool (decide (a>b)))
 | .geq=>some (.bool (decide (a>=b)))
 | _=>none
theorem Qyy {op:BinOp}{k:IntKind}{a b:Int}{v:Value}(t:TypeId)(w:World)(h:Jh op k a b=some v):(binOp op t (.int k a) (.int k b)).run P w=.ok v w∧plain v=true:=by
  cases op<;>simp only[Jh,reduceCtorEq]at h<;>simp only[binOp,Da,BE,LN]<;>first
    | (cases h;exact⟨rfl,rfl⟩)
    | (split at h
       · cases h
       · cases h;rename_i hb;simp only[Op.intDiv,hb,LN];exact⟨rfl,rfl⟩)
theorem Qiz (op:BinOp)(t:TypeId)(x y:Operand)(k k':IntKind)(a b:Int)(w:World):(eqGuard op t x y (.int k a) (.int k' b)).run P w=.ok () w:=by
 cases op<;>rfl
theorem QGE {op:BinOp}{t t':TypeId}{x y:Operand}{k:IntKind}{a b:Int}{v:Value}(ex:ev A x=.int k a)(ey:ev A y=.int k b)(h:Jh op k a b=some v):
  QC P ⟨d,.binOp op t x y t',ty,pos,af,g⟩ A H v H:=
 .pure_ λρ w s hs he=>by
  have e1:=VW (he x (by simp[Op.operands])) ex rfl;have e2:=VW (he y (by simp[Op.operands])) ey rfl;obtain⟨h1,h2⟩:=Qyy (P:=P) t w h;refine⟨v,?_,.same v h2⟩;simp only[execOp,e1,e2,LW,Qiz,Lz,h1,Nc]
def QcR (op:BinOp)(k:IntKind)(a b:Int):Option Value:=
 if b<0 then none else
 match op with
 | .shl=>some (.int k (k.wrap (a * 2 ^ (min b.toNat k.bits))))
 | .shr=>some (.int k (a.fdiv (2 ^ (min b.toNat k.bits))))
 | _=>none
theorem QwD {op:BinOp}{t t':TypeId}{x y:Operand}{k k':IntKind}{a b:Int}{v:Value}(ex:ev A x=.int k a)(ey:ev A y=.int k' b)(h:QcR op k a b=some v):
  QC P ⟨d,.binOp op t x y t',ty,pos,af,g⟩ A H v H:=
 .pure_ λρ w s hs he=>by
  have e1:=VW (he x (by simp[Op.operands])) ex rfl;have e2:=VW (he y (by simp[Op.operands])) ey rfl;have hr:(binOp op t (.int k a) (.int k' b)).run P w=.ok v w∧plain v=true:=by
   unfold QcR at h;split at h
   ·cases h
   ·rename_i hb;cases op<;>simp only[reduceCtorEq]at h<;>(cases h;simp only[binOp,Op.shift,hb,LN];exact⟨rfl,rfl⟩)
  refine⟨v,?_,.same v hr.2⟩;simp only[execOp,e1,e2,LW,Qiz,Lz,hr.1,Nc]
def bl (s:ByteArray):List UInt8:=s.data.toList
def mkS (l:List UInt8):ByteArray:=⟨⟨l⟩⟩
@[simp] theorem Qyz (l:List UInt8):bl (mkS l)=l:=rfl
@[simp] theorem QrB (s:ByteArray):mkS (bl s)=s:=rfl
theorem Qnw (s:ByteArray):(bl s).length=s.size:=rfl
def Qei (op:BinOp)(x y:List UInt8):Option Value:=
 match op with
 | .add=>if x.length+y.length<=9223372036854775807 then some (.string (mkS (x++y))) else none
 | .eql=>some (.bool (x==y))
 | .neq=>some (.bool !(x==y))
 | .lss=>some (.bool (Op.bytesLess x y))
 | .leq=>some (.bool (Op.bytesLess x y||x==y))
 | .gtr=>some (.bool !(Op.bytesLess x y||x==y))
 | .geq=>some (.bool !(Op.bytesLess x y))
 | _=>none
theorem QuW (x y:ByteArray):x++y=mkS (bl x++bl y):=by
 apply ByteArray.ext;rw[ByteArray.data_append];apply Ru;simp[mkS,bl]
theorem QGF {op:BinOp}{t t':TypeId}{x y:Operand}{a b:ByteArray}{v:Value}(ex:ev A x=.string a)(ey:ev A y=.string b)(h:Qei op (bl a) (bl b)=some v):
    QC P ⟨d,.binOp op t x y t',ty,pos,af,g⟩ A H v H:=
  .pure_ λρ w s hs he=>by
    have e1:=VW (he x (by simp[Op.operands])) ex rfl;have e2:=VW (he y (by simp[Op.operands])) ey rfl;have hgd:(eqGuard op t x y (.string a) (.string b)).run P w=.ok () w:=by cases op<;>rfl
    have hr:(binOp op t (.string a) (.string b)).run P w=.ok v w∧plain v=true:=by
      cases op<;>simp only[Qei,reduceCtorEq]at h<;>first
        | (cases h;simp only[binOp,Op.stringOp,ByteArray.toList_eq];exact⟨rfl,rfl⟩)
        | (split at h
           · cases h
             rename_i hb;refine⟨?_,rfl⟩;simp only[Qnw]at hb;simp only[binOp,Op.stringOp];rw[Le (by simp;omega),QuW];rfl
           · cases h)
    refine⟨v,?_,.same v hr.2⟩;simp only[execOp,e1,e2,LW,hgd,Lz,hr.1,Nc]
def QrC (op:UnOp):Value->Option Value
 | .int k m=>match op with
  | .neg=>some (.int k (k.wrap (0 - m)))
  | .xor=>some (.int k (k.wrap (BitVec.ofInt k.bits (if k.signed then -1 else k.max) ^^^ BitVec.ofInt k.bits m).toNat))
  | _=>none
 | .bool b=>match op with
  | .not=>some (.bool !b)
  | _=>none
 | _=>none
theorem QId {op:UnOp}{t:TypeId}{x:Operand}{v:Value}(h:QrC op (ev A x)=some v):QC P ⟨d,.unOp op t x,ty,pos,af,g⟩ A H v H:=
 .pure_ λρ w s hs he=>by
  have hv:=he x (by simp[Op.operands]);have hr:(Op.unary op (s.eval x)).run P w=.ok v w∧plain v=true:=by
   generalize ev A x=u at hv h;cases u with
   | int k m=>
    rw[hv.plain_eq rfl];cases op<;>simp only[QrC,reduceCtorEq]at h<;>(cases h;exact⟨rfl,rfl⟩)
   | bool b=>
    rw[hv.plain_eq rfl];cases op<;>simp only[QrC,reduceCtorEq]at h<;>(cases h;exact⟨rfl,rfl⟩)
   | _=>simp[QrC]at h
  refine⟨v,?_,.same v hr.2⟩;simp only[execOp,LW,hr.1,Lz,Nc]
/-! ### Conversions without memory -/
def Qrj (P:Program)(src dst:TypeId)(x:Value):Option Value:=
 match P.underlying src,P.underlying dst with
 | some _,some (.int k)=>match x with | .int _ m=>some (.int k (k.wrap m)) | _=>none
 | some (.string),some (.string)=>match x with | .string s=>some (.string s) | _=>none
 | some (.int _),some (.string)=>match x with | .int _ m=>some (.string (Utf8.encode m)) | _=>none
 | _,_=>none
theorem QEk {src dst:TypeId}{x:Operand}{v:Value}(h:Qrj P src dst (ev A x)=some v):QC P ⟨d,.convert src dst x,ty,pos,af,g⟩ A H v H:=
 .pure_ λρ w s hs he=>by
  have hv:=he x (by simp[Op.operands]);have hr:(convert src dst (s.eval x)).run P w=.ok v w∧plain v=true:=by
   generalize ev A x=u at hv h;unfold Qrj at h;split at h
   ·rename_i _ _ k h1 h2;split at h
    ·cases h;rw[hv.plain_eq rfl];refine⟨?_,rfl⟩;simp only[convert,LW,LZ h1,LZ h2,Lz];rfl
    ·cases h
   ·rename_i _ _ h1 h2;split at h
    ·cases h;rw[hv.plain_eq rfl];refine⟨?_,rfl⟩;simp only[convert,LW,LZ h1,LZ h2,Lz];rfl
    ·cases h
   ·rename_i _ _ k h1 h2;split at h
    ·cases h;rw[hv.plain_eq rfl];refine⟨?_,rfl⟩;simp only[convert,LW,LZ h1,LZ h2,Lz];rfl
    ·cases h
   ·cases h
  refine⟨v,?_,.same v hr.2⟩;simp only[execOp,LW,hr.1,Lz,Nc]
/-! ### Interfaces, functions, parts -/
theorem Qo9 {t:TypeId}{x:Operand}{td:TypeDesc}(ht:P.underlying t=some td)(hi:(match td with | .interface _=>false | _=>true)=true):
  QC P ⟨d,.makeInterface t x,ty,pos,af,g⟩ A H (.iface t (ev A x)) H:=
 .pure_ λρ w s hs he=>by
  refine⟨.iface t (s.eval x),?_,.iface _ _ _ (he x (by simp[Op.operands]))⟩;simp only[execOp,Instr.makeInterface,LW,LZ ht,Lz];cases td<;>first | rfl | simp at hi
theorem Qua {ρ:Ren}{a:Act}{xs:Array Operand}(h:∀x∈xs,V ρ (ev A x) (a.eval x)):VL ρ (xs.map (ev A)).toList (xs.map a.eval).toList:=by
 refine⟨by simp,λj x x' h1 h2=>?_⟩;simp only[Bl,Array.getElem?_map,Lx]at h1 h2;obtain⟨o,ho,rfl⟩:=h1;obtain⟨o',ho',rfl⟩:=h2;rw[ho]at ho';cases ho';exact h o (BB ho)
theorem QwE {fn:Fn}{first captured:Array Operand}(hn:QdZ fn=true):
  QC P ⟨d,.makeFunc fn first captured,ty,pos,af,g⟩ A H (.func fn (first.map (ev A)) (captured.map (ev A))) H:=
 .pure_ λρ w s hs he=>by
  have h1:=Qua (xs:=first) (λx hx=>he x (by simp[Op.operands,hx]));have h2:=Qua (xs:=captured) (λx hx=>he x (by simp[Op.operands,hx]));refine⟨.func fn (first.map s.eval) (captured.map s.eval),rfl,.func _ _ _ _ _ hn (by simp) (by simp) (λj x x' a b=>h1.2 j x x' (by simpa using a) (by simpa using b)) (λj x x' a b=>h2.2 j x x' (by simpa using a) (by simpa using b))⟩
def QcS (P:Program)(t:TypeId)(cs:Array Value)(off:Nat):Option Value:=
 match P.underlying t,P.info? t with
 | some td,some inf=>if GG td then some (.agg (cs.extract off (off+inf.size))) else cs[off]?
 | _,_=>none
theorem Qub {t:TypeId}{td:TypeDesc}(hu:P.underlying t=some td)(w:World):(isAgg t).run P w=.ok (GG td) w:=by
 simp only[isAgg,LW,LZ hu,Lz];cases td<;>rfl
theorem WP {t:TypeId}{inf:TypeInfo}(hi:P.info? t=some inf)(w:World):(sizeOf t).run P w=.ok inf.size w:=by
 simp only[sizeOf,typeInfo,LW,DJ,Lz,hi,Nc]
theorem Qnx {ρ:Ren}{t:TypeId}{cs cs':Array Value}{off:Nat}{v:Value}(hc:VL ρ cs.toList cs'.toList)(h:QcS P t cs off=some v)(w:World):∃v',(part t cs' off).run P w=.ok v' w∧V ρ v v':=by
 unfold QcS at h;split at h
 ·rename_i td inf hu hi;split at h
  ·rename_i hd;cases h;refine⟨.agg (cs'.extract off (off+inf.size)),?_,?_⟩
   ·simp only[part,LW,Qub hu,Lz,hd,N3,WP hi,Nc]
   ·have hsz:cs.size=cs'.size:=by have:=hc.1;simpa using this
    refine .agg _ _ (by simp[hsz]) (λj x x' a b=>?_);rw[Array.getElem?_extract]at a b;split at a
    ·rename_i hh;rw[Lc (by rw[<- hsz];exact hh)]at b;exact hc.2 (off+j) x x' (by simpa using a) (by simpa using b)
    ·cases a
  ·rename_i hd;have h':cs.toList[off]? = some v:=by simpa using h
   obtain⟨v',h1,h2⟩:=hc.get h';refine⟨v',?_,h2⟩;have h1':cs'[off]? = some v':=by simpa using h1
   simp only[part,LW,Qub hu,Lz,hd,LV,LN,h1',Nc]
 ·cases h
theorem V.agg_inv {ρ:Ren}{cs:Array Value}{z:Value}(h:V ρ (.agg cs) z):∃cs',z=.agg cs'∧VL ρ cs.toList cs'.toList:=by
 cases h with
 | same _ hp=>simp[plain]at hp
 | agg xs xs' h1 h2=>exact⟨xs',rfl,by simpa using h1,λj x x' a b=>h2 j x x' (by simpa using a) (by simpa using b)⟩
theorem V.tuple_inv {ρ:Ren}{cs:Array Value}{z:Value}(h:V ρ (.tuple cs) z):∃cs',z=.tuple cs'∧VL ρ cs.toList cs'.toList:=by
 cases h with
 | same _ hp=>simp[plain]at hp
 | tuple xs xs' h1 h2=>exact⟨xs',rfl,by simpa using h1,λj x x' a b=>h2 j x x' (by simpa using a) (by simpa using b)⟩
theorem V.ptr_inv {ρ:Ren}{a:Addr}{z:Value}(h:V ρ (.pointer (some a)) z):∃i,ρ a.block=some i∧a.spot=none∧z=.pointer (some (i.at_.add a.off)):=by
 cases h with
 | same _ hp=>simp[plain]at hp
 | ptr id off i h=>exact⟨i,h,rfl,rfl⟩
theorem V.iface_inv {ρ:Ren}{t:TypeId}{v z:Value}(h:V ρ (.iface t v) z):∃v',z=.iface t v'∧V ρ v v':=by
 cases h with
 | same _ hp=>simp[plain]at hp
 | iface t v v' h=>exact⟨v',rfl,h⟩
theorem V.map_inv {ρ:Ren}{id:Nat}{z:Value}(h:V ρ (.map (some id)) z):∃i,ρ id=some i∧z=.map (some i.at_.block):=by
 cases h with
 | same _ hp=>simp[plain]at hp
 | map id i h=>exact⟨i,h,rfl⟩
theorem V.slice_inv {ρ:Ren}{a:Addr}{len cap:Nat}{z:Value}(h:V ρ (.slice (some a) len cap) z):∃i a' cap',ρ a.block=some i∧a.spot=none∧z=.slice (some a') len cap'∧
  (a'=i.at_.add a.off∨(len=0∧cap'=0))∧len<=cap'∧cap'<UNK∧(UNK<=cap->i.s=cap - UNK∧a.off+cap' * i.s=i.n)∧(cap<UNK->cap'=cap):=by
 cases h with
 | same _ hp=>simp[plain]at hp
 | slice id off len cap cap' i a' h h1 h2 h0 h3 h4=>exact⟨i,a',cap',h,rfl,rfl,h1,h2,h0,h3,h4⟩
theorem QCw {t:TypeId}{x:Operand}{f:Nat}{fs:Array Field}{fd:Field}{cs:Array Value}{v:Value}(ht:P.underlying t=some (.struct fs))(hf:fs[f]? = some fd)(ex:ev A x=.agg cs)
  (hp:QcS P fd.type cs fd.offset=some v):QC P ⟨d,.field t x f,ty,pos,af,g⟩ A H v H:=
 .pure_ λρ w s hs he=>by
  have hv:=he x (by simp[Op.operands]);rw[ex]at hv;obtain⟨cs',e,hc⟩:=hv.agg_inv;obtain⟨v',h1,h2⟩:=Qnx hc hp w;refine⟨v',?_,h2⟩;simp only[execOp,Instr.field,LW,LZ ht,Lz,hf,e,asAgg,Nc,h1]
theorem QuX {t:TypeId}{x:Operand}{f:Nat}{fs:Array Field}{fd:Field}{inf:TypeInfo}{a:Addr}(ht:P.underlying t=some (.struct fs))(hf:fs[f]? = some fd)(hi:P.info? fd.type=some inf)(hz:Nat.beq inf.size 0=false)
  (ex:ev A x=.pointer (some a)):QC P ⟨d,.fieldAddr t x f,ty,pos,af,g⟩ A H (.pointer (some ⟨a.block,a.off+fd.offset,none⟩)) H:=
 .pure_ λρ w s hs he=>by
  have hv:=he x (by simp[Op.operands]);rw[ex]at hv;obtain⟨i,h1,h2,h3⟩:=hv.ptr_inv;refine⟨.pointer (some (i.at_.add (a.off+fd.offset))),?_,.ptr _ _ i h1⟩;have hz':¬inf.size=0:=by simpa[Kh] using hz
  simp only[execOp,Instr.fieldAt,LW,LZ ht,Lz,hf,h3,Instr.sureAddr,Nc,fieldPlace,WP hi,hz',LN,Gi]
theorem Qmt {t e:TypeId}{x ix:Operand}{inf:TypeInfo}{a:Addr}{len cap:Nat}{k:IntKind}{m:Int}(ht:P.underlying t=some (.slice e))(hi:P.info? e=some inf)
  (ex:ev A x=.slice (some a) len cap) (eix:ev A ix=.int k m) (h0:0<=m) (h1:m<len):
  QC P ⟨d,.indexAddr t x ix,ty,pos,af,g⟩ A H (.pointer (some ⟨a.block,a.off+m.toNat * inf.size,none⟩)) H:=
 .pure_ λρ w s hs he=>by
  have hv:=he x (by simp[Op.operands]);rw[ex]at hv;have e2:=VW (he ix (by simp[Op.operands])) eix rfl;obtain⟨i,a',cap',g1,g2,g3,g4,g5,g0,g6,g7⟩:=hv.slice_inv;have ha:a'=i.at_.add a.off:=by rcases g4 with h | ⟨h,_⟩;exact h;omega
  refine⟨.pointer (some (i.at_.add (a.off+m.toNat * inf.size))),?_,.ptr _ _ i g1⟩;simp only[execOp,Instr.indexAt,e2,asIntOf,g3,LW,Nc,LZ ht,Lz,h0,h1,RU,N3,WP hi,ha,Gi]
theorem Qmu {t e:TypeId}{x ix:Operand}{inf:TypeInfo}{a:Addr}{len:Nat}{k:IntKind}{m:Int}(ht:P.underlying t=some (.array len e))(hi:P.info? e=some inf)
  (ex:ev A x=.pointer (some a)) (eix:ev A ix=.int k m) (h0:0<=m) (h1:m<len):
  QC P ⟨d,.indexAddr t x ix,ty,pos,af,g⟩ A H (.pointer (some ⟨a.block,a.off+m.toNat * inf.size,none⟩)) H:=
 .pure_ λρ w s hs he=>by
  have hv:=he x (by simp[Op.operands]);rw[ex]at hv;have e2:=VW (he ix (by simp[Op.operands])) eix rfl;obtain⟨i,g1,g2,g3⟩:=hv.ptr_inv;refine⟨.pointer (some (i.at_.add (a.off+m.toNat * inf.size))),?_,.ptr _ _ i g1⟩;simp only[execOp,Instr.indexAt,e2,asIntOf,g3,Instr.sureAddr,LW,Nc,LZ ht,Lz,h0,h1,RU,N3,WP hi,Gi]
theorem QqT {t:TypeId}{x ix:Operand}{s:ByteArray}{k:IntKind}{m:Int}{b:UInt8}(ht:P.underlying t=some .string)(ex:ev A x=.string s)(eix:ev A ix=.int k m)(h0:0<=m)(hb':(bl s)[m.toNat]? = some b):
  QC P ⟨d,.index t x ix,ty,pos,af,g⟩ A H (.int .u8 b.toNat) H:=
 .pure_ λρ w a hs he=>by
  have e1:=VW (he x (by simp[Op.operands])) ex rfl;have e2:=VW (he ix (by simp[Op.operands])) eix rfl;refine⟨.int .u8 b.toNat,?_,.same _ rfl⟩;have hb:s[m.toNat]? = some b:=by
   have hlt:m.toNat<s.size:=by rw[<- Qnw];exact(Lk.1 hb').1
   rw[getElem?_pos s _ hlt];rw[La (by rw[Qnw];exact hlt)]at hb';exact hb'
  simp only[execOp,Instr.index,e1,e2,asIntOf,LW,Nc,LZ ht,Lz,h0,N3,hb]
theorem QrD {t e:TypeId}{x ix:Operand}{len:Nat}{inf:TypeInfo}{cs:Array Value}{k:IntKind}{m:Int}{v:Value}(ht:P.underlying t=some (.array len e))(hi:P.info? e=some inf)(ex:ev A x=.agg cs)(eix:ev A ix=.int k m)
  (h0:0<=m) (h1:m<len) (hp:QcS P e cs (m.toNat * inf.size)=some v):QC P ⟨d,.index t x ix,ty,pos,af,g⟩ A H v H:=
 .pure_ λρ w a hs he=>by
  have hv:=he x (by simp[Op.operands]);rw[ex]at hv;have e2:=VW (he ix (by simp[Op.operands])) eix rfl;obtain⟨cs',e',hc⟩:=hv.agg_inv;obtain⟨v',g1,g2⟩:=Qnx hc hp w;refine⟨v',?_,g2⟩;simp only[execOp,Instr.index,e',e2,asIntOf,LW,Nc,LZ ht,Lz,h0,h1,RU,N3,WP hi,g1]
theorem QyA {x:Operand}{ix:Nat}{vs:Array Value}{v:Value}(ex:ev A x=.tuple vs)(hv:vs[ix]? = some v):QC P ⟨d,.extract x ix,ty,pos,af,g⟩ A H v H:=
 .pure_ λρ w a hs he=>by
  have hv':=he x (by simp[Op.operands]);rw[ex]at hv';obtain⟨vs',e',hc⟩:=hv'.tuple_inv;obtain⟨v',g1,g2⟩:=hc.get (j:=ix) (x:=v) (by simpa using hv);have g1':vs'[ix]? = some v':=by simpa using g1
  refine⟨v',?_,g2⟩;simp only[execOp,Instr.extract,e',g1',LW,Nc,Lz]
end
section
variable {P:Program} {n:Nat} {A:Env} {H:Qa} {d:Option Nat} {ty:TypeId} {pos:String} {af:Array Edge} {g:Option (Nat×Bool)}
theorem QjU {t:TypeId}{a:Addr}{v:Value}(h:ZC P t a H=some v):∃c e ro,H.get a.block=some (.cells c e ro):=by
 unfold ZC at h;split at h
 ·rename_i d inf c e ro h1 h2 h3;exact⟨c,e,ro,h3⟩
 ·cases h
theorem QEl {t:TypeId}{x:Operand}{a:Addr}{v:Value}(ex:ev A x=.pointer (some a))(hl:ZC P t a H=some v):QC P ⟨d,.load t x,ty,pos,af,g⟩ A H v H:=
 .pure_ λρ w s hs he=>by
  have hv:=he x (by simp[Op.operands]);rw[ex]at hv;obtain⟨i,g1,g2,g3⟩:=hv.ptr_inv;obtain⟨id,off,sp⟩:=a;simp only at g1 g2 g3;subst g2;obtain⟨c,e,ro,hg⟩:=QjU hl;obtain⟨v',h1,h2⟩:=Qo8 g1 hg (hs.live id _ i hg g1) hl;refine⟨v',?_,h2⟩;simp only[execOp,Instr.loadAt,g3,Instr.sureAddr,LW,Nc,Lz,h1]
theorem QCx {t:TypeId}{x y:Operand}{a:Addr}{H':Qa}(ex:ev A x=.pointer (some a))(hl:Qms P t a (ev A y) H=some H'):QC P ⟨d,.store t x y,ty,pos,af,g⟩ A H undef H':=
 .of_skip λρ w s hs he=>by
  have hv:=he x (by simp[Op.operands]);rw[ex]at hv;obtain⟨i,g1,g2,g3⟩:=hv.ptr_inv;obtain⟨id,off,sp⟩:=a;simp only at g1 g2 g3;subst g2;obtain⟨w',h1,h2,h3⟩:=Qyx hs g1 (he y (by simp[Op.operands])) hl;refine⟨ρ,w',?_,h2,h3⟩;simp only[execOp,Instr.storeAt,g3,Instr.sureAddr,LW,Nc,Lz,h1]
theorem Ke {t:TypeId}{inf:TypeInfo}{z:Value}(hi:P.info? t=some inf)(hz:inf.zero=some z)(w:World):(zeroValue t).run P w=.ok z w:=by
 simp only[zeroValue,typeInfo,LW,DJ,Lz,hi,Nc,hz]
theorem QCy {e:TypeId}{inf:TypeInfo}{z:Value}(hi:P.info? e=some inf)(hz:inf.zero=some z)(hc:z.cells.toList.all plain=true):
  QC P ⟨d,.alloc e,ty,pos,af,g⟩ A H (.pointer (some ⟨H.next,0,none⟩)) (H.push (.cells z.cells.toList e false)):=
 .of_run λρ w s hs he=>by
  obtain⟨h1,h2⟩:=hs.pushCells (c:=z.cells.toList) (c':=z.cells) e (.closed hc);refine⟨.pointer (some ⟨w.heap.size,0,none⟩),_,_,?_,.ptr H.next 0 _ (W9 _ _ _),h1,h2⟩;simp only[execOp,Instr.alloc,LW,Ke hi hz,Lz,newVar,newRow,FT,Nc,World.alloc]
theorem QGG {e:TypeId}{x:Operand}:
  QC P ⟨d,.box e x,ty,pos,af,g⟩ A H (.pointer (some ⟨H.next,0,none⟩)) (H.push (.cells (ev A x).cells.toList e false)):=
 .of_run λρ w s hs he=>by
  obtain⟨h1,h2⟩:=hs.pushCells (c:=(ev A x).cells.toList) (c':=(s.eval x).cells) e (he x (by simp[Op.operands])).cells;refine⟨.pointer (some ⟨w.heap.size,0,none⟩),_,_,?_,.ptr H.next 0 _ (W9 _ _ _),h1,h2⟩;simp only[execOp,Instr.box,LW,newVar,newRow,FT,Nc,Lz,World.alloc]
/-! ### Building structs, arrays, slices -/
def Qfb (place:Nat->Option (Nat×Nat)):List Value->List (Nat×Value)->Option (List Value)
 | cells,[]=>some cells
 | cells,(i,v)::rest=>
  match place i with
  | none=>none
  | some (off,size)=>if v.cells.toList.length=size∧off+size<=cells.length then Qfb place (splice cells off v.cells.toList) rest else none
theorem QlU:∀ (vs:List Value) (k off:Nat) (cs:Array Value),off+k+vs.length<=cs.size->
  ((vs.zipIdx k).foldl (fun(cs:Array Value) (p:Value×Nat)=>cs.setIfInBounds (off+p.2) p.1) cs).toList=splice cs.toList (off+k) vs
 | [],k,off,cs,h=>by simp[splice]
 | v::vs,k,off,cs,h=>by
  simp only[Lo]at h;rw[List.zipIdx_cons,FQ,QlU vs (k+1) off _ (by simp;omega)];apply BA;intro o;rw[Qmr (by simp;omega),Qmr (by simp;omega)];simp only[Array.toList_setIfInBounds,Lo]
  by_cases h0:o=off+k
  ·subst h0;rw[Le (by omega),Lc ⟨by omega,by omega⟩,List.getElem?_set_self (by simp;omega)];simp
  ·by_cases h1:off+(k+1)<=o∧o<off+(k+1)+vs.length
   ·rw[Lc h1,Lc ⟨by omega,by omega⟩,show o - (off+k)=(o - (off+(k+1)))+1 by omega];simp
   ·rw[Le h1,Le (by omega),List.getElem?_set_ne (by omega)]
theorem Qny {ρ:Ren}{place:Nat->Option (Nat×Nat)}:∀ (parts parts':List (Nat×Value)) (c:List Value) (c':Array Value) (r:List Value),VL ρ c c'.toList->parts.map (·.1)=parts'.map (·.1)->VL ρ (parts.map (·.2)) (parts'.map (·.2))->
  Qfb place c parts=some r->∃r',Instr.fill place c' parts'=some r'∧VL ρ r r'.toList
 | [],parts',c,c',r,hc,h1,h2,h=>by
  have:parts'=[]:=by cases parts';rfl;simp at h1
  subst this;simp only[Qfb,Lt]at h;subst h;exact⟨c',rfl,hc⟩
 | (i,v)::rest,parts',c,c',r,hc,h1,h2,h=>by
  cases parts' with
  | nil=>simp at h1
  | cons q rest'=>
   obtain⟨i',v'⟩:=q;simp only[NZ,Fl]at h1;obtain⟨rfl,h1⟩:=h1;obtain⟨x',xs',e,hv,hvs⟩:=h2.uncons;simp only[NZ,Fl]at e;obtain⟨rfl,rfl⟩:=e;unfold Qfb at h;split at h
   ·cases h
   ·rename_i off size hp;split at h
    ·rename_i hlen;have hcl:=hv.cells;have hl1:v'.cells.size=size:=by have:=hcl.1;simp at this hlen;omega
     have hl2:c.length=c'.size:=by have:=hc.1;simpa using this
     have hl3:v.cells.size=size:=by simpa using hlen.1
     have hrel:VL ρ (splice c off v.cells.toList) (splice c'.toList off v'.cells.toList):=by
      unfold splice;refine(hc.take _).append (hcl.append ?_);rw[show off+v'.cells.toList.length=off+v.cells.toList.length by simp;omega];exact hc.drop _
     have hf:=QlU v'.cells.toList 0 off c' (by simp;omega);simp only[N9]at hf;obtain⟨r',g1,g2⟩:=Qny rest rest' _ (splice c'.toList off v'.cells.toList).toArray r (by simpa using hrel) h1 hvs h;refine⟨r',?_,g2⟩;unfold Instr.fill;simp only[hp,hl1];rw[Le (by simp;omega)];rw[<- g1];congr 1;apply Ru;simp only[Array.toList_zipIdx,<- Array.foldl_toList];exact hf
    ·cases h
def Jb (A:Env)(parts:Array (Nat×Operand)):List (Nat×Value):=parts.toList.map λp=>(p.1,ev A p.2)
theorem Qpa {ρ:Ren}{a:Act}{parts:Array (Nat×Operand)}(he:∀x∈(parts.toList.map (·.2)).toArray,V ρ (ev A x) (a.eval x)):
  (Jb A parts).map (·.1)=(parts.map fun(i,x)=>(i,a.eval x)).toList.map (·.1)∧VL ρ ((Jb A parts).map (·.2)) ((parts.map fun(i,x)=>(i,a.eval x)).toList.map (·.2)):=by
 refine⟨by simp[Jb],by simp[Jb],λj x x' h1 h2=>?_⟩;simp only[Jb,Ht,LD,Lx,Array.toList_map,Function.comp]at h1 h2;obtain⟨p,hp1,rfl⟩:=h1;obtain⟨q,hq1,rfl⟩:=h2;rw[hp1]at hq1;cases hq1;refine he _ ?_;simp only[List.mem_toArray,N4];exact⟨p,Ln hp1,rfl⟩
def Qnz (P:Program)(fs:Array Field):Option (Array (Nat×Nat)):=fs.mapM λf=>(P.info? f.type).map λinf=>(f.offset,inf.size)
theorem QrE (w:World):∀ (l:List Field) (r:List (Nat×Nat)),l.mapM (λf=>(P.info? f.type).map λinf=>(f.offset,inf.size))=some r->
  (l.mapM (λf=>(do pure (f.offset,<- sizeOf f.type):Sem (Nat×Nat)))).run P w=.ok r w
 | [],r,h=>by simp at h;subst h;rfl
 | f::l,r,h=>by
  simp only[Ra,BV,BY,Lx,Rx,Lt]at h;obtain⟨p,⟨inf,hi,rfl⟩,q,hq,rfl⟩:=h;have ih:=QrE w l q hq;simp only[Ra,LW,WP hi,Lz,Nc,ih]
theorem QqU {t:TypeId}{parts:Array (Nat×Operand)}{fs:Array Field}{inf:TypeInfo}{z:Value}{pl:Array (Nat×Nat)}{r:List Value}(ht:P.underlying t=some (.struct fs))(hi:P.info? t=some inf)(hz:inf.zero=some z)
  (hc:z.cells.toList.all plain=true) (hpl:Qnz P fs=some pl) (hr:Qfb (pl[·]?) z.cells.toList (Jb A parts)=some r):QC P ⟨d,.build t parts,ty,pos,af,g⟩ A H (.agg r.toArray) H:=
 .pure_ λρ w s hs he=>by
  obtain⟨g1,g2⟩:=Qpa (A:=A) he;obtain⟨r',h1,h2⟩:=Qny (ρ:=ρ) (Jb A parts) _ z.cells.toList z.cells r (.closed hc) g1 g2 hr;refine⟨.agg r',?_,.agg _ _ (by simpa using h2.1) (λj x x' a b=>h2.2 j x x' (by simpa using a) (by simpa using b))⟩;have hpl':fs.toList.mapM (λf=>(P.info? f.type).map λinf=>(f.offset,inf.size))=some pl.toList:=by
   unfold Qnz at hpl;rw[Array.mapM_eq_mapM_toList]at hpl;simp only[Option.map_eq_map,Lx]at hpl;obtain⟨l,hl,rfl⟩:=hpl;simpa using hl
  have hrun:=QrE (P:=P) w fs.toList pl.toList hpl';have hrun':(fs.mapM (λf=>(do pure (f.offset,<- sizeOf f.type):Sem (Nat×Nat)))).run P w=.ok pl w:=by
   rw[Array.mapM_eq_mapM_toList];simp only[Sem.run_map,hrun,Lz,RE]
  simp only[execOp,Instr.build,LW,Ke hi hz,Lz,LZ ht,hrun',h1,Nc]
theorem QrF {t e:TypeId}{len:Nat}{parts:Array (Nat×Operand)}{inf inf':TypeInfo}{z:Value}{r:List Value}(ht:P.underlying t=some (.array len e))(hi:P.info? t=some inf)(hz:inf.zero=some z)
  (hc:z.cells.toList.all plain=true) (hi':P.info? e=some inf') (hr:Qfb (λi=>some (i * inf'.size,inf'.size)) z.cells.toList (Jb A parts)=some r):QC P ⟨d,.build t parts,ty,pos,af,g⟩ A H (.agg r.toArray) H:=
 .pure_ λρ w s hs he=>by
  obtain⟨g1,g2⟩:=Qpa (A:=A) he;obtain⟨r',h1,h2⟩:=Qny (ρ:=ρ) (Jb A parts) _ z.cells.toList z.cells r (.closed hc) g1 g2 hr;refine⟨.agg r',?_,.agg _ _ (by simpa using h2.1) (λj x x' a b=>h2.2 j x x' (by simpa using a) (by simpa using b))⟩;simp only[execOp,Instr.build,LW,Ke hi hz,Lz,LZ ht,WP hi',h1,Nc]
def Ze (z:Array Value)(m:Nat):List Value:=(List.range m).map λi=>z[i % z.size]!
theorem Qp7 {z:Array Value}(hc:z.toList.all plain=true)(m:Nat)(hz:m=0∨0<z.size):(Ze z m).all plain=true:=by
 rw[Li];intro x hx;simp only[Ze,N4,LU]at hx;obtain⟨i,hi,rfl⟩:=hx;have hp:0<z.size:=by omega
 have hlt:i % z.size<z.size:=Rm _ hp;rw[getElem!_pos z _ hlt];exact Li.1 hc _ (by simp)
theorem Qtk {t e:TypeId}{len:Nat}{parts:Array (Nat×Operand)}{inf:TypeInfo}{z:Value}{r:List Value}(ht:P.underlying t=some (.slice e))(hi:P.info? e=some inf)(hz:inf.zero=some z)
  (hc:z.cells.toList.all plain=true) (hcs:Nat.blt 0 z.cells.size=true) (hlen:Nat.ble len 16777216=true) (hsm:Nat.ble (len * inf.size) 16777216=true) (hr:Qfb (λi=>some (i * inf.size,inf.size)) (Ze z.cells (len * inf.size)) (Jb A parts)=some r):
  QC P ⟨d,.buildSlice t len parts,ty,pos,af,g⟩ A H (.slice (some ⟨H.next,0,none⟩) len len) (H.push (.cells r e false)):=
 .of_run λρ w s hs he=>by
  obtain⟨g1,g2⟩:=Qpa (A:=A) he;have hcs':0<z.cells.size:=by simpa using hcs
  have hsm':len * inf.size<=16777216:=by simpa using hsm
  have hzl:((Array.range (len * inf.size)).map (λi=>(if len * inf.size=0 then(#[]:Array Value) else z.cells)[i % (if len * inf.size=0 then(#[]:Array Value) else z.cells).size]!)).toList=Ze z.cells (len * inf.size):=by
   by_cases h0:len * inf.size=0
   ·simp[h0,Ze]
   ·simp[h0,Ze,Array.toList_range]
  have hp0:=Qp7 hc (len * inf.size) (.inr hcs');obtain⟨r',h1,h2⟩:=Qny (ρ:=ρ) (Jb A parts) _ (Ze z.cells (len * inf.size)) ((Array.range (len * inf.size)).map (λi=>(if len * inf.size=0 then(#[]:Array Value) else z.cells)[i % (if len * inf.size=0 then(#[]:Array Value) else z.cells).size]!)) r (by rw[hzl];exact .closed hp0) g1 g2 hr;obtain⟨k1,k2⟩:=hs.pushCells (c:=r) (c':=r') e h2;have hlt:len<UNK:=by
   have:len<=16777216:=by simpa using hlen
   simp only[UNK];omega
  refine⟨.slice (some ⟨w.heap.size,0,none⟩) len len,_,_,?_,.slice H.next 0 len len len _ _ (W9 _ _ _) (.inl (by rw[Qe8])) (Lb _) hlt (λh=>?_) (λ_=>rfl),k1,k2⟩
  ·have hb:¬ (len * inf.size>2 ^ 24):=by omega
   simp only[execOp,Instr.buildSlice,LW,LZ ht,Lz,WP hi,hb,LN]
   by_cases h0:len * inf.size=0
   ·simp only[h0,N3,Nc]at h1 ⊢;simp only[h1,newRow,LW,FT,Lz,Nc,World.alloc]
   ·simp only[h0,LN,LW,Ke hi hz,Nc,Lz]at h1 ⊢;simp only[h1,newRow,LW,FT,Lz,Nc,World.alloc]
  ·exfalso;have hlen':len<=16777216:=by simpa using hlen
   simp only[UNK]at h;omega
end
section
variable {P:Program} {n:Nat} {A:Env} {H:Qa} {d:Option Nat} {ty:TypeId} {pos:String} {af:Array Edge} {g:Option (Nat×Bool)}
def QhG (P:Program)(e:TypeId)(inf:TypeInfo)(z:Value):Bool:=
  Nat.beq z.cells.size inf.size&&Nat.blt 0 inf.size&&z.cells.toList.all plain &&
    (match P.underlying e with
     | some (.int .u8)=>(match z with | .int .u8 m=>m==0 | _=>false)
     | some _=>true
     | none=>false)
structure Qcr (P:Program) (e:TypeId) (inf:TypeInfo) (z:Value):Prop where
 info:P.info? e=some inf
 zero:inf.zero=some z
 cells:z.cells.size=inf.size
 pos:0<inf.size
 plain_:z.cells.toList.all plain=true
 byte:P.underlying e=some (.int .u8)->z=.int .u8 0
theorem Qcr.mk' {e:TypeId}{inf:TypeInfo}{z:Value}(h1:P.info? e=some inf)(h2:inf.zero=some z)(h:QhG P e inf z=true):Qcr P e inf z:=by
 simp only[QhG,Lm]at h;obtain⟨⟨⟨a,b⟩,c⟩,dd⟩:=h;refine⟨h1,h2,by simpa[Kh] using a,by simpa using b,c,λhu=>?_⟩;rw[hu]at dd;simp only at dd;split at dd
 ·rename_i m;have:m=0:=by simpa using dd
  rw[this]
 ·cases dd
theorem Qcr.cellsOf {e:TypeId}{inf:TypeInfo}{z:Value}(h:Qcr P e inf z):P.cellsOf e=inf.size:=by simp[Program.cellsOf,h.info]
theorem QBh (z:Array Value)(m:Nat)(hz:0<z.size){o:Nat}{v:Value}(h:(Ze z m)[o]? = some v):v∈z:=by
 simp only[Ze,LD,Lx]at h;obtain⟨i,_,rfl⟩:=h;rw[getElem!_pos z _ (Rm _ hz)];exact Array.getElem_mem _
theorem Qcr.spare {e:TypeId}{inf:TypeInfo}{z:Value}(h:Qcr P e inf z){v:Value}(hv:v∈z.cells):QAl P e v:=λhu=>by
 rw[h.byte hu]at hv;simp[Value.cells]at hv;exact⟨0,hv,by omega,by omega⟩
theorem QuY {t e:TypeId}{x y:Operand}{inf:TypeInfo}{z:Value}{l c:Int}(ht:P.underlying t=some (.slice e))(hok:Qcr P e inf z)(ex:ev A x=.int .i64 l)(ey:ev A y=.int .i64 c)
  (h0:0<=l) (h1:l<=c) (h2:(inf.bytes:Int) * c<=281474976710656) (h3:c<=9223372036854775807):
  QC P ⟨d,.makeSlice t x y,ty,pos,af,g⟩ A H (.slice (some ⟨H.next,0,none⟩) l.toNat c.toNat) (H.push (.cells (Ze z.cells (c.toNat * inf.size)) e false)):=
 .of_run λρ w s hs he=>by
  have e1:=VW (he x (by simp[Op.operands])) ex rfl;have e2:=VW (he y (by simp[Op.operands])) ey rfl;have hr:=run_make (P:=P) w t e inf z ht hok.info hok.zero .i64 .i64 l c h0 h1 h2 h3;have hzl:(madeCells z.cells (c.toNat * inf.size)).toList=Ze z.cells (c.toNat * inf.size):=by simp[madeCells,Ze,Array.toList_range]
  obtain⟨k1,k2⟩:=hs.pushCells (c:=Ze z.cells (c.toNat * inf.size)) (c':=madeCells z.cells (c.toNat * inf.size)) e (by rw[hzl];exact .closed (Qp7 hok.plain_ _ (.inr (by rw[hok.cells];exact hok.pos))));refine⟨.slice (some ⟨w.heap.size,0,none⟩) l.toNat c.toNat,_,_,?_,.slice H.next 0 l.toNat c.toNat c.toNat _ _ (W9 _ _ _) (.inl (by rw[Qe8])) (by omega) (by simp only[UNK];omega) (λh=>?_) (λ_=>rfl),k1,k2⟩
  ·simp only[execOp,e1,e2,LW,hr,Lz,Nc]
  ·exfalso;simp only[UNK]at h;omega
/-! ### Slicing -/
def XC (A:Env):Option Operand->Option (Option Int)
 | none=>some none
 | some x=>match ev A x with | .int _ m=>some (some m) | _=>none
theorem Qpb {ρ:Ren}{a:Act}{x:Option Operand}(he:∀y,x=some y->V ρ (ev A y) (a.eval y)){m:Option Int}(h:XC A x=some m):
  (m=none∧x.map a.eval=none)∨∃k j,m=some j∧x.map a.eval=some (.int k j):=by
 cases x with
 | none=>simp[XC]at h;exact .inl ⟨h.symm,rfl⟩
 | some x=>
  simp only[XC]at h;split at h
  ·rename_i k j ej;cases h;have:=VW (he _ rfl) ej rfl;exact .inr ⟨k,j,rfl,by simp[this]⟩
  ·cases h
theorem Qej {ρ:Ren}{w:World}{a:Act}{lo hi mx:Option Operand}(hlo:∀y,lo=some y->V ρ (ev A y) (a.eval y))(hhi:∀y,hi=some y->V ρ (ev A y) (a.eval y))(hmx:∀y,mx=some y->V ρ (ev A y) (a.eval y)){l h m:Option Int}(el:XC A lo=some l)(eh:XC A hi=some h)(em:XC A mx=some m)
  (hm:m≠none->h≠none) {len cap:Nat} (h1:0<=l.getD 0) (h2:l.getD 0<=h.getD len) (h3:h.getD len<=m.getD cap) (h4:m.getD cap<=cap) (isS:Bool):
  (Instr.sliceBounds isS len cap (lo.map a.eval) (hi.map a.eval) (mx.map a.eval)).run P w=.ok ((l.getD 0).toNat,(h.getD len).toNat,(m.getD cap).toNat) w:=by
 rcases Qpb hhi eh with⟨rfl,e⟩ | ⟨k,j,rfl,e⟩<;>rcases Qpb hlo el with⟨rfl,e'⟩ | ⟨k',j',rfl,e'⟩<;>rcases Qpb hmx em with⟨rfl,e''⟩ | ⟨k'',j'',rfl,e''⟩<;>simp only[Br,NB]at h1 h2 h3 h4 ⊢<;>rw[e,e',e'']<;>simp only[Instr.sliceBounds,LW,Nc,Lz]
 ·simp
 ·exact absurd rfl (hm (by simp))
 ·rw[RD (P:=P) w k' j' len _ h1 h2];simp
 ·exact absurd rfl (hm (by simp))
 ·rw[RD (P:=P) w k j cap _ h2 h3];simp
 ·rw[RD (P:=P) w k'' j'' cap _ (by omega) h4];simp only[Lz];rw[RD (P:=P) w k j j''.toNat _ (by omega) (by omega)];simp
 ·rw[RD (P:=P) w k j cap _ (by omega) h3];simp only[Lz];rw[RD (P:=P) w k' j' j.toNat _ (by omega) (by omega)];simp
 ·rw[RD (P:=P) w k'' j'' cap _ (by omega) h4];simp only[Lz];rw[RD (P:=P) w k j j''.toNat _ (by omega) (by omega)];simp only[Lz];rw[RD (P:=P) w k' j' j.toNat _ (by omega) (by omega)];simp
theorem QqV {t:TypeId}{x:Operand}{lo hi:Option Operand}{s:ByteArray}{l h:Option Int}(ht:P.underlying t=some .string)(ex:ev A x=.string s)
  (el:XC A lo=some l) (eh:XC A hi=some h) (h1:0<=l.getD 0) (h2:l.getD 0<=h.getD (bl s).length) (h3:h.getD (bl s).length<=(bl s).length):
  QC P ⟨d,.slice t x lo hi none,ty,pos,af,g⟩ A H (.string (mkS (((bl s).drop (l.getD 0).toNat).take ((h.getD (bl s).length).toNat - (l.getD 0).toNat)))) H:=
 .pure_ λρ w a hs he=>by
  have e1:=VW (he x (by simp[Op.operands])) ex rfl;simp only[Qnw]at h2 h3;refine⟨.string (s.extract (l.getD 0).toNat (h.getD s.size).toNat),?_,?_⟩
  rotate_left
  ·have:s.extract (l.getD 0).toNat (h.getD s.size).toNat=mkS (((bl s).drop (l.getD 0).toNat).take ((h.getD (bl s).length).toNat - (l.getD 0).toNat)):=by
    apply ByteArray.ext;apply Ru;rw[ByteArray.data_extract];simp[mkS,bl]
   rw[this];exact .same _ rfl
  have hb:=Qej (P:=P) (A:=A) (w:=w) (λy e=>he y (by simp[Op.operands,e])) (λy e=>he y (by simp[Op.operands,e])) (mx:=none) (λy e=>by cases e) el eh (m:=none) rfl (by simp) (len:=s.size) (cap:=s.size) h1 h2 (by simpa using h3) (by simp) false;simp only[Fk]at hb;simp only[execOp,Instr.sliceAt,Instr.slice,e1,LW,LZ ht,Lz,Fk,Option.isSome_none,LV,LN,hb,Nc]
def Qaz (size:Nat)(x:Value)(l h m:Option Int):Option Value:=
 match x with
 | .slice none len cap=>
  if 0<=l.getD 0∧l.getD 0<=h.getD len∧h.getD len<=m.getD cap∧m.getD cap<=cap then some (.slice none ((h.getD len).toNat - (l.getD 0).toNat) ((m.getD cap).toNat - (l.getD 0).toNat)) else none
 | .slice (some a) len cap=>
  if UNK<=cap then
   match m with
   | none=>if 0<=l.getD 0∧l.getD 0<=h.getD len∧h.getD len<=len∧cap=UNK+size then some (.slice (some ⟨a.block,a.off+(l.getD 0).toNat * size,none⟩) ((h.getD len).toNat - (l.getD 0).toNat) cap) else none
   | some m=>if 0<=l.getD 0∧l.getD 0<=h.getD len∧h.getD len<=m∧m<=len∧l.getD 0<m then some (.slice (some ⟨a.block,a.off+(l.getD 0).toNat * size,none⟩) ((h.getD len).toNat - (l.getD 0).toNat) (m.toNat - (l.getD 0).toNat)) else none
  else
   if 0<=l.getD 0∧l.getD 0<=h.getD len∧h.getD len<=m.getD cap∧m.getD cap<=cap then
    some (.slice (some (if(m.getD cap).toNat=(l.getD 0).toNat then a else⟨a.block,a.off+(l.getD 0).toNat * size,none⟩)) ((h.getD len).toNat - (l.getD 0).toNat) ((m.getD cap).toNat - (l.getD 0).toNat))
   else none
 | _=>none
theorem QrG {t e:TypeId}{x:Operand}{lo hi mx:Option Operand}{inf:TypeInfo}{l h m:Option Int}{v:Value}(ht:P.underlying t=some (.slice e))(hi':P.info? e=some inf)
  (el:XC A lo=some l) (eh:XC A hi=some h) (em:XC A mx=some m) (hm:m≠none->h≠none) (hv:Qaz inf.size (ev A x) l h m=some v):
  QC P ⟨d,.slice t x lo hi mx,ty,pos,af,g⟩ A H v H:=
 .pure_ λρ w s hs he=>by
  have hvx:=he x (by simp[Op.operands]);generalize ev A x=u at hvx hv;unfold Qaz at hv;split at hv
  ·rename_i len cap;split at hv
   ·rename_i hc;obtain⟨c1,c2,c3,c4⟩:=hc;cases hv;have e1:=hvx.plain_eq rfl;have hb:=Qej (P:=P) (A:=A) (w:=w) (λy e=>he y (by simp[Op.operands,e])) (λy e=>he y (by simp[Op.operands,e])) (λy e=>he y (by simp[Op.operands,e])) el eh em hm (len:=len) (cap:=cap) c1 c2 c3 c4 true;refine⟨.slice none ((h.getD len).toNat - (l.getD 0).toNat) ((m.getD cap).toNat - (l.getD 0).toNat),?_,.same _ rfl⟩;simp only[execOp,Instr.sliceAt,Instr.slice,e1,LW,LZ ht,Lz,hb,WP hi',Nc,Fk,ite_self]
   ·cases hv
  ·rename_i a len cap;obtain⟨i,a',cap',g1,g2,g3,g4,g5,g0,g6,g7⟩:=hvx.slice_inv;obtain⟨id,off,sp⟩:=a;simp only at g1 g2 g4 g6 g7 hv;subst g2;split at hv
   ·rename_i hu;obtain⟨hes0,g6'⟩:=g6 hu;split at hv
    ·split at hv
     ·rename_i hc;obtain⟨c1,c2,c3,c4⟩:=hc;have hes:i.s=inf.size:=by omega
      cases hv;have hb:=Qej (P:=P) (A:=A) (w:=w) (λy e=>he y (by simp[Op.operands,e])) (λy e=>he y (by simp[Op.operands,e])) (λy e=>he y (by simp[Op.operands,e])) el eh em hm (len:=len) (cap:=cap') c1 c2 (by simp only[Br];omega) (by simp) true;have hmul:off+(l.getD 0).toNat * inf.size+(cap' - (l.getD 0).toNat) * i.s=i.n:=by
       rw[hes]at g6' ⊢;rw[Rh,<- Ry,Nat.add_sub_cancel' (by omega)];exact g6'
      refine⟨.slice (some (if cap'=(l.getD 0).toNat then a' else a'.add ((l.getD 0).toNat * inf.size))) ((h.getD len).toNat - (l.getD 0).toNat) (cap' - (l.getD 0).toNat),?_,?_⟩
      ·simp only[execOp,Instr.sliceAt,Instr.slice,g3,LW,LZ ht,Lz,hb,WP hi',Nc,Br,LG,Dh];split<;>rfl
      ·by_cases hcl:cap'=(l.getD 0).toNat
       ·rw[Lc hcl];exact .slice id _ _ _ _ i _ g1 (.inr ⟨by omega,by omega⟩) (by omega) (by omega) (λ_=>⟨hes0,hmul⟩) (λh=>by omega)
       ·rw[Le hcl];refine .slice id _ _ _ _ i _ g1 (.inl ?_) (by omega) (by omega) (λ_=>⟨hes0,hmul⟩) (λh=>by omega);rcases g4 with h | ⟨h,h'⟩
        ·rw[h,Gi]
        ·exfalso;omega
     ·cases hv
    ·rename_i m;split at hv
     ·rename_i hc;obtain⟨c1,c2,c3,c4,c5⟩:=hc;cases hv;have hb:=Qej (P:=P) (A:=A) (w:=w) (λy e=>he y (by simp[Op.operands,e])) (λy e=>he y (by simp[Op.operands,e])) (λy e=>he y (by simp[Op.operands,e])) el eh em hm (len:=len) (cap:=cap') c1 c2 c3 (by simp only[NB];omega) true;refine⟨.slice (some (a'.add ((l.getD 0).toNat * inf.size))) ((h.getD len).toNat - (l.getD 0).toNat) (m.toNat - (l.getD 0).toNat),?_,?_⟩
      ·simp only[execOp,Instr.sliceAt,Instr.slice,g3,LW,LZ ht,Lz,hb,WP hi',Nc,NB,Dh];rw[Le (by omega)]
      ·refine .slice id _ _ _ _ i _ g1 (.inl ?_) (by omega) (by omega) (λh=>?_) (λ_=>rfl)
       ·rcases g4 with h | ⟨h,h'⟩
        ·rw[h,Gi]
        ·exfalso;omega
       ·exfalso;omega
     ·cases hv
   ·rename_i hu;have g7':=g7 (by omega);subst g7';split at hv
    ·rename_i hc;obtain⟨c1,c2,c3,c4⟩:=hc;cases hv;have hb:=Qej (P:=P) (A:=A) (w:=w) (λy e=>he y (by simp[Op.operands,e])) (λy e=>he y (by simp[Op.operands,e])) (λy e=>he y (by simp[Op.operands,e])) el eh em hm (len:=len) (cap:=cap') c1 c2 c3 c4 true;refine⟨.slice (some (if(m.getD cap').toNat=(l.getD 0).toNat then a' else a'.add ((l.getD 0).toNat * inf.size))) ((h.getD len).toNat - (l.getD 0).toNat) ((m.getD cap').toNat - (l.getD 0).toNat),?_,?_⟩
     ·simp only[execOp,Instr.sliceAt,Instr.slice,g3,LW,LZ ht,Lz,hb,WP hi',Nc,Dh];split<;>rfl
     ·by_cases hcl:(m.getD cap').toNat=(l.getD 0).toNat
      ·rw[Lc hcl,Lc hcl];exact .slice id _ _ _ _ i _ g1 (.inr ⟨by omega,by omega⟩) (by omega) (by omega) (λh=>by omega) (λ_=>rfl)
      ·rw[Le hcl,Le hcl];refine .slice id _ _ _ _ i _ g1 (.inl ?_) (by omega) (by omega) (λh=>by omega) (λ_=>rfl);rcases g4 with h | ⟨h,h'⟩
       ·rw[h,Gi]
       ·exfalso;omega
    ·cases hv
  ·cases hv
end
section
variable {P:Program} {n:Nat} {A:Env} {H:Qa} {d:Option Nat} {ty:TypeId} {pos:String} {af:Array Edge} {g:Option (Nat×Bool)}
theorem QaA (ρ:Operand->Value)(b:Builtin)(args:Array Operand)(ts:Array TypeId):
  execOp ρ ⟨d,.call ⟨.builtin b,args,ts⟩,ty,pos,af,g⟩=builtin b ts ty (args.map λ| .const _=>true | _=>false) (args.map ρ):=by
 simp only[execOp,resolve,invoke,pure_bind];rfl
def QCz (P:Program)(t:TypeId)(x:Value):Option Nat:=
 match P.underlying t with
 | some .string=>match x with | .string s=>some (bl s).length | _=>none
 | some (.array m _)=>some m
 | some (.slice _)=>match x with | .slice _ m _=>some m | _=>none
 | some (.pointer q)=>match P.underlying q with | some (.array m _)=>some m | _=>none
 | some (.map _ _)=>match x with | .map none=>some 0 | _=>none
 | _=>none
theorem QGH {t:TypeId}{x:Operand}{m:Nat}(h:QCz P t (ev A x)=some m):QC P ⟨d,.call ⟨.builtin .len,#[x],#[t]⟩,ty,pos,af,g⟩ A H (.int .i64 m) H:=
 .pure_ λρ w s hs he=>by
  have hv:=he x (by simp[Op.operands,Call.operands]);refine⟨.int .i64 m,?_,.same _ rfl⟩;rw[QaA];generalize ev A x=u at hv h;have hz:(Builtin.len_ #[t] ty #[s.eval x]).run P w=.ok (.int .i64 m) w:=by
   unfold QCz at h;split at h
   ·rename_i ht;split at h
    ·cases h;simp[Builtin.len_,LZ ht,hv.plain_eq rfl,goInt,Qnw]
    ·cases h
   ·rename_i q e ht;cases h;simp[Builtin.len_,LZ ht,goInt]
   ·rename_i e ht;split at h
    ·rename_i a m' c;cases h;cases a with
     | none=>simp[Builtin.len_,LZ ht,hv.plain_eq rfl,goInt]
     | some a=>
      obtain⟨i,a',cap',g1,g2,g3,_⟩:=hv.slice_inv;simp[Builtin.len_,LZ ht,g3,goInt]
    ·cases h
   ·rename_i q ht;split at h
    ·rename_i m' e hq;cases h;simp[Builtin.len_,LZ ht,LZ hq,goInt]
    ·cases h
   ·rename_i k e ht;split at h
    ·cases h;simp[Builtin.len_,LZ ht,hv.plain_eq rfl,goInt]
    ·cases h
   ·cases h
  simp only[builtin,R9,NZ,Bq,LW,hz,Lz,Nc]
theorem QGI {t e:TypeId}{x:Operand}{a:Option Addr}{m c:Nat}(ht:P.underlying t=some (.slice e))(ex:ev A x=.slice a m c)(hc:Nat.blt c UNK=true):
  QC P ⟨d,.call ⟨.builtin .cap,#[x],#[t]⟩,ty,pos,af,g⟩ A H (.int .i64 c) H:=
 .pure_ λρ w s hs he=>by
  have hv:=he x (by simp[Op.operands,Call.operands]);rw[ex]at hv;refine⟨.int .i64 c,?_,.same _ rfl⟩;rw[QaA];have hz:(Builtin.cap_ #[t] ty #[s.eval x]).run P w=.ok (.int .i64 c) w:=by
   cases a with
   | none=>simp[Builtin.cap_,LZ ht,hv.plain_eq rfl,goInt]
   | some a=>
    obtain⟨i,a',cap',g1,g2,g3,g4,g5,g0,g6,g7⟩:=hv.slice_inv;have:=g7 (by simpa using hc);simp[Builtin.cap_,LZ ht,g3,goInt,this]
  simp only[builtin,R9,NZ,Bq,LW,hz,Lz,Nc]
theorem QJ8 {ts:Array TypeId}{x y:Operand}{k:IntKind}{a b:Int}(ex:ev A x=.int k a)(ey:ev A y=.int k b):
  QC P ⟨d,.call ⟨.builtin .max,#[x,y],ts⟩,ty,pos,af,g⟩ A H (.int k (if b>a then b else a)) H:=
 .pure_ λρ w s hs he=>by
  have e1:=VW (he x (by simp[Op.operands,Call.operands])) ex rfl;have e2:=VW (he y (by simp[Op.operands,Call.operands])) ey rfl;refine⟨_,?_,.same _ rfl⟩;rw[QaA];simp[builtin,e1,e2,Builtin.max_,Builtin.max2]
theorem QEm {ts:Array TypeId}{x y:Operand}{k:IntKind}{a b:Int}(ex:ev A x=.int k a)(ey:ev A y=.int k b):
  QC P ⟨d,.call ⟨.builtin .min,#[x,y],ts⟩,ty,pos,af,g⟩ A H (.int k (if b<a then b else a)) H:=
 .pure_ λρ w s hs he=>by
  have e1:=VW (he x (by simp[Op.operands,Call.operands])) ex rfl;have e2:=VW (he y (by simp[Op.operands,Call.operands])) ey rfl;refine⟨_,?_,.same _ rfl⟩;rw[QaA];simp[builtin,e1,e2,Builtin.min_,Builtin.min2]
/-! ### append -/
def Jc (s:ByteArray):List Value:=s.data.toList.map λb=>.int .u8 b.toNat
def J4 (size:Nat)(x:Value)(H:Qa):Option (Nat×List Value):=
 match x with
 | .slice none 0 _=>some (0,[])
 | .slice (some a) m _=>
  if m=0 then some (0,[]) else
  match H.get a.block with
  | some (.cells c _ _)=>if a.off+m * size<=c.length then some (m,(c.drop a.off).take (m * size)) else none
  | _=>none
 | .string s=>if size=1 then some ((bl s).length,Jc s) else none
 | _=>none
theorem QAn {ρ:Ren}{w:World}(hs:Sim P ρ H w){size m:Nat}{x x':Value}{c:List Value}(hx:V ρ x x')(h:J4 size x H=some (m,c)):
  (Builtin.lenOf x').run P w=.ok m w∧c.length=m * size∧∀m',m'<=m->∃c':List Value,VL ρ (c.take (m' * size)) c'∧∀w':World,(∀a:Addr,w'.cell? a=w.cell? a)->(Builtin.firstCells size m' x').run P w'=.ok c'.toArray w':=by
 unfold J4 at h;split at h
 ·cases h;rw[hx.plain_eq rfl];refine⟨rfl,by simp,λm' hm=>⟨[],by simpa using VL.nil ρ,λw' _=>rfl⟩⟩
 ·rename_i a m0 cap;obtain⟨i,a',cap',g1,g2,g3,g4,g5,g0,g6,g7⟩:=hx.slice_inv;split at h
  ·rename_i hm0;cases h;subst hm0;rw[g3];refine⟨rfl,by simp,λm' hm=>⟨[],by simpa using VL.nil ρ,λw' _=>?_⟩⟩;obtain rfl:m'=0:=by omega
   simp[Builtin.firstCells,loadCells,loadCellsFrom]
  ·rename_i hm0;split at h
   ·rename_i cc e ro hg;split at h
    ·rename_i hle;cases h;have ha:a'=i.at_.add a.off:=by rcases g4 with h | ⟨h,_⟩;exact h;omega
     rw[g3];refine⟨rfl,by simp;omega,λm' hm=>?_⟩;have hmul:m' * size<=m * size:=Bs _ hm;obtain⟨cs,k1,k2,k3⟩:=(hs.live _ _ i hg g1).cellsAt a.off (m' * size) (by omega);refine⟨cs,by rw[DE,BC hmul];exact k2,λw' hw'=>?_⟩;have:=run_firstCells_some (P:=P) w' size m' a' m cap' cs k1 (λj v hj=>by rw[hw',ha];exact k3 j v hj);exact this
    ·cases h
   ·cases h
 ·rename_i s;split at h
  ·rename_i hsz;cases h;subst hsz;rw[hx.plain_eq rfl];refine⟨rfl,(by rw[NH];simp only[Jc,Nn,Array.length_toList];rfl),λm' hm=>⟨(Jc s).take (m' * 1),.closed ?_,λw' _=>?_⟩⟩
   ·rw[Li];intro v hv;have:=List.mem_of_mem_take hv;simp only[Jc,N4]at this;obtain⟨b,_,rfl⟩:=this;rfl
   ·simp only[Builtin.firstCells,Nc];congr 1;apply Ru;rw[NH];simp only[Array.toList_map,Jc];simp[ByteArray.data_extract,List.map_take]
  ·cases h
 ·cases h
def QjV:TypeDesc->Bool
 | .slice _=>true
 | .string=>true
 | _=>false
theorem QhH {td:TypeDesc}(h:QjV td=true):td=.string∨∃e,td=.slice e:=by
 cases td<;>simp[QjV]at h
 ·exact .inl rfl
 ·exact .inr ⟨_,rfl⟩
theorem GP {t t2 e:TypeId}{inf:TypeInfo}{td:TypeDesc}{x':Value}{sLen sCap m:Nat}{base:Option Addr}{w w':World}{c':List Value}(ht:P.underlying t=some (.slice e))(ht2:P.underlying t2=some td)(hni:QjV td=true)(hi:P.info? e=some inf)
  (hl:(Builtin.lenOf x').run P w=.ok m w) (hf:(Builtin.firstCells inf.size m x').run P w=.ok c'.toArray w) (hroom:sLen+m<=sCap)
  (hst:∀a,base=some a->(storeCells (a.add (sLen * inf.size)) c').run P w=.ok () w') (hnone:base=none->w'=w):
  (Builtin.append_ #[t,t2] ty #[.slice base sLen sCap,x']).run P w=.ok (.slice base (sLen+m) sCap) w':=by
 cases base with
 | none=>
  obtain rfl:=hnone rfl;rcases QhH hni with rfl | ⟨e',rfl⟩<;>simp[Builtin.append_,LZ ht,LZ ht2,WP hi,hl,hroom,hf]
 | some a=>
  have:=hst a rfl;rcases QhH hni with rfl | ⟨e',rfl⟩<;>simp[Builtin.append_,LZ ht,LZ ht2,WP hi,hl,hroom,hf,this]
theorem Qgp {t t2 e:TypeId}{inf:TypeInfo}{z:Value}{td:TypeDesc}{x':Value}{sLen sCap m:Nat}{base:Option Addr}{w:World}{c' old:List Value}(ht:P.underlying t=some (.slice e))(ht2:P.underlying t2=some td)(hni:QjV td=true)(hi:P.info? e=some inf)(hz0:inf.zero=some z)
  (hl:(Builtin.lenOf x').run P w=.ok m w) (hf:(Builtin.firstCells inf.size m x').run P w.drew=.ok c'.toArray w.drew) (hfo:(Builtin.firstCells inf.size sLen (.slice base sLen sCap)).run P w.drew=.ok old.toArray w.drew) (hroom:¬sLen+m<=sCap)
  (h63:sLen+m<=9223372036854775807) (hby:(sLen+m) * inf.bytes<=140737488355328):
  (Builtin.append_ #[t,t2] ty #[.slice base sLen sCap,x']).run P w=.ok (.slice (some ⟨w.heap.size,0,none⟩) (sLen+m) (grownCap w (sLen+m) sCap e)) (w.drew.alloc (.cells (old.toArray++c'.toArray++Builtin.zeroCells z.cells (grownCap w (sLen+m) sCap e - (sLen+m))) e)):=by
 have h63':¬ (9223372036854775807<((sLen:Int)+(m:Int))):=by omega
 have h48':¬ (281474976710656<Builtin.nextslicecap (sLen+m) sCap * inf.bytes):=by have:=growslice_fits (need:=sLen+m) (old:=sCap) (bytes:=inf.bytes) (by omega) hby;omega
 rcases QhH hni with rfl | ⟨e',rfl⟩<;>simp[Builtin.append_,LZ ht,LZ ht2,sizeOf,typeInfo,zeroValue,hi,hz0,hl,hroom,h63',h48',Question.forced,hf,hfo,newRow,grownCap]<;>(congr 2;apply Ru;simp)
theorem Sim.drew {ρ:Ren}{w:World}(hs:Sim P ρ H w):St ρ H w ρ H w.drew∧Sim P ρ H w.drew:=
  ⟨⟨.refl ρ,Lb _,λ_ _ _ h=>h,λ_ _ b b' _ h hr h'=>(by rw[h]at h';cases h';exact hr),λid i h h'=>(by rw[h']at h;cases h),rfl,rfl,rfl,Lb _,λ_ _ _=>rfl⟩,
   ⟨hs.dom,λid b i h h'=>(hs.live id b i h h').mono (.refl ρ) rfl,hs.sep,hs.glob⟩⟩
theorem Sim.move {ρ:Ren}{w w':World}(hs:Sim P ρ H w){id:Nat}{i i':Kg}{b b':Blk}(hi:ρ id=some i)(hg:H.get id=some b)(hro:b.ro=false)(hw:Qcq w w' i.at_.block)(hi':i'.at_.block=i.at_.block)
  (hb:Xf P (ext ρ H.next i') i' w' b'):St ρ H w (ext ρ H.next i') ((H.kill id).push b') w'∧Sim P (ext ρ H.next i') ((H.kill id).push b') w':=by
 have hn:=hs.none_next;have hsub:=Qfa i' hn;have hne:∀x j,ρ x=some j->x≠H.next:=λx j h e=>by rw[e,hn]at h;cases h
 have hget:∀x,((H.kill id).push b').get x=if x=H.next then some b' else if x=id then none else H.get x:=λx=>by rw[Qd,Qdm,WS]
 refine⟨⟨hsub,by simp,λx j h h'=>?_,λx j b1 b2 h h1 h2 h3=>?_,λx j h h'=>?_,hw.os,hw.tape,hw.output,(by rw[hw.size];exact Lb _),λk hk hnn=>?_⟩,⟨λx j h=>?_,λx bl j h h'=>?_,λid1 id2 b1 b2 i1 i2 h1 h2 h3 h4 h5 h6=>?_,λgg hgg=>?_⟩⟩
 ·rw[hget,Le (hne x j h)];split
  ·rfl
  ·exact h'
 ·rw[hget,Le (hne x j h)]at h3;split at h3
  ·cases h3
  ·rw[h1]at h3;cases h3;exact h2
 ·by_cases e:x=H.next
  ·subst e;rw[W9]at h;cases h;exact⟨Lb _,.inr ⟨id,i,b,hi,hi'.symm,hg,hro⟩⟩
  ·rw[Jg ρ i' e,h']at h;cases h
 ·exact hw.other k (λe=>hnn id i b hi hg hro e.symm)
 ·by_cases e:x=H.next
  ·subst e;simp
  ·rw[Jg ρ i' e]at h;have:=hs.dom _ _ h;simp;omega
 ·by_cases e:x=H.next
  ·subst e;rw[W9]at h';cases h';rw[hget,Lc rfl]at h;cases h;exact hb
  ·rw[Jg ρ i' e]at h';rw[hget,Le e]at h;split at h
   ·cases h
   ·rename_i e2;refine(hs.live x bl j h h').mono hsub (hw.other _ ?_);exact λe'=>hs.sep id x b bl i j hg h hi h' hro (λh=>e2 h.symm) e'.symm
 ·rw[hget]at h1 h2
  by_cases e1:id1=H.next
  ·subst e1;rw[Le (λh=>h6 h.symm)]at h2;split at h2
   ·cases h2
   ·rename_i e2;rw[W9]at h3;cases h3;rw[Jg ρ _ (λh=>h6 h.symm)]at h4;rw[hi'];exact hs.sep id id2 b b2 i i2 hg h2 hi h4 hro (λh=>e2 h.symm)
  ·rw[Le e1]at h1;rw[Jg ρ i' e1]at h3;split at h1
   ·cases h1
   ·rename_i e3
    by_cases e2:id2=H.next
    ·subst e2;rw[W9]at h4;cases h4;rw[hi'];exact hs.sep id1 id b1 b i1 i h1 hg h3 hi h5 e3
    ·rw[Le e2]at h2;rw[Jg ρ i' e2]at h4;split at h2
     ·cases h2
     ·exact hs.sep id1 id2 b1 b2 i1 i2 h1 h2 h3 h4 h5 h6
 ·obtain⟨j,hj,e⟩:=hs.glob gg hgg;exact⟨j,hsub _ _ hj,e⟩
theorem QrH (z:Array Value)(m:Nat):(Builtin.zeroCells z m).toList=Ze z (m * z.size):=by
 simp[Builtin.zeroCells,Ze,Array.toList_range]
theorem Sim.grow {ρ:Ren}{w:World}(hs:Sim P ρ H w){e:TypeId}{inf:TypeInfo}{z:Value}(hok:Qcr P e inf z){o o' c c':List Value}{need cap:Nat}(ho:VL ρ o o')(hc:VL ρ c c')(hl:o.length+c.length=need * inf.size)(hcap:need<=cap)(hc63:cap<UNK):
  let i:Kg:=⟨⟨w.heap.size,0,none⟩,cap * inf.size,P.cellsOf e⟩
  let w':=w.drew.alloc (.cells (o'.toArray++c'.toArray++Builtin.zeroCells z.cells (cap - need)) e)
  St ρ H w (ext ρ H.next i) (H.push (.cells (o++c) e false)) w'∧Sim P (ext ρ H.next i) (H.push (.cells (o++c) e false)) w'∧V (ext ρ H.next i) (.slice (some ⟨H.next,0,none⟩) need (UNK+inf.size)) (.slice (some ⟨w.heap.size,0,none⟩) need cap):=by
 intro i w';obtain⟨s1,s2⟩:=hs.drew;have hlist:(o'.toArray++c'.toArray++Builtin.zeroCells z.cells (cap - need)).toList=(o'++c')++Ze z.cells ((cap - need) * inf.size):=by
  rw[Array.toList_append,QrH,hok.cells];simp
 have hlen2:(o'++c').length=need * inf.size:=by rw[Lh,<- ho.1,<- hc.1];exact hl
 have hmul:need * inf.size+(cap - need) * inf.size=cap * inf.size:=by rw[<- Ry];congr 1;omega
 have hsize:(o'.toArray++c'.toArray++Builtin.zeroCells z.cells (cap - need)).size=cap * inf.size:=by
  rw[<- Array.length_toList,hlist,Lh,hlen2];simp[Ze];exact hmul
 have hb:Xf P (ext ρ H.next i) i (w.drew.alloc (.cells (o'.toArray++c'.toArray++Builtin.zeroCells z.cells (cap - need)) e)) (.cells (o++c) e false):=by
  have hvl:VL (ext ρ H.next i) (o++c) (o'++c'):=(ho.append hc).mono (Qfa _ hs.none_next);refine⟨_,(0,0),heap_alloc_new w.drew _,⟨rfl,rfl⟩,by simp only[i];rw[hsize];simp,?_,λj v hj=>?_,λo _ _=>by simp,λk v hk hkv=>?_,rfl⟩
  ·simp only[i];rw[Lh,hl];exact Bs _ hcap
  ·obtain⟨v',h1,h2⟩:=hvl.get hj;refine⟨v',?_,h2⟩;simp only[i,LP];rw[<- Bl,hlist,LY (Lk.1 h1).1];exact h1
  ·simp only[i,LP]at hk;rw[<- Bl,hlist,LR (by rw[<- hvl.1];exact hk)]at hkv;exact hok.spare (QBh _ _ (by rw[hok.cells];exact hok.pos) hkv)
 obtain⟨t1,t2⟩:=s2.push _ (.cells (o++c) e false) i rfl hb;refine⟨s1.trans t1,t2,?_⟩;refine .slice H.next 0 need _ cap i _ (W9 _ _ _) (.inl (by rw[Qe8])) hcap hc63 (λ_=>?_) (λh=>by omega);simp only[i,LP];rw[hok.cellsOf];exact⟨by omega,rfl⟩
def Qli (e:TypeId)(inf:TypeInfo)(s x:Value)(H:Qa):Option (Value×Qa):=
 match J4 inf.size x H with
 | none=>none
 | some (m,news)=>
  if news.all (·.oneCell')=true then
   match s with
   | .slice none 0 0=>
    if m=0 then some (.slice none 0 0,H) else
    if m<=9223372036854775807∧m * inf.bytes<=140737488355328 then some (.slice (some ⟨H.next,0,none⟩) m (UNK+inf.size),H.push (.cells news e false)) else none
   | .slice (some a) len cap=>
    if m=0 then(if UNK<=cap∨len<=cap then some (.slice (some a) len cap,H) else none) else
    match H.get a.block with
    | some (.cells c e' ro)=>
     if a.off+len * inf.size<=c.length∧len+m<=9223372036854775807∧(len+m) * inf.bytes<=140737488355328 then
      if UNK<=cap then
       if ro=false∧e'=e∧a.off=0∧a.off+len * inf.size=c.length then some (.slice (some ⟨H.next,0,none⟩) (len+m) (UNK+inf.size),(H.kill a.block).push (.cells (c.drop a.off++news) e false))
       else if ro=false∧cap=UNK+inf.size∧a.off+(len+m) * inf.size<=c.length then some (.slice (some a) (len+m) cap,H.set a.block (.cells (splice c (a.off+len * inf.size) news) e' false)) else none
      else if len+m<=cap then
       (if ro=false∧a.off+(len+m) * inf.size<=c.length then some (.slice (some a) (len+m) cap,H.set a.block (.cells (splice c (a.off+len * inf.size) news) e' false)) else none)
      else some (.slice (some ⟨H.next,0,none⟩) (len+m) (UNK+inf.size),H.push (.cells ((c.drop a.off).take (len * inf.size)++news) e false))
     else none
    | _=>none
   | _=>none
  else none
theorem Xf.storeEnd {ρ:Ren}{i:Kg}{w:World}{c:List Value}{e:TypeId}(hb:Xf P ρ i w (.cells c e false)){off:Nat}{vs vs':List Value}(hvs:VL ρ vs vs')(hoff:off<=c.length)(h00:off=0)(hl:c.length+vs.length<=i.n)
  (h1:∀v∈vs,v.oneCell'=true):∃w',(storeCells (i.at_.add c.length) vs').run P w=.ok () w'∧Qcq w w' i.at_.block∧Xf P ρ ⟨i.at_.add off,i.n - off,i.s⟩ w' (.cells (c.drop off++vs) e false):=by
 obtain⟨cur,fz,hh,hsp,hsz,hcl,hcell,hfz,hspare,hes⟩:=hb;have hlen:=hvs.1;have h1':∀v∈vs',v.oneCell'=true:=λv' hv'=>by
  obtain⟨j,hj⟩:=BP hv';have hjl:j<vs.length:=by rw[hlen];exact(Lk.1 hj).1
  have:=hvs.2 j _ v' (La hjl) hj;rw[this.oneCell];exact h1 _ (Nb hjl)
 rw[Qnr hsp.1,Qnr hsp.1];obtain⟨w',cur',hr,hg',hone,hsz',hk⟩:=Qeh P i.at_.block (i.at_.off+c.length) e fz vs' 0 cur w hh (by omega) (λk hk1 hk2=>hfz k (by omega) (by omega)) h1';simp only[N9]at hk;refine⟨w',hr,hone,cur',fz,hg',⟨rfl,by have:=hsp.2;simp only;omega⟩,?_,?_,λj v hj=>?_,λo ho1 ho2=>hfz o (by simp only at ho1;omega) (by rw[hsz']at ho2;exact ho2),λo v ho hov=>?_,hes⟩
 ·simp only;omega
 ·simp;omega
 ·simp only;rw[hk]
  by_cases hin:j<c.length - off
  ·rw[LY (by simpa using hin),Nk]at hj;rw[Le (by omega),Rh];exact hcell _ v hj
  ·rw[LR (by simpa using hin)]at hj;simp only[NT]at hj;have hj2:j - (c.length - off)<vs.length:=(Lk.1 hj).1;rw[Lc ⟨by omega,by omega⟩];rw[show i.at_.off+off+j - (i.at_.off+c.length)=j - (c.length - off) by omega];exact hvs.get hj
 ·simp only[Lh,NT]at ho;rw[hk,Le (by omega)]at hov;exact hspare o v (by omega) hov
theorem GE.kill_push (H:Qa)(id:Nat)(b:Blk):GE ((H.kill id).push b) (H.push b):=by
 refine⟨by simp,λk bl hk=>?_⟩;have h1:=Qd (H.kill id) k b;have h2:=Qd H k b
 by_cases e:k=H.next
 ·rw[Lc (by exact e)]at h1 h2;rw[h1]at hk;rw[h2];exact hk
 ·rw[Le (by exact e)]at h1 h2;rw[h1,WS]at hk;rw[h2]
  by_cases e2:k=id
  ·rw[Lc e2]at hk;cases hk
  ·rw[Le e2]at hk;exact hk
theorem QBi {t t2 e:TypeId}{x y:Operand}{inf:TypeInfo}{z:Value}{td:TypeDesc}{v:Value}{H':Qa}(ht:P.underlying t=some (.slice e))(ht2:P.underlying t2=some td)(hni:QjV td=true)(hok:Qcr P e inf z)
  (h:Qli e inf (ev A x) (ev A y) H=some (v,H')):QC P ⟨d,.call ⟨.builtin .append,#[x,y],#[t,t2]⟩,ty,pos,af,g⟩ A H v H':=
 .of_run λρ w s hs he=>by
  rw[QaA];have hvx:=he x (by simp[Op.operands,Call.operands]);have hvy:=he y (by simp[Op.operands,Call.operands])
  suffices hmain:∃v' ρ' w',(Builtin.append_ #[t,t2] ty #[s.eval x,s.eval y]).run P w=.ok v' w'∧V ρ' v v'∧St ρ H w ρ' H' w'∧Sim P ρ' H' w' by
   obtain⟨v',ρ',w',h1,h2,h3,h4⟩:=hmain;refine⟨v',ρ',w',?_,h2,h3,h4⟩;simp only[builtin,R9,NZ,Bq,LW,h1,Lz,Nc]
  generalize ev A x=u at hvx h;generalize ev A y=u2 at hvy h;generalize s.eval x=x' at hvx;generalize s.eval y=y' at hvy;unfold Qli at h;split at h
  ·cases h
  ·rename_i m news hsrc;obtain⟨hlen,hcl,hcs⟩:=QAn hs hvy hsrc;obtain⟨c',hvl,hfc⟩:=hcs m (Lb _);rw[LF (by omega)]at hvl;have hfw:=hfc w (λ_=>rfl);have hfd:=hfc w.drew (λ_=>rfl);split at h
   ·rename_i hone;have hone':∀v∈news,v.oneCell'=true:=λv hv=>Li.1 hone v hv;split at h
    ·-- nil
     have e1:=hvx.plain_eq rfl;subst e1;split at h
     ·rename_i hm0;cases h;subst hm0;exact⟨.slice none 0 0,ρ,w,GP ht ht2 hni hok.info hlen hfw (by omega) (λa h=>by cases h) (λ_=>rfl),.same _ rfl,.refl _ _ _,hs⟩
     ·rename_i hm0;split at h
      ·rename_i hbd;cases h;have hroom:¬0+m<=0:=by omega
       have hr:=Qgp (ty:=ty) (old:=[]) (base:=none) (sCap:=0) ht ht2 hni hok.info hok.zero hlen hfd rfl hroom (by omega) (by rw[LP];exact hbd.2);obtain⟨g1,g2,g3⟩:=hs.grow hok (o:=[]) (o':=[]) (.nil ρ) hvl (need:=m) (cap:=grownCap w (0+m) 0 e) (by simpa using hcl) (by have:=grownCap_ge w (0+m) 0 e;omega) (by
        have:=grownCap_le_maxLen w (0+m) 0 e (by simp only[maxLen];omega);simp only[maxLen,UNK]at *;omega)
       rw[LP]at hr g1 g2 g3;exact⟨_,_,_,hr,g3,g1,g2⟩
      ·cases h
    ·rename_i a len cap;obtain⟨i,a',cap',g1,g2,g3,g4,g5,g0,g6,g7⟩:=hvx.slice_inv;obtain⟨id,off,sp⟩:=a;simp only at g1 g2 g4 g6 g7 h;subst g2;subst g3;split at h
     ·rename_i hm0;split at h
      ·rename_i hcc;cases h;subst hm0;have hnil:c'=[]:=by
        have:news=[]:=N2.1 (by simpa using hcl);rw[this]at hvl;exact hvl.unnil
       subst hnil;exact⟨_,ρ,w,GP ht ht2 hni hok.info hlen hfw (by omega) (λa _=>rfl) (λh=>by cases h),hvx,.refl _ _ _,hs⟩
      ·cases h
     ·rename_i hm0;split at h
      ·rename_i c e' ro hg;split at h
       ·rename_i hb;obtain⟨hb1,hb2,hb3⟩:=hb;have hlive:=hs.live id _ i hg g1;obtain⟨o',k1,k2,k3⟩:=hlive.cellsAt off (len * inf.size) hb1;have hold:(Builtin.firstCells inf.size len (.slice (some a') len cap')).run P w.drew=.ok o'.toArray w.drew:=by
         by_cases hl0:len=0
         ·subst hl0;have:o'=[]:=N2.1 (by simpa using k1);subst this;simp[Builtin.firstCells,loadCells,loadCellsFrom]
         ·have ha:a'=i.at_.add off:=by rcases g4 with h | ⟨h,_⟩;exact h;omega
          exact run_firstCells_some (P:=P) w.drew inf.size len a' len cap' o' k1 (λj v hj=>by rw[ha];exact k3 j v hj)
        have hgrow:¬len+m<=cap'->∃v' ρ' w',(Builtin.append_ #[t,t2] ty #[.slice (some a') len cap',y']).run P w=.ok v' w'∧V ρ' (.slice (some ⟨H.next,0,none⟩) (len+m) (UNK+inf.size)) v'∧
          St ρ H w ρ' (H.push (.cells ((c.drop off).take (len * inf.size)++news) e false)) w'∧Sim P ρ' (H.push (.cells ((c.drop off).take (len * inf.size)++news) e false)) w':=λhroom=>by
         have hr:=Qgp (ty:=ty) (old:=o') ht ht2 hni hok.info hok.zero hlen hfd hold hroom hb2 hb3;obtain⟨g1,g2,g3⟩:=hs.grow hok k2 hvl (need:=len+m) (cap:=grownCap w (len+m) cap' e) (by rw[k2.1,k1,hcl,Ry]) (grownCap_ge w (len+m) cap' e) (by
          have:=grownCap_le_maxLen w (len+m) cap' e (by simp only[maxLen];omega);simp only[maxLen,UNK]at *;omega)
         exact⟨_,_,_,hr,g3,g1,g2⟩
        split at h
        ·rename_i hu;split at h
         ·rename_i hcnd;obtain⟨hro,he',hz0,hend⟩:=hcnd;cases h;subst hro;subst he'
          by_cases hroom:len+m<=cap'
          ·obtain⟨hes0,g6'⟩:=g6 hu;have hes:i.s=inf.size:=by
            obtain⟨cur,fz,_,_,_,_,_,_,_,he⟩:=hlive;rw[he,hok.cellsOf]
           have ha:a'=i.at_.add off:=by rcases g4 with h | ⟨h,h'⟩;exact h;omega
           have hfit:c.length+news.length<=i.n:=by
            rw[hes]at g6';have:(len+m) * inf.size<=cap' * inf.size:=Bs _ hroom;rw[Ry]at this;omega
           obtain⟨w',hr,hone1,hbr⟩:=hlive.storeEnd (off:=off) hvl (by omega) hz0 hfit hone';obtain⟨q1,q2⟩:=hs.move (i':=⟨i.at_.add off,i.n - off,i.s⟩) g1 hg rfl hone1 (by simp[block_add]) (hbr.mono (Qfa _ hs.none_next) rfl);refine⟨.slice (some a') (len+m) cap',_,w',GP ht ht2 hni hok.info hlen hfw hroom (λb hb=>?_) (λh=>by cases h),?_,q1,q2⟩
           ·cases hb;rw[ha,Gi,hend];exact hr
           ·refine .slice H.next 0 (len+m) _ cap' _ a' (W9 _ _ _) (.inl ?_) hroom g0 (λ_=>?_) (λh=>by omega)
            ·simp only[Gi,N9];exact ha
            ·simp only[LP];exact⟨by omega,by omega⟩
          ·obtain⟨v',ρ',w',r1,r2,r3,r4⟩:=hgrow hroom;have hdrop:(c.drop off).take (len * inf.size)=c.drop off:=LF (by simp;omega);rw[hdrop]at r3 r4;have hless:=GE.kill_push H id (.cells (c.drop off++news) e' false);exact⟨v',ρ',w',r1,r2,r3.less hless,r4.less hless⟩
         ·split at h
          ·rename_i hcnd;obtain⟨hro,hcu,hfit⟩:=hcnd;cases h;subst hro;obtain⟨hes0,g6'⟩:=g6 hu;have hes:i.s=inf.size:=by omega
           have hl2:=hlive;obtain⟨cur,fz,hcur,_,hcsz,hcle,_⟩:=hl2;have hroom:len+m<=cap':=by
            rcases Nq cap' (len+m) with hlt | hge
            ·exfalso;have h1:(cap'+1) * inf.size<=(len+m) * inf.size:=Bs _ hlt;have h2:(cap'+1) * inf.size=cap' * inf.size+inf.size:=Nat.succ_mul _ _;have h3:0<inf.size:=by have:=hok.pos;have:=hok.cells;omega
             rw[hes]at g6';omega
            ·exact hge
           have ha:a'=i.at_.add off:=by rcases g4 with h | ⟨h,h'⟩;exact h;omega
           obtain⟨w',hr,hone1,hbr⟩:=hlive.storeList (off:=off+len * inf.size) hvl (by rw[hcl];rw[Ry]at hfit;omega) hone';obtain⟨q1,q2⟩:=hs.setBlk g1 hg rfl hone1 hbr;refine⟨.slice (some a') (len+m) cap',ρ,w',GP ht ht2 hni hok.info hlen hfw hroom (λb hb=>?_) (λh=>by cases h),?_,q1,q2⟩
           ·cases hb;rw[ha,Gi];exact hr
           ·exact .slice id off (len+m) cap cap' i a' g1 (.inl ha) hroom g0 (λ_=>⟨hes0,g6'⟩) (λh=>by omega)
          ·cases h
        ·rename_i hu;have g7':=g7 (by omega);subst g7';split at h
         ·rename_i hroom;split at h
          ·rename_i hcnd;cases h;obtain⟨hro,hfit⟩:=hcnd;subst hro;have ha:a'=i.at_.add off:=by rcases g4 with h | ⟨h,h'⟩;exact h;omega
           obtain⟨w',hr,hone1,hbr⟩:=hlive.storeList (off:=off+len * inf.size) hvl (by rw[hcl];rw[Ry]at hfit;omega) hone';obtain⟨q1,q2⟩:=hs.setBlk g1 hg rfl hone1 hbr;refine⟨.slice (some a') (len+m) cap',ρ,w',GP ht ht2 hni hok.info hlen hfw hroom (λb hb=>?_) (λh=>by cases h),?_,q1,q2⟩
           ·cases hb;rw[ha,Gi];exact hr
           ·exact .slice id off (len+m) cap' cap' i a' g1 (.inl ha) hroom g0 (λh=>by omega) (λ_=>rfl)
          ·cases h
         ·rename_i hroom;cases h;exact hgrow hroom
       ·cases h
      ·cases h
    ·cases h
   ·cases h
end
inductive Out where
 | ret (v:Value)
 | pan (v:Value)
def QCA (ρ:Ren):Out->Ending->Prop
 | .ret v,.returned v'=>V ρ v v'
 | .pan v,.panicked ch=>∃v',V ρ v v'∧ch=[{v:=v',recovered:=false}]
 | _,_=>False
def Qgq (P:Program)(f:FuncId)(args:List Value)(H:Qa)(o:Out)(H':Qa):Prop:=
 ∀ρ w args',Sim P ρ H w->VL ρ args args'->Calls P f args'.toArray w λe w'=>∃ρ',QCA ρ' o e∧St ρ H w ρ' H' w'∧Sim P ρ' H' w'
theorem Qgq.less {P:Program}{f:FuncId}{args:List Value}{H:Qa}{o:Out}{H1 H2:Qa}(h:Qgq P f args H o H1)(l:GE H2 H1):Qgq P f args H o H2:=
 λρ w args' hs ha=>(h ρ w args' hs ha).mono λe w' ⟨ρ',h1,h2,h3⟩=>⟨ρ',h1,h2.less l,h3.less l⟩
def QdH (args:List Value):Env:=λt=>args.getD t undef
section
variable {P:Program} {n:Nat} {Q:Ex->Env->Qa->Prop} {A:Env} {H:Qa} {d:Option Nat} {ty:TypeId} {pos:String} {af:Array Edge} {g:Option (Nat×Bool)}
def QcT (P:Program)(n:Nat)(A:Env)(H:Qa):ResultVar->Option Value
 | .tmp t=>if t<n then some (A t) else none
 | .cell a t=>if a<n then(match A a with | .pointer (some ad)=>ZC P t ad H | _=>none) else none
def Qmv (P:Program)(n:Nat)(rs:Array ResultVar)(A:Env)(H:Qa):Option Value:=
 match rs.toList with
 | [r]=>QcT P n A H r
 | l=>(l.mapM (QcT P n A H)).map λvs=>.tuple vs.toArray
def Qp8 (tmps:Array Value):ResultVar->Sem Value
 | .tmp t=>pure (tmps.getD t undef)
 | .cell a t=>do loadVar t (<- asAddr (tmps.getD a undef))
theorem QwF {ρ:Ren}{w:World}{a:Act}(hs:Sim P ρ H w)(he:EnvRel ρ n A a){r:ResultVar}{v:Value}(h:QcT P n A H r=some v):∃v',(Qp8 a.tmps r).run P w=.ok v' w∧V ρ v v':=by
 cases r with
 | tmp t=>
  simp only[QcT]at h;split at h
  ·rename_i ht;cases h;exact⟨_,rfl,he.tmps t ht⟩
  ·cases h
 | cell p t=>
  simp only[QcT]at h;split at h
  ·rename_i ht;split at h
   ·rename_i ad ead;have hv:=he.tmps p ht;rw[ead]at hv;obtain⟨i,g1,g2,g3⟩:=hv.ptr_inv;obtain⟨id,off,sp⟩:=ad;simp only at g1 g2 g3;subst g2;obtain⟨c,e,ro,hg⟩:=QjU h;obtain⟨v',h1,h2⟩:=Qo8 g1 hg (hs.live id _ i hg g1) h;refine⟨v',?_,h2⟩;simp only[Qp8,g3,asAddr,LW,Nc,Lz,h1]
   ·cases h
  ·cases h
theorem QwG {ρ:Ren}{w:World}{a:Act}(hs:Sim P ρ H w)(he:EnvRel ρ n A a):∀ (rs:List ResultVar) (vs:List Value),rs.mapM (QcT P n A H)=some vs->∃vs',(rs.mapM (Qp8 a.tmps)).run P w=.ok vs' w∧VL ρ vs vs'
 | [],vs,h=>by simp at h;subst h;exact⟨[],rfl,.nil ρ⟩
 | r::rs,vs,h=>by
  simp only[Ra,BV,BY,Rx,Lt]at h;obtain⟨v,hv,vs0,hvs,rfl⟩:=h;obtain⟨v',h1,h2⟩:=QwF hs he hv;obtain⟨vs',h3,h4⟩:=QwG hs he rs vs0 hvs;refine⟨v'::vs',?_,.cons h2 h4⟩;simp only[Ra,LW,h1,Lz,h3,Nc]
theorem QyB (fn:Func)(tmps:Array Value)(w:World):(results fn tmps).run P w=((fn.results.toList.mapM (Qp8 tmps)).run P w).andThen λvs w'=>.ok (if h:vs.length=1 then vs[0] else .tuple vs.toArray) w':=by
 unfold results;rw[Array.mapM_eq_mapM_toList];simp only[LW,Sem.run_map];have key:∀F:ResultVar->Sem Value,(∀r,F r=Qp8 tmps r)->((Sem.run P (List.mapM F fn.results.toList) w).andThen (λa w'=>Result.ok a.toArray w')).andThen (λa w'=>Sem.run P (pure (if h:a.size=1 then a[0] else Value.tuple a)) w') =
   (Sem.run P (List.mapM (Qp8 tmps) fn.results.toList) w).andThen λvs w'=>Result.ok (if h:vs.length=1 then vs[0] else Value.tuple vs.toArray) w':=by
  intro F hF;obtain rfl:F=Qp8 tmps:=funext hF;cases(fn.results.toList.mapM (Qp8 tmps)).run P w with
  | ok vs w'=>
   simp only[Lz,Nc];congr 1
  | halt x w'=>rfl
 exact key _ (λr=>by cases r<;>rfl)
theorem Qp9 {ρ:Ren}{w:World}{a:Act}(hs:Sim P ρ H w)(he:EnvRel ρ n A a){fn:Func}{v:Value}(h:Qmv P n fn.results A H=some v):∃v',(results fn a.tmps).run P w=.ok v' w∧V ρ v v':=by
 rw[QyB];unfold Qmv at h;split at h
 ·rename_i r hr;rw[hr];obtain⟨v',h1,h2⟩:=QwF hs he h;refine⟨v',?_,h2⟩;simp only[Ra,FO,LW,h1,Lz,Nc];rfl
 ·rename_i hne;simp only[Lx]at h;obtain⟨vs,hvs,rfl⟩:=h;obtain⟨vs',h1,h2⟩:=QwG hs he _ vs hvs;have hl:vs'.length≠1:=by
   rw[<- h2.1];have hlen:vs.length=fn.results.toList.length:=mapM_length hvs;rw[hlen];intro hc;obtain⟨r,hr⟩:=List.length_eq_one_iff.1 hc;exact hne r hr
  refine⟨.tuple vs'.toArray,?_,.tuple _ _ (by simpa using h2.1) (λj x x' a b=>h2.2 j x x' (by simpa using a) (by simpa using b))⟩;rw[h1];simp only[Lz,hl,dite_false]
 where
 mapM_length {α β:Type} {f:α->Option β} {l:List α} {r:List β} (h:l.mapM f=some r):r.length=l.length:=by
  induction l generalizing r with
  | nil=>simp at h;subst h;rfl
  | cons x l ih=>
   simp only[Ra,BV,BY,Rx,Lt]at h;obtain⟨b,_,r',hr',rfl⟩:=h;simp[ih hr']
theorem QuZ {ρ:Ren}{args args':List Value}(m:Nat)(h:VL ρ args args'):EnvRel ρ (args.length+(m - args.length)) (QdH args) {tmps:=args'.toArray++Array.replicate (m - args'.toArray.size) undef,defers:=[]}:=by
 have hl:=h.1;refine⟨by simp[hl],λt ht=>?_⟩;simp only[QdH];rw[N0]
 by_cases hlt:t<args.length
 ·obtain⟨x',h1,h2⟩:=h.get (La hlt);rw[Array.getElem?_append_left (by simpa[<- hl] using hlt)];have h1':args'.toArray[t]? = some x':=by simpa using h1
  rw[h1'];simp only[List.getD,La hlt,NB];exact h2
 ·have e1:args.getD t undef=undef:=by simp[List.getD,N7 (by omega:args.length<=t)]
  rw[e1,Array.getElem?_append_right (by simp;omega),Array.getElem?_replicate];split
  ·exact .closed (by simp[undef,ZB])
  ·exact .closed (by simp[undef,ZB])
def QGJ (P:Program)(n:Nat)(rs:Array ResultVar)(o:Out)(H':Qa):Ex->Env->Qa->Prop
 | .normal,A,H1=>∃v,o=.ret v∧Qmv P n rs A H1=some v∧GE H' H1
 | .ret,A,H1=>∃v,o=.ret v∧Qmv P n rs A H1=some v∧GE H' H1
 | .panic v,A,H1=>o=.pan v∧GE H' H1
 | _,_,_=>False
/-! ### Blocks that nothing known may write, written by the machine -/
theorem Sim.putHid {ρ:Ren}{w:World}{b:Nat}{o o':Obj}(hs:Sim P ρ H w)(hh:Hid ρ H w b o):Sim P ρ H (w.putObj b o'):=
 ⟨hs.dom,λid bl i hb hi=>(hs.live id bl i hb hi).mono (.refl ρ) (World.putObj_heap_other (hh.un id i bl hi hb)),hs.sep,hs.glob⟩
theorem St.putHid {ρ0 ρ:Ren}{H0:Qa}{w0 w:World}{b:Nat}{o':Obj}(hst:St ρ0 H0 w0 ρ H w)(hb:w0.heap.size<=b):St ρ0 H0 w0 ρ H (w.putObj b o'):=
 {hst with
  size:=by simpa using hst.size
  frame:=λk hk hn=>by rw[World.putObj_heap_other (by omega)];exact hst.frame k hk hn}
theorem Hid.put {ρ:Ren}{w:World}{b d:Nat}{o o':Obj}(h:Hid ρ H w d o)(hne:d≠b):Hid ρ H (w.putObj b o') d o:=
 ⟨by rw[World.putObj_heap_other hne];exact h.at_,h.un⟩
theorem Hid.same {ρ:Ren}{w:World}{b:Nat}{o o':Obj}(h:Hid ρ H w b o):Hid ρ H (w.putObj b o') b o':=⟨World.putObj_heap_same h.lt,h.un⟩
theorem QhI {fn:Func}{tmps:Array Value}{R:Ending->World->Prop}{u:FrameMode}{z:Rd}{ρ0 ρ:Ren}{H0:Qa}{w0:World}(hu:u≠.run):∀ (ds:List Nat) (w:World),ds.Nodup->(∀d∈ds,w0.heap.size<=d∧Hid ρ H w d (.deferred (some [])))->
  St ρ0 H0 w0 ρ H w->Sim P ρ H w->(∀w,St ρ0 H0 w0 ρ H w->Sim P ρ H w->LeavesIn (fen z) 0 P fn tmps R [] u w)->LeavesInM (fen z) 0 P fn tmps R (ds.map Qwx) u w
 | [],w,_,_,hst,hs,h=>h w hst hs
 | d::ds,w,hn,hd,hst,hs,h=>by
  obtain⟨h1,h2⟩:=hd d (by simp);refine⟨hu,.inl ⟨d,_,rfl,run_takeDeferred h2.at_,?_⟩⟩;rw[FR]at hn;exact QhI hu ds _ hn.2 (λx hx=>⟨(hd x (by simp[hx])).1,(hd x (by simp[hx])).2.put (λe=>hn.1 (e▸hx))⟩) (hst.putHid h1) (hs.putHid h2) h
theorem QrI {f:FuncId}{fn:Func}{c:Code}{args:List Value}{o:Out}{H':Qa}(hf:P.funcs[f]? = some fn)(hb:fn.body=some c)
  (h:AWp P (args.length+(fn.ntmps - args.length)) c (QGJ P (args.length+(fn.ntmps - args.length)) fn.results o H') (QdH args) H):Qgq P f args H o H':=by
 intro ρ w args' hs ha;refine callsIn_wide.1 (callsIn_of_wp_marks (F:=fen ⟨none,w.heap.size,[]⟩) (n:=0) hf hb trivial (FF (h ⟨none,w.heap.size,[]⟩ ρ w _ hs ⟨QuZ fn.ntmps ha,⟨⟨[],rfl,.nil,λd hd=>by simp at hd⟩,λl hl=>by simp at hl,Lb _⟩⟩) ?_));rintro e a1 w1 ⟨e',ρ1,A1,H1,hq,hst,hs1,he1,hr⟩;obtain⟨ds,hds,hnd,hdh⟩:=he1.fr.marks;have hds:a1.defers=ds.map Qwx:=hds.trans (Na _);cases e'<;>cases e<;>simp only[Qp4]at hr<;>simp only[QGJ]at hq
 case panic.panic v ch=>
  obtain⟨rfl,hl⟩:=hq;show LeavesInM _ _ _ _ _ _ a1.defers _ _;rw[hds];exact QhI (by simp) ds w1 hnd hdh hst hs1 (λw2 hst2 hs2=>⟨ρ1,hr,hst2.less hl,hs2.less hl⟩)
 all_goals
  obtain⟨v,rfl,hv,hl⟩:=hq;show LeavesInM _ _ _ _ _ _ a1.defers _ _;rw[hds];refine QhI (by simp) ds w1 hnd hdh hst hs1 (λw2 hst2 hs2=>?_);obtain⟨v',h1,h2⟩:=Qp9 hs2 he1.toEnvRel (fn:=fn) hv;exact⟨v',h1,ρ1,h2,hst2.less hl,hs2.less hl⟩
/-! ### Calls -/
def entered (P:Program)(f:FuncId):Bool:=
 match P.funcs[f]? with
 | some fn=>!(fn.name == "runtime.NumGoroutine")&&fn.body.isSome
 | none=>false
theorem Qd0 {f:FuncId}(h:entered P f=true)(args:Array Value)(w:World):(callFunc f args).run P w=.ok (.enter f args) w:=by
 unfold entered at h;split at h
 ·rename_i fn hf;simp only[Lm,Lr]at h;obtain⟨h1,h2⟩:=h;have h3:fn.body.isNone=false:=by cases hb:fn.body<;>simp_all
  simp only[callFunc,LW,DJ,Lz,hf,h1,LV,LN,h3,Nc]
 ·cases h
theorem QyC (P:Program)(z:Rd)(m:Machine):m.fenced P (fen z):=fenced_wide P m
theorem Qqa {z:Rd}{m m':Machine}:StepsIn (Machine.fenced P (fen z)) P m m'↔Steps P m m':=by
 have:Machine.fenced P (fen z)=Machine.fenced P Fence.wide:=funext λm=>propext ⟨λ_=>fenced_wide P m,λ_=>QyC P z m⟩;rw[this];exact stepsIn_wide
theorem Qqb {z:Rd}{n:Nat}{f:FuncId}{args:Array Value}{w:World}{R:Ending->World->Prop}(h:Calls P f args w R):CallsIn (fen z) n P f args w R:=by
 refine⟨trivial,λcs _=>?_⟩;obtain⟨e,w',fr,r,s,x⟩:=h cs;refine⟨e,w',fr,r,?_,x⟩;cases e with
 | returned v=>exact Qqa.2 s
 | panicked ch=>exact Qqa.2 s
 | outgrown=>exact s
theorem QrJ {o:Oper}{f:FuncId}{args:List Value}{v:Value}{H':Qa}
  (hr:∀ρ w a,Sim P ρ H w->Qp5 ρ o A a->∃args',VL ρ args args'∧(execOp a.eval o).run P w=.ok (.enter f args'.toArray) w) (hd:Qgq P f args H (.ret v) H'):QC P o A H v H':=by
 intro ρ w a hs he K Q hk z;obtain⟨args',ha,hrun⟩:=hr ρ w a hs he;refine⟨λ_ _=>trivial,?_⟩;rw[QjR hrun (by simp) _];refine⟨λh=>by simp[fen,Fence.wide]at h,?_⟩;refine Qqb ((hd ρ w args' hs ha).mono ?_);rintro e w' ⟨ρ',ho,hst,hs'⟩;cases e with
 | returned v'=>exact hk v' ρ' w' ho hst hs'
 | panicked ch=>exact ho.elim
 | outgrown=>exact ho.elim
def QAo (P:Program)(f:FuncId)(args:List Value)(H:Qa)(v:Value)(H':Qa):Prop:=
 ∀ρ w args',Sim P ρ H w->VL ρ args args'->∃v' ρ' w',(callFunc f args'.toArray).run P w=.ok (.value v') w'∧V ρ' v v'∧St ρ H w ρ' H' w'∧Sim P ρ' H' w'
def GQ (P:Program)(f:FuncId)(args:List Value)(H:Qa)(v:Value)(H':Qa):Prop:=
 (entered P f=true∧Qgq P f args H (.ret v) H')∨QAo P f args H v H'
theorem Qpc {o:Oper}{f:FuncId}{args:List Value}{v:Value}{H':Qa}
  (hr:∀ρ w a,Sim P ρ H w->Qp5 ρ o A a->∃args',VL ρ args args'∧(execOp a.eval o).run P w=(callFunc f args'.toArray).run P w) (hd:GQ P f args H v H'):QC P o A H v H':=by
 rcases hd with⟨he,hd⟩ | hx
 ·refine QrJ (λρ w a hs ho=>?_) hd;obtain⟨args',h1,h2⟩:=hr ρ w a hs ho;exact⟨args',h1,by rw[h2,Qd0 he]⟩
 ·refine .of_run λρ w a hs ho=>?_;obtain⟨args',h1,h2⟩:=hr ρ w a hs ho;rw[h2];exact hx ρ w args' hs h1
theorem Qrk {f:FuncId}{args:Array Operand}{ts:Array TypeId}{v:Value}{H':Qa}(hd:GQ P f (args.map (ev A)).toList H v H'):
  QC P ⟨d,.call ⟨.value (.func f),args,ts⟩,ty,pos,af,g⟩ A H v H':=
 Qpc (λρ w a hs he=>⟨(args.map a.eval).toList,Qua (λx hx=>he x (by simp[Op.operands,Call.operands,hx])),by
  simp only[execOp,resolve,Deferred.ofValue,Act.eval,invoke,pure_bind,Array.empty_append,Array.append_empty,RE]⟩) hd
theorem V.func_inv {ρ:Ren}{f:FuncId}{xs ys:Array Value}{z:Value}(h:V ρ (.func (.func f) xs ys) z):∃xs' ys',z=.func (.func f) xs' ys'∧VL ρ xs.toList xs'.toList∧VL ρ ys.toList ys'.toList:=by
 cases h with
 | same _ hp=>simp[plain]at hp
 | func fn xs ys xs' ys' hn h1 h2 h3 h4=>
  exact⟨xs',ys',rfl,⟨by simpa using h1,λj x x' a b=>h3 j x x' (by simpa using a) (by simpa using b)⟩,⟨by simpa using h2,λj x x' a b=>h4 j x x' (by simpa using a) (by simpa using b)⟩⟩
theorem QwH {f:FuncId}{c:Operand}{args:Array Operand}{ts:Array TypeId}{xs ys:Array Value}{v:Value}{H':Qa}(ec:ev A c=.func (.func f) xs ys)
  (hd:GQ P f (xs.toList++(args.map (ev A)).toList++ys.toList) H v H'):QC P ⟨d,.call ⟨.value c,args,ts⟩,ty,pos,af,g⟩ A H v H':=
 Qpc (λρ w a hs he=>by
  have hv:=he c (by simp[Op.operands,Call.operands]);rw[ec]at hv;obtain⟨xs',ys',e,h1,h2⟩:=hv.func_inv;refine⟨xs'.toList++(args.map a.eval).toList++ys'.toList,(h1.append (Qua (λx hx=>he x (by simp[Op.operands,Call.operands,hx])))).append h2,?_⟩;simp only[execOp,resolve,e,Deferred.ofValue,invoke,pure_bind];congr 2;apply Ru;simp) hd
/-! ### Panics -/
theorem GQ.does {f:FuncId}{args:List Value}{v:Value}{H':Qa}(he:entered P f=true)(h:GQ P f args H v H'):Qgq P f args H (.ret v) H':=by
 rcases h with⟨_,hd⟩ | hx
 ·exact hd
 ·intro ρ w args' hs ha;obtain⟨v',ρ',w',h1,_⟩:=hx ρ w args' hs ha;rw[Qd0 he]at h1;cases h1
/-! ### What the model runs itself -/
inductive Xk where
 | count | indexByte | noEscape | add64
def Xk.entry:Xk->Array Value->Sem Value
 | .count=>Extern.BytealgCount.count
 | .indexByte=>Extern.BytealgIndexByte.indexByte
 | .noEscape=>Extern.AbiNoEscape.same
 | .add64=>λargs=>do
  let (x,y,c) <- Extern.MathBitsCarry.three "Add64" args
  pure (Extern.MathBitsCarry.pair ((x+y+c) % Extern.MathBitsCarry.m64) ((x+y+c) / Extern.MathBitsCarry.m64))
def Xk.val:Xk->List Value->Option Value
 | .count,[.string s,.int .u8 c]=>some (.int .i64 (Lib.countByte (bl s) c.toNat.toUInt8))
 | .indexByte,[.string s,.int .u8 c]=>some (.int .i64 (Lib.indexByte (bl s) c.toNat.toUInt8))
 | .noEscape,[x]=>some x
 | .add64,[.int .u64 x,.int .u64 y,.int .u64 c]=>if c.toNat<=1 then some (.tuple #[.int .u64 (((x.toNat+y.toNat+c.toNat) % 18446744073709551616:Nat):Int),.int .u64 (((x.toNat+y.toNat+c.toNat) / 18446744073709551616:Nat):Int)]) else none
 | _,_=>none
def IsExt (P:Program)(f:FuncId)(k:Xk):Prop:=
 ∃fn,P.funcs[f]? = some fn∧(fn.name == "runtime.NumGoroutine")=false∧fn.body.isNone=true∧(Extern.findNext fn).isNone=true∧Extern.find fn=some k.entry
set_option maxHeartbeats 800000 in
theorem QCB {f:FuncId}{k:Xk}{args:List Value}{v:Value}(hx:IsExt P f k)(hv:k.val args=some v):QAo P f args H v H:=by
 obtain⟨fn,h1,h2,h3,h4,h5⟩:=hx;have h4:Extern.findNext fn=none:=by simpa using h4
 intro ρ w args' hs ha;rw[run_callFunc_extern h1 h2 h3 h4 h5];unfold Xk.val at hv;split at hv
 ·rename_i s c;cases hv;obtain⟨x,l,rfl,hx,hl⟩:=ha.uncons;obtain⟨y,l,rfl,hy,hl⟩:=hl.uncons;obtain rfl:=hl.unnil;rw[hx.plain_eq rfl,hy.plain_eq rfl];refine⟨_,ρ,w,?_,.same _ rfl,.refl _ _ _,hs⟩;rw[show Xk.count.entry=Extern.BytealgCount.count from rfl,Lib.run_countString];rfl
 ·rename_i s c;cases hv;obtain⟨x,l,rfl,hx,hl⟩:=ha.uncons;obtain⟨y,l,rfl,hy,hl⟩:=hl.uncons;obtain rfl:=hl.unnil;rw[hx.plain_eq rfl,hy.plain_eq rfl];refine⟨_,ρ,w,?_,.same _ rfl,.refl _ _ _,hs⟩;rw[show Xk.indexByte.entry=Extern.BytealgIndexByte.indexByte from rfl,Lib.run_indexByteString];rfl
 ·rename_i x;cases hv;obtain⟨y,l,rfl,hy,hl⟩:=ha.uncons;obtain rfl:=hl.unnil;exact⟨y,ρ,w,rfl,hy,.refl _ _ _,hs⟩
 ·rename_i x y c;split at hv
  ·rename_i hc;cases hv;obtain⟨x1,l,rfl,hx1,hl⟩:=ha.uncons;obtain⟨x2,l,rfl,hx2,hl⟩:=hl.uncons;obtain⟨x3,l,rfl,hx3,hl⟩:=hl.uncons;obtain rfl:=hl.unnil;rw[hx1.plain_eq rfl,hx2.plain_eq rfl,hx3.plain_eq rfl];refine⟨_,ρ,w,?_,.closed (by simp[ZB,plain]),.refl _ _ _,hs⟩;have hn:¬c.toNat>1:=by omega
   have hdef:Extern.MathBitsCarry.three "Add64" #[.int .u64 x,.int .u64 y,.int .u64 c]=(do
     let c:=(<- asInt (.int .u64 c)).toNat
     if c>1 then unsupported (.noEntry ("extern/math/bits." ++ "Add64" ++ ": a carry that is neither 0 nor 1"))
     pure ((<- asInt (.int .u64 x)).toNat,(<- asInt (.int .u64 y)).toNat,c)):=rfl
   have h3:(Extern.MathBitsCarry.three "Add64" #[.int .u64 x,.int .u64 y,.int .u64 c]).run P w=.ok (x.toNat,y.toNat,c.toNat) w:=by
    rw[hdef];have hi:∀ (k:IntKind) (m:Int),(asInt (.int k m)).run P w=.ok m w:=λ_ _=>rfl;simp only[LW,hi,Lz,Le hn,Nc]
   simp only[Xk.entry,LW,h3,Lz,Nc];rfl
  ·cases hv
 ·cases hv
end
section
variable {P:Program} {n:Nat} {A:Env} {H:Qa} {d:Option Nat} {ty:TypeId} {pos:String} {af:Array Edge} {g:Option (Nat×Bool)}
theorem Qpg (w:World)(e:TypeId)(s:ByteArray):Lib.bytesWorld w e s=w.drew.alloc (.cells (Lib.bytesCells w e s) e ((Lib.bytesCells w e s).size,(Lib.bytesCells w e s).size+1)):=by
 simp only[Lib.bytesWorld,World.freeze,World.alloc,World.drew];simp only[Nat.succ_ne_zero,LN];congr 1;apply Array.ext
 ·simp
 ·intro i h1 h2;simp only[Array.size_modify,Array.size_push]at h1
  by_cases hi:i=w.heap.size
  ·subst hi;rw[Array.getElem_modify_self];simp
  ·rw[Array.getElem_modify_of_ne (by omega)];rw[Array.getElem_push_lt (by omega),Array.getElem_push_lt (by omega)]
theorem QyH {src dst e:TypeId}{x:Operand}{s:ByteArray}{u:TypeDesc}{inf:TypeInfo}{z:Value}(h1:P.underlying src=some u)(h2:P.underlying dst=some (.slice e))(h3:P.underlying e=some (.int .u8))
  (hok:Qcr P e inf z) (hsz:inf.size=1) (ex:ev A x=.string s) (hl:(bl s).length<=140737488355328):
  QC P ⟨d,.convert src dst x,ty,pos,af,g⟩ A H (.slice (some ⟨H.next,0,none⟩) (bl s).length (UNK+1)) (H.push (.cells (Jc s) e false)):=
 .of_run λρ w a hs he=>by
  have e1:=VW (he x (by simp[Op.operands])) ex rfl;have hr:=Lib.run_convert_string_bytes (P:=P) w src dst e s h1 h2 h3;have hsize:s.size=(bl s).length:=rfl;have hge:=grownCap_ge w s.size 0 e;have hle:=grownCap_le_maxLen w s.size 0 e (by simp only[maxLen];omega);have hbl:(Jc s).length=(bl s).length:=by simp[Jc,bl]
  have hcs:(Lib.bytesCells w e s).size=grownCap w s.size 0 e:=by
   simp only[Lib.bytesCells,Array.size_append,Array.size_map,Array.size_replicate];have:s.data.size=s.size:=rfl;omega
  have hlist:(Lib.bytesCells w e s).toList=Jc s++List.replicate (grownCap w s.size 0 e - s.size) (.int .u8 0):=by
   simp[Lib.bytesCells,Jc]
  rw[Qpg]at hr;obtain⟨s1,s2⟩:=hs.drew
  let i:Kg:=⟨⟨w.heap.size,0,none⟩,grownCap w s.size 0 e,P.cellsOf e⟩
  have hb:Xf P (ext ρ H.next i) i (w.drew.alloc (.cells (Lib.bytesCells w e s) e ((Lib.bytesCells w e s).size,(Lib.bytesCells w e s).size+1))) (.cells (Jc s) e false):=by
   refine⟨_,_,heap_alloc_new w.drew _,⟨rfl,rfl⟩,by simp only[i];rw[hcs];simp,by simp only[i];omega,λj v hj=>⟨v,?_,.same v ?_⟩,λo _ ho hh=>by omega,λk v hk hkv=>?_,rfl⟩
   ·simp only[i,LP];rw[<- Bl,hlist,LY (Lk.1 hj).1];exact hj
   ·have:=Ln hj;simp only[Jc,N4]at this;obtain⟨b,_,rfl⟩:=this;rfl
   ·simp only[i,LP]at hk;rw[<- Bl,hlist,LR hk,List.getElem?_replicate]at hkv;split at hkv
    ·cases hkv;exact λ_=>⟨0,rfl,by omega,by omega⟩
    ·cases hkv
  obtain⟨t1,t2⟩:=s2.push _ (.cells (Jc s) e false) i rfl hb;refine⟨.slice (some ⟨w.heap.size,0,none⟩) s.size (grownCap w s.size 0 e),_,_,?_,?_,s1.trans t1,t2⟩
  ·simp only[execOp,e1,LW,hr,Lz,Nc]
  ·refine .slice H.next 0 _ _ _ i _ (W9 _ _ _) (.inl (by rw[Qe8])) hge (by simp only[maxLen,UNK]at *;omega) (λ_=>?_) (λh=>by simp only[UNK]at h;omega);simp only[i,LP];rw[hok.cellsOf,hsz];exact⟨by simp only[UNK],by omega⟩
end
end Go.Ab
