/- Short names of the library's theorems. -/
import Derived.WalkKit
import Derived.Laws.AppendOwn
import Derived.OrdersIn
import Derived.TacticsIn
import Derived.RangeFuncRecord
import Derived.Laws.StructEq
import Derived.Laws.Cover3
import Derived.Laws.Pointers
import Derived.Laws.MakeOwn
import Derived.RangeFuncNested
import Derived.Lib.Bytealg
import Derived.Lib.ConvBytes
set_option linter.defProp false
set_option linter.unusedVariables false
set_option linter.unusedSimpArgs false
noncomputable section
namespace Go.Ab
abbrev La:=@List.getElem?_eq_getElem
abbrev Lb:=@Nat.le_refl
abbrev Lc:=@if_pos
abbrev Le:=@if_neg
abbrev Lg:=@of_decide_eq_true
abbrev Lh:=@List.length_append
abbrev Li:=@List.all_eq_true
abbrev Lj:=@decide_eq_false
abbrev Lk:=@List.getElem?_eq_some_iff
abbrev Ll:=@of_decide_eq_false
abbrev Lm:=@Bool.and_eq_true
abbrev Ln:=@List.mem_of_getElem?
abbrev Lo:=@List.length_cons
abbrev Lp:=@decide_eq_true
abbrev Lq:=@cond_true
abbrev Lr:=@Bool.not_eq_true'
abbrev Ls:=@cond_false
abbrev Lt:=@Option.some.injEq
abbrev Lu:=@Bool.not_eq_false'
abbrev Lv:=@decide_eq_true_eq
abbrev Lw:=@List.drop_zero
abbrev Lx:=@Option.map_eq_some_iff
abbrev Ly:=@Option.some.inj
abbrev Lz:=@Result.andThen_ok
abbrev L0:=@beq_iff_eq
abbrev L7:=@Nat.zero_le
abbrev L8:=@Bool.not_true
abbrev L9:=@List.length_nil
abbrev LA:=@Nat.eq_of_beq_eq_true
abbrev LB:=@Prod.mk.injEq
abbrev LC:=@beq_eq_false_iff_ne
abbrev LD:=@List.getElem?_map
abbrev Sa:=@List.mem_singleton
abbrev LF:=@List.take_of_length_le
abbrev LG:=@Int.toNat_natCast
abbrev LH:=@List.nil_append
abbrev LI:=@List.mem_append
abbrev LJ:=@Bool.true_and
abbrev LK:=@List.mem_cons
abbrev LM:=@Bool.not_false
abbrev LN:=@if_false
abbrev LO:=@beq_self_eq_true
abbrev LP:=@Nat.zero_add
abbrev LQ:=@List.append_assoc
abbrev LR:=@List.getElem?_append_right
abbrev Sb:=@List.length_take
abbrev LU:=@List.mem_range
abbrev LV:=@Bool.false_eq_true
abbrev LW:=@Sem.run_bind
abbrev LX:=@List.getD_eq_getElem?_getD
abbrev LY:=@List.getElem?_append_left
abbrev LZ:=@run_underlying
abbrev Na:=@List.append_nil
abbrev Nb:=@List.getElem_mem
abbrev Nc:=@Sem.run_pure
abbrev Nf:=@decide_true
abbrev Ng:=@Array.getElem?_eq_getElem
abbrev Nh:=@List.drop_eq_getElem_cons
abbrev Ni:=@Bool.eq_iff_iff
abbrev Nj:=@Array.getElem?_eq_some_iff
abbrev Nk:=@List.getElem?_drop
abbrev Nl:=@List.getElem?_take
abbrev Nm:=@List.cons_append
abbrev Nn:=@List.length_map
abbrev Np:=@Int.fdiv_eq_ediv_of_nonneg
abbrev Nq:=@Nat.lt_or_ge
abbrev Nr:=@List.take_length
abbrev Ns:=@List.not_mem_nil
abbrev Nt:=@Bool.false_or
abbrev Nu:=@Eq.trans
abbrev Nv:=@List.take_add_one
abbrev Nw:=@Bool.or_eq_true
abbrev Ny:=@List.mem_cons_self
abbrev N0:=@Array.getD_eq_getD_getElem?
abbrev N1:=@Bool.true_or
abbrev N2:=@List.length_eq_zero_iff
abbrev N3:=@if_true
abbrev N4:=@List.mem_map
abbrev N5:=@Nat.lt_of_lt_of_le
abbrev N6:=@List.map_append
abbrev N7:=@List.getElem?_eq_none
abbrev N8:=@Nat.le_trans
abbrev N9:=@Nat.add_zero
abbrev NA:=@List.mem_cons_of_mem
abbrev NB:=@Option.getD_some
abbrev NC:=@IntKind.wrap_u64
abbrev ND:=@World.block_lt_of_cell?
abbrev NE:=@decide_false
abbrev NF:=@List.mem_flatMap
abbrev NG:=@Bool.false_and
abbrev NH:=@Nat.mul_one
abbrev NI:=@Bool.or_false
abbrev NJ:=@Bool.and_false
abbrev NK:=@List.drop_of_length_le
abbrev NL:=@Nat.add_sub_cancel_left
abbrev NM:=@List.take_succ_eq_append_getElem
abbrev NN:=@or_false
abbrev NO:=@List.take_append_of_le_length
abbrev NP:=@Nat.pow_le_pow_right
abbrev NR:=@List.drop_eq_nil_of_le
abbrev NT:=@List.length_drop
abbrev NU:=@IntKind.wrap_i64
abbrev NW:=@List.take_append_drop
abbrev NX:=@Nat.lt_irrefl
abbrev NY:=@decide_eq_false_iff_not
abbrev NZ:=@List.map_cons
abbrev Ba:=@List.flatMap_cons
abbrev Bb:=@List.length_singleton
abbrev Bd:=@Bool.or_true
abbrev Be:=@Bool.and_true
abbrev Bf:=@List.cons.inj
abbrev Bg:=@List.getElem?_cons_succ
abbrev Bh:=@List.any_eq_true
abbrev Bi:=@Int.toNat_of_nonneg
abbrev Bj:=@Bool.and_self
abbrev Bl:=@Array.getElem?_toList
abbrev Bm:=@List.flatMap_append
abbrev Bn:=@Array.getElem?_setIfInBounds_ne
abbrev Bo:=@List.mem_filter
abbrev Bp:=@List.getElem?_cons_zero
abbrev Bq:=@List.map_nil
abbrev Br:=@Option.getD_none
abbrev Bs:=@Nat.mul_le_mul_right
abbrev Bv:=@List.all_cons
abbrev Bw:=@List.pairwise_singleton
abbrev Bx:=@List.mem_iff_getElem?
abbrev Bz:=@true_and
abbrev B0:=@Int.le_refl
abbrev B1:=@Array.all_eq_true_iff_forall_mem
abbrev B3:=@List.drop_append
abbrev B4:=@gt_iff_lt
abbrev B5:=@Nat.blt_eq
abbrev B6:=@Nat.eq_zero_or_pos
abbrev B7:=@BitVec.toNat_ofInt
abbrev BA:=@List.ext_getElem?
abbrev BB:=@Array.mem_of_getElem?
abbrev BC:=@Nat.min_eq_left
abbrev BD:=@decide_eq_decide
abbrev BE:=@not_true_eq_false
abbrev BF:=@List.zip_cons_cons
abbrev BG:=@Bool.and_eq_false_iff
abbrev BH:=@Nat.zero_mul
abbrev BI:=@List.all_nil
abbrev BJ:=@Nat.sub_self
abbrev BK:=@UInt8.toNat_inj
abbrev BL:=@Nat.ble_eq
abbrev BM:=@Int.tmod_eq_emod_of_nonneg
abbrev BN:=@eq_self
abbrev BO:=@List.length_range
abbrev BP:=@List.getElem?_of_mem
abbrev BQ:=@Bool.or_eq_false_iff
abbrev BR:=@List.pairwise_iff_getElem
abbrev BT:=@DataW.trod_int
abbrev BU:=@List.drop_length
abbrev BV:=@Option.bind_eq_bind
abbrev BX:=@List.any_eq_false
abbrev BY:=@Option.bind_eq_some_iff
abbrev Ra:=@List.mapM_cons
abbrev Rb:=@List.take_zero
abbrev Rc:=@List.drop_drop
abbrev Re:=@List.filter_append
abbrev Rh:=@Nat.add_assoc
abbrev Rj:=@List.length_pos_iff
abbrev Rm:=@Nat.mod_lt
abbrev Ro:=@Nat.le_add_right
abbrev Rp:=@List.ext_getElem
abbrev Rq:=@Nat.lt_succ_self
abbrev Ru:=@Array.ext'
abbrev Rw:=@List.mem_map_of_mem
abbrev Rx:=@Option.pure_def
abbrev Ry:=@Nat.add_mul
abbrev Rz:=@List.any_append
abbrev R0:=@List.range_succ
abbrev R1:=@Nat.div_lt_self
abbrev R7:=@List.length_filter_le
abbrev R8:=@Option.bind_some
abbrev R9:=@List.map_toArray
abbrev RC:=@Array.getElem?_setIfInBounds_self_of_lt
abbrev RD:=@run_sliceBound
abbrev RE:=@Array.toArray_toList
abbrev RF:=@List.drop_append_of_le_length
abbrev RK:=@List.getElem_take
abbrev RU:=@and_self
abbrev RV:=@Option.isNone_none
abbrev RY:=@Array.getElem?_modify
abbrev RZ:=@Nat.le_of_ble_eq_true
abbrev Da:=@ne_eq
abbrev Dd:=@Nat.add_eq_left
abbrev De:=@Nat.left_eq_add
abbrev Dg:=@exists_eq_left'
abbrev Dh:=@Option.map_some
abbrev Dj:=@Nat.lt_trichotomy
abbrev D9:=@Option.isSome_iff_exists
abbrev DB:=@List.getElem?_range
abbrev DC:=@List.map_congr_left
abbrev DE:=@List.take_take
abbrev DF:=@List.isEmpty_iff
abbrev DG:=@List.flatMap_nil
abbrev DJ:=@run_program
abbrev Fa:=@Nat.lt_or_gt_of_ne
abbrev Fe:=@Bool.true_eq_false
abbrev Fk:=@Option.map_none
abbrev Fl:=@List.cons.injEq
abbrev Fo:=@List.all_append
abbrev Fs:=@StepsIn.trans
abbrev Fu:=@BitVec.eq_of_toNat_eq
abbrev Fv:=@List.eq_replicate_iff
abbrev Fx:=@Nat.one_mul
abbrev FF:=@wpIn_mono
abbrev FG:=@List.countP_cons
abbrev FH:=@Nat.succ_pos
abbrev FK:=@BitVec.toNat_and
abbrev FM:=@Nat.le_of_eq
abbrev FO:=@List.mapM_nil
abbrev FP:=@Bool.or_assoc
abbrev FQ:=@List.foldl_cons
abbrev FR:=@List.nodup_cons
abbrev FS:=@IntKind.wrap_u8
abbrev FT:=@run_newObj
abbrev Hr:=@and_true
abbrev Ht:=@List.map_map
abbrev Hu:=@Int.mul_comm
def UNK:Nat:=9223372036854775808
structure Zv where
 at_:Addr
 n:Nat
 s:Nat
abbrev Ren:=Nat->Option Zv
def plain:Value->Bool
 | .bool _ | .int _ _ | .float _ _ | .complex _ _ _ | .string _ | .pointer none | .slice none _ _ | .map none | .chan none | .nilFunc | .nilIface=>true
 | _=>false
def QaD:Fn->Bool
 | .yield _=>false
 | _=>true
inductive V (ρ:Ren):Value->Value->Prop
 | same (v:Value):plain v=true->V ρ v v
 | ptr (id off:Nat) (i:Zv):ρ id=some i->V ρ (.pointer (some ⟨id,off,none⟩)) (.pointer (some (i.at_.add off)))
 | slice (id off len cap cap':Nat) (i:Zv) (a':Addr):ρ id=some i->(a'=i.at_.add off∨(len=0∧cap'=0))->len<=cap'->cap'<UNK->
   (UNK<=cap->i.s=cap - UNK∧off+cap' * i.s=i.n)->(cap<UNK->cap'=cap)->V ρ (.slice (some ⟨id,off,none⟩) len cap) (.slice (some a') len cap')
 | map (id:Nat) (i:Zv):ρ id=some i->V ρ (.map (some id)) (.map (some i.at_.block))
 | func (fn:Fn) (xs ys xs' ys':Array Value):QaD fn=true->xs.size=xs'.size->ys.size=ys'.size->
   (∀ (j:Nat) x x',xs[j]? = some x->xs'[j]? = some x'->V ρ x x')->(∀ (j:Nat) x x',ys[j]? = some x->ys'[j]? = some x'->V ρ x x')->V ρ (.func fn xs ys) (.func fn xs' ys')
 | yield (l:Nat) (i:Zv):ρ l=some i->V ρ (.func (.yield l) #[] #[]) (.func (.yield i.at_.block) #[] #[])
 | iface (t:TypeId) (v v':Value):V ρ v v'->V ρ (.iface t v) (.iface t v')
 | agg (xs xs':Array Value):xs.size=xs'.size->(∀ (j:Nat) x x',xs[j]? = some x->xs'[j]? = some x'->V ρ x x')->V ρ (.agg xs) (.agg xs')
 | tuple (xs xs':Array Value):xs.size=xs'.size->(∀ (j:Nat) x x',xs[j]? = some x->xs'[j]? = some x'->V ρ x x')->V ρ (.tuple xs) (.tuple xs')
def Sub (ρ ρ':Ren):Prop:=∀id i,ρ id=some i->ρ' id=some i
def Sub.refl (ρ:Ren):Sub ρ ρ:=λ_ _ h=>h
def Sub.trans {a b c:Ren}(h:Sub a b)(h':Sub b c):Sub a c:=λid i e=>h' id i (h id i e)
def V.mono {ρ ρ':Ren}(ac:Sub ρ ρ'){v ad:Value}(h:V ρ v ad):V ρ' v ad:=by
 induction h with
 | same v an=>exact .same v an
 | ptr id off i h=>exact .ptr id off i (ac _ _ h)
 | slice id off len cap ah i ag h q ae ai aj ak=>exact .slice id off len cap ah i ag (ac _ _ h) q ae ai aj ak
 | map id i h=>exact .map id i (ac _ _ h)
 | func fn xs ys ab aq am q ae _ _ ao ap=>exact .func fn xs ys ab aq am q ae ao ap
 | yield l i h=>exact .yield l i (ac _ _ h)
 | iface t v ad _ aa=>exact .iface t v ad aa
 | agg xs ab q _ aa=>exact .agg xs ab q aa
 | tuple xs ab q _ aa=>exact .tuple xs ab q aa
def VL (ρ:Ren)(xs q:List Value):Prop:=xs.length=q.length∧∀ (j:Nat) x x',xs[j]? = some x->q[j]? = some x'->V ρ x x'
def VL.mono {ρ ρ':Ren}(aa:Sub ρ ρ'){v q:List Value}(h:VL ρ v q):VL ρ' v q:=⟨h.1,λj x x' a b=>(h.2 j x x' a b).mono aa⟩
def VL.nil (ρ:Ren):VL ρ [] []:=⟨rfl,λ_ _ _ h=>by simp at h⟩
def VL.cons {ρ:Ren}{x x':Value}{xs aa:List Value}(h:V ρ x x')(q:VL ρ xs aa):VL ρ (x::xs) (x'::aa):=
 ⟨by simp[q.1],λj y ab a b=>by
  cases j with
  | zero=>simp at a b;subst a;subst b;exact h
  | succ j=>simp at a b;exact q.2 j y ab a b⟩
def VL.uncons {ρ:Ren}{x:Value}{xs l:List Value}(h:VL ρ (x::xs) l):∃x' q,l=x'::q∧V ρ x x'∧VL ρ xs q:=by
 cases l with
 | nil=>have:=h.1;simp at this
 | cons x' q=>
  exact⟨x',q,rfl,h.2 0 x x' rfl rfl,by have:=h.1;simp at this;exact this,λj y aa a b=>h.2 (j+1) y aa (by simpa using a) (by simpa using b)⟩
def VL.unnil {ρ:Ren}{l:List Value}(h:VL ρ [] l):l=[]:=by
 have:=h.1;simp at this;exact N2.1 this.symm
def VL.append {ρ:Ren}{a q b b':List Value}(h:VL ρ a q)(h':VL ρ b b'):VL ρ (a++b) (q++b'):=by
 refine⟨by simp[h.1,h'.1],λj x x' e e'=>?_⟩
 by_cases aa:j<a.length;·rw[LY aa]at e;rw[LY (by rw[<- h.1];exact aa)]at e';exact h.2 j x x' e e'
 rw[LR (by omega)]at e;rw[LR (by rw[<- h.1];omega),<- h.1]at e';exact h'.2 _ x x' e e'
def VL.drop {ρ:Ren}{a q:List Value}(h:VL ρ a q)(k:Nat):VL ρ (a.drop k) (q.drop k):=
 ⟨by simp[h.1],λj x x' e e'=>h.2 (k+j) x x' (by rw[<- Nk];exact e) (by rw[<- Nk];exact e')⟩
def VL.take {ρ:Ren}{a q:List Value}(h:VL ρ a q)(k:Nat):VL ρ (a.take k) (q.take k):=by
 refine⟨by simp[h.1],λj x x' e e'=>?_⟩;rw[Nl]at e e';split at e;·rename_i aa;rw[Lc aa]at e';exact h.2 j x x' e e'
 cases e
def VL.get {ρ:Ren}{a q:List Value}(h:VL ρ a q){j:Nat}{x:Value}(e:a[j]? = some x):∃x',q[j]? = some x'∧V ρ x x':=by
 have ab:j<a.length:=(Lk.1 e).1;have aa:j<q.length:=by rw[<- h.1];exact ab
 exact⟨q[j],La aa,h.2 j x _ e (La aa)⟩
def VL.set {ρ:Ren}{a q:List Value}(h:VL ρ a q){k:Nat}{x x':Value}(hx:V ρ x x'):VL ρ (a.set k x) (q.set k x'):=by
 refine⟨by simp[h.1],λj y ab e e'=>?_⟩;rw[List.getElem?_set]at e e'
 by_cases aa:k=j
 ·simp only[aa,N3]at e e';split at e
  ·split at e';·cases e;cases e';exact hx
   cases e'
  cases e
 simp only[aa,LN]at e e';exact h.2 j y ab e e'
inductive Tr (α:Type) where
 | nil
 | node (l:Tr α) (x:Option α) (r:Tr α)
def Tr.get {α:Type}(t:Tr α):Nat->Option α:=
 Tr.rec (motive:=λ_=>Nat->Option α) (λ_=>none)
  (λ_ x _ q aa n=>Bool.rec (motive:=λ_=>Option α) (Bool.rec (motive:=λ_=>Option α) (aa (Nat.pred (Nat.div n 2))) (q (Nat.div n 2)) (Nat.beq (Nat.mod n 2) 1)) x (Nat.beq n 0)) t
def Tr.one {α:Type}(v:Option α)(f:Nat):Nat->Tr α:=
 Nat.rec (motive:=λ_=>Nat->Tr α) (λ_=>.nil)
  (λ_ q n=>Bool.rec (motive:=λ_=>Tr α) (Bool.rec (motive:=λ_=>Tr α) (.node .nil none (q (Nat.pred (Nat.div n 2)))) (.node (q (Nat.div n 2)) none .nil) (Nat.beq (Nat.mod n 2) 1)) (.node .nil v .nil) (Nat.beq n 0)) f
def Tr.set {α:Type}(t:Tr α)(n:Nat)(v:Option α):Tr α:=
 Tr.rec (motive:=λ_=>Nat->Tr α) (λn=>Tr.one v (Nat.succ n) n)
  (λl x r q aa n=>Bool.rec (motive:=λ_=>Tr α) (Bool.rec (motive:=λ_=>Tr α) (.node l x (aa (Nat.pred (Nat.div n 2)))) (.node (q (Nat.div n 2)) x r) (Nat.beq (Nat.mod n 2) 1)) (.node l v r) (Nat.beq n 0)) t n
def Tr.get_nil {α:Type}(n:Nat):(Tr.nil:Tr α).get n=none:=rfl
def Tr.get_node {α:Type}(l:Tr α)(x:Option α)(r:Tr α)(n:Nat):(Tr.node l x r).get n=bif Nat.beq n 0 then x else bif Nat.beq (n % 2) 1 then l.get (n / 2) else r.get (n / 2 - 1):=by
 show Bool.rec (motive:=λ_=>Option α) (Bool.rec (motive:=λ_=>Option α) (r.get (Nat.pred (Nat.div n 2))) (l.get (Nat.div n 2)) (Nat.beq (Nat.mod n 2) 1)) x (Nat.beq n 0)=_;cases h:Nat.beq n 0 with
 | true=>rfl
 | false=>
  show Bool.rec (motive:=λ_=>Option α) (r.get (Nat.pred (Nat.div n 2))) (l.get (Nat.div n 2)) (Nat.beq (Nat.mod n 2) 1)=bif Nat.beq (n % 2) 1 then l.get (n / 2) else r.get (n / 2 - 1)
  show _=bif Nat.beq (Nat.mod n 2) 1 then l.get (n / 2) else r.get (n / 2 - 1)
  cases Nat.beq (Nat.mod n 2) 1<;>rfl
def Tr.set_nil {α:Type}(n:Nat)(v:Option α):(Tr.nil:Tr α).set n v=Tr.one v (n+1) n:=rfl
def Tr.set_node {α:Type}(l:Tr α)(x:Option α)(r:Tr α)(n:Nat)(v:Option α):(Tr.node l x r).set n v=bif Nat.beq n 0 then .node l v r else bif Nat.beq (n % 2) 1 then .node (l.set (n / 2) v) x r else .node l x (r.set (n / 2 - 1) v):=by
 show Bool.rec (motive:=λ_=>Tr α) (Bool.rec (motive:=λ_=>Tr α) (.node l x (r.set (Nat.pred (Nat.div n 2)) v)) (.node (l.set (Nat.div n 2) v) x r) (Nat.beq (Nat.mod n 2) 1)) (.node l v r) (Nat.beq n 0)=_;cases h:Nat.beq n 0 with
 | true=>rfl
 | false=>
  show Bool.rec (motive:=λ_=>Tr α) (.node l x (r.set (Nat.pred (Nat.div n 2)) v)) (.node (l.set (Nat.div n 2) v) x r) (Nat.beq (Nat.mod n 2) 1)=bif Nat.beq (Nat.mod n 2) 1 then Tr.node (l.set (n / 2) v) x r else Tr.node l x (r.set (n / 2 - 1) v)
  cases Nat.beq (Nat.mod n 2) 1<;>rfl
def Tr.one_succ {α:Type}(v:Option α)(f n:Nat):Tr.one v (f+1) n=bif Nat.beq n 0 then .node .nil v .nil else bif Nat.beq (n % 2) 1 then .node (Tr.one v f (n / 2)) none .nil else .node .nil none (Tr.one v f (n / 2 - 1)):=by
 show Bool.rec (motive:=λ_=>Tr α) (Bool.rec (motive:=λ_=>Tr α) (.node .nil none (Tr.one v f (Nat.pred (Nat.div n 2)))) (.node (Tr.one v f (Nat.div n 2)) none .nil) (Nat.beq (Nat.mod n 2) 1)) (.node .nil v .nil) (Nat.beq n 0)=_;cases h:Nat.beq n 0 with
 | true=>rfl
 | false=>
  show Bool.rec (motive:=λ_=>Tr α) (.node .nil none (Tr.one v f (Nat.pred (Nat.div n 2)))) (.node (Tr.one v f (Nat.div n 2)) none .nil) (Nat.beq (Nat.mod n 2) 1)=bif Nat.beq (Nat.mod n 2) 1 then Tr.node (Tr.one v f (n / 2)) none .nil else Tr.node .nil none (Tr.one v f (n / 2 - 1))
  cases Nat.beq (Nat.mod n 2) 1<;>rfl
def Zw (a b:Nat):Nat.beq a b=decide (a=b):=by
 by_cases h:a=b;·subst h;simp
 simp only[h,NE];cases q:Nat.beq a b with
 | false=>rfl
 | true=>exact absurd (LA q) h
def Tr.get_one {α:Type}(v:Option α):∀ (f n m:Nat),n<f->(Tr.one v f n).get m=if m=n then v else none:=by
 intro f
 induction f with
 | zero=>intro n m h;omega
 | succ f ad=>
  intro n m h;simp only[Tr.one_succ,Zw,cond_eq_ite,Lv]
  by_cases ab:n=0;·subst ab;simp only[N3,Tr.get_node,Tr.get_nil,Zw,cond_eq_ite,Lv,ite_self]
  simp only[ab,LN]
  by_cases ac:n % 2=1
  ·simp only[ac,N3,Tr.get_node,Tr.get_nil,Zw,cond_eq_ite,Lv,ad (n / 2) (m / 2) (by omega)]
   by_cases q:m=0;·subst q;simp[show ¬0=n by omega]
   simp only[q,LN]
   by_cases aa:m % 2=1
   ·simp only[aa,N3]
    by_cases e:m=n;·subst e;simp
    rw[Le (by omega),Le e]
   simp only[aa,LN];rw[Le (by omega)]
  simp only[ac,LN,Tr.get_node,Tr.get_nil,Zw,cond_eq_ite,Lv,ad (n / 2 - 1) (m / 2 - 1) (by omega)]
  by_cases q:m=0;·subst q;simp[show ¬0=n by omega]
  simp only[q,LN]
  by_cases aa:m % 2=1;·simp only[aa,N3];rw[Le (by omega)]
  simp only[aa,LN]
  by_cases e:m=n;·subst e;simp
  rw[Le (by omega),Le e]
def Tr.get_set {α:Type}(t:Tr α)(n m:Nat)(v:Option α):(t.set n v).get m=if m=n then v else t.get m:=by
 induction t generalizing n m with
 | nil=>rw[Tr.set_nil,Tr.get_one v (n+1) n m (by omega),Tr.get_nil]
 | node l x r ad ae=>
  simp only[Tr.set_node,Zw,cond_eq_ite,Lv]
  by_cases ab:n=0
  ·subst ab;simp only[N3,Tr.get_node,Zw,cond_eq_ite,Lv]
   by_cases q:m=0<;>simp[q]
  simp only[ab,LN]
  by_cases ac:n % 2=1
  ·simp only[ac,N3,Tr.get_node,Zw,cond_eq_ite,Lv,ad (n / 2) (m / 2)]
   by_cases q:m=0;·subst q;simp[show ¬0=n by omega]
   simp only[q,LN]
   by_cases aa:m % 2=1
   ·simp only[aa,N3]
    by_cases e:m=n;·subst e;simp
    rw[Le (by omega),Le e]
   simp only[aa,LN];rw[Le (by omega)]
  simp only[ac,LN,Tr.get_node,Zw,cond_eq_ite,Lv,ae (n / 2 - 1) (m / 2 - 1)]
  by_cases q:m=0;·subst q;simp[show ¬0=n by omega]
  simp only[q,LN]
  by_cases aa:m % 2=1;·simp only[aa,N3];rw[Le (by omega)]
  simp only[aa,LN]
  by_cases e:m=n;·subst e;simp
  rw[Le (by omega),Le e]
inductive Blk where
 | cells (c:List Value) (e:TypeId) (ro:Bool)
 | map (es:List (Value×Value))
 | iter (s:ByteArray) (pos:Nat)
 | miter (m:Option Nat) (since:Nat) (seen:List Nat) (stp:Nat)
 | loop (A:Nat->Value) (n:Nat) (ps:Array Tmp) (as bd:Code) (st:Option Code)
def Blk.ro:Blk->Bool
 | .cells _ _ r=>r
 | _=>false
structure Qa where
 y:Nat
 tr:Tr Blk
def Qa.get (H:Qa)(id:Nat):Option Blk:=H.tr.get id
def Qa.set (H:Qa)(id:Nat)(b:Blk):Qa:=⟨H.y,H.tr.set id (some b)⟩
def Qa.kill (H:Qa)(id:Nat):Qa:=⟨H.y,H.tr.set id none⟩
def Qa.push (H:Qa)(b:Blk):Qa:=⟨H.y+1,H.tr.set H.y (some b)⟩
@[simp] theorem QR (H:Qa) (id:Nat) (b:Blk):(H.set id b).y=H.y:=rfl
@[simp] theorem QiY (H:Qa) (id:Nat):(H.kill id).y=H.y:=rfl
@[simp] theorem Qf (H:Qa) (b:Blk):(H.push b).y=H.y+1:=rfl
def Qj (H:Qa)(id m:Nat)(b:Blk):(H.set id b).get m=if m=id then some b else H.get m:=Tr.get_set _ _ _ _
def WE (H:Qa)(id m:Nat):(H.kill id).get m=if m=id then none else H.get m:=Tr.get_set _ _ _ _
def Qc (H:Qa)(m:Nat)(b:Blk):(H.push b).get m=if m=H.y then some b else H.get m:=Tr.get_set _ _ _ _
def QyQ (P:Program)(e:TypeId)(v:Value):Prop:=P.underlying e=some (.int .u8)->∃n:Int,v=.int .u8 n∧0<=n∧n<256
def WH (P:Program)(ρ:Ren)(i:Zv)(w:World):Blk->Prop
 | .cells c _ true=>i.at_.block<w.heap.size∧∀ (j:Nat) v,c[j]? = some v->∃ab,w.cell? (i.at_.add j)=some ab∧V ρ v ab
 | .cells c e false=>∃ (q:Array Value) (ac:Nat×Nat),w.heap[i.at_.block]? = some (.cells q e ac)∧(i.at_.spot=none∧i.at_.off=0)∧i.at_.off+i.n=q.size∧c.length<=i.n∧
   (∀ (j:Nat) v,c[j]? = some v->∃ab,q[i.at_.off+j]? = some ab∧V ρ v ab)∧
   (∀o,i.at_.off<=o->o<q.size->¬ (ac.1<=o∧o<ac.2))∧
   (∀ (o:Nat) v,i.at_.off+c.length<=o->q[o]? = some v->QyQ P e v)∧i.s=P.cellsOf e
 | .map es=>∃ (aa:Array MapEntry) (ad:Nat),w.heap[i.at_.block]? = some (.map aa ad)∧VL ρ (es.map (·.1)) (aa.toList.map (·.key))∧VL ρ (es.map (·.2)) (aa.toList.map (·.val))∧
   ad=aa.size∧∀ (j:Nat) e,aa[j]? = some e->e.born=j
 | .iter s pos=>w.heap[i.at_.block]? = some (.stringIter s pos)∧i.at_.off=0
 | .miter none _ _ _=>w.heap[i.at_.block]? = some (.mapIter none 0 #[] 0)∧i.at_.off=0
 | .miter (some m) since seen stp=>(∃i',ρ m=some i'∧w.heap[i.at_.block]? = some (.mapIter (some i'.at_.block) since seen.toArray stp))∧i.at_.off=0
 | .loop A n ah ae ag st=>∃ (fn:FuncId) (tmps:Array Value) (D:Nat),w.heap[i.at_.block]? = some (.loop {state:=if st.isNone then .ready else .done,pending:=st,fn:=fn,tmps:=tmps,params:=ah,assign:=ae,body:=ag,defers:=D})∧
   tmps.size=n∧∀t,t<n->V ρ (A t) (tmps.getD t undef)
structure Sim (P:Program) (ρ:Ren) (H:Qa) (w:World):Prop where
 dom:∀id i,ρ id=some i->id<H.y
 live:∀id b i,H.get id=some b->ρ id=some i->WH P ρ i w b
 sep:∀id1 id2 b1 b2 i1 i2,H.get id1=some b1->H.get id2=some b2->ρ id1=some i1->ρ id2=some i2->b1.ro=false->id1≠id2->i1.at_.block≠i2.at_.block
 glob:∀g,g<P.globals.size->∃i,ρ g=some i∧i.at_=⟨g,0,none⟩
def WH.lt {P:Program}{ρ:Ren}{i:Zv}{w:World}{b:Blk}(h:WH P ρ i w b):i.at_.block<w.heap.size:=by
 cases b with
 | cells c e ro=>
  cases ro with
  | true=>exact h.1
  | false=>
   obtain⟨ad,ag,q,_⟩:=h;exact(Nj.1 q).1
 | map es=>obtain⟨ae,ac,q,_⟩:=h;exact(Nj.1 q).1
 | iter s pos=>exact(Nj.1 h.1).1
 | miter m ai seen stp=>
  cases m with
  | none=>exact(Nj.1 h.1).1
  | some m=>obtain⟨⟨i',_,q⟩,_⟩:=h;exact(Nj.1 q).1
 | loop A n ah aa ab st=>obtain⟨fn,tmps,D,q,_⟩:=h;exact(Nj.1 q).1
def block_add (a:Addr)(n:Nat):(a.add n).block=a.block:=by unfold Addr.add;split<;>rfl
def ZG (a:Addr)(i j:Nat):(a.add i).add j=a.add (i+j):=by
 unfold Addr.add
 by_cases hi:i=0<;>by_cases q:j=0<;>simp[hi,q,Rh]
def Vq (b o n:Nat):(⟨b,o,none⟩:Addr).add n=⟨b,o+n,none⟩:=by
 unfold Addr.add;split<;>simp_all
def QjW {a:Addr}(h:a.spot=none)(n:Nat):a.add n=⟨a.block,a.off+n,none⟩:=by
 obtain⟨b,o,s⟩:=a;simp at h;subst h;exact Vq b o n
def WH.mono {P:Program}{ρ ρ':Ren}{i:Zv}{w w':World}{b:Blk}(ad:Sub ρ ρ')(aa:w'.heap[i.at_.block]? = w.heap[i.at_.block]?)(h:WH P ρ i w b):WH P ρ' i w' b:=by
 cases b with
 | cells c e ro=>
  cases ro with
  | true=>
   refine⟨?_,λj v ag=>?_⟩
   ·have:=h.1;rcases Nq i.at_.block w'.heap.size with q | q;·exact q
    rw[Array.getElem?_eq_none q,Ng this]at aa;cases aa
   obtain⟨ah,ar,av⟩:=h.2 j v ag;refine⟨ah,?_,av.mono ad⟩;rw[<- ar];exact World.cell?_of_block (by rw[block_add];exact aa)
  | false=>
   obtain⟨aj,am,ac,q,ab,ae,an,ao,ap,aq⟩:=h;exact⟨aj,am,aa.trans ac,q,ab,ae,λj v ag=>by obtain⟨ah,a,b⟩:=an j v ag;exact⟨ah,a,b.mono ad⟩,ao,ap,aq⟩
 | map es=>obtain⟨ak,ai,ac,q,ab,ae⟩:=h;exact⟨ak,ai,aa.trans ac,q.mono ad,ab.mono ad,ae⟩
 | iter s pos=>exact⟨aa.trans h.1,h.2⟩
 | miter m az seen stp=>
  cases m with
  | none=>exact⟨aa.trans h.1,h.2⟩
  | some m=>obtain⟨⟨i',q,ac⟩,ab⟩:=h;exact⟨⟨i',ad _ _ q,aa.trans ac⟩,ab⟩
 | loop A n ay aw ax st=>obtain⟨fn,tmps,D,ac,q,ab⟩:=h;exact⟨fn,tmps,D,aa.trans ac,q,λt au=>(ab t au).mono ad⟩
structure St (ρ:Ren) (H:Qa) (w:World) (ρ':Ren) (H':Qa) (w':World):Prop where
 mono:Sub ρ ρ'
 y:H.y<=H'.y
 dead:∀id i,ρ id=some i->H.get id=none->H'.get id=none
 ro:∀id i b b',ρ id=some i->H.get id=some b->b.ro=true->H'.get id=some b'->b'.ro=true
 fresh:∀id i,ρ' id=some i->ρ id=none->H.y<=id∧(w.heap.size<=i.at_.block∨∃id0 i0 b0,ρ id0=some i0∧i0.at_.block=i.at_.block∧H.get id0=some b0∧b0.ro=false)
 os:w'.os=w.os
 tape:w'.tape=w.tape
 output:w'.output=w.output
 size:w.heap.size<=w'.heap.size
 frame:∀b,b<w.heap.size->(∀id i bl,ρ id=some i->H.get id=some bl->bl.ro=false->i.at_.block≠b)->w'.heap[b]? = w.heap[b]?
def St.refl (ρ:Ren)(H:Qa)(w:World):St ρ H w ρ H w where
 mono:=Sub.refl ρ
 y:=Lb _
 dead:=λ_ _ _ h=>h
 ro:=λ_ _ b b' _ h q h'=>by rw[h]at h';cases h';exact q
 fresh:=λid i h h'=>by rw[h']at h;cases h
 os:=rfl
 tape:=rfl
 output:=rfl
 size:=Lb _
 frame:=λ_ _ _=>rfl
def St.owned {ρ:Ren}{H:Qa}{w:World}{ρ':Ren}{H':Qa}{w':World}(h:St ρ H w ρ' H' w'){id:Nat}{i:Zv}{bl:Blk}
  (ad:ρ' id=some i) (ab:H'.get id=some bl) (ae:bl.ro=false):
  w.heap.size<=i.at_.block∨∃ag q b0,ρ ag=some q∧q.at_.block=i.at_.block∧H.get ag=some b0∧b0.ro=false:=by
 cases aa:ρ id with
 | none=>exact(h.fresh id i ad aa).2
 | some q=>
  have:q=i:=by have:=h.mono id q aa;rw[ad]at this;cases this;rfl
  subst this;cases ac:H.get id with
  | none=>rw[h.dead id q aa ac]at ab;cases ab
  | some b0=>
   refine .inr ⟨id,q,b0,aa,rfl,ac,?_⟩;cases ah:b0.ro with
   | false=>rfl
   | true=>rw[h.ro id q b0 bl aa ac ah ab]at ae;cases ae
def St.trans {ρ ρ1 ρ2:Ren}{H H1 H2:Qa}{w ak am:World}(a:St ρ H w ρ1 H1 ak)(b:St ρ1 H1 ak ρ2 H2 am):St ρ H w ρ2 H2 am where
 mono:=a.mono.trans b.mono
 y:=N8 a.y b.y
 dead:=λid i h h'=>b.dead id i (a.mono _ _ h) (a.dead id i h h')
 ro:=λid i bl an h aa q ab=>by
  cases ac:H1.get id with
  | none=>rw[b.dead id i (a.mono _ _ h) ac]at ab;cases ab
  | some b1=>exact b.ro id i b1 an (a.mono _ _ h) ac (a.ro id i bl b1 h aa q ac) ab
 fresh:=λid i h h'=>by
  cases ad:ρ1 id with
  | some ae=>
   have:ae=i:=by have:=b.mono id ae ad;rw[h]at this;cases this;rfl
   subst this;exact a.fresh id ae ad h'
  | none=>
   obtain⟨aa,q⟩:=b.fresh id i h ad;refine⟨N8 a.y aa,?_⟩;rcases q with q | ⟨aj,ai,b0,e1,e2,e3,e4⟩;·exact .inl (N8 a.size q)
   rw[<- e2];exact a.owned e1 e3 e4
 os:=b.os.trans a.os
 tape:=b.tape.trans a.tape
 output:=b.output.trans a.output
 size:=N8 a.size b.size
 frame:=λbk ag ah=>by
  rw[b.frame bk (N5 ag a.size) ?_,a.frame bk ag ah];intro id i bl aa q ab e;rcases a.owned aa q ab with h | ⟨aj,ai,b0,e1,e2,e3,e4⟩;·omega
  exact ah aj ai b0 e1 e3 e4 (e2.trans e)
structure Hid (ρ:Ren) (H:Qa) (w:World) (b:Nat) (o:Obj):Prop where
 at_:w.heap[b]? = some o
 un:∀id i bl,ρ id=some i->H.get id=some bl->i.at_.block≠b
def Hid.lt {ρ:Ren}{H:Qa}{w:World}{b:Nat}{o:Obj}(h:Hid ρ H w b o):b<w.heap.size:=(Nj.1 h.at_).1
def Hid.step {ρ ρ':Ren}{H H':Qa}{w w':World}{b:Nat}{o:Obj}(h:Hid ρ H w b o)(ad:St ρ H w ρ' H' w'):Hid ρ' H' w' b o:=
 ⟨(ad.frame b h.lt (λid i bl aa ab _=>h.un id i bl aa ab)).trans h.at_,λid i bl aa ab e=>by
  cases ac:ρ id with
  | none=>
   rcases(ad.fresh id i aa ac).2 with hh | ⟨id0,q,b0,e1,e2,e3,e4⟩;·have:=h.lt;omega
   exact h.un id0 q b0 e1 e3 (e2.trans e)
  | some q=>
   have:q=i:=by have:=ad.mono id q ac;rw[aa]at this;cases this;rfl
   subst this;cases ae:H.get id with
   | none=>rw[ad.dead id q ac ae]at ab;cases ab
   | some b0=>exact h.un id q b0 ac ae e⟩
structure JP (H2 H1:Qa):Prop where
 y:H1.y<=H2.y
 get:∀id b,H2.get id=some b->H1.get id=some b
def JP.refl (H:Qa):JP H H:=⟨Lb _,λ_ _ h=>h⟩
def JP.trans {a b c:Qa}(h:JP a b)(h':JP b c):JP a c:=⟨N8 h'.y h.y,λid x e=>h'.get id x (h.get id x e)⟩
def Sim.less {P:Program}{ρ:Ren}{H1 H2:Qa}{w:World}(h:Sim P ρ H1 w)(l:JP H2 H1):Sim P ρ H2 w:=
 ⟨λid i hi=>N5 (h.dom id i hi) l.y,λid b i ab hi=>h.live id b i (l.get id b ab) hi,λae ag b1 b2 ac ad q aa=>h.sep ae ag b1 b2 ac ad (l.get _ _ q) (l.get _ _ aa),h.glob⟩
def St.less {ρ ρ':Ren}{H H1 H2:Qa}{w w':World}(h:St ρ H w ρ' H1 w')(l:JP H2 H1):St ρ H w ρ' H2 w':=
 {h with
  y:=N8 h.y l.y
  dead:=λid i hi q=>by
   cases ab:H2.get id with
   | none=>rfl
   | some b=>have:=l.get id b ab;rw[h.dead id i hi q]at this;cases this
  ro:=λid i b b' hi q ac aa=>h.ro id i b b' hi q ac (l.get id b' aa)}
abbrev Env:=Nat->Value
def upd (A:Env)(d:Nat)(v:Value):Env:=λt=>bif Nat.beq t d then v else A t
def JQ (A:Env)(d:Option Nat)(v:Value):Env:=match d with | some d=>upd A d v | none=>A
@[simp] theorem Qgb (A:Env) (d:Nat) (v:Value):upd A d v d=v:=by simp[upd]
def Qem (A:Env){d t:Nat}(v:Value)(h:t≠d):upd A d v t=A t:=by simp[upd,Zw,h]
def ev (A:Env):Operand->Value
 | .tmp t=>A t
 | .const v=>v
 | .global g=>.pointer (some ⟨g,0,none⟩)
 | .func f=>.func (.func f) #[] #[]
inductive Ex where
 | normal
 | exit (id:Nat)
 | goto (l:Nat)
 | ret
 | panic (v:Value)
def Qm0 (ρ:Ren):Ex->Exit->Prop
 | .normal,.normal=>True
 | .exit i,.exit j=>i=j
 | .goto i,.goto j=>i=j
 | .ret,.ret=>True
 | .panic v,.panic ch=>∃q,V ρ v q∧ch=[{v:=q,recovered:=false}]
 | _,_=>False
structure EnvRel (ρ:Ren) (n:Nat) (A:Env) (a:Act):Prop where
 size:a.tmps.size=n
 tmps:∀t,t<n->V ρ (A t) (a.tmps.getD t undef)
def EnvRel.mono {ρ ρ':Ren}{n:Nat}{A:Env}{a:Act}(q:Sub ρ ρ')(h:EnvRel ρ n A a):EnvRel ρ' n A a:=
 ⟨h.size,λt aa=>(h.tmps t aa).mono q⟩
def EnvRel.put {ρ:Ren}{n:Nat}{A:Env}{a:Act}{d:Nat}{v q:Value}(h:EnvRel ρ n A a)(aa:d<n)(ac:V ρ v q):EnvRel ρ n (upd A d v) (a.put (some d) q):=by
 refine⟨by simp[Act.put,h.size],λt ab=>?_⟩
 by_cases e:t=d;·subst e;simp only[Qgb,Act.put];rw[N0,RC (by rw[h.size];exact aa)];exact ac
 rw[Qem A v e];have:=h.tmps t ab;simp only[Act.put];rw[N0,Bn (by omega),<- N0];exact this
def QjX (n:Nat):Option Nat->Bool
 | some d=>Nat.blt d n
 | none=>true
def EnvRel.putO {ρ:Ren}{n:Nat}{A:Env}{a:Act}{d:Option Nat}{v q:Value}(h:EnvRel ρ n A a)(aa:QjX n d=true)(ab:V ρ v q):EnvRel ρ n (JQ A d v) (a.put d q):=by
 cases d with
 | none=>exact h
 | some d=>exact h.put (by simpa[QjX] using aa) ab
def X2:Value->Bool
 | .agg xs=>xs.all plain
 | .tuple xs=>xs.all plain
 | .iface _ v=>plain v
 | v=>plain v
def V.closed {ρ:Ren}{v:Value}(h:X2 v=true):V ρ v v:=by
 have q:∀xs:Array Value,xs.all plain=true->∀ (j:Nat) x x',xs[j]? = some x->xs[j]? = some x'->V ρ x x':=λxs hx j x x' aa ab=>by
  rw[aa]at ab;cases ab;exact .same x (B1.1 hx x (BB aa))
 cases v<;>first
  | exact .same _ h
  | exact .agg _ _ rfl (q _ h)
  | exact .tuple _ _ rfl (q _ h)
  | exact .iface _ _ _ (.same _ h)
def Qb8 (P:Program)(n:Nat):Operand->Bool
 | .tmp t=>Nat.blt t n
 | .const v=>X2 v
 | .global g=>Nat.blt g P.globals.size
 | .func _=>true
def EnvRel.eval {P:Program}{ρ:Ren}{H:Qa}{w:World}{n:Nat}{A:Env}{a:Act}(q:Sim P ρ H w)(h:EnvRel ρ n A a){x:Operand}(hx:Qb8 P n x=true):V ρ (ev A x) (a.eval x):=by
 cases x with
 | tmp t=>exact h.tmps t (by simpa[Qb8] using hx)
 | const v=>exact .closed hx
 | global g=>
  obtain⟨i,hi,e⟩:=q.glob g (by simpa[Qb8] using hx);have:=V.ptr (ρ:=ρ) g 0 i hi;rw[e]at this;exact this
 | func f=>exact .func _ _ _ _ _ rfl rfl rfl (λj x x' h=>by simp at h) (λj x x' h=>by simp at h)
structure Rd where
 r:Option Nat
 b:Nat
 d:List Deferred
def fen (z:Rd):Fence:={Fence.wide with round:=z.r}
def QBC (z:Rd)(m:Nat):(fen z).room m:=λd h=>by simp[fen,Fence.wide]at h
def QuH (d:Nat):Deferred:={target:=.collected d,args:=#[]}
structure Fr (z:Rd) (ρ:Ren) (H:Qa) (w:World) (a:Act):Prop where
 marks:∃ds:List Nat,a.defers=ds.map QuH++z.d∧ds.Nodup∧∀d∈ds,z.b<=d∧Hid ρ H w d (.deferred (some []))
 round:∀l,z.r=some l->a.defers=[]∧∃rc,Hid ρ H w l (.loop rc)
 base:z.b<=w.heap.size
def Fr.step {z:Rd}{ρ ρ':Ren}{H H':Qa}{w w':World}{a aa:Act}(h:Fr z ρ H w a)(q:St ρ H w ρ' H' w')(ac:aa.defers=a.defers):Fr z ρ' H' w' aa:=by
 obtain⟨ae,ag,ah,ab⟩:=h.marks;exact⟨⟨ae,ac.trans ag,ah,λd ad=>⟨(ab d ad).1,(ab d ad).2.step q⟩⟩,λl ai=>by
  obtain⟨e,ak,aj⟩:=h.round l ai;exact⟨ac.trans e,ak,aj.step q⟩,N8 h.base q.size⟩
structure QaU (z:Rd) (ρ:Ren) (H:Qa) (w:World) (n:Nat) (A:Env) (a:Act):Prop extends EnvRel ρ n A a where
 fr:Fr z ρ H w a
def QaU.step {z:Rd}{ρ ρ':Ren}{H H':Qa}{w w':World}{n:Nat}{A:Env}{a:Act}(h:QaU z ρ H w n A a)(q:St ρ H w ρ' H' w'):QaU z ρ' H' w' n A a:=
 ⟨h.toEnvRel.mono q.mono,h.fr.step q rfl⟩
def QwV (a:Act)(d:Option Nat)(v:Value):(a.put d v).defers=a.defers:=by cases d<;>rfl
def QaU.putO {z:Rd}{ρ:Ren}{H:Qa}{w:World}{n:Nat}{A:Env}{a:Act}{d:Option Nat}{v q:Value}(h:QaU z ρ H w n A a)(aa:QjX n d=true)(ab:V ρ v q):QaU z ρ H w n (JQ A d v) (a.put d q):=
 ⟨h.toEnvRel.putO aa ab,h.fr.step (.refl _ _ _) (QwV a d q)⟩
section
variable (P:Program) (n:Nat)
def QlQ (z:Rd)(ρ:Ren)(H:Qa)(w:World)(Q:Ex->Env->Qa->Prop):Exit->Act->World->Prop:=
 λe q w'=>∃e' ρ' A' H',Q e' A' H'∧St ρ H w ρ' H' w'∧Sim P ρ' H' w'∧QaU z ρ' H' w' n A' q∧Qm0 ρ' e' e
def AWp (c:Code)(Q:Ex->Env->Qa->Prop)(A:Env)(H:Qa):Prop:=
 ∀z ρ w a,Sim P ρ H w->QaU z ρ H w n A a->c.wpIn (fen z) 0 P (QlQ P n z ρ H w Q) a w
end
section
variable {P:Program} {n:Nat} {Q:Ex->Env->Qa->Prop} {A:Env} {H:Qa}
def QlQ.weaken {z:Rd}{ρ ρ1:Ren}{H1:Qa}{w aa:World}(h:St ρ H w ρ1 H1 aa){e:Exit}{q:Act}{w':World}(ab:QlQ P n z ρ1 H1 aa Q e q w'):QlQ P n z ρ H w Q e q w':=by
 obtain⟨e',ρ',A',H',ac,ad,r⟩:=ab;exact⟨e',ρ',A',H',ac,h.trans ad,r⟩
def AWp.mono {c:Code}{Q':Ex->Env->Qa->Prop}(h:AWp P n c Q A H)(ab:∀e A H,Q e A H->Q' e A H):AWp P n c Q' A H:=
 λz ρ w a ac aa=>FF (h z ρ w a ac aa) (λe a' w' ⟨e',ρ',A',H',q,r⟩=>⟨e',ρ',A',H',ab _ _ _ q,r⟩)
def QoU (h:Q .normal A H):AWp P n .skip Q A H:=
 λz ρ w a aa q=>wpIn_skip ⟨.normal,ρ,A,H,h,.refl _ _ _,aa,q,trivial⟩
def QrW {l:Nat}(h:Q .normal A H):AWp P n (.label l) Q A H:=
 λz ρ w a aa q=>wpIn_label ⟨.normal,ρ,A,H,h,.refl _ _ _,aa,q,trivial⟩
def QuI {id:Nat}(h:Q (.exit id) A H):AWp P n (.exit id) Q A H:=
 λz ρ w a aa q=>wpIn_exit ⟨.exit id,ρ,A,H,h,.refl _ _ _,aa,q,rfl⟩
def QuJ {l:Nat}(h:Q (.goto l) A H):AWp P n (.goto l) Q A H:=
 λz ρ w a aa q=>wpIn_goto ⟨.goto l,ρ,A,H,h,.refl _ _ _,aa,q,rfl⟩
def QyR (h:Q .ret A H):AWp P n .ret Q A H:=
 λz ρ w a aa q=>wpIn_ret ⟨.ret,ρ,A,H,h,.refl _ _ _,aa,q,trivial⟩
def QHn (k:Env->Qa->Prop)(Q:Ex->Env->Qa->Prop):Ex->Env->Qa->Prop
 | .normal,A,H=>k A H
 | e,A,H=>Q e A H
def QjY {x y:Code}(h:AWp P n x (QHn (AWp P n y Q) Q) A H):AWp P n (.seq x y) Q A H:=by
 intro z ρ w a hs he;refine wpIn_seq (FF (h z ρ w a hs he) ?_);rintro e a1 ag ⟨e',ρ1,A1,H1,aa,ad,ac,q,ab⟩;cases e'<;>cases e<;>simp only[Qm0]at ab
 case normal.normal=>
  exact FF (aa z ρ1 ag a1 ac q) (λe ah w' ae=>QlQ.weaken ad ae)
 all_goals exact⟨_,ρ1,A1,H1,aa,ad,ac,q,by first | trivial | exact ab⟩
def QjZ {c:Operand}{x y:Code}{t:Bool}(ac:Qb8 P n c=true)(ab:ev A c=.bool t)(h:AWp P n (if t then x else y) Q A H):AWp P n (.cond c x y) Q A H:=by
 intro z ρ w a hs he;have q:=he.eval hs ac;rw[ab]at q;have aa:a.eval c=.bool t:=by
  generalize a.eval c=z at q;cases q with
  | same _ _=>rfl
 exact wpIn_cond aa (h z ρ w a hs he)
def Qj0 (id:Nat)(Q:Ex->Env->Qa->Prop):Ex->Env->Qa->Prop
 | .exit id',A,H=>if id'=id then Q .normal A H else Q (.exit id') A H
 | e,A,H=>Q e A H
def QaP {id:Nat}{c:Code}(h:AWp P n c (Qj0 id Q) A H):AWp P n (.block id c) Q A H:=by
 intro z ρ w a hs he;refine wpIn_block (FF (h z ρ w a hs he) ?_);rintro e a1 ae ⟨e',ρ1,A1,H1,q,ad,ac,aa,ab⟩;cases e'<;>cases e<;>simp only[Qm0]at ab
 case exit.exit i j=>
  subst ab;simp only[Exit.inBlock,Qj0]at *;split at q;·rename_i e;rw[Lc e];exact⟨.normal,ρ1,A1,H1,q,ad,ac,aa,trivial⟩
  rename_i e;rw[Le e];exact⟨.exit i,ρ1,A1,H1,q,ad,ac,aa,rfl⟩
 all_goals exact⟨_,ρ1,A1,H1,q,ad,ac,aa,by first | trivial | exact ab⟩
end
def Qm1 (ρ:Ren)(o:Oper)(A:Env)(a:Act):Prop:=∀x∈o.op.operands,V ρ (ev A x) (a.eval x)
section
variable (P:Program) (n:Nat)
def QfV (o:Oper):Bool:=QjX n o.dst&&o.op.operands.all (Qb8 P n)
def Qt (o:Oper)(A:Env)(H:Qa)(v:Value)(H':Qa):Prop:=
 ∀ρ w a,Sim P ρ H w->Qm1 ρ o A a->∀ (K:Act->World->Prop) (Q:Exit->Act->World->Prop),
  (∀q ρ' w',V ρ' v q->St ρ H w ρ' H' w'->Sim P ρ' H' w'->K (a.put o.dst q) w')->∀z,o.wpIn (fen z) 0 P a w K Q
def QiZ (ops:Array Oper)(l:List Oper)(Q:Ex->Env->Qa->Prop)(A:Env)(H:Qa):Prop:=
 ∀z ρ w a,Sim P ρ H w->QaU z ρ H w n A a->wpListIn (fen z) 0 P ops (QlQ P n z ρ H w Q) l a w
end
def Qgc {P:Program}{o:Oper}{a:Act}{w w':World}{x:Next}(h:(execOp a.eval o).run P w=.ok x w')(ac:∀d,x≠.defer d)(r:Option Nat):(o.semAt r a.eval).run P w=.ok x w':=by
 by_cases aa:∀c,o.op≠.defer c;·rw[Oper.semAt_eq _ _ _ aa];exact h
 exfalso;obtain⟨c,q⟩:=Classical.not_forall.1 aa;have q:o.op=.defer c:=Classical.not_not.1 q;simp only[execOp,q,LW]at h;cases ab:(resolve a.eval c o.type).run P w with
 | ok d ad=>
  rw[ab]at h;simp only[Lz,Nc,Result.ok.injEq]at h;exact ac d h.1.symm
 | halt y ad=>rw[ab]at h;simp[Result.andThen]at h
section
variable {P:Program} {n:Nat} {Q:Ex->Env->Qa->Prop} {A:Env} {H:Qa}
def Qt.of_run {o:Oper}{v:Value}{H':Qa}
  (h:∀ρ w a,Sim P ρ H w->Qm1 ρ o A a->∃q ρ' w',(execOp a.eval o).run P w=.ok (.value q) w'∧V ρ' v q∧St ρ H w ρ' H' w'∧Sim P ρ' H' w'):Qt P o A H v H':=by
 intro ρ w a hs he K Q hk;obtain⟨q,ρ',w',aa,ad,ac,ab⟩:=h ρ w a hs he;intro z;refine⟨λ_ _=>trivial,?_⟩;rw[Qgc aa (by simp) _];exact hk q ρ' w' ad ac ab
def Qt.of_skip {o:Oper}{H':Qa}
  (h:∀ρ w a,Sim P ρ H w->Qm1 ρ o A a->∃ρ' w',(execOp a.eval o).run P w=.ok .skip w'∧St ρ H w ρ' H' w'∧Sim P ρ' H' w'):Qt P o A H undef H':=by
 intro ρ w a hs he K Q hk;obtain⟨ρ',w',q,ab,aa⟩:=h ρ w a hs he;intro z;refine⟨λ_ _=>trivial,?_⟩;rw[Qgc q (by simp) _];exact hk undef ρ' w' (.closed (by simp[undef,X2])) ab aa
def Qt.pure_ {o:Oper}{v:Value}
  (h:∀ρ w a,Sim P ρ H w->Qm1 ρ o A a->∃q,(execOp a.eval o).run P w=.ok (.value q) w∧V ρ v q):Qt P o A H v H:=
 .of_run λρ w a aa ab=>by
  obtain⟨q,ac,ad⟩:=h ρ w a aa ab;exact⟨q,ρ,w,ac,ad,.refl _ _ _,aa⟩
def EnvRel.op {ρ:Ren}{w:World}{a:Act}(ab:Sim P ρ H w)(aa:EnvRel ρ n A a){o:Oper}(q:QfV P n o=true):Qm1 ρ o A a:=λx hx=>by
 simp only[QfV,Lm]at q;exact aa.eval ab (B1.1 q.2 x hx)
def Qgd {o:Oper}(q:QfV P n o=true):QjX n o.dst=true:=by simp only[QfV,Lm]at q;exact q.1
def QuK {ops:Array Oper}(h:Q .normal A H):QiZ P n ops [] Q A H:=
 λz ρ w a aa q=>⟨.normal,ρ,A,H,h,.refl _ _ _,aa,q,trivial⟩
def QuL {z:Rd}{o:Oper}{a:Act}{K K':Act->World->Prop}{Q1 Q2:Exit->Act->World->Prop}(ab:∀a w,K a w->K' a w)(aa:∀e a w,Q1 e a w->Q2 e a w){r:Result Next}
  (h:o.uponIn (fen z) 0 P a K Q1 r):o.uponIn (fen z) 0 P a K' Q2 r:=by
 cases r with
 | ok ah ai=>
  cases ah<;>simp only[Oper.uponIn]at h ⊢<;>first
   | exact ab _ _ h
   | exact⟨h.1,CallsIn.mono h.2 (λe ae q=>by
     cases e with
     | returned v=>exact ab _ _ q
     | panicked ag=>exact aa _ _ _ q
     | outgrown=>obtain⟨a0,ad,ac⟩:=q;exact⟨a0,ad,aa _ _ _ ac⟩)⟩
   | exact⟨h.1,RowsIn.mono h.2 (λv ae q=>ab _ _ q)⟩
   | exact⟨h.1,RoundIn.mono h.2 (λe ae q=>by
     cases e with
     | returned v=>exact ab _ _ q
     | panicked ag=>exact aa _ _ _ q
     | outgrown=>obtain⟨a0,ad,ac⟩:=q;exact⟨a0,ad,aa _ _ _ ac⟩)⟩
 | halt x ai=>cases x<;>simp only[Oper.uponIn]at h ⊢<;>exact aa _ _ _ h
def G4 {z:Rd}{ops:Array Oper}{Q1 Q2:Exit->Act->World->Prop}(q:∀e a w,Q1 e a w->Q2 e a w):∀ (l:List Oper) (a:Act) (w:World),wpListIn (fen z) 0 P ops Q1 l a w->wpListIn (fen z) 0 P ops Q2 l a w
 | [],a,w,h=>q _ _ _ h
 | o::rest,a,w,h=>by
  unfold wpListIn at h ⊢;split at h;·rename_i aa;rw[Lc aa];exact⟨h.1,QuL (G4 q rest) q h.2⟩
  rename_i aa;rw[Le aa];exact⟨h.1,G4 q rest _ _ h.2⟩
def Qm2 {z:Rd}{ops:Array Oper}{rest:List Oper}{ρ ρ':Ren}{H H':Qa}{w w':World}{a:Act}{q:World}(ab:St ρ H w ρ' H' w')
  (h:wpListIn (fen z) 0 P ops (QlQ P n z ρ' H' w' Q) rest a q):wpListIn (fen z) 0 P ops (QlQ P n z ρ H w Q) rest a q:=
 G4 (λe ac ad aa=>QlQ.weaken ab aa) rest a q h
def QrX {ops:Array Oper}{o:Oper}{rest:List Oper}{v:Value}{H':Qa}(ac:o.guard=none)(ad:Qt P o A H v H')(q:QfV P n o=true)
  (h:QiZ P n ops rest Q (JQ A o.dst v) H'):QiZ P n ops (o::rest) Q A H:=by
 intro z ρ w a hs he;refine wpListIn_plain ac λK ab=>?_;refine ad ρ w a hs (he.op hs q) K _ (λah ρ' w' ag aa ae=>?_) z;have:=h z ρ' w' (a.put o.dst ah) ae ((he.step aa).putO (Qgd q) ag);exact ab _ _ (Qm2 aa this)
def G5 (ops:Array Oper)(j:Nat):Option Nat:=(ops[j]?).bind (·.dst)
def QoV {id:Nat}{l:List Oper}(h:QiZ P n l.toArray l Q A H):AWp P n (.region id l.toArray false) Q A H:=
 λz ρ w a aa q=>wpIn_region_lit (h z ρ w a aa q)
/-! ### New blocks -/
def ext (ρ:Ren)(id:Nat)(i:Zv):Ren:=λx=>if x=id then some i else ρ x
def WI (ρ:Ren)(id:Nat)(i:Zv):ext ρ id i id=some i:=by simp[ext]
def YJ (ρ:Ren){id x:Nat}(i:Zv)(h:x≠id):ext ρ id i x=ρ x:=by simp[ext,h]
def Qb9 {ρ:Ren}{id:Nat}(i:Zv)(h:ρ id=none):Sub ρ (ext ρ id i):=λx j hx=>by
 by_cases e:x=id;·subst e;rw[h]at hx;cases hx
 rw[YJ ρ i e];exact hx
def Sim.none_next {ρ:Ren}{w:World}(q:Sim P ρ H w):ρ H.y=none:=by
 cases h:ρ H.y with
 | none=>rfl
 | some i=>have:=q.dom _ _ h;omega
def Qge (w:World)(o:Obj){b:Nat}(h:b<w.heap.size):(w.alloc o).heap[b]? = w.heap[b]? := by
 simp only[World.alloc,Array.getElem?_push];rw[Le (by omega)]
def Sim.push {ρ:Ren}{w:World}(aa:Sim P ρ H w)(o:Obj)(b:Blk)(i:Zv)(hi:i.at_.block=w.heap.size)
  (aq:WH P (ext ρ H.y i) i (w.alloc o) b):St ρ H w (ext ρ H.y i) (H.push b) (w.alloc o)∧Sim P (ext ρ H.y i) (H.push b) (w.alloc o):=by
 have ak:=aa.none_next;have ag:=Qb9 i ak;have aj:∀id j,ρ id=some j->id≠H.y:=λid j h e=>by rw[e,ak]at h;cases h
 refine⟨⟨ag,by simp,λid j h h'=>?_,λid j b1 b' h ad ab q=>?_,λid j h h'=>?_,rfl,rfl,rfl,by simp,λbk ar _=>Qge w o ar⟩,⟨λid j h=>?_,λid bl j h h'=>?_,λah ae b1 b2 an ao ad ab q ac ap ai=>?_,λg au=>?_⟩⟩;·rw[Qc,Le (aj id j h)];exact h'
 ·rw[Qc,Le (aj id j h),ad]at q;cases q;exact ab
 ·by_cases e:id=H.y;·subst e;rw[WI]at h;cases h;exact⟨Lb _,.inl (by rw[hi];exact Lb _)⟩
  rw[YJ ρ i e,h']at h;cases h
 ·by_cases e:id=H.y;·subst e;simp
  rw[YJ ρ i e]at h;have:=aa.dom _ _ h;simp;omega
 ·by_cases e:id=H.y;·subst e;rw[WI]at h';cases h';rw[Qc,Lc rfl]at h;cases h;exact aq
  rw[YJ ρ i e]at h';rw[Qc,Le e]at h;have am:=aa.live id bl j h h';exact am.mono ag (Qge w o am.lt)
 ·by_cases e1:ah=H.y
  ·by_cases e2:ae=H.y;·exact absurd (e1.trans e2.symm) ai
   rw[YJ ρ i e2]at ac;rw[Qc,Le e2]at ab;subst e1;rw[WI]at q;cases q;have:=(aa.live ae b2 ao ab ac).lt;omega
  rw[YJ ρ i e1]at q;rw[Qc,Le e1]at ad
  by_cases e2:ae=H.y;·subst e2;rw[WI]at ac;cases ac;have:=(aa.live ah b1 an ad q).lt;omega
  rw[YJ ρ i e2]at ac;rw[Qc,Le e2]at ab;exact aa.sep ah ae b1 b2 an ao ad ab q ac ap ai
 obtain⟨j,av,e⟩:=aa.glob g au;exact⟨j,ag _ _ av,e⟩
def WH.new {ρ:Ren}{w:World}{c:List Value}{c':Array Value}{e:TypeId}(ab:VL ρ c c'.toList):
  WH P ρ ⟨⟨w.heap.size,0,none⟩,c.length,P.cellsOf e⟩ (w.alloc (.cells c' e)) (.cells c e false):=by
 have ac:=ab.1;refine⟨c',(0,0),heap_alloc_new w _,⟨rfl,rfl⟩,by simpa using ac,Lb _,λj v ad=>?_,λo _ _=>by simp,λo v q aa=>?_,rfl⟩;·obtain⟨ae,q,aa⟩:=ab.get ad;exact⟨ae,by simpa using q,aa⟩
 have:=(Nj.1 aa).1;simp at q ac;omega
def Sim.pushCells {ρ:Ren}{w:World}(q:Sim P ρ H w){c:List Value}{c':Array Value}(e:TypeId)(aa:VL ρ c c'.toList):
  let i:Zv:=⟨⟨w.heap.size,0,none⟩,c.length,P.cellsOf e⟩
  St ρ H w (ext ρ H.y i) (H.push (.cells c e false)) (w.alloc (.cells c' e))∧Sim P (ext ρ H.y i) (H.push (.cells c e false)) (w.alloc (.cells c' e)):=
 q.push _ _ _ rfl (WH.new (aa.mono (Qb9 _ q.none_next)))
def V.cells {ρ:Ren}{v ab:Value}(h:V ρ v ab):VL ρ v.cells.toList ab.cells.toList:=by
 have one:∀ {x x':Value},V ρ x x'->VL ρ [x] [x']:=λh=>.cons h (.nil ρ);cases h with
 | same v ak=>cases v<;>simp[plain]at ak<;>exact one (.same _ (by simp[plain, *]))
 | agg xs ac q aa=>exact⟨by simpa[Value.cells] using q,λj x x' e e'=>aa j x x' (by simpa[Value.cells] using e) (by simpa[Value.cells] using e')⟩
 | ptr id off i h=>exact one (.ptr id off i h)
 | slice id off len cap ah i ag h q aa ai ad ae=>exact one (.slice id off len cap ah i ag h q aa ai ad ae)
 | map id i h=>exact one (.map id i h)
 | func fn xs ys ac am aj q aa ad ae=>exact one (.func fn xs ys ac am aj q aa ad ae)
 | yield l i h=>exact one (.yield l i h)
 | iface t v ab h=>exact one (.iface t v ab h)
 | tuple xs ac q aa=>exact one (.tuple xs ac q aa)
def V.oneCell {ρ:Ren}{v q:Value}(h:V ρ v q):q.oneCell'=v.oneCell':=by cases h<;>rfl
def VL.closed {ρ:Ren}{l:List Value}(h:l.all plain=true):VL ρ l l:=
 ⟨rfl,λj x x' a b=>by rw[a]at b;cases b;exact .same x (Li.1 h x (Ln a))⟩
/-! ### Loads -/
def JR:TypeDesc->Bool
 | .struct _ | .array _ _=>true
 | _=>false
def Yg (P:Program)(t:TypeId)(a:Addr)(H:Qa):Option Value:=
 match P.underlying t,P.info? t,H.get a.block with
 | some d,some inf,some (.cells c _ _)=>
  if JR d then(if a.off+inf.size<=c.length then some (.agg ((c.drop a.off).take inf.size).toArray) else none)
  else c[a.off]?
 | _,_,_=>none
def WH.cellAt {ρ:Ren}{i:Zv}{w:World}{c:List Value}{e:TypeId}{ro:Bool}(h:WH P ρ i w (.cells c e ro)){j:Nat}{v:Value}(aa:c[j]? = some v):
  ∃q,w.cell? (i.at_.add j)=some q∧V ρ v q:=by
 cases ro with
 | true=>exact h.2 j v aa
 | false=>
  obtain⟨ab,ac,ah,ad,aj,ak,ae,_⟩:=h;obtain⟨q,ag,ai⟩:=ae j v aa;refine⟨q,?_,ai⟩;rw[QjW ad.1,cell_of_row w _ _ ab e ac ah];exact ag
def WH.cellsAt {ρ:Ren}{i:Zv}{w:World}{c:List Value}{e:TypeId}{ro:Bool}(h:WH P ρ i w (.cells c e ro))(off k:Nat)(aj:off+k<=c.length):
  ∃cs:List Value,cs.length=k∧VL ρ ((c.drop off).take k) cs∧(∀ (j:Nat) v,cs[j]? = some v->w.cell? ((i.at_.add off).add j)=some v):=by
 induction k generalizing off with
 | zero=>exact⟨[],rfl,by simpa using VL.nil ρ,λj v h=>by simp at h⟩
 | succ k ah=>
  have aa:off<c.length:=by omega
  obtain⟨cs,ae,ag,ad⟩:=ah (off+1) (by omega);obtain⟨ai,ab,ac⟩:=h.cellAt (La aa);refine⟨ai::cs,by simp[ae],?_,λj v q=>?_⟩;·rw[Nh aa,List.take_succ_cons];exact .cons ac ag
  cases j with
  | zero=>simp at q;subst q;rw[show(i.at_.add off).add 0=i.at_.add off by rw[ZG];rfl];exact ab
  | succ j=>
   have:=ad j v (by simpa using q);rw[ZG]at this ⊢;rw[show off+(j+1)=off+1+j by omega];exact this
def QlR {ρ:Ren}{w:World}{t:TypeId}{id off:Nat}{v:Value}{i:Zv}{c:List Value}{e:TypeId}{ro:Bool}(hi:ρ id=some i)(ak:H.get id=some (.cells c e ro))(ai:WH P ρ i w (.cells c e ro))
  (q:Yg P t ⟨id,off,none⟩ H=some v):∃ac,(loadVar t (i.at_.add off)).run P w=.ok ac w∧V ρ v ac:=by
 unfold Yg at q;cases ab:P.underlying t with
 | none=>simp[ab]at q
 | some d=>
  cases ag:P.info? t with
  | none=>simp[ab,ag]at q
  | some an=>
   simp only[ab,ag,ak]at q;have ah:(isAgg t).run P w=.ok (JR d) w:=by
    simp only[isAgg,LW,LZ ab,Lz];cases d<;>rfl
   split at q
   ·rename_i ae;split at q;·rename_i am;obtain⟨cs,ad,aa,aj⟩:=ai.cellsAt off an.size am;cases q;refine⟨.agg cs.toArray,?_,.agg _ _ (by simpa using aa.1) (λj x x' a b=>aa.2 j x x' (by simpa using a) (by simpa using b))⟩;have:=run_loadCells_list (P:=P) w (i.at_.add off) cs aj;rw[ad]at this;simp only[loadVar,LW,ah,Lz,ae,N3,sizeOf,typeInfo,DJ,ag,Nc,this]
    cases q
   rename_i ae;obtain⟨ac,ad,aa⟩:=ai.cellAt q;refine⟨ac,?_,aa⟩;simp only[loadVar,LW,ah,Lz,ae,LV,LN,run_load,ad]
end
section
variable {P:Program} {n:Nat} {Q:Ex->Env->Qa->Prop} {A:Env} {H:Qa}
structure Gc (w w':World) (g:Nat):Prop where
 other:∀b,b≠g->w'.heap[b]? = w.heap[b]?
 size:w'.heap.size=w.heap.size
 os:w'.os=w.os
 tape:w'.tape=w.tape
 output:w'.output=w.output
def Gc.refl (w:World)(g:Nat):Gc w w g:=⟨λ_ _=>rfl,rfl,rfl,rfl,rfl⟩
def Gc.trans {w aa ab:World}{g:Nat}(a:Gc w aa g)(b:Gc aa ab g):Gc w ab g:=
 ⟨λk q=>(b.other k q).trans (a.other k q),b.size.trans a.size,b.os.trans a.os,b.tape.trans a.tape,b.output.trans a.output⟩
def Sim.setBlk {ρ:Ren}{w w':World}(ac:Sim P ρ H w){id:Nat}{i:Zv}{b b':Blk}(hi:ρ id=some i)(ad:H.get id=some b)(ah:b.ro=false)
  (ae:Gc w w' i.at_.block) (ap:WH P ρ i w' b'):St ρ H w ρ (H.set id b') w'∧Sim P ρ (H.set id b') w':=by
 refine⟨⟨.refl ρ,Lb _,λx j h h'=>?_,λx j b1 b2 h aa q ab=>?_,λx j h h'=>(by rw[h']at h;cases h),ae.os,ae.tape,ae.output,(by rw[ae.size];exact Lb _),λk ar aq=>?_⟩,⟨λx j h=>ac.dom x j h,λx bl j h h'=>?_,λai aj b1 b2 am an aa q ab ak ao ag=>?_,ac.glob⟩⟩
 ·rw[Qj];by_cases e:x=id;·subst e;rw[ad]at h';cases h'
  rw[Le e];exact h'
 ·rw[Qj]at ab
  by_cases e:x=id;·subst e;rw[ad]at aa;cases aa;rw[ah]at q;cases q
  rw[Le e,aa]at ab;cases ab;exact q
 ·exact ae.other k (λe=>aq id i b hi ad ah e.symm)
 ·rw[Qj]at h
  by_cases e:x=id;·subst e;rw[Lc rfl]at h;cases h;rw[hi]at h';cases h';exact ap
  rw[Le e]at h;refine(ac.live x bl j h h').mono (.refl ρ) (ae.other _ ?_);exact λe'=>ac.sep id x b bl i j ad h hi h' ah (λh=>e h.symm) e'.symm
 rw[Qj]at aa q
 by_cases e1:ai=id;·subst e1;rw[Le (λh=>ag h.symm)]at q;exact ac.sep ai aj b b2 am an ad q ab ak ah ag
 rw[Le e1]at aa
 by_cases e2:aj=id;·subst e2;exact ac.sep ai aj b1 b am an aa ad ab ak ao ag
 rw[Le e2]at q;exact ac.sep ai aj b1 b2 am an aa q ab ak ao ag
def splice (c:List Value)(p:Nat)(q:List Value):List Value:=c.take p++(q++c.drop (p+q.length))
def Qh7 {c:List Value}{p:Nat}{q:List Value}(h:p+q.length<=c.length):(splice c p q).length=c.length:=by
 simp[splice];omega
def Qi0 {c:List Value}{p:Nat}{q:List Value}(h:p+q.length<=c.length)(o:Nat):(splice c p q)[o]? = if p<=o∧o<p+q.length then q[o - p]? else c[o]? := by
 unfold splice
 by_cases aa:o<p;·rw[LY (by simp;omega),Le (by omega),Nl,Lc aa]
 rw[LR (by simp;omega)];simp only[Sb,BC (show p<=c.length by omega)]
 by_cases ab:o<p+q.length;·rw[LY (by omega),Lc ⟨by omega,ab⟩]
 rw[LR (by omega),Le (by omega),Nk];congr 1;omega
def QqY (w:World)(g o:Nat)(q:Array Value)(e:TypeId)(aa:Nat×Nat)(v:Value)(ac:w.heap[g]? = some (.cells q e aa)):
  (w.setCell ⟨g,o,none⟩ v).heap[g]? = some (.cells (q.setIfInBounds o v) e aa)∧Gc w (w.setCell ⟨g,o,none⟩ v) g:=by
 refine⟨by simp[World.setCell,RY,ac],⟨λb ab=>?_,by simp,rfl,rfl,rfl⟩⟩;simp only[World.setCell,RY];rw[Le (λe=>ab e.symm)]
def QaV (P:Program)(g o:Nat)(e:TypeId)(aa:Nat×Nat):∀ (ab:List Value) (i:Nat) (q:Array Value) (w:World),w.heap[g]? = some (.cells q e aa)->o+i+ab.length<=q.size->
  (∀k,o+i<=k->k<o+i+ab.length->¬ (aa.1<=k∧k<aa.2))->(∀v∈ab,v.oneCell'=true)->
  ∃w' ac,(storeCells ⟨g,o,none⟩ ab i).run P w=.ok () w'∧w'.heap[g]? = some (.cells ac e aa)∧Gc w w' g∧ac.size=q.size∧
   ∀k,ac[k]? = if o+i<=k∧k<o+i+ab.length then ab[k - (o+i)]? else q[k]?
 | [],i,q,w,hg,_,_,_=>⟨w,q,rfl,hg,.refl _ _,rfl,λk=>by rw[Le (by simp)]⟩
 | v::rest,i,q,w,hg,hl,hf,h1=>by
  simp only[Lo]at hl hf;have ag:o+i<q.size:=by omega
  have ah:w.cell? ⟨g,o+i,none⟩=some q[o+i]:=by
   rw[cell_of_row w g (o+i) q e aa hg,Ng ag]
  have ai:w.frozen? ⟨g,o+i,none⟩=false:=by
   simp only[World.frozen?,hg];have:=hf (o+i) (by omega) (by omega);simp only[BG,NY]
   by_cases ad:aa.1<=o+i;·right;exact λhx=>this ⟨ad,hx⟩
   left;exact ad
  have ar:(store ((⟨g,o,none⟩:Addr).add i) v).run P w=.ok () (w.setCell ⟨g,o+i,none⟩ v):=by
   rw[Vq,run_store P w _ v _ (h1 v (by simp)),ah];simp[ai]
  obtain⟨ak,ao⟩:=QqY w g (o+i) q e aa v hg;obtain⟨w',ac,aq,aj,ap,au,am⟩:=QaV P g o e aa rest (i+1) (q.setIfInBounds (o+i) v) (w.setCell ⟨g,o+i,none⟩ v) ak (by simp;omega)
   (λk aw ax=>hf k (by omega) (by omega)) (λu av=>h1 u (by simp[av]))
  refine⟨w',ac,?_,aj,ao.trans ap,by simpa using au,λk=>?_⟩;·simp only[storeCells,LW,ar,Lz];exact aq
  rw[am];simp only[Lo]
  by_cases an:k=o+i;·subst an;rw[Le (by omega),Lc ⟨Lb _,by omega⟩];simp[ag]
  by_cases ae:o+(i+1)<=k∧k<o+(i+1)+rest.length;·rw[Lc ae,Lc ⟨by omega,by omega⟩];rw[show k - (o+i)=(k - (o+(i+1)))+1 by omega];simp
  rw[Le ae,Le (by omega)];rw[Bn (by omega)]
def WH.storeList {ρ:Ren}{i:Zv}{w:World}{c:List Value}{e:TypeId}(aw:WH P ρ i w (.cells c e false)){off:Nat}{aa ab:List Value}(ae:VL ρ aa ab)(ad:off+aa.length<=c.length)
  (au:∀v∈aa,v.oneCell'=true):∃w',(storeCells (i.at_.add off) ab).run P w=.ok () w'∧Gc w w' i.at_.block∧WH P ρ i w' (.cells (splice c off aa) e false):=by
 obtain⟨aq,ag,aB,ao,aH,ay,ax,ah,aG,az⟩:=aw;have aC:=ae.1;have av:∀v∈ab,v.oneCell'=true:=λaJ aI=>by
  obtain⟨j,q⟩:=BP aI;have aj:j<aa.length:=by rw[aC];exact(Lk.1 q).1
  have:=ae.2 j _ aJ (La aj) q;rw[this.oneCell];exact au _ (Nb aj)
 rw[QjW ao.1];obtain⟨w',ar,aF,aA,aE,ap,ac⟩:=QaV P i.at_.block (i.at_.off+off) e ag ab 0 aq w aB (by omega) (λk aK aL=>ah k (by omega) (by omega)) av;simp only[N9]at ac;refine⟨w',aF,aE,ar,ag,aA,ao,by rw[ap];exact aH,by rw[Qh7 ad];exact ay,λj v q=>?_,λo aD am=>ah o aD (by rw[ap]at am;exact am),λo v ak an=>?_,az⟩
 ·rw[Qi0 ad]at q;rw[ac]
  by_cases ai:off<=j∧j<off+aa.length;·rw[Lc ai]at q;rw[Lc ⟨by omega,by omega⟩];rw[show i.at_.off+j - (i.at_.off+off)=j - off by omega];exact ae.get q
  rw[Le ai]at q;rw[Le (by omega)];exact ax j v q
 rw[Qh7 ad]at ak;rw[ac,Le (by omega)]at an;exact aG o v ak an
def Qi1 (P:Program)(t:TypeId)(a:Addr)(v:Value)(H:Qa):Option Qa:=
 match P.info? t,H.get a.block with
 | some inf,some (.cells c e false)=>
  if v.cells.toList.length=inf.size∧a.off+v.cells.toList.length<=c.length∧v.cells.toList.all (·.oneCell')=true then some (H.set a.block (.cells (splice c a.off v.cells.toList) e false)) else none
 | _,_=>none
def QwW {ρ:Ren}{w:World}(ad:Sim P ρ H w){t:TypeId}{id off:Nat}{v ab:Value}{i:Zv}{H':Qa}(hi:ρ id=some i)(ar:V ρ v ab)(q:Qi1 P t ⟨id,off,none⟩ v H=some H'):
  ∃w',(storeVar t (i.at_.add off) ab).run P w=.ok () w'∧St ρ H w ρ H' w'∧Sim P ρ H' w':=by
 unfold Qi1 at q;cases aa:P.info? t with
 | none=>simp[aa]at q
 | some au=>
  simp only[aa]at q;split at q
  ·rename_i av c e am ac;cases am;split at q
   ·rename_i ah;obtain⟨ai,aj,ak⟩:=ah;cases q;have ae:=ar.cells;obtain⟨w',ao,an,ag⟩:=(ad.live id _ i ac hi).storeList ae aj (λu aq=>Li.1 ak u aq);refine⟨w',?_,ad.setBlk hi ac rfl an ag⟩;have ap:ab.cells.size=au.size:=by have:=ae.1;simp at this ai;omega
    simp only[storeVar,LW,sizeOf,typeInfo,DJ,Lz,aa,Nc,ap,Da,BE,LN];exact ao
   cases q
  cases q
end
def V.plain_eq {ρ:Ren}{v z:Value}(h:V ρ v z)(q:plain v=true):z=v:=by
 cases h<;>first | rfl | (simp[plain]at q)
section
variable {P:Program} {n:Nat} {A:Env} {H:Qa} {d:Option Nat} {ty:TypeId} {pos:String} {af:Array Edge} {g:Option (Nat×Bool)}
def Zj {ρ:Ren}{a:Act}{x:Operand}{v:Value}(h:V ρ (ev A x) (a.eval x))(q:ev A x=v)(aa:plain v=true):a.eval x=v:=by
 rw[q]at h;exact h.plain_eq aa
def QEo {x:Operand}:Qt P ⟨d,.move x,ty,pos,af,g⟩ A H (ev A x) H:=
 .pure_ λρ w a aa q=>⟨a.eval x,by simp only[execOp,Nc],q x (by simp[Op.operands])⟩
def Qz7 {x:Operand}:Qt P ⟨d,.assign x,ty,pos,af,g⟩ A H (ev A x) H:=
 .pure_ λρ w a aa q=>⟨a.eval x,by simp only[execOp,Nc],q x (by simp[Op.operands])⟩
def QEp {c x y:Operand}{t:Bool}(aa:ev A c=.bool t):
  Qt P ⟨d,.pick c x y,ty,pos,af,g⟩ A H (if t then ev A x else ev A y) H:=
 .pure_ λρ w a ab q=>by
  have e:=Zj (q c (by simp[Op.operands])) aa rfl;refine⟨if t then a.eval x else a.eval y,?_,?_⟩;·simp only[execOp,e,asBool,pure_bind,Nc]
  cases t;·exact q y (by simp[Op.operands])
  exact q x (by simp[Op.operands])
def Qen:Value->Bool
 | .pointer none | .nilIface | .nilFunc=>false
 | .func (.method _) _ _=>false
 | _=>true
def QuM {x:Operand}(aa:Qen (ev A x)=true):Qt P ⟨d,.nilCheck x,ty,pos,af,g⟩ A H (ev A x) H:=
 .pure_ λρ w a aj ab=>by
  have q:=ab x (by simp[Op.operands]);refine⟨a.eval x,?_,q⟩;simp only[execOp];generalize ev A x=v at q aa;generalize a.eval x=z at q;cases q with
  | same v ac=>cases v<;>simp[plain,Qen]at ac aa<;>first | rfl | (rename_i p;cases p<;>simp_all)
  | func fn xs ys ak am ad ae ag ah ai=>cases fn<;>simp[Qen]at aa<;>rfl
  | _=>rfl
/-! ### Integers -/
def YK (op:BinOp)(k:IntKind)(a b:Int):Option Value:=
 match op with
 | .add=>some (.int k (k.wrap (a+b)))
 | .sub=>some (.int k (k.wrap (a - b)))
 | .mul=>some (.int k (k.wrap (a * b)))
 | .quo=>if b=0 then none else some (.int k (k.wrap (a.tdiv b)))
 | .rem=>if b=0 then none else some (.int k (a.tmod b))
 | .and=>some (.int k (k.wrap (BitVec.ofInt k.bits a &&& BitVec.ofInt k.bits b).toNat))
 | .or=>some (.int k (k.wrap (BitVec.ofInt k.bits a ||| BitVec.ofInt k.bits b).toNat))
 | .xor=>some (.int k (k.wrap (BitVec.ofInt k.bits a ^^^ BitVec.ofInt k.bits b).toNat))
 | .andNot=>some (.int k (k.wrap (BitVec.ofInt k.bits a &&& ~~~BitVec.ofInt k.bits b).toNat))
 | .eql=>some (.bool (a==b))
 | .neq=>some (.bool (a != b))
 | .lss=>some (.bool (decide (a<b)))
 | .leq=>some (.bool (decide (a<=b)))
 | .gtr=>some (.bool (decide (a>b)))
 | .geq=>some (.bool (decide (a>=b)))
 | _=>none
def QwX {op:BinOp}{k:IntKind}{a b:Int}{v:Value}(t:TypeId)(w:World)(h:YK op k a b=some v):(binOp op t (.int k a) (.int k b)).run P w=.ok v w∧plain v=true:=by
  cases op<;>simp only[YK,reduceCtorEq]at h<;>simp only[binOp,Da,BE,LN]<;>first
    | (cases h;exact⟨rfl,rfl⟩)
    | (split at h
       · cases h
       · cases h;rename_i q;simp only[Op.intDiv,q,LN];exact⟨rfl,rfl⟩)
def Qe7 (op:BinOp)(t:TypeId)(x y:Operand)(k q:IntKind)(a b:Int)(w:World):(eqGuard op t x y (.int k a) (.int q b)).run P w=.ok () w:=by
 cases op<;>rfl
def QHo {op:BinOp}{t ae:TypeId}{x y:Operand}{k:IntKind}{a b:Int}{v:Value}(aa:ev A x=.int k a)(ab:ev A y=.int k b)(h:YK op k a b=some v):
  Qt P ⟨d,.binOp op t x y ae,ty,pos,af,g⟩ A H v H:=
 .pure_ λρ w s ag q=>by
  have e1:=Zj (q x (by simp[Op.operands])) aa rfl;have e2:=Zj (q y (by simp[Op.operands])) ab rfl;obtain⟨ac,ad⟩:=QwX (P:=P) t w h;refine⟨v,?_,.same v ad⟩;simp only[execOp,e1,e2,LW,Qe7,Lz,ac,Nc]
def VB (op:BinOp)(k:IntKind)(a b:Int):Option Value:=
 if b<0 then none else
 match op with
 | .shl=>some (.int k (k.wrap (a * 2 ^ (min b.toNat k.bits))))
 | .shr=>some (.int k (a.fdiv (2 ^ (min b.toNat k.bits))))
 | _=>none
def QuN {op:BinOp}{t ag:TypeId}{x y:Operand}{k ab:IntKind}{a b:Int}{v:Value}(ac:ev A x=.int k a)(ad:ev A y=.int ab b)(h:VB op k a b=some v):
  Qt P ⟨d,.binOp op t x y ag,ty,pos,af,g⟩ A H v H:=
 .pure_ λρ w s ah q=>by
  have e1:=Zj (q x (by simp[Op.operands])) ac rfl;have e2:=Zj (q y (by simp[Op.operands])) ad rfl;have aa:(binOp op t (.int k a) (.int ab b)).run P w=.ok v w∧plain v=true:=by
   unfold VB at h;split at h;·cases h
   rename_i ae;cases op<;>simp only[reduceCtorEq]at h<;>(cases h;simp only[binOp,Op.shift,ae,LN];exact⟨rfl,rfl⟩)
  refine⟨v,?_,.same v aa.2⟩;simp only[execOp,e1,e2,LW,Qe7,Lz,aa.1,Nc]
def bl (s:ByteArray):List UInt8:=s.data.toList
def mkS (l:List UInt8):ByteArray:=⟨⟨l⟩⟩
@[simp] theorem QcX (l:List UInt8):bl (mkS l)=l:=rfl
@[simp] theorem QsN (s:ByteArray):mkS (bl s)=s:=rfl
def Qj1 (s:ByteArray):(bl s).length=s.size:=rfl
def Qi2 (op:BinOp)(x y:List UInt8):Option Value:=
 match op with
 | .add=>if x.length+y.length<=9223372036854775807 then some (.string (mkS (x++y))) else none
 | .eql=>some (.bool (x==y))
 | .neq=>some (.bool !(x==y))
 | .lss=>some (.bool (Op.bytesLess x y))
 | .leq=>some (.bool (Op.bytesLess x y||x==y))
 | .gtr=>some (.bool !(Op.bytesLess x y||x==y))
 | .geq=>some (.bool !(Op.bytesLess x y))
 | _=>none
def QsO (x y:ByteArray):x++y=mkS (bl x++bl y):=by
 apply ByteArray.ext;rw[ByteArray.data_append];apply Ru;simp[mkS,bl]
def QHp {op:BinOp}{t ag:TypeId}{x y:Operand}{a b:ByteArray}{v:Value}(ab:ev A x=.string a)(ac:ev A y=.string b)(h:Qi2 op (bl a) (bl b)=some v):
    Qt P ⟨d,.binOp op t x y ag,ty,pos,af,g⟩ A H v H:=
  .pure_ λρ w s ah q=>by
    have e1:=Zj (q x (by simp[Op.operands])) ab rfl;have e2:=Zj (q y (by simp[Op.operands])) ac rfl;have ae:(eqGuard op t x y (.string a) (.string b)).run P w=.ok () w:=by cases op<;>rfl
    have aa:(binOp op t (.string a) (.string b)).run P w=.ok v w∧plain v=true:=by
      cases op<;>simp only[Qi2,reduceCtorEq]at h<;>first
        | (cases h;simp only[binOp,Op.stringOp,ByteArray.toList_eq];exact⟨rfl,rfl⟩)
        | (split at h
           · cases h
             rename_i ad;refine⟨?_,rfl⟩;simp only[Qj1]at ad;simp only[binOp,Op.stringOp];rw[Le (by simp;omega),QsO];rfl
           · cases h)
    refine⟨v,?_,.same v aa.2⟩;simp only[execOp,e1,e2,LW,ae,Lz,aa.1,Nc]
def QrY (op:UnOp):Value->Option Value
 | .int k m=>match op with
  | .neg=>some (.int k (k.wrap (0 - m)))
  | .xor=>some (.int k (k.wrap (BitVec.ofInt k.bits (if k.signed then -1 else k.max) ^^^ BitVec.ofInt k.bits m).toNat))
  | _=>none
 | .bool b=>match op with
  | .not=>some (.bool !b)
  | _=>none
 | _=>none
def QJC {op:UnOp}{t:TypeId}{x:Operand}{v:Value}(h:QrY op (ev A x)=some v):Qt P ⟨d,.unOp op t x,ty,pos,af,g⟩ A H v H:=
 .pure_ λρ w s ac ab=>by
  have q:=ab x (by simp[Op.operands]);have aa:(Op.unary op (s.eval x)).run P w=.ok v w∧plain v=true:=by
   generalize ev A x=u at q h;cases u with
   | int k m=>
    rw[q.plain_eq rfl];cases op<;>simp only[QrY,reduceCtorEq]at h<;>(cases h;exact⟨rfl,rfl⟩)
   | bool b=>
    rw[q.plain_eq rfl];cases op<;>simp only[QrY,reduceCtorEq]at h<;>(cases h;exact⟨rfl,rfl⟩)
   | _=>simp[QrY]at h
  refine⟨v,?_,.same v aa.2⟩;simp only[execOp,LW,aa.1,Lz,Nc]
/-! ### Conversions without memory -/
def Qot (P:Program)(src q:TypeId)(x:Value):Option Value:=
 match P.underlying src,P.underlying q with
 | some _,some (.int k)=>match x with | .int _ m=>some (.int k (k.wrap m)) | _=>none
 | some (.string),some (.string)=>match x with | .string s=>some (.string s) | _=>none
 | some (.int _),some (.string)=>match x with | .int _ m=>some (.string (Utf8.encode m)) | _=>none
 | _,_=>none
def QEq {src ac:TypeId}{x:Operand}{v:Value}(h:Qot P src ac (ev A x)=some v):Qt P ⟨d,.convert src ac x,ty,pos,af,g⟩ A H v H:=
 .pure_ λρ w s ag ae=>by
  have ab:=ae x (by simp[Op.operands]);have ad:(convert src ac (s.eval x)).run P w=.ok v w∧plain v=true:=by
   generalize ev A x=u at ab h;unfold Qot at h;split at h
   ·rename_i _ _ k q aa;split at h;·cases h;rw[ab.plain_eq rfl];refine⟨?_,rfl⟩;simp only[convert,LW,LZ q,LZ aa,Lz];rfl
    cases h
   ·rename_i _ _ q aa;split at h;·cases h;rw[ab.plain_eq rfl];refine⟨?_,rfl⟩;simp only[convert,LW,LZ q,LZ aa,Lz];rfl
    cases h
   ·rename_i _ _ k q aa;split at h;·cases h;rw[ab.plain_eq rfl];refine⟨?_,rfl⟩;simp only[convert,LW,LZ q,LZ aa,Lz];rfl
    cases h
   cases h
  refine⟨v,?_,.same v ad.2⟩;simp only[execOp,LW,ad.1,Lz,Nc]
/-! ### Interfaces, functions, parts -/
def QlS {t:TypeId}{x:Operand}{q:TypeDesc}(ab:P.underlying t=some q)(hi:(match q with | .interface _=>false | _=>true)=true):
  Qt P ⟨d,.makeInterface t x,ty,pos,af,g⟩ A H (.iface t (ev A x)) H:=
 .pure_ λρ w s ac aa=>by
  refine⟨.iface t (s.eval x),?_,.iface _ _ _ (aa x (by simp[Op.operands]))⟩;simp only[execOp,Instr.makeInterface,LW,LZ ab,Lz];cases q<;>first | rfl | simp at hi
def QrZ {ρ:Ren}{a:Act}{xs:Array Operand}(h:∀x∈xs,V ρ (ev A x) (a.eval x)):VL ρ (xs.map (ev A)).toList (xs.map a.eval).toList:=by
 refine⟨by simp,λj x x' q aa=>?_⟩;simp only[Bl,Array.getElem?_map,Lx]at q aa;obtain⟨o,ab,rfl⟩:=q;obtain⟨o',ac,rfl⟩:=aa;rw[ab]at ac;cases ac;exact h o (BB ab)
def QuO {fn:Fn}{first q:Array Operand}(ad:QaD fn=true):
  Qt P ⟨d,.makeFunc fn first q,ty,pos,af,g⟩ A H (.func fn (first.map (ev A)) (q.map (ev A))) H:=
 .pure_ λρ w s ae aa=>by
  have ab:=QrZ (xs:=first) (λx hx=>aa x (by simp[Op.operands,hx]));have ac:=QrZ (xs:=q) (λx hx=>aa x (by simp[Op.operands,hx]));refine⟨.func fn (first.map s.eval) (q.map s.eval),rfl,.func _ _ _ _ _ ad (by simp) (by simp) (λj x x' a b=>ab.2 j x x' (by simpa using a) (by simpa using b)) (λj x x' a b=>ac.2 j x x' (by simpa using a) (by simpa using b))⟩
def Gd (P:Program)(t:TypeId)(cs:Array Value)(off:Nat):Option Value:=
 match P.underlying t,P.info? t with
 | some td,some inf=>if JR td then some (.agg (cs.extract off (off+inf.size))) else cs[off]?
 | _,_=>none
def Qr0 {t:TypeId}{q:TypeDesc}(aa:P.underlying t=some q)(w:World):(isAgg t).run P w=.ok (JR q) w:=by
 simp only[isAgg,LW,LZ aa,Lz];cases q<;>rfl
def Wr {t:TypeId}{q:TypeInfo}(hi:P.info? t=some q)(w:World):(sizeOf t).run P w=.ok q.size w:=by
 simp only[sizeOf,typeInfo,LW,DJ,Lz,hi,Nc]
def Qj2 {ρ:Ren}{t:TypeId}{cs q:Array Value}{off:Nat}{v:Value}(ab:VL ρ cs.toList q.toList)(h:Gd P t cs off=some v)(w:World):∃aa,(part t q off).run P w=.ok aa w∧V ρ v aa:=by
 unfold Gd at h;split at h
 ·rename_i am ak ae hi;split at h
  ·rename_i ac;cases h;refine⟨.agg (q.extract off (off+ak.size)),?_,?_⟩;·simp only[part,LW,Qr0 ae,Lz,ac,N3,Wr hi,Nc]
   have ad:cs.size=q.size:=by have:=ab.1;simpa using this
   refine .agg _ _ (by simp[ad]) (λj x x' a b=>?_);rw[Array.getElem?_extract]at a b;split at a;·rename_i aj;rw[Lc (by rw[<- ad];exact aj)]at b;exact ab.2 (off+j) x x' (by simpa using a) (by simpa using b)
   cases a
  rename_i ac;have h':cs.toList[off]? = some v:=by simpa using h
  obtain⟨aa,ag,ai⟩:=ab.get h';refine⟨aa,?_,ai⟩;have ah:q[off]? = some aa:=by simpa using ag
  simp only[part,LW,Qr0 ae,Lz,ac,LV,LN,ah,Nc]
 cases h
def V.agg_inv {ρ:Ren}{cs:Array Value}{z:Value}(h:V ρ (.agg cs) z):∃q,z=.agg q∧VL ρ cs.toList q.toList:=by
 cases h with
 | same _ ac=>simp[plain]at ac
 | agg xs ad aa ab=>exact⟨ad,rfl,by simpa using aa,λj x x' a b=>ab j x x' (by simpa using a) (by simpa using b)⟩
def V.tuple_inv {ρ:Ren}{cs:Array Value}{z:Value}(h:V ρ (.tuple cs) z):∃q,z=.tuple q∧VL ρ cs.toList q.toList:=by
 cases h with
 | same _ ac=>simp[plain]at ac
 | tuple xs ad aa ab=>exact⟨ad,rfl,by simpa using aa,λj x x' a b=>ab j x x' (by simpa using a) (by simpa using b)⟩
def V.ptr_inv {ρ:Ren}{a:Addr}{z:Value}(h:V ρ (.pointer (some a)) z):∃i,ρ a.block=some i∧a.spot=none∧z=.pointer (some (i.at_.add a.off)):=by
 cases h with
 | same _ q=>simp[plain]at q
 | ptr id off i h=>exact⟨i,h,rfl,rfl⟩
def V.iface_inv {ρ:Ren}{t:TypeId}{v z:Value}(h:V ρ (.iface t v) z):∃q,z=.iface t q∧V ρ v q:=by
 cases h with
 | same _ aa=>simp[plain]at aa
 | iface t v q h=>exact⟨q,rfl,h⟩
def V.map_inv {ρ:Ren}{id:Nat}{z:Value}(h:V ρ (.map (some id)) z):∃i,ρ id=some i∧z=.map (some i.at_.block):=by
 cases h with
 | same _ q=>simp[plain]at q
 | map id i h=>exact⟨i,h,rfl⟩
def V.slice_inv {ρ:Ren}{a:Addr}{len cap:Nat}{z:Value}(h:V ρ (.slice (some a) len cap) z):∃i aa q,ρ a.block=some i∧a.spot=none∧z=.slice (some aa) len q∧
  (aa=i.at_.add a.off∨(len=0∧q=0))∧len<=q∧q<UNK∧(UNK<=cap->i.s=cap - UNK∧a.off+q * i.s=i.n)∧(cap<UNK->q=cap):=by
 cases h with
 | same _ ah=>simp[plain]at ah
 | slice id off len cap q i aa h ac ad ab ae ag=>exact⟨i,aa,q,h,rfl,rfl,ac,ad,ab,ae,ag⟩
def QBD {t:TypeId}{x:Operand}{f:Nat}{q:Array Field}{fd:Field}{cs:Array Value}{v:Value}(aj:P.underlying t=some (.struct q))(ah:q[f]? = some fd)(ab:ev A x=.agg cs)
  (ai:Gd P fd.type cs fd.offset=some v):Qt P ⟨d,.field t x f,ty,pos,af,g⟩ A H v H:=
 .pure_ λρ w s an ag=>by
  have aa:=ag x (by simp[Op.operands]);rw[ab]at aa;obtain⟨am,e,ae⟩:=aa.agg_inv;obtain⟨ak,ac,ad⟩:=Qj2 ae ai w;refine⟨ak,?_,ad⟩;simp only[execOp,Instr.field,LW,LZ aj,Lz,ah,e,asAgg,Nc,ac]
def QsP {t:TypeId}{x:Operand}{f:Nat}{aa:Array Field}{fd:Field}{q:TypeInfo}{a:Addr}(ai:P.underlying t=some (.struct aa))(ah:aa[f]? = some fd)(hi:P.info? fd.type=some q)(aj:Nat.beq q.size 0=false)
  (ac:ev A x=.pointer (some a)):Qt P ⟨d,.fieldAddr t x f,ty,pos,af,g⟩ A H (.pointer (some ⟨a.block,a.off+fd.offset,none⟩)) H:=
 .pure_ λρ w s an ag=>by
  have ab:=ag x (by simp[Op.operands]);rw[ac]at ab;obtain⟨i,ad,am,ae⟩:=ab.ptr_inv;refine⟨.pointer (some (i.at_.add (a.off+fd.offset))),?_,.ptr _ _ i ad⟩;have ak:¬q.size=0:=by simpa[Zw] using aj
  simp only[execOp,Instr.fieldAt,LW,LZ ai,Lz,ah,ae,Instr.sureAddr,Nc,fieldPlace,Wr hi,ak,LN,ZG]
def Qi3 {t e:TypeId}{x aa:Operand}{q:TypeInfo}{a:Addr}{len cap:Nat}{k:IntKind}{m:Int}(ak:P.underlying t=some (.slice e))(hi:P.info? e=some q)
  (ag:ev A x=.slice (some a) len cap) (ae:ev A aa=.int k m) (ah:0<=m) (ai:m<len):
  Qt P ⟨d,.indexAddr t x aa,ty,pos,af,g⟩ A H (.pointer (some ⟨a.block,a.off+m.toNat * q.size,none⟩)) H:=
 .pure_ λρ w s ar ab=>by
  have ac:=ab x (by simp[Op.operands]);rw[ag]at ac;have e2:=Zj (ab aa (by simp[Op.operands])) ae rfl;obtain⟨i,ad,am,g1,g2,g3,g4,ao,an,ap,aq⟩:=ac.slice_inv;have aj:ad=i.at_.add a.off:=by rcases g4 with h | ⟨h,_⟩;exact h;omega
  refine⟨.pointer (some (i.at_.add (a.off+m.toNat * q.size))),?_,.ptr _ _ i g1⟩;simp only[execOp,Instr.indexAt,e2,asIntOf,g3,LW,Nc,LZ ak,Lz,ah,ai,RU,N3,Wr hi,aj,ZG]
def Qi4 {t e:TypeId}{x aa:Operand}{q:TypeInfo}{a:Addr}{len:Nat}{k:IntKind}{m:Int}(ai:P.underlying t=some (.array len e))(hi:P.info? e=some q)
  (ae:ev A x=.pointer (some a)) (ad:ev A aa=.int k m) (ag:0<=m) (ah:m<len):
  Qt P ⟨d,.indexAddr t x aa,ty,pos,af,g⟩ A H (.pointer (some ⟨a.block,a.off+m.toNat * q.size,none⟩)) H:=
 .pure_ λρ w s aj ab=>by
  have ac:=ab x (by simp[Op.operands]);rw[ae]at ac;have e2:=Zj (ab aa (by simp[Op.operands])) ad rfl;obtain⟨i,g1,g2,g3⟩:=ac.ptr_inv;refine⟨.pointer (some (i.at_.add (a.off+m.toNat * q.size))),?_,.ptr _ _ i g1⟩;simp only[execOp,Instr.indexAt,e2,asIntOf,g3,Instr.sureAddr,LW,Nc,LZ ai,Lz,ag,ah,RU,N3,Wr hi,ZG]
def QnT {t:TypeId}{x aa:Operand}{s:ByteArray}{k:IntKind}{m:Int}{b:UInt8}(ai:P.underlying t=some .string)(ae:ev A x=.string s)(ad:ev A aa=.int k m)(ag:0<=m)(q:(bl s)[m.toNat]? = some b):
  Qt P ⟨d,.index t x aa,ty,pos,af,g⟩ A H (.int .u8 b.toNat) H:=
 .pure_ λρ w a aj ab=>by
  have e1:=Zj (ab x (by simp[Op.operands])) ae rfl;have e2:=Zj (ab aa (by simp[Op.operands])) ad rfl;refine⟨.int .u8 b.toNat,?_,.same _ rfl⟩;have ah:s[m.toNat]? = some b:=by
   have ac:m.toNat<s.size:=by rw[<- Qj1];exact(Lk.1 q).1
   rw[getElem?_pos s _ ac];rw[La (by rw[Qj1];exact ac)]at q;exact q
  simp only[execOp,Instr.index,e1,e2,asIntOf,LW,Nc,LZ ai,Lz,ag,N3,ah]
def QoW {t e:TypeId}{x q:Operand}{len:Nat}{ac:TypeInfo}{cs:Array Value}{k:IntKind}{m:Int}{v:Value}(ak:P.underlying t=some (.array len e))(hi:P.info? e=some ac)(ae:ev A x=.agg cs)(ad:ev A q=.int k m)
  (ag:0<=m) (ah:m<len) (aj:Gd P e cs (m.toNat * ac.size)=some v):Qt P ⟨d,.index t x q,ty,pos,af,g⟩ A H v H:=
 .pure_ λρ w a ao aa=>by
  have ab:=aa x (by simp[Op.operands]);rw[ae]at ab;have e2:=Zj (aa q (by simp[Op.operands])) ad rfl;obtain⟨an,e',ai⟩:=ab.agg_inv;obtain⟨am,g1,g2⟩:=Qj2 ai aj w;refine⟨am,?_,g2⟩;simp only[execOp,Instr.index,e',e2,asIntOf,LW,Nc,LZ ak,Lz,ag,ah,RU,N3,Wr hi,g1]
def QwY {x:Operand}{q:Nat}{ac:Array Value}{v:Value}(ad:ev A x=.tuple ac)(ai:ac[q]? = some v):Qt P ⟨d,.extract x q,ty,pos,af,g⟩ A H v H:=
 .pure_ λρ w a ak ah=>by
  have aa:=ah x (by simp[Op.operands]);rw[ad]at aa;obtain⟨aj,e',ag⟩:=aa.tuple_inv;obtain⟨ab,g1,g2⟩:=ag.get (j:=q) (x:=v) (by simpa using ai);have ae:aj[q]? = some ab:=by simpa using g1
  refine⟨ab,?_,g2⟩;simp only[execOp,Instr.extract,e',ae,LW,Nc,Lz]
end
section
variable {P:Program} {n:Nat} {A:Env} {H:Qa} {d:Option Nat} {ty:TypeId} {pos:String} {af:Array Edge} {g:Option (Nat×Bool)}
def Qgf {t:TypeId}{a:Addr}{v:Value}(h:Yg P t a H=some v):∃c e ro,H.get a.block=some (.cells c e ro):=by
 unfold Yg at h;split at h;·rename_i d ac c e ro aa ab q;exact⟨c,e,ro,q⟩
 cases h
def QEr {t:TypeId}{x:Operand}{a:Addr}{v:Value}(ac:ev A x=.pointer (some a))(aa:Yg P t a H=some v):Qt P ⟨d,.load t x,ty,pos,af,g⟩ A H v H:=
 .pure_ λρ w s ah ag=>by
  have ab:=ag x (by simp[Op.operands]);rw[ac]at ab;obtain⟨i,g1,g2,g3⟩:=ab.ptr_inv;obtain⟨id,off,aj⟩:=a;simp only at g1 g2 g3;subst g2;obtain⟨c,e,ro,q⟩:=Qgf aa;obtain⟨ai,ad,ae⟩:=QlR g1 q (ah.live id _ i q g1) aa;refine⟨ai,?_,ae⟩;simp only[execOp,Instr.loadAt,g3,Instr.sureAddr,LW,Nc,Lz,ad]
def QBE {t:TypeId}{x y:Operand}{a:Addr}{H':Qa}(ab:ev A x=.pointer (some a))(ag:Qi1 P t a (ev A y) H=some H'):Qt P ⟨d,.store t x y,ty,pos,af,g⟩ A H undef H':=
 .of_skip λρ w s ah q=>by
  have aa:=q x (by simp[Op.operands]);rw[ab]at aa;obtain⟨i,g1,g2,g3⟩:=aa.ptr_inv;obtain⟨id,off,ai⟩:=a;simp only at g1 g2 g3;subst g2;obtain⟨w',ac,ad,ae⟩:=QwW ah g1 (q y (by simp[Op.operands])) ag;refine⟨ρ,w',?_,ad,ae⟩;simp only[execOp,Instr.storeAt,g3,Instr.sureAddr,LW,Nc,Lz,ac]
def Zr {t:TypeId}{q:TypeInfo}{z:Value}(hi:P.info? t=some q)(aa:q.zero=some z)(w:World):(zeroValue t).run P w=.ok z w:=by
 simp only[zeroValue,typeInfo,LW,DJ,Lz,hi,Nc,aa]
def QBF {e:TypeId}{q:TypeInfo}{z:Value}(hi:P.info? e=some q)(ae:q.zero=some z)(ac:z.cells.toList.all plain=true):
  Qt P ⟨d,.alloc e,ty,pos,af,g⟩ A H (.pointer (some ⟨H.y,0,none⟩)) (H.push (.cells z.cells.toList e false)):=
 .of_run λρ w s ad ag=>by
  obtain⟨aa,ab⟩:=ad.pushCells (c:=z.cells.toList) (c':=z.cells) e (.closed ac);refine⟨.pointer (some ⟨w.heap.size,0,none⟩),_,_,?_,.ptr H.y 0 _ (WI _ _ _),aa,ab⟩;simp only[execOp,Instr.alloc,LW,Zr hi ae,Lz,newVar,newRow,FT,Nc,World.alloc]
def QHq {e:TypeId}{x:Operand}:
  Qt P ⟨d,.box e x,ty,pos,af,g⟩ A H (.pointer (some ⟨H.y,0,none⟩)) (H.push (.cells (ev A x).cells.toList e false)):=
 .of_run λρ w s ac ab=>by
  obtain⟨q,aa⟩:=ac.pushCells (c:=(ev A x).cells.toList) (c':=(s.eval x).cells) e (ab x (by simp[Op.operands])).cells;refine⟨.pointer (some ⟨w.heap.size,0,none⟩),_,_,?_,.ptr H.y 0 _ (WI _ _ _),q,aa⟩;simp only[execOp,Instr.box,LW,newVar,newRow,FT,Nc,Lz,World.alloc]
/-! ### Building structs, arrays, slices -/
def Qca (place:Nat->Option (Nat×Nat)):List Value->List (Nat×Value)->Option (List Value)
 | cells,[]=>some cells
 | cells,(i,v)::rest=>
  match place i with
  | none=>none
  | some (off,size)=>if v.cells.toList.length=size∧off+size<=cells.length then Qca place (splice cells off v.cells.toList) rest else none
def Qh8:∀ (q:List Value) (k off:Nat) (cs:Array Value),off+k+q.length<=cs.size->
  ((q.zipIdx k).foldl (fun(cs:Array Value) (p:Value×Nat)=>cs.setIfInBounds (off+p.2) p.1) cs).toList=splice cs.toList (off+k) q
 | [],k,off,cs,h=>by simp[splice]
 | v::q,k,off,cs,h=>by
  simp only[Lo]at h;rw[List.zipIdx_cons,FQ,Qh8 q (k+1) off _ (by simp;omega)];apply BA;intro o;rw[Qi0 (by simp;omega),Qi0 (by simp;omega)];simp only[Array.toList_setIfInBounds,Lo]
  by_cases ab:o=off+k;·subst ab;rw[Le (by omega),Lc ⟨by omega,by omega⟩,List.getElem?_set_self (by simp;omega)];simp
  by_cases aa:off+(k+1)<=o∧o<off+(k+1)+q.length;·rw[Lc aa,Lc ⟨by omega,by omega⟩,show o - (off+k)=(o - (off+(k+1)))+1 by omega];simp
  rw[Le aa,Le (by omega),List.getElem?_set_ne (by omega)]
def Qj3 {ρ:Ren}{place:Nat->Option (Nat×Nat)}:∀ (ae aa:List (Nat×Value)) (c:List Value) (c':Array Value) (r:List Value),VL ρ c c'.toList->ae.map (·.1)=aa.map (·.1)->VL ρ (ae.map (·.2)) (aa.map (·.2))->
  Qca place c ae=some r->∃ad,Instr.fill place c' aa=some ad∧VL ρ r ad.toList
 | [],aa,c,c',r,hc,ab,h2,h=>by
  have:aa=[]:=by cases aa;rfl;simp at ab
  subst this;simp only[Qca,Lt]at h;subst h;exact⟨c',rfl,hc⟩
 | (i,v)::rest,aa,c,c',r,hc,ab,h2,h=>by
  cases aa with
  | nil=>simp at ab
  | cons q ap=>
   obtain⟨i',ac⟩:=q;simp only[NZ,Fl]at ab;obtain⟨rfl,ab⟩:=ab;obtain⟨x',au,e,an,ao⟩:=h2.uncons;simp only[NZ,Fl]at e;obtain⟨rfl,rfl⟩:=e;unfold Qca at h;split at h;·cases h
   rename_i off size ak;split at h
   ·rename_i ai;have ag:=an.cells;have aj:ac.cells.size=size:=by have:=ag.1;simp at this ai;omega
    have aq:c.length=c'.size:=by have:=hc.1;simpa using this
    have ar:v.cells.size=size:=by simpa using ai.1
    have am:VL ρ (splice c off v.cells.toList) (splice c'.toList off ac.cells.toList):=by
     unfold splice;refine(hc.take _).append (ag.append ?_);rw[show off+ac.cells.toList.length=off+v.cells.toList.length by simp;omega];exact hc.drop _
    have ah:=Qh8 ac.cells.toList 0 off c' (by simp;omega);simp only[N9]at ah;obtain⟨ad,g1,g2⟩:=Qj3 rest ap _ (splice c'.toList off ac.cells.toList).toArray r (by simpa using am) ab ao h;refine⟨ad,?_,g2⟩;unfold Instr.fill;simp only[ak,aj];rw[Le (by simp;omega)];rw[<- g1];congr 1;apply Ru;simp only[Array.toList_zipIdx,<- Array.foldl_toList];exact ah
   cases h
def YG (A:Env)(q:Array (Nat×Operand)):List (Nat×Value):=q.toList.map λp=>(p.1,ev A p.2)
def QlT {ρ:Ren}{a:Act}{aa:Array (Nat×Operand)}(ag:∀x∈(aa.toList.map (·.2)).toArray,V ρ (ev A x) (a.eval x)):
  (YG A aa).map (·.1)=(aa.map fun(i,x)=>(i,a.eval x)).toList.map (·.1)∧VL ρ ((YG A aa).map (·.2)) ((aa.map fun(i,x)=>(i,a.eval x)).toList.map (·.2)):=by
 refine⟨by simp[YG],by simp[YG],λj x x' ab ac=>?_⟩;simp only[YG,Ht,LD,Lx,Array.toList_map,Function.comp]at ab ac;obtain⟨p,ad,rfl⟩:=ab;obtain⟨q,ae,rfl⟩:=ac;rw[ad]at ae;cases ae;refine ag _ ?_;simp only[List.mem_toArray,N4];exact⟨p,Ln ad,rfl⟩
def Qj4 (P:Program)(q:Array Field):Option (Array (Nat×Nat)):=q.mapM λf=>(P.info? f.type).map λaa=>(f.offset,aa.size)
def QoX (w:World):∀ (l:List Field) (r:List (Nat×Nat)),l.mapM (λf=>(P.info? f.type).map λaa=>(f.offset,aa.size))=some r->
  (l.mapM (λf=>(do pure (f.offset,<- sizeOf f.type):Sem (Nat×Nat)))).run P w=.ok r w
 | [],r,h=>by simp at h;subst h;rfl
 | f::l,r,h=>by
  simp only[Ra,BV,BY,Lx,Rx,Lt]at h;obtain⟨p,⟨aa,hi,rfl⟩,q,ab,rfl⟩:=h;have ac:=QoX w l q ab;simp only[Ra,LW,Wr hi,Lz,Nc,ac]
def QnU {t:TypeId}{ac:Array (Nat×Operand)}{q:Array Field}{ab:TypeInfo}{z:Value}{pl:Array (Nat×Nat)}{r:List Value}(ao:P.underlying t=some (.struct q))(hi:P.info? t=some ab)(ap:ab.zero=some z)
  (ag:z.cells.toList.all plain=true) (aa:Qj4 P q=some pl) (ak:Qca (pl[·]?) z.cells.toList (YG A ac)=some r):Qt P ⟨d,.build t ac,ty,pos,af,g⟩ A H (.agg r.toArray) H:=
 .pure_ λρ w s ar ah=>by
  obtain⟨g1,g2⟩:=QlT (A:=A) ah;obtain⟨aq,ae,ad⟩:=Qj3 (ρ:=ρ) (YG A ac) _ z.cells.toList z.cells r (.closed ag) g1 g2 ak;refine⟨.agg aq,?_,.agg _ _ (by simpa using ad.1) (λj x x' a b=>ad.2 j x x' (by simpa using a) (by simpa using b))⟩;have aj:q.toList.mapM (λf=>(P.info? f.type).map λab=>(f.offset,ab.size))=some pl.toList:=by
   unfold Qj4 at aa;rw[Array.mapM_eq_mapM_toList]at aa;simp only[Option.map_eq_map,Lx]at aa;obtain⟨l,ai,rfl⟩:=aa;simpa using ai
  have am:=QoX (P:=P) w q.toList pl.toList aj;have an:(q.mapM (λf=>(do pure (f.offset,<- sizeOf f.type):Sem (Nat×Nat)))).run P w=.ok pl w:=by
   rw[Array.mapM_eq_mapM_toList];simp only[Sem.run_map,am,Lz,RE]
  simp only[execOp,Instr.build,LW,Zr hi ap,Lz,LZ ao,an,ae,Nc]
def QoY {t e:TypeId}{len:Nat}{aa:Array (Nat×Operand)}{ac q:TypeInfo}{z:Value}{r:List Value}(aj:P.underlying t=some (.array len e))(hi:P.info? t=some ac)(ak:ac.zero=some z)
  (ae:z.cells.toList.all plain=true) (ah:P.info? e=some q) (ai:Qca (λi=>some (i * q.size,q.size)) z.cells.toList (YG A aa)=some r):Qt P ⟨d,.build t aa,ty,pos,af,g⟩ A H (.agg r.toArray) H:=
 .pure_ λρ w s an ag=>by
  obtain⟨g1,g2⟩:=QlT (A:=A) ag;obtain⟨am,ad,ab⟩:=Qj3 (ρ:=ρ) (YG A aa) _ z.cells.toList z.cells r (.closed ae) g1 g2 ai;refine⟨.agg am,?_,.agg _ _ (by simpa using ab.1) (λj x x' a b=>ab.2 j x x' (by simpa using a) (by simpa using b))⟩;simp only[execOp,Instr.build,LW,Zr hi ak,Lz,LZ aj,Wr ah,ad,Nc]
def XV (z:Array Value)(m:Nat):List Value:=(List.range m).map λi=>z[i % z.size]!
def Qm3 {z:Array Value}(q:z.toList.all plain=true)(m:Nat)(ac:m=0∨0<z.size):(XV z m).all plain=true:=by
 rw[Li];intro x hx;simp only[XV,N4,LU]at hx;obtain⟨i,hi,rfl⟩:=hx;have ab:0<z.size:=by omega
 have aa:i % z.size<z.size:=Rm _ ab;rw[getElem!_pos z _ aa];exact Li.1 q _ (by simp)
def QqZ {t e:TypeId}{len:Nat}{ac:Array (Nat×Operand)}{q:TypeInfo}{z:Value}{r:List Value}(ar:P.underlying t=some (.slice e))(hi:P.info? e=some q)(au:q.zero=some z)
  (ah:z.cells.toList.all plain=true) (ai:Nat.blt 0 z.cells.size=true) (ad:Nat.ble len 16777216=true) (aq:Nat.ble (len * q.size) 16777216=true) (ao:Qca (λi=>some (i * q.size,q.size)) (XV z.cells (len * q.size)) (YG A ac)=some r):
  Qt P ⟨d,.buildSlice t len ac,ty,pos,af,g⟩ A H (.slice (some ⟨H.y,0,none⟩) len len) (H.push (.cells r e false)):=
 .of_run λρ w s ap ak=>by
  obtain⟨g1,g2⟩:=QlT (A:=A) ak;have aj:0<z.cells.size:=by simpa using ai
  have ay:len * q.size<=16777216:=by simpa using aq
  have av:((Array.range (len * q.size)).map (λi=>(if len * q.size=0 then(#[]:Array Value) else z.cells)[i % (if len * q.size=0 then(#[]:Array Value) else z.cells).size]!)).toList=XV z.cells (len * q.size):=by
   by_cases aa:len * q.size=0;·simp[aa,XV]
   simp[aa,XV,Array.toList_range]
  have an:=Qm3 ah (len * q.size) (.inr aj);obtain⟨aw,ab,ae⟩:=Qj3 (ρ:=ρ) (YG A ac) _ (XV z.cells (len * q.size)) ((Array.range (len * q.size)).map (λi=>(if len * q.size=0 then(#[]:Array Value) else z.cells)[i % (if len * q.size=0 then(#[]:Array Value) else z.cells).size]!)) r (by rw[av];exact .closed an) g1 g2 ao;obtain⟨k1,k2⟩:=ap.pushCells (c:=r) (c':=aw) e ae;have am:len<UNK:=by
   have:len<=16777216:=by simpa using ad
   simp only[UNK];omega
  refine⟨.slice (some ⟨w.heap.size,0,none⟩) len len,_,_,?_,.slice H.y 0 len len len _ _ (WI _ _ _) (.inl (by rw[Vq])) (Lb _) am (λh=>?_) (λ_=>rfl),k1,k2⟩
  ·have ag:¬ (len * q.size>2 ^ 24):=by omega
   simp only[execOp,Instr.buildSlice,LW,LZ ar,Lz,Wr hi,ag,LN]
   by_cases aa:len * q.size=0;·simp only[aa,N3,Nc]at ab ⊢;simp only[ab,newRow,LW,FT,Lz,Nc,World.alloc]
   simp only[aa,LN,LW,Zr hi au,Nc,Lz]at ab ⊢;simp only[ab,newRow,LW,FT,Lz,Nc,World.alloc]
  exfalso;have ax:len<=16777216:=by simpa using ad
  simp only[UNK]at h;omega
end
section
variable {P:Program} {n:Nat} {A:Env} {H:Qa} {d:Option Nat} {ty:TypeId} {pos:String} {af:Array Edge} {g:Option (Nat×Bool)}
def Qeo (P:Program)(e:TypeId)(q:TypeInfo)(z:Value):Bool:=
  Nat.beq z.cells.size q.size&&Nat.blt 0 q.size&&z.cells.toList.all plain &&
    (match P.underlying e with
     | some (.int .u8)=>(match z with | .int .u8 m=>m==0 | _=>false)
     | some _=>true
     | none=>false)
structure G6 (P:Program) (e:TypeId) (inf:TypeInfo) (z:Value):Prop where
 info:P.info? e=some inf
 zero:inf.zero=some z
 cells:z.cells.size=inf.size
 pos:0<inf.size
 plain_:z.cells.toList.all plain=true
 byte:P.underlying e=some (.int .u8)->z=.int .u8 0
def G6.mk' {e:TypeId}{aa:TypeInfo}{z:Value}(ab:P.info? e=some aa)(ac:aa.zero=some z)(h:Qeo P e aa z=true):G6 P e aa z:=by
 simp only[Qeo,Lm]at h;obtain⟨⟨⟨a,b⟩,c⟩,q⟩:=h;refine⟨ab,ac,by simpa[Zw] using a,by simpa using b,c,λad=>?_⟩;rw[ad]at q;simp only at q;split at q
 ·rename_i m;have:m=0:=by simpa using q
  rw[this]
 cases q
def G6.cellsOf {e:TypeId}{q:TypeInfo}{z:Value}(h:G6 P e q z):P.cellsOf e=q.size:=by simp[Program.cellsOf,h.info]
def Qz8 (z:Array Value)(m:Nat)(q:0<z.size){o:Nat}{v:Value}(h:(XV z m)[o]? = some v):v∈z:=by
 simp only[XV,LD,Lx]at h;obtain⟨i,_,rfl⟩:=h;rw[getElem!_pos z _ (Rm _ q)];exact Array.getElem_mem _
def G6.spare {e:TypeId}{ab:TypeInfo}{z:Value}(h:G6 P e ab z){v:Value}(q:v∈z.cells):QyQ P e v:=λaa=>by
 rw[h.byte aa]at q;simp[Value.cells]at q;exact⟨0,q,by omega,by omega⟩
def QsQ {t e:TypeId}{x y:Operand}{q:TypeInfo}{z:Value}{l c:Int}(am:P.underlying t=some (.slice e))(aa:G6 P e q z)(ac:ev A x=.int .i64 l)(ad:ev A y=.int .i64 c)
  (ae:0<=l) (ag:l<=c) (ah:(q.bytes:Int) * c<=281474976710656) (ai:c<=9223372036854775807):
  Qt P ⟨d,.makeSlice t x y,ty,pos,af,g⟩ A H (.slice (some ⟨H.y,0,none⟩) l.toNat c.toNat) (H.push (.cells (XV z.cells (c.toNat * q.size)) e false)):=
 .of_run λρ w s ak ab=>by
  have e1:=Zj (ab x (by simp[Op.operands])) ac rfl;have e2:=Zj (ab y (by simp[Op.operands])) ad rfl;have aj:=run_make (P:=P) w t e q z am aa.info aa.zero .i64 .i64 l c ae ag ah ai;have an:(madeCells z.cells (c.toNat * q.size)).toList=XV z.cells (c.toNat * q.size):=by simp[madeCells,XV,Array.toList_range]
  obtain⟨k1,k2⟩:=ak.pushCells (c:=XV z.cells (c.toNat * q.size)) (c':=madeCells z.cells (c.toNat * q.size)) e (by rw[an];exact .closed (Qm3 aa.plain_ _ (.inr (by rw[aa.cells];exact aa.pos))));refine⟨.slice (some ⟨w.heap.size,0,none⟩) l.toNat c.toNat,_,_,?_,.slice H.y 0 l.toNat c.toNat c.toNat _ _ (WI _ _ _) (.inl (by rw[Vq])) (by omega) (by simp only[UNK];omega) (λh=>?_) (λ_=>rfl),k1,k2⟩;·simp only[execOp,e1,e2,LW,aj,Lz,Nc]
  exfalso;simp only[UNK]at h;omega
/-! ### Slicing -/
def Wx (A:Env):Option Operand->Option (Option Int)
 | none=>some none
 | some x=>match ev A x with | .int _ m=>some (some m) | _=>none
def QlU {ρ:Ren}{a:Act}{x:Option Operand}(aa:∀y,x=some y->V ρ (ev A y) (a.eval y)){m:Option Int}(h:Wx A x=some m):
  (m=none∧x.map a.eval=none)∨∃k j,m=some j∧x.map a.eval=some (.int k j):=by
 cases x with
 | none=>simp[Wx]at h;exact .inl ⟨h.symm,rfl⟩
 | some x=>
  simp only[Wx]at h;split at h;·rename_i k j q;cases h;have:=Zj (aa _ rfl) q rfl;exact .inr ⟨k,j,rfl,by simp[this]⟩
  cases h
def G7 {ρ:Ren}{w:World}{a:Act}{lo hi mx:Option Operand}(ap:∀y,lo=some y->V ρ (ev A y) (a.eval y))(ao:∀y,hi=some y->V ρ (ev A y) (a.eval y))(aq:∀y,mx=some y->V ρ (ev A y) (a.eval y)){l h m:Option Int}(am:Wx A lo=some l)(ak:Wx A hi=some h)(an:Wx A mx=some m)
  (ai:m≠none->h≠none) {len cap:Nat} (ah:0<=l.getD 0) (aa:l.getD 0<=h.getD len) (ab:h.getD len<=m.getD cap) (ac:m.getD cap<=cap) (ar:Bool):
  (Instr.sliceBounds ar len cap (lo.map a.eval) (hi.map a.eval) (mx.map a.eval)).run P w=.ok ((l.getD 0).toNat,(h.getD len).toNat,(m.getD cap).toNat) w:=by
 rcases QlU ao ak with⟨rfl,e⟩ | ⟨k,j,rfl,e⟩<;>rcases QlU ap am with⟨rfl,e'⟩ | ⟨ae,ad,rfl,e'⟩<;>rcases QlU aq an with⟨rfl,ag⟩ | ⟨aj,q,rfl,ag⟩<;>simp only[Br,NB]at ah aa ab ac ⊢<;>rw[e,e',ag]<;>simp only[Instr.sliceBounds,LW,Nc,Lz];·simp
 ·exact absurd rfl (ai (by simp))
 ·rw[RD (P:=P) w ae ad len _ ah aa];simp
 ·exact absurd rfl (ai (by simp))
 ·rw[RD (P:=P) w k j cap _ aa ab];simp
 ·rw[RD (P:=P) w aj q cap _ (by omega) ac];simp only[Lz];rw[RD (P:=P) w k j q.toNat _ (by omega) (by omega)];simp
 ·rw[RD (P:=P) w k j cap _ (by omega) ab];simp only[Lz];rw[RD (P:=P) w ae ad j.toNat _ (by omega) (by omega)];simp
 rw[RD (P:=P) w aj q cap _ (by omega) ac];simp only[Lz];rw[RD (P:=P) w k j q.toNat _ (by omega) (by omega)];simp only[Lz];rw[RD (P:=P) w ae ad j.toNat _ (by omega) (by omega)];simp
def QnV {t:TypeId}{x:Operand}{lo hi:Option Operand}{s:ByteArray}{l h:Option Int}(ai:P.underlying t=some .string)(ag:ev A x=.string s)
  (ae:Wx A lo=some l) (ad:Wx A hi=some h) (ah:0<=l.getD 0) (aa:l.getD 0<=h.getD (bl s).length) (ab:h.getD (bl s).length<=(bl s).length):
  Qt P ⟨d,.slice t x lo hi none,ty,pos,af,g⟩ A H (.string (mkS (((bl s).drop (l.getD 0).toNat).take ((h.getD (bl s).length).toNat - (l.getD 0).toNat)))) H:=
 .pure_ λρ w a aj q=>by
  have e1:=Zj (q x (by simp[Op.operands])) ag rfl;simp only[Qj1]at aa ab;refine⟨.string (s.extract (l.getD 0).toNat (h.getD s.size).toNat),?_,?_⟩
  rotate_left
  ·have:s.extract (l.getD 0).toNat (h.getD s.size).toNat=mkS (((bl s).drop (l.getD 0).toNat).take ((h.getD (bl s).length).toNat - (l.getD 0).toNat)):=by
    apply ByteArray.ext;apply Ru;rw[ByteArray.data_extract];simp[mkS,bl]
   rw[this];exact .same _ rfl
  have ac:=G7 (P:=P) (A:=A) (w:=w) (λy e=>q y (by simp[Op.operands,e])) (λy e=>q y (by simp[Op.operands,e])) (mx:=none) (λy e=>by cases e) ae ad (m:=none) rfl (by simp) (len:=s.size) (cap:=s.size) ah aa (by simpa using ab) (by simp) false;simp only[Fk]at ac;simp only[execOp,Instr.sliceAt,Instr.slice,e1,LW,LZ ai,Lz,Fk,Option.isSome_none,LV,LN,ac,Nc]
def Yh (size:Nat)(x:Value)(l h m:Option Int):Option Value:=
 match x with
 | .slice none len cap=>
  if 0<=l.getD 0∧l.getD 0<=h.getD len∧h.getD len<=m.getD cap∧m.getD cap<=cap then some (.slice none ((h.getD len).toNat - (l.getD 0).toNat) ((m.getD cap).toNat - (l.getD 0).toNat)) else none
 | .slice (some a) len cap=>
  if UNK<=cap then
   match m with
   | none=>if 0<=l.getD 0∧l.getD 0<=h.getD len∧h.getD len<=len∧cap=UNK+size then some (.slice (some ⟨a.block,a.off+(l.getD 0).toNat * size,none⟩) ((h.getD len).toNat - (l.getD 0).toNat) cap) else none
   | some m=>if 0<=l.getD 0∧l.getD 0<=h.getD len∧h.getD len<=m∧m<=len∧l.getD 0<m then some (.slice (some ⟨a.block,a.off+(l.getD 0).toNat * size,none⟩) ((h.getD len).toNat - (l.getD 0).toNat) (m.toNat - (l.getD 0).toNat)) else none
  else
   if 0<=l.getD 0∧l.getD 0<=h.getD len∧h.getD len<=m.getD cap∧m.getD cap<=cap then
    some (.slice (some (if(m.getD cap).toNat=(l.getD 0).toNat then a else⟨a.block,a.off+(l.getD 0).toNat * size,none⟩)) ((h.getD len).toNat - (l.getD 0).toNat) ((m.getD cap).toNat - (l.getD 0).toNat))
   else none
 | _=>none
def QoZ {t e:TypeId}{x:Operand}{lo hi mx:Option Operand}{ai:TypeInfo}{l h m:Option Int}{v:Value}(au:P.underlying t=some (.slice e))(aq:P.info? e=some ai)
  (ao:Wx A lo=some l) (an:Wx A hi=some h) (ap:Wx A mx=some m) (ar:m≠none->h≠none) (q:Yh ai.size (ev A x) l h m=some v):
  Qt P ⟨d,.slice t x lo hi mx,ty,pos,af,g⟩ A H v H:=
 .pure_ λρ w s aH aa=>by
  have av:=aa x (by simp[Op.operands]);generalize ev A x=u at av q;unfold Yh at q;split at q
  ·rename_i len cap;split at q;·rename_i ag;obtain⟨ac,ad,aj,am⟩:=ag;cases q;have e1:=av.plain_eq rfl;have ae:=G7 (P:=P) (A:=A) (w:=w) (λy e=>aa y (by simp[Op.operands,e])) (λy e=>aa y (by simp[Op.operands,e])) (λy e=>aa y (by simp[Op.operands,e])) ao an ap ar (len:=len) (cap:=cap) ac ad aj am true;refine⟨.slice none ((h.getD len).toNat - (l.getD 0).toNat) ((m.getD cap).toNat - (l.getD 0).toNat),?_,.same _ rfl⟩;simp only[execOp,Instr.sliceAt,Instr.slice,e1,LW,LZ au,Lz,ae,Wr aq,Nc,Fk,ite_self]
   cases q
  ·rename_i a len cap;obtain⟨i,ak,ab,g1,g2,g3,g4,aG,aF,aw,ay⟩:=av.slice_inv;obtain⟨id,off,aI⟩:=a;simp only at g1 g2 g4 aw ay q;subst g2;split at q
   ·rename_i aB;obtain⟨az,ax⟩:=aw aB;split at q
    ·split at q
     ·rename_i ag;obtain⟨ac,ad,aj,am⟩:=ag;have aD:i.s=ai.size:=by omega
      cases q;have ae:=G7 (P:=P) (A:=A) (w:=w) (λy e=>aa y (by simp[Op.operands,e])) (λy e=>aa y (by simp[Op.operands,e])) (λy e=>aa y (by simp[Op.operands,e])) ao an ap ar (len:=len) (cap:=ab) ac ad (by simp only[Br];omega) (by simp) true;have aA:off+(l.getD 0).toNat * ai.size+(ab - (l.getD 0).toNat) * i.s=i.n:=by
       rw[aD]at ax ⊢;rw[Rh,<- Ry,Nat.add_sub_cancel' (by omega)];exact ax
      refine⟨.slice (some (if ab=(l.getD 0).toNat then ak else ak.add ((l.getD 0).toNat * ai.size))) ((h.getD len).toNat - (l.getD 0).toNat) (ab - (l.getD 0).toNat),?_,?_⟩;·simp only[execOp,Instr.sliceAt,Instr.slice,g3,LW,LZ au,Lz,ae,Wr aq,Nc,Br,LG,Dh];split<;>rfl
      by_cases ah:ab=(l.getD 0).toNat;·rw[Lc ah];exact .slice id _ _ _ _ i _ g1 (.inr ⟨by omega,by omega⟩) (by omega) (by omega) (λ_=>⟨az,aA⟩) (λh=>by omega)
      rw[Le ah];refine .slice id _ _ _ _ i _ g1 (.inl ?_) (by omega) (by omega) (λ_=>⟨az,aA⟩) (λh=>by omega);rcases g4 with h | ⟨h,h'⟩;·rw[h,ZG]
      exfalso;omega
     cases q
    rename_i m;split at q
    ·rename_i ag;obtain⟨ac,ad,aj,am,aE⟩:=ag;cases q;have ae:=G7 (P:=P) (A:=A) (w:=w) (λy e=>aa y (by simp[Op.operands,e])) (λy e=>aa y (by simp[Op.operands,e])) (λy e=>aa y (by simp[Op.operands,e])) ao an ap ar (len:=len) (cap:=ab) ac ad aj (by simp only[NB];omega) true;refine⟨.slice (some (ak.add ((l.getD 0).toNat * ai.size))) ((h.getD len).toNat - (l.getD 0).toNat) (m.toNat - (l.getD 0).toNat),?_,?_⟩;·simp only[execOp,Instr.sliceAt,Instr.slice,g3,LW,LZ au,Lz,ae,Wr aq,Nc,NB,Dh];rw[Le (by omega)]
     refine .slice id _ _ _ _ i _ g1 (.inl ?_) (by omega) (by omega) (λh=>?_) (λ_=>rfl)
     ·rcases g4 with h | ⟨h,h'⟩;·rw[h,ZG]
      exfalso;omega
     exfalso;omega
    cases q
   rename_i aB;have aC:=ay (by omega);subst aC;split at q
   ·rename_i ag;obtain⟨ac,ad,aj,am⟩:=ag;cases q;have ae:=G7 (P:=P) (A:=A) (w:=w) (λy e=>aa y (by simp[Op.operands,e])) (λy e=>aa y (by simp[Op.operands,e])) (λy e=>aa y (by simp[Op.operands,e])) ao an ap ar (len:=len) (cap:=ab) ac ad aj am true;refine⟨.slice (some (if(m.getD ab).toNat=(l.getD 0).toNat then ak else ak.add ((l.getD 0).toNat * ai.size))) ((h.getD len).toNat - (l.getD 0).toNat) ((m.getD ab).toNat - (l.getD 0).toNat),?_,?_⟩;·simp only[execOp,Instr.sliceAt,Instr.slice,g3,LW,LZ au,Lz,ae,Wr aq,Nc,Dh];split<;>rfl
    by_cases ah:(m.getD ab).toNat=(l.getD 0).toNat;·rw[Lc ah,Lc ah];exact .slice id _ _ _ _ i _ g1 (.inr ⟨by omega,by omega⟩) (by omega) (by omega) (λh=>by omega) (λ_=>rfl)
    rw[Le ah,Le ah];refine .slice id _ _ _ _ i _ g1 (.inl ?_) (by omega) (by omega) (λh=>by omega) (λ_=>rfl);rcases g4 with h | ⟨h,h'⟩;·rw[h,ZG]
    exfalso;omega
   cases q
  cases q
end
section
variable {P:Program} {n:Nat} {A:Env} {H:Qa} {d:Option Nat} {ty:TypeId} {pos:String} {af:Array Edge} {g:Option (Nat×Bool)}
def Xm (ρ:Operand->Value)(b:Builtin)(args:Array Operand)(q:Array TypeId):
  execOp ρ ⟨d,.call ⟨.builtin b,args,q⟩,ty,pos,af,g⟩=builtin b q ty (args.map λ| .const _=>true | _=>false) (args.map ρ):=by
 simp only[execOp,resolve,invoke,pure_bind];rfl
def QBG (P:Program)(t:TypeId)(x:Value):Option Nat:=
 match P.underlying t with
 | some .string=>match x with | .string s=>some (bl s).length | _=>none
 | some (.array m _)=>some m
 | some (.slice _)=>match x with | .slice _ m _=>some m | _=>none
 | some (.pointer q)=>match P.underlying q with | some (.array m _)=>some m | _=>none
 | some (.map _ _)=>match x with | .map none=>some 0 | _=>none
 | _=>none
def QHr {t:TypeId}{x:Operand}{m:Nat}(h:QBG P t (ev A x)=some m):Qt P ⟨d,.call ⟨.builtin .len,#[x],#[t]⟩,ty,pos,af,g⟩ A H (.int .i64 m) H:=
 .pure_ λρ w s aj ac=>by
  have ab:=ac x (by simp[Op.operands,Call.operands]);refine⟨.int .i64 m,?_,.same _ rfl⟩;rw[Xm];generalize ev A x=u at ab h;have ae:(Builtin.len_ #[t] ty #[s.eval x]).run P w=.ok (.int .i64 m) w:=by
   unfold QBG at h;split at h
   ·rename_i aa;split at h;·cases h;simp[Builtin.len_,LZ aa,ab.plain_eq rfl,goInt,Qj1]
    cases h
   ·rename_i q e aa;cases h;simp[Builtin.len_,LZ aa,goInt]
   ·rename_i e aa;split at h
    ·rename_i a ag c;cases h;cases a with
     | none=>simp[Builtin.len_,LZ aa,ab.plain_eq rfl,goInt]
     | some a=>
      obtain⟨i,ah,ai,g1,g2,g3,_⟩:=ab.slice_inv;simp[Builtin.len_,LZ aa,g3,goInt]
    cases h
   ·rename_i q aa;split at h;·rename_i ag e ad;cases h;simp[Builtin.len_,LZ aa,LZ ad,goInt]
    cases h
   ·rename_i k e aa;split at h;·cases h;simp[Builtin.len_,LZ aa,ab.plain_eq rfl,goInt]
    cases h
   cases h
  simp only[builtin,R9,NZ,Bq,LW,ae,Lz,Nc]
def QHs {t e:TypeId}{x:Operand}{a:Option Addr}{m c:Nat}(aa:P.underlying t=some (.slice e))(ab:ev A x=.slice a m c)(ad:Nat.blt c UNK=true):
  Qt P ⟨d,.call ⟨.builtin .cap,#[x],#[t]⟩,ty,pos,af,g⟩ A H (.int .i64 c) H:=
 .pure_ λρ w s an ae=>by
  have q:=ae x (by simp[Op.operands,Call.operands]);rw[ab]at q;refine⟨.int .i64 c,?_,.same _ rfl⟩;rw[Xm];have ag:(Builtin.cap_ #[t] ty #[s.eval x]).run P w=.ok (.int .i64 c) w:=by
   cases a with
   | none=>simp[Builtin.cap_,LZ aa,q.plain_eq rfl,goInt]
   | some a=>
    obtain⟨i,ah,ai,g1,g2,g3,g4,ak,aj,am,ac⟩:=q.slice_inv;have:=ac (by simpa using ad);simp[Builtin.cap_,LZ aa,g3,goInt,this]
  simp only[builtin,R9,NZ,Bq,LW,ag,Lz,Nc]
def QEs {ac:Array TypeId}{x y:Operand}{k:IntKind}{a b:Int}(aa:ev A x=.int k a)(ab:ev A y=.int k b):
  Qt P ⟨d,.call ⟨.builtin .max,#[x,y],ac⟩,ty,pos,af,g⟩ A H (.int k (if b>a then b else a)) H:=
 .pure_ λρ w s ad q=>by
  have e1:=Zj (q x (by simp[Op.operands,Call.operands])) aa rfl;have e2:=Zj (q y (by simp[Op.operands,Call.operands])) ab rfl;refine⟨_,?_,.same _ rfl⟩;rw[Xm];simp[builtin,e1,e2,Builtin.max_,Builtin.max2]
def QEt {ac:Array TypeId}{x y:Operand}{k:IntKind}{a b:Int}(aa:ev A x=.int k a)(ab:ev A y=.int k b):
  Qt P ⟨d,.call ⟨.builtin .min,#[x,y],ac⟩,ty,pos,af,g⟩ A H (.int k (if b<a then b else a)) H:=
 .pure_ λρ w s ad q=>by
  have e1:=Zj (q x (by simp[Op.operands,Call.operands])) aa rfl;have e2:=Zj (q y (by simp[Op.operands,Call.operands])) ab rfl;refine⟨_,?_,.same _ rfl⟩;rw[Xm];simp[builtin,e1,e2,Builtin.min_,Builtin.min2]
/-! ### append -/
def YH (s:ByteArray):List Value:=s.data.toList.map λb=>.int .u8 b.toNat
def Zx (size:Nat)(x:Value)(H:Qa):Option (Nat×List Value):=
 match x with
 | .slice none 0 _=>some (0,[])
 | .slice (some a) m _=>
  if m=0 then some (0,[]) else
  match H.get a.block with
  | some (.cells c _ _)=>if a.off+m * size<=c.length then some (m,(c.drop a.off).take (m * size)) else none
  | _=>none
 | .string s=>if size=1 then some ((bl s).length,YH s) else none
 | _=>none
def QyS {ρ:Ren}{w:World}(aj:Sim P ρ H w){size m:Nat}{x x':Value}{c:List Value}(hx:V ρ x x')(h:Zx size x H=some (m,c)):
  (Builtin.lenOf x').run P w=.ok m w∧c.length=m * size∧∀q,q<=m->∃c':List Value,VL ρ (c.take (q * size)) c'∧∀w':World,(∀a:Addr,w'.cell? a=w.cell? a)->(Builtin.firstCells size q x').run P w'=.ok c'.toArray w':=by
 unfold Zx at h;split at h;·cases h;rw[hx.plain_eq rfl];refine⟨rfl,by simp,λq aa=>⟨[],by simpa using VL.nil ρ,λw' _=>rfl⟩⟩
 ·rename_i a m0 cap;obtain⟨i,ab,ad,g1,g2,g3,g4,aq,ap,ar,au⟩:=hx.slice_inv;split at h
  ·rename_i ac;cases h;subst ac;rw[g3];refine⟨rfl,by simp,λq aa=>⟨[],by simpa using VL.nil ρ,λw' _=>?_⟩⟩;obtain rfl:q=0:=by omega
   simp[Builtin.firstCells,loadCells,loadCellsFrom]
  rename_i ac;split at h
  ·rename_i ao e ro ag;split at h
   ·rename_i av;cases h;have ae:ab=i.at_.add a.off:=by rcases g4 with h | ⟨h,_⟩;exact h;omega
    rw[g3];refine⟨rfl,by simp;omega,λq aa=>?_⟩;have ai:q * size<=m * size:=Bs _ aa;obtain⟨cs,k1,k2,k3⟩:=(aj.live _ _ i ag g1).cellsAt a.off (q * size) (by omega);refine⟨cs,by rw[DE,BC ai];exact k2,λw' an=>?_⟩;have:=run_firstCells_some (P:=P) w' size q ab m ad cs k1 (λj v ah=>by rw[an,ae];exact k3 j v ah);exact this
   cases h
  cases h
 ·rename_i s;split at h
  ·rename_i ak;cases h;subst ak;rw[hx.plain_eq rfl];refine⟨rfl,(by rw[NH];simp only[YH,Nn,Array.length_toList];rfl),λq aa=>⟨(YH s).take (q * 1),.closed ?_,λw' _=>?_⟩⟩;·rw[Li];intro v am;have:=List.mem_of_mem_take am;simp only[YH,N4]at this;obtain⟨b,_,rfl⟩:=this;rfl
   simp only[Builtin.firstCells,Nc];congr 1;apply Ru;rw[NH];simp only[Array.toList_map,YH];simp[ByteArray.data_extract,List.map_take]
  cases h
 cases h
def Qgg:TypeDesc->Bool
 | .slice _=>true
 | .string=>true
 | _=>false
def Qep {q:TypeDesc}(h:Qgg q=true):q=.string∨∃e,q=.slice e:=by
 cases q<;>simp[Qgg]at h;·exact .inl rfl
 exact .inr ⟨_,rfl⟩
def J1 {t t2 e:TypeId}{aa:TypeInfo}{ai:TypeDesc}{x':Value}{q sCap m:Nat}{base:Option Addr}{w w':World}{c':List Value}(ag:P.underlying t=some (.slice e))(ah:P.underlying t2=some ai)(ad:Qgg ai=true)(hi:P.info? e=some aa)
  (ac:(Builtin.lenOf x').run P w=.ok m w) (ab:(Builtin.firstCells aa.size m x').run P w=.ok c'.toArray w) (ae:q+m<=sCap)
  (ak:∀a,base=some a->(storeCells (a.add (q * aa.size)) c').run P w=.ok () w') (aj:base=none->w'=w):
  (Builtin.append_ #[t,t2] ty #[.slice base q sCap,x']).run P w=.ok (.slice base (q+m) sCap) w':=by
 cases base with
 | none=>
  obtain rfl:=aj rfl;rcases Qep ad with rfl | ⟨e',rfl⟩<;>simp[Builtin.append_,LZ ag,LZ ah,Wr hi,ac,ae,ab]
 | some a=>
  have:=ak a rfl;rcases Qep ad with rfl | ⟨e',rfl⟩<;>simp[Builtin.append_,LZ ag,LZ ah,Wr hi,ac,ae,ab,this]
def Qdc {t t2 e:TypeId}{aa:TypeInfo}{z:Value}{ab:TypeDesc}{x':Value}{q sCap m:Nat}{base:Option Addr}{w:World}{c' old:List Value}(am:P.underlying t=some (.slice e))(an:P.underlying t2=some ab)(aj:Qgg ab=true)(hi:P.info? e=some aa)(ao:aa.zero=some z)
  (ai:(Builtin.lenOf x').run P w=.ok m w) (ag:(Builtin.firstCells aa.size m x').run P w.drew=.ok c'.toArray w.drew) (ah:(Builtin.firstCells aa.size q (.slice base q sCap)).run P w.drew=.ok old.toArray w.drew) (ak:¬q+m<=sCap)
  (ap:q+m<=9223372036854775807) (ae:(q+m) * aa.bytes<=140737488355328):
  (Builtin.append_ #[t,t2] ty #[.slice base q sCap,x']).run P w=.ok (.slice (some ⟨w.heap.size,0,none⟩) (q+m) (grownCap w (q+m) sCap e)) (w.drew.alloc (.cells (old.toArray++c'.toArray++Builtin.zeroCells z.cells (grownCap w (q+m) sCap e - (q+m))) e)):=by
 have ad:¬ (9223372036854775807<((q:Int)+(m:Int))):=by omega
 have ac:¬ (281474976710656<Builtin.nextslicecap (q+m) sCap * aa.bytes):=by have:=growslice_fits (need:=q+m) (old:=sCap) (bytes:=aa.bytes) (by omega) ae;omega
 rcases Qep aj with rfl | ⟨e',rfl⟩<;>simp[Builtin.append_,LZ am,LZ an,sizeOf,typeInfo,zeroValue,hi,ao,ai,ak,ad,ac,Question.forced,ag,ah,newRow,grownCap]<;>(congr 2;apply Ru;simp)
def Sim.drew {ρ:Ren}{w:World}(q:Sim P ρ H w):St ρ H w ρ H w.drew∧Sim P ρ H w.drew:=
  ⟨⟨.refl ρ,Lb _,λ_ _ _ h=>h,λ_ _ b b' _ h aa h'=>(by rw[h]at h';cases h';exact aa),λid i h h'=>(by rw[h']at h;cases h),rfl,rfl,rfl,Lb _,λ_ _ _=>rfl⟩,
   ⟨q.dom,λid b i h h'=>(q.live id b i h h').mono (.refl ρ) rfl,q.sep,q.glob⟩⟩
def Sim.move {ρ:Ren}{w w':World}(ac:Sim P ρ H w){id:Nat}{i i':Zv}{b b':Blk}(hi:ρ id=some i)(ag:H.get id=some b)(ai:b.ro=false)(ae:Gc w w' i.at_.block)(ak:i'.at_.block=i.at_.block)
  (ax:WH P (ext ρ H.y i') i' w' b'):St ρ H w (ext ρ H.y i') ((H.kill id).push b') w'∧Sim P (ext ρ H.y i') ((H.kill id).push b') w':=by
 have aq:=ac.none_next;have am:=Qb9 i' aq;have ar:∀x j,ρ x=some j->x≠H.y:=λx j h e=>by rw[e,aq]at h;cases h
 have ah:∀x,((H.kill id).push b').get x=if x=H.y then some b' else if x=id then none else H.get x:=λx=>by rw[Qc,QiY,WE]
 refine⟨⟨am,by simp,λx j h h'=>?_,λx j b1 b2 h ab q aa=>?_,λx j h h'=>?_,ae.os,ae.tape,ae.output,(by rw[ae.size];exact Lb _),λk aB aA=>?_⟩,⟨λx j h=>?_,λx bl j h h'=>?_,λan ao b1 b2 au av ab q aa ad ap aj=>?_,λaw ay=>?_⟩⟩
 ·rw[ah,Le (ar x j h)];split;·rfl
  exact h'
 ·rw[ah,Le (ar x j h)]at aa;split at aa;·cases aa
  rw[ab]at aa;cases aa;exact q
 ·by_cases e:x=H.y;·subst e;rw[WI]at h;cases h;exact⟨Lb _,.inr ⟨id,i,b,hi,ak.symm,ag,ai⟩⟩
  rw[YJ ρ i' e,h']at h;cases h
 ·exact ae.other k (λe=>aA id i b hi ag ai e.symm)
 ·by_cases e:x=H.y;·subst e;simp
  rw[YJ ρ i' e]at h;have:=ac.dom _ _ h;simp;omega
 ·by_cases e:x=H.y;·subst e;rw[WI]at h';cases h';rw[ah,Lc rfl]at h;cases h;exact ax
  rw[YJ ρ i' e]at h';rw[ah,Le e]at h;split at h;·cases h
  rename_i e2;refine(ac.live x bl j h h').mono am (ae.other _ ?_);exact λe'=>ac.sep id x b bl i j ag h hi h' ai (λh=>e2 h.symm) e'.symm
 ·rw[ah]at ab q
  by_cases e1:an=H.y
  ·subst e1;rw[Le (λh=>aj h.symm)]at q;split at q;·cases q
   rename_i e2;rw[WI]at aa;cases aa;rw[YJ ρ _ (λh=>aj h.symm)]at ad;rw[ak];exact ac.sep id ao b b2 i av ag q hi ad ai (λh=>e2 h.symm)
  rw[Le e1]at ab;rw[YJ ρ i' e1]at aa;split at ab;·cases ab
  rename_i e3
  by_cases e2:ao=H.y;·subst e2;rw[WI]at ad;cases ad;rw[ak];exact ac.sep an id b1 b au i ab ag aa hi ap e3
  rw[Le e2]at q;rw[YJ ρ i' e2]at ad;split at q;·cases q
  exact ac.sep an ao b1 b2 au av ab q aa ad ap aj
 obtain⟨j,az,e⟩:=ac.glob aw ay;exact⟨j,am _ _ az,e⟩
def Qo0 (z:Array Value)(m:Nat):(Builtin.zeroCells z m).toList=XV z (m * z.size):=by
 simp[Builtin.zeroCells,XV,Array.toList_range]
def Sim.grow {ρ:Ren}{w:World}(ak:Sim P ρ H w){e:TypeId}{q:TypeInfo}{z:Value}(aa:G6 P e q z){o o' c c':List Value}{need cap:Nat}(aj:VL ρ o o')(ad:VL ρ c c')(ai:o.length+c.length=need * q.size)(ae:need<=cap)(ap:cap<UNK):
  let i:Zv:=⟨⟨w.heap.size,0,none⟩,cap * q.size,P.cellsOf e⟩
  let w':=w.drew.alloc (.cells (o'.toArray++c'.toArray++Builtin.zeroCells z.cells (cap - need)) e)
  St ρ H w (ext ρ H.y i) (H.push (.cells (o++c) e false)) w'∧Sim P (ext ρ H.y i) (H.push (.cells (o++c) e false)) w'∧V (ext ρ H.y i) (.slice (some ⟨H.y,0,none⟩) need (UNK+q.size)) (.slice (some ⟨w.heap.size,0,none⟩) need cap):=by
 intro i w';obtain⟨s1,s2⟩:=ak.drew;have ab:(o'.toArray++c'.toArray++Builtin.zeroCells z.cells (cap - need)).toList=(o'++c')++XV z.cells ((cap - need) * q.size):=by
  rw[Array.toList_append,Qo0,aa.cells];simp
 have ar:(o'++c').length=need * q.size:=by rw[Lh,<- aj.1,<- ad.1];exact ai
 have au:need * q.size+(cap - need) * q.size=cap * q.size:=by rw[<- Ry];congr 1;omega
 have av:(o'.toArray++c'.toArray++Builtin.zeroCells z.cells (cap - need)).size=cap * q.size:=by
  rw[<- Array.length_toList,ab,Lh,ar];simp[XV];exact au
 have ao:WH P (ext ρ H.y i) i (w.drew.alloc (.cells (o'.toArray++c'.toArray++Builtin.zeroCells z.cells (cap - need)) e)) (.cells (o++c) e false):=by
  have am:VL (ext ρ H.y i) (o++c) (o'++c'):=(aj.append ad).mono (Qb9 _ ak.none_next);refine⟨_,(0,0),heap_alloc_new w.drew _,⟨rfl,rfl⟩,by simp only[i];rw[av];simp,?_,λj v aq=>?_,λo _ _=>by simp,λk v ag ah=>?_,rfl⟩;·simp only[i];rw[Lh,ai];exact Bs _ ae
  ·obtain⟨aw,ac,an⟩:=am.get aq;refine⟨aw,?_,an⟩;simp only[i,LP];rw[<- Bl,ab,LY (Lk.1 ac).1];exact ac
  simp only[i,LP]at ag;rw[<- Bl,ab,LR (by rw[<- am.1];exact ag)]at ah;exact aa.spare (Qz8 _ _ (by rw[aa.cells];exact aa.pos) ah)
 obtain⟨t1,t2⟩:=s2.push _ (.cells (o++c) e false) i rfl ao;refine⟨s1.trans t1,t2,?_⟩;refine .slice H.y 0 need _ cap i _ (WI _ _ _) (.inl (by rw[Vq])) ae ap (λ_=>?_) (λh=>by omega);simp only[i,LP];rw[aa.cellsOf];exact⟨by omega,rfl⟩
def QhB (e:TypeId)(q:TypeInfo)(s x:Value)(H:Qa):Option (Value×Qa):=
 match Zx q.size x H with
 | none=>none
 | some (m,news)=>
  if news.all (·.oneCell')=true then
   match s with
   | .slice none 0 0=>
    if m=0 then some (.slice none 0 0,H) else
    if m<=9223372036854775807∧m * q.bytes<=140737488355328 then some (.slice (some ⟨H.y,0,none⟩) m (UNK+q.size),H.push (.cells news e false)) else none
   | .slice (some a) len cap=>
    if m=0 then(if UNK<=cap∨len<=cap then some (.slice (some a) len cap,H) else none) else
    match H.get a.block with
    | some (.cells c e' ro)=>
     if a.off+len * q.size<=c.length∧len+m<=9223372036854775807∧(len+m) * q.bytes<=140737488355328 then
      if UNK<=cap then
       if ro=false∧e'=e∧a.off=0∧a.off+len * q.size=c.length then some (.slice (some ⟨H.y,0,none⟩) (len+m) (UNK+q.size),(H.kill a.block).push (.cells (c.drop a.off++news) e false))
       else if ro=false∧cap=UNK+q.size∧a.off+(len+m) * q.size<=c.length then some (.slice (some a) (len+m) cap,H.set a.block (.cells (splice c (a.off+len * q.size) news) e' false)) else none
      else if len+m<=cap then
       (if ro=false∧a.off+(len+m) * q.size<=c.length then some (.slice (some a) (len+m) cap,H.set a.block (.cells (splice c (a.off+len * q.size) news) e' false)) else none)
      else some (.slice (some ⟨H.y,0,none⟩) (len+m) (UNK+q.size),H.push (.cells ((c.drop a.off).take (len * q.size)++news) e false))
     else none
    | _=>none
   | _=>none
  else none
def WH.storeEnd {ρ:Ren}{i:Zv}{w:World}{c:List Value}{e:TypeId}(ar:WH P ρ i w (.cells c e false)){off:Nat}{aa ab:List Value}(ae:VL ρ aa ab)(aN:off<=c.length)(aH:off=0)(aM:c.length+aa.length<=i.n)
  (ap:∀v∈aa,v.oneCell'=true):∃w',(storeCells (i.at_.add c.length) ab).run P w=.ok () w'∧Gc w w' i.at_.block∧WH P ρ ⟨i.at_.add off,i.n - off,i.s⟩ w' (.cells (c.drop off++aa) e false):=by
 obtain⟨an,ag,ax,ad,aO,aI,au,ah,aD,av⟩:=ar;have ay:=ae.1;have aq:∀v∈ab,v.oneCell'=true:=λaG aF=>by
  obtain⟨j,q⟩:=BP aF;have aj:j<aa.length:=by rw[ay];exact(Lk.1 q).1
  have:=ae.2 j _ aG (La aj) q;rw[this.oneCell];exact ap _ (Nb aj)
 rw[QjW ad.1,QjW ad.1];obtain⟨w',ao,aC,aw,aB,aE,ac⟩:=QaV P i.at_.block (i.at_.off+c.length) e ag ab 0 an w ax (by omega) (λk aK aL=>ah k (by omega) (by omega)) aq;simp only[N9]at ac;refine⟨w',aC,aB,ao,ag,aw,⟨rfl,by have:=ad.2;simp only;omega⟩,?_,?_,λj v q=>?_,λo aA ak=>ah o (by simp only at aA;omega) (by rw[aE]at ak;exact ak),λo v az am=>?_,av⟩;·simp only;omega
 ·simp;omega
 ·simp only;rw[ac]
  by_cases ai:j<c.length - off;·rw[LY (by simpa using ai),Nk]at q;rw[Le (by omega),Rh];exact au _ v q
  rw[LR (by simpa using ai)]at q;simp only[NT]at q;have aJ:j - (c.length - off)<aa.length:=(Lk.1 q).1;rw[Lc ⟨by omega,by omega⟩];rw[show i.at_.off+off+j - (i.at_.off+c.length)=j - (c.length - off) by omega];exact ae.get q
 simp only[Lh,NT]at az;rw[ac,Le (by omega)]at am;exact aD o v (by omega) am
def JP.kill_push (H:Qa)(id:Nat)(b:Blk):JP ((H.kill id).push b) (H.push b):=by
 refine⟨by simp,λk bl q=>?_⟩;have aa:=Qc (H.kill id) k b;have ab:=Qc H k b
 by_cases e:k=H.y;·rw[Lc (by exact e)]at aa ab;rw[aa]at q;rw[ab];exact q
 rw[Le (by exact e)]at aa ab;rw[aa,WE]at q;rw[ab]
 by_cases e2:k=id;·rw[Lc e2]at q;cases q
 rw[Le e2]at q;exact q
def Qz9 {t t2 e:TypeId}{x y:Operand}{aa:TypeInfo}{z:Value}{aX:TypeDesc}{v:Value}{H':Qa}(ao:P.underlying t=some (.slice e))(ap:P.underlying t2=some aX)(an:Qgg aX=true)(ac:G6 P e aa z)
  (h:QhB e aa (ev A x) (ev A y) H=some (v,H')):Qt P ⟨d,.call ⟨.builtin .append,#[x,y],#[t,t2]⟩,ty,pos,af,g⟩ A H v H':=
 .of_run λρ w s ah aG=>by
  rw[Xm];have aC:=aG x (by simp[Op.operands,Call.operands]);have aN:=aG y (by simp[Op.operands,Call.operands])
  suffices bx:∃ai ρ' w',(Builtin.append_ #[t,t2] ty #[s.eval x,s.eval y]).run P w=.ok ai w'∧V ρ' v ai∧St ρ H w ρ' H' w'∧Sim P ρ' H' w' by
   obtain⟨ai,ρ',w',aP,aQ,aR,bc⟩:=bx;refine⟨ai,ρ',w',?_,aQ,aR,bc⟩;simp only[builtin,R9,NZ,Bq,LW,aP,Lz,Nc]
  generalize ev A x=u at aC h;generalize ev A y=u2 at aN h;generalize s.eval x=x' at aC;generalize s.eval y=y' at aN;unfold QhB at h;split at h;·cases h
  rename_i m ar b9;obtain⟨am,av,bj⟩:=QyS ah aN b9;obtain⟨c',aj,aT⟩:=bj m (Lb _);rw[LF (by omega)]at aj;have ay:=aT w (λ_=>rfl);have aU:=aT w.drew (λ_=>rfl);split at h
  ·rename_i b8;have aL:∀v∈ar,v.oneCell'=true:=λv bA=>Li.1 b8 v bA;split at h
   ·-- nil
    have e1:=aC.plain_eq rfl;subst e1;split at h;·rename_i az;cases h;subst az;exact⟨.slice none 0 0,ρ,w,J1 ao ap an ac.info am ay (by omega) (λa h=>by cases h) (λ_=>rfl),.same _ rfl,.refl _ _ _,ah⟩
    rename_i az;split at h
    ·rename_i bi;cases h;have ab:¬0+m<=0:=by omega
     have ag:=Qdc (ty:=ty) (old:=[]) (base:=none) (sCap:=0) ao ap an ac.info ac.zero am aU rfl ab (by omega) (by rw[LP];exact bi.2);obtain⟨g1,g2,g3⟩:=ah.grow ac (o:=[]) (o':=[]) (.nil ρ) aj (need:=m) (cap:=grownCap w (0+m) 0 e) (by simpa using av) (by have:=grownCap_ge w (0+m) 0 e;omega) (by
      have:=grownCap_le_maxLen w (0+m) 0 e (by simp only[maxLen];omega);simp only[maxLen,UNK]at *;omega)
     rw[LP]at ag g1 g2 g3;exact⟨_,_,_,ag,g3,g1,g2⟩
    cases h
   ·rename_i a len cap;obtain⟨i,ad,q,g1,g2,g3,g4,bC,aI,aJ,aO⟩:=aC.slice_inv;obtain⟨id,off,bI⟩:=a;simp only at g1 g2 g4 aJ aO h;subst g2;subst g3;split at h
    ·rename_i az;split at h
     ·rename_i bD;cases h;subst az;have bz:c'=[]:=by
       have:ar=[]:=N2.1 (by simpa using av);rw[this]at aj;exact aj.unnil
      subst bz;exact⟨_,ρ,w,J1 ao ap an ac.info am ay (by omega) (λa _=>rfl) (λh=>by cases h),aC,.refl _ _ _,ah⟩
     cases h
    rename_i az;split at h
    ·rename_i c e' ro aH;split at h
     ·rename_i ak;obtain⟨bd,bg,bh⟩:=ak;have aq:=ah.live id _ i aH g1;obtain⟨o',k1,k2,k3⟩:=aq.cellsAt off (len * aa.size) bd;have b7:(Builtin.firstCells aa.size len (.slice (some ad) len q)).run P w.drew=.ok o'.toArray w.drew:=by
       by_cases br:len=0;·subst br;have:o'=[]:=N2.1 (by simpa using k1);subst this;simp[Builtin.firstCells,loadCells,loadCellsFrom]
       have ae:ad=i.at_.add off:=by rcases g4 with h | ⟨h,_⟩;exact h;omega
       exact run_firstCells_some (P:=P) w.drew aa.size len ad len q o' k1 (λj v bq=>by rw[ae];exact k3 j v bq)
      have aV:¬len+m<=q->∃ai ρ' w',(Builtin.append_ #[t,t2] ty #[.slice (some ad) len q,y']).run P w=.ok ai w'∧V ρ' (.slice (some ⟨H.y,0,none⟩) (len+m) (UNK+aa.size)) ai∧
        St ρ H w ρ' (H.push (.cells ((c.drop off).take (len * aa.size)++ar) e false)) w'∧Sim P ρ' (H.push (.cells ((c.drop off).take (len * aa.size)++ar) e false)) w':=λab=>by
       have ag:=Qdc (ty:=ty) (old:=o') ao ap an ac.info ac.zero am aU b7 ab bg bh;obtain⟨g1,g2,g3⟩:=ah.grow ac k2 aj (need:=len+m) (cap:=grownCap w (len+m) q e) (by rw[k2.1,k1,av,Ry]) (grownCap_ge w (len+m) q e) (by
        have:=grownCap_le_maxLen w (len+m) q e (by simp only[maxLen];omega);simp only[maxLen,UNK]at *;omega)
       exact⟨_,_,_,ag,g3,g1,g2⟩
      split at h
      ·rename_i aM;split at h
       ·rename_i aw;obtain⟨aB,bn,bB,bo⟩:=aw;cases h;subst aB;subst bn
        by_cases ab:len+m<=q
        ·obtain⟨aS,aF⟩:=aJ aM;have aK:i.s=aa.size:=by
          obtain⟨aY,aZ,_,_,_,_,_,_,_,aG⟩:=aq;rw[aG,ac.cellsOf]
         have ae:ad=i.at_.add off:=by rcases g4 with h | ⟨h,h'⟩;exact h;omega
         have ax:c.length+ar.length<=i.n:=by
          rw[aK]at aF;have:(len+m) * aa.size<=q * aa.size:=Bs _ ab;rw[Ry]at this;omega
         obtain⟨w',ag,aA,au⟩:=aq.storeEnd (off:=off) aj (by omega) bB ax aL;obtain⟨aD,aE⟩:=ah.move (i':=⟨i.at_.add off,i.n - off,i.s⟩) g1 aH rfl aA (by simp[block_add]) (au.mono (Qb9 _ ah.none_next) rfl);refine⟨.slice (some ad) (len+m) q,_,w',J1 ao ap an ac.info am ay ab (λb ak=>?_) (λh=>by cases h),?_,aD,aE⟩;·cases ak;rw[ae,ZG,bo];exact ag
         refine .slice H.y 0 (len+m) _ q _ ad (WI _ _ _) (.inl ?_) ab aI (λ_=>?_) (λh=>by omega);·simp only[ZG,N9];exact ae
         simp only[LP];exact⟨by omega,by omega⟩
        obtain⟨ai,ρ',w',r1,r2,r3,r4⟩:=aV ab;have bm:(c.drop off).take (len * aa.size)=c.drop off:=LF (by simp;omega);rw[bm]at r3 r4;have aW:=JP.kill_push H id (.cells (c.drop off++ar) e' false);exact⟨ai,ρ',w',r1,r2,r3.less aW,r4.less aW⟩
       split at h
       ·rename_i aw;obtain⟨aB,bG,ax⟩:=aw;cases h;subst aB;obtain⟨aS,aF⟩:=aJ aM;have aK:i.s=aa.size:=by omega
        have bu:=aq;obtain⟨aY,aZ,bH,_,bF,bE,_⟩:=bu;have ab:len+m<=q:=by
         rcases Nq q (len+m) with bw | bp
         ·exfalso;have aP:(q+1) * aa.size<=(len+m) * aa.size:=Bs _ bw;have aQ:(q+1) * aa.size=q * aa.size+aa.size:=Nat.succ_mul _ _;have aR:0<aa.size:=by have:=ac.pos;have:=ac.cells;omega
          rw[aK]at aF;omega
         exact bp
        have ae:ad=i.at_.add off:=by rcases g4 with h | ⟨h,h'⟩;exact h;omega
        obtain⟨w',ag,aA,au⟩:=aq.storeList (off:=off+len * aa.size) aj (by rw[av];rw[Ry]at ax;omega) aL;obtain⟨aD,aE⟩:=ah.setBlk g1 aH rfl aA au;refine⟨.slice (some ad) (len+m) q,ρ,w',J1 ao ap an ac.info am ay ab (λb ak=>?_) (λh=>by cases h),?_,aD,aE⟩;·cases ak;rw[ae,ZG];exact ag
        exact .slice id off (len+m) cap q i ad g1 (.inl ae) ab aI (λ_=>⟨aS,aF⟩) (λh=>by omega)
       cases h
      rename_i aM;have ba:=aO (by omega);subst ba;split at h
      ·rename_i ab;split at h
       ·rename_i aw;cases h;obtain⟨aB,ax⟩:=aw;subst aB;have ae:ad=i.at_.add off:=by rcases g4 with h | ⟨h,h'⟩;exact h;omega
        obtain⟨w',ag,aA,au⟩:=aq.storeList (off:=off+len * aa.size) aj (by rw[av];rw[Ry]at ax;omega) aL;obtain⟨aD,aE⟩:=ah.setBlk g1 aH rfl aA au;refine⟨.slice (some ad) (len+m) q,ρ,w',J1 ao ap an ac.info am ay ab (λb ak=>?_) (λh=>by cases h),?_,aD,aE⟩;·cases ak;rw[ae,ZG];exact ag
        exact .slice id off (len+m) q q i ad g1 (.inl ae) ab aI (λh=>by omega) (λ_=>rfl)
       cases h
      rename_i ab;cases h;exact aV ab
     cases h
    cases h
   cases h
  cases h
end
inductive Out where
 | ret (v:Value)
 | pan (v:Value)
def QBH (ρ:Ren):Out->Ending->Prop
 | .ret v,.returned q=>V ρ v q
 | .pan v,.panicked ch=>∃q,V ρ v q∧ch=[{v:=q,recovered:=false}]
 | _,_=>False
def Qdd (P:Program)(f:FuncId)(args:List Value)(H:Qa)(o:Out)(H':Qa):Prop:=
 ∀ρ w args',Sim P ρ H w->VL ρ args args'->Calls P f args'.toArray w λe w'=>∃ρ',QBH ρ' o e∧St ρ H w ρ' H' w'∧Sim P ρ' H' w'
def Qdd.less {P:Program}{f:FuncId}{args:List Value}{H:Qa}{o:Out}{H1 H2:Qa}(h:Qdd P f args H o H1)(l:JP H2 H1):Qdd P f args H o H2:=
 λρ w args' aa q=>(h ρ w args' aa q).mono λe w' ⟨ρ',h1,h2,h3⟩=>⟨ρ',h1,h2.less l,h3.less l⟩
def QaW (args:List Value):Env:=λt=>args.getD t undef
section
variable {P:Program} {n:Nat} {Q:Ex->Env->Qa->Prop} {A:Env} {H:Qa} {d:Option Nat} {ty:TypeId} {pos:String} {af:Array Edge} {g:Option (Nat×Bool)}
def ZT (P:Program)(n:Nat)(A:Env)(H:Qa):ResultVar->Option Value
 | .tmp t=>if t<n then some (A t) else none
 | .cell a t=>if a<n then(match A a with | .pointer (some ad)=>Yg P t ad H | _=>none) else none
def QfW (P:Program)(n:Nat)(rs:Array ResultVar)(A:Env)(H:Qa):Option Value:=
 match rs.toList with
 | [r]=>ZT P n A H r
 | l=>(l.mapM (ZT P n A H)).map λq=>.tuple q.toArray
def Qm4 (tmps:Array Value):ResultVar->Sem Value
 | .tmp t=>pure (tmps.getD t undef)
 | .cell a t=>do loadVar t (<- asAddr (tmps.getD a undef))
def QuP {ρ:Ren}{w:World}{a:Act}(aj:Sim P ρ H w)(ab:EnvRel ρ n A a){r:ResultVar}{v:Value}(h:ZT P n A H r=some v):∃q,(Qm4 a.tmps r).run P w=.ok q w∧V ρ v q:=by
 cases r with
 | tmp t=>
  simp only[ZT]at h;split at h;·rename_i aa;cases h;exact⟨_,rfl,ab.tmps t aa⟩
  cases h
 | cell p t=>
  simp only[ZT]at h;split at h
  ·rename_i aa;split at h;·rename_i ae ag;have ad:=ab.tmps p aa;rw[ag]at ad;obtain⟨i,g1,g2,g3⟩:=ad.ptr_inv;obtain⟨id,off,ak⟩:=ae;simp only at g1 g2 g3;subst g2;obtain⟨c,e,ro,ac⟩:=Qgf h;obtain⟨q,ah,ai⟩:=QlR g1 ac (aj.live id _ i ac g1) h;refine⟨q,?_,ai⟩;simp only[Qm4,g3,asAddr,LW,Nc,Lz,ah]
   cases h
  cases h
def QuQ {ρ:Ren}{w:World}{a:Act}(ac:Sim P ρ H w)(ab:EnvRel ρ n A a):∀ (rs:List ResultVar) (q:List Value),rs.mapM (ZT P n A H)=some q->∃aa,(rs.mapM (Qm4 a.tmps)).run P w=.ok aa w∧VL ρ q aa
 | [],q,h=>by simp at h;subst h;exact⟨[],rfl,.nil ρ⟩
 | r::rs,q,h=>by
  simp only[Ra,BV,BY,Rx,Lt]at h;obtain⟨v,ai,am,aj,rfl⟩:=h;obtain⟨ak,ad,ae⟩:=QuP ac ab ai;obtain⟨aa,ag,ah⟩:=QuQ ac ab rs am aj;refine⟨ak::aa,?_,.cons ae ah⟩;simp only[Ra,LW,ad,Lz,ag,Nc]
def QwZ (fn:Func)(tmps:Array Value)(w:World):(results fn tmps).run P w=((fn.results.toList.mapM (Qm4 tmps)).run P w).andThen λq w'=>.ok (if h:q.length=1 then q[0] else .tuple q.toArray) w':=by
 unfold results;rw[Array.mapM_eq_mapM_toList];simp only[LW,Sem.run_map];have key:∀F:ResultVar->Sem Value,(∀r,F r=Qm4 tmps r)->((Sem.run P (List.mapM F fn.results.toList) w).andThen (λa w'=>Result.ok a.toArray w')).andThen (λa w'=>Sem.run P (pure (if h:a.size=1 then a[0] else Value.tuple a)) w') =
   (Sem.run P (List.mapM (Qm4 tmps) fn.results.toList) w).andThen λq w'=>Result.ok (if h:q.length=1 then q[0] else Value.tuple q.toArray) w':=by
  intro F aa;obtain rfl:F=Qm4 tmps:=funext aa;cases(fn.results.toList.mapM (Qm4 tmps)).run P w with
  | ok q w'=>
   simp only[Lz,Nc];congr 1
  | halt x w'=>rfl
 exact key _ (λr=>by cases r<;>rfl)
def Qm5 {ρ:Ren}{w:World}{a:Act}(ae:Sim P ρ H w)(ad:EnvRel ρ n A a){fn:Func}{v:Value}(h:QfW P n fn.results A H=some v):∃aa,(results fn a.tmps).run P w=.ok aa w∧V ρ v aa:=by
 rw[QwZ];unfold QfW at h;split at h;·rename_i r ac;rw[ac];obtain⟨aa,ab,q⟩:=QuP ae ad h;refine⟨aa,?_,q⟩;simp only[Ra,FO,LW,ab,Lz,Nc];rfl
 ·rename_i an;simp only[Lx]at h;obtain⟨ah,ag,rfl⟩:=h;obtain⟨ai,ab,q⟩:=QuQ ae ad _ ah ag;have ak:ai.length≠1:=by
   rw[<- q.1];have am:ah.length=fn.results.toList.length:=mapM_length ag;rw[am];intro aj;obtain⟨r,ac⟩:=List.length_eq_one_iff.1 aj;exact an r ac
  refine⟨.tuple ai.toArray,?_,.tuple _ _ (by simpa using q.1) (λj x x' a b=>q.2 j x x' (by simpa using a) (by simpa using b))⟩;rw[ab];simp only[Lz,ak,dite_false]
 where
 mapM_length {α β:Type} {f:α->Option β} {l:List α} {r:List β} (h:l.mapM f=some r):r.length=l.length:=by
  induction l generalizing r with
  | nil=>simp at h;subst h;rfl
  | cons x l ap=>
   simp only[Ra,BV,BY,Rx,Lt]at h;obtain⟨b,_,aq,ao,rfl⟩:=h;simp[ap ao]
def QsR {ρ:Ren}{args args':List Value}(m:Nat)(h:VL ρ args args'):EnvRel ρ (args.length+(m - args.length)) (QaW args) {tmps:=args'.toArray++Array.replicate (m - args'.toArray.size) undef,defers:=[]}:=by
 have aa:=h.1;refine⟨by simp[aa],λt ae=>?_⟩;simp only[QaW];rw[N0]
 by_cases q:t<args.length
 ·obtain⟨x',ab,ad⟩:=h.get (La q);rw[Array.getElem?_append_left (by simpa[<- aa] using q)];have ac:args'.toArray[t]? = some x':=by simpa using ab
  rw[ac];simp only[List.getD,La q,NB];exact ad
 have e1:args.getD t undef=undef:=by simp[List.getD,N7 (by omega:args.length<=t)]
 rw[e1,Array.getElem?_append_right (by simp;omega),Array.getElem?_replicate];split;·exact .closed (by simp[undef,X2])
 exact .closed (by simp[undef,X2])
def QHt (P:Program)(n:Nat)(rs:Array ResultVar)(o:Out)(H':Qa):Ex->Env->Qa->Prop
 | .normal,A,H1=>∃v,o=.ret v∧QfW P n rs A H1=some v∧JP H' H1
 | .ret,A,H1=>∃v,o=.ret v∧QfW P n rs A H1=some v∧JP H' H1
 | .panic v,A,H1=>o=.pan v∧JP H' H1
 | _,_,_=>False
/-! ### Blocks that nothing known may write, written by the machine -/
def Sim.putHid {ρ:Ren}{w:World}{b:Nat}{o o':Obj}(q:Sim P ρ H w)(ab:Hid ρ H w b o):Sim P ρ H (w.putObj b o'):=
 ⟨q.dom,λid bl i aa hi=>(q.live id bl i aa hi).mono (.refl ρ) (World.putObj_heap_other (ab.un id i bl hi aa)),q.sep,q.glob⟩
def St.putHid {ρ0 ρ:Ren}{H0:Qa}{aa w:World}{b:Nat}{o':Obj}(q:St ρ0 H0 aa ρ H w)(ad:aa.heap.size<=b):St ρ0 H0 aa ρ H (w.putObj b o'):=
 {q with
  size:=by simpa using q.size
  frame:=λk ab ac=>by rw[World.putObj_heap_other (by omega)];exact q.frame k ab ac}
def Hid.put {ρ:Ren}{w:World}{b d:Nat}{o o':Obj}(h:Hid ρ H w d o)(q:d≠b):Hid ρ H (w.putObj b o') d o:=
 ⟨by rw[World.putObj_heap_other q];exact h.at_,h.un⟩
def Hid.same {ρ:Ren}{w:World}{b:Nat}{o o':Obj}(h:Hid ρ H w b o):Hid ρ H (w.putObj b o') b o':=⟨World.putObj_heap_same h.lt,h.un⟩
def Qeq {fn:Func}{tmps:Array Value}{R:Ending->World->Prop}{u:FrameMode}{z:Rd}{ρ0 ρ:Ren}{H0:Qa}{aa:World}(ac:u≠.run):∀ (q:List Nat) (w:World),q.Nodup->(∀d∈q,aa.heap.size<=d∧Hid ρ H w d (.deferred (some [])))->
  St ρ0 H0 aa ρ H w->Sim P ρ H w->(∀w,St ρ0 H0 aa ρ H w->Sim P ρ H w->LeavesIn (fen z) 0 P fn tmps R [] u w)->LeavesInM (fen z) 0 P fn tmps R (q.map QuH) u w
 | [],w,_,_,hst,hs,h=>h w hst hs
 | d::q,w,hn,hd,hst,hs,h=>by
  obtain⟨ad,ab⟩:=hd d (by simp);refine⟨ac,.inl ⟨d,_,rfl,run_takeDeferred ab.at_,?_⟩⟩;rw[FR]at hn;exact Qeq ac q _ hn.2 (λx hx=>⟨(hd x (by simp[hx])).1,(hd x (by simp[hx])).2.put (λe=>hn.1 (e▸hx))⟩) (hst.putHid ad) (hs.putHid ab) h
def Qo1 {f:FuncId}{fn:Func}{c:Code}{args:List Value}{o:Out}{H':Qa}(au:P.funcs[f]? = some fn)(aq:fn.body=some c)
  (h:AWp P (args.length+(fn.ntmps - args.length)) c (QHt P (args.length+(fn.ntmps - args.length)) fn.results o H') (QaW args) H):Qdd P f args H o H':=by
 intro ρ w args' hs ha;refine callsIn_wide.1 (callsIn_of_wp_marks (F:=fen ⟨none,w.heap.size,[]⟩) (n:=0) au aq trivial (FF (h ⟨none,w.heap.size,[]⟩ ρ w _ hs ⟨QsR fn.ntmps ha,⟨⟨[],rfl,.nil,λd ar=>by simp at ar⟩,λl q=>by simp at q,Lb _⟩⟩) ?_));rintro e a1 an ⟨e',ρ1,A1,H1,ad,am,ak,ah,aj⟩;obtain⟨ac,aa,ai,ag⟩:=ah.fr.marks;have aa:a1.defers=ac.map QuH:=aa.trans (Na _);cases e'<;>cases e<;>simp only[Qm0]at aj<;>simp only[QHt]at ad
 case panic.panic v ch=>
  obtain⟨rfl,q⟩:=ad;show LeavesInM _ _ _ _ _ _ a1.defers _ _;rw[aa];exact Qeq (by simp) ac an ai ag am ak (λax ae ab=>⟨ρ1,aj,ae.less q,ab.less q⟩)
 all_goals
  obtain⟨v,rfl,av,q⟩:=ad;show LeavesInM _ _ _ _ _ _ a1.defers _ _;rw[aa];refine Qeq (by simp) ac an ai ag am ak (λax ae ab=>?_);obtain⟨aw,ao,ap⟩:=Qm5 ab ah.toEnvRel (fn:=fn) av;exact⟨aw,ao,ρ1,ap,ae.less q,ab.less q⟩
/-! ### Calls -/
def entered (P:Program)(f:FuncId):Bool:=
 match P.funcs[f]? with
 | some fn=>!(fn.name == "runtime.NumGoroutine")&&fn.body.isSome
 | none=>false
def QaE {f:FuncId}(h:entered P f=true)(args:Array Value)(w:World):(callFunc f args).run P w=.ok (.enter f args) w:=by
 unfold entered at h;split at h
 ·rename_i fn ab;simp only[Lm,Lr]at h;obtain⟨q,ac⟩:=h;have aa:fn.body.isNone=false:=by cases ad:fn.body<;>simp_all
  simp only[callFunc,LW,DJ,Lz,ab,q,LV,LN,aa,Nc]
 cases h
def Qw0 (P:Program)(z:Rd)(m:Machine):m.fenced P (fen z):=fenced_wide P m
def Qm6 {z:Rd}{m q:Machine}:StepsIn (Machine.fenced P (fen z)) P m q↔Steps P m q:=by
 have:Machine.fenced P (fen z)=Machine.fenced P Fence.wide:=funext λm=>propext ⟨λ_=>fenced_wide P m,λ_=>Qw0 P z m⟩;rw[this];exact stepsIn_wide
def Qm7 {z:Rd}{n:Nat}{f:FuncId}{args:Array Value}{w:World}{R:Ending->World->Prop}(h:Calls P f args w R):CallsIn (fen z) n P f args w R:=by
 refine⟨trivial,λcs _=>?_⟩;obtain⟨e,w',fr,r,s,x⟩:=h cs;refine⟨e,w',fr,r,?_,x⟩;cases e with
 | returned v=>exact Qm6.2 s
 | panicked q=>exact Qm6.2 s
 | outgrown=>exact s
def Qo2 {o:Oper}{f:FuncId}{args:List Value}{v:Value}{H':Qa}
  (ac:∀ρ w a,Sim P ρ H w->Qm1 ρ o A a->∃args',VL ρ args args'∧(execOp a.eval o).run P w=.ok (.enter f args'.toArray) w) (ab:Qdd P f args H (.ret v) H'):Qt P o A H v H':=by
 intro ρ w a hs he K Q hk z;obtain⟨args',aa,ad⟩:=ac ρ w a hs he;refine⟨λ_ _=>trivial,?_⟩;rw[Qgc ad (by simp) _];refine⟨λh=>by simp[fen,Fence.wide]at h,?_⟩;refine Qm7 ((ab ρ w args' hs aa).mono ?_);rintro e w' ⟨ρ',q,ag,ae⟩;cases e with
 | returned ah=>exact hk ah ρ' w' q ag ae
 | panicked ai=>exact q.elim
 | outgrown=>exact q.elim
def QyT (P:Program)(f:FuncId)(args:List Value)(H:Qa)(v:Value)(H':Qa):Prop:=
 ∀ρ w args',Sim P ρ H w->VL ρ args args'->∃q ρ' w',(callFunc f args'.toArray).run P w=.ok (.value q) w'∧V ρ' v q∧St ρ H w ρ' H' w'∧Sim P ρ' H' w'
def J2 (P:Program)(f:FuncId)(args:List Value)(H:Qa)(v:Value)(H':Qa):Prop:=
 (entered P f=true∧Qdd P f args H (.ret v) H')∨QyT P f args H v H'
def QlV {o:Oper}{f:FuncId}{args:List Value}{v:Value}{H':Qa}
  (ae:∀ρ w a,Sim P ρ H w->Qm1 ρ o A a->∃args',VL ρ args args'∧(execOp a.eval o).run P w=(callFunc f args'.toArray).run P w) (ac:J2 P f args H v H'):Qt P o A H v H':=by
 rcases ac with⟨ag,ac⟩ | hx;·refine Qo2 (λρ w a q ad=>?_) ac;obtain⟨args',aa,ab⟩:=ae ρ w a q ad;exact⟨args',aa,by rw[ab,QaE ag]⟩
 refine .of_run λρ w a q ad=>?_;obtain⟨args',aa,ab⟩:=ae ρ w a q ad;rw[ab];exact hx ρ w args' q aa
def Qou {f:FuncId}{args:Array Operand}{ab:Array TypeId}{v:Value}{H':Qa}(q:J2 P f (args.map (ev A)).toList H v H'):
  Qt P ⟨d,.call ⟨.value (.func f),args,ab⟩,ty,pos,af,g⟩ A H v H':=
 QlV (λρ w a ac aa=>⟨(args.map a.eval).toList,QrZ (λx hx=>aa x (by simp[Op.operands,Call.operands,hx])),by
  simp only[execOp,resolve,Deferred.ofValue,Act.eval,invoke,pure_bind,Array.empty_append,Array.append_empty,RE]⟩) q
def V.func_inv {ρ:Ren}{f:FuncId}{xs ys:Array Value}{z:Value}(h:V ρ (.func (.func f) xs ys) z):∃q aa,z=.func (.func f) q aa∧VL ρ xs.toList q.toList∧VL ρ ys.toList aa.toList:=by
 cases h with
 | same _ ag=>simp[plain]at ag
 | func fn xs ys q aa ah ab ac ad ae=>
  exact⟨q,aa,rfl,⟨by simpa using ab,λj x x' a b=>ad j x x' (by simpa using a) (by simpa using b)⟩,⟨by simpa using ac,λj x x' a b=>ae j x x' (by simpa using a) (by simpa using b)⟩⟩
def QuR {f:FuncId}{c:Operand}{args:Array Operand}{ag:Array TypeId}{xs ys:Array Value}{v:Value}{H':Qa}(ab:ev A c=.func (.func f) xs ys)
  (ae:J2 P f (xs.toList++(args.map (ev A)).toList++ys.toList) H v H'):Qt P ⟨d,.call ⟨.value c,args,ag⟩,ty,pos,af,g⟩ A H v H':=
 QlV (λρ w a aj q=>by
  have aa:=q c (by simp[Op.operands,Call.operands]);rw[ab]at aa;obtain⟨ah,ai,e,ac,ad⟩:=aa.func_inv;refine⟨ah.toList++(args.map a.eval).toList++ai.toList,(ac.append (QrZ (λx hx=>q x (by simp[Op.operands,Call.operands,hx])))).append ad,?_⟩;simp only[execOp,resolve,e,Deferred.ofValue,invoke,pure_bind];congr 2;apply Ru;simp) ae
/-! ### Panics -/
def J2.does {f:FuncId}{args:List Value}{v:Value}{H':Qa}(ab:entered P f=true)(h:J2 P f args H v H'):Qdd P f args H (.ret v) H':=by
 rcases h with⟨_,aa⟩ | hx;·exact aa
 intro ρ w args' hs ha;obtain⟨ac,ρ',w',q,_⟩:=hx ρ w args' hs ha;rw[QaE ab]at q;cases q
/-! ### What the model runs itself -/
inductive Xk where
 | count | indexByte | noEscape | add64
def Xk.entry:Xk->Array Value->Sem Value
 | .count=>Extern.BytealgCount.count
 | .indexByte=>Extern.BytealgIndexByte.indexByte
 | .noEscape=>Extern.AbiNoEscape.same
 | .add64=>λargs=>do
  let (x,y,c) <- Extern.MathBitsCarry.three "Add64" args
  pure (Extern.MathBitsCarry.pair ((x+y+c) % Extern.MathBitsCarry.m64) ((x+y+c) / Extern.MathBitsCarry.m64))
def Xk.val:Xk->List Value->Option Value
 | .count,[.string s,.int .u8 c]=>some (.int .i64 (Lib.countByte (bl s) c.toNat.toUInt8))
 | .indexByte,[.string s,.int .u8 c]=>some (.int .i64 (Lib.indexByte (bl s) c.toNat.toUInt8))
 | .noEscape,[x]=>some x
 | .add64,[.int .u64 x,.int .u64 y,.int .u64 c]=>if c.toNat<=1 then some (.tuple #[.int .u64 (((x.toNat+y.toNat+c.toNat) % 18446744073709551616:Nat):Int),.int .u64 (((x.toNat+y.toNat+c.toNat) / 18446744073709551616:Nat):Int)]) else none
 | _,_=>none
def IsExt (P:Program)(f:FuncId)(k:Xk):Prop:=
 ∃fn,P.funcs[f]? = some fn∧(fn.name == "runtime.NumGoroutine")=false∧fn.body.isNone=true∧(Extern.findNext fn).isNone=true∧Extern.find fn=some k.entry
set_option maxHeartbeats 800000 in
def QBI {f:FuncId}{k:Xk}{args:List Value}{v:Value}(hx:IsExt P f k)(aa:k.val args=some v):QyT P f args H v H:=by
 obtain⟨fn,ae,ag,ac,ad,ah⟩:=hx;have ad:Extern.findNext fn=none:=by simpa using ad
 intro ρ w args' hs ha;rw[run_callFunc_extern ae ag ac ad ah];unfold Xk.val at aa;split at aa;·rename_i s c;cases aa;obtain⟨x,l,rfl,hx,q⟩:=ha.uncons;obtain⟨y,l,rfl,ab,q⟩:=q.uncons;obtain rfl:=q.unnil;rw[hx.plain_eq rfl,ab.plain_eq rfl];refine⟨_,ρ,w,?_,.same _ rfl,.refl _ _ _,hs⟩;rw[show Xk.count.entry=Extern.BytealgCount.count from rfl,Lib.run_countString];rfl
 ·rename_i s c;cases aa;obtain⟨x,l,rfl,hx,q⟩:=ha.uncons;obtain⟨y,l,rfl,ab,q⟩:=q.uncons;obtain rfl:=q.unnil;rw[hx.plain_eq rfl,ab.plain_eq rfl];refine⟨_,ρ,w,?_,.same _ rfl,.refl _ _ _,hs⟩;rw[show Xk.indexByte.entry=Extern.BytealgIndexByte.indexByte from rfl,Lib.run_indexByteString];rfl
 ·rename_i x;cases aa;obtain⟨y,l,rfl,ab,q⟩:=ha.uncons;obtain rfl:=q.unnil;exact⟨y,ρ,w,rfl,ab,.refl _ _ _,hs⟩
 ·rename_i x y c;split at aa
  ·rename_i ao;cases aa;obtain⟨ap,l,rfl,ak,q⟩:=ha.uncons;obtain⟨aq,l,rfl,am,q⟩:=q.uncons;obtain⟨ar,l,rfl,an,q⟩:=q.uncons;obtain rfl:=q.unnil;rw[ak.plain_eq rfl,am.plain_eq rfl,an.plain_eq rfl];refine⟨_,ρ,w,?_,.closed (by simp[X2,plain]),.refl _ _ _,hs⟩;have aj:¬c.toNat>1:=by omega
   have ai:Extern.MathBitsCarry.three "Add64" #[.int .u64 x,.int .u64 y,.int .u64 c]=(do
     let c:=(<- asInt (.int .u64 c)).toNat
     if c>1 then unsupported (.noEntry ("extern/math/bits." ++ "Add64" ++ ": a carry that is neither 0 nor 1"))
     pure ((<- asInt (.int .u64 x)).toNat,(<- asInt (.int .u64 y)).toNat,c)):=rfl
   have ac:(Extern.MathBitsCarry.three "Add64" #[.int .u64 x,.int .u64 y,.int .u64 c]).run P w=.ok (x.toNat,y.toNat,c.toNat) w:=by
    rw[ai];have hi:∀ (k:IntKind) (m:Int),(asInt (.int k m)).run P w=.ok m w:=λ_ _=>rfl;simp only[LW,hi,Lz,Le aj,Nc]
   simp only[Xk.entry,LW,ac,Lz,Nc];rfl
  cases aa
 cases aa
end
section
variable {P:Program} {n:Nat} {A:Env} {H:Qa} {d:Option Nat} {ty:TypeId} {pos:String} {af:Array Edge} {g:Option (Nat×Bool)}
def QlZ (w:World)(e:TypeId)(s:ByteArray):Lib.bytesWorld w e s=w.drew.alloc (.cells (Lib.bytesCells w e s) e ((Lib.bytesCells w e s).size,(Lib.bytesCells w e s).size+1)):=by
 simp only[Lib.bytesWorld,World.freeze,World.alloc,World.drew];simp only[Nat.succ_ne_zero,LN];congr 1;apply Array.ext;·simp
 intro i q aa;simp only[Array.size_modify,Array.size_push]at q
 by_cases hi:i=w.heap.size;·subst hi;rw[Array.getElem_modify_self];simp
 rw[Array.getElem_modify_of_ne (by omega)];rw[Array.getElem_push_lt (by omega),Array.getElem_push_lt (by omega)]
def Qw5 {src aa e:TypeId}{x:Operand}{s:ByteArray}{u:TypeDesc}{ag:TypeInfo}{z:Value}(ai:P.underlying src=some u)(aj:P.underlying aa=some (.slice e))(ak:P.underlying e=some (.int .u8))
  (aq:G6 P e ag z) (au:ag.size=1) (ah:ev A x=.string s) (ax:(bl s).length<=140737488355328):
  Qt P ⟨d,.convert src aa x,ty,pos,af,g⟩ A H (.slice (some ⟨H.y,0,none⟩) (bl s).length (UNK+1)) (H.push (.cells (YH s) e false)):=
 .of_run λρ w a ar ao=>by
  have e1:=Zj (ao x (by simp[Op.operands])) ah rfl;have ae:=Lib.run_convert_string_bytes (P:=P) w src aa e s ai aj ak;have aA:s.size=(bl s).length:=rfl;have ap:=grownCap_ge w s.size 0 e;have ay:=grownCap_le_maxLen w s.size 0 e (by simp only[maxLen];omega);have av:(YH s).length=(bl s).length:=by simp[YH,bl]
  have an:(Lib.bytesCells w e s).size=grownCap w s.size 0 e:=by
   simp only[Lib.bytesCells,Array.size_append,Array.size_map,Array.size_replicate];have:s.data.size=s.size:=rfl;omega
  have ad:(Lib.bytesCells w e s).toList=YH s++List.replicate (grownCap w s.size 0 e - s.size) (.int .u8 0):=by
   simp[Lib.bytesCells,YH]
  rw[QlZ]at ae;obtain⟨s1,s2⟩:=ar.drew
  let i:Zv:=⟨⟨w.heap.size,0,none⟩,grownCap w s.size 0 e,P.cellsOf e⟩
  have am:WH P (ext ρ H.y i) i (w.drew.alloc (.cells (Lib.bytesCells w e s) e ((Lib.bytesCells w e s).size,(Lib.bytesCells w e s).size+1))) (.cells (YH s) e false):=by
   refine⟨_,_,heap_alloc_new w.drew _,⟨rfl,rfl⟩,by simp only[i];rw[an];simp,by simp only[i];omega,λj v ab=>⟨v,?_,.same v ?_⟩,λo _ az aw=>by omega,λk v ac q=>?_,rfl⟩;·simp only[i,LP];rw[<- Bl,ad,LY (Lk.1 ab).1];exact ab
   ·have:=Ln ab;simp only[YH,N4]at this;obtain⟨b,_,rfl⟩:=this;rfl
   simp only[i,LP]at ac;rw[<- Bl,ad,LR ac,List.getElem?_replicate]at q;split at q;·cases q;exact λ_=>⟨0,rfl,by omega,by omega⟩
   cases q
  obtain⟨t1,t2⟩:=s2.push _ (.cells (YH s) e false) i rfl am;refine⟨.slice (some ⟨w.heap.size,0,none⟩) s.size (grownCap w s.size 0 e),_,_,?_,?_,s1.trans t1,t2⟩;·simp only[execOp,e1,LW,ae,Lz,Nc]
  refine .slice H.y 0 _ _ _ i _ (WI _ _ _) (.inl (by rw[Vq])) ap (by simp only[maxLen,UNK]at *;omega) (λ_=>?_) (λh=>by simp only[UNK]at h;omega);simp only[i,LP];rw[aq.cellsOf,au];exact⟨by simp only[UNK],by omega⟩
end
end Go.Ab
