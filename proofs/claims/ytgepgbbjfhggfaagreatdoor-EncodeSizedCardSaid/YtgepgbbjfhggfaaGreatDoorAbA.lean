/- Short names of the library's theorems. -/
import Derived.WalkKit
import Derived.Laws.AppendOwn
import Derived.OrdersIn
import Derived.TacticsIn
import Derived.RangeFuncRecord
import Derived.Laws.StructEq
import Derived.Laws.Cover3
import Derived.Laws.Pointers
import Derived.Laws.MakeOwn
import Derived.RangeFuncNested
import Derived.Lib.Bytealg
import Derived.Lib.ConvBytes
set_option linter.unusedVariables false
set_option linter.unusedSimpArgs false
noncomputable section
namespace Go.Ab
abbrev La:=@List.getElem?_eq_getElem
abbrev Lb:=@Nat.le_refl
abbrev Lc:=@if_pos
abbrev Le:=@if_neg
abbrev Lg:=@of_decide_eq_true
abbrev Lh:=@List.length_append
abbrev Li:=@List.all_eq_true
abbrev Lj:=@decide_eq_false
abbrev Lk:=@List.getElem?_eq_some_iff
abbrev Ll:=@of_decide_eq_false
abbrev Lm:=@Bool.and_eq_true
abbrev Ln:=@List.mem_of_getElem?
abbrev Lo:=@List.length_cons
abbrev Lp:=@decide_eq_true
abbrev Lq:=@cond_true
abbrev Lr:=@Bool.not_eq_true'
abbrev Ls:=@cond_false
abbrev Lt:=@Option.some.injEq
abbrev Lu:=@Bool.not_eq_false'
abbrev Lv:=@decide_eq_true_eq
abbrev Lw:=@List.drop_zero
abbrev Lx:=@Option.map_eq_some_iff
abbrev Ly:=@Option.some.inj
abbrev Lz:=@Result.andThen_ok
abbrev L0:=@beq_iff_eq
abbrev L7:=@Nat.zero_le
abbrev L8:=@Bool.not_true
abbrev L9:=@List.length_nil
abbrev LA:=@Nat.eq_of_beq_eq_true
abbrev LB:=@Prod.mk.injEq
abbrev LC:=@beq_eq_false_iff_ne
abbrev LD:=@List.getElem?_map
abbrev Sa:=@List.mem_singleton
abbrev LF:=@List.take_of_length_le
abbrev LG:=@Int.toNat_natCast
abbrev LH:=@List.nil_append
abbrev LI:=@List.mem_append
abbrev LJ:=@Bool.true_and
abbrev LK:=@List.mem_cons
abbrev LM:=@Bool.not_false
abbrev LN:=@if_false
abbrev LO:=@beq_self_eq_true
abbrev LP:=@Nat.zero_add
abbrev LQ:=@List.append_assoc
abbrev LR:=@List.getElem?_append_right
abbrev Sb:=@List.length_take
abbrev LU:=@List.mem_range
abbrev LV:=@Bool.false_eq_true
abbrev LW:=@Sem.run_bind
abbrev LX:=@List.getD_eq_getElem?_getD
abbrev LY:=@List.getElem?_append_left
abbrev LZ:=@run_underlying
abbrev Na:=@List.append_nil
abbrev Nb:=@List.getElem_mem
abbrev Nc:=@Sem.run_pure
abbrev Nf:=@decide_true
abbrev Ng:=@Array.getElem?_eq_getElem
abbrev Nh:=@List.drop_eq_getElem_cons
abbrev Ni:=@Bool.eq_iff_iff
abbrev Nj:=@Array.getElem?_eq_some_iff
abbrev Nk:=@List.getElem?_drop
abbrev Nl:=@List.getElem?_take
abbrev Nm:=@List.cons_append
abbrev Nn:=@List.length_map
abbrev Np:=@Int.fdiv_eq_ediv_of_nonneg
abbrev Nq:=@Nat.lt_or_ge
abbrev Nr:=@List.take_length
abbrev Ns:=@List.not_mem_nil
abbrev Nt:=@Bool.false_or
abbrev Nu:=@Eq.trans
abbrev Nv:=@List.take_add_one
abbrev Nw:=@Bool.or_eq_true
abbrev Ny:=@List.mem_cons_self
abbrev N0:=@Array.getD_eq_getD_getElem?
abbrev N1:=@Bool.true_or
abbrev N2:=@List.length_eq_zero_iff
abbrev N3:=@if_true
abbrev N4:=@List.mem_map
abbrev N5:=@Nat.lt_of_lt_of_le
abbrev N6:=@List.map_append
abbrev N7:=@List.getElem?_eq_none
abbrev N8:=@Nat.le_trans
abbrev N9:=@Nat.add_zero
abbrev NA:=@List.mem_cons_of_mem
abbrev NB:=@Option.getD_some
abbrev NC:=@IntKind.wrap_u64
abbrev ND:=@World.block_lt_of_cell?
abbrev NE:=@decide_false
abbrev NF:=@List.mem_flatMap
abbrev NG:=@Bool.false_and
abbrev NH:=@Nat.mul_one
abbrev NI:=@Bool.or_false
abbrev NJ:=@Bool.and_false
abbrev NK:=@List.drop_of_length_le
abbrev NL:=@Nat.add_sub_cancel_left
abbrev NM:=@List.take_succ_eq_append_getElem
abbrev NN:=@or_false
abbrev NO:=@List.take_append_of_le_length
abbrev NR:=@List.drop_eq_nil_of_le
abbrev NT:=@List.length_drop
abbrev NU:=@IntKind.wrap_i64
abbrev NW:=@List.take_append_drop
abbrev NX:=@Nat.lt_irrefl
abbrev NY:=@decide_eq_false_iff_not
abbrev NZ:=@List.map_cons
abbrev Ba:=@List.flatMap_cons
abbrev Bb:=@List.length_singleton
abbrev Bd:=@Bool.or_true
abbrev Be:=@Bool.and_true
abbrev Bg:=@List.getElem?_cons_succ
abbrev Bh:=@List.any_eq_true
abbrev Bi:=@Int.toNat_of_nonneg
abbrev Bj:=@Bool.and_self
abbrev Bl:=@Array.getElem?_toList
abbrev Bm:=@List.flatMap_append
abbrev Bn:=@Array.getElem?_setIfInBounds_ne
abbrev Bo:=@List.mem_filter
abbrev Bp:=@List.getElem?_cons_zero
abbrev Bq:=@List.map_nil
abbrev Br:=@Option.getD_none
abbrev Bs:=@Nat.mul_le_mul_right
abbrev Bv:=@List.all_cons
abbrev Bw:=@List.pairwise_singleton
abbrev Bx:=@List.mem_iff_getElem?
abbrev Bz:=@true_and
abbrev B0:=@Int.le_refl
abbrev B1:=@Array.all_eq_true_iff_forall_mem
abbrev B3:=@List.drop_append
abbrev B4:=@gt_iff_lt
abbrev B5:=@Nat.blt_eq
abbrev B6:=@Nat.eq_zero_or_pos
abbrev BA:=@List.ext_getElem?
abbrev BB:=@Array.mem_of_getElem?
abbrev BC:=@Nat.min_eq_left
abbrev BD:=@decide_eq_decide
abbrev BE:=@not_true_eq_false
abbrev BF:=@List.zip_cons_cons
abbrev BG:=@Bool.and_eq_false_iff
abbrev BH:=@Nat.zero_mul
abbrev BI:=@List.all_nil
abbrev BJ:=@Nat.sub_self
abbrev BL:=@Nat.ble_eq
abbrev BM:=@Int.tmod_eq_emod_of_nonneg
abbrev BN:=@eq_self
abbrev BO:=@List.length_range
abbrev BP:=@List.getElem?_of_mem
abbrev BR:=@List.pairwise_iff_getElem
abbrev BT:=@DataW.trod_int
abbrev BU:=@List.drop_length
abbrev BV:=@Option.bind_eq_bind
abbrev BX:=@List.any_eq_false
abbrev BY:=@Option.bind_eq_some_iff
abbrev Ra:=@List.mapM_cons
abbrev Rb:=@List.take_zero
abbrev Rc:=@List.drop_drop
abbrev Re:=@List.filter_append
abbrev Rh:=@Nat.add_assoc
abbrev Rj:=@List.length_pos_iff
abbrev Rm:=@Nat.mod_lt
abbrev Ro:=@Nat.le_add_right
abbrev Rq:=@Nat.lt_succ_self
abbrev Rs:=@List.set_eq_take_append_cons_drop
abbrev Ru:=@Array.ext'
abbrev Rw:=@List.mem_map_of_mem
abbrev Rx:=@Option.pure_def
abbrev Ry:=@Nat.add_mul
abbrev Rz:=@List.any_append
abbrev R0:=@List.range_succ
abbrev R7:=@List.length_filter_le
abbrev R8:=@Option.bind_some
abbrev R9:=@List.map_toArray
abbrev RA:=@Nat.mod_eq_of_lt
abbrev RB:=@Option.toList_some
abbrev RC:=@Array.getElem?_setIfInBounds_self_of_lt
abbrev RD:=@run_sliceBound
abbrev RE:=@Array.toArray_toList
abbrev RL:=@DataW.trod_struct
abbrev RU:=@and_self
abbrev RV:=@Option.isNone_none
abbrev RW:=@Bool.false_ne_true
abbrev RY:=@Array.getElem?_modify
abbrev Da:=@ne_eq
abbrev Db:=@List.getElem?_eq_none_iff
abbrev Dd:=@Nat.add_eq_left
abbrev De:=@Nat.left_eq_add
abbrev Dg:=@exists_eq_left'
abbrev Dh:=@Option.map_some
abbrev Dj:=@Nat.lt_trichotomy
abbrev D9:=@Option.isSome_iff_exists
abbrev DB:=@List.getElem?_range
abbrev DC:=@List.map_congr_left
abbrev DE:=@List.take_take
abbrev DF:=@List.isEmpty_iff
abbrev DG:=@List.flatMap_nil
abbrev DJ:=@run_program
abbrev Fa:=@Nat.lt_or_gt_of_ne
abbrev Fe:=@Bool.true_eq_false
abbrev Ff:=@Option.isNone_some
abbrev Fk:=@Option.map_none
abbrev Fl:=@List.cons.injEq
abbrev Fo:=@List.all_append
abbrev Fq:=@List.length_set
abbrev Fs:=@StepsIn.trans
abbrev Ft:=@ge_iff_le
abbrev Fv:=@List.eq_replicate_iff
abbrev Fx:=@Nat.one_mul
abbrev FF:=@wpIn_mono
abbrev FG:=@List.countP_cons
abbrev FH:=@Nat.succ_pos
abbrev FL:=@Nat.div_eq_of_lt
abbrev FM:=@Nat.le_of_eq
abbrev FO:=@List.mapM_nil
abbrev FP:=@Bool.or_assoc
abbrev FQ:=@List.foldl_cons
abbrev FR:=@List.nodup_cons
abbrev FT:=@run_newObj
abbrev Hr:=@and_true
abbrev Ht:=@List.map_map
abbrev Hu:=@Int.mul_comm
abbrev Hv:=@Nat.mul_comm
def UNK:Nat:=9223372036854775808
structure Kj where
 at_:Addr
 n:Nat
 s:Nat
abbrev Ren:=Nat->Option Kj
def plain:Value->Bool
 | .bool _ | .int _ _ | .float _ _ | .complex _ _ _ | .string _ | .pointer none | .slice none _ _ | .map none | .chan none | .nilFunc | .nilIface=>true
 | _=>false
def Qd2:Fn->Bool
 | .yield _=>false
 | _=>true
inductive V (ρ:Ren):Value->Value->Prop
 | same (v:Value):plain v=true->V ρ v v
 | ptr (id off:Nat) (i:Kj):ρ id=some i->V ρ (.pointer (some ⟨id,off,none⟩)) (.pointer (some (i.at_.add off)))
 | slice (id off len cap cap':Nat) (i:Kj) (a':Addr):ρ id=some i->(a'=i.at_.add off∨(len=0∧cap'=0))->len<=cap'->cap'<UNK->
   (UNK<=cap->i.s=cap - UNK∧off+cap' * i.s=i.n)->(cap<UNK->cap'=cap)->V ρ (.slice (some ⟨id,off,none⟩) len cap) (.slice (some a') len cap')
 | map (id:Nat) (i:Kj):ρ id=some i->V ρ (.map (some id)) (.map (some i.at_.block))
 | func (fn:Fn) (xs ys xs' ys':Array Value):Qd2 fn=true->xs.size=xs'.size->ys.size=ys'.size->
   (∀ (j:Nat) x x',xs[j]? = some x->xs'[j]? = some x'->V ρ x x')->(∀ (j:Nat) x x',ys[j]? = some x->ys'[j]? = some x'->V ρ x x')->V ρ (.func fn xs ys) (.func fn xs' ys')
 | yield (l:Nat) (i:Kj):ρ l=some i->V ρ (.func (.yield l) #[] #[]) (.func (.yield i.at_.block) #[] #[])
 | iface (t:TypeId) (v v':Value):V ρ v v'->V ρ (.iface t v) (.iface t v')
 | agg (xs xs':Array Value):xs.size=xs'.size->(∀ (j:Nat) x x',xs[j]? = some x->xs'[j]? = some x'->V ρ x x')->V ρ (.agg xs) (.agg xs')
 | tuple (xs xs':Array Value):xs.size=xs'.size->(∀ (j:Nat) x x',xs[j]? = some x->xs'[j]? = some x'->V ρ x x')->V ρ (.tuple xs) (.tuple xs')
def Sub (ρ ρ':Ren):Prop:=∀id i,ρ id=some i->ρ' id=some i
theorem Sub.refl (ρ:Ren):Sub ρ ρ:=λ_ _ h=>h
theorem Sub.trans {a b c:Ren}(h:Sub a b)(h':Sub b c):Sub a c:=λid i e=>h' id i (h id i e)
theorem V.mono {ρ ρ':Ren}(ac:Sub ρ ρ'){v ad:Value}(h:V ρ v ad):V ρ' v ad:=by
 induction h with
 | same v am=>exact .same v am
 | ptr id off i h=>exact .ptr id off i (ac _ _ h)
 | slice id off len cap ah i ag h q ae ai aj ak=>exact .slice id off len cap ah i ag (ac _ _ h) q ae ai aj ak
 | map id i h=>exact .map id i (ac _ _ h)
 | func fn xs ys ab aq al q ae _ _ an ao=>exact .func fn xs ys ab aq al q ae an ao
 | yield l i h=>exact .yield l i (ac _ _ h)
 | iface t v ad _ aa=>exact .iface t v ad aa
 | agg xs ab q _ aa=>exact .agg xs ab q aa
 | tuple xs ab q _ aa=>exact .tuple xs ab q aa
def VL (ρ:Ren)(xs q:List Value):Prop:=xs.length=q.length∧∀ (j:Nat) x x',xs[j]? = some x->q[j]? = some x'->V ρ x x'
theorem VL.mono {ρ ρ':Ren}(aa:Sub ρ ρ'){v q:List Value}(h:VL ρ v q):VL ρ' v q:=⟨h.1,λj x x' a b=>(h.2 j x x' a b).mono aa⟩
theorem VL.nil (ρ:Ren):VL ρ [] []:=⟨rfl,λ_ _ _ h=>by simp at h⟩
theorem VL.cons {ρ:Ren}{x x':Value}{xs aa:List Value}(h:V ρ x x')(q:VL ρ xs aa):VL ρ (x::xs) (x'::aa):=
 ⟨by simp[q.1],λj y ab a b=>by
  cases j with
  | zero=>simp at a b;subst a;subst b;exact h
  | succ j=>simp at a b;exact q.2 j y ab a b⟩
theorem VL.uncons {ρ:Ren}{x:Value}{xs l:List Value}(h:VL ρ (x::xs) l):∃x' q,l=x'::q∧V ρ x x'∧VL ρ xs q:=by
 cases l with
 | nil=>have:=h.1;simp at this
 | cons x' q=>
  exact⟨x',q,rfl,h.2 0 x x' rfl rfl,by have:=h.1;simp at this;exact this,λj y aa a b=>h.2 (j+1) y aa (by simpa using a) (by simpa using b)⟩
theorem VL.unnil {ρ:Ren}{l:List Value}(h:VL ρ [] l):l=[]:=by
 have:=h.1;simp at this;exact N2.1 this.symm
theorem VL.append {ρ:Ren}{a q b b':List Value}(h:VL ρ a q)(h':VL ρ b b'):VL ρ (a++b) (q++b'):=by
 refine⟨by simp[h.1,h'.1],λj x x' e e'=>?_⟩
 by_cases aa:j<a.length
 ·rw[LY aa]at e;rw[LY (by rw[<- h.1];exact aa)]at e';exact h.2 j x x' e e'
 ·rw[LR (by omega)]at e;rw[LR (by rw[<- h.1];omega),<- h.1]at e';exact h'.2 _ x x' e e'
theorem VL.drop {ρ:Ren}{a q:List Value}(h:VL ρ a q)(k:Nat):VL ρ (a.drop k) (q.drop k):=
 ⟨by simp[h.1],λj x x' e e'=>h.2 (k+j) x x' (by rw[<- Nk];exact e) (by rw[<- Nk];exact e')⟩
theorem VL.take {ρ:Ren}{a q:List Value}(h:VL ρ a q)(k:Nat):VL ρ (a.take k) (q.take k):=by
 refine⟨by simp[h.1],λj x x' e e'=>?_⟩;rw[Nl]at e e';split at e
 ·rename_i aa;rw[Lc aa]at e';exact h.2 j x x' e e'
 ·cases e
theorem VL.get {ρ:Ren}{a q:List Value}(h:VL ρ a q){j:Nat}{x:Value}(e:a[j]? = some x):∃x',q[j]? = some x'∧V ρ x x':=by
 have ab:j<a.length:=(Lk.1 e).1;have aa:j<q.length:=by rw[<- h.1];exact ab
 exact⟨q[j],La aa,h.2 j x _ e (La aa)⟩
theorem VL.set {ρ:Ren}{a q:List Value}(h:VL ρ a q){k:Nat}{x x':Value}(ab:V ρ x x'):VL ρ (a.set k x) (q.set k x'):=by
 refine⟨by simp[h.1],λj y ac e e'=>?_⟩;rw[List.getElem?_set]at e e'
 by_cases aa:k=j
 ·simp only[aa,N3]at e e';split at e
  ·split at e'
   ·cases e;cases e';exact ab
   ·cases e'
  ·cases e
 ·simp only[aa,LN]at e e';exact h.2 j y ac e e'
inductive Tr (α:Type) where
 | nil
 | node (l:Tr α) (x:Option α) (r:Tr α)
def Tr.get {α:Type}(t:Tr α):Nat->Option α:=
 Tr.rec (motive:=λ_=>Nat->Option α) (λ_=>none)
  (λ_ x _ q aa n=>Bool.rec (motive:=λ_=>Option α) (Bool.rec (motive:=λ_=>Option α) (aa (Nat.pred (Nat.div n 2))) (q (Nat.div n 2)) (Nat.beq (Nat.mod n 2) 1)) x (Nat.beq n 0)) t
def Tr.one {α:Type}(v:Option α)(f:Nat):Nat->Tr α:=
 Nat.rec (motive:=λ_=>Nat->Tr α) (λ_=>.nil)
  (λ_ q n=>Bool.rec (motive:=λ_=>Tr α) (Bool.rec (motive:=λ_=>Tr α) (.node .nil none (q (Nat.pred (Nat.div n 2)))) (.node (q (Nat.div n 2)) none .nil) (Nat.beq (Nat.mod n 2) 1)) (.node .nil v .nil) (Nat.beq n 0)) f
def Tr.set {α:Type}(t:Tr α)(n:Nat)(v:Option α):Tr α:=
 Tr.rec (motive:=λ_=>Nat->Tr α) (λn=>Tr.one v (Nat.succ n) n)
  (λl x r q aa n=>Bool.rec (motive:=λ_=>Tr α) (Bool.rec (motive:=λ_=>Tr α) (.node l x (aa (Nat.pred (Nat.div n 2)))) (.node (q (Nat.div n 2)) x r) (Nat.beq (Nat.mod n 2) 1)) (.node l v r) (Nat.beq n 0)) t n
theorem Tr.get_nil {α:Type}(n:Nat):(Tr.nil:Tr α).get n=none:=rfl
theorem Tr.get_node {α:Type}(l:Tr α)(x:Option α)(r:Tr α)(n:Nat):(Tr.node l x r).get n=bif Nat.beq n 0 then x else bif Nat.beq (n % 2) 1 then l.get (n / 2) else r.get (n / 2 - 1):=by
 show Bool.rec (motive:=λ_=>Option α) (Bool.rec (motive:=λ_=>Option α) (r.get (Nat.pred (Nat.div n 2))) (l.get (Nat.div n 2)) (Nat.beq (Nat.mod n 2) 1)) x (Nat.beq n 0)=_;cases h:Nat.beq n 0 with
 | true=>rfl
 | false=>
  show Bool.rec (motive:=λ_=>Option α) (r.get (Nat.pred (Nat.div n 2))) (l.get (Nat.div n 2)) (Nat.beq (Nat.mod n 2) 1)=bif Nat.beq (n % 2) 1 then l.get (n / 2) else r.get (n / 2 - 1)
  show _=bif Nat.beq (Nat.mod n 2) 1 then l.get (n / 2) else r.get (n / 2 - 1)
  cases Nat.beq (Nat.mod n 2) 1<;>rfl
theorem Tr.set_nil {α:Type}(n:Nat)(v:Option α):(Tr.nil:Tr α).set n v=Tr.one v (n+1) n:=rfl
theorem Tr.set_node {α:Type}(l:Tr α)(x:Option α)(r:Tr α)(n:Nat)(v:Option α):(Tr.node l x r).set n v=bif Nat.beq n 0 then .node l v r else bif Nat.beq (n % 2) 1 then .node (l.set (n / 2) v) x r else .node l x (r.set (n / 2 - 1) v):=by
 show Bool.rec (motive:=λ_=>Tr α) (Bool.rec (motive:=λ_=>Tr α) (.node l x (r.set (Nat.pred (Nat.div n 2)) v)) (.node (l.set (Nat.div n 2) v) x r) (Nat.beq (Nat.mod n 2) 1)) (.node l v r) (Nat.beq n 0)=_;cases h:Nat.beq n 0 with
 | true=>rfl
 | false=>
  show Bool.rec (motive:=λ_=>Tr α) (.node l x (r.set (Nat.pred (Nat.div n 2)) v)) (.node (l.set (Nat.div n 2) v) x r) (Nat.beq (Nat.mod n 2) 1)=bif Nat.beq (Nat.mod n 2) 1 then Tr.node (l.set (n / 2) v) x r else Tr.node l x (r.set (n / 2 - 1) v)
  cases Nat.beq (Nat.mod n 2) 1<;>rfl
theorem Tr.one_succ {α:Type}(v:Option α)(f n:Nat):Tr.one v (f+1) n=bif Nat.beq n 0 then .node .nil v .nil else bif Nat.beq (n % 2) 1 then .node (Tr.one v f (n / 2)) none .nil else .node .nil none (Tr.one v f (n / 2 - 1)):=by
 show Bool.rec (motive:=λ_=>Tr α) (Bool.rec (motive:=λ_=>Tr α) (.node .nil none (Tr.one v f (Nat.pred (Nat.div n 2)))) (.node (Tr.one v f (Nat.div n 2)) none .nil) (Nat.beq (Nat.mod n 2) 1)) (.node .nil v .nil) (Nat.beq n 0)=_;cases h:Nat.beq n 0 with
 | true=>rfl
 | false=>
  show Bool.rec (motive:=λ_=>Tr α) (.node .nil none (Tr.one v f (Nat.pred (Nat.div n 2)))) (.node (Tr.one v f (Nat.div n 2)) none .nil) (Nat.beq (Nat.mod n 2) 1)=bif Nat.beq (Nat.mod n 2) 1 then Tr.node (Tr.one v f (n / 2)) none .nil else Tr.node .nil none (Tr.one v f (n / 2 - 1))
  cases Nat.beq (Nat.mod n 2) 1<;>rfl
theorem Kk (a b:Nat):Nat.beq a b=decide (a=b):=by
 by_cases h:a=b
 ·subst h;simp
 ·simp only[h,NE];cases hb:Nat.beq a b with
  | false=>rfl
  | true=>exact absurd (LA hb) h
theorem Tr.get_one {α:Type}(v:Option α):∀ (f n m:Nat),n<f->(Tr.one v f n).get m=if m=n then v else none:=by
 intro f
 induction f with
 | zero=>intro n m h;omega
 | succ f ad=>
  intro n m h;simp only[Tr.one_succ,Kk,cond_eq_ite,Lv]
  by_cases ab:n=0
  ·subst ab;simp only[N3,Tr.get_node,Tr.get_nil,Kk,cond_eq_ite,Lv,ite_self]
  ·simp only[ab,LN]
   by_cases ac:n % 2=1
   ·simp only[ac,N3,Tr.get_node,Tr.get_nil,Kk,cond_eq_ite,Lv,ad (n / 2) (m / 2) (by omega)]
    by_cases q:m=0
    ·subst q;simp[show ¬0=n by omega]
    ·simp only[q,LN]
     by_cases aa:m % 2=1
     ·simp only[aa,N3]
      by_cases e:m=n
      ·subst e;simp
      ·rw[Le (by omega),Le e]
     ·simp only[aa,LN];rw[Le (by omega)]
   ·simp only[ac,LN,Tr.get_node,Tr.get_nil,Kk,cond_eq_ite,Lv,ad (n / 2 - 1) (m / 2 - 1) (by omega)]
    by_cases q:m=0
    ·subst q;simp[show ¬0=n by omega]
    ·simp only[q,LN]
     by_cases aa:m % 2=1
     ·simp only[aa,N3];rw[Le (by omega)]
     ·simp only[aa,LN]
      by_cases e:m=n
      ·subst e;simp
      ·rw[Le (by omega),Le e]
theorem Tr.get_set {α:Type}(t:Tr α)(n m:Nat)(v:Option α):(t.set n v).get m=if m=n then v else t.get m:=by
 induction t generalizing n m with
 | nil=>rw[Tr.set_nil,Tr.get_one v (n+1) n m (by omega),Tr.get_nil]
 | node l x r ad ae=>
  simp only[Tr.set_node,Kk,cond_eq_ite,Lv]
  by_cases ab:n=0
  ·subst ab;simp only[N3,Tr.get_node,Kk,cond_eq_ite,Lv]
   by_cases q:m=0<;>simp[q]
  ·simp only[ab,LN]
   by_cases ac:n % 2=1
   ·simp only[ac,N3,Tr.get_node,Kk,cond_eq_ite,Lv,ad (n / 2) (m / 2)]
    by_cases q:m=0
    ·subst q;simp[show ¬0=n by omega]
    ·simp only[q,LN]
     by_cases aa:m % 2=1
     ·simp only[aa,N3]
      by_cases e:m=n
      ·subst e;simp
      ·rw[Le (by omega),Le e]
     ·simp only[aa,LN];rw[Le (by omega)]
   ·simp only[ac,LN,Tr.get_node,Kk,cond_eq_ite,Lv,ae (n / 2 - 1) (m / 2 - 1)]
    by_cases q:m=0
    ·subst q;simp[show ¬0=n by omega]
    ·simp only[q,LN]
     by_cases aa:m % 2=1
     ·simp only[aa,N3];rw[Le (by omega)]
     ·simp only[aa,LN]
      by_cases e:m=n
      ·subst e;simp
      ·rw[Le (by omega),Le e]
inductive Blk where
 | cells (c:List Value) (e:TypeId) (ro:Bool)
 | map (es:List (Value×Value))
 | iter (s:ByteArray) (pos:Nat)
 | miter (m:Option Nat) (since:Nat) (seen:List Nat) (stp:Nat)
 | loop (A:Nat->Value) (n:Nat) (ps:Array Tmp) (as bd:Code) (st:Option Code)
def Blk.ro:Blk->Bool
 | .cells _ _ r=>r
 | _=>false
structure Qa where
 next:Nat
 tr:Tr Blk
def Qa.get (H:Qa)(id:Nat):Option Blk:=H.tr.get id
def Qa.set (H:Qa)(id:Nat)(b:Blk):Qa:=⟨H.next,H.tr.set id (some b)⟩
def Qa.kill (H:Qa)(id:Nat):Qa:=⟨H.next,H.tr.set id none⟩
def Qa.push (H:Qa)(b:Blk):Qa:=⟨H.next+1,H.tr.set H.next (some b)⟩
@[simp] theorem Qv (H:Qa) (id:Nat) (b:Blk):(H.set id b).next=H.next:=rfl
@[simp] theorem Qdr (H:Qa) (id:Nat):(H.kill id).next=H.next:=rfl
@[simp] theorem Qd (H:Qa) (b:Blk):(H.push b).next=H.next+1:=rfl
theorem Qn (H:Qa)(id m:Nat)(b:Blk):(H.set id b).get m=if m=id then some b else H.get m:=Tr.get_set _ _ _ _
theorem WV (H:Qa)(id m:Nat):(H.kill id).get m=if m=id then none else H.get m:=Tr.get_set _ _ _ _
theorem Qc (H:Qa)(m:Nat)(b:Blk):(H.push b).get m=if m=H.next then some b else H.get m:=Tr.get_set _ _ _ _
def QAF (P:Program)(e:TypeId)(v:Value):Prop:=P.underlying e=some (.int .u8)->∃n:Int,v=.int .u8 n∧0<=n∧n<256
def Xg (P:Program)(ρ:Ren)(i:Kj)(w:World):Blk->Prop
 | .cells c _ true=>i.at_.block<w.heap.size∧∀ (j:Nat) v,c[j]? = some v->∃ab,w.cell? (i.at_.add j)=some ab∧V ρ v ab
 | .cells c e false=>∃ (q:Array Value) (ac:Nat×Nat),w.heap[i.at_.block]? = some (.cells q e ac)∧(i.at_.spot=none∧i.at_.off=0)∧i.at_.off+i.n=q.size∧c.length<=i.n∧
   (∀ (j:Nat) v,c[j]? = some v->∃ab,q[i.at_.off+j]? = some ab∧V ρ v ab)∧
   (∀o,i.at_.off<=o->o<q.size->¬ (ac.1<=o∧o<ac.2))∧
   (∀ (o:Nat) v,i.at_.off+c.length<=o->q[o]? = some v->QAF P e v)∧i.s=P.cellsOf e
 | .map es=>∃ (aa:Array MapEntry) (ad:Nat),w.heap[i.at_.block]? = some (.map aa ad)∧VL ρ (es.map (·.1)) (aa.toList.map (·.key))∧VL ρ (es.map (·.2)) (aa.toList.map (·.val))∧
   ad=aa.size∧∀ (j:Nat) e,aa[j]? = some e->e.born=j
 | .iter s pos=>w.heap[i.at_.block]? = some (.stringIter s pos)∧i.at_.off=0
 | .miter none _ _ _=>w.heap[i.at_.block]? = some (.mapIter none 0 #[] 0)∧i.at_.off=0
 | .miter (some m) since seen stp=>(∃i',ρ m=some i'∧w.heap[i.at_.block]? = some (.mapIter (some i'.at_.block) since seen.toArray stp))∧i.at_.off=0
 | .loop A n ah ae ag st=>∃ (fn:FuncId) (tmps:Array Value) (D:Nat),w.heap[i.at_.block]? = some (.loop {state:=if st.isNone then .ready else .done,pending:=st,fn:=fn,tmps:=tmps,params:=ah,assign:=ae,body:=ag,defers:=D})∧
   tmps.size=n∧∀t,t<n->V ρ (A t) (tmps.getD t undef)
structure Sim (P:Program) (ρ:Ren) (H:Qa) (w:World):Prop where
 dom:∀id i,ρ id=some i->id<H.next
 live:∀id b i,H.get id=some b->ρ id=some i->Xg P ρ i w b
 sep:∀id1 id2 b1 b2 i1 i2,H.get id1=some b1->H.get id2=some b2->ρ id1=some i1->ρ id2=some i2->b1.ro=false->id1≠id2->i1.at_.block≠i2.at_.block
 glob:∀g,g<P.globals.size->∃i,ρ g=some i∧i.at_=⟨g,0,none⟩
theorem Xg.lt {P:Program}{ρ:Ren}{i:Kj}{w:World}{b:Blk}(h:Xg P ρ i w b):i.at_.block<w.heap.size:=by
 cases b with
 | cells c e ro=>
  cases ro with
  | true=>exact h.1
  | false=>
   obtain⟨ad,ag,q,_⟩:=h;exact(Nj.1 q).1
 | map es=>obtain⟨ae,ac,q,_⟩:=h;exact(Nj.1 q).1
 | iter s pos=>exact(Nj.1 h.1).1
 | miter m aj ai ak=>
  cases m with
  | none=>exact(Nj.1 h.1).1
  | some m=>obtain⟨⟨i',_,q⟩,_⟩:=h;exact(Nj.1 q).1
 | loop A n ah aa ab st=>obtain⟨fn,tmps,D,q,_⟩:=h;exact(Nj.1 q).1
theorem block_add (a:Addr)(n:Nat):(a.add n).block=a.block:=by unfold Addr.add;split<;>rfl
theorem Gj (a:Addr)(i j:Nat):(a.add i).add j=a.add (i+j):=by
 unfold Addr.add
 by_cases hi:i=0<;>by_cases q:j=0<;>simp[hi,q,Rh]
theorem Qfe (b o n:Nat):(⟨b,o,none⟩:Addr).add n=⟨b,o+n,none⟩:=by
 unfold Addr.add;split<;>simp_all
theorem Qnz {a:Addr}(h:a.spot=none)(n:Nat):a.add n=⟨a.block,a.off+n,none⟩:=by
 obtain⟨b,o,s⟩:=a;simp at h;subst h;exact Qfe b o n
theorem Xg.mono {P:Program}{ρ ρ':Ren}{i:Kj}{w w':World}{b:Blk}(ad:Sub ρ ρ')(aa:w'.heap[i.at_.block]? = w.heap[i.at_.block]?)(h:Xg P ρ i w b):Xg P ρ' i w' b:=by
 cases b with
 | cells c e ro=>
  cases ro with
  | true=>
   refine⟨?_,λj v ag=>?_⟩
   ·have:=h.1;rcases Nq i.at_.block w'.heap.size with q | q
    ·exact q
    ·rw[Array.getElem?_eq_none q,Ng this]at aa;cases aa
   ·obtain⟨ah,ar,av⟩:=h.2 j v ag;refine⟨ah,?_,av.mono ad⟩;rw[<- ar];exact World.cell?_of_block (by rw[block_add];exact aa)
  | false=>
   obtain⟨aj,al,ac,q,ab,ae,am,an,ao,aq⟩:=h;exact⟨aj,al,aa.trans ac,q,ab,ae,λj v ag=>by obtain⟨ah,a,b⟩:=am j v ag;exact⟨ah,a,b.mono ad⟩,an,ao,aq⟩
 | map es=>obtain⟨ak,ai,ac,q,ab,ae⟩:=h;exact⟨ak,ai,aa.trans ac,q.mono ad,ab.mono ad,ae⟩
 | iter s pos=>exact⟨aa.trans h.1,h.2⟩
 | miter m aA az aB=>
  cases m with
  | none=>exact⟨aa.trans h.1,h.2⟩
  | some m=>obtain⟨⟨i',q,ac⟩,ab⟩:=h;exact⟨⟨i',ad _ _ q,aa.trans ac⟩,ab⟩
 | loop A n ay aw ax st=>obtain⟨fn,tmps,D,ac,q,ab⟩:=h;exact⟨fn,tmps,D,aa.trans ac,q,λt au=>(ab t au).mono ad⟩
structure St (ρ:Ren) (H:Qa) (w:World) (ρ':Ren) (H':Qa) (w':World):Prop where
 mono:Sub ρ ρ'
 next:H.next<=H'.next
 dead:∀id i,ρ id=some i->H.get id=none->H'.get id=none
 ro:∀id i b b',ρ id=some i->H.get id=some b->b.ro=true->H'.get id=some b'->b'.ro=true
 fresh:∀id i,ρ' id=some i->ρ id=none->H.next<=id∧(w.heap.size<=i.at_.block∨∃id0 i0 b0,ρ id0=some i0∧i0.at_.block=i.at_.block∧H.get id0=some b0∧b0.ro=false)
 os:w'.os=w.os
 tape:w'.tape=w.tape
 output:w'.output=w.output
 size:w.heap.size<=w'.heap.size
 frame:∀b,b<w.heap.size->(∀id i bl,ρ id=some i->H.get id=some bl->bl.ro=false->i.at_.block≠b)->w'.heap[b]? = w.heap[b]?
theorem St.refl (ρ:Ren)(H:Qa)(w:World):St ρ H w ρ H w where
 mono:=Sub.refl ρ
 next:=Lb _
 dead:=λ_ _ _ h=>h
 ro:=λ_ _ b b' _ h q h'=>by rw[h]at h';cases h';exact q
 fresh:=λid i h h'=>by rw[h']at h;cases h
 os:=rfl
 tape:=rfl
 output:=rfl
 size:=Lb _
 frame:=λ_ _ _=>rfl
theorem St.owned {ρ:Ren}{H:Qa}{w:World}{ρ':Ren}{H':Qa}{w':World}(h:St ρ H w ρ' H' w'){id:Nat}{i:Kj}{bl:Blk}
  (ad:ρ' id=some i) (ab:H'.get id=some bl) (ae:bl.ro=false):
  w.heap.size<=i.at_.block∨∃ag q b0,ρ ag=some q∧q.at_.block=i.at_.block∧H.get ag=some b0∧b0.ro=false:=by
 cases aa:ρ id with
 | none=>exact(h.fresh id i ad aa).2
 | some q=>
  have:q=i:=by have:=h.mono id q aa;rw[ad]at this;cases this;rfl
  subst this;cases ac:H.get id with
  | none=>rw[h.dead id q aa ac]at ab;cases ab
  | some b0=>
   refine .inr ⟨id,q,b0,aa,rfl,ac,?_⟩;cases ah:b0.ro with
   | false=>rfl
   | true=>rw[h.ro id q b0 bl aa ac ah ab]at ae;cases ae
theorem St.trans {ρ ρ1 ρ2:Ren}{H H1 H2:Qa}{w al am:World}(a:St ρ H w ρ1 H1 al)(b:St ρ1 H1 al ρ2 H2 am):St ρ H w ρ2 H2 am where
 mono:=a.mono.trans b.mono
 next:=N8 a.next b.next
 dead:=λid i h h'=>b.dead id i (a.mono _ _ h) (a.dead id i h h')
 ro:=λid i bl an h aa q ab=>by
  cases ac:H1.get id with
  | none=>rw[b.dead id i (a.mono _ _ h) ac]at ab;cases ab
  | some ag=>exact b.ro id i ag an (a.mono _ _ h) ac (a.ro id i bl ag h aa q ac) ab
 fresh:=λid i h h'=>by
  cases ad:ρ1 id with
  | some ae=>
   have:ae=i:=by have:=b.mono id ae ad;rw[h]at this;cases this;rfl
   subst this;exact a.fresh id ae ad h'
  | none=>
   obtain⟨aa,q⟩:=b.fresh id i h ad;refine⟨N8 a.next aa,?_⟩;rcases q with q | ⟨ak,aj,b0,e1,e2,e3,e4⟩
   ·exact .inl (N8 a.size q)
   ·rw[<- e2];exact a.owned e1 e3 e4
 os:=b.os.trans a.os
 tape:=b.tape.trans a.tape
 output:=b.output.trans a.output
 size:=N8 a.size b.size
 frame:=λah hb ai=>by
  rw[b.frame ah (N5 hb a.size) ?_,a.frame ah hb ai];intro id i bl aa q ab e;rcases a.owned aa q ab with h | ⟨ak,aj,b0,e1,e2,e3,e4⟩
  ·omega
  ·exact ai ak aj b0 e1 e3 e4 (e2.trans e)
structure Hid (ρ:Ren) (H:Qa) (w:World) (b:Nat) (o:Obj):Prop where
 at_:w.heap[b]? = some o
 un:∀id i bl,ρ id=some i->H.get id=some bl->i.at_.block≠b
theorem Hid.lt {ρ:Ren}{H:Qa}{w:World}{b:Nat}{o:Obj}(h:Hid ρ H w b o):b<w.heap.size:=(Nj.1 h.at_).1
theorem Hid.step {ρ ρ':Ren}{H H':Qa}{w w':World}{b:Nat}{o:Obj}(h:Hid ρ H w b o)(ad:St ρ H w ρ' H' w'):Hid ρ' H' w' b o:=
 ⟨(ad.frame b h.lt (λid i bl aa ab _=>h.un id i bl aa ab)).trans h.at_,λid i bl aa ab e=>by
  cases ac:ρ id with
  | none=>
   rcases(ad.fresh id i aa ac).2 with hh | ⟨id0,q,b0,e1,e2,e3,e4⟩
   ·have:=h.lt;omega
   ·exact h.un id0 q b0 e1 e3 (e2.trans e)
  | some q=>
   have:q=i:=by have:=ad.mono id q ac;rw[aa]at this;cases this;rfl
   subst this;cases ae:H.get id with
   | none=>rw[ad.dead id q ac ae]at ab;cases ab
   | some b0=>exact h.un id q b0 ac ae e⟩
structure GF (H2 H1:Qa):Prop where
 next:H1.next<=H2.next
 get:∀id b,H2.get id=some b->H1.get id=some b
theorem GF.refl (H:Qa):GF H H:=⟨Lb _,λ_ _ h=>h⟩
theorem GF.trans {a b c:Qa}(h:GF a b)(h':GF b c):GF a c:=⟨N8 h'.next h.next,λid x e=>h'.get id x (h.get id x e)⟩
theorem Sim.less {P:Program}{ρ:Ren}{H1 H2:Qa}{w:World}(h:Sim P ρ H1 w)(l:GF H2 H1):Sim P ρ H2 w:=
 ⟨λid i hi=>N5 (h.dom id i hi) l.next,λid b i hb hi=>h.live id b i (l.get id b hb) hi,λag ah q aa ad ae ab ac=>h.sep ag ah q aa ad ae (l.get _ _ ab) (l.get _ _ ac),h.glob⟩
theorem St.less {ρ ρ':Ren}{H H1 H2:Qa}{w w':World}(h:St ρ H w ρ' H1 w')(l:GF H2 H1):St ρ H w ρ' H2 w':=
 {h with
  next:=N8 h.next l.next
  dead:=λid i hi q=>by
   cases aa:H2.get id with
   | none=>rfl
   | some b=>have:=l.get id b aa;rw[h.dead id i hi q]at this;cases this
  ro:=λid i b b' hi q ab hb=>h.ro id i b b' hi q ab (l.get id b' hb)}
abbrev Env:=Nat->Value
def upd (A:Env)(d:Nat)(v:Value):Env:=λt=>bif Nat.beq t d then v else A t
def GG (A:Env)(d:Option Nat)(v:Value):Env:=match d with | some d=>upd A d v | none=>A
@[simp] theorem QjX (A:Env) (d:Nat) (v:Value):upd A d v d=v:=by simp[upd]
theorem QhK (A:Env){d t:Nat}(v:Value)(h:t≠d):upd A d v t=A t:=by simp[upd,Kk,h]
def ev (A:Env):Operand->Value
 | .tmp t=>A t
 | .const v=>v
 | .global g=>.pointer (some ⟨g,0,none⟩)
 | .func f=>.func (.func f) #[] #[]
inductive Ex where
 | normal
 | exit (id:Nat)
 | goto (l:Nat)
 | ret
 | panic (v:Value)
def Qqf (ρ:Ren):Ex->Exit->Prop
 | .normal,.normal=>True
 | .exit i,.exit j=>i=j
 | .goto i,.goto j=>i=j
 | .ret,.ret=>True
 | .panic v,.panic ch=>∃q,V ρ v q∧ch=[{v:=q,recovered:=false}]
 | _,_=>False
structure EnvRel (ρ:Ren) (n:Nat) (A:Env) (a:Act):Prop where
 size:a.tmps.size=n
 tmps:∀t,t<n->V ρ (A t) (a.tmps.getD t undef)
theorem EnvRel.mono {ρ ρ':Ren}{n:Nat}{A:Env}{a:Act}(q:Sub ρ ρ')(h:EnvRel ρ n A a):EnvRel ρ' n A a:=
 ⟨h.size,λt aa=>(h.tmps t aa).mono q⟩
theorem EnvRel.put {ρ:Ren}{n:Nat}{A:Env}{a:Act}{d:Nat}{v q:Value}(h:EnvRel ρ n A a)(aa:d<n)(ac:V ρ v q):EnvRel ρ n (upd A d v) (a.put (some d) q):=by
 refine⟨by simp[Act.put,h.size],λt ab=>?_⟩
 by_cases e:t=d
 ·subst e;simp only[QjX,Act.put];rw[N0,RC (by rw[h.size];exact aa)];exact ac
 ·rw[QhK A v e];have:=h.tmps t ab;simp only[Act.put];rw[N0,Bn (by omega),<- N0];exact this
def QnA (n:Nat):Option Nat->Bool
 | some d=>Nat.blt d n
 | none=>true
theorem EnvRel.putO {ρ:Ren}{n:Nat}{A:Env}{a:Act}{d:Option Nat}{v q:Value}(h:EnvRel ρ n A a)(aa:QnA n d=true)(ab:V ρ v q):EnvRel ρ n (GG A d v) (a.put d q):=by
 cases d with
 | none=>exact h
 | some d=>exact h.put (by simpa[QnA] using aa) ab
def ZC:Value->Bool
 | .agg xs=>xs.all plain
 | .tuple xs=>xs.all plain
 | .iface _ v=>plain v
 | v=>plain v
theorem V.closed {ρ:Ren}{v:Value}(h:ZC v=true):V ρ v v:=by
 have q:∀xs:Array Value,xs.all plain=true->∀ (j:Nat) x x',xs[j]? = some x->xs[j]? = some x'->V ρ x x':=λxs ac j x x' aa ab=>by
  rw[aa]at ab;cases ab;exact .same x (B1.1 ac x (BB aa))
 cases v<;>first
  | exact .same _ h
  | exact .agg _ _ rfl (q _ h)
  | exact .tuple _ _ rfl (q _ h)
  | exact .iface _ _ _ (.same _ h)
def Qff (P:Program)(n:Nat):Operand->Bool
 | .tmp t=>Nat.blt t n
 | .const v=>ZC v
 | .global g=>Nat.blt g P.globals.size
 | .func _=>true
theorem EnvRel.eval {P:Program}{ρ:Ren}{H:Qa}{w:World}{n:Nat}{A:Env}{a:Act}(aa:Sim P ρ H w)(h:EnvRel ρ n A a){x:Operand}(q:Qff P n x=true):V ρ (ev A x) (a.eval x):=by
 cases x with
 | tmp t=>exact h.tmps t (by simpa[Qff] using q)
 | const v=>exact .closed q
 | global g=>
  obtain⟨i,hi,e⟩:=aa.glob g (by simpa[Qff] using q);have:=V.ptr (ρ:=ρ) g 0 i hi;rw[e]at this;exact this
 | func f=>exact .func _ _ _ _ _ rfl rfl rfl (λj x x' h=>by simp at h) (λj x x' h=>by simp at h)
structure Rd where
 r:Option Nat
 b:Nat
 d:List Deferred
def fen (z:Rd):Fence:={Fence.wide with round:=z.r}
theorem QCP (z:Rd)(m:Nat):(fen z).room m:=λd h=>by simp[fen,Fence.wide]at h
def QwO (d:Nat):Deferred:={target:=.collected d,args:=#[]}
structure Fr (z:Rd) (ρ:Ren) (H:Qa) (w:World) (a:Act):Prop where
 marks:∃ds:List Nat,a.defers=ds.map QwO++z.d∧ds.Nodup∧∀d∈ds,z.b<=d∧Hid ρ H w d (.deferred (some []))
 round:∀l,z.r=some l->a.defers=[]∧∃rc,Hid ρ H w l (.loop rc)
 base:z.b<=w.heap.size
theorem Fr.step {z:Rd}{ρ ρ':Ren}{H H':Qa}{w w':World}{a aa:Act}(h:Fr z ρ H w a)(q:St ρ H w ρ' H' w')(ac:aa.defers=a.defers):Fr z ρ' H' w' aa:=by
 obtain⟨ae,ag,ah,ab⟩:=h.marks;exact⟨⟨ae,ac.trans ag,ah,λd ad=>⟨(ab d ad).1,(ab d ad).2.step q⟩⟩,λl ai=>by
  obtain⟨e,ak,aj⟩:=h.round l ai;exact⟨ac.trans e,ak,aj.step q⟩,N8 h.base q.size⟩
structure Qek (z:Rd) (ρ:Ren) (H:Qa) (w:World) (n:Nat) (A:Env) (a:Act):Prop extends EnvRel ρ n A a where
 fr:Fr z ρ H w a
theorem Qek.step {z:Rd}{ρ ρ':Ren}{H H':Qa}{w w':World}{n:Nat}{A:Env}{a:Act}(h:Qek z ρ H w n A a)(q:St ρ H w ρ' H' w'):Qek z ρ' H' w' n A a:=
 ⟨h.toEnvRel.mono q.mono,h.fr.step q rfl⟩
theorem QyO (a:Act)(d:Option Nat)(v:Value):(a.put d v).defers=a.defers:=by cases d<;>rfl
theorem Qek.putO {z:Rd}{ρ:Ren}{H:Qa}{w:World}{n:Nat}{A:Env}{a:Act}{d:Option Nat}{v q:Value}(h:Qek z ρ H w n A a)(aa:QnA n d=true)(ab:V ρ v q):Qek z ρ H w n (GG A d v) (a.put d q):=
 ⟨h.toEnvRel.putO aa ab,h.fr.step (.refl _ _ _) (QyO a d q)⟩
section
variable (P:Program) (n:Nat)
def Qpi (z:Rd)(ρ:Ren)(H:Qa)(w:World)(Q:Ex->Env->Qa->Prop):Exit->Act->World->Prop:=
 λe q w'=>∃e' ρ' A' H',Q e' A' H'∧St ρ H w ρ' H' w'∧Sim P ρ' H' w'∧Qek z ρ' H' w' n A' q∧Qqf ρ' e' e
def AWp (c:Code)(Q:Ex->Env->Qa->Prop)(A:Env)(H:Qa):Prop:=
 ∀z ρ w a,Sim P ρ H w->Qek z ρ H w n A a->c.wpIn (fen z) 0 P (Qpi P n z ρ H w Q) a w
end
section
variable {P:Program} {n:Nat} {Q:Ex->Env->Qa->Prop} {A:Env} {H:Qa}
theorem Qpi.weaken {z:Rd}{ρ ρ1:Ren}{H1:Qa}{w aa:World}(h:St ρ H w ρ1 H1 aa){e:Exit}{q:Act}{w':World}(ab:Qpi P n z ρ1 H1 aa Q e q w'):Qpi P n z ρ H w Q e q w':=by
 obtain⟨e',ρ',A',H',ac,ad,r⟩:=ab;exact⟨e',ρ',A',H',ac,h.trans ad,r⟩
theorem AWp.mono {c:Code}{Q':Ex->Env->Qa->Prop}(h:AWp P n c Q A H)(ab:∀e A H,Q e A H->Q' e A H):AWp P n c Q' A H:=
 λz ρ w a ac aa=>FF (h z ρ w a ac aa) (λe a' w' ⟨e',ρ',A',H',q,r⟩=>⟨e',ρ',A',H',ab _ _ _ q,r⟩)
theorem QrO (h:Q .normal A H):AWp P n .skip Q A H:=
 λz ρ w a aa q=>wpIn_skip ⟨.normal,ρ,A,H,h,.refl _ _ _,aa,q,trivial⟩
theorem Qun {l:Nat}(h:Q .normal A H):AWp P n (.label l) Q A H:=
 λz ρ w a aa q=>wpIn_label ⟨.normal,ρ,A,H,h,.refl _ _ _,aa,q,trivial⟩
theorem QwP {id:Nat}(h:Q (.exit id) A H):AWp P n (.exit id) Q A H:=
 λz ρ w a aa q=>wpIn_exit ⟨.exit id,ρ,A,H,h,.refl _ _ _,aa,q,rfl⟩
theorem QwQ {l:Nat}(h:Q (.goto l) A H):AWp P n (.goto l) Q A H:=
 λz ρ w a aa q=>wpIn_goto ⟨.goto l,ρ,A,H,h,.refl _ _ _,aa,q,rfl⟩
theorem QAG (h:Q .ret A H):AWp P n .ret Q A H:=
 λz ρ w a aa q=>wpIn_ret ⟨.ret,ρ,A,H,h,.refl _ _ _,aa,q,trivial⟩
def QG1 (k:Env->Qa->Prop)(Q:Ex->Env->Qa->Prop):Ex->Env->Qa->Prop
 | .normal,A,H=>k A H
 | e,A,H=>Q e A H
theorem QnB {x y:Code}(h:AWp P n x (QG1 (AWp P n y Q) Q) A H):AWp P n (.seq x y) Q A H:=by
 intro z ρ w a hs he;refine wpIn_seq (FF (h z ρ w a hs he) ?_);rintro e a1 ag ⟨e',ρ1,A1,H1,aa,ad,ac,q,ab⟩;cases e'<;>cases e<;>simp only[Qqf]at ab
 case normal.normal=>
  exact FF (aa z ρ1 ag a1 ac q) (λe ah w' ae=>Qpi.weaken ad ae)
 all_goals exact⟨_,ρ1,A1,H1,aa,ad,ac,q,by first | trivial | exact ab⟩
theorem QnC {c:Operand}{x y:Code}{t:Bool}(ab:Qff P n c=true)(aa:ev A c=.bool t)(h:AWp P n (if t then x else y) Q A H):AWp P n (.cond c x y) Q A H:=by
 intro z ρ w a hs he;have q:=he.eval hs ab;rw[aa]at q;have hb:a.eval c=.bool t:=by
  generalize a.eval c=z at q;cases q with
  | same _ _=>rfl
 exact wpIn_cond hb (h z ρ w a hs he)
def QnD (id:Nat)(Q:Ex->Env->Qa->Prop):Ex->Env->Qa->Prop
 | .exit id',A,H=>if id'=id then Q .normal A H else Q (.exit id') A H
 | e,A,H=>Q e A H
theorem Qeg {id:Nat}{c:Code}(h:AWp P n c (QnD id Q) A H):AWp P n (.block id c) Q A H:=by
 intro z ρ w a hs he;refine wpIn_block (FF (h z ρ w a hs he) ?_);rintro e a1 ae ⟨e',ρ1,A1,H1,q,ad,ac,aa,ab⟩;cases e'<;>cases e<;>simp only[Qqf]at ab
 case exit.exit i j=>
  subst ab;simp only[Exit.inBlock,QnD]at *;split at q
  ·rename_i e;rw[Lc e];exact⟨.normal,ρ1,A1,H1,q,ad,ac,aa,trivial⟩
  ·rename_i e;rw[Le e];exact⟨.exit i,ρ1,A1,H1,q,ad,ac,aa,rfl⟩
 all_goals exact⟨_,ρ1,A1,H1,q,ad,ac,aa,by first | trivial | exact ab⟩
end
def Qqg (ρ:Ren)(o:Oper)(A:Env)(a:Act):Prop:=∀x∈o.op.operands,V ρ (ev A x) (a.eval x)
section
variable (P:Program) (n:Nat)
def Qjo (o:Oper):Bool:=QnA n o.dst&&o.op.operands.all (Qff P n)
def QD (o:Oper)(A:Env)(H:Qa)(v:Value)(H':Qa):Prop:=
 ∀ρ w a,Sim P ρ H w->Qqg ρ o A a->∀ (K:Act->World->Prop) (Q:Exit->Act->World->Prop),
  (∀q ρ' w',V ρ' v q->St ρ H w ρ' H' w'->Sim P ρ' H' w'->K (a.put o.dst q) w')->∀z,o.wpIn (fen z) 0 P a w K Q
def Qmy (ops:Array Oper)(l:List Oper)(Q:Ex->Env->Qa->Prop)(A:Env)(H:Qa):Prop:=
 ∀z ρ w a,Sim P ρ H w->Qek z ρ H w n A a->wpListIn (fen z) 0 P ops (Qpi P n z ρ H w Q) l a w
end
theorem QjY {P:Program}{o:Oper}{a:Act}{w w':World}{x:Next}(h:(execOp a.eval o).run P w=.ok x w')(ac:∀d,x≠.defer d)(r:Option Nat):(o.semAt r a.eval).run P w=.ok x w':=by
 by_cases aa:∀c,o.op≠.defer c
 ·rw[Oper.semAt_eq _ _ _ aa];exact h
 ·exfalso;obtain⟨c,q⟩:=Classical.not_forall.1 aa;have q:o.op=.defer c:=Classical.not_not.1 q;simp only[execOp,q,LW]at h;cases ab:(resolve a.eval c o.type).run P w with
  | ok d ad=>
   rw[ab]at h;simp only[Lz,Nc,Result.ok.injEq]at h;exact ac d h.1.symm
  | halt y ad=>rw[ab]at h;simp[Result.andThen]at h
section
variable {P:Program} {n:Nat} {Q:Ex->Env->Qa->Prop} {A:Env} {H:Qa}
theorem QD.of_run {o:Oper}{v:Value}{H':Qa}
  (h:∀ρ w a,Sim P ρ H w->Qqg ρ o A a->∃q ρ' w',(execOp a.eval o).run P w=.ok (.value q) w'∧V ρ' v q∧St ρ H w ρ' H' w'∧Sim P ρ' H' w'):QD P o A H v H':=by
 intro ρ w a hs he K Q hk;obtain⟨q,ρ',w',aa,ad,ac,ab⟩:=h ρ w a hs he;intro z;refine⟨λ_ _=>trivial,?_⟩;rw[QjY aa (by simp) _];exact hk q ρ' w' ad ac ab
theorem QD.of_skip {o:Oper}{H':Qa}
  (h:∀ρ w a,Sim P ρ H w->Qqg ρ o A a->∃ρ' w',(execOp a.eval o).run P w=.ok .skip w'∧St ρ H w ρ' H' w'∧Sim P ρ' H' w'):QD P o A H undef H':=by
 intro ρ w a hs he K Q hk;obtain⟨ρ',w',q,ab,aa⟩:=h ρ w a hs he;intro z;refine⟨λ_ _=>trivial,?_⟩;rw[QjY q (by simp) _];exact hk undef ρ' w' (.closed (by simp[undef,ZC])) ab aa
theorem QD.pure_ {o:Oper}{v:Value}
  (h:∀ρ w a,Sim P ρ H w->Qqg ρ o A a->∃q,(execOp a.eval o).run P w=.ok (.value q) w∧V ρ v q):QD P o A H v H:=
 .of_run λρ w a aa ab=>by
  obtain⟨q,ac,ad⟩:=h ρ w a aa ab;exact⟨q,ρ,w,ac,ad,.refl _ _ _,aa⟩
theorem EnvRel.op {ρ:Ren}{w:World}{a:Act}(ab:Sim P ρ H w)(aa:EnvRel ρ n A a){o:Oper}(q:Qjo P n o=true):Qqg ρ o A a:=λx ac=>by
 simp only[Qjo,Lm]at q;exact aa.eval ab (B1.1 q.2 x ac)
theorem QjZ {o:Oper}(q:Qjo P n o=true):QnA n o.dst=true:=by simp only[Qjo,Lm]at q;exact q.1
theorem QwR {ops:Array Oper}(h:Q .normal A H):Qmy P n ops [] Q A H:=
 λz ρ w a aa q=>⟨.normal,ρ,A,H,h,.refl _ _ _,aa,q,trivial⟩
theorem QwS {z:Rd}{o:Oper}{a:Act}{K K':Act->World->Prop}{Q1 Q2:Exit->Act->World->Prop}(ab:∀a w,K a w->K' a w)(aa:∀e a w,Q1 e a w->Q2 e a w){r:Result Next}
  (h:o.uponIn (fen z) 0 P a K Q1 r):o.uponIn (fen z) 0 P a K' Q2 r:=by
 cases r with
 | ok ah ai=>
  cases ah<;>simp only[Oper.uponIn]at h ⊢<;>first
   | exact ab _ _ h
   | exact⟨h.1,CallsIn.mono h.2 (λe ae q=>by
     cases e with
     | returned v=>exact ab _ _ q
     | panicked ag=>exact aa _ _ _ q
     | outgrown=>obtain⟨a0,ad,ac⟩:=q;exact⟨a0,ad,aa _ _ _ ac⟩)⟩
   | exact⟨h.1,RowsIn.mono h.2 (λv ae q=>ab _ _ q)⟩
   | exact⟨h.1,RoundIn.mono h.2 (λe ae q=>by
     cases e with
     | returned v=>exact ab _ _ q
     | panicked ag=>exact aa _ _ _ q
     | outgrown=>obtain⟨a0,ad,ac⟩:=q;exact⟨a0,ad,aa _ _ _ ac⟩)⟩
 | halt x ai=>cases x<;>simp only[Oper.uponIn]at h ⊢<;>exact aa _ _ _ h
theorem Qct {z:Rd}{ops:Array Oper}{Q1 Q2:Exit->Act->World->Prop}(q:∀e a w,Q1 e a w->Q2 e a w):∀ (l:List Oper) (a:Act) (w:World),wpListIn (fen z) 0 P ops Q1 l a w->wpListIn (fen z) 0 P ops Q2 l a w
 | [],a,w,h=>q _ _ _ h
 | o::rest,a,w,h=>by
  unfold wpListIn at h ⊢;split at h
  ·rename_i aa;rw[Lc aa];exact⟨h.1,QwS (Qct q rest) q h.2⟩
  ·rename_i aa;rw[Le aa];exact⟨h.1,Qct q rest _ _ h.2⟩
theorem Qqh {z:Rd}{ops:Array Oper}{q:List Oper}{ρ ρ':Ren}{H H':Qa}{w w':World}{a:Act}{aa:World}(ac:St ρ H w ρ' H' w')
  (h:wpListIn (fen z) 0 P ops (Qpi P n z ρ' H' w' Q) q a aa):wpListIn (fen z) 0 P ops (Qpi P n z ρ H w Q) q a aa:=
 Qct (λe ad ae ab=>Qpi.weaken ac ab) q a aa h
theorem Quo {ops:Array Oper}{o:Oper}{ab:List Oper}{v:Value}{H':Qa}(ad:o.guard=none)(ae:QD P o A H v H')(q:Qjo P n o=true)
  (h:Qmy P n ops ab Q (GG A o.dst v) H'):Qmy P n ops (o::ab) Q A H:=by
 intro z ρ w a hs he;refine wpListIn_plain ad λK ac=>?_;refine ae ρ w a hs (he.op hs q) K _ (λai ρ' w' ah aa ag=>?_) z;have:=h z ρ' w' (a.put o.dst ai) ag ((he.step aa).putO (QjZ q) ah);exact ac _ _ (Qqh aa this)
def Qcu (ops:Array Oper)(j:Nat):Option Nat:=(ops[j]?).bind (·.dst)
theorem QrP {id:Nat}{l:List Oper}(h:Qmy P n l.toArray l Q A H):AWp P n (.region id l.toArray false) Q A H:=
 λz ρ w a aa q=>wpIn_region_lit (h z ρ w a aa q)
/-! ### New blocks -/
def ext (ρ:Ren)(id:Nat)(i:Kj):Ren:=λx=>if x=id then some i else ρ x
theorem Xa (ρ:Ren)(id:Nat)(i:Kj):ext ρ id i id=some i:=by simp[ext]
theorem Ji (ρ:Ren){id x:Nat}(i:Kj)(h:x≠id):ext ρ id i x=ρ x:=by simp[ext,h]
theorem Qfg {ρ:Ren}{id:Nat}(i:Kj)(h:ρ id=none):Sub ρ (ext ρ id i):=λx j q=>by
 by_cases e:x=id
 ·subst e;rw[h]at q;cases q
 ·rw[Ji ρ i e];exact q
theorem Sim.none_next {ρ:Ren}{w:World}(q:Sim P ρ H w):ρ H.next=none:=by
 cases h:ρ H.next with
 | none=>rfl
 | some i=>have:=q.dom _ _ h;omega
theorem Qj0 (w:World)(o:Obj){b:Nat}(h:b<w.heap.size):(w.alloc o).heap[b]? = w.heap[b]? := by
 simp only[World.alloc,Array.getElem?_push];rw[Le (by omega)]
theorem Sim.push {ρ:Ren}{w:World}(aa:Sim P ρ H w)(o:Obj)(b:Blk)(i:Kj)(hi:i.at_.block=w.heap.size)
  (hb:Xg P (ext ρ H.next i) i (w.alloc o) b):St ρ H w (ext ρ H.next i) (H.push b) (w.alloc o)∧Sim P (ext ρ H.next i) (H.push b) (w.alloc o):=by
 have am:=aa.none_next;have ah:=Qfg i am;have al:∀id j,ρ id=some j->id≠H.next:=λid j h e=>by rw[e,am]at h;cases h
 refine⟨⟨ah,by simp,λid j h h'=>?_,λid j ag b' h ad ab q=>?_,λid j h h'=>?_,rfl,rfl,rfl,by simp,λax au _=>Qj0 w o au⟩,⟨λid j h=>?_,λid bl j h h'=>?_,λai ae ag aj ao aq ad ab q ac ar ak=>?_,λg av=>?_⟩⟩
 ·rw[Qc,Le (al id j h)];exact h'
 ·rw[Qc,Le (al id j h),ad]at q;cases q;exact ab
 ·by_cases e:id=H.next
  ·subst e;rw[Xa]at h;cases h;exact⟨Lb _,.inl (by rw[hi];exact Lb _)⟩
  ·rw[Ji ρ i e,h']at h;cases h
 ·by_cases e:id=H.next
  ·subst e;simp
  ·rw[Ji ρ i e]at h;have:=aa.dom _ _ h;simp;omega
 ·by_cases e:id=H.next
  ·subst e;rw[Xa]at h';cases h';rw[Qc,Lc rfl]at h;cases h;exact hb
  ·rw[Ji ρ i e]at h';rw[Qc,Le e]at h;have an:=aa.live id bl j h h';exact an.mono ah (Qj0 w o an.lt)
 ·by_cases e1:ai=H.next
  ·by_cases e2:ae=H.next
   ·exact absurd (e1.trans e2.symm) ak
   ·rw[Ji ρ i e2]at ac;rw[Qc,Le e2]at ab;subst e1;rw[Xa]at q;cases q;have:=(aa.live ae aj aq ab ac).lt;omega
  ·rw[Ji ρ i e1]at q;rw[Qc,Le e1]at ad
   by_cases e2:ae=H.next
   ·subst e2;rw[Xa]at ac;cases ac;have:=(aa.live ai ag ao ad q).lt;omega
   ·rw[Ji ρ i e2]at ac;rw[Qc,Le e2]at ab;exact aa.sep ai ae ag aj ao aq ad ab q ac ar ak
 ·obtain⟨j,aw,e⟩:=aa.glob g av;exact⟨j,ah _ _ aw,e⟩
theorem Xg.new {ρ:Ren}{w:World}{c:List Value}{c':Array Value}{e:TypeId}(ab:VL ρ c c'.toList):
  Xg P ρ ⟨⟨w.heap.size,0,none⟩,c.length,P.cellsOf e⟩ (w.alloc (.cells c' e)) (.cells c e false):=by
 have ac:=ab.1;refine⟨c',(0,0),heap_alloc_new w _,⟨rfl,rfl⟩,by simpa using ac,Lb _,λj v ad=>?_,λo _ _=>by simp,λo v q aa=>?_,rfl⟩
 ·obtain⟨ae,q,aa⟩:=ab.get ad;exact⟨ae,by simpa using q,aa⟩
 ·have:=(Nj.1 aa).1;simp at q ac;omega
theorem Sim.pushCells {ρ:Ren}{w:World}(q:Sim P ρ H w){c:List Value}{c':Array Value}(e:TypeId)(aa:VL ρ c c'.toList):
  let i:Kj:=⟨⟨w.heap.size,0,none⟩,c.length,P.cellsOf e⟩
  St ρ H w (ext ρ H.next i) (H.push (.cells c e false)) (w.alloc (.cells c' e))∧Sim P (ext ρ H.next i) (H.push (.cells c e false)) (w.alloc (.cells c' e)):=
 q.push _ _ _ rfl (Xg.new (aa.mono (Qfg _ q.none_next)))
theorem V.cells {ρ:Ren}{v ab:Value}(h:V ρ v ab):VL ρ v.cells.toList ab.cells.toList:=by
 have one:∀ {x x':Value},V ρ x x'->VL ρ [x] [x']:=λh=>.cons h (.nil ρ);cases h with
 | same v ak=>cases v<;>simp[plain]at ak<;>exact one (.same _ (by simp[plain, *]))
 | agg xs ac q aa=>exact⟨by simpa[Value.cells] using q,λj x x' e e'=>aa j x x' (by simpa[Value.cells] using e) (by simpa[Value.cells] using e')⟩
 | ptr id off i h=>exact one (.ptr id off i h)
 | slice id off len cap ah i ag h q aa ai ad ae=>exact one (.slice id off len cap ah i ag h q aa ai ad ae)
 | map id i h=>exact one (.map id i h)
 | func fn xs ys ac al aj q aa ad ae=>exact one (.func fn xs ys ac al aj q aa ad ae)
 | yield l i h=>exact one (.yield l i h)
 | iface t v ab h=>exact one (.iface t v ab h)
 | tuple xs ac q aa=>exact one (.tuple xs ac q aa)
theorem V.oneCell {ρ:Ren}{v q:Value}(h:V ρ v q):q.oneCell'=v.oneCell':=by cases h<;>rfl
theorem VL.closed {ρ:Ren}{l:List Value}(h:l.all plain=true):VL ρ l l:=
 ⟨rfl,λj x x' a b=>by rw[a]at b;cases b;exact .same x (Li.1 h x (Ln a))⟩
/-! ### Loads -/
def GH:TypeDesc->Bool
 | .struct _ | .array _ _=>true
 | _=>false
def ZD (P:Program)(t:TypeId)(a:Addr)(H:Qa):Option Value:=
 match P.underlying t,P.info? t,H.get a.block with
 | some d,some inf,some (.cells c _ _)=>
  if GH d then(if a.off+inf.size<=c.length then some (.agg ((c.drop a.off).take inf.size).toArray) else none)
  else c[a.off]?
 | _,_,_=>none
theorem Xg.cellAt {ρ:Ren}{i:Kj}{w:World}{c:List Value}{e:TypeId}{ro:Bool}(h:Xg P ρ i w (.cells c e ro)){j:Nat}{v:Value}(aa:c[j]? = some v):
  ∃q,w.cell? (i.at_.add j)=some q∧V ρ v q:=by
 cases ro with
 | true=>exact h.2 j v aa
 | false=>
  obtain⟨ab,ac,ah,ad,aj,ak,ae,_⟩:=h;obtain⟨q,ag,ai⟩:=ae j v aa;refine⟨q,?_,ai⟩;rw[Qnz ad.1,cell_of_row w _ _ ab e ac ah];exact ag
theorem Xg.cellsAt {ρ:Ren}{i:Kj}{w:World}{c:List Value}{e:TypeId}{ro:Bool}(h:Xg P ρ i w (.cells c e ro))(off k:Nat)(aj:off+k<=c.length):
  ∃cs:List Value,cs.length=k∧VL ρ ((c.drop off).take k) cs∧(∀ (j:Nat) v,cs[j]? = some v->w.cell? ((i.at_.add off).add j)=some v):=by
 induction k generalizing off with
 | zero=>exact⟨[],rfl,by simpa using VL.nil ρ,λj v h=>by simp at h⟩
 | succ k ah=>
  have aa:off<c.length:=by omega
  obtain⟨cs,ae,ag,ad⟩:=ah (off+1) (by omega);obtain⟨ai,ab,ac⟩:=h.cellAt (La aa);refine⟨ai::cs,by simp[ae],?_,λj v q=>?_⟩
  ·rw[Nh aa,List.take_succ_cons];exact .cons ac ag
  ·cases j with
   | zero=>simp at q;subst q;rw[show(i.at_.add off).add 0=i.at_.add off by rw[Gj];rfl];exact ab
   | succ j=>
    have:=ad j v (by simpa using q);rw[Gj]at this ⊢;rw[show off+(j+1)=off+1+j by omega];exact this
theorem Qpj {ρ:Ren}{w:World}{t:TypeId}{id off:Nat}{v:Value}{i:Kj}{c:List Value}{e:TypeId}{ro:Bool}(hi:ρ id=some i)(aj:H.get id=some (.cells c e ro))(hb:Xg P ρ i w (.cells c e ro))
  (q:ZD P t ⟨id,off,none⟩ H=some v):∃ac,(loadVar t (i.at_.add off)).run P w=.ok ac w∧V ρ v ac:=by
 unfold ZD at q;cases ab:P.underlying t with
 | none=>simp[ab]at q
 | some d=>
  cases ag:P.info? t with
  | none=>simp[ab,ag]at q
  | some al=>
   simp only[ab,ag,aj]at q;have ah:(isAgg t).run P w=.ok (GH d) w:=by
    simp only[isAgg,LW,LZ ab,Lz];cases d<;>rfl
   split at q
   ·rename_i ae;split at q
    ·rename_i ak;obtain⟨cs,ad,aa,ai⟩:=hb.cellsAt off al.size ak;cases q;refine⟨.agg cs.toArray,?_,.agg _ _ (by simpa using aa.1) (λj x x' a b=>aa.2 j x x' (by simpa using a) (by simpa using b))⟩;have:=run_loadCells_list (P:=P) w (i.at_.add off) cs ai;rw[ad]at this;simp only[loadVar,LW,ah,Lz,ae,N3,sizeOf,typeInfo,DJ,ag,Nc,this]
    ·cases q
   ·rename_i ae;obtain⟨ac,ad,aa⟩:=hb.cellAt q;refine⟨ac,?_,aa⟩;simp only[loadVar,LW,ah,Lz,ae,LV,LN,run_load,ad]
end
section
variable {P:Program} {n:Nat} {Q:Ex->Env->Qa->Prop} {A:Env} {H:Qa}
structure Qcv (w w':World) (g:Nat):Prop where
 other:∀b,b≠g->w'.heap[b]? = w.heap[b]?
 size:w'.heap.size=w.heap.size
 os:w'.os=w.os
 tape:w'.tape=w.tape
 output:w'.output=w.output
theorem Qcv.refl (w:World)(g:Nat):Qcv w w g:=⟨λ_ _=>rfl,rfl,rfl,rfl,rfl⟩
theorem Qcv.trans {w aa ab:World}{g:Nat}(a:Qcv w aa g)(b:Qcv aa ab g):Qcv w ab g:=
 ⟨λk q=>(b.other k q).trans (a.other k q),b.size.trans a.size,b.os.trans a.os,b.tape.trans a.tape,b.output.trans a.output⟩
theorem Sim.setBlk {ρ:Ren}{w w':World}(ac:Sim P ρ H w){id:Nat}{i:Kj}{b b':Blk}(hi:ρ id=some i)(ad:H.get id=some b)(ah:b.ro=false)
  (ae:Qcv w w' i.at_.block) (hb:Xg P ρ i w' b'):St ρ H w ρ (H.set id b') w'∧Sim P ρ (H.set id b') w':=by
 refine⟨⟨.refl ρ,Lb _,λx j h h'=>?_,λx j ak al h aa q ab=>?_,λx j h h'=>(by rw[h']at h;cases h),ae.os,ae.tape,ae.output,(by rw[ae.size];exact Lb _),λk au ar=>?_⟩,⟨λx j h=>ac.dom x j h,λx bl j h h'=>?_,λai aj ak al an ao aa q ab am aq ag=>?_,ac.glob⟩⟩
 ·rw[Qn];by_cases e:x=id
  ·subst e;rw[ad]at h';cases h'
  ·rw[Le e];exact h'
 ·rw[Qn]at ab
  by_cases e:x=id
  ·subst e;rw[ad]at aa;cases aa;rw[ah]at q;cases q
  ·rw[Le e,aa]at ab;cases ab;exact q
 ·exact ae.other k (λe=>ar id i b hi ad ah e.symm)
 ·rw[Qn]at h
  by_cases e:x=id
  ·subst e;rw[Lc rfl]at h;cases h;rw[hi]at h';cases h';exact hb
  ·rw[Le e]at h;refine(ac.live x bl j h h').mono (.refl ρ) (ae.other _ ?_);exact λe'=>ac.sep id x b bl i j ad h hi h' ah (λh=>e h.symm) e'.symm
 ·rw[Qn]at aa q
  by_cases e1:ai=id
  ·subst e1;rw[Le (λh=>ag h.symm)]at q;exact ac.sep ai aj b al an ao ad q ab am ah ag
  ·rw[Le e1]at aa
   by_cases e2:aj=id
   ·subst e2;exact ac.sep ai aj ak b an ao aa ad ab am aq ag
   ·rw[Le e2]at q;exact ac.sep ai aj ak al an ao aa q ab am aq ag
def splice (c:List Value)(p:Nat)(q:List Value):List Value:=c.take p++(q++c.drop (p+q.length))
theorem Ql1 {c:List Value}{p:Nat}{q:List Value}(h:p+q.length<=c.length):(splice c p q).length=c.length:=by
 simp[splice];omega
theorem Qmz {c:List Value}{p:Nat}{q:List Value}(h:p+q.length<=c.length)(o:Nat):(splice c p q)[o]? = if p<=o∧o<p+q.length then q[o - p]? else c[o]? := by
 unfold splice
 by_cases aa:o<p
 ·rw[LY (by simp;omega),Le (by omega),Nl,Lc aa]
 ·rw[LR (by simp;omega)];simp only[Sb,BC (show p<=c.length by omega)]
  by_cases ab:o<p+q.length
  ·rw[LY (by omega),Lc ⟨by omega,ab⟩]
  ·rw[LR (by omega),Le (by omega),Nk];congr 1;omega
theorem Qty (w:World)(g o:Nat)(q:Array Value)(e:TypeId)(aa:Nat×Nat)(v:Value)(ab:w.heap[g]? = some (.cells q e aa)):
  (w.setCell ⟨g,o,none⟩ v).heap[g]? = some (.cells (q.setIfInBounds o v) e aa)∧Qcv w (w.setCell ⟨g,o,none⟩ v) g:=by
 refine⟨by simp[World.setCell,RY,ab],⟨λb hb=>?_,by simp,rfl,rfl,rfl⟩⟩;simp only[World.setCell,RY];rw[Le (λe=>hb e.symm)]
theorem Qel (P:Program)(g o:Nat)(e:TypeId)(aa:Nat×Nat):∀ (ab:List Value) (i:Nat) (q:Array Value) (w:World),w.heap[g]? = some (.cells q e aa)->o+i+ab.length<=q.size->
  (∀k,o+i<=k->k<o+i+ab.length->¬ (aa.1<=k∧k<aa.2))->(∀v∈ab,v.oneCell'=true)->
  ∃w' ac,(storeCells ⟨g,o,none⟩ ab i).run P w=.ok () w'∧w'.heap[g]? = some (.cells ac e aa)∧Qcv w w' g∧ac.size=q.size∧
   ∀k,ac[k]? = if o+i<=k∧k<o+i+ab.length then ab[k - (o+i)]? else q[k]?
 | [],i,q,w,hg,_,_,_=>⟨w,q,rfl,hg,.refl _ _,rfl,λk=>by rw[Le (by simp)]⟩
 | v::rest,i,q,w,hg,hl,hf,h1=>by
  simp only[Lo]at hl hf;have ag:o+i<q.size:=by omega
  have ah:w.cell? ⟨g,o+i,none⟩=some q[o+i]:=by
   rw[cell_of_row w g (o+i) q e aa hg,Ng ag]
  have ai:w.frozen? ⟨g,o+i,none⟩=false:=by
   simp only[World.frozen?,hg];have:=hf (o+i) (by omega) (by omega);simp only[BG,NY]
   by_cases ad:aa.1<=o+i
   ·right;exact λaw=>this ⟨ad,aw⟩
   ·left;exact ad
  have ar:(store ((⟨g,o,none⟩:Addr).add i) v).run P w=.ok () (w.setCell ⟨g,o+i,none⟩ v):=by
   rw[Qfe,run_store P w _ v _ (h1 v (by simp)),ah];simp[ai]
  obtain⟨ak,an⟩:=Qty w g (o+i) q e aa v hg;obtain⟨w',ac,aq,aj,ao,au,al⟩:=Qel P g o e aa rest (i+1) (q.setIfInBounds (o+i) v) (w.setCell ⟨g,o+i,none⟩ v) ak (by simp;omega)
   (λk ax ay=>hf k (by omega) (by omega)) (λu av=>h1 u (by simp[av]))
  refine⟨w',ac,?_,aj,an.trans ao,by simpa using au,λk=>?_⟩
  ·simp only[storeCells,LW,ar,Lz];exact aq
  ·rw[al];simp only[Lo]
   by_cases am:k=o+i
   ·subst am;rw[Le (by omega),Lc ⟨Lb _,by omega⟩];simp[ag]
   ·by_cases ae:o+(i+1)<=k∧k<o+(i+1)+rest.length
    ·rw[Lc ae,Lc ⟨by omega,by omega⟩];rw[show k - (o+i)=(k - (o+(i+1)))+1 by omega];simp
    ·rw[Le ae,Le (by omega)];rw[Bn (by omega)]
theorem Xg.storeList {ρ:Ren}{i:Kj}{w:World}{c:List Value}{e:TypeId}(hb:Xg P ρ i w (.cells c e false)){off:Nat}{aa ab:List Value}(ae:VL ρ aa ab)(ad:off+aa.length<=c.length)
  (au:∀v∈aa,v.oneCell'=true):∃w',(storeCells (i.at_.add off) ab).run P w=.ok () w'∧Qcv w w' i.at_.block∧Xg P ρ i w' (.cells (splice c off aa) e false):=by
 obtain⟨aq,ag,aA,an,aG,ax,aw,ah,aF,ay⟩:=hb;have aB:=ae.1;have av:∀v∈ab,v.oneCell'=true:=λaI aH=>by
  obtain⟨j,q⟩:=BP aH;have aj:j<aa.length:=by rw[aB];exact(Lk.1 q).1
  have:=ae.2 j _ aI (La aj) q;rw[this.oneCell];exact au _ (Nb aj)
 rw[Qnz an.1];obtain⟨w',ar,aE,az,aD,ao,ac⟩:=Qel P i.at_.block (i.at_.off+off) e ag ab 0 aq w aA (by omega) (λk aJ aK=>ah k (by omega) (by omega)) av;simp only[N9]at ac;refine⟨w',aE,aD,ar,ag,az,an,by rw[ao];exact aG,by rw[Ql1 ad];exact ax,λj v q=>?_,λo aC al=>ah o aC (by rw[ao]at al;exact al),λo v ak am=>?_,ay⟩
 ·rw[Qmz ad]at q;rw[ac]
  by_cases ai:off<=j∧j<off+aa.length
  ·rw[Lc ai]at q;rw[Lc ⟨by omega,by omega⟩];rw[show i.at_.off+j - (i.at_.off+off)=j - off by omega];exact ae.get q
  ·rw[Le ai]at q;rw[Le (by omega)];exact aw j v q
 ·rw[Ql1 ad]at ak;rw[ac,Le (by omega)]at am;exact aF o v ak am
def QmA (P:Program)(t:TypeId)(a:Addr)(v:Value)(H:Qa):Option Qa:=
 match P.info? t,H.get a.block with
 | some inf,some (.cells c e false)=>
  if v.cells.toList.length=inf.size∧a.off+v.cells.toList.length<=c.length∧v.cells.toList.all (·.oneCell')=true then some (H.set a.block (.cells (splice c a.off v.cells.toList) e false)) else none
 | _,_=>none
theorem QyP {ρ:Ren}{w:World}(ad:Sim P ρ H w){t:TypeId}{id off:Nat}{v ab:Value}{i:Kj}{H':Qa}(hi:ρ id=some i)(aq:V ρ v ab)(q:QmA P t ⟨id,off,none⟩ v H=some H'):
  ∃w',(storeVar t (i.at_.add off) ab).run P w=.ok () w'∧St ρ H w ρ H' w'∧Sim P ρ H' w':=by
 unfold QmA at q;cases aa:P.info? t with
 | none=>simp[aa]at q
 | some ar=>
  simp only[aa]at q;split at q
  ·rename_i au c e ak ac;cases ak;split at q
   ·rename_i ag;obtain⟨ah,ai,aj⟩:=ag;cases q;have ae:=aq.cells;obtain⟨w',am,al,hb⟩:=(ad.live id _ i ac hi).storeList ae ai (λu ao=>Li.1 aj u ao);refine⟨w',?_,ad.setBlk hi ac rfl al hb⟩;have an:ab.cells.size=ar.size:=by have:=ae.1;simp at this ah;omega
    simp only[storeVar,LW,sizeOf,typeInfo,DJ,Lz,aa,Nc,an,Da,BE,LN];exact am
   ·cases q
  ·cases q
end
theorem V.plain_eq {ρ:Ren}{v z:Value}(h:V ρ v z)(q:plain v=true):z=v:=by
 cases h<;>first | rfl | (simp[plain]at q)
section
variable {P:Program} {n:Nat} {A:Env} {H:Qa} {d:Option Nat} {ty:TypeId} {pos:String} {af:Array Edge} {g:Option (Nat×Bool)}
theorem Gy {ρ:Ren}{a:Act}{x:Operand}{v:Value}(h:V ρ (ev A x) (a.eval x))(q:ev A x=v)(aa:plain v=true):a.eval x=v:=by
 rw[q]at h;exact h.plain_eq aa
theorem QEH {x:Operand}:QD P ⟨d,.move x,ty,pos,af,g⟩ A H (ev A x) H:=
 .pure_ λρ w a aa q=>⟨a.eval x,by simp only[execOp,Nc],q x (by simp[Op.operands])⟩
theorem QBA {x:Operand}:QD P ⟨d,.assign x,ty,pos,af,g⟩ A H (ev A x) H:=
 .pure_ λρ w a aa q=>⟨a.eval x,by simp only[execOp,Nc],q x (by simp[Op.operands])⟩
theorem QEI {c x y:Operand}{t:Bool}(aa:ev A c=.bool t):
  QD P ⟨d,.pick c x y,ty,pos,af,g⟩ A H (if t then ev A x else ev A y) H:=
 .pure_ λρ w a ab q=>by
  have e:=Gy (q c (by simp[Op.operands])) aa rfl;refine⟨if t then a.eval x else a.eval y,?_,?_⟩
  ·simp only[execOp,e,asBool,pure_bind,Nc]
  ·cases t
   ·exact q y (by simp[Op.operands])
   ·exact q x (by simp[Op.operands])
def QhL:Value->Bool
 | .pointer none | .nilIface | .nilFunc=>false
 | .func (.method _) _ _=>false
 | _=>true
theorem QwT {x:Operand}(aa:QhL (ev A x)=true):QD P ⟨d,.nilCheck x,ty,pos,af,g⟩ A H (ev A x) H:=
 .pure_ λρ w a aj ab=>by
  have q:=ab x (by simp[Op.operands]);refine⟨a.eval x,?_,q⟩;simp only[execOp];generalize ev A x=v at q aa;generalize a.eval x=z at q;cases q with
  | same v ac=>cases v<;>simp[plain,QhL]at ac aa<;>first | rfl | (rename_i p;cases p<;>simp_all)
  | func fn xs ys ak al ad ae ag ah ai=>cases fn<;>simp[QhL]at aa<;>rfl
  | _=>rfl
/-! ### Integers -/
def Jj (op:BinOp)(k:IntKind)(a b:Int):Option Value:=
 match op with
 | .add=>some (.int k (k.wrap (a+b)))
 | .sub=>some (.int k (k.wrap (a - b)))
 | .mul=>some (.int k (k.wrap (a * b)))
 | .quo=>if b=0 then none else some (.int k (k.wrap (a.tdiv b)))
 | .rem=>if b=0 then none else some (.int k (a.tmod b))
 | .and=>some (.int k (k.wrap (BitVec.ofInt k.bits a &&& BitVec.ofInt k.bits b).toNat))
 | .or=>some (.int k (k.wrap (BitVec.ofInt k.bits a ||| BitVec.ofInt k.bits b).toNat))
 | .xor=>some (.int k (k.wrap (BitVec.ofInt k.bits a ^^^ BitVec.ofInt k.bits b).toNat))
 | .andNot=>some (.int k (k.wrap (BitVec.ofInt k.bits a &&& ~~~BitVec.ofInt k.bits b).toNat))
 | .eql=>some (.bool (a==b))
 | .neq=>some (.bool (a != b))
 | .lss=>some (.bool (decide (a<b)))
 | .leq=>some (.bool (decide (a<=b)))
 | .gtr=>some (.bool (decide (a>b)))
 | .geq=>some (.bool (decide (a>=b)))
 | _=>none
theorem QyQ {op:BinOp}{k:IntKind}{a b:Int}{v:Value}(t:TypeId)(w:World)(h:Jj op k a b=some v):(binOp op t (.int k a) (.int k b)).run P w=.ok v w∧plain v=true:=by
  cases op<;>simp only[Jj,reduceCtorEq]at h<;>simp only[binOp,Da,BE,LN]<;>first
    | (cases h;exact⟨rfl,rfl⟩)
    | (split at h
       · cases h
       · cases h;rename_i hb;simp only[Op.intDiv,hb,LN];exact⟨rfl,rfl⟩)
theorem QiK (op:BinOp)(t:TypeId)(x y:Operand)(k q:IntKind)(a b:Int)(w:World):(eqGuard op t x y (.int k a) (.int q b)).run P w=.ok () w:=by
 cases op<;>rfl
theorem QG2 {op:BinOp}{t ae:TypeId}{x y:Operand}{k:IntKind}{a b:Int}{v:Value}(aa:ev A x=.int k a)(ab:ev A y=.int k b)(h:Jj op k a b=some v):
  QD P ⟨d,.binOp op t x y ae,ty,pos,af,g⟩ A H v H:=
 .pure_ λρ w s ag q=>by
  have e1:=Gy (q x (by simp[Op.operands])) aa rfl;have e2:=Gy (q y (by simp[Op.operands])) ab rfl;obtain⟨ac,ad⟩:=QyQ (P:=P) t w h;refine⟨v,?_,.same v ad⟩;simp only[execOp,e1,e2,LW,QiK,Lz,ac,Nc]
def QcY (op:BinOp)(k:IntKind)(a b:Int):Option Value:=
 if b<0 then none else
 match op with
 | .shl=>some (.int k (k.wrap (a * 2 ^ (min b.toNat k.bits))))
 | .shr=>some (.int k (a.fdiv (2 ^ (min b.toNat k.bits))))
 | _=>none
theorem QwU {op:BinOp}{t ae:TypeId}{x y:Operand}{k ab:IntKind}{a b:Int}{v:Value}(ac:ev A x=.int k a)(ad:ev A y=.int ab b)(h:QcY op k a b=some v):
  QD P ⟨d,.binOp op t x y ae,ty,pos,af,g⟩ A H v H:=
 .pure_ λρ w s ag q=>by
  have e1:=Gy (q x (by simp[Op.operands])) ac rfl;have e2:=Gy (q y (by simp[Op.operands])) ad rfl;have aa:(binOp op t (.int k a) (.int ab b)).run P w=.ok v w∧plain v=true:=by
   unfold QcY at h;split at h
   ·cases h
   ·rename_i hb;cases op<;>simp only[reduceCtorEq]at h<;>(cases h;simp only[binOp,Op.shift,hb,LN];exact⟨rfl,rfl⟩)
  refine⟨v,?_,.same v aa.2⟩;simp only[execOp,e1,e2,LW,QiK,Lz,aa.1,Nc]
def bl (s:ByteArray):List UInt8:=s.data.toList
def mkS (l:List UInt8):ByteArray:=⟨⟨l⟩⟩
@[simp] theorem QCQ (l:List UInt8):bl (mkS l)=l:=rfl
@[simp] theorem Qvf (s:ByteArray):mkS (bl s)=s:=rfl
theorem QnE (s:ByteArray):(bl s).length=s.size:=rfl
def QmB (op:BinOp)(x y:List UInt8):Option Value:=
 match op with
 | .add=>if x.length+y.length<=9223372036854775807 then some (.string (mkS (x++y))) else none
 | .eql=>some (.bool (x==y))
 | .neq=>some (.bool !(x==y))
 | .lss=>some (.bool (Op.bytesLess x y))
 | .leq=>some (.bool (Op.bytesLess x y||x==y))
 | .gtr=>some (.bool !(Op.bytesLess x y||x==y))
 | .geq=>some (.bool !(Op.bytesLess x y))
 | _=>none
theorem Qvg (x y:ByteArray):x++y=mkS (bl x++bl y):=by
 apply ByteArray.ext;rw[ByteArray.data_append];apply Ru;simp[mkS,bl]
theorem QG3 {op:BinOp}{t ae:TypeId}{x y:Operand}{a b:ByteArray}{v:Value}(ab:ev A x=.string a)(ac:ev A y=.string b)(h:QmB op (bl a) (bl b)=some v):
    QD P ⟨d,.binOp op t x y ae,ty,pos,af,g⟩ A H v H:=
  .pure_ λρ w s ag q=>by
    have e1:=Gy (q x (by simp[Op.operands])) ab rfl;have e2:=Gy (q y (by simp[Op.operands])) ac rfl;have ad:(eqGuard op t x y (.string a) (.string b)).run P w=.ok () w:=by cases op<;>rfl
    have aa:(binOp op t (.string a) (.string b)).run P w=.ok v w∧plain v=true:=by
      cases op<;>simp only[QmB,reduceCtorEq]at h<;>first
        | (cases h;simp only[binOp,Op.stringOp,ByteArray.toList_eq];exact⟨rfl,rfl⟩)
        | (split at h
           · cases h
             rename_i hb;refine⟨?_,rfl⟩;simp only[QnE]at hb;simp only[binOp,Op.stringOp];rw[Le (by simp;omega),Qvg];rfl
           · cases h)
    refine⟨v,?_,.same v aa.2⟩;simp only[execOp,e1,e2,LW,ad,Lz,aa.1,Nc]
def QrQ (op:UnOp):Value->Option Value
 | .int k m=>match op with
  | .neg=>some (.int k (k.wrap (0 - m)))
  | .xor=>some (.int k (k.wrap (BitVec.ofInt k.bits (if k.signed then -1 else k.max) ^^^ BitVec.ofInt k.bits m).toNat))
  | _=>none
 | .bool b=>match op with
  | .not=>some (.bool !b)
  | _=>none
 | _=>none
theorem QIC {op:UnOp}{t:TypeId}{x:Operand}{v:Value}(h:QrQ op (ev A x)=some v):QD P ⟨d,.unOp op t x,ty,pos,af,g⟩ A H v H:=
 .pure_ λρ w s ac ab=>by
  have q:=ab x (by simp[Op.operands]);have aa:(Op.unary op (s.eval x)).run P w=.ok v w∧plain v=true:=by
   generalize ev A x=u at q h;cases u with
   | int k m=>
    rw[q.plain_eq rfl];cases op<;>simp only[QrQ,reduceCtorEq]at h<;>(cases h;exact⟨rfl,rfl⟩)
   | bool b=>
    rw[q.plain_eq rfl];cases op<;>simp only[QrQ,reduceCtorEq]at h<;>(cases h;exact⟨rfl,rfl⟩)
   | _=>simp[QrQ]at h
  refine⟨v,?_,.same v aa.2⟩;simp only[execOp,LW,aa.1,Lz,Nc]
/-! ### Conversions without memory -/
def Qry (P:Program)(src q:TypeId)(x:Value):Option Value:=
 match P.underlying src,P.underlying q with
 | some _,some (.int k)=>match x with | .int _ m=>some (.int k (k.wrap m)) | _=>none
 | some (.string),some (.string)=>match x with | .string s=>some (.string s) | _=>none
 | some (.int _),some (.string)=>match x with | .int _ m=>some (.string (Utf8.encode m)) | _=>none
 | _,_=>none
theorem QEJ {src ac:TypeId}{x:Operand}{v:Value}(h:Qry P src ac (ev A x)=some v):QD P ⟨d,.convert src ac x,ty,pos,af,g⟩ A H v H:=
 .pure_ λρ w s ag ae=>by
  have ab:=ae x (by simp[Op.operands]);have ad:(convert src ac (s.eval x)).run P w=.ok v w∧plain v=true:=by
   generalize ev A x=u at ab h;unfold Qry at h;split at h
   ·rename_i _ _ k q aa;split at h
    ·cases h;rw[ab.plain_eq rfl];refine⟨?_,rfl⟩;simp only[convert,LW,LZ q,LZ aa,Lz];rfl
    ·cases h
   ·rename_i _ _ q aa;split at h
    ·cases h;rw[ab.plain_eq rfl];refine⟨?_,rfl⟩;simp only[convert,LW,LZ q,LZ aa,Lz];rfl
    ·cases h
   ·rename_i _ _ k q aa;split at h
    ·cases h;rw[ab.plain_eq rfl];refine⟨?_,rfl⟩;simp only[convert,LW,LZ q,LZ aa,Lz];rfl
    ·cases h
   ·cases h
  refine⟨v,?_,.same v ad.2⟩;simp only[execOp,LW,ad.1,Lz,Nc]
/-! ### Interfaces, functions, parts -/
theorem Qpk {t:TypeId}{x:Operand}{q:TypeDesc}(ab:P.underlying t=some q)(hi:(match q with | .interface _=>false | _=>true)=true):
  QD P ⟨d,.makeInterface t x,ty,pos,af,g⟩ A H (.iface t (ev A x)) H:=
 .pure_ λρ w s ac aa=>by
  refine⟨.iface t (s.eval x),?_,.iface _ _ _ (aa x (by simp[Op.operands]))⟩;simp only[execOp,Instr.makeInterface,LW,LZ ab,Lz];cases q<;>first | rfl | simp at hi
theorem Qup {ρ:Ren}{a:Act}{xs:Array Operand}(h:∀x∈xs,V ρ (ev A x) (a.eval x)):VL ρ (xs.map (ev A)).toList (xs.map a.eval).toList:=by
 refine⟨by simp,λj x x' q aa=>?_⟩;simp only[Bl,Array.getElem?_map,Lx]at q aa;obtain⟨o,ab,rfl⟩:=q;obtain⟨o',ac,rfl⟩:=aa;rw[ab]at ac;cases ac;exact h o (BB ab)
theorem QwV {fn:Fn}{first q:Array Operand}(ae:Qd2 fn=true):
  QD P ⟨d,.makeFunc fn first q,ty,pos,af,g⟩ A H (.func fn (first.map (ev A)) (q.map (ev A))) H:=
 .pure_ λρ w s ag ab=>by
  have ac:=Qup (xs:=first) (λx aa=>ab x (by simp[Op.operands,aa]));have ad:=Qup (xs:=q) (λx aa=>ab x (by simp[Op.operands,aa]));refine⟨.func fn (first.map s.eval) (q.map s.eval),rfl,.func _ _ _ _ _ ae (by simp) (by simp) (λj x x' a b=>ac.2 j x x' (by simpa using a) (by simpa using b)) (λj x x' a b=>ad.2 j x x' (by simpa using a) (by simpa using b))⟩
def QcZ (P:Program)(t:TypeId)(cs:Array Value)(off:Nat):Option Value:=
 match P.underlying t,P.info? t with
 | some td,some inf=>if GH td then some (.agg (cs.extract off (off+inf.size))) else cs[off]?
 | _,_=>none
theorem Quq {t:TypeId}{q:TypeDesc}(aa:P.underlying t=some q)(w:World):(isAgg t).run P w=.ok (GH q) w:=by
 simp only[isAgg,LW,LZ aa,Lz];cases q<;>rfl
theorem WQ {t:TypeId}{q:TypeInfo}(hi:P.info? t=some q)(w:World):(sizeOf t).run P w=.ok q.size w:=by
 simp only[sizeOf,typeInfo,LW,DJ,Lz,hi,Nc]
theorem QnF {ρ:Ren}{t:TypeId}{cs q:Array Value}{off:Nat}{v:Value}(ab:VL ρ cs.toList q.toList)(h:QcZ P t cs off=some v)(w:World):∃aa,(part t q off).run P w=.ok aa w∧V ρ v aa:=by
 unfold QcZ at h;split at h
 ·rename_i al ak ae hi;split at h
  ·rename_i ac;cases h;refine⟨.agg (q.extract off (off+ak.size)),?_,?_⟩
   ·simp only[part,LW,Quq ae,Lz,ac,N3,WQ hi,Nc]
   ·have ad:cs.size=q.size:=by have:=ab.1;simpa using this
    refine .agg _ _ (by simp[ad]) (λj x x' a b=>?_);rw[Array.getElem?_extract]at a b;split at a
    ·rename_i aj;rw[Lc (by rw[<- ad];exact aj)]at b;exact ab.2 (off+j) x x' (by simpa using a) (by simpa using b)
    ·cases a
  ·rename_i ac;have h':cs.toList[off]? = some v:=by simpa using h
   obtain⟨aa,ag,ai⟩:=ab.get h';refine⟨aa,?_,ai⟩;have ah:q[off]? = some aa:=by simpa using ag
   simp only[part,LW,Quq ae,Lz,ac,LV,LN,ah,Nc]
 ·cases h
theorem V.agg_inv {ρ:Ren}{cs:Array Value}{z:Value}(h:V ρ (.agg cs) z):∃q,z=.agg q∧VL ρ cs.toList q.toList:=by
 cases h with
 | same _ ac=>simp[plain]at ac
 | agg xs ad aa ab=>exact⟨ad,rfl,by simpa using aa,λj x x' a b=>ab j x x' (by simpa using a) (by simpa using b)⟩
theorem V.tuple_inv {ρ:Ren}{cs:Array Value}{z:Value}(h:V ρ (.tuple cs) z):∃q,z=.tuple q∧VL ρ cs.toList q.toList:=by
 cases h with
 | same _ ac=>simp[plain]at ac
 | tuple xs ad aa ab=>exact⟨ad,rfl,by simpa using aa,λj x x' a b=>ab j x x' (by simpa using a) (by simpa using b)⟩
theorem V.ptr_inv {ρ:Ren}{a:Addr}{z:Value}(h:V ρ (.pointer (some a)) z):∃i,ρ a.block=some i∧a.spot=none∧z=.pointer (some (i.at_.add a.off)):=by
 cases h with
 | same _ q=>simp[plain]at q
 | ptr id off i h=>exact⟨i,h,rfl,rfl⟩
theorem V.iface_inv {ρ:Ren}{t:TypeId}{v z:Value}(h:V ρ (.iface t v) z):∃q,z=.iface t q∧V ρ v q:=by
 cases h with
 | same _ aa=>simp[plain]at aa
 | iface t v q h=>exact⟨q,rfl,h⟩
theorem V.map_inv {ρ:Ren}{id:Nat}{z:Value}(h:V ρ (.map (some id)) z):∃i,ρ id=some i∧z=.map (some i.at_.block):=by
 cases h with
 | same _ q=>simp[plain]at q
 | map id i h=>exact⟨i,h,rfl⟩
theorem V.slice_inv {ρ:Ren}{a:Addr}{len cap:Nat}{z:Value}(h:V ρ (.slice (some a) len cap) z):∃i aa q,ρ a.block=some i∧a.spot=none∧z=.slice (some aa) len q∧
  (aa=i.at_.add a.off∨(len=0∧q=0))∧len<=q∧q<UNK∧(UNK<=cap->i.s=cap - UNK∧a.off+q * i.s=i.n)∧(cap<UNK->q=cap):=by
 cases h with
 | same _ ah=>simp[plain]at ah
 | slice id off len cap q i aa h ac ad ab ae ag=>exact⟨i,aa,q,h,rfl,rfl,ac,ad,ab,ae,ag⟩
theorem QCR {t:TypeId}{x:Operand}{f:Nat}{q:Array Field}{fd:Field}{cs:Array Value}{v:Value}(aj:P.underlying t=some (.struct q))(ah:q[f]? = some fd)(ab:ev A x=.agg cs)
  (ai:QcZ P fd.type cs fd.offset=some v):QD P ⟨d,.field t x f,ty,pos,af,g⟩ A H v H:=
 .pure_ λρ w s am ag=>by
  have aa:=ag x (by simp[Op.operands]);rw[ab]at aa;obtain⟨al,e,ae⟩:=aa.agg_inv;obtain⟨ak,ac,ad⟩:=QnF ae ai w;refine⟨ak,?_,ad⟩;simp only[execOp,Instr.field,LW,LZ aj,Lz,ah,e,asAgg,Nc,ac]
theorem Qvh {t:TypeId}{x:Operand}{f:Nat}{aa:Array Field}{fd:Field}{q:TypeInfo}{a:Addr}(ai:P.underlying t=some (.struct aa))(ah:aa[f]? = some fd)(hi:P.info? fd.type=some q)(aj:Nat.beq q.size 0=false)
  (ac:ev A x=.pointer (some a)):QD P ⟨d,.fieldAddr t x f,ty,pos,af,g⟩ A H (.pointer (some ⟨a.block,a.off+fd.offset,none⟩)) H:=
 .pure_ λρ w s am ag=>by
  have ab:=ag x (by simp[Op.operands]);rw[ac]at ab;obtain⟨i,ad,al,ae⟩:=ab.ptr_inv;refine⟨.pointer (some (i.at_.add (a.off+fd.offset))),?_,.ptr _ _ i ad⟩;have ak:¬q.size=0:=by simpa[Kk] using aj
  simp only[execOp,Instr.fieldAt,LW,LZ ai,Lz,ah,ae,Instr.sureAddr,Nc,fieldPlace,WQ hi,ak,LN,Gj]
theorem QmC {t e:TypeId}{x aa:Operand}{q:TypeInfo}{a:Addr}{len cap:Nat}{k:IntKind}{m:Int}(ak:P.underlying t=some (.slice e))(hi:P.info? e=some q)
  (ag:ev A x=.slice (some a) len cap) (ae:ev A aa=.int k m) (ah:0<=m) (ai:m<len):
  QD P ⟨d,.indexAddr t x aa,ty,pos,af,g⟩ A H (.pointer (some ⟨a.block,a.off+m.toNat * q.size,none⟩)) H:=
 .pure_ λρ w s aq ab=>by
  have ac:=ab x (by simp[Op.operands]);rw[ag]at ac;have e2:=Gy (ab aa (by simp[Op.operands])) ae rfl;obtain⟨i,ad,al,g1,g2,g3,g4,am,g0,an,ao⟩:=ac.slice_inv;have aj:ad=i.at_.add a.off:=by rcases g4 with h | ⟨h,_⟩;exact h;omega
  refine⟨.pointer (some (i.at_.add (a.off+m.toNat * q.size))),?_,.ptr _ _ i g1⟩;simp only[execOp,Instr.indexAt,e2,asIntOf,g3,LW,Nc,LZ ak,Lz,ah,ai,RU,N3,WQ hi,aj,Gj]
theorem QmD {t e:TypeId}{x aa:Operand}{q:TypeInfo}{a:Addr}{len:Nat}{k:IntKind}{m:Int}(ai:P.underlying t=some (.array len e))(hi:P.info? e=some q)
  (ae:ev A x=.pointer (some a)) (ad:ev A aa=.int k m) (ag:0<=m) (ah:m<len):
  QD P ⟨d,.indexAddr t x aa,ty,pos,af,g⟩ A H (.pointer (some ⟨a.block,a.off+m.toNat * q.size,none⟩)) H:=
 .pure_ λρ w s aj ab=>by
  have ac:=ab x (by simp[Op.operands]);rw[ae]at ac;have e2:=Gy (ab aa (by simp[Op.operands])) ad rfl;obtain⟨i,g1,g2,g3⟩:=ac.ptr_inv;refine⟨.pointer (some (i.at_.add (a.off+m.toNat * q.size))),?_,.ptr _ _ i g1⟩;simp only[execOp,Instr.indexAt,e2,asIntOf,g3,Instr.sureAddr,LW,Nc,LZ ai,Lz,ag,ah,RU,N3,WQ hi,Gj]
theorem Qq4 {t:TypeId}{x aa:Operand}{s:ByteArray}{k:IntKind}{m:Int}{b:UInt8}(ah:P.underlying t=some .string)(ae:ev A x=.string s)(ad:ev A aa=.int k m)(ag:0<=m)(q:(bl s)[m.toNat]? = some b):
  QD P ⟨d,.index t x aa,ty,pos,af,g⟩ A H (.int .u8 b.toNat) H:=
 .pure_ λρ w a ai ab=>by
  have e1:=Gy (ab x (by simp[Op.operands])) ae rfl;have e2:=Gy (ab aa (by simp[Op.operands])) ad rfl;refine⟨.int .u8 b.toNat,?_,.same _ rfl⟩;have hb:s[m.toNat]? = some b:=by
   have ac:m.toNat<s.size:=by rw[<- QnE];exact(Lk.1 q).1
   rw[getElem?_pos s _ ac];rw[La (by rw[QnE];exact ac)]at q;exact q
  simp only[execOp,Instr.index,e1,e2,asIntOf,LW,Nc,LZ ah,Lz,ag,N3,hb]
theorem QrR {t e:TypeId}{x q:Operand}{len:Nat}{ac:TypeInfo}{cs:Array Value}{k:IntKind}{m:Int}{v:Value}(ak:P.underlying t=some (.array len e))(hi:P.info? e=some ac)(ae:ev A x=.agg cs)(ad:ev A q=.int k m)
  (ag:0<=m) (ah:m<len) (aj:QcZ P e cs (m.toNat * ac.size)=some v):QD P ⟨d,.index t x q,ty,pos,af,g⟩ A H v H:=
 .pure_ λρ w a an aa=>by
  have ab:=aa x (by simp[Op.operands]);rw[ae]at ab;have e2:=Gy (aa q (by simp[Op.operands])) ad rfl;obtain⟨am,e',ai⟩:=ab.agg_inv;obtain⟨al,g1,g2⟩:=QnF ai aj w;refine⟨al,?_,g2⟩;simp only[execOp,Instr.index,e',e2,asIntOf,LW,Nc,LZ ak,Lz,ag,ah,RU,N3,WQ hi,g1]
theorem QyR {x:Operand}{q:Nat}{ac:Array Value}{v:Value}(ad:ev A x=.tuple ac)(ai:ac[q]? = some v):QD P ⟨d,.extract x q,ty,pos,af,g⟩ A H v H:=
 .pure_ λρ w a ak ah=>by
  have aa:=ah x (by simp[Op.operands]);rw[ad]at aa;obtain⟨aj,e',ag⟩:=aa.tuple_inv;obtain⟨ab,g1,g2⟩:=ag.get (j:=q) (x:=v) (by simpa using ai);have ae:aj[q]? = some ab:=by simpa using g1
  refine⟨ab,?_,g2⟩;simp only[execOp,Instr.extract,e',ae,LW,Nc,Lz]
end
section
variable {P:Program} {n:Nat} {A:Env} {H:Qa} {d:Option Nat} {ty:TypeId} {pos:String} {af:Array Edge} {g:Option (Nat×Bool)}
theorem Qj1 {t:TypeId}{a:Addr}{v:Value}(h:ZD P t a H=some v):∃c e ro,H.get a.block=some (.cells c e ro):=by
 unfold ZD at h;split at h
 ·rename_i d ac c e ro aa ab q;exact⟨c,e,ro,q⟩
 ·cases h
theorem QEK {t:TypeId}{x:Operand}{a:Addr}{v:Value}(ac:ev A x=.pointer (some a))(aa:ZD P t a H=some v):QD P ⟨d,.load t x,ty,pos,af,g⟩ A H v H:=
 .pure_ λρ w s ah ag=>by
  have ab:=ag x (by simp[Op.operands]);rw[ac]at ab;obtain⟨i,g1,g2,g3⟩:=ab.ptr_inv;obtain⟨id,off,sp⟩:=a;simp only at g1 g2 g3;subst g2;obtain⟨c,e,ro,q⟩:=Qj1 aa;obtain⟨ai,ad,ae⟩:=Qpj g1 q (ah.live id _ i q g1) aa;refine⟨ai,?_,ae⟩;simp only[execOp,Instr.loadAt,g3,Instr.sureAddr,LW,Nc,Lz,ad]
theorem QCS {t:TypeId}{x y:Operand}{a:Addr}{H':Qa}(ab:ev A x=.pointer (some a))(ag:QmA P t a (ev A y) H=some H'):QD P ⟨d,.store t x y,ty,pos,af,g⟩ A H undef H':=
 .of_skip λρ w s ah q=>by
  have aa:=q x (by simp[Op.operands]);rw[ab]at aa;obtain⟨i,g1,g2,g3⟩:=aa.ptr_inv;obtain⟨id,off,sp⟩:=a;simp only at g1 g2 g3;subst g2;obtain⟨w',ac,ad,ae⟩:=QyP ah g1 (q y (by simp[Op.operands])) ag;refine⟨ρ,w',?_,ad,ae⟩;simp only[execOp,Instr.storeAt,g3,Instr.sureAddr,LW,Nc,Lz,ac]
theorem Kh {t:TypeId}{q:TypeInfo}{z:Value}(hi:P.info? t=some q)(aa:q.zero=some z)(w:World):(zeroValue t).run P w=.ok z w:=by
 simp only[zeroValue,typeInfo,LW,DJ,Lz,hi,Nc,aa]
theorem QCT {e:TypeId}{q:TypeInfo}{z:Value}(hi:P.info? e=some q)(ae:q.zero=some z)(ac:z.cells.toList.all plain=true):
  QD P ⟨d,.alloc e,ty,pos,af,g⟩ A H (.pointer (some ⟨H.next,0,none⟩)) (H.push (.cells z.cells.toList e false)):=
 .of_run λρ w s ad ag=>by
  obtain⟨aa,ab⟩:=ad.pushCells (c:=z.cells.toList) (c':=z.cells) e (.closed ac);refine⟨.pointer (some ⟨w.heap.size,0,none⟩),_,_,?_,.ptr H.next 0 _ (Xa _ _ _),aa,ab⟩;simp only[execOp,Instr.alloc,LW,Kh hi ae,Lz,newVar,newRow,FT,Nc,World.alloc]
theorem QG4 {e:TypeId}{x:Operand}:
  QD P ⟨d,.box e x,ty,pos,af,g⟩ A H (.pointer (some ⟨H.next,0,none⟩)) (H.push (.cells (ev A x).cells.toList e false)):=
 .of_run λρ w s ac ab=>by
  obtain⟨q,aa⟩:=ac.pushCells (c:=(ev A x).cells.toList) (c':=(s.eval x).cells) e (ab x (by simp[Op.operands])).cells;refine⟨.pointer (some ⟨w.heap.size,0,none⟩),_,_,?_,.ptr H.next 0 _ (Xa _ _ _),q,aa⟩;simp only[execOp,Instr.box,LW,newVar,newRow,FT,Nc,Lz,World.alloc]
/-! ### Building structs, arrays, slices -/
def Qfh (place:Nat->Option (Nat×Nat)):List Value->List (Nat×Value)->Option (List Value)
 | cells,[]=>some cells
 | cells,(i,v)::rest=>
  match place i with
  | none=>none
  | some (off,size)=>if v.cells.toList.length=size∧off+size<=cells.length then Qfh place (splice cells off v.cells.toList) rest else none
theorem Ql2:∀ (q:List Value) (k off:Nat) (cs:Array Value),off+k+q.length<=cs.size->
  ((q.zipIdx k).foldl (fun(cs:Array Value) (p:Value×Nat)=>cs.setIfInBounds (off+p.2) p.1) cs).toList=splice cs.toList (off+k) q
 | [],k,off,cs,h=>by simp[splice]
 | v::q,k,off,cs,h=>by
  simp only[Lo]at h;rw[List.zipIdx_cons,FQ,Ql2 q (k+1) off _ (by simp;omega)];apply BA;intro o;rw[Qmz (by simp;omega),Qmz (by simp;omega)];simp only[Array.toList_setIfInBounds,Lo]
  by_cases ab:o=off+k
  ·subst ab;rw[Le (by omega),Lc ⟨by omega,by omega⟩,List.getElem?_set_self (by simp;omega)];simp
  ·by_cases aa:off+(k+1)<=o∧o<off+(k+1)+q.length
   ·rw[Lc aa,Lc ⟨by omega,by omega⟩,show o - (off+k)=(o - (off+(k+1)))+1 by omega];simp
   ·rw[Le aa,Le (by omega),List.getElem?_set_ne (by omega)]
theorem QnG {ρ:Ren}{place:Nat->Option (Nat×Nat)}:∀ (ae aa:List (Nat×Value)) (c:List Value) (c':Array Value) (r:List Value),VL ρ c c'.toList->ae.map (·.1)=aa.map (·.1)->VL ρ (ae.map (·.2)) (aa.map (·.2))->
  Qfh place c ae=some r->∃ad,Instr.fill place c' aa=some ad∧VL ρ r ad.toList
 | [],aa,c,c',r,hc,ab,h2,h=>by
  have:aa=[]:=by cases aa;rfl;simp at ab
  subst this;simp only[Qfh,Lt]at h;subst h;exact⟨c',rfl,hc⟩
 | (i,v)::rest,aa,c,c',r,hc,ab,h2,h=>by
  cases aa with
  | nil=>simp at ab
  | cons q ao=>
   obtain⟨i',ac⟩:=q;simp only[NZ,Fl]at ab;obtain⟨rfl,ab⟩:=ab;obtain⟨x',au,e,am,an⟩:=h2.uncons;simp only[NZ,Fl]at e;obtain⟨rfl,rfl⟩:=e;unfold Qfh at h;split at h
   ·cases h
   ·rename_i off size ak;split at h
    ·rename_i ai;have ag:=am.cells;have aj:ac.cells.size=size:=by have:=ag.1;simp at this ai;omega
     have aq:c.length=c'.size:=by have:=hc.1;simpa using this
     have ar:v.cells.size=size:=by simpa using ai.1
     have al:VL ρ (splice c off v.cells.toList) (splice c'.toList off ac.cells.toList):=by
      unfold splice;refine(hc.take _).append (ag.append ?_);rw[show off+ac.cells.toList.length=off+v.cells.toList.length by simp;omega];exact hc.drop _
     have ah:=Ql2 ac.cells.toList 0 off c' (by simp;omega);simp only[N9]at ah;obtain⟨ad,g1,g2⟩:=QnG rest ao _ (splice c'.toList off ac.cells.toList).toArray r (by simpa using al) ab an h;refine⟨ad,?_,g2⟩;unfold Instr.fill;simp only[ak,aj];rw[Le (by simp;omega)];rw[<- g1];congr 1;apply Ru;simp only[Array.toList_zipIdx,<- Array.foldl_toList];exact ah
    ·cases h
def Jd (A:Env)(q:Array (Nat×Operand)):List (Nat×Value):=q.toList.map λp=>(p.1,ev A p.2)
theorem Qpl {ρ:Ren}{a:Act}{aa:Array (Nat×Operand)}(ag:∀x∈(aa.toList.map (·.2)).toArray,V ρ (ev A x) (a.eval x)):
  (Jd A aa).map (·.1)=(aa.map fun(i,x)=>(i,a.eval x)).toList.map (·.1)∧VL ρ ((Jd A aa).map (·.2)) ((aa.map fun(i,x)=>(i,a.eval x)).toList.map (·.2)):=by
 refine⟨by simp[Jd],by simp[Jd],λj x x' ab ac=>?_⟩;simp only[Jd,Ht,LD,Lx,Array.toList_map,Function.comp]at ab ac;obtain⟨p,ad,rfl⟩:=ab;obtain⟨q,ae,rfl⟩:=ac;rw[ad]at ae;cases ae;refine ag _ ?_;simp only[List.mem_toArray,N4];exact⟨p,Ln ad,rfl⟩
def QnH (P:Program)(q:Array Field):Option (Array (Nat×Nat)):=q.mapM λf=>(P.info? f.type).map λaa=>(f.offset,aa.size)
theorem QrS (w:World):∀ (l:List Field) (r:List (Nat×Nat)),l.mapM (λf=>(P.info? f.type).map λaa=>(f.offset,aa.size))=some r->
  (l.mapM (λf=>(do pure (f.offset,<- sizeOf f.type):Sem (Nat×Nat)))).run P w=.ok r w
 | [],r,h=>by simp at h;subst h;rfl
 | f::l,r,h=>by
  simp only[Ra,BV,BY,Lx,Rx,Lt]at h;obtain⟨p,⟨aa,hi,rfl⟩,q,ab,rfl⟩:=h;have ac:=QrS w l q ab;simp only[Ra,LW,WQ hi,Lz,Nc,ac]
theorem Qq5 {t:TypeId}{ad:Array (Nat×Operand)}{q:Array Field}{ac:TypeInfo}{z:Value}{aa:Array (Nat×Nat)}{r:List Value}(ao:P.underlying t=some (.struct q))(hi:P.info? t=some ac)(aq:ac.zero=some z)
  (ah:z.cells.toList.all plain=true) (ab:QnH P q=some aa) (al:Qfh (aa[·]?) z.cells.toList (Jd A ad)=some r):QD P ⟨d,.build t ad,ty,pos,af,g⟩ A H (.agg r.toArray) H:=
 .pure_ λρ w s au ai=>by
  obtain⟨g1,g2⟩:=Qpl (A:=A) ai;obtain⟨ar,ag,ae⟩:=QnG (ρ:=ρ) (Jd A ad) _ z.cells.toList z.cells r (.closed ah) g1 g2 al;refine⟨.agg ar,?_,.agg _ _ (by simpa using ae.1) (λj x x' a b=>ae.2 j x x' (by simpa using a) (by simpa using b))⟩;have ak:q.toList.mapM (λf=>(P.info? f.type).map λac=>(f.offset,ac.size))=some aa.toList:=by
   unfold QnH at ab;rw[Array.mapM_eq_mapM_toList]at ab;simp only[Option.map_eq_map,Lx]at ab;obtain⟨l,aj,rfl⟩:=ab;simpa using aj
  have am:=QrS (P:=P) w q.toList aa.toList ak;have an:(q.mapM (λf=>(do pure (f.offset,<- sizeOf f.type):Sem (Nat×Nat)))).run P w=.ok aa w:=by
   rw[Array.mapM_eq_mapM_toList];simp only[Sem.run_map,am,Lz,RE]
  simp only[execOp,Instr.build,LW,Kh hi aq,Lz,LZ ao,an,ag,Nc]
theorem QrT {t e:TypeId}{len:Nat}{aa:Array (Nat×Operand)}{ac q:TypeInfo}{z:Value}{r:List Value}(aj:P.underlying t=some (.array len e))(hi:P.info? t=some ac)(ak:ac.zero=some z)
  (ae:z.cells.toList.all plain=true) (ah:P.info? e=some q) (ai:Qfh (λi=>some (i * q.size,q.size)) z.cells.toList (Jd A aa)=some r):QD P ⟨d,.build t aa,ty,pos,af,g⟩ A H (.agg r.toArray) H:=
 .pure_ λρ w s am ag=>by
  obtain⟨g1,g2⟩:=Qpl (A:=A) ag;obtain⟨al,ad,ab⟩:=QnG (ρ:=ρ) (Jd A aa) _ z.cells.toList z.cells r (.closed ae) g1 g2 ai;refine⟨.agg al,?_,.agg _ _ (by simpa using ab.1) (λj x x' a b=>ab.2 j x x' (by simpa using a) (by simpa using b))⟩;simp only[execOp,Instr.build,LW,Kh hi ak,Lz,LZ aj,WQ ah,ad,Nc]
def YM (z:Array Value)(m:Nat):List Value:=(List.range m).map λi=>z[i % z.size]!
theorem Qqi {z:Array Value}(aa:z.toList.all plain=true)(m:Nat)(ad:m=0∨0<z.size):(YM z m).all plain=true:=by
 rw[Li];intro x q;simp only[YM,N4,LU]at q;obtain⟨i,hi,rfl⟩:=q;have ac:0<z.size:=by omega
 have ab:i % z.size<z.size:=Rm _ ac;rw[getElem!_pos z _ ab];exact Li.1 aa _ (by simp)
theorem Qtz {t e:TypeId}{len:Nat}{ac:Array (Nat×Operand)}{q:TypeInfo}{z:Value}{r:List Value}(aq:P.underlying t=some (.slice e))(hi:P.info? e=some q)(ar:q.zero=some z)
  (ag:z.cells.toList.all plain=true) (ah:Nat.blt 0 z.cells.size=true) (ad:Nat.ble len 16777216=true) (ao:Nat.ble (len * q.size) 16777216=true) (am:Qfh (λi=>some (i * q.size,q.size)) (YM z.cells (len * q.size)) (Jd A ac)=some r):
  QD P ⟨d,.buildSlice t len ac,ty,pos,af,g⟩ A H (.slice (some ⟨H.next,0,none⟩) len len) (H.push (.cells r e false)):=
 .of_run λρ w s an aj=>by
  obtain⟨g1,g2⟩:=Qpl (A:=A) aj;have ai:0<z.cells.size:=by simpa using ah
  have ax:len * q.size<=16777216:=by simpa using ao
  have au:((Array.range (len * q.size)).map (λi=>(if len * q.size=0 then(#[]:Array Value) else z.cells)[i % (if len * q.size=0 then(#[]:Array Value) else z.cells).size]!)).toList=YM z.cells (len * q.size):=by
   by_cases aa:len * q.size=0
   ·simp[aa,YM]
   ·simp[aa,YM,Array.toList_range]
  have al:=Qqi ag (len * q.size) (.inr ai);obtain⟨av,ab,ae⟩:=QnG (ρ:=ρ) (Jd A ac) _ (YM z.cells (len * q.size)) ((Array.range (len * q.size)).map (λi=>(if len * q.size=0 then(#[]:Array Value) else z.cells)[i % (if len * q.size=0 then(#[]:Array Value) else z.cells).size]!)) r (by rw[au];exact .closed al) g1 g2 am;obtain⟨k1,k2⟩:=an.pushCells (c:=r) (c':=av) e ae;have ak:len<UNK:=by
   have:len<=16777216:=by simpa using ad
   simp only[UNK];omega
  refine⟨.slice (some ⟨w.heap.size,0,none⟩) len len,_,_,?_,.slice H.next 0 len len len _ _ (Xa _ _ _) (.inl (by rw[Qfe])) (Lb _) ak (λh=>?_) (λ_=>rfl),k1,k2⟩
  ·have hb:¬ (len * q.size>2 ^ 24):=by omega
   simp only[execOp,Instr.buildSlice,LW,LZ aq,Lz,WQ hi,hb,LN]
   by_cases aa:len * q.size=0
   ·simp only[aa,N3,Nc]at ab ⊢;simp only[ab,newRow,LW,FT,Lz,Nc,World.alloc]
   ·simp only[aa,LN,LW,Kh hi ar,Nc,Lz]at ab ⊢;simp only[ab,newRow,LW,FT,Lz,Nc,World.alloc]
  ·exfalso;have aw:len<=16777216:=by simpa using ad
   simp only[UNK]at h;omega
end
section
variable {P:Program} {n:Nat} {A:Env} {H:Qa} {d:Option Nat} {ty:TypeId} {pos:String} {af:Array Edge} {g:Option (Nat×Bool)}
def QhM (P:Program)(e:TypeId)(q:TypeInfo)(z:Value):Bool:=
  Nat.beq z.cells.size q.size&&Nat.blt 0 q.size&&z.cells.toList.all plain &&
    (match P.underlying e with
     | some (.int .u8)=>(match z with | .int .u8 m=>m==0 | _=>false)
     | some _=>true
     | none=>false)
structure Qcw (P:Program) (e:TypeId) (inf:TypeInfo) (z:Value):Prop where
 info:P.info? e=some inf
 zero:inf.zero=some z
 cells:z.cells.size=inf.size
 pos:0<inf.size
 plain_:z.cells.toList.all plain=true
 byte:P.underlying e=some (.int .u8)->z=.int .u8 0
theorem Qcw.mk' {e:TypeId}{aa:TypeInfo}{z:Value}(ab:P.info? e=some aa)(ac:aa.zero=some z)(h:QhM P e aa z=true):Qcw P e aa z:=by
 simp only[QhM,Lm]at h;obtain⟨⟨⟨a,b⟩,c⟩,q⟩:=h;refine⟨ab,ac,by simpa[Kk] using a,by simpa using b,c,λad=>?_⟩;rw[ad]at q;simp only at q;split at q
 ·rename_i m;have:m=0:=by simpa using q
  rw[this]
 ·cases q
theorem Qcw.cellsOf {e:TypeId}{q:TypeInfo}{z:Value}(h:Qcw P e q z):P.cellsOf e=q.size:=by simp[Program.cellsOf,h.info]
theorem QBB (z:Array Value)(m:Nat)(q:0<z.size){o:Nat}{v:Value}(h:(YM z m)[o]? = some v):v∈z:=by
 simp only[YM,LD,Lx]at h;obtain⟨i,_,rfl⟩:=h;rw[getElem!_pos z _ (Rm _ q)];exact Array.getElem_mem _
theorem Qcw.spare {e:TypeId}{ab:TypeInfo}{z:Value}(h:Qcw P e ab z){v:Value}(q:v∈z.cells):QAF P e v:=λaa=>by
 rw[h.byte aa]at q;simp[Value.cells]at q;exact⟨0,q,by omega,by omega⟩
theorem Qvi {t e:TypeId}{x y:Operand}{q:TypeInfo}{z:Value}{l c:Int}(al:P.underlying t=some (.slice e))(aa:Qcw P e q z)(ac:ev A x=.int .i64 l)(ad:ev A y=.int .i64 c)
  (ae:0<=l) (ag:l<=c) (ah:(q.bytes:Int) * c<=281474976710656) (ai:c<=9223372036854775807):
  QD P ⟨d,.makeSlice t x y,ty,pos,af,g⟩ A H (.slice (some ⟨H.next,0,none⟩) l.toNat c.toNat) (H.push (.cells (YM z.cells (c.toNat * q.size)) e false)):=
 .of_run λρ w s ak ab=>by
  have e1:=Gy (ab x (by simp[Op.operands])) ac rfl;have e2:=Gy (ab y (by simp[Op.operands])) ad rfl;have aj:=run_make (P:=P) w t e q z al aa.info aa.zero .i64 .i64 l c ae ag ah ai;have am:(madeCells z.cells (c.toNat * q.size)).toList=YM z.cells (c.toNat * q.size):=by simp[madeCells,YM,Array.toList_range]
  obtain⟨k1,k2⟩:=ak.pushCells (c:=YM z.cells (c.toNat * q.size)) (c':=madeCells z.cells (c.toNat * q.size)) e (by rw[am];exact .closed (Qqi aa.plain_ _ (.inr (by rw[aa.cells];exact aa.pos))));refine⟨.slice (some ⟨w.heap.size,0,none⟩) l.toNat c.toNat,_,_,?_,.slice H.next 0 l.toNat c.toNat c.toNat _ _ (Xa _ _ _) (.inl (by rw[Qfe])) (by omega) (by simp only[UNK];omega) (λh=>?_) (λ_=>rfl),k1,k2⟩
  ·simp only[execOp,e1,e2,LW,aj,Lz,Nc]
  ·exfalso;simp only[UNK]at h;omega
/-! ### Slicing -/
def XD (A:Env):Option Operand->Option (Option Int)
 | none=>some none
 | some x=>match ev A x with | .int _ m=>some (some m) | _=>none
theorem Qpm {ρ:Ren}{a:Act}{x:Option Operand}(aa:∀y,x=some y->V ρ (ev A y) (a.eval y)){m:Option Int}(h:XD A x=some m):
  (m=none∧x.map a.eval=none)∨∃k j,m=some j∧x.map a.eval=some (.int k j):=by
 cases x with
 | none=>simp[XD]at h;exact .inl ⟨h.symm,rfl⟩
 | some x=>
  simp only[XD]at h;split at h
  ·rename_i k j q;cases h;have:=Gy (aa _ rfl) q rfl;exact .inr ⟨k,j,rfl,by simp[this]⟩
  ·cases h
theorem Qem {ρ:Ren}{w:World}{a:Act}{ag hi mx:Option Operand}(aq:∀y,ag=some y->V ρ (ev A y) (a.eval y))(ao:∀y,hi=some y->V ρ (ev A y) (a.eval y))(ar:∀y,mx=some y->V ρ (ev A y) (a.eval y)){l h m:Option Int}(am:XD A ag=some l)(al:XD A hi=some h)(an:XD A mx=some m)
  (aj:m≠none->h≠none) {len cap:Nat} (ai:0<=l.getD 0) (aa:l.getD 0<=h.getD len) (ab:h.getD len<=m.getD cap) (ac:m.getD cap<=cap) (au:Bool):
  (Instr.sliceBounds au len cap (ag.map a.eval) (hi.map a.eval) (mx.map a.eval)).run P w=.ok ((l.getD 0).toNat,(h.getD len).toNat,(m.getD cap).toNat) w:=by
 rcases Qpm ao al with⟨rfl,e⟩ | ⟨k,j,rfl,e⟩<;>rcases Qpm aq am with⟨rfl,e'⟩ | ⟨ae,ad,rfl,e'⟩<;>rcases Qpm ar an with⟨rfl,ah⟩ | ⟨ak,q,rfl,ah⟩<;>simp only[Br,NB]at ai aa ab ac ⊢<;>rw[e,e',ah]<;>simp only[Instr.sliceBounds,LW,Nc,Lz]
 ·simp
 ·exact absurd rfl (aj (by simp))
 ·rw[RD (P:=P) w ae ad len _ ai aa];simp
 ·exact absurd rfl (aj (by simp))
 ·rw[RD (P:=P) w k j cap _ aa ab];simp
 ·rw[RD (P:=P) w ak q cap _ (by omega) ac];simp only[Lz];rw[RD (P:=P) w k j q.toNat _ (by omega) (by omega)];simp
 ·rw[RD (P:=P) w k j cap _ (by omega) ab];simp only[Lz];rw[RD (P:=P) w ae ad j.toNat _ (by omega) (by omega)];simp
 ·rw[RD (P:=P) w ak q cap _ (by omega) ac];simp only[Lz];rw[RD (P:=P) w k j q.toNat _ (by omega) (by omega)];simp only[Lz];rw[RD (P:=P) w ae ad j.toNat _ (by omega) (by omega)];simp
theorem Qq6 {t:TypeId}{x:Operand}{ac hi:Option Operand}{s:ByteArray}{l h:Option Int}(ai:P.underlying t=some .string)(ag:ev A x=.string s)
  (ae:XD A ac=some l) (ad:XD A hi=some h) (ah:0<=l.getD 0) (aa:l.getD 0<=h.getD (bl s).length) (ab:h.getD (bl s).length<=(bl s).length):
  QD P ⟨d,.slice t x ac hi none,ty,pos,af,g⟩ A H (.string (mkS (((bl s).drop (l.getD 0).toNat).take ((h.getD (bl s).length).toNat - (l.getD 0).toNat)))) H:=
 .pure_ λρ w a aj q=>by
  have e1:=Gy (q x (by simp[Op.operands])) ag rfl;simp only[QnE]at aa ab;refine⟨.string (s.extract (l.getD 0).toNat (h.getD s.size).toNat),?_,?_⟩
  rotate_left
  ·have:s.extract (l.getD 0).toNat (h.getD s.size).toNat=mkS (((bl s).drop (l.getD 0).toNat).take ((h.getD (bl s).length).toNat - (l.getD 0).toNat)):=by
    apply ByteArray.ext;apply Ru;rw[ByteArray.data_extract];simp[mkS,bl]
   rw[this];exact .same _ rfl
  have hb:=Qem (P:=P) (A:=A) (w:=w) (λy e=>q y (by simp[Op.operands,e])) (λy e=>q y (by simp[Op.operands,e])) (mx:=none) (λy e=>by cases e) ae ad (m:=none) rfl (by simp) (len:=s.size) (cap:=s.size) ah aa (by simpa using ab) (by simp) false;simp only[Fk]at hb;simp only[execOp,Instr.sliceAt,Instr.slice,e1,LW,LZ ai,Lz,Fk,Option.isSome_none,LV,LN,hb,Nc]
def QaC (size:Nat)(x:Value)(l h m:Option Int):Option Value:=
 match x with
 | .slice none len cap=>
  if 0<=l.getD 0∧l.getD 0<=h.getD len∧h.getD len<=m.getD cap∧m.getD cap<=cap then some (.slice none ((h.getD len).toNat - (l.getD 0).toNat) ((m.getD cap).toNat - (l.getD 0).toNat)) else none
 | .slice (some a) len cap=>
  if UNK<=cap then
   match m with
   | none=>if 0<=l.getD 0∧l.getD 0<=h.getD len∧h.getD len<=len∧cap=UNK+size then some (.slice (some ⟨a.block,a.off+(l.getD 0).toNat * size,none⟩) ((h.getD len).toNat - (l.getD 0).toNat) cap) else none
   | some m=>if 0<=l.getD 0∧l.getD 0<=h.getD len∧h.getD len<=m∧m<=len∧l.getD 0<m then some (.slice (some ⟨a.block,a.off+(l.getD 0).toNat * size,none⟩) ((h.getD len).toNat - (l.getD 0).toNat) (m.toNat - (l.getD 0).toNat)) else none
  else
   if 0<=l.getD 0∧l.getD 0<=h.getD len∧h.getD len<=m.getD cap∧m.getD cap<=cap then
    some (.slice (some (if(m.getD cap).toNat=(l.getD 0).toNat then a else⟨a.block,a.off+(l.getD 0).toNat * size,none⟩)) ((h.getD len).toNat - (l.getD 0).toNat) ((m.getD cap).toNat - (l.getD 0).toNat))
   else none
 | _=>none
theorem QrU {t e:TypeId}{x:Operand}{aB hi mx:Option Operand}{ah:TypeInfo}{l h m:Option Int}{v:Value}(ar:P.underlying t=some (.slice e))(ao:P.info? e=some ah)
  (am:XD A aB=some l) (al:XD A hi=some h) (an:XD A mx=some m) (aq:m≠none->h≠none) (q:QaC ah.size (ev A x) l h m=some v):
  QD P ⟨d,.slice t x aB hi mx,ty,pos,af,g⟩ A H v H:=
 .pure_ λρ w s aG aa=>by
  have au:=aa x (by simp[Op.operands]);generalize ev A x=u at au q;unfold QaC at q;split at q
  ·rename_i len cap;split at q
   ·rename_i ae;obtain⟨ac,ad,ai,ak⟩:=ae;cases q;have e1:=au.plain_eq rfl;have hb:=Qem (P:=P) (A:=A) (w:=w) (λy e=>aa y (by simp[Op.operands,e])) (λy e=>aa y (by simp[Op.operands,e])) (λy e=>aa y (by simp[Op.operands,e])) am al an aq (len:=len) (cap:=cap) ac ad ai ak true;refine⟨.slice none ((h.getD len).toNat - (l.getD 0).toNat) ((m.getD cap).toNat - (l.getD 0).toNat),?_,.same _ rfl⟩;simp only[execOp,Instr.sliceAt,Instr.slice,e1,LW,LZ ar,Lz,hb,WQ ao,Nc,Fk,ite_self]
   ·cases q
  ·rename_i a len cap;obtain⟨i,aj,ab,g1,g2,g3,g4,aF,g0,av,ax⟩:=au.slice_inv;obtain⟨id,off,sp⟩:=a;simp only at g1 g2 g4 av ax q;subst g2;split at q
   ·rename_i aA;obtain⟨ay,aw⟩:=av aA;split at q
    ·split at q
     ·rename_i ae;obtain⟨ac,ad,ai,ak⟩:=ae;have aD:i.s=ah.size:=by omega
      cases q;have hb:=Qem (P:=P) (A:=A) (w:=w) (λy e=>aa y (by simp[Op.operands,e])) (λy e=>aa y (by simp[Op.operands,e])) (λy e=>aa y (by simp[Op.operands,e])) am al an aq (len:=len) (cap:=ab) ac ad (by simp only[Br];omega) (by simp) true;have az:off+(l.getD 0).toNat * ah.size+(ab - (l.getD 0).toNat) * i.s=i.n:=by
       rw[aD]at aw ⊢;rw[Rh,<- Ry,Nat.add_sub_cancel' (by omega)];exact aw
      refine⟨.slice (some (if ab=(l.getD 0).toNat then aj else aj.add ((l.getD 0).toNat * ah.size))) ((h.getD len).toNat - (l.getD 0).toNat) (ab - (l.getD 0).toNat),?_,?_⟩
      ·simp only[execOp,Instr.sliceAt,Instr.slice,g3,LW,LZ ar,Lz,hb,WQ ao,Nc,Br,LG,Dh];split<;>rfl
      ·by_cases ag:ab=(l.getD 0).toNat
       ·rw[Lc ag];exact .slice id _ _ _ _ i _ g1 (.inr ⟨by omega,by omega⟩) (by omega) (by omega) (λ_=>⟨ay,az⟩) (λh=>by omega)
       ·rw[Le ag];refine .slice id _ _ _ _ i _ g1 (.inl ?_) (by omega) (by omega) (λ_=>⟨ay,az⟩) (λh=>by omega);rcases g4 with h | ⟨h,h'⟩
        ·rw[h,Gj]
        ·exfalso;omega
     ·cases q
    ·rename_i m;split at q
     ·rename_i ae;obtain⟨ac,ad,ai,ak,aE⟩:=ae;cases q;have hb:=Qem (P:=P) (A:=A) (w:=w) (λy e=>aa y (by simp[Op.operands,e])) (λy e=>aa y (by simp[Op.operands,e])) (λy e=>aa y (by simp[Op.operands,e])) am al an aq (len:=len) (cap:=ab) ac ad ai (by simp only[NB];omega) true;refine⟨.slice (some (aj.add ((l.getD 0).toNat * ah.size))) ((h.getD len).toNat - (l.getD 0).toNat) (m.toNat - (l.getD 0).toNat),?_,?_⟩
      ·simp only[execOp,Instr.sliceAt,Instr.slice,g3,LW,LZ ar,Lz,hb,WQ ao,Nc,NB,Dh];rw[Le (by omega)]
      ·refine .slice id _ _ _ _ i _ g1 (.inl ?_) (by omega) (by omega) (λh=>?_) (λ_=>rfl)
       ·rcases g4 with h | ⟨h,h'⟩
        ·rw[h,Gj]
        ·exfalso;omega
       ·exfalso;omega
     ·cases q
   ·rename_i aA;have aC:=ax (by omega);subst aC;split at q
    ·rename_i ae;obtain⟨ac,ad,ai,ak⟩:=ae;cases q;have hb:=Qem (P:=P) (A:=A) (w:=w) (λy e=>aa y (by simp[Op.operands,e])) (λy e=>aa y (by simp[Op.operands,e])) (λy e=>aa y (by simp[Op.operands,e])) am al an aq (len:=len) (cap:=ab) ac ad ai ak true;refine⟨.slice (some (if(m.getD ab).toNat=(l.getD 0).toNat then aj else aj.add ((l.getD 0).toNat * ah.size))) ((h.getD len).toNat - (l.getD 0).toNat) ((m.getD ab).toNat - (l.getD 0).toNat),?_,?_⟩
     ·simp only[execOp,Instr.sliceAt,Instr.slice,g3,LW,LZ ar,Lz,hb,WQ ao,Nc,Dh];split<;>rfl
     ·by_cases ag:(m.getD ab).toNat=(l.getD 0).toNat
      ·rw[Lc ag,Lc ag];exact .slice id _ _ _ _ i _ g1 (.inr ⟨by omega,by omega⟩) (by omega) (by omega) (λh=>by omega) (λ_=>rfl)
      ·rw[Le ag,Le ag];refine .slice id _ _ _ _ i _ g1 (.inl ?_) (by omega) (by omega) (λh=>by omega) (λ_=>rfl);rcases g4 with h | ⟨h,h'⟩
       ·rw[h,Gj]
       ·exfalso;omega
    ·cases q
  ·cases q
end
section
variable {P:Program} {n:Nat} {A:Env} {H:Qa} {d:Option Nat} {ty:TypeId} {pos:String} {af:Array Edge} {g:Option (Nat×Bool)}
theorem Gk (ρ:Operand->Value)(b:Builtin)(args:Array Operand)(q:Array TypeId):
  execOp ρ ⟨d,.call ⟨.builtin b,args,q⟩,ty,pos,af,g⟩=builtin b q ty (args.map λ| .const _=>true | _=>false) (args.map ρ):=by
 simp only[execOp,resolve,invoke,pure_bind];rfl
def QCU (P:Program)(t:TypeId)(x:Value):Option Nat:=
 match P.underlying t with
 | some .string=>match x with | .string s=>some (bl s).length | _=>none
 | some (.array m _)=>some m
 | some (.slice _)=>match x with | .slice _ m _=>some m | _=>none
 | some (.pointer q)=>match P.underlying q with | some (.array m _)=>some m | _=>none
 | some (.map _ _)=>match x with | .map none=>some 0 | _=>none
 | _=>none
theorem QG5 {t:TypeId}{x:Operand}{m:Nat}(h:QCU P t (ev A x)=some m):QD P ⟨d,.call ⟨.builtin .len,#[x],#[t]⟩,ty,pos,af,g⟩ A H (.int .i64 m) H:=
 .pure_ λρ w s aj ac=>by
  have ab:=ac x (by simp[Op.operands,Call.operands]);refine⟨.int .i64 m,?_,.same _ rfl⟩;rw[Gk];generalize ev A x=u at ab h;have ae:(Builtin.len_ #[t] ty #[s.eval x]).run P w=.ok (.int .i64 m) w:=by
   unfold QCU at h;split at h
   ·rename_i aa;split at h
    ·cases h;simp[Builtin.len_,LZ aa,ab.plain_eq rfl,goInt,QnE]
    ·cases h
   ·rename_i q e aa;cases h;simp[Builtin.len_,LZ aa,goInt]
   ·rename_i e aa;split at h
    ·rename_i a ag c;cases h;cases a with
     | none=>simp[Builtin.len_,LZ aa,ab.plain_eq rfl,goInt]
     | some a=>
      obtain⟨i,ah,ai,g1,g2,g3,_⟩:=ab.slice_inv;simp[Builtin.len_,LZ aa,g3,goInt]
    ·cases h
   ·rename_i q aa;split at h
    ·rename_i ag e ad;cases h;simp[Builtin.len_,LZ aa,LZ ad,goInt]
    ·cases h
   ·rename_i k e aa;split at h
    ·cases h;simp[Builtin.len_,LZ aa,ab.plain_eq rfl,goInt]
    ·cases h
   ·cases h
  simp only[builtin,R9,NZ,Bq,LW,ae,Lz,Nc]
theorem QG6 {t e:TypeId}{x:Operand}{a:Option Addr}{m c:Nat}(aa:P.underlying t=some (.slice e))(ab:ev A x=.slice a m c)(ad:Nat.blt c UNK=true):
  QD P ⟨d,.call ⟨.builtin .cap,#[x],#[t]⟩,ty,pos,af,g⟩ A H (.int .i64 c) H:=
 .pure_ λρ w s al ae=>by
  have q:=ae x (by simp[Op.operands,Call.operands]);rw[ab]at q;refine⟨.int .i64 c,?_,.same _ rfl⟩;rw[Gk];have ag:(Builtin.cap_ #[t] ty #[s.eval x]).run P w=.ok (.int .i64 c) w:=by
   cases a with
   | none=>simp[Builtin.cap_,LZ aa,q.plain_eq rfl,goInt]
   | some a=>
    obtain⟨i,ah,ai,g1,g2,g3,g4,aj,g0,ak,ac⟩:=q.slice_inv;have:=ac (by simpa using ad);simp[Builtin.cap_,LZ aa,g3,goInt,this]
  simp only[builtin,R9,NZ,Bq,LW,ag,Lz,Nc]
theorem QEL {ac:Array TypeId}{x y:Operand}{k:IntKind}{a b:Int}(aa:ev A x=.int k a)(ab:ev A y=.int k b):
  QD P ⟨d,.call ⟨.builtin .max,#[x,y],ac⟩,ty,pos,af,g⟩ A H (.int k (if b>a then b else a)) H:=
 .pure_ λρ w s ad q=>by
  have e1:=Gy (q x (by simp[Op.operands,Call.operands])) aa rfl;have e2:=Gy (q y (by simp[Op.operands,Call.operands])) ab rfl;refine⟨_,?_,.same _ rfl⟩;rw[Gk];simp[builtin,e1,e2,Builtin.max_,Builtin.max2]
theorem QEM {ac:Array TypeId}{x y:Operand}{k:IntKind}{a b:Int}(aa:ev A x=.int k a)(ab:ev A y=.int k b):
  QD P ⟨d,.call ⟨.builtin .min,#[x,y],ac⟩,ty,pos,af,g⟩ A H (.int k (if b<a then b else a)) H:=
 .pure_ λρ w s ad q=>by
  have e1:=Gy (q x (by simp[Op.operands,Call.operands])) aa rfl;have e2:=Gy (q y (by simp[Op.operands,Call.operands])) ab rfl;refine⟨_,?_,.same _ rfl⟩;rw[Gk];simp[builtin,e1,e2,Builtin.min_,Builtin.min2]
/-! ### append -/
def Je (s:ByteArray):List Value:=s.data.toList.map λb=>.int .u8 b.toNat
def Zt (size:Nat)(x:Value)(H:Qa):Option (Nat×List Value):=
 match x with
 | .slice none 0 _=>some (0,[])
 | .slice (some a) m _=>
  if m=0 then some (0,[]) else
  match H.get a.block with
  | some (.cells c _ _)=>if a.off+m * size<=c.length then some (m,(c.drop a.off).take (m * size)) else none
  | _=>none
 | .string s=>if size=1 then some ((bl s).length,Je s) else none
 | _=>none
theorem QAH {ρ:Ren}{w:World}(ak:Sim P ρ H w){size m:Nat}{x x':Value}{c:List Value}(ab:V ρ x x')(h:Zt size x H=some (m,c)):
  (Builtin.lenOf x').run P w=.ok m w∧c.length=m * size∧∀q,q<=m->∃c':List Value,VL ρ (c.take (q * size)) c'∧∀w':World,(∀a:Addr,w'.cell? a=w.cell? a)->(Builtin.firstCells size q x').run P w'=.ok c'.toArray w':=by
 unfold Zt at h;split at h
 ·cases h;rw[ab.plain_eq rfl];refine⟨rfl,by simp,λq aa=>⟨[],by simpa using VL.nil ρ,λw' _=>rfl⟩⟩
 ·rename_i a aw cap;obtain⟨i,ac,ae,g1,g2,g3,g4,aq,g0,ar,au⟩:=ab.slice_inv;split at h
  ·rename_i ad;cases h;subst ad;rw[g3];refine⟨rfl,by simp,λq aa=>⟨[],by simpa using VL.nil ρ,λw' _=>?_⟩⟩;obtain rfl:q=0:=by omega
   simp[Builtin.firstCells,loadCells,loadCellsFrom]
  ·rename_i ad;split at h
   ·rename_i ao e ro ah;split at h
    ·rename_i av;cases h;have ag:ac=i.at_.add a.off:=by rcases g4 with h | ⟨h,_⟩;exact h;omega
     rw[g3];refine⟨rfl,by simp;omega,λq aa=>?_⟩;have aj:q * size<=m * size:=Bs _ aa;obtain⟨cs,k1,k2,k3⟩:=(ak.live _ _ i ah g1).cellsAt a.off (q * size) (by omega);refine⟨cs,by rw[DE,BC aj];exact k2,λw' an=>?_⟩;have:=run_firstCells_some (P:=P) w' size q ac m ae cs k1 (λj v ai=>by rw[an,ag];exact k3 j v ai);exact this
    ·cases h
   ·cases h
 ·rename_i s;split at h
  ·rename_i al;cases h;subst al;rw[ab.plain_eq rfl];refine⟨rfl,(by rw[NH];simp only[Je,Nn,Array.length_toList];rfl),λq aa=>⟨(Je s).take (q * 1),.closed ?_,λw' _=>?_⟩⟩
   ·rw[Li];intro v am;have:=List.mem_of_mem_take am;simp only[Je,N4]at this;obtain⟨b,_,rfl⟩:=this;rfl
   ·simp only[Builtin.firstCells,Nc];congr 1;apply Ru;rw[NH];simp only[Array.toList_map,Je];simp[ByteArray.data_extract,List.map_take]
  ·cases h
 ·cases h
def Qj2:TypeDesc->Bool
 | .slice _=>true
 | .string=>true
 | _=>false
theorem QhN {q:TypeDesc}(h:Qj2 q=true):q=.string∨∃e,q=.slice e:=by
 cases q<;>simp[Qj2]at h
 ·exact .inl rfl
 ·exact .inr ⟨_,rfl⟩
theorem GQ {t t2 e:TypeId}{aa:TypeInfo}{ai:TypeDesc}{x':Value}{q sCap m:Nat}{base:Option Addr}{w w':World}{c':List Value}(ag:P.underlying t=some (.slice e))(ah:P.underlying t2=some ai)(ad:Qj2 ai=true)(hi:P.info? e=some aa)
  (ac:(Builtin.lenOf x').run P w=.ok m w) (ab:(Builtin.firstCells aa.size m x').run P w=.ok c'.toArray w) (ae:q+m<=sCap)
  (ak:∀a,base=some a->(storeCells (a.add (q * aa.size)) c').run P w=.ok () w') (aj:base=none->w'=w):
  (Builtin.append_ #[t,t2] ty #[.slice base q sCap,x']).run P w=.ok (.slice base (q+m) sCap) w':=by
 cases base with
 | none=>
  obtain rfl:=aj rfl;rcases QhN ad with rfl | ⟨e',rfl⟩<;>simp[Builtin.append_,LZ ag,LZ ah,WQ hi,ac,ae,ab]
 | some a=>
  have:=ak a rfl;rcases QhN ad with rfl | ⟨e',rfl⟩<;>simp[Builtin.append_,LZ ag,LZ ah,WQ hi,ac,ae,ab,this]
theorem Qgw {t t2 e:TypeId}{aa:TypeInfo}{z:Value}{ab:TypeDesc}{x':Value}{q sCap m:Nat}{base:Option Addr}{w:World}{c' old:List Value}(al:P.underlying t=some (.slice e))(am:P.underlying t2=some ab)(aj:Qj2 ab=true)(hi:P.info? e=some aa)(an:aa.zero=some z)
  (ai:(Builtin.lenOf x').run P w=.ok m w) (ag:(Builtin.firstCells aa.size m x').run P w.drew=.ok c'.toArray w.drew) (ah:(Builtin.firstCells aa.size q (.slice base q sCap)).run P w.drew=.ok old.toArray w.drew) (ak:¬q+m<=sCap)
  (ao:q+m<=9223372036854775807) (ae:(q+m) * aa.bytes<=140737488355328):
  (Builtin.append_ #[t,t2] ty #[.slice base q sCap,x']).run P w=.ok (.slice (some ⟨w.heap.size,0,none⟩) (q+m) (grownCap w (q+m) sCap e)) (w.drew.alloc (.cells (old.toArray++c'.toArray++Builtin.zeroCells z.cells (grownCap w (q+m) sCap e - (q+m))) e)):=by
 have ad:¬ (9223372036854775807<((q:Int)+(m:Int))):=by omega
 have ac:¬ (281474976710656<Builtin.nextslicecap (q+m) sCap * aa.bytes):=by have:=growslice_fits (need:=q+m) (old:=sCap) (bytes:=aa.bytes) (by omega) ae;omega
 rcases QhN aj with rfl | ⟨e',rfl⟩<;>simp[Builtin.append_,LZ al,LZ am,sizeOf,typeInfo,zeroValue,hi,an,ai,ak,ad,ac,Question.forced,ag,ah,newRow,grownCap]<;>(congr 2;apply Ru;simp)
theorem Sim.drew {ρ:Ren}{w:World}(q:Sim P ρ H w):St ρ H w ρ H w.drew∧Sim P ρ H w.drew:=
  ⟨⟨.refl ρ,Lb _,λ_ _ _ h=>h,λ_ _ b b' _ h aa h'=>(by rw[h]at h';cases h';exact aa),λid i h h'=>(by rw[h']at h;cases h),rfl,rfl,rfl,Lb _,λ_ _ _=>rfl⟩,
   ⟨q.dom,λid b i h h'=>(q.live id b i h h').mono (.refl ρ) rfl,q.sep,q.glob⟩⟩
theorem Sim.move {ρ:Ren}{w w':World}(ac:Sim P ρ H w){id:Nat}{i i':Kj}{b b':Blk}(hi:ρ id=some i)(ag:H.get id=some b)(ai:b.ro=false)(ae:Qcv w w' i.at_.block)(am:i'.at_.block=i.at_.block)
  (hb:Xg P (ext ρ H.next i') i' w' b'):St ρ H w (ext ρ H.next i') ((H.kill id).push b') w'∧Sim P (ext ρ H.next i') ((H.kill id).push b') w':=by
 have au:=ac.none_next;have an:=Qfg i' au;have av:∀x j,ρ x=some j->x≠H.next:=λx j h e=>by rw[e,au]at h;cases h
 have ah:∀x,((H.kill id).push b').get x=if x=H.next then some b' else if x=id then none else H.get x:=λx=>by rw[Qc,Qdr,WV]
 refine⟨⟨an,by simp,λx j h h'=>?_,λx j aj ak h ab q aa=>?_,λx j h h'=>?_,ae.os,ae.tape,ae.output,(by rw[ae.size];exact Lb _),λk aC aB=>?_⟩,⟨λx j h=>?_,λx bl j h h'=>?_,λao aq aj ak aw ax ab q aa ad ar al=>?_,λay az=>?_⟩⟩
 ·rw[ah,Le (av x j h)];split
  ·rfl
  ·exact h'
 ·rw[ah,Le (av x j h)]at aa;split at aa
  ·cases aa
  ·rw[ab]at aa;cases aa;exact q
 ·by_cases e:x=H.next
  ·subst e;rw[Xa]at h;cases h;exact⟨Lb _,.inr ⟨id,i,b,hi,am.symm,ag,ai⟩⟩
  ·rw[Ji ρ i' e,h']at h;cases h
 ·exact ae.other k (λe=>aB id i b hi ag ai e.symm)
 ·by_cases e:x=H.next
  ·subst e;simp
  ·rw[Ji ρ i' e]at h;have:=ac.dom _ _ h;simp;omega
 ·by_cases e:x=H.next
  ·subst e;rw[Xa]at h';cases h';rw[ah,Lc rfl]at h;cases h;exact hb
  ·rw[Ji ρ i' e]at h';rw[ah,Le e]at h;split at h
   ·cases h
   ·rename_i e2;refine(ac.live x bl j h h').mono an (ae.other _ ?_);exact λe'=>ac.sep id x b bl i j ag h hi h' ai (λh=>e2 h.symm) e'.symm
 ·rw[ah]at ab q
  by_cases e1:ao=H.next
  ·subst e1;rw[Le (λh=>al h.symm)]at q;split at q
   ·cases q
   ·rename_i e2;rw[Xa]at aa;cases aa;rw[Ji ρ _ (λh=>al h.symm)]at ad;rw[am];exact ac.sep id aq b ak i ax ag q hi ad ai (λh=>e2 h.symm)
  ·rw[Le e1]at ab;rw[Ji ρ i' e1]at aa;split at ab
   ·cases ab
   ·rename_i e3
    by_cases e2:aq=H.next
    ·subst e2;rw[Xa]at ad;cases ad;rw[am];exact ac.sep ao id aj b aw i ab ag aa hi ar e3
    ·rw[Le e2]at q;rw[Ji ρ i' e2]at ad;split at q
     ·cases q
     ·exact ac.sep ao aq aj ak aw ax ab q aa ad ar al
 ·obtain⟨j,aA,e⟩:=ac.glob ay az;exact⟨j,an _ _ aA,e⟩
theorem QrV (z:Array Value)(m:Nat):(Builtin.zeroCells z m).toList=YM z (m * z.size):=by
 simp[Builtin.zeroCells,YM,Array.toList_range]
theorem Sim.grow {ρ:Ren}{w:World}(ak:Sim P ρ H w){e:TypeId}{q:TypeInfo}{z:Value}(aa:Qcw P e q z){o o' c c':List Value}{need cap:Nat}(aj:VL ρ o o')(ad:VL ρ c c')(ai:o.length+c.length=need * q.size)(ae:need<=cap)(an:cap<UNK):
  let i:Kj:=⟨⟨w.heap.size,0,none⟩,cap * q.size,P.cellsOf e⟩
  let w':=w.drew.alloc (.cells (o'.toArray++c'.toArray++Builtin.zeroCells z.cells (cap - need)) e)
  St ρ H w (ext ρ H.next i) (H.push (.cells (o++c) e false)) w'∧Sim P (ext ρ H.next i) (H.push (.cells (o++c) e false)) w'∧V (ext ρ H.next i) (.slice (some ⟨H.next,0,none⟩) need (UNK+q.size)) (.slice (some ⟨w.heap.size,0,none⟩) need cap):=by
 intro i w';obtain⟨av,aw⟩:=ak.drew;have ab:(o'.toArray++c'.toArray++Builtin.zeroCells z.cells (cap - need)).toList=(o'++c')++YM z.cells ((cap - need) * q.size):=by
  rw[Array.toList_append,QrV,aa.cells];simp
 have aq:(o'++c').length=need * q.size:=by rw[Lh,<- aj.1,<- ad.1];exact ai
 have ar:need * q.size+(cap - need) * q.size=cap * q.size:=by rw[<- Ry];congr 1;omega
 have au:(o'.toArray++c'.toArray++Builtin.zeroCells z.cells (cap - need)).size=cap * q.size:=by
  rw[<- Array.length_toList,ab,Lh,aq];simp[YM];exact ar
 have hb:Xg P (ext ρ H.next i) i (w.drew.alloc (.cells (o'.toArray++c'.toArray++Builtin.zeroCells z.cells (cap - need)) e)) (.cells (o++c) e false):=by
  have al:VL (ext ρ H.next i) (o++c) (o'++c'):=(aj.append ad).mono (Qfg _ ak.none_next);refine⟨_,(0,0),heap_alloc_new w.drew _,⟨rfl,rfl⟩,by simp only[i];rw[au];simp,?_,λj v ao=>?_,λo _ _=>by simp,λk v ag ah=>?_,rfl⟩
  ·simp only[i];rw[Lh,ai];exact Bs _ ae
  ·obtain⟨ax,ac,am⟩:=al.get ao;refine⟨ax,?_,am⟩;simp only[i,LP];rw[<- Bl,ab,LY (Lk.1 ac).1];exact ac
  ·simp only[i,LP]at ag;rw[<- Bl,ab,LR (by rw[<- al.1];exact ag)]at ah;exact aa.spare (QBB _ _ (by rw[aa.cells];exact aa.pos) ah)
 obtain⟨t1,t2⟩:=aw.push _ (.cells (o++c) e false) i rfl hb;refine⟨av.trans t1,t2,?_⟩;refine .slice H.next 0 need _ cap i _ (Xa _ _ _) (.inl (by rw[Qfe])) ae an (λ_=>?_) (λh=>by omega);simp only[i,LP];rw[aa.cellsOf];exact⟨by omega,rfl⟩
def Qlq (e:TypeId)(q:TypeInfo)(s x:Value)(H:Qa):Option (Value×Qa):=
 match Zt q.size x H with
 | none=>none
 | some (m,news)=>
  if news.all (·.oneCell')=true then
   match s with
   | .slice none 0 0=>
    if m=0 then some (.slice none 0 0,H) else
    if m<=9223372036854775807∧m * q.bytes<=140737488355328 then some (.slice (some ⟨H.next,0,none⟩) m (UNK+q.size),H.push (.cells news e false)) else none
   | .slice (some a) len cap=>
    if m=0 then(if UNK<=cap∨len<=cap then some (.slice (some a) len cap,H) else none) else
    match H.get a.block with
    | some (.cells c e' ro)=>
     if a.off+len * q.size<=c.length∧len+m<=9223372036854775807∧(len+m) * q.bytes<=140737488355328 then
      if UNK<=cap then
       if ro=false∧e'=e∧a.off=0∧a.off+len * q.size=c.length then some (.slice (some ⟨H.next,0,none⟩) (len+m) (UNK+q.size),(H.kill a.block).push (.cells (c.drop a.off++news) e false))
       else if ro=false∧cap=UNK+q.size∧a.off+(len+m) * q.size<=c.length then some (.slice (some a) (len+m) cap,H.set a.block (.cells (splice c (a.off+len * q.size) news) e' false)) else none
      else if len+m<=cap then
       (if ro=false∧a.off+(len+m) * q.size<=c.length then some (.slice (some a) (len+m) cap,H.set a.block (.cells (splice c (a.off+len * q.size) news) e' false)) else none)
      else some (.slice (some ⟨H.next,0,none⟩) (len+m) (UNK+q.size),H.push (.cells ((c.drop a.off).take (len * q.size)++news) e false))
     else none
    | _=>none
   | _=>none
  else none
theorem Xg.storeEnd {ρ:Ren}{i:Kj}{w:World}{c:List Value}{e:TypeId}(hb:Xg P ρ i w (.cells c e false)){off:Nat}{aa ab:List Value}(ae:VL ρ aa ab)(aM:off<=c.length)(aG:off=0)(aL:c.length+aa.length<=i.n)
  (ao:∀v∈aa,v.oneCell'=true):∃w',(storeCells (i.at_.add c.length) ab).run P w=.ok () w'∧Qcv w w' i.at_.block∧Xg P ρ ⟨i.at_.add off,i.n - off,i.s⟩ w' (.cells (c.drop off++aa) e false):=by
 obtain⟨am,ag,aw,ad,aN,aH,ar,ah,aC,au⟩:=hb;have ax:=ae.1;have aq:∀v∈ab,v.oneCell'=true:=λaF aE=>by
  obtain⟨j,q⟩:=BP aE;have aj:j<aa.length:=by rw[ax];exact(Lk.1 q).1
  have:=ae.2 j _ aF (La aj) q;rw[this.oneCell];exact ao _ (Nb aj)
 rw[Qnz ad.1,Qnz ad.1];obtain⟨w',an,aB,av,aA,aD,ac⟩:=Qel P i.at_.block (i.at_.off+c.length) e ag ab 0 am w aw (by omega) (λk aJ aK=>ah k (by omega) (by omega)) aq;simp only[N9]at ac;refine⟨w',aB,aA,an,ag,av,⟨rfl,by have:=ad.2;simp only;omega⟩,?_,?_,λj v q=>?_,λo az ak=>ah o (by simp only at az;omega) (by rw[aD]at ak;exact ak),λo v ay al=>?_,au⟩
 ·simp only;omega
 ·simp;omega
 ·simp only;rw[ac]
  by_cases ai:j<c.length - off
  ·rw[LY (by simpa using ai),Nk]at q;rw[Le (by omega),Rh];exact ar _ v q
  ·rw[LR (by simpa using ai)]at q;simp only[NT]at q;have aI:j - (c.length - off)<aa.length:=(Lk.1 q).1;rw[Lc ⟨by omega,by omega⟩];rw[show i.at_.off+off+j - (i.at_.off+c.length)=j - (c.length - off) by omega];exact ae.get q
 ·simp only[Lh,NT]at ay;rw[ac,Le (by omega)]at al;exact aC o v (by omega) al
theorem GF.kill_push (H:Qa)(id:Nat)(b:Blk):GF ((H.kill id).push b) (H.push b):=by
 refine⟨by simp,λk bl q=>?_⟩;have aa:=Qc (H.kill id) k b;have ab:=Qc H k b
 by_cases e:k=H.next
 ·rw[Lc (by exact e)]at aa ab;rw[aa]at q;rw[ab];exact q
 ·rw[Le (by exact e)]at aa ab;rw[aa,WV]at q;rw[ab]
  by_cases e2:k=id
  ·rw[Lc e2]at q;cases q
  ·rw[Le e2]at q;exact q
theorem QBC {t t2 e:TypeId}{x y:Operand}{aa:TypeInfo}{z:Value}{aV:TypeDesc}{v:Value}{H':Qa}(am:P.underlying t=some (.slice e))(an:P.underlying t2=some aV)(al:Qj2 aV=true)(ac:Qcw P e aa z)
  (h:Qlq e aa (ev A x) (ev A y) H=some (v,H')):QD P ⟨d,.call ⟨.builtin .append,#[x,y],#[t,t2]⟩,ty,pos,af,g⟩ A H v H':=
 .of_run λρ w s ah aF=>by
  rw[Gk];have aB:=aF x (by simp[Op.operands,Call.operands]);have aL:=aF y (by simp[Op.operands,Call.operands])
  suffices bq:∃ai ρ' w',(Builtin.append_ #[t,t2] ty #[s.eval x,s.eval y]).run P w=.ok ai w'∧V ρ' v ai∧St ρ H w ρ' H' w'∧Sim P ρ' H' w' by
   obtain⟨ai,ρ',w',aN,aO,aP,aZ⟩:=bq;refine⟨ai,ρ',w',?_,aO,aP,aZ⟩;simp only[builtin,R9,NZ,Bq,LW,aN,Lz,Nc]
  generalize ev A x=u at aB h;generalize ev A y=u2 at aL h;generalize s.eval x=x' at aB;generalize s.eval y=y' at aL;unfold Qlq at h;split at h
  ·cases h
  ·rename_i m aq bw;obtain⟨ak,au,bg⟩:=QAH ah aL bw;obtain⟨c',aj,aR⟩:=bg m (Lb _);rw[LF (by omega)]at aj;have ax:=aR w (λ_=>rfl);have aS:=aR w.drew (λ_=>rfl);split at h
   ·rename_i bv;have aJ:∀v∈aq,v.oneCell'=true:=λv bx=>Li.1 bv v bx;split at h
    ·-- nil
     have e1:=aB.plain_eq rfl;subst e1;split at h
     ·rename_i ay;cases h;subst ay;exact⟨.slice none 0 0,ρ,w,GQ am an al ac.info ak ax (by omega) (λa h=>by cases h) (λ_=>rfl),.same _ rfl,.refl _ _ _,ah⟩
     ·rename_i ay;split at h
      ·rename_i bd;cases h;have ab:¬0+m<=0:=by omega
       have ag:=Qgw (ty:=ty) (old:=[]) (base:=none) (sCap:=0) am an al ac.info ac.zero ak aS rfl ab (by omega) (by rw[LP];exact bd.2);obtain⟨g1,g2,g3⟩:=ah.grow ac (o:=[]) (o':=[]) (.nil ρ) aj (need:=m) (cap:=grownCap w (0+m) 0 e) (by simpa using au) (by have:=grownCap_ge w (0+m) 0 e;omega) (by
        have:=grownCap_le_maxLen w (0+m) 0 e (by simp only[maxLen];omega);simp only[maxLen,UNK]at *;omega)
       rw[LP]at ag g1 g2 g3;exact⟨_,_,_,ag,g3,g1,g2⟩
      ·cases h
    ·rename_i a len cap;obtain⟨i,ad,q,g1,g2,g3,g4,b1,g0,aH,aM⟩:=aB.slice_inv;obtain⟨id,off,sp⟩:=a;simp only at g1 g2 g4 aH aM h;subst g2;subst g3;split at h
     ·rename_i ay;split at h
      ·rename_i b2;cases h;subst ay;have br:c'=[]:=by
        have:aq=[]:=N2.1 (by simpa using au);rw[this]at aj;exact aj.unnil
       subst br;exact⟨_,ρ,w,GQ am an al ac.info ak ax (by omega) (λa _=>rfl) (λh=>by cases h),aB,.refl _ _ _,ah⟩
      ·cases h
     ·rename_i ay;split at h
      ·rename_i c e' ro aG;split at h
       ·rename_i hb;obtain⟨ba,bb,bc⟩:=hb;have ao:=ah.live id _ i aG g1;obtain⟨o',k1,k2,k3⟩:=ao.cellsAt off (len * aa.size) ba;have bu:(Builtin.firstCells aa.size len (.slice (some ad) len q)).run P w.drew=.ok o'.toArray w.drew:=by
         by_cases bn:len=0
         ·subst bn;have:o'=[]:=N2.1 (by simpa using k1);subst this;simp[Builtin.firstCells,loadCells,loadCellsFrom]
         ·have ae:ad=i.at_.add off:=by rcases g4 with h | ⟨h,_⟩;exact h;omega
          exact run_firstCells_some (P:=P) w.drew aa.size len ad len q o' k1 (λj v bm=>by rw[ae];exact k3 j v bm)
        have aT:¬len+m<=q->∃ai ρ' w',(Builtin.append_ #[t,t2] ty #[.slice (some ad) len q,y']).run P w=.ok ai w'∧V ρ' (.slice (some ⟨H.next,0,none⟩) (len+m) (UNK+aa.size)) ai∧
          St ρ H w ρ' (H.push (.cells ((c.drop off).take (len * aa.size)++aq) e false)) w'∧Sim P ρ' (H.push (.cells ((c.drop off).take (len * aa.size)++aq) e false)) w':=λab=>by
         have ag:=Qgw (ty:=ty) (old:=o') am an al ac.info ac.zero ak aS bu ab bb bc;obtain⟨g1,g2,g3⟩:=ah.grow ac k2 aj (need:=len+m) (cap:=grownCap w (len+m) q e) (by rw[k2.1,k1,au,Ry]) (grownCap_ge w (len+m) q e) (by
          have:=grownCap_le_maxLen w (len+m) q e (by simp only[maxLen];omega);simp only[maxLen,UNK]at *;omega)
         exact⟨_,_,_,ag,g3,g1,g2⟩
        split at h
        ·rename_i aK;split at h
         ·rename_i av;obtain⟨aA,bi,bz,bj⟩:=av;cases h;subst aA;subst bi
          by_cases ab:len+m<=q
          ·obtain⟨aQ,aE⟩:=aH aK;have aI:i.s=aa.size:=by
            obtain⟨aW,aX,_,_,_,_,_,_,_,aF⟩:=ao;rw[aF,ac.cellsOf]
           have ae:ad=i.at_.add off:=by rcases g4 with h | ⟨h,h'⟩;exact h;omega
           have aw:c.length+aq.length<=i.n:=by
            rw[aI]at aE;have:(len+m) * aa.size<=q * aa.size:=Bs _ ab;rw[Ry]at this;omega
           obtain⟨w',ag,az,ar⟩:=ao.storeEnd (off:=off) aj (by omega) bz aw aJ;obtain⟨aC,aD⟩:=ah.move (i':=⟨i.at_.add off,i.n - off,i.s⟩) g1 aG rfl az (by simp[block_add]) (ar.mono (Qfg _ ah.none_next) rfl);refine⟨.slice (some ad) (len+m) q,_,w',GQ am an al ac.info ak ax ab (λb hb=>?_) (λh=>by cases h),?_,aC,aD⟩
           ·cases hb;rw[ae,Gj,bj];exact ag
           ·refine .slice H.next 0 (len+m) _ q _ ad (Xa _ _ _) (.inl ?_) ab g0 (λ_=>?_) (λh=>by omega)
            ·simp only[Gj,N9];exact ae
            ·simp only[LP];exact⟨by omega,by omega⟩
          ·obtain⟨ai,ρ',w',r1,r2,r3,r4⟩:=aT ab;have bh:(c.drop off).take (len * aa.size)=c.drop off:=LF (by simp;omega);rw[bh]at r3 r4;have aU:=GF.kill_push H id (.cells (c.drop off++aq) e' false);exact⟨ai,ρ',w',r1,r2,r3.less aU,r4.less aU⟩
         ·split at h
          ·rename_i av;obtain⟨aA,b5,aw⟩:=av;cases h;subst aA;obtain⟨aQ,aE⟩:=aH aK;have aI:i.s=aa.size:=by omega
           have bo:=ao;obtain⟨aW,aX,b6,_,b4,b3,_⟩:=bo;have ab:len+m<=q:=by
            rcases Nq q (len+m) with bp | bk
            ·exfalso;have aN:(q+1) * aa.size<=(len+m) * aa.size:=Bs _ bp;have aO:(q+1) * aa.size=q * aa.size+aa.size:=Nat.succ_mul _ _;have aP:0<aa.size:=by have:=ac.pos;have:=ac.cells;omega
             rw[aI]at aE;omega
            ·exact bk
           have ae:ad=i.at_.add off:=by rcases g4 with h | ⟨h,h'⟩;exact h;omega
           obtain⟨w',ag,az,ar⟩:=ao.storeList (off:=off+len * aa.size) aj (by rw[au];rw[Ry]at aw;omega) aJ;obtain⟨aC,aD⟩:=ah.setBlk g1 aG rfl az ar;refine⟨.slice (some ad) (len+m) q,ρ,w',GQ am an al ac.info ak ax ab (λb hb=>?_) (λh=>by cases h),?_,aC,aD⟩
           ·cases hb;rw[ae,Gj];exact ag
           ·exact .slice id off (len+m) cap q i ad g1 (.inl ae) ab g0 (λ_=>⟨aQ,aE⟩) (λh=>by omega)
          ·cases h
        ·rename_i aK;have aY:=aM (by omega);subst aY;split at h
         ·rename_i ab;split at h
          ·rename_i av;cases h;obtain⟨aA,aw⟩:=av;subst aA;have ae:ad=i.at_.add off:=by rcases g4 with h | ⟨h,h'⟩;exact h;omega
           obtain⟨w',ag,az,ar⟩:=ao.storeList (off:=off+len * aa.size) aj (by rw[au];rw[Ry]at aw;omega) aJ;obtain⟨aC,aD⟩:=ah.setBlk g1 aG rfl az ar;refine⟨.slice (some ad) (len+m) q,ρ,w',GQ am an al ac.info ak ax ab (λb hb=>?_) (λh=>by cases h),?_,aC,aD⟩
           ·cases hb;rw[ae,Gj];exact ag
           ·exact .slice id off (len+m) q q i ad g1 (.inl ae) ab g0 (λh=>by omega) (λ_=>rfl)
          ·cases h
         ·rename_i ab;cases h;exact aT ab
       ·cases h
      ·cases h
    ·cases h
   ·cases h
end
inductive Out where
 | ret (v:Value)
 | pan (v:Value)
def QCV (ρ:Ren):Out->Ending->Prop
 | .ret v,.returned q=>V ρ v q
 | .pan v,.panicked ch=>∃q,V ρ v q∧ch=[{v:=q,recovered:=false}]
 | _,_=>False
def Qgx (P:Program)(f:FuncId)(args:List Value)(H:Qa)(o:Out)(H':Qa):Prop:=
 ∀ρ w args',Sim P ρ H w->VL ρ args args'->Calls P f args'.toArray w λe w'=>∃ρ',QCV ρ' o e∧St ρ H w ρ' H' w'∧Sim P ρ' H' w'
theorem Qgx.less {P:Program}{f:FuncId}{args:List Value}{H:Qa}{o:Out}{H1 H2:Qa}(h:Qgx P f args H o H1)(l:GF H2 H1):Qgx P f args H o H2:=
 λρ w args' aa q=>(h ρ w args' aa q).mono λe w' ⟨ρ',h1,h2,h3⟩=>⟨ρ',h1,h2.less l,h3.less l⟩
def QdL (args:List Value):Env:=λt=>args.getD t undef
section
variable {P:Program} {n:Nat} {Q:Ex->Env->Qa->Prop} {A:Env} {H:Qa} {d:Option Nat} {ty:TypeId} {pos:String} {af:Array Edge} {g:Option (Nat×Bool)}
def Qc0 (P:Program)(n:Nat)(A:Env)(H:Qa):ResultVar->Option Value
 | .tmp t=>if t<n then some (A t) else none
 | .cell a t=>if a<n then(match A a with | .pointer (some ad)=>ZD P t ad H | _=>none) else none
def QmE (P:Program)(n:Nat)(rs:Array ResultVar)(A:Env)(H:Qa):Option Value:=
 match rs.toList with
 | [r]=>Qc0 P n A H r
 | l=>(l.mapM (Qc0 P n A H)).map λq=>.tuple q.toArray
def Qqj (tmps:Array Value):ResultVar->Sem Value
 | .tmp t=>pure (tmps.getD t undef)
 | .cell a t=>do loadVar t (<- asAddr (tmps.getD a undef))
theorem QwW {ρ:Ren}{w:World}{a:Act}(aj:Sim P ρ H w)(ab:EnvRel ρ n A a){r:ResultVar}{v:Value}(h:Qc0 P n A H r=some v):∃q,(Qqj a.tmps r).run P w=.ok q w∧V ρ v q:=by
 cases r with
 | tmp t=>
  simp only[Qc0]at h;split at h
  ·rename_i aa;cases h;exact⟨_,rfl,ab.tmps t aa⟩
  ·cases h
 | cell p t=>
  simp only[Qc0]at h;split at h
  ·rename_i aa;split at h
   ·rename_i ae ag;have ad:=ab.tmps p aa;rw[ag]at ad;obtain⟨i,g1,g2,g3⟩:=ad.ptr_inv;obtain⟨id,off,sp⟩:=ae;simp only at g1 g2 g3;subst g2;obtain⟨c,e,ro,ac⟩:=Qj1 h;obtain⟨q,ah,ai⟩:=Qpj g1 ac (aj.live id _ i ac g1) h;refine⟨q,?_,ai⟩;simp only[Qqj,g3,asAddr,LW,Nc,Lz,ah]
   ·cases h
  ·cases h
theorem QwX {ρ:Ren}{w:World}{a:Act}(ac:Sim P ρ H w)(ab:EnvRel ρ n A a):∀ (rs:List ResultVar) (q:List Value),rs.mapM (Qc0 P n A H)=some q->∃aa,(rs.mapM (Qqj a.tmps)).run P w=.ok aa w∧VL ρ q aa
 | [],q,h=>by simp at h;subst h;exact⟨[],rfl,.nil ρ⟩
 | r::rs,q,h=>by
  simp only[Ra,BV,BY,Rx,Lt]at h;obtain⟨v,ai,al,aj,rfl⟩:=h;obtain⟨ak,ad,ae⟩:=QwW ac ab ai;obtain⟨aa,ag,ah⟩:=QwX ac ab rs al aj;refine⟨ak::aa,?_,.cons ae ah⟩;simp only[Ra,LW,ad,Lz,ag,Nc]
theorem QyS (fn:Func)(tmps:Array Value)(w:World):(results fn tmps).run P w=((fn.results.toList.mapM (Qqj tmps)).run P w).andThen λq w'=>.ok (if h:q.length=1 then q[0] else .tuple q.toArray) w':=by
 unfold results;rw[Array.mapM_eq_mapM_toList];simp only[LW,Sem.run_map];have key:∀F:ResultVar->Sem Value,(∀r,F r=Qqj tmps r)->((Sem.run P (List.mapM F fn.results.toList) w).andThen (λa w'=>Result.ok a.toArray w')).andThen (λa w'=>Sem.run P (pure (if h:a.size=1 then a[0] else Value.tuple a)) w') =
   (Sem.run P (List.mapM (Qqj tmps) fn.results.toList) w).andThen λq w'=>Result.ok (if h:q.length=1 then q[0] else Value.tuple q.toArray) w':=by
  intro F aa;obtain rfl:F=Qqj tmps:=funext aa;cases(fn.results.toList.mapM (Qqj tmps)).run P w with
  | ok q w'=>
   simp only[Lz,Nc];congr 1
  | halt x w'=>rfl
 exact key _ (λr=>by cases r<;>rfl)
theorem Qqk {ρ:Ren}{w:World}{a:Act}(ae:Sim P ρ H w)(ad:EnvRel ρ n A a){fn:Func}{v:Value}(h:QmE P n fn.results A H=some v):∃aa,(results fn a.tmps).run P w=.ok aa w∧V ρ v aa:=by
 rw[QyS];unfold QmE at h;split at h
 ·rename_i r ac;rw[ac];obtain⟨aa,ab,q⟩:=QwW ae ad h;refine⟨aa,?_,q⟩;simp only[Ra,FO,LW,ab,Lz,Nc];rfl
 ·rename_i am;simp only[Lx]at h;obtain⟨ah,ag,rfl⟩:=h;obtain⟨ai,ab,q⟩:=QwX ae ad _ ah ag;have ak:ai.length≠1:=by
   rw[<- q.1];have al:ah.length=fn.results.toList.length:=mapM_length ag;rw[al];intro aj;obtain⟨r,ac⟩:=List.length_eq_one_iff.1 aj;exact am r ac
  refine⟨.tuple ai.toArray,?_,.tuple _ _ (by simpa using q.1) (λj x x' a b=>q.2 j x x' (by simpa using a) (by simpa using b))⟩;rw[ab];simp only[Lz,ak,dite_false]
 where
 mapM_length {α β:Type} {f:α->Option β} {l:List α} {r:List β} (h:l.mapM f=some r):r.length=l.length:=by
  induction l generalizing r with
  | nil=>simp at h;subst h;rfl
  | cons x l ao=>
   simp only[Ra,BV,BY,Rx,Lt]at h;obtain⟨b,_,aq,an,rfl⟩:=h;simp[ao an]
theorem Qvj {ρ:Ren}{args args':List Value}(m:Nat)(h:VL ρ args args'):EnvRel ρ (args.length+(m - args.length)) (QdL args) {tmps:=args'.toArray++Array.replicate (m - args'.toArray.size) undef,defers:=[]}:=by
 have aa:=h.1;refine⟨by simp[aa],λt ae=>?_⟩;simp only[QdL];rw[N0]
 by_cases q:t<args.length
 ·obtain⟨x',ab,ad⟩:=h.get (La q);rw[Array.getElem?_append_left (by simpa[<- aa] using q)];have ac:args'.toArray[t]? = some x':=by simpa using ab
  rw[ac];simp only[List.getD,La q,NB];exact ad
 ·have e1:args.getD t undef=undef:=by simp[List.getD,N7 (by omega:args.length<=t)]
  rw[e1,Array.getElem?_append_right (by simp;omega),Array.getElem?_replicate];split
  ·exact .closed (by simp[undef,ZC])
  ·exact .closed (by simp[undef,ZC])
def QG7 (P:Program)(n:Nat)(rs:Array ResultVar)(o:Out)(H':Qa):Ex->Env->Qa->Prop
 | .normal,A,H1=>∃v,o=.ret v∧QmE P n rs A H1=some v∧GF H' H1
 | .ret,A,H1=>∃v,o=.ret v∧QmE P n rs A H1=some v∧GF H' H1
 | .panic v,A,H1=>o=.pan v∧GF H' H1
 | _,_,_=>False
/-! ### Blocks that nothing known may write, written by the machine -/
theorem Sim.putHid {ρ:Ren}{w:World}{b:Nat}{o o':Obj}(q:Sim P ρ H w)(aa:Hid ρ H w b o):Sim P ρ H (w.putObj b o'):=
 ⟨q.dom,λid bl i hb hi=>(q.live id bl i hb hi).mono (.refl ρ) (World.putObj_heap_other (aa.un id i bl hi hb)),q.sep,q.glob⟩
theorem St.putHid {ρ0 ρ:Ren}{H0:Qa}{aa w:World}{b:Nat}{o':Obj}(q:St ρ0 H0 aa ρ H w)(hb:aa.heap.size<=b):St ρ0 H0 aa ρ H (w.putObj b o'):=
 {q with
  size:=by simpa using q.size
  frame:=λk ab ac=>by rw[World.putObj_heap_other (by omega)];exact q.frame k ab ac}
theorem Hid.put {ρ:Ren}{w:World}{b d:Nat}{o o':Obj}(h:Hid ρ H w d o)(q:d≠b):Hid ρ H (w.putObj b o') d o:=
 ⟨by rw[World.putObj_heap_other q];exact h.at_,h.un⟩
theorem Hid.same {ρ:Ren}{w:World}{b:Nat}{o o':Obj}(h:Hid ρ H w b o):Hid ρ H (w.putObj b o') b o':=⟨World.putObj_heap_same h.lt,h.un⟩
theorem QhO {fn:Func}{tmps:Array Value}{R:Ending->World->Prop}{u:FrameMode}{z:Rd}{ρ0 ρ:Ren}{H0:Qa}{ab:World}(ad:u≠.run):∀ (q:List Nat) (w:World),q.Nodup->(∀d∈q,ab.heap.size<=d∧Hid ρ H w d (.deferred (some [])))->
  St ρ0 H0 ab ρ H w->Sim P ρ H w->(∀w,St ρ0 H0 ab ρ H w->Sim P ρ H w->LeavesIn (fen z) 0 P fn tmps R [] u w)->LeavesInM (fen z) 0 P fn tmps R (q.map QwO) u w
 | [],w,_,_,hst,hs,h=>h w hst hs
 | d::q,w,hn,hd,hst,hs,h=>by
  obtain⟨ae,ac⟩:=hd d (by simp);refine⟨ad,.inl ⟨d,_,rfl,run_takeDeferred ac.at_,?_⟩⟩;rw[FR]at hn;exact QhO ad q _ hn.2 (λx aa=>⟨(hd x (by simp[aa])).1,(hd x (by simp[aa])).2.put (λe=>hn.1 (e▸aa))⟩) (hst.putHid ae) (hs.putHid ac) h
theorem QrW {f:FuncId}{fn:Func}{c:Code}{args:List Value}{o:Out}{H':Qa}(ar:P.funcs[f]? = some fn)(hb:fn.body=some c)
  (h:AWp P (args.length+(fn.ntmps - args.length)) c (QG7 P (args.length+(fn.ntmps - args.length)) fn.results o H') (QdL args) H):Qgx P f args H o H':=by
 intro ρ w args' hs ha;refine callsIn_wide.1 (callsIn_of_wp_marks (F:=fen ⟨none,w.heap.size,[]⟩) (n:=0) ar hb trivial (FF (h ⟨none,w.heap.size,[]⟩ ρ w _ hs ⟨Qvj fn.ntmps ha,⟨⟨[],rfl,.nil,λd aq=>by simp at aq⟩,λl q=>by simp at q,Lb _⟩⟩) ?_));rintro e a1 am ⟨e',ρ1,A1,H1,ad,al,ak,ah,aj⟩;obtain⟨ac,aa,ai,ag⟩:=ah.fr.marks;have aa:a1.defers=ac.map QwO:=aa.trans (Na _);cases e'<;>cases e<;>simp only[Qqf]at aj<;>simp only[QG7]at ad
 case panic.panic v ch=>
  obtain⟨rfl,q⟩:=ad;show LeavesInM _ _ _ _ _ _ a1.defers _ _;rw[aa];exact QhO (by simp) ac am ai ag al ak (λaw ae ab=>⟨ρ1,aj,ae.less q,ab.less q⟩)
 all_goals
  obtain⟨v,rfl,au,q⟩:=ad;show LeavesInM _ _ _ _ _ _ a1.defers _ _;rw[aa];refine QhO (by simp) ac am ai ag al ak (λaw ae ab=>?_);obtain⟨av,an,ao⟩:=Qqk ab ah.toEnvRel (fn:=fn) au;exact⟨av,an,ρ1,ao,ae.less q,ab.less q⟩
/-! ### Calls -/
def entered (P:Program)(f:FuncId):Bool:=
 match P.funcs[f]? with
 | some fn=>!(fn.name == "runtime.NumGoroutine")&&fn.body.isSome
 | none=>false
theorem Qd3 {f:FuncId}(h:entered P f=true)(args:Array Value)(w:World):(callFunc f args).run P w=.ok (.enter f args) w:=by
 unfold entered at h;split at h
 ·rename_i fn ab;simp only[Lm,Lr]at h;obtain⟨q,ac⟩:=h;have aa:fn.body.isNone=false:=by cases hb:fn.body<;>simp_all
  simp only[callFunc,LW,DJ,Lz,ab,q,LV,LN,aa,Nc]
 ·cases h
theorem QyT (P:Program)(z:Rd)(m:Machine):m.fenced P (fen z):=fenced_wide P m
theorem Qql {z:Rd}{m q:Machine}:StepsIn (Machine.fenced P (fen z)) P m q↔Steps P m q:=by
 have:Machine.fenced P (fen z)=Machine.fenced P Fence.wide:=funext λm=>propext ⟨λ_=>fenced_wide P m,λ_=>QyT P z m⟩;rw[this];exact stepsIn_wide
theorem Qqm {z:Rd}{n:Nat}{f:FuncId}{args:Array Value}{w:World}{R:Ending->World->Prop}(h:Calls P f args w R):CallsIn (fen z) n P f args w R:=by
 refine⟨trivial,λcs _=>?_⟩;obtain⟨e,w',fr,r,s,x⟩:=h cs;refine⟨e,w',fr,r,?_,x⟩;cases e with
 | returned v=>exact Qql.2 s
 | panicked q=>exact Qql.2 s
 | outgrown=>exact s
theorem QrX {o:Oper}{f:FuncId}{args:List Value}{v:Value}{H':Qa}
  (ac:∀ρ w a,Sim P ρ H w->Qqg ρ o A a->∃args',VL ρ args args'∧(execOp a.eval o).run P w=.ok (.enter f args'.toArray) w) (ab:Qgx P f args H (.ret v) H'):QD P o A H v H':=by
 intro ρ w a hs he K Q hk z;obtain⟨args',aa,ad⟩:=ac ρ w a hs he;refine⟨λ_ _=>trivial,?_⟩;rw[QjY ad (by simp) _];refine⟨λh=>by simp[fen,Fence.wide]at h,?_⟩;refine Qqm ((ab ρ w args' hs aa).mono ?_);rintro e w' ⟨ρ',q,ag,ae⟩;cases e with
 | returned ah=>exact hk ah ρ' w' q ag ae
 | panicked ai=>exact q.elim
 | outgrown=>exact q.elim
def QAI (P:Program)(f:FuncId)(args:List Value)(H:Qa)(v:Value)(H':Qa):Prop:=
 ∀ρ w args',Sim P ρ H w->VL ρ args args'->∃q ρ' w',(callFunc f args'.toArray).run P w=.ok (.value q) w'∧V ρ' v q∧St ρ H w ρ' H' w'∧Sim P ρ' H' w'
def GR (P:Program)(f:FuncId)(args:List Value)(H:Qa)(v:Value)(H':Qa):Prop:=
 (entered P f=true∧Qgx P f args H (.ret v) H')∨QAI P f args H v H'
theorem Qpn {o:Oper}{f:FuncId}{args:List Value}{v:Value}{H':Qa}
  (ae:∀ρ w a,Sim P ρ H w->Qqg ρ o A a->∃args',VL ρ args args'∧(execOp a.eval o).run P w=(callFunc f args'.toArray).run P w) (ac:GR P f args H v H'):QD P o A H v H':=by
 rcases ac with⟨ag,ac⟩ | ah
 ·refine QrX (λρ w a q ad=>?_) ac;obtain⟨args',aa,ab⟩:=ae ρ w a q ad;exact⟨args',aa,by rw[ab,Qd3 ag]⟩
 ·refine .of_run λρ w a q ad=>?_;obtain⟨args',aa,ab⟩:=ae ρ w a q ad;rw[ab];exact ah ρ w args' q aa
theorem Qrz {f:FuncId}{args:Array Operand}{ac:Array TypeId}{v:Value}{H':Qa}(q:GR P f (args.map (ev A)).toList H v H'):
  QD P ⟨d,.call ⟨.value (.func f),args,ac⟩,ty,pos,af,g⟩ A H v H':=
 Qpn (λρ w a ad aa=>⟨(args.map a.eval).toList,Qup (λx ab=>aa x (by simp[Op.operands,Call.operands,ab])),by
  simp only[execOp,resolve,Deferred.ofValue,Act.eval,invoke,pure_bind,Array.empty_append,Array.append_empty,RE]⟩) q
theorem V.func_inv {ρ:Ren}{f:FuncId}{xs ys:Array Value}{z:Value}(h:V ρ (.func (.func f) xs ys) z):∃q aa,z=.func (.func f) q aa∧VL ρ xs.toList q.toList∧VL ρ ys.toList aa.toList:=by
 cases h with
 | same _ ag=>simp[plain]at ag
 | func fn xs ys q aa ah ab ac ad ae=>
  exact⟨q,aa,rfl,⟨by simpa using ab,λj x x' a b=>ad j x x' (by simpa using a) (by simpa using b)⟩,⟨by simpa using ac,λj x x' a b=>ae j x x' (by simpa using a) (by simpa using b)⟩⟩
theorem QwY {f:FuncId}{c:Operand}{args:Array Operand}{ah:Array TypeId}{xs ys:Array Value}{v:Value}{H':Qa}(ab:ev A c=.func (.func f) xs ys)
  (ae:GR P f (xs.toList++(args.map (ev A)).toList++ys.toList) H v H'):QD P ⟨d,.call ⟨.value c,args,ah⟩,ty,pos,af,g⟩ A H v H':=
 Qpn (λρ w a ak q=>by
  have aa:=q c (by simp[Op.operands,Call.operands]);rw[ab]at aa;obtain⟨ai,aj,e,ac,ad⟩:=aa.func_inv;refine⟨ai.toList++(args.map a.eval).toList++aj.toList,(ac.append (Qup (λx ag=>q x (by simp[Op.operands,Call.operands,ag])))).append ad,?_⟩;simp only[execOp,resolve,e,Deferred.ofValue,invoke,pure_bind];congr 2;apply Ru;simp) ae
/-! ### Panics -/
theorem GR.does {f:FuncId}{args:List Value}{v:Value}{H':Qa}(ab:entered P f=true)(h:GR P f args H v H'):Qgx P f args H (.ret v) H':=by
 rcases h with⟨_,aa⟩ | ac
 ·exact aa
 ·intro ρ w args' hs ha;obtain⟨ad,ρ',w',q,_⟩:=ac ρ w args' hs ha;rw[Qd3 ab]at q;cases q
/-! ### What the model runs itself -/
inductive Xk where
 | count | indexByte | noEscape | add64
def Xk.entry:Xk->Array Value->Sem Value
 | .count=>Extern.BytealgCount.count
 | .indexByte=>Extern.BytealgIndexByte.indexByte
 | .noEscape=>Extern.AbiNoEscape.same
 | .add64=>λargs=>do
  let (x,y,c) <- Extern.MathBitsCarry.three "Add64" args
  pure (Extern.MathBitsCarry.pair ((x+y+c) % Extern.MathBitsCarry.m64) ((x+y+c) / Extern.MathBitsCarry.m64))
def Xk.val:Xk->List Value->Option Value
 | .count,[.string s,.int .u8 c]=>some (.int .i64 (Lib.countByte (bl s) c.toNat.toUInt8))
 | .indexByte,[.string s,.int .u8 c]=>some (.int .i64 (Lib.indexByte (bl s) c.toNat.toUInt8))
 | .noEscape,[x]=>some x
 | .add64,[.int .u64 x,.int .u64 y,.int .u64 c]=>if c.toNat<=1 then some (.tuple #[.int .u64 (((x.toNat+y.toNat+c.toNat) % 18446744073709551616:Nat):Int),.int .u64 (((x.toNat+y.toNat+c.toNat) / 18446744073709551616:Nat):Int)]) else none
 | _,_=>none
def IsExt (P:Program)(f:FuncId)(k:Xk):Prop:=
 ∃fn,P.funcs[f]? = some fn∧(fn.name == "runtime.NumGoroutine")=false∧fn.body.isNone=true∧(Extern.findNext fn).isNone=true∧Extern.find fn=some k.entry
set_option maxHeartbeats 800000 in
theorem QCW {f:FuncId}{k:Xk}{args:List Value}{v:Value}(ab:IsExt P f k)(aa:k.val args=some v):QAI P f args H v H:=by
 obtain⟨fn,ag,ah,ad,ae,ai⟩:=ab;have ae:Extern.findNext fn=none:=by simpa using ae
 intro ρ w args' hs ha;rw[run_callFunc_extern ag ah ad ae ai];unfold Xk.val at aa;split at aa
 ·rename_i s c;cases aa;obtain⟨x,l,rfl,ab,q⟩:=ha.uncons;obtain⟨y,l,rfl,ac,q⟩:=q.uncons;obtain rfl:=q.unnil;rw[ab.plain_eq rfl,ac.plain_eq rfl];refine⟨_,ρ,w,?_,.same _ rfl,.refl _ _ _,hs⟩;rw[show Xk.count.entry=Extern.BytealgCount.count from rfl,Lib.run_countString];rfl
 ·rename_i s c;cases aa;obtain⟨x,l,rfl,ab,q⟩:=ha.uncons;obtain⟨y,l,rfl,ac,q⟩:=q.uncons;obtain rfl:=q.unnil;rw[ab.plain_eq rfl,ac.plain_eq rfl];refine⟨_,ρ,w,?_,.same _ rfl,.refl _ _ _,hs⟩;rw[show Xk.indexByte.entry=Extern.BytealgIndexByte.indexByte from rfl,Lib.run_indexByteString];rfl
 ·rename_i x;cases aa;obtain⟨y,l,rfl,ac,q⟩:=ha.uncons;obtain rfl:=q.unnil;exact⟨y,ρ,w,rfl,ac,.refl _ _ _,hs⟩
 ·rename_i x y c;split at aa
  ·rename_i ao;cases aa;obtain⟨aq,l,rfl,al,q⟩:=ha.uncons;obtain⟨ar,l,rfl,am,q⟩:=q.uncons;obtain⟨au,l,rfl,an,q⟩:=q.uncons;obtain rfl:=q.unnil;rw[al.plain_eq rfl,am.plain_eq rfl,an.plain_eq rfl];refine⟨_,ρ,w,?_,.closed (by simp[ZC,plain]),.refl _ _ _,hs⟩;have ak:¬c.toNat>1:=by omega
   have aj:Extern.MathBitsCarry.three "Add64" #[.int .u64 x,.int .u64 y,.int .u64 c]=(do
     let c:=(<- asInt (.int .u64 c)).toNat
     if c>1 then unsupported (.noEntry ("extern/math/bits." ++ "Add64" ++ ": a carry that is neither 0 nor 1"))
     pure ((<- asInt (.int .u64 x)).toNat,(<- asInt (.int .u64 y)).toNat,c)):=rfl
   have ad:(Extern.MathBitsCarry.three "Add64" #[.int .u64 x,.int .u64 y,.int .u64 c]).run P w=.ok (x.toNat,y.toNat,c.toNat) w:=by
    rw[aj];have hi:∀ (k:IntKind) (m:Int),(asInt (.int k m)).run P w=.ok m w:=λ_ _=>rfl;simp only[LW,hi,Lz,Le ak,Nc]
   simp only[Xk.entry,LW,ad,Lz,Nc];rfl
  ·cases aa
 ·cases aa
end
section
variable {P:Program} {n:Nat} {A:Env} {H:Qa} {d:Option Nat} {ty:TypeId} {pos:String} {af:Array Edge} {g:Option (Nat×Bool)}
theorem Qpr (w:World)(e:TypeId)(s:ByteArray):Lib.bytesWorld w e s=w.drew.alloc (.cells (Lib.bytesCells w e s) e ((Lib.bytesCells w e s).size,(Lib.bytesCells w e s).size+1)):=by
 simp only[Lib.bytesWorld,World.freeze,World.alloc,World.drew];simp only[Nat.succ_ne_zero,LN];congr 1;apply Array.ext
 ·simp
 ·intro i q aa;simp only[Array.size_modify,Array.size_push]at q
  by_cases hi:i=w.heap.size
  ·subst hi;rw[Array.getElem_modify_self];simp
  ·rw[Array.getElem_modify_of_ne (by omega)];rw[Array.getElem_push_lt (by omega),Array.getElem_push_lt (by omega)]
theorem QyY {src aa e:TypeId}{x:Operand}{s:ByteArray}{u:TypeDesc}{ag:TypeInfo}{z:Value}(ai:P.underlying src=some u)(aj:P.underlying aa=some (.slice e))(ak:P.underlying e=some (.int .u8))
  (ao:Qcw P e ag z) (ar:ag.size=1) (ah:ev A x=.string s) (ay:(bl s).length<=140737488355328):
  QD P ⟨d,.convert src aa x,ty,pos,af,g⟩ A H (.slice (some ⟨H.next,0,none⟩) (bl s).length (UNK+1)) (H.push (.cells (Je s) e false)):=
 .of_run λρ w a aq am=>by
  have e1:=Gy (am x (by simp[Op.operands])) ah rfl;have ae:=Lib.run_convert_string_bytes (P:=P) w src aa e s ai aj ak;have aB:s.size=(bl s).length:=rfl;have an:=grownCap_ge w s.size 0 e;have az:=grownCap_le_maxLen w s.size 0 e (by simp only[maxLen];omega);have aw:(Je s).length=(bl s).length:=by simp[Je,bl]
  have al:(Lib.bytesCells w e s).size=grownCap w s.size 0 e:=by
   simp only[Lib.bytesCells,Array.size_append,Array.size_map,Array.size_replicate];have:s.data.size=s.size:=rfl;omega
  have ad:(Lib.bytesCells w e s).toList=Je s++List.replicate (grownCap w s.size 0 e - s.size) (.int .u8 0):=by
   simp[Lib.bytesCells,Je]
  rw[Qpr]at ae;obtain⟨au,av⟩:=aq.drew
  let i:Kj:=⟨⟨w.heap.size,0,none⟩,grownCap w s.size 0 e,P.cellsOf e⟩
  have hb:Xg P (ext ρ H.next i) i (w.drew.alloc (.cells (Lib.bytesCells w e s) e ((Lib.bytesCells w e s).size,(Lib.bytesCells w e s).size+1))) (.cells (Je s) e false):=by
   refine⟨_,_,heap_alloc_new w.drew _,⟨rfl,rfl⟩,by simp only[i];rw[al];simp,by simp only[i];omega,λj v ab=>⟨v,?_,.same v ?_⟩,λo _ aA ax=>by omega,λk v ac q=>?_,rfl⟩
   ·simp only[i,LP];rw[<- Bl,ad,LY (Lk.1 ab).1];exact ab
   ·have:=Ln ab;simp only[Je,N4]at this;obtain⟨b,_,rfl⟩:=this;rfl
   ·simp only[i,LP]at ac;rw[<- Bl,ad,LR ac,List.getElem?_replicate]at q;split at q
    ·cases q;exact λ_=>⟨0,rfl,by omega,by omega⟩
    ·cases q
  obtain⟨t1,t2⟩:=av.push _ (.cells (Je s) e false) i rfl hb;refine⟨.slice (some ⟨w.heap.size,0,none⟩) s.size (grownCap w s.size 0 e),_,_,?_,?_,au.trans t1,t2⟩
  ·simp only[execOp,e1,LW,ae,Lz,Nc]
  ·refine .slice H.next 0 _ _ _ i _ (Xa _ _ _) (.inl (by rw[Qfe])) an (by simp only[maxLen,UNK]at *;omega) (λ_=>?_) (λh=>by simp only[UNK]at h;omega);simp only[i,LP];rw[ao.cellsOf,ar];exact⟨by simp only[UNK],by omega⟩
end
end Go.Ab
