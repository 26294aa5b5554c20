import Derived.WalkKit
import Derived.Laws.AppendOwn
import Derived.OrdersIn
import Derived.TacticsIn
import Derived.RangeFuncRecord
import Derived.Laws.StructEq
import Derived.Laws.Cover3
import Derived.Laws.Pointers
import Derived.Laws.MakeOwn
import Derived.RangeFuncNested
import Derived.Lib.Bytealg
import Derived.Lib.ConvBytes
set_option linter.defProp false
set_option linter.unusedVariables false
set_option linter.unusedSimpArgs false
noncomputable section
namespace Go.Ab
abbrev La:=@List.getElem?_eq_getElem
abbrev Lb:=@Nat.le_refl
abbrev Lc:=@if_pos
abbrev Le:=@if_neg
abbrev Lg:=@of_decide_eq_true
abbrev Lh:=@List.length_append
abbrev Li:=@List.all_eq_true
abbrev Lj:=@decide_eq_false
abbrev Lk:=@List.getElem?_eq_some_iff
abbrev Ll:=@of_decide_eq_false
abbrev Lm:=@Bool.and_eq_true
abbrev Ln:=@List.mem_of_getElem?
abbrev Lo:=@List.length_cons
abbrev Lp:=@decide_eq_true
abbrev Lq:=@cond_true
abbrev Lr:=@Bool.not_eq_true'
abbrev Ls:=@cond_false
abbrev Lt:=@Option.some.injEq
abbrev Lu:=@Bool.not_eq_false'
abbrev Lv:=@decide_eq_true_eq
abbrev Lw:=@List.drop_zero
abbrev Lx:=@Option.map_eq_some_iff
abbrev Ly:=@Option.some.inj
abbrev Lz:=@Result.andThen_ok
abbrev L0:=@beq_iff_eq
abbrev L7:=@Nat.zero_le
abbrev L8:=@Bool.not_true
abbrev L9:=@List.length_nil
abbrev LA:=@Nat.eq_of_beq_eq_true
abbrev LB:=@Prod.mk.injEq
abbrev LC:=@beq_eq_false_iff_ne
abbrev LD:=@List.getElem?_map
abbrev Sa:=@List.mem_singleton
abbrev LF:=@List.take_of_length_le
abbrev LG:=@Int.toNat_natCast
abbrev LH:=@List.nil_append
abbrev LI:=@List.mem_append
abbrev LJ:=@Bool.true_and
abbrev LK:=@List.mem_cons
abbrev LM:=@Bool.not_false
abbrev LN:=@if_false
abbrev LO:=@beq_self_eq_true
abbrev LP:=@Nat.zero_add
abbrev LQ:=@List.append_assoc
abbrev LR:=@List.getElem?_append_right
abbrev Sb:=@List.length_take
abbrev LU:=@List.mem_range
abbrev LV:=@Bool.false_eq_true
abbrev LW:=@Sem.run_bind
abbrev LX:=@List.getD_eq_getElem?_getD
abbrev LY:=@List.getElem?_append_left
abbrev LZ:=@run_underlying
abbrev Na:=@List.append_nil
abbrev Nb:=@List.getElem_mem
abbrev Nc:=@Sem.run_pure
abbrev Nf:=@decide_true
abbrev Ng:=@Array.getElem?_eq_getElem
abbrev Nh:=@List.drop_eq_getElem_cons
abbrev Ni:=@Bool.eq_iff_iff
abbrev Nj:=@Array.getElem?_eq_some_iff
abbrev Nk:=@List.getElem?_drop
abbrev Nl:=@List.getElem?_take
abbrev Nm:=@List.cons_append
abbrev Nn:=@List.length_map
abbrev Np:=@Int.fdiv_eq_ediv_of_nonneg
abbrev Nq:=@Nat.lt_or_ge
abbrev Nr:=@List.take_length
abbrev Ns:=@List.not_mem_nil
abbrev Nt:=@Bool.false_or
abbrev Nu:=@Eq.trans
abbrev Nv:=@List.take_add_one
abbrev Nw:=@Bool.or_eq_true
abbrev Ny:=@List.mem_cons_self
abbrev Nz:=@Int.natCast_nonneg
abbrev N0:=@Array.getD_eq_getD_getElem?
abbrev N1:=@Bool.true_or
abbrev N2:=@List.length_eq_zero_iff
abbrev N3:=@if_true
abbrev N4:=@List.mem_map
abbrev N5:=@Nat.lt_of_lt_of_le
abbrev N6:=@List.map_append
abbrev N7:=@List.getElem?_eq_none
abbrev N8:=@Nat.le_trans
abbrev N9:=@Nat.add_zero
abbrev NA:=@List.mem_cons_of_mem
abbrev NB:=@Option.getD_some
abbrev NC:=@IntKind.wrap_u64
abbrev ND:=@World.block_lt_of_cell?
abbrev NE:=@decide_false
abbrev NF:=@List.mem_flatMap
abbrev NG:=@Bool.false_and
abbrev NH:=@Nat.mul_one
abbrev NI:=@Bool.or_false
abbrev NJ:=@Bool.and_false
abbrev NK:=@List.drop_of_length_le
abbrev NL:=@Nat.add_sub_cancel_left
abbrev NM:=@List.take_succ_eq_append_getElem
abbrev NN:=@or_false
abbrev NO:=@List.take_append_of_le_length
abbrev NP:=@Nat.pow_le_pow_right
abbrev NR:=@List.drop_eq_nil_of_le
abbrev NT:=@List.length_drop
abbrev NU:=@IntKind.wrap_i64
abbrev NW:=@List.take_append_drop
abbrev NX:=@Nat.lt_irrefl
abbrev NY:=@decide_eq_false_iff_not
abbrev NZ:=@List.map_cons
abbrev Ba:=@List.flatMap_cons
abbrev Bb:=@List.length_singleton
abbrev Bd:=@Bool.or_true
abbrev Be:=@Bool.and_true
abbrev Bg:=@List.getElem?_cons_succ
abbrev Bh:=@List.any_eq_true
abbrev Bi:=@Int.toNat_of_nonneg
abbrev Bj:=@Bool.and_self
abbrev Bl:=@Array.getElem?_toList
abbrev Bm:=@List.flatMap_append
abbrev Bn:=@Array.getElem?_setIfInBounds_ne
abbrev Bo:=@List.mem_filter
abbrev Bp:=@List.getElem?_cons_zero
abbrev Bq:=@List.map_nil
abbrev Br:=@Option.getD_none
abbrev Bs:=@Nat.mul_le_mul_right
abbrev Bv:=@List.all_cons
abbrev Bw:=@List.pairwise_singleton
abbrev Bx:=@List.mem_iff_getElem?
abbrev Bz:=@true_and
abbrev B0:=@Int.le_refl
abbrev B1:=@Array.all_eq_true_iff_forall_mem
abbrev B3:=@List.drop_append
abbrev B4:=@gt_iff_lt
abbrev B5:=@Nat.blt_eq
abbrev B6:=@Nat.eq_zero_or_pos
abbrev B7:=@BitVec.toNat_ofInt
abbrev BA:=@List.ext_getElem?
abbrev BB:=@Array.mem_of_getElem?
abbrev BC:=@Nat.min_eq_left
abbrev BD:=@decide_eq_decide
abbrev BE:=@not_true_eq_false
abbrev BF:=@List.zip_cons_cons
abbrev BG:=@Bool.and_eq_false_iff
abbrev BH:=@Nat.zero_mul
abbrev BI:=@List.all_nil
abbrev BJ:=@Nat.sub_self
abbrev BK:=@UInt8.toNat_inj
abbrev BL:=@Nat.ble_eq
abbrev BM:=@Int.tmod_eq_emod_of_nonneg
abbrev BN:=@eq_self
abbrev BO:=@List.length_range
abbrev BP:=@List.getElem?_of_mem
abbrev BR:=@List.pairwise_iff_getElem
abbrev BT:=@DataW.trod_int
abbrev BU:=@List.drop_length
abbrev BV:=@Option.bind_eq_bind
abbrev BY:=@Option.bind_eq_some_iff
abbrev Ra:=@List.mapM_cons
abbrev Rb:=@List.take_zero
abbrev Rc:=@List.drop_drop
abbrev Re:=@List.filter_append
abbrev Rh:=@Nat.add_assoc
abbrev Rj:=@List.length_pos_iff
abbrev Rm:=@Nat.mod_lt
abbrev Ro:=@Nat.le_add_right
abbrev Rp:=@List.ext_getElem
abbrev Rq:=@Nat.lt_succ_self
abbrev Ru:=@Array.ext'
abbrev Rw:=@List.mem_map_of_mem
abbrev Rx:=@Option.pure_def
abbrev Ry:=@Nat.add_mul
abbrev Rz:=@List.any_append
abbrev R0:=@List.range_succ
abbrev R1:=@Nat.div_lt_self
abbrev R7:=@List.length_filter_le
abbrev R8:=@Option.bind_some
abbrev R9:=@List.map_toArray
abbrev RC:=@Array.getElem?_setIfInBounds_self_of_lt
abbrev RD:=@run_sliceBound
abbrev RE:=@Array.toArray_toList
abbrev RF:=@List.drop_append_of_le_length
abbrev RK:=@List.getElem_take
abbrev RU:=@and_self
abbrev RV:=@Option.isNone_none
abbrev RY:=@Array.getElem?_modify
abbrev RZ:=@Nat.le_of_ble_eq_true
abbrev Da:=@ne_eq
abbrev Db:=@List.getElem?_eq_none_iff
abbrev Dd:=@Nat.add_eq_left
abbrev De:=@Nat.left_eq_add
abbrev Dg:=@exists_eq_left'
abbrev Dh:=@Option.map_some
abbrev Dj:=@Nat.lt_trichotomy
abbrev D9:=@Option.isSome_iff_exists
abbrev DB:=@List.getElem?_range
abbrev DC:=@List.map_congr_left
abbrev DE:=@List.take_take
abbrev DF:=@List.isEmpty_iff
abbrev DG:=@List.flatMap_nil
abbrev DJ:=@run_program
abbrev Fa:=@Nat.lt_or_gt_of_ne
abbrev Fc:=@Nat.pow_succ
abbrev Fe:=@Bool.true_eq_false
abbrev Ff:=@Option.isNone_some
abbrev Fg:=@Nat.le_mul_of_pos_left
abbrev Fk:=@Option.map_none
abbrev Fl:=@List.cons.injEq
abbrev Fo:=@List.all_append
abbrev Fs:=@StepsIn.trans
abbrev Fu:=@BitVec.eq_of_toNat_eq
abbrev Fv:=@List.eq_replicate_iff
abbrev Fx:=@Nat.one_mul
abbrev FF:=@wpIn_mono
abbrev FG:=@List.countP_cons
abbrev FH:=@Nat.succ_pos
abbrev FK:=@BitVec.toNat_and
abbrev FM:=@Nat.le_of_eq
abbrev FO:=@List.mapM_nil
abbrev FP:=@Bool.or_assoc
abbrev FQ:=@List.foldl_cons
abbrev FR:=@List.nodup_cons
abbrev FT:=@run_newObj
abbrev Hr:=@and_true
abbrev Ht:=@List.map_map
abbrev Hv:=@Nat.mul_comm
def UNK:Nat:=9223372036854775808
structure ZD where
 at_:Addr
 n:Nat
 s:Nat
abbrev Ren:=Nat->Option ZD
def plain:Value->Bool
 | .bool _ | .int _ _ | .float _ _ | .complex _ _ _ | .string _ | .pointer none | .slice none _ _ | .map none | .chan none | .nilFunc | .nilIface=>true
 | _=>false
def QbT:Fn->Bool
 | .yield _=>false
 | _=>true
inductive V (ρ:Ren):Value->Value->Prop
 | same (v:Value):plain v=true->V ρ v v
 | ptr (id off:Nat) (i:ZD):ρ id=some i->V ρ (.pointer (some ⟨id,off,none⟩)) (.pointer (some (i.at_.add off)))
 | slice (id off len cap cap':Nat) (i:ZD) (a':Addr):ρ id=some i->(a'=i.at_.add off∨(len=0∧cap'=0))->len<=cap'->cap'<UNK->
   (UNK<=cap->i.s=cap - UNK∧off+cap' * i.s=i.n)->(cap<UNK->cap'=cap)->V ρ (.slice (some ⟨id,off,none⟩) len cap) (.slice (some a') len cap')
 | map (id:Nat) (i:ZD):ρ id=some i->V ρ (.map (some id)) (.map (some i.at_.block))
 | func (fn:Fn) (xs ys xs' ys':Array Value):QbT fn=true->xs.size=xs'.size->ys.size=ys'.size->
   (∀ (j:Nat) x x',xs[j]? = some x->xs'[j]? = some x'->V ρ x x')->(∀ (j:Nat) x x',ys[j]? = some x->ys'[j]? = some x'->V ρ x x')->V ρ (.func fn xs ys) (.func fn xs' ys')
 | yield (l:Nat) (i:ZD):ρ l=some i->V ρ (.func (.yield l) #[] #[]) (.func (.yield i.at_.block) #[] #[])
 | iface (t:TypeId) (v v':Value):V ρ v v'->V ρ (.iface t v) (.iface t v')
 | agg (xs xs':Array Value):xs.size=xs'.size->(∀ (j:Nat) x x',xs[j]? = some x->xs'[j]? = some x'->V ρ x x')->V ρ (.agg xs) (.agg xs')
 | tuple (xs xs':Array Value):xs.size=xs'.size->(∀ (j:Nat) x x',xs[j]? = some x->xs'[j]? = some x'->V ρ x x')->V ρ (.tuple xs) (.tuple xs')
def Sub (ρ ρ':Ren):Prop:=∀id i,ρ id=some i->ρ' id=some i
def Sub.refl (ρ:Ren):Sub ρ ρ:=λ_ _ h=>h
def Sub.trans {a b c:Ren}(h:Sub a b)(h':Sub b c):Sub a c:=λid i e=>h' id i (h id i e)
def V.mono {ρ ρ':Ren}(ad:Sub ρ ρ'){v ae:Value}(h:V ρ v ae):V ρ' v ae:=by
 induction h with
 | same v an=>exact .same v an
 | ptr id off i h=>exact .ptr id off i (ad _ _ h)
 | slice id off len cap ai i ah h aa ag aj ak al=>exact .slice id off len cap ai i ah (ad _ _ h) aa ag aj ak al
 | map id i h=>exact .map id i (ad _ _ h)
 | func fn xs aq ac ar am aa ag _ _ ao ap=>exact .func fn xs aq ac ar am aa ag ao ap
 | yield l i h=>exact .yield l i (ad _ _ h)
 | iface t v ae _ ab=>exact .iface t v ae ab
 | agg xs ac aa _ ab=>exact .agg xs ac aa ab
 | tuple xs ac aa _ ab=>exact .tuple xs ac aa ab
def VL (ρ:Ren)(xs aa:List Value):Prop:=xs.length=aa.length∧∀ (j:Nat) x x',xs[j]? = some x->aa[j]? = some x'->V ρ x x'
def VL.mono {ρ ρ':Ren}(ab:Sub ρ ρ'){v aa:List Value}(h:VL ρ v aa):VL ρ' v aa:=⟨h.1,λj x x' a b=>(h.2 j x x' a b).mono ab⟩
def VL.nil (ρ:Ren):VL ρ [] []:=⟨rfl,λ_ _ _ h=>by simp at h⟩
def VL.cons {ρ:Ren}{x x':Value}{xs ab:List Value}(h:V ρ x x')(aa:VL ρ xs ab):VL ρ (x::xs) (x'::ab):=
 ⟨by simp[aa.1],λj y ac a b=>by
  cases j with
  | zero=>simp at a b;subst a;subst b;exact h
  | succ j=>simp at a b;exact aa.2 j y ac a b⟩
def VL.uncons {ρ:Ren}{x:Value}{xs l:List Value}(h:VL ρ (x::xs) l):∃x' aa,l=x'::aa∧V ρ x x'∧VL ρ xs aa:=by
 cases l with
 | nil=>have:=h.1;simp at this
 | cons x' aa=>
  exact⟨x',aa,rfl,h.2 0 x x' rfl rfl,by have:=h.1;simp at this;exact this,λj y ab a b=>h.2 (j+1) y ab (by simpa using a) (by simpa using b)⟩
def VL.unnil {ρ:Ren}{l:List Value}(h:VL ρ [] l):l=[]:=by
 have:=h.1;simp at this;exact N2.1 this.symm
def VL.append {ρ:Ren}{a aa b b':List Value}(h:VL ρ a aa)(h':VL ρ b b'):VL ρ (a++b) (aa++b'):=by
 refine⟨by simp[h.1,h'.1],λj x x' e e'=>?_⟩
 by_cases ab:j<a.length;·rw[LY ab]at e;rw[LY (by rw[<- h.1];exact ab)]at e';exact h.2 j x x' e e'
 rw[LR (by omega)]at e;rw[LR (by rw[<- h.1];omega),<- h.1]at e';exact h'.2 _ x x' e e'
def VL.drop {ρ:Ren}{a aa:List Value}(h:VL ρ a aa)(k:Nat):VL ρ (a.drop k) (aa.drop k):=
 ⟨by simp[h.1],λj x x' e e'=>h.2 (k+j) x x' (by rw[<- Nk];exact e) (by rw[<- Nk];exact e')⟩
def VL.take {ρ:Ren}{a aa:List Value}(h:VL ρ a aa)(k:Nat):VL ρ (a.take k) (aa.take k):=by
 refine⟨by simp[h.1],λj x x' e e'=>?_⟩;rw[Nl]at e e';split at e;·rename_i ab;rw[Lc ab]at e';exact h.2 j x x' e e'
 cases e
def VL.get {ρ:Ren}{a aa:List Value}(h:VL ρ a aa){j:Nat}{x:Value}(e:a[j]? = some x):∃x',aa[j]? = some x'∧V ρ x x':=by
 have ac:j<a.length:=(Lk.1 e).1;have ab:j<aa.length:=by rw[<- h.1];exact ac
 exact⟨aa[j],La ab,h.2 j x _ e (La ab)⟩
def VL.set {ρ:Ren}{a aa:List Value}(h:VL ρ a aa){k:Nat}{x x':Value}(hx:V ρ x x'):VL ρ (a.set k x) (aa.set k x'):=by
 refine⟨by simp[h.1],λj y ac e e'=>?_⟩;rw[List.getElem?_set]at e e'
 by_cases ab:k=j
 ·simp only[ab,N3]at e e';split at e
  ·split at e';·cases e;cases e';exact hx
   cases e'
  cases e
 simp only[ab,LN]at e e';exact h.2 j y ac e e'
inductive Tr (α:Type) where
 | nil
 | node (l:Tr α) (x:Option α) (r:Tr α)
def Tr.get {α:Type}(t:Tr α):Nat->Option α:=
 Tr.rec (motive:=λ_=>Nat->Option α) (λ_=>none)
  (λ_ x _ aa ab n=>Bool.rec (motive:=λ_=>Option α) (Bool.rec (motive:=λ_=>Option α) (ab (Nat.pred (Nat.div n 2))) (aa (Nat.div n 2)) (Nat.beq (Nat.mod n 2) 1)) x (Nat.beq n 0)) t
def Tr.one {α:Type}(v:Option α)(f:Nat):Nat->Tr α:=
 Nat.rec (motive:=λ_=>Nat->Tr α) (λ_=>.nil)
  (λ_ aa n=>Bool.rec (motive:=λ_=>Tr α) (Bool.rec (motive:=λ_=>Tr α) (.node .nil none (aa (Nat.pred (Nat.div n 2)))) (.node (aa (Nat.div n 2)) none .nil) (Nat.beq (Nat.mod n 2) 1)) (.node .nil v .nil) (Nat.beq n 0)) f
def Tr.set {α:Type}(t:Tr α)(n:Nat)(v:Option α):Tr α:=
 Tr.rec (motive:=λ_=>Nat->Tr α) (λn=>Tr.one v (Nat.succ n) n)
  (λl x r aa ab n=>Bool.rec (motive:=λ_=>Tr α) (Bool.rec (motive:=λ_=>Tr α) (.node l x (ab (Nat.pred (Nat.div n 2)))) (.node (aa (Nat.div n 2)) x r) (Nat.beq (Nat.mod n 2) 1)) (.node l v r) (Nat.beq n 0)) t n
def Tr.get_nil {α:Type}(n:Nat):(Tr.nil:Tr α).get n=none:=rfl
def Tr.get_node {α:Type}(l:Tr α)(x:Option α)(r:Tr α)(n:Nat):(Tr.node l x r).get n=bif Nat.beq n 0 then x else bif Nat.beq (n % 2) 1 then l.get (n / 2) else r.get (n / 2 - 1):=by
 show Bool.rec (motive:=λ_=>Option α) (Bool.rec (motive:=λ_=>Option α) (r.get (Nat.pred (Nat.div n 2))) (l.get (Nat.div n 2)) (Nat.beq (Nat.mod n 2) 1)) x (Nat.beq n 0)=_;cases h:Nat.beq n 0 with
 | true=>rfl
 | false=>
  show Bool.rec (motive:=λ_=>Option α) (r.get (Nat.pred (Nat.div n 2))) (l.get (Nat.div n 2)) (Nat.beq (Nat.mod n 2) 1)=bif Nat.beq (n % 2) 1 then l.get (n / 2) else r.get (n / 2 - 1)
  show _=bif Nat.beq (Nat.mod n 2) 1 then l.get (n / 2) else r.get (n / 2 - 1)
  cases Nat.beq (Nat.mod n 2) 1<;>rfl
def Tr.set_nil {α:Type}(n:Nat)(v:Option α):(Tr.nil:Tr α).set n v=Tr.one v (n+1) n:=rfl
def Tr.set_node {α:Type}(l:Tr α)(x:Option α)(r:Tr α)(n:Nat)(v:Option α):(Tr.node l x r).set n v=bif Nat.beq n 0 then .node l v r else bif Nat.beq (n % 2) 1 then .node (l.set (n / 2) v) x r else .node l x (r.set (n / 2 - 1) v):=by
 show Bool.rec (motive:=λ_=>Tr α) (Bool.rec (motive:=λ_=>Tr α) (.node l x (r.set (Nat.pred (Nat.div n 2)) v)) (.node (l.set (Nat.div n 2) v) x r) (Nat.beq (Nat.mod n 2) 1)) (.node l v r) (Nat.beq n 0)=_;cases h:Nat.beq n 0 with
 | true=>rfl
 | false=>
  show Bool.rec (motive:=λ_=>Tr α) (.node l x (r.set (Nat.pred (Nat.div n 2)) v)) (.node (l.set (Nat.div n 2) v) x r) (Nat.beq (Nat.mod n 2) 1)=bif Nat.beq (Nat.mod n 2) 1 then Tr.node (l.set (n / 2) v) x r else Tr.node l x (r.set (n / 2 - 1) v)
  cases Nat.beq (Nat.mod n 2) 1<;>rfl
def Tr.one_succ {α:Type}(v:Option α)(f n:Nat):Tr.one v (f+1) n=bif Nat.beq n 0 then .node .nil v .nil else bif Nat.beq (n % 2) 1 then .node (Tr.one v f (n / 2)) none .nil else .node .nil none (Tr.one v f (n / 2 - 1)):=by
 show Bool.rec (motive:=λ_=>Tr α) (Bool.rec (motive:=λ_=>Tr α) (.node .nil none (Tr.one v f (Nat.pred (Nat.div n 2)))) (.node (Tr.one v f (Nat.div n 2)) none .nil) (Nat.beq (Nat.mod n 2) 1)) (.node .nil v .nil) (Nat.beq n 0)=_;cases h:Nat.beq n 0 with
 | true=>rfl
 | false=>
  show Bool.rec (motive:=λ_=>Tr α) (.node .nil none (Tr.one v f (Nat.pred (Nat.div n 2)))) (.node (Tr.one v f (Nat.div n 2)) none .nil) (Nat.beq (Nat.mod n 2) 1)=bif Nat.beq (Nat.mod n 2) 1 then Tr.node (Tr.one v f (n / 2)) none .nil else Tr.node .nil none (Tr.one v f (n / 2 - 1))
  cases Nat.beq (Nat.mod n 2) 1<;>rfl
def Zn (a b:Nat):Nat.beq a b=decide (a=b):=by
 by_cases h:a=b;·subst h;simp
 simp only[h,NE];cases aa:Nat.beq a b with
 | false=>rfl
 | true=>exact absurd (LA aa) h
def Tr.get_one {α:Type}(v:Option α):∀ (f n m:Nat),n<f->(Tr.one v f n).get m=if m=n then v else none:=by
 intro f
 induction f with
 | zero=>intro n m h;omega
 | succ f ae=>
  intro n m h;simp only[Tr.one_succ,Zn,cond_eq_ite,Lv]
  by_cases ac:n=0;·subst ac;simp only[N3,Tr.get_node,Tr.get_nil,Zn,cond_eq_ite,Lv,ite_self]
  simp only[ac,LN]
  by_cases ad:n % 2=1
  ·simp only[ad,N3,Tr.get_node,Tr.get_nil,Zn,cond_eq_ite,Lv,ae (n / 2) (m / 2) (by omega)]
   by_cases aa:m=0;·subst aa;simp[show ¬0=n by omega]
   simp only[aa,LN]
   by_cases ab:m % 2=1
   ·simp only[ab,N3]
    by_cases e:m=n;·subst e;simp
    rw[Le (by omega),Le e]
   simp only[ab,LN];rw[Le (by omega)]
  simp only[ad,LN,Tr.get_node,Tr.get_nil,Zn,cond_eq_ite,Lv,ae (n / 2 - 1) (m / 2 - 1) (by omega)]
  by_cases aa:m=0;·subst aa;simp[show ¬0=n by omega]
  simp only[aa,LN]
  by_cases ab:m % 2=1;·simp only[ab,N3];rw[Le (by omega)]
  simp only[ab,LN]
  by_cases e:m=n;·subst e;simp
  rw[Le (by omega),Le e]
def Tr.get_set {α:Type}(t:Tr α)(n m:Nat)(v:Option α):(t.set n v).get m=if m=n then v else t.get m:=by
 induction t generalizing n m with
 | nil=>rw[Tr.set_nil,Tr.get_one v (n+1) n m (by omega),Tr.get_nil]
 | node l x r ae ag=>
  simp only[Tr.set_node,Zn,cond_eq_ite,Lv]
  by_cases ac:n=0
  ·subst ac;simp only[N3,Tr.get_node,Zn,cond_eq_ite,Lv]
   by_cases aa:m=0<;>simp[aa]
  simp only[ac,LN]
  by_cases ad:n % 2=1
  ·simp only[ad,N3,Tr.get_node,Zn,cond_eq_ite,Lv,ae (n / 2) (m / 2)]
   by_cases aa:m=0;·subst aa;simp[show ¬0=n by omega]
   simp only[aa,LN]
   by_cases ab:m % 2=1
   ·simp only[ab,N3]
    by_cases e:m=n;·subst e;simp
    rw[Le (by omega),Le e]
   simp only[ab,LN];rw[Le (by omega)]
  simp only[ad,LN,Tr.get_node,Zn,cond_eq_ite,Lv,ag (n / 2 - 1) (m / 2 - 1)]
  by_cases aa:m=0;·subst aa;simp[show ¬0=n by omega]
  simp only[aa,LN]
  by_cases ab:m % 2=1;·simp only[ab,N3];rw[Le (by omega)]
  simp only[ab,LN]
  by_cases e:m=n;·subst e;simp
  rw[Le (by omega),Le e]
inductive Blk where
 | cells (c:List Value) (e:TypeId) (ro:Bool)
 | map (es:List (Value×Value))
 | iter (s:ByteArray) (pos:Nat)
 | miter (m:Option Nat) (since:Nat) (seen:List Nat) (stp:Nat)
 | loop (A:Nat->Value) (n:Nat) (ps:Array Tmp) (as bd:Code) (st:Option Code)
def Blk.ro:Blk->Bool
 | .cells _ _ r=>r
 | _=>false
structure Qa where
 y:Nat
 tr:Tr Blk
def Qa.get (H:Qa)(id:Nat):Option Blk:=H.tr.get id
def Qa.set (H:Qa)(id:Nat)(b:Blk):Qa:=⟨H.y,H.tr.set id (some b)⟩
def Qa.kill (H:Qa)(id:Nat):Qa:=⟨H.y,H.tr.set id none⟩
def Qa.push (H:Qa)(b:Blk):Qa:=⟨H.y+1,H.tr.set H.y (some b)⟩
@[simp] theorem Qo (H:Qa) (id:Nat) (b:Blk):(H.set id b).y=H.y:=rfl
@[simp] theorem QaN (H:Qa) (id:Nat):(H.kill id).y=H.y:=rfl
@[simp] theorem Qd (H:Qa) (b:Blk):(H.push b).y=H.y+1:=rfl
def Qh (H:Qa)(id m:Nat)(b:Blk):(H.set id b).get m=if m=id then some b else H.get m:=Tr.get_set _ _ _ _
def Q0 (H:Qa)(id m:Nat):(H.kill id).get m=if m=id then none else H.get m:=Tr.get_set _ _ _ _
def Qc (H:Qa)(m:Nat)(b:Blk):(H.push b).get m=if m=H.y then some b else H.get m:=Tr.get_set _ _ _ _
def QAP (P:Program)(e:TypeId)(v:Value):Prop:=P.underlying e=some (.int .u8)->∃n:Int,v=.int .u8 n∧0<=n∧n<256
def Wv (P:Program)(ρ:Ren)(i:ZD)(w:World):Blk->Prop
 | .cells c _ true=>i.at_.block<w.heap.size∧∀ (j:Nat) v,c[j]? = some v->∃ac,w.cell? (i.at_.add j)=some ac∧V ρ v ac
 | .cells c e false=>∃ (aa:Array Value) (ad:Nat×Nat),w.heap[i.at_.block]? = some (.cells aa e ad)∧(i.at_.spot=none∧i.at_.off=0)∧i.at_.off+i.n=aa.size∧c.length<=i.n∧
   (∀ (j:Nat) v,c[j]? = some v->∃ac,aa[i.at_.off+j]? = some ac∧V ρ v ac)∧
   (∀o,i.at_.off<=o->o<aa.size->¬ (ad.1<=o∧o<ad.2))∧
   (∀ (o:Nat) v,i.at_.off+c.length<=o->aa[o]? = some v->QAP P e v)∧i.s=P.cellsOf e
 | .map es=>∃ (ab:Array MapEntry) (ae:Nat),w.heap[i.at_.block]? = some (.map ab ae)∧VL ρ (es.map (·.1)) (ab.toList.map (·.key))∧VL ρ (es.map (·.2)) (ab.toList.map (·.val))∧
   ae=ab.size∧∀ (j:Nat) e,ab[j]? = some e->e.born=j
 | .iter s pos=>w.heap[i.at_.block]? = some (.stringIter s pos)∧i.at_.off=0
 | .miter none _ _ _=>w.heap[i.at_.block]? = some (.mapIter none 0 #[] 0)∧i.at_.off=0
 | .miter (some m) since seen stp=>(∃i',ρ m=some i'∧w.heap[i.at_.block]? = some (.mapIter (some i'.at_.block) since seen.toArray stp))∧i.at_.off=0
 | .loop A n ai ag ah st=>∃ (fn:FuncId) (tmps:Array Value) (D:Nat),w.heap[i.at_.block]? = some (.loop {state:=if st.isNone then .ready else .done,pending:=st,fn:=fn,tmps:=tmps,params:=ai,assign:=ag,body:=ah,defers:=D})∧
   tmps.size=n∧∀t,t<n->V ρ (A t) (tmps.getD t undef)
structure Sim (P:Program) (ρ:Ren) (H:Qa) (w:World):Prop where
 dom:∀id i,ρ id=some i->id<H.y
 live:∀id b i,H.get id=some b->ρ id=some i->Wv P ρ i w b
 sep:∀id1 id2 b1 b2 i1 i2,H.get id1=some b1->H.get id2=some b2->ρ id1=some i1->ρ id2=some i2->b1.ro=false->id1≠id2->i1.at_.block≠i2.at_.block
 glob:∀g,g<P.globals.size->∃i,ρ g=some i∧i.at_=⟨g,0,none⟩
def Wv.lt {P:Program}{ρ:Ren}{i:ZD}{w:World}{b:Blk}(h:Wv P ρ i w b):i.at_.block<w.heap.size:=by
 cases b with
 | cells c e ro=>
  cases ro with
  | true=>exact h.1
  | false=>
   obtain⟨ae,ah,aa,_⟩:=h;exact(Nj.1 aa).1
 | map es=>obtain⟨ag,ad,aa,_⟩:=h;exact(Nj.1 aa).1
 | iter s pos=>exact(Nj.1 h.1).1
 | miter m aj seen stp=>
  cases m with
  | none=>exact(Nj.1 h.1).1
  | some m=>obtain⟨⟨i',_,aa⟩,_⟩:=h;exact(Nj.1 aa).1
 | loop A n ai ab ac st=>obtain⟨fn,tmps,D,aa,_⟩:=h;exact(Nj.1 aa).1
def block_add (a:Addr)(n:Nat):(a.add n).block=a.block:=by unfold Addr.add;split<;>rfl
def ZK (a:Addr)(i j:Nat):(a.add i).add j=a.add (i+j):=by
 unfold Addr.add
 by_cases hi:i=0<;>by_cases aa:j=0<;>simp[hi,aa,Rh]
def Qaq (b o n:Nat):(⟨b,o,none⟩:Addr).add n=⟨b,o+n,none⟩:=by
 unfold Addr.add;split<;>simp_all
def Ql0 {a:Addr}(h:a.spot=none)(n:Nat):a.add n=⟨a.block,a.off+n,none⟩:=by
 obtain⟨b,o,s⟩:=a;simp at h;subst h;exact Qaq b o n
def Wv.mono {P:Program}{ρ ρ':Ren}{i:ZD}{w w':World}{b:Blk}(ae:Sub ρ ρ')(ab:w'.heap[i.at_.block]? = w.heap[i.at_.block]?)(h:Wv P ρ i w b):Wv P ρ' i w' b:=by
 cases b with
 | cells c e ro=>
  cases ro with
  | true=>
   refine⟨?_,λj v ah=>?_⟩
   ·have:=h.1;rcases Nq i.at_.block w'.heap.size with aa | aa;·exact aa
    rw[Array.getElem?_eq_none aa,Ng this]at ab;cases ab
   obtain⟨ai,ar,av⟩:=h.2 j v ah;refine⟨ai,?_,av.mono ae⟩;rw[<- ar];exact World.cell?_of_block (by rw[block_add];exact ab)
  | false=>
   obtain⟨ak,am,ad,aa,ac,ag,an,ao,ap,aq⟩:=h;exact⟨ak,am,ab.trans ad,aa,ac,ag,λj v ah=>by obtain⟨ai,a,b⟩:=an j v ah;exact⟨ai,a,b.mono ae⟩,ao,ap,aq⟩
 | map es=>obtain⟨al,aj,ad,aa,ac,ag⟩:=h;exact⟨al,aj,ab.trans ad,aa.mono ae,ac.mono ae,ag⟩
 | iter s pos=>exact⟨ab.trans h.1,h.2⟩
 | miter m aA seen stp=>
  cases m with
  | none=>exact⟨ab.trans h.1,h.2⟩
  | some m=>obtain⟨⟨i',aa,ad⟩,ac⟩:=h;exact⟨⟨i',ae _ _ aa,ab.trans ad⟩,ac⟩
 | loop A n az ax ay st=>obtain⟨fn,tmps,D,ad,aa,ac⟩:=h;exact⟨fn,tmps,D,ab.trans ad,aa,λt au=>(ac t au).mono ae⟩
structure St (ρ:Ren) (H:Qa) (w:World) (ρ':Ren) (H':Qa) (w':World):Prop where
 mono:Sub ρ ρ'
 y:H.y<=H'.y
 dead:∀id i,ρ id=some i->H.get id=none->H'.get id=none
 ro:∀id i b b',ρ id=some i->H.get id=some b->b.ro=true->H'.get id=some b'->b'.ro=true
 fresh:∀id i,ρ' id=some i->ρ id=none->H.y<=id∧(w.heap.size<=i.at_.block∨∃id0 i0 b0,ρ id0=some i0∧i0.at_.block=i.at_.block∧H.get id0=some b0∧b0.ro=false)
 os:w'.os=w.os
 tape:w'.tape=w.tape
 output:w'.output=w.output
 size:w.heap.size<=w'.heap.size
 frame:∀b,b<w.heap.size->(∀id i bl,ρ id=some i->H.get id=some bl->bl.ro=false->i.at_.block≠b)->w'.heap[b]? = w.heap[b]?
def St.refl (ρ:Ren)(H:Qa)(w:World):St ρ H w ρ H w where
 mono:=Sub.refl ρ
 y:=Lb _
 dead:=λ_ _ _ h=>h
 ro:=λ_ _ b b' _ h aa h'=>by rw[h]at h';cases h';exact aa
 fresh:=λid i h h'=>by rw[h']at h;cases h
 os:=rfl
 tape:=rfl
 output:=rfl
 size:=Lb _
 frame:=λ_ _ _=>rfl
def St.owned {ρ:Ren}{H:Qa}{w:World}{ρ':Ren}{H':Qa}{w':World}(h:St ρ H w ρ' H' w'){id:Nat}{i:ZD}{bl:Blk}
  (ae:ρ' id=some i) (ac:H'.get id=some bl) (ag:bl.ro=false):
  w.heap.size<=i.at_.block∨∃ah aa b0,ρ ah=some aa∧aa.at_.block=i.at_.block∧H.get ah=some b0∧b0.ro=false:=by
 cases ab:ρ id with
 | none=>exact(h.fresh id i ae ab).2
 | some aa=>
  have:aa=i:=by have:=h.mono id aa ab;rw[ae]at this;cases this;rfl
  subst this;cases ad:H.get id with
  | none=>rw[h.dead id aa ab ad]at ac;cases ac
  | some b0=>
   refine .inr ⟨id,aa,b0,ab,rfl,ad,?_⟩;cases ai:b0.ro with
   | false=>rfl
   | true=>rw[h.ro id aa b0 bl ab ad ai ac]at ag;cases ag
def St.trans {ρ ρ1 ρ2:Ren}{H H1 H2:Qa}{w al am:World}(a:St ρ H w ρ1 H1 al)(b:St ρ1 H1 al ρ2 H2 am):St ρ H w ρ2 H2 am where
 mono:=a.mono.trans b.mono
 y:=N8 a.y b.y
 dead:=λid i h h'=>b.dead id i (a.mono _ _ h) (a.dead id i h h')
 ro:=λid i bl an h ab aa ac=>by
  cases ad:H1.get id with
  | none=>rw[b.dead id i (a.mono _ _ h) ad]at ac;cases ac
  | some b1=>exact b.ro id i b1 an (a.mono _ _ h) ad (a.ro id i bl b1 h ab aa ad) ac
 fresh:=λid i h h'=>by
  cases ae:ρ1 id with
  | some ag=>
   have:ag=i:=by have:=b.mono id ag ae;rw[h]at this;cases this;rfl
   subst this;exact a.fresh id ag ae h'
  | none=>
   obtain⟨ab,aa⟩:=b.fresh id i h ae;refine⟨N8 a.y ab,?_⟩;rcases aa with aa | ⟨ak,aj,b0,e1,e2,e3,e4⟩;·exact .inl (N8 a.size aa)
   rw[<- e2];exact a.owned e1 e3 e4
 os:=b.os.trans a.os
 tape:=b.tape.trans a.tape
 output:=b.output.trans a.output
 size:=N8 a.size b.size
 frame:=λbk ah ai=>by
  rw[b.frame bk (N5 ah a.size) ?_,a.frame bk ah ai];intro id i bl ab aa ac e;rcases a.owned ab aa ac with h | ⟨ak,aj,b0,e1,e2,e3,e4⟩;·omega
  exact ai ak aj b0 e1 e3 e4 (e2.trans e)
structure Hid (ρ:Ren) (H:Qa) (w:World) (b:Nat) (o:Obj):Prop where
 at_:w.heap[b]? = some o
 un:∀id i bl,ρ id=some i->H.get id=some bl->i.at_.block≠b
def Hid.lt {ρ:Ren}{H:Qa}{w:World}{b:Nat}{o:Obj}(h:Hid ρ H w b o):b<w.heap.size:=(Nj.1 h.at_).1
def Hid.step {ρ ρ':Ren}{H H':Qa}{w w':World}{b:Nat}{o:Obj}(h:Hid ρ H w b o)(ae:St ρ H w ρ' H' w'):Hid ρ' H' w' b o:=
 ⟨(ae.frame b h.lt (λid i bl ab ac _=>h.un id i bl ab ac)).trans h.at_,λid i bl ab ac e=>by
  cases ad:ρ id with
  | none=>
   rcases(ae.fresh id i ab ad).2 with hh | ⟨id0,aa,b0,e1,e2,e3,e4⟩;·have:=h.lt;omega
   exact h.un id0 aa b0 e1 e3 (e2.trans e)
  | some aa=>
   have:aa=i:=by have:=ae.mono id aa ad;rw[ab]at this;cases this;rfl
   subst this;cases ag:H.get id with
   | none=>rw[ae.dead id aa ad ag]at ac;cases ac
   | some b0=>exact h.un id aa b0 ad ag e⟩
structure J4 (H2 H1:Qa):Prop where
 y:H1.y<=H2.y
 get:∀id b,H2.get id=some b->H1.get id=some b
def J4.refl (H:Qa):J4 H H:=⟨Lb _,λ_ _ h=>h⟩
def J4.trans {a b c:Qa}(h:J4 a b)(h':J4 b c):J4 a c:=⟨N8 h'.y h.y,λid x e=>h'.get id x (h.get id x e)⟩
def Sim.less {P:Program}{ρ:Ren}{H1 H2:Qa}{w:World}(h:Sim P ρ H1 w)(l:J4 H2 H1):Sim P ρ H2 w:=
 ⟨λid i hi=>N5 (h.dom id i hi) l.y,λid b i ad hi=>h.live id b i (l.get id b ad) hi,λah ai b1 aa ae ag ab ac=>h.sep ah ai b1 aa ae ag (l.get _ _ ab) (l.get _ _ ac),h.glob⟩
def St.less {ρ ρ':Ren}{H H1 H2:Qa}{w w':World}(h:St ρ H w ρ' H1 w')(l:J4 H2 H1):St ρ H w ρ' H2 w':=
 {h with
  y:=N8 h.y l.y
  dead:=λid i hi aa=>by
   cases ac:H2.get id with
   | none=>rfl
   | some b=>have:=l.get id b ac;rw[h.dead id i hi aa]at this;cases this
  ro:=λid i b b' hi aa ad ab=>h.ro id i b b' hi aa ad (l.get id b' ab)}
abbrev Env:=Nat->Value
def upd (A:Env)(d:Nat)(v:Value):Env:=λt=>bif Nat.beq t d then v else A t
def J5 (A:Env)(d:Option Nat)(v:Value):Env:=match d with | some d=>upd A d v | none=>A
@[simp] theorem Qh6 (A:Env) (d:Nat) (v:Value):upd A d v d=v:=by simp[upd]
def Qgb (A:Env){d t:Nat}(v:Value)(h:t≠d):upd A d v t=A t:=by simp[upd,Zn,h]
def ev (A:Env):Operand->Value
 | .tmp t=>A t
 | .const v=>v
 | .global g=>.pointer (some ⟨g,0,none⟩)
 | .func f=>.func (.func f) #[] #[]
inductive Ex where
 | normal
 | exit (id:Nat)
 | goto (l:Nat)
 | ret
 | panic (v:Value)
def QoX (ρ:Ren):Ex->Exit->Prop
 | .normal,.normal=>True
 | .exit i,.exit j=>i=j
 | .goto i,.goto j=>i=j
 | .ret,.ret=>True
 | .panic v,.panic ch=>∃aa,V ρ v aa∧ch=[{v:=aa,recovered:=false}]
 | _,_=>False
structure EnvRel (ρ:Ren) (n:Nat) (A:Env) (a:Act):Prop where
 size:a.tmps.size=n
 tmps:∀t,t<n->V ρ (A t) (a.tmps.getD t undef)
def EnvRel.mono {ρ ρ':Ren}{n:Nat}{A:Env}{a:Act}(aa:Sub ρ ρ')(h:EnvRel ρ n A a):EnvRel ρ' n A a:=
 ⟨h.size,λt ab=>(h.tmps t ab).mono aa⟩
def EnvRel.put {ρ:Ren}{n:Nat}{A:Env}{a:Act}{d:Nat}{v aa:Value}(h:EnvRel ρ n A a)(ab:d<n)(ad:V ρ v aa):EnvRel ρ n (upd A d v) (a.put (some d) aa):=by
 refine⟨by simp[Act.put,h.size],λt ac=>?_⟩
 by_cases e:t=d;·subst e;simp only[Qh6,Act.put];rw[N0,RC (by rw[h.size];exact ab)];exact ad
 rw[Qgb A v e];have:=h.tmps t ac;simp only[Act.put];rw[N0,Bn (by omega),<- N0];exact this
def Ql1 (n:Nat):Option Nat->Bool
 | some d=>Nat.blt d n
 | none=>true
def EnvRel.putO {ρ:Ren}{n:Nat}{A:Env}{a:Act}{d:Option Nat}{v aa:Value}(h:EnvRel ρ n A a)(ab:Ql1 n d=true)(ac:V ρ v aa):EnvRel ρ n (J5 A d v) (a.put d aa):=by
 cases d with
 | none=>exact h
 | some d=>exact h.put (by simpa[Ql1] using ab) ac
def Xq:Value->Bool
 | .agg xs=>xs.all plain
 | .tuple xs=>xs.all plain
 | .iface _ v=>plain v
 | v=>plain v
def V.closed {ρ:Ren}{v:Value}(h:Xq v=true):V ρ v v:=by
 have aa:∀xs:Array Value,xs.all plain=true->∀ (j:Nat) x x',xs[j]? = some x->xs[j]? = some x'->V ρ x x':=λxs hx j x x' ab ac=>by
  rw[ab]at ac;cases ac;exact .same x (B1.1 hx x (BB ab))
 cases v<;>first
  | exact .same _ h
  | exact .agg _ _ rfl (aa _ h)
  | exact .tuple _ _ rfl (aa _ h)
  | exact .iface _ _ _ (.same _ h)
def QdG (P:Program)(n:Nat):Operand->Bool
 | .tmp t=>Nat.blt t n
 | .const v=>Xq v
 | .global g=>Nat.blt g P.globals.size
 | .func _=>true
def EnvRel.eval {P:Program}{ρ:Ren}{H:Qa}{w:World}{n:Nat}{A:Env}{a:Act}(aa:Sim P ρ H w)(h:EnvRel ρ n A a){x:Operand}(hx:QdG P n x=true):V ρ (ev A x) (a.eval x):=by
 cases x with
 | tmp t=>exact h.tmps t (by simpa[QdG] using hx)
 | const v=>exact .closed hx
 | global g=>
  obtain⟨i,hi,e⟩:=aa.glob g (by simpa[QdG] using hx);have:=V.ptr (ρ:=ρ) g 0 i hi;rw[e]at this;exact this
 | func f=>exact .func _ _ _ _ _ rfl rfl rfl (λj x x' h=>by simp at h) (λj x x' h=>by simp at h)
structure Rd where
 r:Option Nat
 b:Nat
 d:List Deferred
def fen (z:Rd):Fence:={Fence.wide with round:=z.r}
def QDC (z:Rd)(m:Nat):(fen z).room m:=λd h=>by simp[fen,Fence.wide]at h
def Qww (d:Nat):Deferred:={target:=.collected d,args:=#[]}
structure Fr (z:Rd) (ρ:Ren) (H:Qa) (w:World) (a:Act):Prop where
 marks:∃ds:List Nat,a.defers=ds.map Qww++z.d∧ds.Nodup∧∀d∈ds,z.b<=d∧Hid ρ H w d (.deferred (some []))
 round:∀l,z.r=some l->a.defers=[]∧∃rc,Hid ρ H w l (.loop rc)
 base:z.b<=w.heap.size
def Fr.step {z:Rd}{ρ ρ':Ren}{H H':Qa}{w w':World}{a ab:Act}(h:Fr z ρ H w a)(aa:St ρ H w ρ' H' w')(ad:ab.defers=a.defers):Fr z ρ' H' w' ab:=by
 obtain⟨ag,ah,ai,ac⟩:=h.marks;exact⟨⟨ag,ad.trans ah,ai,λd ae=>⟨(ac d ae).1,(ac d ae).2.step aa⟩⟩,λl aj=>by
  obtain⟨e,al,ak⟩:=h.round l aj;exact⟨ad.trans e,al,ak.step aa⟩,N8 h.base aa.size⟩
structure Qcb (z:Rd) (ρ:Ren) (H:Qa) (w:World) (n:Nat) (A:Env) (a:Act):Prop extends EnvRel ρ n A a where
 fr:Fr z ρ H w a
def Qcb.step {z:Rd}{ρ ρ':Ren}{H H':Qa}{w w':World}{n:Nat}{A:Env}{a:Act}(h:Qcb z ρ H w n A a)(aa:St ρ H w ρ' H' w'):Qcb z ρ' H' w' n A a:=
 ⟨h.toEnvRel.mono aa.mono,h.fr.step aa rfl⟩
def QyV (a:Act)(d:Option Nat)(v:Value):(a.put d v).defers=a.defers:=by cases d<;>rfl
def Qcb.putO {z:Rd}{ρ:Ren}{H:Qa}{w:World}{n:Nat}{A:Env}{a:Act}{d:Option Nat}{v aa:Value}(h:Qcb z ρ H w n A a)(ab:Ql1 n d=true)(ac:V ρ v aa):Qcb z ρ H w n (J5 A d v) (a.put d aa):=
 ⟨h.toEnvRel.putO ab ac,h.fr.step (.refl _ _ _) (QyV a d aa)⟩
section
variable (P:Program) (n:Nat)
def QnM (z:Rd)(ρ:Ren)(H:Qa)(w:World)(Q:Ex->Env->Qa->Prop):Exit->Act->World->Prop:=
 λe aa w'=>∃e' ρ' A' H',Q e' A' H'∧St ρ H w ρ' H' w'∧Sim P ρ' H' w'∧Qcb z ρ' H' w' n A' aa∧QoX ρ' e' e
def AWp (c:Code)(Q:Ex->Env->Qa->Prop)(A:Env)(H:Qa):Prop:=
 ∀z ρ w a,Sim P ρ H w->Qcb z ρ H w n A a->c.wpIn (fen z) 0 P (QnM P n z ρ H w Q) a w
end
section
variable {P:Program} {n:Nat} {Q:Ex->Env->Qa->Prop} {A:Env} {H:Qa}
def QnM.weaken {z:Rd}{ρ ρ1:Ren}{H1:Qa}{w ab:World}(h:St ρ H w ρ1 H1 ab){e:Exit}{aa:Act}{w':World}(ac:QnM P n z ρ1 H1 ab Q e aa w'):QnM P n z ρ H w Q e aa w':=by
 obtain⟨e',ρ',A',H',ad,ae,r⟩:=ac;exact⟨e',ρ',A',H',ad,h.trans ae,r⟩
def AWp.mono {c:Code}{Q':Ex->Env->Qa->Prop}(h:AWp P n c Q A H)(ab:∀e A H,Q e A H->Q' e A H):AWp P n c Q' A H:=
 λz ρ w a ac aa=>FF (h z ρ w a ac aa) (λe a' w' ⟨e',ρ',A',H',q,r⟩=>⟨e',ρ',A',H',ab _ _ _ q,r⟩)
def QqP (h:Q .normal A H):AWp P n .skip Q A H:=
 λz ρ w a ab aa=>wpIn_skip ⟨.normal,ρ,A,H,h,.refl _ _ _,ab,aa,trivial⟩
def QtY {l:Nat}(h:Q .normal A H):AWp P n (.label l) Q A H:=
 λz ρ w a ab aa=>wpIn_label ⟨.normal,ρ,A,H,h,.refl _ _ _,ab,aa,trivial⟩
def Qwx {id:Nat}(h:Q (.exit id) A H):AWp P n (.exit id) Q A H:=
 λz ρ w a ab aa=>wpIn_exit ⟨.exit id,ρ,A,H,h,.refl _ _ _,ab,aa,rfl⟩
def Qwy {l:Nat}(h:Q (.goto l) A H):AWp P n (.goto l) Q A H:=
 λz ρ w a ab aa=>wpIn_goto ⟨.goto l,ρ,A,H,h,.refl _ _ _,ab,aa,rfl⟩
def QAQ (h:Q .ret A H):AWp P n .ret Q A H:=
 λz ρ w a ab aa=>wpIn_ret ⟨.ret,ρ,A,H,h,.refl _ _ _,ab,aa,trivial⟩
def QIM (k:Env->Qa->Prop)(Q:Ex->Env->Qa->Prop):Ex->Env->Qa->Prop
 | .normal,A,H=>k A H
 | e,A,H=>Q e A H
def Ql2 {x y:Code}(h:AWp P n x (QIM (AWp P n y Q) Q) A H):AWp P n (.seq x y) Q A H:=by
 intro z ρ w a hs he;refine wpIn_seq (FF (h z ρ w a hs he) ?_);rintro e a1 ah ⟨e',ρ1,A1,H1,ab,ae,ad,aa,ac⟩;cases e'<;>cases e<;>simp only[QoX]at ac
 case normal.normal=>
  exact FF (ab z ρ1 ah a1 ad aa) (λe ai w' ag=>QnM.weaken ae ag)
 all_goals exact⟨_,ρ1,A1,H1,ab,ae,ad,aa,by first | trivial | exact ac⟩
def Ql3 {c:Operand}{x y:Code}{t:Bool}(ad:QdG P n c=true)(ac:ev A c=.bool t)(h:AWp P n (if t then x else y) Q A H):AWp P n (.cond c x y) Q A H:=by
 intro z ρ w a hs he;have aa:=he.eval hs ad;rw[ac]at aa;have ab:a.eval c=.bool t:=by
  generalize a.eval c=z at aa;cases aa with
  | same _ _=>rfl
 exact wpIn_cond ab (h z ρ w a hs he)
def Ql4 (id:Nat)(Q:Ex->Env->Qa->Prop):Ex->Env->Qa->Prop
 | .exit id',A,H=>if id'=id then Q .normal A H else Q (.exit id') A H
 | e,A,H=>Q e A H
def Qb8 {id:Nat}{c:Code}(h:AWp P n c (Ql4 id Q) A H):AWp P n (.block id c) Q A H:=by
 intro z ρ w a hs he;refine wpIn_block (FF (h z ρ w a hs he) ?_);rintro e a1 ag ⟨e',ρ1,A1,H1,aa,ae,ad,ab,ac⟩;cases e'<;>cases e<;>simp only[QoX]at ac
 case exit.exit i j=>
  subst ac;simp only[Exit.inBlock,Ql4]at *;split at aa;·rename_i e;rw[Lc e];exact⟨.normal,ρ1,A1,H1,aa,ae,ad,ab,trivial⟩
  rename_i e;rw[Le e];exact⟨.exit i,ρ1,A1,H1,aa,ae,ad,ab,rfl⟩
 all_goals exact⟨_,ρ1,A1,H1,aa,ae,ad,ab,by first | trivial | exact ac⟩
end
def QoY (ρ:Ren)(o:Oper)(A:Env)(a:Act):Prop:=∀x∈o.op.operands,V ρ (ev A x) (a.eval x)
section
variable (P:Program) (n:Nat)
def QhO (o:Oper):Bool:=Ql1 n o.dst&&o.op.operands.all (QdG P n)
def Qx (o:Oper)(A:Env)(H:Qa)(v:Value)(H':Qa):Prop:=
 ∀ρ w a,Sim P ρ H w->QoY ρ o A a->∀ (K:Act->World->Prop) (Q:Exit->Act->World->Prop),
  (∀aa ρ' w',V ρ' v aa->St ρ H w ρ' H' w'->Sim P ρ' H' w'->K (a.put o.dst aa) w')->∀z,o.wpIn (fen z) 0 P a w K Q
def Qla (ops:Array Oper)(l:List Oper)(Q:Ex->Env->Qa->Prop)(A:Env)(H:Qa):Prop:=
 ∀z ρ w a,Sim P ρ H w->Qcb z ρ H w n A a->wpListIn (fen z) 0 P ops (QnM P n z ρ H w Q) l a w
end
def Qh7 {P:Program}{o:Oper}{a:Act}{w w':World}{x:Next}(h:(execOp a.eval o).run P w=.ok x w')(ad:∀d,x≠.defer d)(r:Option Nat):(o.semAt r a.eval).run P w=.ok x w':=by
 by_cases ab:∀c,o.op≠.defer c;·rw[Oper.semAt_eq _ _ _ ab];exact h
 exfalso;obtain⟨c,aa⟩:=Classical.not_forall.1 ab;have aa:o.op=.defer c:=Classical.not_not.1 aa;simp only[execOp,aa,LW]at h;cases ac:(resolve a.eval c o.type).run P w with
 | ok d ae=>
  rw[ac]at h;simp only[Lz,Nc,Result.ok.injEq]at h;exact ad d h.1.symm
 | halt y ae=>rw[ac]at h;simp[Result.andThen]at h
section
variable {P:Program} {n:Nat} {Q:Ex->Env->Qa->Prop} {A:Env} {H:Qa}
def Qx.of_run {o:Oper}{v:Value}{H':Qa}
  (h:∀ρ w a,Sim P ρ H w->QoY ρ o A a->∃aa ρ' w',(execOp a.eval o).run P w=.ok (.value aa) w'∧V ρ' v aa∧St ρ H w ρ' H' w'∧Sim P ρ' H' w'):Qx P o A H v H':=by
 intro ρ w a hs he K Q hk;obtain⟨aa,ρ',w',ab,ae,ad,ac⟩:=h ρ w a hs he;intro z;refine⟨λ_ _=>trivial,?_⟩;rw[Qh7 ab (by simp) _];exact hk aa ρ' w' ae ad ac
def Qx.of_skip {o:Oper}{H':Qa}
  (h:∀ρ w a,Sim P ρ H w->QoY ρ o A a->∃ρ' w',(execOp a.eval o).run P w=.ok .skip w'∧St ρ H w ρ' H' w'∧Sim P ρ' H' w'):Qx P o A H undef H':=by
 intro ρ w a hs he K Q hk;obtain⟨ρ',w',aa,ac,ab⟩:=h ρ w a hs he;intro z;refine⟨λ_ _=>trivial,?_⟩;rw[Qh7 aa (by simp) _];exact hk undef ρ' w' (.closed (by simp[undef,Xq])) ac ab
def Qx.pure_ {o:Oper}{v:Value}
  (h:∀ρ w a,Sim P ρ H w->QoY ρ o A a->∃aa,(execOp a.eval o).run P w=.ok (.value aa) w∧V ρ v aa):Qx P o A H v H:=
 .of_run λρ w a ab ac=>by
  obtain⟨aa,ad,ae⟩:=h ρ w a ab ac;exact⟨aa,ρ,w,ad,ae,.refl _ _ _,ab⟩
def EnvRel.op {ρ:Ren}{w:World}{a:Act}(ac:Sim P ρ H w)(ab:EnvRel ρ n A a){o:Oper}(aa:QhO P n o=true):QoY ρ o A a:=λx hx=>by
 simp only[QhO,Lm]at aa;exact ab.eval ac (B1.1 aa.2 x hx)
def Qh8 {o:Oper}(aa:QhO P n o=true):Ql1 n o.dst=true:=by simp only[QhO,Lm]at aa;exact aa.1
def Qwz {ops:Array Oper}(h:Q .normal A H):Qla P n ops [] Q A H:=
 λz ρ w a ab aa=>⟨.normal,ρ,A,H,h,.refl _ _ _,ab,aa,trivial⟩
def QwA {z:Rd}{o:Oper}{a:Act}{K K':Act->World->Prop}{Q1 Q2:Exit->Act->World->Prop}(ac:∀a w,K a w->K' a w)(ab:∀e a w,Q1 e a w->Q2 e a w){r:Result Next}
  (h:o.uponIn (fen z) 0 P a K Q1 r):o.uponIn (fen z) 0 P a K' Q2 r:=by
 cases r with
 | ok ai aj=>
  cases ai<;>simp only[Oper.uponIn]at h ⊢<;>first
   | exact ac _ _ h
   | exact⟨h.1,CallsIn.mono h.2 (λe ag aa=>by
     cases e with
     | returned v=>exact ac _ _ aa
     | panicked ah=>exact ab _ _ _ aa
     | outgrown=>obtain⟨a0,ae,ad⟩:=aa;exact⟨a0,ae,ab _ _ _ ad⟩)⟩
   | exact⟨h.1,RowsIn.mono h.2 (λv ag aa=>ac _ _ aa)⟩
   | exact⟨h.1,RoundIn.mono h.2 (λe ag aa=>by
     cases e with
     | returned v=>exact ac _ _ aa
     | panicked ah=>exact ab _ _ _ aa
     | outgrown=>obtain⟨a0,ae,ad⟩:=aa;exact⟨a0,ae,ab _ _ _ ad⟩)⟩
 | halt x aj=>cases x<;>simp only[Oper.uponIn]at h ⊢<;>exact ab _ _ _ h
def VY {z:Rd}{ops:Array Oper}{Q1 Q2:Exit->Act->World->Prop}(aa:∀e a w,Q1 e a w->Q2 e a w):∀ (l:List Oper) (a:Act) (w:World),wpListIn (fen z) 0 P ops Q1 l a w->wpListIn (fen z) 0 P ops Q2 l a w
 | [],a,w,h=>aa _ _ _ h
 | o::rest,a,w,h=>by
  unfold wpListIn at h ⊢;split at h;·rename_i ab;rw[Lc ab];exact⟨h.1,QwA (VY aa rest) aa h.2⟩
  rename_i ab;rw[Le ab];exact⟨h.1,VY aa rest _ _ h.2⟩
def QoZ {z:Rd}{ops:Array Oper}{aa:List Oper}{ρ ρ':Ren}{H H':Qa}{w w':World}{a:Act}{ab:World}(ad:St ρ H w ρ' H' w')
  (h:wpListIn (fen z) 0 P ops (QnM P n z ρ' H' w' Q) aa a ab):wpListIn (fen z) 0 P ops (QnM P n z ρ H w Q) aa a ab:=
 VY (λe ae ag ac=>QnM.weaken ad ac) aa a ab h
def QtZ {ops:Array Oper}{o:Oper}{ac:List Oper}{v:Value}{H':Qa}(ae:o.guard=none)(ag:Qx P o A H v H')(aa:QhO P n o=true)
  (h:Qla P n ops ac Q (J5 A o.dst v) H'):Qla P n ops (o::ac) Q A H:=by
 intro z ρ w a hs he;refine wpListIn_plain ae λK ad=>?_;refine ag ρ w a hs (he.op hs aa) K _ (λaj ρ' w' ai ab ah=>?_) z;have:=h z ρ' w' (a.put o.dst aj) ah ((he.step ab).putO (Qh8 aa) ai);exact ad _ _ (QoZ ab this)
def VZ (ops:Array Oper)(j:Nat):Option Nat:=(ops[j]?).bind (·.dst)
def QqQ {id:Nat}{l:List Oper}(h:Qla P n l.toArray l Q A H):AWp P n (.region id l.toArray false) Q A H:=
 λz ρ w a ab aa=>wpIn_region_lit (h z ρ w a ab aa)
/-! ### New blocks -/
def ext (ρ:Ren)(id:Nat)(i:ZD):Ren:=λx=>if x=id then some i else ρ x
def Ww (ρ:Ren)(id:Nat)(i:ZD):ext ρ id i id=some i:=by simp[ext]
def YJ (ρ:Ren){id x:Nat}(i:ZD)(h:x≠id):ext ρ id i x=ρ x:=by simp[ext,h]
def Qgc {ρ:Ren}{id:Nat}(i:ZD)(h:ρ id=none):Sub ρ (ext ρ id i):=λx j hx=>by
 by_cases e:x=id;·subst e;rw[h]at hx;cases hx
 rw[YJ ρ i e];exact hx
def Sim.none_next {ρ:Ren}{w:World}(aa:Sim P ρ H w):ρ H.y=none:=by
 cases h:ρ H.y with
 | none=>rfl
 | some i=>have:=aa.dom _ _ h;omega
def Qh9 (w:World)(o:Obj){b:Nat}(h:b<w.heap.size):(w.alloc o).heap[b]? = w.heap[b]? := by
 simp only[World.alloc,Array.getElem?_push];rw[Le (by omega)]
def Sim.push {ρ:Ren}{w:World}(ab:Sim P ρ H w)(o:Obj)(b:Blk)(i:ZD)(hi:i.at_.block=w.heap.size)
  (ar:Wv P (ext ρ H.y i) i (w.alloc o) b):St ρ H w (ext ρ H.y i) (H.push b) (w.alloc o)∧Sim P (ext ρ H.y i) (H.push b) (w.alloc o):=by
 have am:=ab.none_next;have ah:=Qgc i am;have al:∀id j,ρ id=some j->id≠H.y:=λid j h e=>by rw[e,am]at h;cases h
 refine⟨⟨ah,by simp,λid j h h'=>?_,λid j b1 b' h ae ac aa=>?_,λid j h h'=>?_,rfl,rfl,rfl,by simp,λbk au _=>Qh9 w o au⟩,⟨λid j h=>?_,λid bl j h h'=>?_,λai ag b1 aj ao ap ae ac aa ad aq ak=>?_,λg av=>?_⟩⟩;·rw[Qc,Le (al id j h)];exact h'
 ·rw[Qc,Le (al id j h),ae]at aa;cases aa;exact ac
 ·by_cases e:id=H.y;·subst e;rw[Ww]at h;cases h;exact⟨Lb _,.inl (by rw[hi];exact Lb _)⟩
  rw[YJ ρ i e,h']at h;cases h
 ·by_cases e:id=H.y;·subst e;simp
  rw[YJ ρ i e]at h;have:=ab.dom _ _ h;simp;omega
 ·by_cases e:id=H.y;·subst e;rw[Ww]at h';cases h';rw[Qc,Lc rfl]at h;cases h;exact ar
  rw[YJ ρ i e]at h';rw[Qc,Le e]at h;have an:=ab.live id bl j h h';exact an.mono ah (Qh9 w o an.lt)
 ·by_cases e1:ai=H.y
  ·by_cases e2:ag=H.y;·exact absurd (e1.trans e2.symm) ak
   rw[YJ ρ i e2]at ad;rw[Qc,Le e2]at ac;subst e1;rw[Ww]at aa;cases aa;have:=(ab.live ag aj ap ac ad).lt;omega
  rw[YJ ρ i e1]at aa;rw[Qc,Le e1]at ae
  by_cases e2:ag=H.y;·subst e2;rw[Ww]at ad;cases ad;have:=(ab.live ai b1 ao ae aa).lt;omega
  rw[YJ ρ i e2]at ad;rw[Qc,Le e2]at ac;exact ab.sep ai ag b1 aj ao ap ae ac aa ad aq ak
 obtain⟨j,ax,e⟩:=ab.glob g av;exact⟨j,ah _ _ ax,e⟩
def Wv.new {ρ:Ren}{w:World}{c:List Value}{c':Array Value}{e:TypeId}(ac:VL ρ c c'.toList):
  Wv P ρ ⟨⟨w.heap.size,0,none⟩,c.length,P.cellsOf e⟩ (w.alloc (.cells c' e)) (.cells c e false):=by
 have ad:=ac.1;refine⟨c',(0,0),heap_alloc_new w _,⟨rfl,rfl⟩,by simpa using ad,Lb _,λj v ae=>?_,λo _ _=>by simp,λo v aa ab=>?_,rfl⟩;·obtain⟨ag,aa,ab⟩:=ac.get ae;exact⟨ag,by simpa using aa,ab⟩
 have:=(Nj.1 ab).1;simp at aa ad;omega
def Sim.pushCells {ρ:Ren}{w:World}(aa:Sim P ρ H w){c:List Value}{c':Array Value}(e:TypeId)(ab:VL ρ c c'.toList):
  let i:ZD:=⟨⟨w.heap.size,0,none⟩,c.length,P.cellsOf e⟩
  St ρ H w (ext ρ H.y i) (H.push (.cells c e false)) (w.alloc (.cells c' e))∧Sim P (ext ρ H.y i) (H.push (.cells c e false)) (w.alloc (.cells c' e)):=
 aa.push _ _ _ rfl (Wv.new (ab.mono (Qgc _ aa.none_next)))
def V.cells {ρ:Ren}{v ac:Value}(h:V ρ v ac):VL ρ v.cells.toList ac.cells.toList:=by
 have one:∀ {x x':Value},V ρ x x'->VL ρ [x] [x']:=λh=>.cons h (.nil ρ);cases h with
 | same v al=>cases v<;>simp[plain]at al<;>exact one (.same _ (by simp[plain, *]))
 | agg xs ad aa ab=>exact⟨by simpa[Value.cells] using aa,λj x x' e e'=>ab j x x' (by simpa[Value.cells] using e) (by simpa[Value.cells] using e')⟩
 | ptr id off i h=>exact one (.ptr id off i h)
 | slice id off len cap ai i ah h aa ab aj ae ag=>exact one (.slice id off len cap ai i ah h aa ab aj ae ag)
 | map id i h=>exact one (.map id i h)
 | func fn xs am ad an ak aa ab ae ag=>exact one (.func fn xs am ad an ak aa ab ae ag)
 | yield l i h=>exact one (.yield l i h)
 | iface t v ac h=>exact one (.iface t v ac h)
 | tuple xs ad aa ab=>exact one (.tuple xs ad aa ab)
def V.oneCell {ρ:Ren}{v aa:Value}(h:V ρ v aa):aa.oneCell'=v.oneCell':=by cases h<;>rfl
def VL.closed {ρ:Ren}{l:List Value}(h:l.all plain=true):VL ρ l l:=
 ⟨rfl,λj x x' a b=>by rw[a]at b;cases b;exact .same x (Li.1 h x (Ln a))⟩
/-! ### Loads -/
def J6:TypeDesc->Bool
 | .struct _ | .array _ _=>true
 | _=>false
def X5 (P:Program)(t:TypeId)(a:Addr)(H:Qa):Option Value:=
 match P.underlying t,P.info? t,H.get a.block with
 | some d,some inf,some (.cells c _ _)=>
  if J6 d then(if a.off+inf.size<=c.length then some (.agg ((c.drop a.off).take inf.size).toArray) else none)
  else c[a.off]?
 | _,_,_=>none
def Wv.cellAt {ρ:Ren}{i:ZD}{w:World}{c:List Value}{e:TypeId}{ro:Bool}(h:Wv P ρ i w (.cells c e ro)){j:Nat}{v:Value}(ab:c[j]? = some v):
  ∃aa,w.cell? (i.at_.add j)=some aa∧V ρ v aa:=by
 cases ro with
 | true=>exact h.2 j v ab
 | false=>
  obtain⟨ac,ad,ai,ae,ak,al,ag,_⟩:=h;obtain⟨aa,ah,aj⟩:=ag j v ab;refine⟨aa,?_,aj⟩;rw[Ql0 ae.1,cell_of_row w _ _ ac e ad ai];exact ah
def Wv.cellsAt {ρ:Ren}{i:ZD}{w:World}{c:List Value}{e:TypeId}{ro:Bool}(h:Wv P ρ i w (.cells c e ro))(off k:Nat)(ak:off+k<=c.length):
  ∃cs:List Value,cs.length=k∧VL ρ ((c.drop off).take k) cs∧(∀ (j:Nat) v,cs[j]? = some v->w.cell? ((i.at_.add off).add j)=some v):=by
 induction k generalizing off with
 | zero=>exact⟨[],rfl,by simpa using VL.nil ρ,λj v h=>by simp at h⟩
 | succ k ai=>
  have ab:off<c.length:=by omega
  obtain⟨cs,ag,ah,ae⟩:=ai (off+1) (by omega);obtain⟨aj,ac,ad⟩:=h.cellAt (La ab);refine⟨aj::cs,by simp[ag],?_,λj v aa=>?_⟩;·rw[Nh ab,List.take_succ_cons];exact .cons ad ah
  cases j with
  | zero=>simp at aa;subst aa;rw[show(i.at_.add off).add 0=i.at_.add off by rw[ZK];rfl];exact ac
  | succ j=>
   have:=ae j v (by simpa using aa);rw[ZK]at this ⊢;rw[show off+(j+1)=off+1+j by omega];exact this
def QnN {ρ:Ren}{w:World}{t:TypeId}{id off:Nat}{v:Value}{i:ZD}{c:List Value}{e:TypeId}{ro:Bool}(hi:ρ id=some i)(al:H.get id=some (.cells c e ro))(aj:Wv P ρ i w (.cells c e ro))
  (aa:X5 P t ⟨id,off,none⟩ H=some v):∃ad,(loadVar t (i.at_.add off)).run P w=.ok ad w∧V ρ v ad:=by
 unfold X5 at aa;cases ac:P.underlying t with
 | none=>simp[ac]at aa
 | some d=>
  cases ah:P.info? t with
  | none=>simp[ac,ah]at aa
  | some an=>
   simp only[ac,ah,al]at aa;have ai:(isAgg t).run P w=.ok (J6 d) w:=by
    simp only[isAgg,LW,LZ ac,Lz];cases d<;>rfl
   split at aa
   ·rename_i ag;split at aa;·rename_i am;obtain⟨cs,ae,ab,ak⟩:=aj.cellsAt off an.size am;cases aa;refine⟨.agg cs.toArray,?_,.agg _ _ (by simpa using ab.1) (λj x x' a b=>ab.2 j x x' (by simpa using a) (by simpa using b))⟩;have:=run_loadCells_list (P:=P) w (i.at_.add off) cs ak;rw[ae]at this;simp only[loadVar,LW,ai,Lz,ag,N3,sizeOf,typeInfo,DJ,ah,Nc,this]
    cases aa
   rename_i ag;obtain⟨ad,ae,ab⟩:=aj.cellAt aa;refine⟨ad,?_,ab⟩;simp only[loadVar,LW,ai,Lz,ag,LV,LN,run_load,ae]
end
section
variable {P:Program} {n:Nat} {Q:Ex->Env->Qa->Prop} {A:Env} {H:Qa}
structure GN (w w':World) (g:Nat):Prop where
 other:∀b,b≠g->w'.heap[b]? = w.heap[b]?
 size:w'.heap.size=w.heap.size
 os:w'.os=w.os
 tape:w'.tape=w.tape
 output:w'.output=w.output
def GN.refl (w:World)(g:Nat):GN w w g:=⟨λ_ _=>rfl,rfl,rfl,rfl,rfl⟩
def GN.trans {w ab ac:World}{g:Nat}(a:GN w ab g)(b:GN ab ac g):GN w ac g:=
 ⟨λk aa=>(b.other k aa).trans (a.other k aa),b.size.trans a.size,b.os.trans a.os,b.tape.trans a.tape,b.output.trans a.output⟩
def Sim.setBlk {ρ:Ren}{w w':World}(ad:Sim P ρ H w){id:Nat}{i:ZD}{b b':Blk}(hi:ρ id=some i)(ae:H.get id=some b)(ai:b.ro=false)
  (ag:GN w w' i.at_.block) (aq:Wv P ρ i w' b'):St ρ H w ρ (H.set id b') w'∧Sim P ρ (H.set id b') w':=by
 refine⟨⟨.refl ρ,Lb _,λx j h h'=>?_,λx j b1 al h ab aa ac=>?_,λx j h h'=>(by rw[h']at h;cases h),ag.os,ag.tape,ag.output,(by rw[ag.size];exact Lb _),λk au ar=>?_⟩,⟨λx j h=>ad.dom x j h,λx bl j h h'=>?_,λaj ak b1 al an ao ab aa ac am ap ah=>?_,ad.glob⟩⟩
 ·rw[Qh];by_cases e:x=id;·subst e;rw[ae]at h';cases h'
  rw[Le e];exact h'
 ·rw[Qh]at ac
  by_cases e:x=id;·subst e;rw[ae]at ab;cases ab;rw[ai]at aa;cases aa
  rw[Le e,ab]at ac;cases ac;exact aa
 ·exact ag.other k (λe=>ar id i b hi ae ai e.symm)
 ·rw[Qh]at h
  by_cases e:x=id;·subst e;rw[Lc rfl]at h;cases h;rw[hi]at h';cases h';exact aq
  rw[Le e]at h;refine(ad.live x bl j h h').mono (.refl ρ) (ag.other _ ?_);exact λe'=>ad.sep id x b bl i j ae h hi h' ai (λh=>e h.symm) e'.symm
 rw[Qh]at ab aa
 by_cases e1:aj=id;·subst e1;rw[Le (λh=>ah h.symm)]at aa;exact ad.sep aj ak b al an ao ae aa ac am ai ah
 rw[Le e1]at ab
 by_cases e2:ak=id;·subst e2;exact ad.sep aj ak b1 b an ao ab ae ac am ap ah
 rw[Le e2]at aa;exact ad.sep aj ak b1 al an ao ab aa ac am ap ah
def splice (c:List Value)(p:Nat)(vs:List Value):List Value:=c.take p++(vs++c.drop (p+vs.length))
def Qez {c:List Value}{p:Nat}{vs:List Value}(h:p+vs.length<=c.length):(splice c p vs).length=c.length:=by
 simp[splice];omega
def Qlb {c:List Value}{p:Nat}{vs:List Value}(h:p+vs.length<=c.length)(o:Nat):(splice c p vs)[o]? = if p<=o∧o<p+vs.length then vs[o - p]? else c[o]? := by
 unfold splice
 by_cases aa:o<p;·rw[LY (by simp;omega),Le (by omega),Nl,Lc aa]
 rw[LR (by simp;omega)];simp only[Sb,BC (show p<=c.length by omega)]
 by_cases ab:o<p+vs.length;·rw[LY (by omega),Lc ⟨by omega,ab⟩]
 rw[LR (by omega),Le (by omega),Nk];congr 1;omega
def QsW (w:World)(g o:Nat)(aa:Array Value)(e:TypeId)(ab:Nat×Nat)(v:Value)(ad:w.heap[g]? = some (.cells aa e ab)):
  (w.setCell ⟨g,o,none⟩ v).heap[g]? = some (.cells (aa.setIfInBounds o v) e ab)∧GN w (w.setCell ⟨g,o,none⟩ v) g:=by
 refine⟨by simp[World.setCell,RY,ad],⟨λb ac=>?_,by simp,rfl,rfl,rfl⟩⟩;simp only[World.setCell,RY];rw[Le (λe=>ac e.symm)]
def Qcc (P:Program)(g o:Nat)(e:TypeId)(ab:Nat×Nat):∀ (vs:List Value) (i:Nat) (aa:Array Value) (w:World),w.heap[g]? = some (.cells aa e ab)->o+i+vs.length<=aa.size->
  (∀k,o+i<=k->k<o+i+vs.length->¬ (ab.1<=k∧k<ab.2))->(∀v∈vs,v.oneCell'=true)->
  ∃w' ac,(storeCells ⟨g,o,none⟩ vs i).run P w=.ok () w'∧w'.heap[g]? = some (.cells ac e ab)∧GN w w' g∧ac.size=aa.size∧
   ∀k,ac[k]? = if o+i<=k∧k<o+i+vs.length then vs[k - (o+i)]? else aa[k]?
 | [],i,aa,w,hg,_,_,_=>⟨w,aa,rfl,hg,.refl _ _,rfl,λk=>by rw[Le (by simp)]⟩
 | v::rest,i,aa,w,hg,hl,hf,h1=>by
  simp only[Lo]at hl hf;have ag:o+i<aa.size:=by omega
  have ah:w.cell? ⟨g,o+i,none⟩=some aa[o+i]:=by
   rw[cell_of_row w g (o+i) aa e ab hg,Ng ag]
  have ai:w.frozen? ⟨g,o+i,none⟩=false:=by
   simp only[World.frozen?,hg];have:=hf (o+i) (by omega) (by omega);simp only[BG,NY]
   by_cases ad:ab.1<=o+i;·right;exact λhx=>this ⟨ad,hx⟩
   left;exact ad
  have aq:(store ((⟨g,o,none⟩:Addr).add i) v).run P w=.ok () (w.setCell ⟨g,o+i,none⟩ v):=by
   rw[Qaq,run_store P w _ v _ (h1 v (by simp)),ah];simp[ai]
  obtain⟨ak,an⟩:=QsW w g (o+i) aa e ab v hg;obtain⟨w',ac,ap,aj,ao,ar,al⟩:=Qcc P g o e ab rest (i+1) (aa.setIfInBounds (o+i) v) (w.setCell ⟨g,o+i,none⟩ v) ak (by simp;omega)
   (λk av ax=>hf k (by omega) (by omega)) (λu au=>h1 u (by simp[au]))
  refine⟨w',ac,?_,aj,an.trans ao,by simpa using ar,λk=>?_⟩;·simp only[storeCells,LW,aq,Lz];exact ap
  rw[al];simp only[Lo]
  by_cases am:k=o+i;·subst am;rw[Le (by omega),Lc ⟨Lb _,by omega⟩];simp[ag]
  by_cases ae:o+(i+1)<=k∧k<o+(i+1)+rest.length;·rw[Lc ae,Lc ⟨by omega,by omega⟩];rw[show k - (o+i)=(k - (o+(i+1)))+1 by omega];simp
  rw[Le ae,Le (by omega)];rw[Bn (by omega)]
def Wv.storeList {ρ:Ren}{i:ZD}{w:World}{c:List Value}{e:TypeId}(av:Wv P ρ i w (.cells c e false)){off:Nat}{vs ab:List Value}(ae:VL ρ vs ab)(ad:off+vs.length<=c.length)
  (ar:∀v∈vs,v.oneCell'=true):∃w',(storeCells (i.at_.add off) ab).run P w=.ok () w'∧GN w w' i.at_.block∧Wv P ρ i w' (.cells (splice c off vs) e false):=by
 obtain⟨ap,ag,aB,an,aH,ay,ax,ah,aG,az⟩:=av;have aC:=ae.1;have au:∀v∈ab,v.oneCell'=true:=λaJ aI=>by
  obtain⟨j,aa⟩:=BP aI;have aj:j<vs.length:=by rw[aC];exact(Lk.1 aa).1
  have:=ae.2 j _ aJ (La aj) aa;rw[this.oneCell];exact ar _ (Nb aj)
 rw[Ql0 an.1];obtain⟨w',aq,aF,aA,aE,ao,ac⟩:=Qcc P i.at_.block (i.at_.off+off) e ag ab 0 ap w aB (by omega) (λk aK aL=>ah k (by omega) (by omega)) au;simp only[N9]at ac;refine⟨w',aF,aE,aq,ag,aA,an,by rw[ao];exact aH,by rw[Qez ad];exact ay,λj v aa=>?_,λo aD al=>ah o aD (by rw[ao]at al;exact al),λo v ak am=>?_,az⟩
 ·rw[Qlb ad]at aa;rw[ac]
  by_cases ai:off<=j∧j<off+vs.length;·rw[Lc ai]at aa;rw[Lc ⟨by omega,by omega⟩];rw[show i.at_.off+j - (i.at_.off+off)=j - off by omega];exact ae.get aa
  rw[Le ai]at aa;rw[Le (by omega)];exact ax j v aa
 rw[Qez ad]at ak;rw[ac,Le (by omega)]at am;exact aG o v ak am
def Qlc (P:Program)(t:TypeId)(a:Addr)(v:Value)(H:Qa):Option Qa:=
 match P.info? t,H.get a.block with
 | some inf,some (.cells c e false)=>
  if v.cells.toList.length=inf.size∧a.off+v.cells.toList.length<=c.length∧v.cells.toList.all (·.oneCell')=true then some (H.set a.block (.cells (splice c a.off v.cells.toList) e false)) else none
 | _,_=>none
def QyW {ρ:Ren}{w:World}(ae:Sim P ρ H w){t:TypeId}{id off:Nat}{v ac:Value}{i:ZD}{H':Qa}(hi:ρ id=some i)(ar:V ρ v ac)(aa:Qlc P t ⟨id,off,none⟩ v H=some H'):
  ∃w',(storeVar t (i.at_.add off) ac).run P w=.ok () w'∧St ρ H w ρ H' w'∧Sim P ρ H' w':=by
 unfold Qlc at aa;cases ab:P.info? t with
 | none=>simp[ab]at aa
 | some au=>
  simp only[ab]at aa;split at aa
  ·rename_i av c e am ad;cases am;split at aa
   ·rename_i ai;obtain⟨aj,ak,al⟩:=ai;cases aa;have ag:=ar.cells;obtain⟨w',ao,an,ah⟩:=(ae.live id _ i ad hi).storeList ag ak (λu aq=>Li.1 al u aq);refine⟨w',?_,ae.setBlk hi ad rfl an ah⟩;have ap:ac.cells.size=au.size:=by have:=ag.1;simp at this aj;omega
    simp only[storeVar,LW,sizeOf,typeInfo,DJ,Lz,ab,Nc,ap,Da,BE,LN];exact ao
   cases aa
  cases aa
end
def V.plain_eq {ρ:Ren}{v z:Value}(h:V ρ v z)(aa:plain v=true):z=v:=by
 cases h<;>first | rfl | (simp[plain]at aa)
section
variable {P:Program} {n:Nat} {A:Env} {H:Qa} {d:Option Nat} {ty:TypeId} {pos:String} {af:Array Edge} {g:Option (Nat×Bool)}
def Zo {ρ:Ren}{a:Act}{x:Operand}{v:Value}(h:V ρ (ev A x) (a.eval x))(aa:ev A x=v)(ab:plain v=true):a.eval x=v:=by
 rw[aa]at h;exact h.plain_eq ab
def QF1 {x:Operand}:Qx P ⟨d,.move x,ty,pos,af,g⟩ A H (ev A x) H:=
 .pure_ λρ w a ab aa=>⟨a.eval x,by simp only[execOp,Nc],aa x (by simp[Op.operands])⟩
def QB2 {x:Operand}:Qx P ⟨d,.assign x,ty,pos,af,g⟩ A H (ev A x) H:=
 .pure_ λρ w a ab aa=>⟨a.eval x,by simp only[execOp,Nc],aa x (by simp[Op.operands])⟩
def QF2 {c x y:Operand}{t:Bool}(ab:ev A c=.bool t):
  Qx P ⟨d,.pick c x y,ty,pos,af,g⟩ A H (if t then ev A x else ev A y) H:=
 .pure_ λρ w a ac aa=>by
  have e:=Zo (aa c (by simp[Op.operands])) ab rfl;refine⟨if t then a.eval x else a.eval y,?_,?_⟩;·simp only[execOp,e,asBool,pure_bind,Nc]
  cases t;·exact aa y (by simp[Op.operands])
  exact aa x (by simp[Op.operands])
def Qgd:Value->Bool
 | .pointer none | .nilIface | .nilFunc=>false
 | .func (.method _) _ _=>false
 | _=>true
def QwB {x:Operand}(ab:Qgd (ev A x)=true):Qx P ⟨d,.nilCheck x,ty,pos,af,g⟩ A H (ev A x) H:=
 .pure_ λρ w a ak ac=>by
  have aa:=ac x (by simp[Op.operands]);refine⟨a.eval x,?_,aa⟩;simp only[execOp];generalize ev A x=v at aa ab;generalize a.eval x=z at aa;cases aa with
  | same v ad=>cases v<;>simp[plain,Qgd]at ad ab<;>first | rfl | (rename_i p;cases p<;>simp_all)
  | func fn xs am al an ae ag ah ai aj=>cases fn<;>simp[Qgd]at ab<;>rfl
  | _=>rfl
/-! ### Integers -/
def YK (op:BinOp)(k:IntKind)(a b:Int):Option Value:=
 match op with
 | .add=>some (.int k (k.wrap (a+b)))
 | .sub=>some (.int k (k.wrap (a - b)))
 | .mul=>some (.int k (k.wrap (a * b)))
 | .quo=>if b=0 then none else some (.int k (k.wrap (a.tdiv b)))
 | .rem=>if b=0 then none else some (.int k (a.tmod b))
 | .and=>some (.int k (k.wrap (BitVec.ofInt k.bits a &&& BitVec.ofInt k.bits b).toNat))
 | .or=>some (.int k (k.wrap (BitVec.ofInt k.bits a ||| BitVec.ofInt k.bits b).toNat))
 | .xor=>some (.int k (k.wrap (BitVec.ofInt k.bits a ^^^ BitVec.ofInt k.bits b).toNat))
 | .andNot=>some (.int k (k.wrap (BitVec.ofInt k.bits a &&& ~~~BitVec.ofInt k.bits b).toNat))
 | .eql=>some (.bool (a==b))
 | .neq=>some (.bool (a != b))
 | .lss=>some (.bool (decide (a<b)))
 | .leq=>some (.bool (decide (a<=b)))
 | .gtr=>some (.bool (decide (a>b)))
 | .geq=>some (.bool (decide (a>=b)))
 | _=>none
def QyX {op:BinOp}{k:IntKind}{a b:Int}{v:Value}(t:TypeId)(w:World)(h:YK op k a b=some v):(binOp op t (.int k a) (.int k b)).run P w=.ok v w∧plain v=true:=by
  cases op<;>simp only[YK,reduceCtorEq]at h<;>simp only[binOp,Da,BE,LN]<;>first
    | (cases h;exact⟨rfl,rfl⟩)
    | (split at h
       · cases h
       · cases h;rename_i aa;simp only[Op.intDiv,aa,LN];exact⟨rfl,rfl⟩)
def QgO (op:BinOp)(t:TypeId)(x y:Operand)(k aa:IntKind)(a b:Int)(w:World):(eqGuard op t x y (.int k a) (.int aa b)).run P w=.ok () w:=by
 cases op<;>rfl
def QIN {op:BinOp}{t ag:TypeId}{x y:Operand}{k:IntKind}{a b:Int}{v:Value}(ab:ev A x=.int k a)(ac:ev A y=.int k b)(h:YK op k a b=some v):
  Qx P ⟨d,.binOp op t x y ag,ty,pos,af,g⟩ A H v H:=
 .pure_ λρ w s ah aa=>by
  have e1:=Zo (aa x (by simp[Op.operands])) ab rfl;have e2:=Zo (aa y (by simp[Op.operands])) ac rfl;obtain⟨ad,ae⟩:=QyX (P:=P) t w h;refine⟨v,?_,.same v ae⟩;simp only[execOp,e1,e2,LW,QgO,Lz,ad,Nc]
def Qaw (op:BinOp)(k:IntKind)(a b:Int):Option Value:=
 if b<0 then none else
 match op with
 | .shl=>some (.int k (k.wrap (a * 2 ^ (min b.toNat k.bits))))
 | .shr=>some (.int k (a.fdiv (2 ^ (min b.toNat k.bits))))
 | _=>none
def QwC {op:BinOp}{t ah:TypeId}{x y:Operand}{k ac:IntKind}{a b:Int}{v:Value}(ad:ev A x=.int k a)(ae:ev A y=.int ac b)(h:Qaw op k a b=some v):
  Qx P ⟨d,.binOp op t x y ah,ty,pos,af,g⟩ A H v H:=
 .pure_ λρ w s ai aa=>by
  have e1:=Zo (aa x (by simp[Op.operands])) ad rfl;have e2:=Zo (aa y (by simp[Op.operands])) ae rfl;have ab:(binOp op t (.int k a) (.int ac b)).run P w=.ok v w∧plain v=true:=by
   unfold Qaw at h;split at h;·cases h
   rename_i ag;cases op<;>simp only[reduceCtorEq]at h<;>(cases h;simp only[binOp,Op.shift,ag,LN];exact⟨rfl,rfl⟩)
  refine⟨v,?_,.same v ab.2⟩;simp only[execOp,e1,e2,LW,QgO,Lz,ab.1,Nc]
def bl (s:ByteArray):List UInt8:=s.data.toList
def mkS (l:List UInt8):ByteArray:=⟨⟨l⟩⟩
@[simp] theorem Xh (l:List UInt8):bl (mkS l)=l:=rfl
@[simp] theorem QqR (s:ByteArray):mkS (bl s)=s:=rfl
def QjB (s:ByteArray):(bl s).length=s.size:=rfl
def Qcd (op:BinOp)(x y:List UInt8):Option Value:=
 match op with
 | .add=>if x.length+y.length<=9223372036854775807 then some (.string (mkS (x++y))) else none
 | .eql=>some (.bool (x==y))
 | .neq=>some (.bool !(x==y))
 | .lss=>some (.bool (Op.bytesLess x y))
 | .leq=>some (.bool (Op.bytesLess x y||x==y))
 | .gtr=>some (.bool !(Op.bytesLess x y||x==y))
 | .geq=>some (.bool !(Op.bytesLess x y))
 | _=>none
def QuN (x y:ByteArray):x++y=mkS (bl x++bl y):=by
 apply ByteArray.ext;rw[ByteArray.data_append];apply Ru;simp[mkS,bl]
def QIO {op:BinOp}{t ah:TypeId}{x y:Operand}{a b:ByteArray}{v:Value}(ac:ev A x=.string a)(ad:ev A y=.string b)(h:Qcd op (bl a) (bl b)=some v):
    Qx P ⟨d,.binOp op t x y ah,ty,pos,af,g⟩ A H v H:=
  .pure_ λρ w s ai aa=>by
    have e1:=Zo (aa x (by simp[Op.operands])) ac rfl;have e2:=Zo (aa y (by simp[Op.operands])) ad rfl;have ag:(eqGuard op t x y (.string a) (.string b)).run P w=.ok () w:=by cases op<;>rfl
    have ab:(binOp op t (.string a) (.string b)).run P w=.ok v w∧plain v=true:=by
      cases op<;>simp only[Qcd,reduceCtorEq]at h<;>first
        | (cases h;simp only[binOp,Op.stringOp,ByteArray.toList_eq];exact⟨rfl,rfl⟩)
        | (split at h
           · cases h
             rename_i ae;refine⟨?_,rfl⟩;simp only[QjB]at ae;simp only[binOp,Op.stringOp];rw[Le (by simp;omega),QuN];rfl
           · cases h)
    refine⟨v,?_,.same v ab.2⟩;simp only[execOp,e1,e2,LW,ag,Lz,ab.1,Nc]
def QqS (op:UnOp):Value->Option Value
 | .int k m=>match op with
  | .neg=>some (.int k (k.wrap (0 - m)))
  | .xor=>some (.int k (k.wrap (BitVec.ofInt k.bits (if k.signed then -1 else k.max) ^^^ BitVec.ofInt k.bits m).toNat))
  | _=>none
 | .bool b=>match op with
  | .not=>some (.bool !b)
  | _=>none
 | _=>none
def QKM {op:UnOp}{t:TypeId}{x:Operand}{v:Value}(h:QqS op (ev A x)=some v):Qx P ⟨d,.unOp op t x,ty,pos,af,g⟩ A H v H:=
 .pure_ λρ w s ad ac=>by
  have aa:=ac x (by simp[Op.operands]);have ab:(Op.unary op (s.eval x)).run P w=.ok v w∧plain v=true:=by
   generalize ev A x=u at aa h;cases u with
   | int k m=>
    rw[aa.plain_eq rfl];cases op<;>simp only[QqS,reduceCtorEq]at h<;>(cases h;exact⟨rfl,rfl⟩)
   | bool b=>
    rw[aa.plain_eq rfl];cases op<;>simp only[QqS,reduceCtorEq]at h<;>(cases h;exact⟨rfl,rfl⟩)
   | _=>simp[QqS]at h
  refine⟨v,?_,.same v ab.2⟩;simp only[execOp,LW,ab.1,Lz,Nc]
/-! ### Conversions without memory -/
def Qqx (P:Program)(src aa:TypeId)(x:Value):Option Value:=
 match P.underlying src,P.underlying aa with
 | some _,some (.int k)=>match x with | .int _ m=>some (.int k (k.wrap m)) | _=>none
 | some (.string),some (.string)=>match x with | .string s=>some (.string s) | _=>none
 | some (.int _),some (.string)=>match x with | .int _ m=>some (.string (Utf8.encode m)) | _=>none
 | _,_=>none
def QF3 {src ad:TypeId}{x:Operand}{v:Value}(h:Qqx P src ad (ev A x)=some v):Qx P ⟨d,.convert src ad x,ty,pos,af,g⟩ A H v H:=
 .pure_ λρ w s ah ag=>by
  have ac:=ag x (by simp[Op.operands]);have ae:(convert src ad (s.eval x)).run P w=.ok v w∧plain v=true:=by
   generalize ev A x=u at ac h;unfold Qqx at h;split at h
   ·rename_i _ _ k aa ab;split at h;·cases h;rw[ac.plain_eq rfl];refine⟨?_,rfl⟩;simp only[convert,LW,LZ aa,LZ ab,Lz];rfl
    cases h
   ·rename_i _ _ aa ab;split at h;·cases h;rw[ac.plain_eq rfl];refine⟨?_,rfl⟩;simp only[convert,LW,LZ aa,LZ ab,Lz];rfl
    cases h
   ·rename_i _ _ k aa ab;split at h;·cases h;rw[ac.plain_eq rfl];refine⟨?_,rfl⟩;simp only[convert,LW,LZ aa,LZ ab,Lz];rfl
    cases h
   cases h
  refine⟨v,?_,.same v ae.2⟩;simp only[execOp,LW,ae.1,Lz,Nc]
/-! ### Interfaces, functions, parts -/
def QnO {t:TypeId}{x:Operand}{aa:TypeDesc}(ac:P.underlying t=some aa)(hi:(match aa with | .interface _=>false | _=>true)=true):
  Qx P ⟨d,.makeInterface t x,ty,pos,af,g⟩ A H (.iface t (ev A x)) H:=
 .pure_ λρ w s ad ab=>by
  refine⟨.iface t (s.eval x),?_,.iface _ _ _ (ab x (by simp[Op.operands]))⟩;simp only[execOp,Instr.makeInterface,LW,LZ ac,Lz];cases aa<;>first | rfl | simp at hi
def Qt0 {ρ:Ren}{a:Act}{xs:Array Operand}(h:∀x∈xs,V ρ (ev A x) (a.eval x)):VL ρ (xs.map (ev A)).toList (xs.map a.eval).toList:=by
 refine⟨by simp,λj x x' aa ab=>?_⟩;simp only[Bl,Array.getElem?_map,Lx]at aa ab;obtain⟨o,ac,rfl⟩:=aa;obtain⟨o',ad,rfl⟩:=ab;rw[ac]at ad;cases ad;exact h o (BB ac)
def QwD {fn:Fn}{first aa:Array Operand}(ae:QbT fn=true):
  Qx P ⟨d,.makeFunc fn first aa,ty,pos,af,g⟩ A H (.func fn (first.map (ev A)) (aa.map (ev A))) H:=
 .pure_ λρ w s ag ab=>by
  have ac:=Qt0 (xs:=first) (λx hx=>ab x (by simp[Op.operands,hx]));have ad:=Qt0 (xs:=aa) (λx hx=>ab x (by simp[Op.operands,hx]));refine⟨.func fn (first.map s.eval) (aa.map s.eval),rfl,.func _ _ _ _ _ ae (by simp) (by simp) (λj x x' a b=>ac.2 j x x' (by simpa using a) (by simpa using b)) (λj x x' a b=>ad.2 j x x' (by simpa using a) (by simpa using b))⟩
def apart (P:Program)(t:TypeId)(cs:Array Value)(off:Nat):Option Value:=
 match P.underlying t,P.info? t with
 | some td,some inf=>if J6 td then some (.agg (cs.extract off (off+inf.size))) else cs[off]?
 | _,_=>none
def Qt1 {t:TypeId}{aa:TypeDesc}(ab:P.underlying t=some aa)(w:World):(isAgg t).run P w=.ok (J6 aa) w:=by
 simp only[isAgg,LW,LZ ab,Lz];cases aa<;>rfl
def Wg {t:TypeId}{aa:TypeInfo}(hi:P.info? t=some aa)(w:World):(sizeOf t).run P w=.ok aa.size w:=by
 simp only[sizeOf,typeInfo,LW,DJ,Lz,hi,Nc]
def Ql5 {ρ:Ren}{t:TypeId}{cs aa:Array Value}{off:Nat}{v:Value}(ac:VL ρ cs.toList aa.toList)(h:apart P t cs off=some v)(w:World):∃ab,(part t aa off).run P w=.ok ab w∧V ρ v ab:=by
 unfold apart at h;split at h
 ·rename_i am al ag hi;split at h
  ·rename_i ad;cases h;refine⟨.agg (aa.extract off (off+al.size)),?_,?_⟩;·simp only[part,LW,Qt1 ag,Lz,ad,N3,Wg hi,Nc]
   have ae:cs.size=aa.size:=by have:=ac.1;simpa using this
   refine .agg _ _ (by simp[ae]) (λj x x' a b=>?_);rw[Array.getElem?_extract]at a b;split at a;·rename_i ak;rw[Lc (by rw[<- ae];exact ak)]at b;exact ac.2 (off+j) x x' (by simpa using a) (by simpa using b)
   cases a
  rename_i ad;have h':cs.toList[off]? = some v:=by simpa using h
  obtain⟨ab,ah,aj⟩:=ac.get h';refine⟨ab,?_,aj⟩;have ai:aa[off]? = some ab:=by simpa using ah
  simp only[part,LW,Qt1 ag,Lz,ad,LV,LN,ai,Nc]
 cases h
def V.agg_inv {ρ:Ren}{cs:Array Value}{z:Value}(h:V ρ (.agg cs) z):∃aa,z=.agg aa∧VL ρ cs.toList aa.toList:=by
 cases h with
 | same _ ad=>simp[plain]at ad
 | agg xs ae ab ac=>exact⟨ae,rfl,by simpa using ab,λj x x' a b=>ac j x x' (by simpa using a) (by simpa using b)⟩
def V.tuple_inv {ρ:Ren}{cs:Array Value}{z:Value}(h:V ρ (.tuple cs) z):∃aa,z=.tuple aa∧VL ρ cs.toList aa.toList:=by
 cases h with
 | same _ ad=>simp[plain]at ad
 | tuple xs ae ab ac=>exact⟨ae,rfl,by simpa using ab,λj x x' a b=>ac j x x' (by simpa using a) (by simpa using b)⟩
def V.ptr_inv {ρ:Ren}{a:Addr}{z:Value}(h:V ρ (.pointer (some a)) z):∃i,ρ a.block=some i∧a.spot=none∧z=.pointer (some (i.at_.add a.off)):=by
 cases h with
 | same _ aa=>simp[plain]at aa
 | ptr id off i h=>exact⟨i,h,rfl,rfl⟩
def V.iface_inv {ρ:Ren}{t:TypeId}{v z:Value}(h:V ρ (.iface t v) z):∃aa,z=.iface t aa∧V ρ v aa:=by
 cases h with
 | same _ ab=>simp[plain]at ab
 | iface t v aa h=>exact⟨aa,rfl,h⟩
def V.map_inv {ρ:Ren}{id:Nat}{z:Value}(h:V ρ (.map (some id)) z):∃i,ρ id=some i∧z=.map (some i.at_.block):=by
 cases h with
 | same _ aa=>simp[plain]at aa
 | map id i h=>exact⟨i,h,rfl⟩
def V.slice_inv {ρ:Ren}{a:Addr}{len cap:Nat}{z:Value}(h:V ρ (.slice (some a) len cap) z):∃i ab aa,ρ a.block=some i∧a.spot=none∧z=.slice (some ab) len aa∧
  (ab=i.at_.add a.off∨(len=0∧aa=0))∧len<=aa∧aa<UNK∧(UNK<=cap->i.s=cap - UNK∧a.off+aa * i.s=i.n)∧(cap<UNK->aa=cap):=by
 cases h with
 | same _ ai=>simp[plain]at ai
 | slice id off len cap aa i ab h ad ae ac ag ah=>exact⟨i,ab,aa,h,rfl,rfl,ad,ae,ac,ag,ah⟩
def QDD {t:TypeId}{x:Operand}{f:Nat}{ab:Array Field}{aa:Field}{cs:Array Value}{v:Value}(al:P.underlying t=some (.struct ab))(aj:ab[f]? = some aa)(ad:ev A x=.agg cs)
  (ak:apart P aa.type cs aa.offset=some v):Qx P ⟨d,.field t x f,ty,pos,af,g⟩ A H v H:=
 .pure_ λρ w s ao ai=>by
  have ac:=ai x (by simp[Op.operands]);rw[ad]at ac;obtain⟨an,e,ah⟩:=ac.agg_inv;obtain⟨am,ae,ag⟩:=Ql5 ah ak w;refine⟨am,?_,ag⟩;simp only[execOp,Instr.field,LW,LZ al,Lz,aj,e,asAgg,Nc,ae]
def QuO {t:TypeId}{x:Operand}{f:Nat}{ac:Array Field}{aa:Field}{ab:TypeInfo}{a:Addr}(ak:P.underlying t=some (.struct ac))(aj:ac[f]? = some aa)(hi:P.info? aa.type=some ab)(al:Nat.beq ab.size 0=false)
  (ae:ev A x=.pointer (some a)):Qx P ⟨d,.fieldAddr t x f,ty,pos,af,g⟩ A H (.pointer (some ⟨a.block,a.off+aa.offset,none⟩)) H:=
 .pure_ λρ w s ao ai=>by
  have ad:=ai x (by simp[Op.operands]);rw[ae]at ad;obtain⟨i,ag,an,ah⟩:=ad.ptr_inv;refine⟨.pointer (some (i.at_.add (a.off+aa.offset))),?_,.ptr _ _ i ag⟩;have am:¬ab.size=0:=by simpa[Zn] using al
  simp only[execOp,Instr.fieldAt,LW,LZ ak,Lz,aj,ah,Instr.sureAddr,Nc,fieldPlace,Wg hi,am,LN,ZK]
def Qld {t e:TypeId}{x ab:Operand}{aa:TypeInfo}{a:Addr}{len cap:Nat}{k:IntKind}{m:Int}(al:P.underlying t=some (.slice e))(hi:P.info? e=some aa)
  (ah:ev A x=.slice (some a) len cap) (ag:ev A ab=.int k m) (ai:0<=m) (aj:m<len):
  Qx P ⟨d,.indexAddr t x ab,ty,pos,af,g⟩ A H (.pointer (some ⟨a.block,a.off+m.toNat * aa.size,none⟩)) H:=
 .pure_ λρ w s ar ac=>by
  have ad:=ac x (by simp[Op.operands]);rw[ah]at ad;have e2:=Zo (ac ab (by simp[Op.operands])) ag rfl;obtain⟨i,ae,am,g1,g2,g3,g4,ao,an,ap,aq⟩:=ad.slice_inv;have ak:ae=i.at_.add a.off:=by rcases g4 with h | ⟨h,_⟩;exact h;omega
  refine⟨.pointer (some (i.at_.add (a.off+m.toNat * aa.size))),?_,.ptr _ _ i g1⟩;simp only[execOp,Instr.indexAt,e2,asIntOf,g3,LW,Nc,LZ al,Lz,ai,aj,RU,N3,Wg hi,ak,ZK]
def Qle {t e:TypeId}{x ab:Operand}{aa:TypeInfo}{a:Addr}{len:Nat}{k:IntKind}{m:Int}(aj:P.underlying t=some (.array len e))(hi:P.info? e=some aa)
  (ag:ev A x=.pointer (some a)) (ae:ev A ab=.int k m) (ah:0<=m) (ai:m<len):
  Qx P ⟨d,.indexAddr t x ab,ty,pos,af,g⟩ A H (.pointer (some ⟨a.block,a.off+m.toNat * aa.size,none⟩)) H:=
 .pure_ λρ w s ak ac=>by
  have ad:=ac x (by simp[Op.operands]);rw[ag]at ad;have e2:=Zo (ac ab (by simp[Op.operands])) ae rfl;obtain⟨i,g1,g2,g3⟩:=ad.ptr_inv;refine⟨.pointer (some (i.at_.add (a.off+m.toNat * aa.size))),?_,.ptr _ _ i g1⟩;simp only[execOp,Instr.indexAt,e2,asIntOf,g3,Instr.sureAddr,LW,Nc,LZ aj,Lz,ah,ai,RU,N3,Wg hi,ZK]
def QpS {t:TypeId}{x ab:Operand}{s:ByteArray}{k:IntKind}{m:Int}{b:UInt8}(aj:P.underlying t=some .string)(ag:ev A x=.string s)(ae:ev A ab=.int k m)(ah:0<=m)(aa:(bl s)[m.toNat]? = some b):
  Qx P ⟨d,.index t x ab,ty,pos,af,g⟩ A H (.int .u8 b.toNat) H:=
 .pure_ λρ w a ak ac=>by
  have e1:=Zo (ac x (by simp[Op.operands])) ag rfl;have e2:=Zo (ac ab (by simp[Op.operands])) ae rfl;refine⟨.int .u8 b.toNat,?_,.same _ rfl⟩;have ai:s[m.toNat]? = some b:=by
   have ad:m.toNat<s.size:=by rw[<- QjB];exact(Lk.1 aa).1
   rw[getElem?_pos s _ ad];rw[La (by rw[QjB];exact ad)]at aa;exact aa
  simp only[execOp,Instr.index,e1,e2,asIntOf,LW,Nc,LZ aj,Lz,ah,N3,ai]
def QqT {t e:TypeId}{x aa:Operand}{len:Nat}{ad:TypeInfo}{cs:Array Value}{k:IntKind}{m:Int}{v:Value}(al:P.underlying t=some (.array len e))(hi:P.info? e=some ad)(ag:ev A x=.agg cs)(ae:ev A aa=.int k m)
  (ah:0<=m) (ai:m<len) (ak:apart P e cs (m.toNat * ad.size)=some v):Qx P ⟨d,.index t x aa,ty,pos,af,g⟩ A H v H:=
 .pure_ λρ w a ao ab=>by
  have ac:=ab x (by simp[Op.operands]);rw[ag]at ac;have e2:=Zo (ab aa (by simp[Op.operands])) ae rfl;obtain⟨an,e',aj⟩:=ac.agg_inv;obtain⟨am,g1,g2⟩:=Ql5 aj ak w;refine⟨am,?_,g2⟩;simp only[execOp,Instr.index,e',e2,asIntOf,LW,Nc,LZ al,Lz,ah,ai,RU,N3,Wg hi,g1]
def QyY {x:Operand}{aa:Nat}{vs:Array Value}{v:Value}(ad:ev A x=.tuple vs)(ai:vs[aa]? = some v):Qx P ⟨d,.extract x aa,ty,pos,af,g⟩ A H v H:=
 .pure_ λρ w a ak ah=>by
  have ab:=ah x (by simp[Op.operands]);rw[ad]at ab;obtain⟨aj,e',ag⟩:=ab.tuple_inv;obtain⟨ac,g1,g2⟩:=ag.get (j:=aa) (x:=v) (by simpa using ai);have ae:aj[aa]? = some ac:=by simpa using g1
  refine⟨ac,?_,g2⟩;simp only[execOp,Instr.extract,e',ae,LW,Nc,Lz]
end
section
variable {P:Program} {n:Nat} {A:Env} {H:Qa} {d:Option Nat} {ty:TypeId} {pos:String} {af:Array Edge} {g:Option (Nat×Bool)}
def Qia {t:TypeId}{a:Addr}{v:Value}(h:X5 P t a H=some v):∃c e ro,H.get a.block=some (.cells c e ro):=by
 unfold X5 at h;split at h;·rename_i d ad c e ro ab ac aa;exact⟨c,e,ro,aa⟩
 cases h
def QF4 {t:TypeId}{x:Operand}{a:Addr}{v:Value}(ad:ev A x=.pointer (some a))(ab:X5 P t a H=some v):Qx P ⟨d,.load t x,ty,pos,af,g⟩ A H v H:=
 .pure_ λρ w s ai ah=>by
  have ac:=ah x (by simp[Op.operands]);rw[ad]at ac;obtain⟨i,g1,g2,g3⟩:=ac.ptr_inv;obtain⟨id,off,ak⟩:=a;simp only at g1 g2 g3;subst g2;obtain⟨c,e,ro,aa⟩:=Qia ab;obtain⟨aj,ae,ag⟩:=QnN g1 aa (ai.live id _ i aa g1) ab;refine⟨aj,?_,ag⟩;simp only[execOp,Instr.loadAt,g3,Instr.sureAddr,LW,Nc,Lz,ae]
def QDE {t:TypeId}{x y:Operand}{a:Addr}{H':Qa}(ac:ev A x=.pointer (some a))(ah:Qlc P t a (ev A y) H=some H'):Qx P ⟨d,.store t x y,ty,pos,af,g⟩ A H undef H':=
 .of_skip λρ w s ai aa=>by
  have ab:=aa x (by simp[Op.operands]);rw[ac]at ab;obtain⟨i,g1,g2,g3⟩:=ab.ptr_inv;obtain⟨id,off,aj⟩:=a;simp only at g1 g2 g3;subst g2;obtain⟨w',ad,ae,ag⟩:=QyW ai g1 (aa y (by simp[Op.operands])) ah;refine⟨ρ,w',?_,ae,ag⟩;simp only[execOp,Instr.storeAt,g3,Instr.sureAddr,LW,Nc,Lz,ad]
def Zx {t:TypeId}{aa:TypeInfo}{z:Value}(hi:P.info? t=some aa)(ab:aa.zero=some z)(w:World):(zeroValue t).run P w=.ok z w:=by
 simp only[zeroValue,typeInfo,LW,DJ,Lz,hi,Nc,ab]
def QDF {e:TypeId}{aa:TypeInfo}{z:Value}(hi:P.info? e=some aa)(ag:aa.zero=some z)(ad:z.cells.toList.all plain=true):
  Qx P ⟨d,.alloc e,ty,pos,af,g⟩ A H (.pointer (some ⟨H.y,0,none⟩)) (H.push (.cells z.cells.toList e false)):=
 .of_run λρ w s ae ah=>by
  obtain⟨ab,ac⟩:=ae.pushCells (c:=z.cells.toList) (c':=z.cells) e (.closed ad);refine⟨.pointer (some ⟨w.heap.size,0,none⟩),_,_,?_,.ptr H.y 0 _ (Ww _ _ _),ab,ac⟩;simp only[execOp,Instr.alloc,LW,Zx hi ag,Lz,newVar,newRow,FT,Nc,World.alloc]
def QIP {e:TypeId}{x:Operand}:
  Qx P ⟨d,.box e x,ty,pos,af,g⟩ A H (.pointer (some ⟨H.y,0,none⟩)) (H.push (.cells (ev A x).cells.toList e false)):=
 .of_run λρ w s ad ac=>by
  obtain⟨aa,ab⟩:=ad.pushCells (c:=(ev A x).cells.toList) (c':=(s.eval x).cells) e (ac x (by simp[Op.operands])).cells;refine⟨.pointer (some ⟨w.heap.size,0,none⟩),_,_,?_,.ptr H.y 0 _ (Ww _ _ _),aa,ab⟩;simp only[execOp,Instr.box,LW,newVar,newRow,FT,Nc,Lz,World.alloc]
/-! ### Building structs, arrays, slices -/
def QdH (place:Nat->Option (Nat×Nat)):List Value->List (Nat×Value)->Option (List Value)
 | cells,[]=>some cells
 | cells,(i,v)::rest=>
  match place i with
  | none=>none
  | some (off,size)=>if v.cells.toList.length=size∧off+size<=cells.length then QdH place (splice cells off v.cells.toList) rest else none
def Qkb:∀ (vs:List Value) (k off:Nat) (cs:Array Value),off+k+vs.length<=cs.size->
  ((vs.zipIdx k).foldl (fun(cs:Array Value) (p:Value×Nat)=>cs.setIfInBounds (off+p.2) p.1) cs).toList=splice cs.toList (off+k) vs
 | [],k,off,cs,h=>by simp[splice]
 | v::vs,k,off,cs,h=>by
  simp only[Lo]at h;rw[List.zipIdx_cons,FQ,Qkb vs (k+1) off _ (by simp;omega)];apply BA;intro o;rw[Qlb (by simp;omega),Qlb (by simp;omega)];simp only[Array.toList_setIfInBounds,Lo]
  by_cases ab:o=off+k;·subst ab;rw[Le (by omega),Lc ⟨by omega,by omega⟩,List.getElem?_set_self (by simp;omega)];simp
  by_cases aa:off+(k+1)<=o∧o<off+(k+1)+vs.length;·rw[Lc aa,Lc ⟨by omega,by omega⟩,show o - (off+k)=(o - (off+(k+1)))+1 by omega];simp
  rw[Le aa,Le (by omega),List.getElem?_set_ne (by omega)]
def Ql6 {ρ:Ren}{place:Nat->Option (Nat×Nat)}:∀ (ae aa:List (Nat×Value)) (c:List Value) (c':Array Value) (r:List Value),VL ρ c c'.toList->ae.map (·.1)=aa.map (·.1)->VL ρ (ae.map (·.2)) (aa.map (·.2))->
  QdH place c ae=some r->∃ad,Instr.fill place c' aa=some ad∧VL ρ r ad.toList
 | [],aa,c,c',r,hc,ab,h2,h=>by
  have:aa=[]:=by cases aa;rfl;simp at ab
  subst this;simp only[QdH,Lt]at h;subst h;exact⟨c',rfl,hc⟩
 | (i,v)::rest,aa,c,c',r,hc,ab,h2,h=>by
  cases aa with
  | nil=>simp at ab
  | cons q ao=>
   obtain⟨i',ac⟩:=q;simp only[NZ,Fl]at ab;obtain⟨rfl,ab⟩:=ab;obtain⟨x',ar,e,am,an⟩:=h2.uncons;simp only[NZ,Fl]at e;obtain⟨rfl,rfl⟩:=e;unfold QdH at h;split at h;·cases h
   rename_i off size ak;split at h
   ·rename_i ai;have ag:=am.cells;have aj:ac.cells.size=size:=by have:=ag.1;simp at this ai;omega
    have ap:c.length=c'.size:=by have:=hc.1;simpa using this
    have aq:v.cells.size=size:=by simpa using ai.1
    have al:VL ρ (splice c off v.cells.toList) (splice c'.toList off ac.cells.toList):=by
     unfold splice;refine(hc.take _).append (ag.append ?_);rw[show off+ac.cells.toList.length=off+v.cells.toList.length by simp;omega];exact hc.drop _
    have ah:=Qkb ac.cells.toList 0 off c' (by simp;omega);simp only[N9]at ah;obtain⟨ad,g1,g2⟩:=Ql6 rest ao _ (splice c'.toList off ac.cells.toList).toArray r (by simpa using al) ab an h;refine⟨ad,?_,g2⟩;unfold Instr.fill;simp only[ak,aj];rw[Le (by simp;omega)];rw[<- g1];congr 1;apply Ru;simp only[Array.toList_zipIdx,<- Array.foldl_toList];exact ah
   cases h
def YG (A:Env)(aa:Array (Nat×Operand)):List (Nat×Value):=aa.toList.map λp=>(p.1,ev A p.2)
def QnP {ρ:Ren}{a:Act}{aa:Array (Nat×Operand)}(ag:∀x∈(aa.toList.map (·.2)).toArray,V ρ (ev A x) (a.eval x)):
  (YG A aa).map (·.1)=(aa.map fun(i,x)=>(i,a.eval x)).toList.map (·.1)∧VL ρ ((YG A aa).map (·.2)) ((aa.map fun(i,x)=>(i,a.eval x)).toList.map (·.2)):=by
 refine⟨by simp[YG],by simp[YG],λj x x' ab ac=>?_⟩;simp only[YG,Ht,LD,Lx,Array.toList_map,Function.comp]at ab ac;obtain⟨p,ad,rfl⟩:=ab;obtain⟨q,ae,rfl⟩:=ac;rw[ad]at ae;cases ae;refine ag _ ?_;simp only[List.mem_toArray,N4];exact⟨p,Ln ad,rfl⟩
def Ql7 (P:Program)(aa:Array Field):Option (Array (Nat×Nat)):=aa.mapM λf=>(P.info? f.type).map λab=>(f.offset,ab.size)
def QqU (w:World):∀ (l:List Field) (r:List (Nat×Nat)),l.mapM (λf=>(P.info? f.type).map λaa=>(f.offset,aa.size))=some r->
  (l.mapM (λf=>(do pure (f.offset,<- sizeOf f.type):Sem (Nat×Nat)))).run P w=.ok r w
 | [],r,h=>by simp at h;subst h;rfl
 | f::l,r,h=>by
  simp only[Ra,BV,BY,Lx,Rx,Lt]at h;obtain⟨p,⟨aa,hi,rfl⟩,q,ab,rfl⟩:=h;have ac:=QqU w l q ab;simp only[Ra,LW,Wg hi,Lz,Nc,ac]
def QpT {t:TypeId}{ae:Array (Nat×Operand)}{aa:Array Field}{ad:TypeInfo}{z:Value}{ab:Array (Nat×Nat)}{r:List Value}(ap:P.underlying t=some (.struct aa))(hi:P.info? t=some ad)(aq:ad.zero=some z)
  (ai:z.cells.toList.all plain=true) (ac:Ql7 P aa=some ab) (am:QdH (ab[·]?) z.cells.toList (YG A ae)=some r):Qx P ⟨d,.build t ae,ty,pos,af,g⟩ A H (.agg r.toArray) H:=
 .pure_ λρ w s au aj=>by
  obtain⟨g1,g2⟩:=QnP (A:=A) aj;obtain⟨ar,ah,ag⟩:=Ql6 (ρ:=ρ) (YG A ae) _ z.cells.toList z.cells r (.closed ai) g1 g2 am;refine⟨.agg ar,?_,.agg _ _ (by simpa using ag.1) (λj x x' a b=>ag.2 j x x' (by simpa using a) (by simpa using b))⟩;have al:aa.toList.mapM (λf=>(P.info? f.type).map λad=>(f.offset,ad.size))=some ab.toList:=by
   unfold Ql7 at ac;rw[Array.mapM_eq_mapM_toList]at ac;simp only[Option.map_eq_map,Lx]at ac;obtain⟨l,ak,rfl⟩:=ac;simpa using ak
  have an:=QqU (P:=P) w aa.toList ab.toList al;have ao:(aa.mapM (λf=>(do pure (f.offset,<- sizeOf f.type):Sem (Nat×Nat)))).run P w=.ok ab w:=by
   rw[Array.mapM_eq_mapM_toList];simp only[Sem.run_map,an,Lz,RE]
  simp only[execOp,Instr.build,LW,Zx hi aq,Lz,LZ ap,ao,ah,Nc]
def QqV {t e:TypeId}{len:Nat}{ab:Array (Nat×Operand)}{ad aa:TypeInfo}{z:Value}{r:List Value}(ak:P.underlying t=some (.array len e))(hi:P.info? t=some ad)(al:ad.zero=some z)
  (ag:z.cells.toList.all plain=true) (ai:P.info? e=some aa) (aj:QdH (λi=>some (i * aa.size,aa.size)) z.cells.toList (YG A ab)=some r):Qx P ⟨d,.build t ab,ty,pos,af,g⟩ A H (.agg r.toArray) H:=
 .pure_ λρ w s an ah=>by
  obtain⟨g1,g2⟩:=QnP (A:=A) ah;obtain⟨am,ae,ac⟩:=Ql6 (ρ:=ρ) (YG A ab) _ z.cells.toList z.cells r (.closed ag) g1 g2 aj;refine⟨.agg am,?_,.agg _ _ (by simpa using ac.1) (λj x x' a b=>ac.2 j x x' (by simpa using a) (by simpa using b))⟩;simp only[execOp,Instr.build,LW,Zx hi al,Lz,LZ ak,Wg ai,ae,Nc]
def XG (z:Array Value)(m:Nat):List Value:=(List.range m).map λi=>z[i % z.size]!
def Qo0 {z:Array Value}(aa:z.toList.all plain=true)(m:Nat)(ad:m=0∨0<z.size):(XG z m).all plain=true:=by
 rw[Li];intro x hx;simp only[XG,N4,LU]at hx;obtain⟨i,hi,rfl⟩:=hx;have ac:0<z.size:=by omega
 have ab:i % z.size<z.size:=Rm _ ac;rw[getElem!_pos z _ ab];exact Li.1 aa _ (by simp)
def QsX {t e:TypeId}{len:Nat}{ad:Array (Nat×Operand)}{aa:TypeInfo}{z:Value}{r:List Value}(ar:P.underlying t=some (.slice e))(hi:P.info? e=some aa)(au:aa.zero=some z)
  (ai:z.cells.toList.all plain=true) (aj:Nat.blt 0 z.cells.size=true) (ae:Nat.ble len 16777216=true) (aq:Nat.ble (len * aa.size) 16777216=true) (ao:QdH (λi=>some (i * aa.size,aa.size)) (XG z.cells (len * aa.size)) (YG A ad)=some r):
  Qx P ⟨d,.buildSlice t len ad,ty,pos,af,g⟩ A H (.slice (some ⟨H.y,0,none⟩) len len) (H.push (.cells r e false)):=
 .of_run λρ w s ap al=>by
  obtain⟨g1,g2⟩:=QnP (A:=A) al;have ak:0<z.cells.size:=by simpa using aj
  have az:len * aa.size<=16777216:=by simpa using aq
  have av:((Array.range (len * aa.size)).map (λi=>(if len * aa.size=0 then(#[]:Array Value) else z.cells)[i % (if len * aa.size=0 then(#[]:Array Value) else z.cells).size]!)).toList=XG z.cells (len * aa.size):=by
   by_cases ab:len * aa.size=0;·simp[ab,XG]
   simp[ab,XG,Array.toList_range]
  have an:=Qo0 ai (len * aa.size) (.inr ak);obtain⟨ax,ac,ag⟩:=Ql6 (ρ:=ρ) (YG A ad) _ (XG z.cells (len * aa.size)) ((Array.range (len * aa.size)).map (λi=>(if len * aa.size=0 then(#[]:Array Value) else z.cells)[i % (if len * aa.size=0 then(#[]:Array Value) else z.cells).size]!)) r (by rw[av];exact .closed an) g1 g2 ao;obtain⟨k1,k2⟩:=ap.pushCells (c:=r) (c':=ax) e ag;have am:len<UNK:=by
   have:len<=16777216:=by simpa using ae
   simp only[UNK];omega
  refine⟨.slice (some ⟨w.heap.size,0,none⟩) len len,_,_,?_,.slice H.y 0 len len len _ _ (Ww _ _ _) (.inl (by rw[Qaq])) (Lb _) am (λh=>?_) (λ_=>rfl),k1,k2⟩
  ·have ah:¬ (len * aa.size>2 ^ 24):=by omega
   simp only[execOp,Instr.buildSlice,LW,LZ ar,Lz,Wg hi,ah,LN]
   by_cases ab:len * aa.size=0;·simp only[ab,N3,Nc]at ac ⊢;simp only[ac,newRow,LW,FT,Lz,Nc,World.alloc]
   simp only[ab,LN,LW,Zx hi au,Nc,Lz]at ac ⊢;simp only[ac,newRow,LW,FT,Lz,Nc,World.alloc]
  exfalso;have ay:len<=16777216:=by simpa using ae
  simp only[UNK]at h;omega
end
section
variable {P:Program} {n:Nat} {A:Env} {H:Qa} {d:Option Nat} {ty:TypeId} {pos:String} {af:Array Edge} {g:Option (Nat×Bool)}
def Qge (P:Program)(e:TypeId)(aa:TypeInfo)(z:Value):Bool:=
  Nat.beq z.cells.size aa.size&&Nat.blt 0 aa.size&&z.cells.toList.all plain &&
    (match P.underlying e with
     | some (.int .u8)=>(match z with | .int .u8 m=>m==0 | _=>false)
     | some _=>true
     | none=>false)
structure V0 (P:Program) (e:TypeId) (inf:TypeInfo) (z:Value):Prop where
 info:P.info? e=some inf
 zero:inf.zero=some z
 cells:z.cells.size=inf.size
 pos:0<inf.size
 plain_:z.cells.toList.all plain=true
 byte:P.underlying e=some (.int .u8)->z=.int .u8 0
def V0.mk' {e:TypeId}{ab:TypeInfo}{z:Value}(ac:P.info? e=some ab)(ad:ab.zero=some z)(h:Qge P e ab z=true):V0 P e ab z:=by
 simp only[Qge,Lm]at h;obtain⟨⟨⟨a,b⟩,c⟩,aa⟩:=h;refine⟨ac,ad,by simpa[Zn] using a,by simpa using b,c,λae=>?_⟩;rw[ae]at aa;simp only at aa;split at aa
 ·rename_i m;have:m=0:=by simpa using aa
  rw[this]
 cases aa
def V0.cellsOf {e:TypeId}{aa:TypeInfo}{z:Value}(h:V0 P e aa z):P.cellsOf e=aa.size:=by simp[Program.cellsOf,h.info]
def QB3 (z:Array Value)(m:Nat)(aa:0<z.size){o:Nat}{v:Value}(h:(XG z m)[o]? = some v):v∈z:=by
 simp only[XG,LD,Lx]at h;obtain⟨i,_,rfl⟩:=h;rw[getElem!_pos z _ (Rm _ aa)];exact Array.getElem_mem _
def V0.spare {e:TypeId}{ac:TypeInfo}{z:Value}(h:V0 P e ac z){v:Value}(aa:v∈z.cells):QAP P e v:=λab=>by
 rw[h.byte ab]at aa;simp[Value.cells]at aa;exact⟨0,aa,by omega,by omega⟩
def QuP {t e:TypeId}{x y:Operand}{aa:TypeInfo}{z:Value}{l c:Int}(am:P.underlying t=some (.slice e))(ab:V0 P e aa z)(ad:ev A x=.int .i64 l)(ae:ev A y=.int .i64 c)
  (ag:0<=l) (ah:l<=c) (ai:(aa.bytes:Int) * c<=281474976710656) (aj:c<=9223372036854775807):
  Qx P ⟨d,.makeSlice t x y,ty,pos,af,g⟩ A H (.slice (some ⟨H.y,0,none⟩) l.toNat c.toNat) (H.push (.cells (XG z.cells (c.toNat * aa.size)) e false)):=
 .of_run λρ w s al ac=>by
  have e1:=Zo (ac x (by simp[Op.operands])) ad rfl;have e2:=Zo (ac y (by simp[Op.operands])) ae rfl;have ak:=run_make (P:=P) w t e aa z am ab.info ab.zero .i64 .i64 l c ag ah ai aj;have an:(madeCells z.cells (c.toNat * aa.size)).toList=XG z.cells (c.toNat * aa.size):=by simp[madeCells,XG,Array.toList_range]
  obtain⟨k1,k2⟩:=al.pushCells (c:=XG z.cells (c.toNat * aa.size)) (c':=madeCells z.cells (c.toNat * aa.size)) e (by rw[an];exact .closed (Qo0 ab.plain_ _ (.inr (by rw[ab.cells];exact ab.pos))));refine⟨.slice (some ⟨w.heap.size,0,none⟩) l.toNat c.toNat,_,_,?_,.slice H.y 0 l.toNat c.toNat c.toNat _ _ (Ww _ _ _) (.inl (by rw[Qaq])) (by omega) (by simp only[UNK];omega) (λh=>?_) (λ_=>rfl),k1,k2⟩;·simp only[execOp,e1,e2,LW,ak,Lz,Nc]
  exfalso;simp only[UNK]at h;omega
/-! ### Slicing -/
def QS (A:Env):Option Operand->Option (Option Int)
 | none=>some none
 | some x=>match ev A x with | .int _ m=>some (some m) | _=>none
def QnQ {ρ:Ren}{a:Act}{x:Option Operand}(ab:∀y,x=some y->V ρ (ev A y) (a.eval y)){m:Option Int}(h:QS A x=some m):
  (m=none∧x.map a.eval=none)∨∃k j,m=some j∧x.map a.eval=some (.int k j):=by
 cases x with
 | none=>simp[QS]at h;exact .inl ⟨h.symm,rfl⟩
 | some x=>
  simp only[QS]at h;split at h;·rename_i k j aa;cases h;have:=Zo (ab _ rfl) aa rfl;exact .inr ⟨k,j,rfl,by simp[this]⟩
  cases h
def V1 {ρ:Ren}{w:World}{a:Act}{lo hi mx:Option Operand}(ap:∀y,lo=some y->V ρ (ev A y) (a.eval y))(ao:∀y,hi=some y->V ρ (ev A y) (a.eval y))(aq:∀y,mx=some y->V ρ (ev A y) (a.eval y)){l h m:Option Int}(am:QS A lo=some l)(al:QS A hi=some h)(an:QS A mx=some m)
  (aj:m≠none->h≠none) {len cap:Nat} (ai:0<=l.getD 0) (ab:l.getD 0<=h.getD len) (ac:h.getD len<=m.getD cap) (ad:m.getD cap<=cap) (ar:Bool):
  (Instr.sliceBounds ar len cap (lo.map a.eval) (hi.map a.eval) (mx.map a.eval)).run P w=.ok ((l.getD 0).toNat,(h.getD len).toNat,(m.getD cap).toNat) w:=by
 rcases QnQ ao al with⟨rfl,e⟩ | ⟨k,j,rfl,e⟩<;>rcases QnQ ap am with⟨rfl,e'⟩ | ⟨ag,ae,rfl,e'⟩<;>rcases QnQ aq an with⟨rfl,ah⟩ | ⟨ak,aa,rfl,ah⟩<;>simp only[Br,NB]at ai ab ac ad ⊢<;>rw[e,e',ah]<;>simp only[Instr.sliceBounds,LW,Nc,Lz];·simp
 ·exact absurd rfl (aj (by simp))
 ·rw[RD (P:=P) w ag ae len _ ai ab];simp
 ·exact absurd rfl (aj (by simp))
 ·rw[RD (P:=P) w k j cap _ ab ac];simp
 ·rw[RD (P:=P) w ak aa cap _ (by omega) ad];simp only[Lz];rw[RD (P:=P) w k j aa.toNat _ (by omega) (by omega)];simp
 ·rw[RD (P:=P) w k j cap _ (by omega) ac];simp only[Lz];rw[RD (P:=P) w ag ae j.toNat _ (by omega) (by omega)];simp
 rw[RD (P:=P) w ak aa cap _ (by omega) ad];simp only[Lz];rw[RD (P:=P) w k j aa.toNat _ (by omega) (by omega)];simp only[Lz];rw[RD (P:=P) w ag ae j.toNat _ (by omega) (by omega)];simp
def QpU {t:TypeId}{x:Operand}{lo hi:Option Operand}{s:ByteArray}{l h:Option Int}(aj:P.underlying t=some .string)(ah:ev A x=.string s)
  (ag:QS A lo=some l) (ae:QS A hi=some h) (ai:0<=l.getD 0) (ab:l.getD 0<=h.getD (bl s).length) (ac:h.getD (bl s).length<=(bl s).length):
  Qx P ⟨d,.slice t x lo hi none,ty,pos,af,g⟩ A H (.string (mkS (((bl s).drop (l.getD 0).toNat).take ((h.getD (bl s).length).toNat - (l.getD 0).toNat)))) H:=
 .pure_ λρ w a ak aa=>by
  have e1:=Zo (aa x (by simp[Op.operands])) ah rfl;simp only[QjB]at ab ac;refine⟨.string (s.extract (l.getD 0).toNat (h.getD s.size).toNat),?_,?_⟩
  rotate_left
  ·have:s.extract (l.getD 0).toNat (h.getD s.size).toNat=mkS (((bl s).drop (l.getD 0).toNat).take ((h.getD (bl s).length).toNat - (l.getD 0).toNat)):=by
    apply ByteArray.ext;apply Ru;rw[ByteArray.data_extract];simp[mkS,bl]
   rw[this];exact .same _ rfl
  have ad:=V1 (P:=P) (A:=A) (w:=w) (λy e=>aa y (by simp[Op.operands,e])) (λy e=>aa y (by simp[Op.operands,e])) (mx:=none) (λy e=>by cases e) ag ae (m:=none) rfl (by simp) (len:=s.size) (cap:=s.size) ai ab (by simpa using ac) (by simp) false;simp only[Fk]at ad;simp only[execOp,Instr.sliceAt,Instr.slice,e1,LW,LZ aj,Lz,Fk,Option.isSome_none,LV,LN,ad,Nc]
def Y3 (size:Nat)(x:Value)(l h m:Option Int):Option Value:=
 match x with
 | .slice none len cap=>
  if 0<=l.getD 0∧l.getD 0<=h.getD len∧h.getD len<=m.getD cap∧m.getD cap<=cap then some (.slice none ((h.getD len).toNat - (l.getD 0).toNat) ((m.getD cap).toNat - (l.getD 0).toNat)) else none
 | .slice (some a) len cap=>
  if UNK<=cap then
   match m with
   | none=>if 0<=l.getD 0∧l.getD 0<=h.getD len∧h.getD len<=len∧cap=UNK+size then some (.slice (some ⟨a.block,a.off+(l.getD 0).toNat * size,none⟩) ((h.getD len).toNat - (l.getD 0).toNat) cap) else none
   | some m=>if 0<=l.getD 0∧l.getD 0<=h.getD len∧h.getD len<=m∧m<=len∧l.getD 0<m then some (.slice (some ⟨a.block,a.off+(l.getD 0).toNat * size,none⟩) ((h.getD len).toNat - (l.getD 0).toNat) (m.toNat - (l.getD 0).toNat)) else none
  else
   if 0<=l.getD 0∧l.getD 0<=h.getD len∧h.getD len<=m.getD cap∧m.getD cap<=cap then
    some (.slice (some (if(m.getD cap).toNat=(l.getD 0).toNat then a else⟨a.block,a.off+(l.getD 0).toNat * size,none⟩)) ((h.getD len).toNat - (l.getD 0).toNat) ((m.getD cap).toNat - (l.getD 0).toNat))
   else none
 | _=>none
def QqW {t e:TypeId}{x:Operand}{lo hi mx:Option Operand}{ah:TypeInfo}{l h m:Option Int}{v:Value}(ap:P.underlying t=some (.slice e))(an:P.info? e=some ah)
  (al:QS A lo=some l) (ak:QS A hi=some h) (am:QS A mx=some m) (ao:m≠none->h≠none) (aa:Y3 ah.size (ev A x) l h m=some v):
  Qx P ⟨d,.slice t x lo hi mx,ty,pos,af,g⟩ A H v H:=
 .pure_ λρ w s aF ab=>by
  have aq:=ab x (by simp[Op.operands]);generalize ev A x=u at aq aa;unfold Y3 at aa;split at aa
  ·rename_i len cap;split at aa;·rename_i ae;obtain⟨c1,c2,c3,aj⟩:=ae;cases aa;have e1:=aq.plain_eq rfl;have ad:=V1 (P:=P) (A:=A) (w:=w) (λy e=>ab y (by simp[Op.operands,e])) (λy e=>ab y (by simp[Op.operands,e])) (λy e=>ab y (by simp[Op.operands,e])) al ak am ao (len:=len) (cap:=cap) c1 c2 c3 aj true;refine⟨.slice none ((h.getD len).toNat - (l.getD 0).toNat) ((m.getD cap).toNat - (l.getD 0).toNat),?_,.same _ rfl⟩;simp only[execOp,Instr.sliceAt,Instr.slice,e1,LW,LZ ap,Lz,ad,Wg an,Nc,Fk,ite_self]
   cases aa
  ·rename_i a len cap;obtain⟨i,ai,ac,g1,g2,g3,g4,aE,aD,ar,av⟩:=aq.slice_inv;obtain⟨id,off,aG⟩:=a;simp only at g1 g2 g4 ar av aa;subst g2;split at aa
   ·rename_i az;obtain⟨ax,au⟩:=ar az;split at aa
    ·split at aa
     ·rename_i ae;obtain⟨c1,c2,c3,aj⟩:=ae;have aB:i.s=ah.size:=by omega
      cases aa;have ad:=V1 (P:=P) (A:=A) (w:=w) (λy e=>ab y (by simp[Op.operands,e])) (λy e=>ab y (by simp[Op.operands,e])) (λy e=>ab y (by simp[Op.operands,e])) al ak am ao (len:=len) (cap:=ac) c1 c2 (by simp only[Br];omega) (by simp) true;have ay:off+(l.getD 0).toNat * ah.size+(ac - (l.getD 0).toNat) * i.s=i.n:=by
       rw[aB]at au ⊢;rw[Rh,<- Ry,Nat.add_sub_cancel' (by omega)];exact au
      refine⟨.slice (some (if ac=(l.getD 0).toNat then ai else ai.add ((l.getD 0).toNat * ah.size))) ((h.getD len).toNat - (l.getD 0).toNat) (ac - (l.getD 0).toNat),?_,?_⟩;·simp only[execOp,Instr.sliceAt,Instr.slice,g3,LW,LZ ap,Lz,ad,Wg an,Nc,Br,LG,Dh];split<;>rfl
      by_cases ag:ac=(l.getD 0).toNat;·rw[Lc ag];exact .slice id _ _ _ _ i _ g1 (.inr ⟨by omega,by omega⟩) (by omega) (by omega) (λ_=>⟨ax,ay⟩) (λh=>by omega)
      rw[Le ag];refine .slice id _ _ _ _ i _ g1 (.inl ?_) (by omega) (by omega) (λ_=>⟨ax,ay⟩) (λh=>by omega);rcases g4 with h | ⟨h,h'⟩;·rw[h,ZK]
      exfalso;omega
     cases aa
    rename_i m;split at aa
    ·rename_i ae;obtain⟨c1,c2,c3,aj,aC⟩:=ae;cases aa;have ad:=V1 (P:=P) (A:=A) (w:=w) (λy e=>ab y (by simp[Op.operands,e])) (λy e=>ab y (by simp[Op.operands,e])) (λy e=>ab y (by simp[Op.operands,e])) al ak am ao (len:=len) (cap:=ac) c1 c2 c3 (by simp only[NB];omega) true;refine⟨.slice (some (ai.add ((l.getD 0).toNat * ah.size))) ((h.getD len).toNat - (l.getD 0).toNat) (m.toNat - (l.getD 0).toNat),?_,?_⟩;·simp only[execOp,Instr.sliceAt,Instr.slice,g3,LW,LZ ap,Lz,ad,Wg an,Nc,NB,Dh];rw[Le (by omega)]
     refine .slice id _ _ _ _ i _ g1 (.inl ?_) (by omega) (by omega) (λh=>?_) (λ_=>rfl)
     ·rcases g4 with h | ⟨h,h'⟩;·rw[h,ZK]
      exfalso;omega
     exfalso;omega
    cases aa
   rename_i az;have aA:=av (by omega);subst aA;split at aa
   ·rename_i ae;obtain⟨c1,c2,c3,aj⟩:=ae;cases aa;have ad:=V1 (P:=P) (A:=A) (w:=w) (λy e=>ab y (by simp[Op.operands,e])) (λy e=>ab y (by simp[Op.operands,e])) (λy e=>ab y (by simp[Op.operands,e])) al ak am ao (len:=len) (cap:=ac) c1 c2 c3 aj true;refine⟨.slice (some (if(m.getD ac).toNat=(l.getD 0).toNat then ai else ai.add ((l.getD 0).toNat * ah.size))) ((h.getD len).toNat - (l.getD 0).toNat) ((m.getD ac).toNat - (l.getD 0).toNat),?_,?_⟩;·simp only[execOp,Instr.sliceAt,Instr.slice,g3,LW,LZ ap,Lz,ad,Wg an,Nc,Dh];split<;>rfl
    by_cases ag:(m.getD ac).toNat=(l.getD 0).toNat;·rw[Lc ag,Lc ag];exact .slice id _ _ _ _ i _ g1 (.inr ⟨by omega,by omega⟩) (by omega) (by omega) (λh=>by omega) (λ_=>rfl)
    rw[Le ag,Le ag];refine .slice id _ _ _ _ i _ g1 (.inl ?_) (by omega) (by omega) (λh=>by omega) (λ_=>rfl);rcases g4 with h | ⟨h,h'⟩;·rw[h,ZK]
    exfalso;omega
   cases aa
  cases aa
end
section
variable {P:Program} {n:Nat} {A:Env} {H:Qa} {d:Option Nat} {ty:TypeId} {pos:String} {af:Array Edge} {g:Option (Nat×Bool)}
def W8 (ρ:Operand->Value)(b:Builtin)(args:Array Operand)(aa:Array TypeId):
  execOp ρ ⟨d,.call ⟨.builtin b,args,aa⟩,ty,pos,af,g⟩=builtin b aa ty (args.map λ| .const _=>true | _=>false) (args.map ρ):=by
 simp only[execOp,resolve,invoke,pure_bind];rfl
def QDG (P:Program)(t:TypeId)(x:Value):Option Nat:=
 match P.underlying t with
 | some .string=>match x with | .string s=>some (bl s).length | _=>none
 | some (.array m _)=>some m
 | some (.slice _)=>match x with | .slice _ m _=>some m | _=>none
 | some (.pointer q)=>match P.underlying q with | some (.array m _)=>some m | _=>none
 | some (.map _ _)=>match x with | .map none=>some 0 | _=>none
 | _=>none
def QIQ {t:TypeId}{x:Operand}{m:Nat}(h:QDG P t (ev A x)=some m):Qx P ⟨d,.call ⟨.builtin .len,#[x],#[t]⟩,ty,pos,af,g⟩ A H (.int .i64 m) H:=
 .pure_ λρ w s aj ac=>by
  have ab:=ac x (by simp[Op.operands,Call.operands]);refine⟨.int .i64 m,?_,.same _ rfl⟩;rw[W8];generalize ev A x=u at ab h;have ae:(Builtin.len_ #[t] ty #[s.eval x]).run P w=.ok (.int .i64 m) w:=by
   unfold QDG at h;split at h
   ·rename_i aa;split at h;·cases h;simp[Builtin.len_,LZ aa,ab.plain_eq rfl,goInt,QjB]
    cases h
   ·rename_i q e aa;cases h;simp[Builtin.len_,LZ aa,goInt]
   ·rename_i e aa;split at h
    ·rename_i a ag c;cases h;cases a with
     | none=>simp[Builtin.len_,LZ aa,ab.plain_eq rfl,goInt]
     | some a=>
      obtain⟨i,ah,ai,g1,g2,g3,_⟩:=ab.slice_inv;simp[Builtin.len_,LZ aa,g3,goInt]
    cases h
   ·rename_i q aa;split at h;·rename_i ag e ad;cases h;simp[Builtin.len_,LZ aa,LZ ad,goInt]
    cases h
   ·rename_i k e aa;split at h;·cases h;simp[Builtin.len_,LZ aa,ab.plain_eq rfl,goInt]
    cases h
   cases h
  simp only[builtin,R9,NZ,Bq,LW,ae,Lz,Nc]
def QIR {t e:TypeId}{x:Operand}{a:Option Addr}{m c:Nat}(ab:P.underlying t=some (.slice e))(ac:ev A x=.slice a m c)(ae:Nat.blt c UNK=true):
  Qx P ⟨d,.call ⟨.builtin .cap,#[x],#[t]⟩,ty,pos,af,g⟩ A H (.int .i64 c) H:=
 .pure_ λρ w s an ag=>by
  have aa:=ag x (by simp[Op.operands,Call.operands]);rw[ac]at aa;refine⟨.int .i64 c,?_,.same _ rfl⟩;rw[W8];have ah:(Builtin.cap_ #[t] ty #[s.eval x]).run P w=.ok (.int .i64 c) w:=by
   cases a with
   | none=>simp[Builtin.cap_,LZ ab,aa.plain_eq rfl,goInt]
   | some a=>
    obtain⟨i,ai,aj,g1,g2,g3,g4,al,ak,am,ad⟩:=aa.slice_inv;have:=ad (by simpa using ae);simp[Builtin.cap_,LZ ab,g3,goInt,this]
  simp only[builtin,R9,NZ,Bq,LW,ah,Lz,Nc]
def QF5 {ad:Array TypeId}{x y:Operand}{k:IntKind}{a b:Int}(ab:ev A x=.int k a)(ac:ev A y=.int k b):
  Qx P ⟨d,.call ⟨.builtin .max,#[x,y],ad⟩,ty,pos,af,g⟩ A H (.int k (if b>a then b else a)) H:=
 .pure_ λρ w s ae aa=>by
  have e1:=Zo (aa x (by simp[Op.operands,Call.operands])) ab rfl;have e2:=Zo (aa y (by simp[Op.operands,Call.operands])) ac rfl;refine⟨_,?_,.same _ rfl⟩;rw[W8];simp[builtin,e1,e2,Builtin.max_,Builtin.max2]
def QF6 {ad:Array TypeId}{x y:Operand}{k:IntKind}{a b:Int}(ab:ev A x=.int k a)(ac:ev A y=.int k b):
  Qx P ⟨d,.call ⟨.builtin .min,#[x,y],ad⟩,ty,pos,af,g⟩ A H (.int k (if b<a then b else a)) H:=
 .pure_ λρ w s ae aa=>by
  have e1:=Zo (aa x (by simp[Op.operands,Call.operands])) ab rfl;have e2:=Zo (aa y (by simp[Op.operands,Call.operands])) ac rfl;refine⟨_,?_,.same _ rfl⟩;rw[W8];simp[builtin,e1,e2,Builtin.min_,Builtin.min2]
/-! ### append -/
def X6 (s:ByteArray):List Value:=s.data.toList.map λb=>.int .u8 b.toNat
def YX (size:Nat)(x:Value)(H:Qa):Option (Nat×List Value):=
 match x with
 | .slice none 0 _=>some (0,[])
 | .slice (some a) m _=>
  if m=0 then some (0,[]) else
  match H.get a.block with
  | some (.cells c _ _)=>if a.off+m * size<=c.length then some (m,(c.drop a.off).take (m * size)) else none
  | _=>none
 | .string s=>if size=1 then some ((bl s).length,X6 s) else none
 | _=>none
def QAR {ρ:Ren}{w:World}(ak:Sim P ρ H w){size m:Nat}{x x':Value}{c:List Value}(hx:V ρ x x')(h:YX size x H=some (m,c)):
  (Builtin.lenOf x').run P w=.ok m w∧c.length=m * size∧∀aa,aa<=m->∃c':List Value,VL ρ (c.take (aa * size)) c'∧∀w':World,(∀a:Addr,w'.cell? a=w.cell? a)->(Builtin.firstCells size aa x').run P w'=.ok c'.toArray w':=by
 unfold YX at h;split at h;·cases h;rw[hx.plain_eq rfl];refine⟨rfl,by simp,λaa ab=>⟨[],by simpa using VL.nil ρ,λw' _=>rfl⟩⟩
 ·rename_i a ax cap;obtain⟨i,ac,ae,g1,g2,g3,g4,aq,ap,ar,au⟩:=hx.slice_inv;split at h
  ·rename_i ad;cases h;subst ad;rw[g3];refine⟨rfl,by simp,λaa ab=>⟨[],by simpa using VL.nil ρ,λw' _=>?_⟩⟩;obtain rfl:aa=0:=by omega
   simp[Builtin.firstCells,loadCells,loadCellsFrom]
  rename_i ad;split at h
  ·rename_i ao e ro ah;split at h
   ·rename_i av;cases h;have ag:ac=i.at_.add a.off:=by rcases g4 with h | ⟨h,_⟩;exact h;omega
    rw[g3];refine⟨rfl,by simp;omega,λaa ab=>?_⟩;have aj:aa * size<=m * size:=Bs _ ab;obtain⟨cs,k1,k2,k3⟩:=(ak.live _ _ i ah g1).cellsAt a.off (aa * size) (by omega);refine⟨cs,by rw[DE,BC aj];exact k2,λw' an=>?_⟩;have:=run_firstCells_some (P:=P) w' size aa ac m ae cs k1 (λj v ai=>by rw[an,ag];exact k3 j v ai);exact this
   cases h
  cases h
 ·rename_i s;split at h
  ·rename_i al;cases h;subst al;rw[hx.plain_eq rfl];refine⟨rfl,(by rw[NH];simp only[X6,Nn,Array.length_toList];rfl),λaa ab=>⟨(X6 s).take (aa * 1),.closed ?_,λw' _=>?_⟩⟩;·rw[Li];intro v am;have:=List.mem_of_mem_take am;simp only[X6,N4]at this;obtain⟨b,_,rfl⟩:=this;rfl
   simp only[Builtin.firstCells,Nc];congr 1;apply Ru;rw[NH];simp only[Array.toList_map,X6];simp[ByteArray.data_extract,List.map_take]
  cases h
 cases h
def Qib:TypeDesc->Bool
 | .slice _=>true
 | .string=>true
 | _=>false
def Qgf {aa:TypeDesc}(h:Qib aa=true):aa=.string∨∃e,aa=.slice e:=by
 cases aa<;>simp[Qib]at h;·exact .inl rfl
 exact .inr ⟨_,rfl⟩
def Kc {t t2 e:TypeId}{ab:TypeInfo}{aj:TypeDesc}{x':Value}{aa sCap m:Nat}{base:Option Addr}{w w':World}{c':List Value}(ah:P.underlying t=some (.slice e))(ai:P.underlying t2=some aj)(ae:Qib aj=true)(hi:P.info? e=some ab)
  (ad:(Builtin.lenOf x').run P w=.ok m w) (ac:(Builtin.firstCells ab.size m x').run P w=.ok c'.toArray w) (ag:aa+m<=sCap)
  (al:∀a,base=some a->(storeCells (a.add (aa * ab.size)) c').run P w=.ok () w') (ak:base=none->w'=w):
  (Builtin.append_ #[t,t2] ty #[.slice base aa sCap,x']).run P w=.ok (.slice base (aa+m) sCap) w':=by
 cases base with
 | none=>
  obtain rfl:=ak rfl;rcases Qgf ae with rfl | ⟨e',rfl⟩<;>simp[Builtin.append_,LZ ah,LZ ai,Wg hi,ad,ag,ac]
 | some a=>
  have:=al a rfl;rcases Qgf ae with rfl | ⟨e',rfl⟩<;>simp[Builtin.append_,LZ ah,LZ ai,Wg hi,ad,ag,ac,this]
def QeV {t t2 e:TypeId}{ab:TypeInfo}{z:Value}{ac:TypeDesc}{x':Value}{aa sCap m:Nat}{base:Option Addr}{w:World}{c' old:List Value}(am:P.underlying t=some (.slice e))(an:P.underlying t2=some ac)(ak:Qib ac=true)(hi:P.info? e=some ab)(ao:ab.zero=some z)
  (aj:(Builtin.lenOf x').run P w=.ok m w) (ah:(Builtin.firstCells ab.size m x').run P w.drew=.ok c'.toArray w.drew) (ai:(Builtin.firstCells ab.size aa (.slice base aa sCap)).run P w.drew=.ok old.toArray w.drew) (al:¬aa+m<=sCap)
  (ap:aa+m<=9223372036854775807) (ag:(aa+m) * ab.bytes<=140737488355328):
  (Builtin.append_ #[t,t2] ty #[.slice base aa sCap,x']).run P w=.ok (.slice (some ⟨w.heap.size,0,none⟩) (aa+m) (grownCap w (aa+m) sCap e)) (w.drew.alloc (.cells (old.toArray++c'.toArray++Builtin.zeroCells z.cells (grownCap w (aa+m) sCap e - (aa+m))) e)):=by
 have ae:¬ (9223372036854775807<((aa:Int)+(m:Int))):=by omega
 have ad:¬ (281474976710656<Builtin.nextslicecap (aa+m) sCap * ab.bytes):=by have:=growslice_fits (need:=aa+m) (old:=sCap) (bytes:=ab.bytes) (by omega) ag;omega
 rcases Qgf ak with rfl | ⟨e',rfl⟩<;>simp[Builtin.append_,LZ am,LZ an,sizeOf,typeInfo,zeroValue,hi,ao,aj,al,ae,ad,Question.forced,ah,ai,newRow,grownCap]<;>(congr 2;apply Ru;simp)
def Sim.drew {ρ:Ren}{w:World}(aa:Sim P ρ H w):St ρ H w ρ H w.drew∧Sim P ρ H w.drew:=
  ⟨⟨.refl ρ,Lb _,λ_ _ _ h=>h,λ_ _ b b' _ h ab h'=>(by rw[h]at h';cases h';exact ab),λid i h h'=>(by rw[h']at h;cases h),rfl,rfl,rfl,Lb _,λ_ _ _=>rfl⟩,
   ⟨aa.dom,λid b i h h'=>(aa.live id b i h h').mono (.refl ρ) rfl,aa.sep,aa.glob⟩⟩
def Sim.move {ρ:Ren}{w w':World}(ad:Sim P ρ H w){id:Nat}{i i':ZD}{b b':Blk}(hi:ρ id=some i)(ah:H.get id=some b)(aj:b.ro=false)(ag:GN w w' i.at_.block)(am:i'.at_.block=i.at_.block)
  (az:Wv P (ext ρ H.y i') i' w' b'):St ρ H w (ext ρ H.y i') ((H.kill id).push b') w'∧Sim P (ext ρ H.y i') ((H.kill id).push b') w':=by
 have ar:=ad.none_next;have an:=Qgc i' ar;have au:∀x j,ρ x=some j->x≠H.y:=λx j h e=>by rw[e,ar]at h;cases h
 have ai:∀x,((H.kill id).push b').get x=if x=H.y then some b' else if x=id then none else H.get x:=λx=>by rw[Qc,QaN,Q0]
 refine⟨⟨an,by simp,λx j h h'=>?_,λx j b1 ak h ac aa ab=>?_,λx j h h'=>?_,ag.os,ag.tape,ag.output,(by rw[ag.size];exact Lb _),λk aD aC=>?_⟩,⟨λx j h=>?_,λx bl j h h'=>?_,λao ap b1 ak av ax ac aa ab ae aq al=>?_,λay aA=>?_⟩⟩
 ·rw[ai,Le (au x j h)];split;·rfl
  exact h'
 ·rw[ai,Le (au x j h)]at ab;split at ab;·cases ab
  rw[ac]at ab;cases ab;exact aa
 ·by_cases e:x=H.y;·subst e;rw[Ww]at h;cases h;exact⟨Lb _,.inr ⟨id,i,b,hi,am.symm,ah,aj⟩⟩
  rw[YJ ρ i' e,h']at h;cases h
 ·exact ag.other k (λe=>aC id i b hi ah aj e.symm)
 ·by_cases e:x=H.y;·subst e;simp
  rw[YJ ρ i' e]at h;have:=ad.dom _ _ h;simp;omega
 ·by_cases e:x=H.y;·subst e;rw[Ww]at h';cases h';rw[ai,Lc rfl]at h;cases h;exact az
  rw[YJ ρ i' e]at h';rw[ai,Le e]at h;split at h;·cases h
  rename_i e2;refine(ad.live x bl j h h').mono an (ag.other _ ?_);exact λe'=>ad.sep id x b bl i j ah h hi h' aj (λh=>e2 h.symm) e'.symm
 ·rw[ai]at ac aa
  by_cases e1:ao=H.y
  ·subst e1;rw[Le (λh=>al h.symm)]at aa;split at aa;·cases aa
   rename_i e2;rw[Ww]at ab;cases ab;rw[YJ ρ _ (λh=>al h.symm)]at ae;rw[am];exact ad.sep id ap b ak i ax ah aa hi ae aj (λh=>e2 h.symm)
  rw[Le e1]at ac;rw[YJ ρ i' e1]at ab;split at ac;·cases ac
  rename_i e3
  by_cases e2:ap=H.y;·subst e2;rw[Ww]at ae;cases ae;rw[am];exact ad.sep ao id b1 b av i ac ah ab hi aq e3
  rw[Le e2]at aa;rw[YJ ρ i' e2]at ae;split at aa;·cases aa
  exact ad.sep ao ap b1 ak av ax ac aa ab ae aq al
 obtain⟨j,aB,e⟩:=ad.glob ay aA;exact⟨j,an _ _ aB,e⟩
def QqX (z:Array Value)(m:Nat):(Builtin.zeroCells z m).toList=XG z (m * z.size):=by
 simp[Builtin.zeroCells,XG,Array.toList_range]
def Sim.grow {ρ:Ren}{w:World}(al:Sim P ρ H w){e:TypeId}{aa:TypeInfo}{z:Value}(ab:V0 P e aa z){o o' c c':List Value}{need cap:Nat}(ak:VL ρ o o')(ae:VL ρ c c')(aj:o.length+c.length=need * aa.size)(ag:need<=cap)(ap:cap<UNK):
  let i:ZD:=⟨⟨w.heap.size,0,none⟩,cap * aa.size,P.cellsOf e⟩
  let w':=w.drew.alloc (.cells (o'.toArray++c'.toArray++Builtin.zeroCells z.cells (cap - need)) e)
  St ρ H w (ext ρ H.y i) (H.push (.cells (o++c) e false)) w'∧Sim P (ext ρ H.y i) (H.push (.cells (o++c) e false)) w'∧V (ext ρ H.y i) (.slice (some ⟨H.y,0,none⟩) need (UNK+aa.size)) (.slice (some ⟨w.heap.size,0,none⟩) need cap):=by
 intro i w';obtain⟨ax,ay⟩:=al.drew;have ac:(o'.toArray++c'.toArray++Builtin.zeroCells z.cells (cap - need)).toList=(o'++c')++XG z.cells ((cap - need) * aa.size):=by
  rw[Array.toList_append,QqX,ab.cells];simp
 have ar:(o'++c').length=need * aa.size:=by rw[Lh,<- ak.1,<- ae.1];exact aj
 have au:need * aa.size+(cap - need) * aa.size=cap * aa.size:=by rw[<- Ry];congr 1;omega
 have av:(o'.toArray++c'.toArray++Builtin.zeroCells z.cells (cap - need)).size=cap * aa.size:=by
  rw[<- Array.length_toList,ac,Lh,ar];simp[XG];exact au
 have ao:Wv P (ext ρ H.y i) i (w.drew.alloc (.cells (o'.toArray++c'.toArray++Builtin.zeroCells z.cells (cap - need)) e)) (.cells (o++c) e false):=by
  have am:VL (ext ρ H.y i) (o++c) (o'++c'):=(ak.append ae).mono (Qgc _ al.none_next);refine⟨_,(0,0),heap_alloc_new w.drew _,⟨rfl,rfl⟩,by simp only[i];rw[av];simp,?_,λj v aq=>?_,λo _ _=>by simp,λk v ah ai=>?_,rfl⟩;·simp only[i];rw[Lh,aj];exact Bs _ ag
  ·obtain⟨az,ad,an⟩:=am.get aq;refine⟨az,?_,an⟩;simp only[i,LP];rw[<- Bl,ac,LY (Lk.1 ad).1];exact ad
  simp only[i,LP]at ah;rw[<- Bl,ac,LR (by rw[<- am.1];exact ah)]at ai;exact ab.spare (QB3 _ _ (by rw[ab.cells];exact ab.pos) ai)
 obtain⟨t1,t2⟩:=ay.push _ (.cells (o++c) e false) i rfl ao;refine⟨ax.trans t1,t2,?_⟩;refine .slice H.y 0 need _ cap i _ (Ww _ _ _) (.inl (by rw[Qaq])) ag ap (λ_=>?_) (λh=>by omega);simp only[i,LP];rw[ab.cellsOf];exact⟨by omega,rfl⟩
def QjC (e:TypeId)(aa:TypeInfo)(s x:Value)(H:Qa):Option (Value×Qa):=
 match YX aa.size x H with
 | none=>none
 | some (m,news)=>
  if news.all (·.oneCell')=true then
   match s with
   | .slice none 0 0=>
    if m=0 then some (.slice none 0 0,H) else
    if m<=9223372036854775807∧m * aa.bytes<=140737488355328 then some (.slice (some ⟨H.y,0,none⟩) m (UNK+aa.size),H.push (.cells news e false)) else none
   | .slice (some a) len cap=>
    if m=0 then(if UNK<=cap∨len<=cap then some (.slice (some a) len cap,H) else none) else
    match H.get a.block with
    | some (.cells c e' ro)=>
     if a.off+len * aa.size<=c.length∧len+m<=9223372036854775807∧(len+m) * aa.bytes<=140737488355328 then
      if UNK<=cap then
       if ro=false∧e'=e∧a.off=0∧a.off+len * aa.size=c.length then some (.slice (some ⟨H.y,0,none⟩) (len+m) (UNK+aa.size),(H.kill a.block).push (.cells (c.drop a.off++news) e false))
       else if ro=false∧cap=UNK+aa.size∧a.off+(len+m) * aa.size<=c.length then some (.slice (some a) (len+m) cap,H.set a.block (.cells (splice c (a.off+len * aa.size) news) e' false)) else none
      else if len+m<=cap then
       (if ro=false∧a.off+(len+m) * aa.size<=c.length then some (.slice (some a) (len+m) cap,H.set a.block (.cells (splice c (a.off+len * aa.size) news) e' false)) else none)
      else some (.slice (some ⟨H.y,0,none⟩) (len+m) (UNK+aa.size),H.push (.cells ((c.drop a.off).take (len * aa.size)++news) e false))
     else none
    | _=>none
   | _=>none
  else none
def Wv.storeEnd {ρ:Ren}{i:ZD}{w:World}{c:List Value}{e:TypeId}(aq:Wv P ρ i w (.cells c e false)){off:Nat}{vs ab:List Value}(ae:VL ρ vs ab)(aN:off<=c.length)(aH:off=0)(aM:c.length+vs.length<=i.n)
  (ao:∀v∈vs,v.oneCell'=true):∃w',(storeCells (i.at_.add c.length) ab).run P w=.ok () w'∧GN w w' i.at_.block∧Wv P ρ ⟨i.at_.add off,i.n - off,i.s⟩ w' (.cells (c.drop off++vs) e false):=by
 obtain⟨am,ag,ax,ad,aO,aI,ar,ah,aD,au⟩:=aq;have ay:=ae.1;have ap:∀v∈ab,v.oneCell'=true:=λaG aF=>by
  obtain⟨j,aa⟩:=BP aF;have aj:j<vs.length:=by rw[ay];exact(Lk.1 aa).1
  have:=ae.2 j _ aG (La aj) aa;rw[this.oneCell];exact ao _ (Nb aj)
 rw[Ql0 ad.1,Ql0 ad.1];obtain⟨w',an,aC,av,aB,aE,ac⟩:=Qcc P i.at_.block (i.at_.off+c.length) e ag ab 0 am w ax (by omega) (λk aK aL=>ah k (by omega) (by omega)) ap;simp only[N9]at ac;refine⟨w',aC,aB,an,ag,av,⟨rfl,by have:=ad.2;simp only;omega⟩,?_,?_,λj v aa=>?_,λo aA ak=>ah o (by simp only at aA;omega) (by rw[aE]at ak;exact ak),λo v az al=>?_,au⟩;·simp only;omega
 ·simp;omega
 ·simp only;rw[ac]
  by_cases ai:j<c.length - off;·rw[LY (by simpa using ai),Nk]at aa;rw[Le (by omega),Rh];exact ar _ v aa
  rw[LR (by simpa using ai)]at aa;simp only[NT]at aa;have aJ:j - (c.length - off)<vs.length:=(Lk.1 aa).1;rw[Lc ⟨by omega,by omega⟩];rw[show i.at_.off+off+j - (i.at_.off+c.length)=j - (c.length - off) by omega];exact ae.get aa
 simp only[Lh,NT]at az;rw[ac,Le (by omega)]at al;exact aD o v (by omega) al
def J4.kill_push (H:Qa)(id:Nat)(b:Blk):J4 ((H.kill id).push b) (H.push b):=by
 refine⟨by simp,λk bl aa=>?_⟩;have ab:=Qc (H.kill id) k b;have ac:=Qc H k b
 by_cases e:k=H.y;·rw[Lc (by exact e)]at ab ac;rw[ab]at aa;rw[ac];exact aa
 rw[Le (by exact e)]at ab ac;rw[ab,Q0]at aa;rw[ac]
 by_cases e2:k=id;·rw[Lc e2]at aa;cases aa
 rw[Le e2]at aa;exact aa
def QB4 {t t2 e:TypeId}{x y:Operand}{ab:TypeInfo}{z:Value}{aY:TypeDesc}{v:Value}{H':Qa}(ao:P.underlying t=some (.slice e))(ap:P.underlying t2=some aY)(an:Qib aY=true)(ad:V0 P e ab z)
  (h:QjC e ab (ev A x) (ev A y) H=some (v,H')):Qx P ⟨d,.call ⟨.builtin .append,#[x,y],#[t,t2]⟩,ty,pos,af,g⟩ A H v H':=
 .of_run λρ w s ai aH=>by
  rw[W8];have aD:=aH x (by simp[Op.operands,Call.operands]);have aO:=aH y (by simp[Op.operands,Call.operands])
  suffices bz:∃aj ρ' w',(Builtin.append_ #[t,t2] ty #[s.eval x,s.eval y]).run P w=.ok aj w'∧V ρ' v aj∧St ρ H w ρ' H' w'∧Sim P ρ' H' w' by
   obtain⟨aj,ρ',w',aQ,aR,aS,bd⟩:=bz;refine⟨aj,ρ',w',?_,aR,aS,bd⟩;simp only[builtin,R9,NZ,Bq,LW,aQ,Lz,Nc]
  generalize ev A x=u at aD h;generalize ev A y=u2 at aO h;generalize s.eval x=x' at aD;generalize s.eval y=y' at aO;unfold QjC at h;split at h;·cases h
  rename_i m ar b5;obtain⟨am,av,bm⟩:=QAR ai aO b5;obtain⟨c',ak,aU⟩:=bm m (Lb _);rw[LF (by omega)]at ak;have az:=aU w (λ_=>rfl);have aV:=aU w.drew (λ_=>rfl);split at h
  ·rename_i b4;have aM:∀v∈ar,v.oneCell'=true:=λv b6=>Li.1 b4 v b6;split at h
   ·-- nil
    have e1:=aD.plain_eq rfl;subst e1;split at h;·rename_i aA;cases h;subst aA;exact⟨.slice none 0 0,ρ,w,Kc ao ap an ad.info am az (by omega) (λa h=>by cases h) (λ_=>rfl),.same _ rfl,.refl _ _ _,ai⟩
    rename_i aA;split at h
    ·rename_i bj;cases h;have ac:¬0+m<=0:=by omega
     have ah:=QeV (ty:=ty) (old:=[]) (base:=none) (sCap:=0) ao ap an ad.info ad.zero am aV rfl ac (by omega) (by rw[LP];exact bj.2);obtain⟨g1,g2,g3⟩:=ai.grow ad (o:=[]) (o':=[]) (.nil ρ) ak (need:=m) (cap:=grownCap w (0+m) 0 e) (by simpa using av) (by have:=grownCap_ge w (0+m) 0 e;omega) (by
      have:=grownCap_le_maxLen w (0+m) 0 e (by simp only[maxLen];omega);simp only[maxLen,UNK]at *;omega)
     rw[LP]at ah g1 g2 g3;exact⟨_,_,_,ah,g3,g1,g2⟩
    cases h
   ·rename_i a len cap;obtain⟨i,ae,aa,g1,g2,g3,g4,b8,aJ,aK,aP⟩:=aD.slice_inv;obtain⟨id,off,bF⟩:=a;simp only at g1 g2 g4 aK aP h;subst g2;subst g3;split at h
    ·rename_i aA;split at h
     ·rename_i b9;cases h;subst aA;have b2:c'=[]:=by
       have:ar=[]:=N2.1 (by simpa using av);rw[this]at ak;exact ak.unnil
      subst b2;exact⟨_,ρ,w,Kc ao ap an ad.info am az (by omega) (λa _=>rfl) (λh=>by cases h),aD,.refl _ _ _,ai⟩
     cases h
    rename_i aA;split at h
    ·rename_i c e' ro aI;split at h
     ·rename_i al;obtain⟨bg,bh,bi⟩:=al;have aq:=ai.live id _ i aI g1;obtain⟨o',k1,k2,k3⟩:=aq.cellsAt off (len * ab.size) bg;have b3:(Builtin.firstCells ab.size len (.slice (some ae) len aa)).run P w.drew=.ok o'.toArray w.drew:=by
       by_cases bu:len=0;·subst bu;have:o'=[]:=N2.1 (by simpa using k1);subst this;simp[Builtin.firstCells,loadCells,loadCellsFrom]
       have ag:ae=i.at_.add off:=by rcases g4 with h | ⟨h,_⟩;exact h;omega
       exact run_firstCells_some (P:=P) w.drew ab.size len ae len aa o' k1 (λj v br=>by rw[ag];exact k3 j v br)
      have aW:¬len+m<=aa->∃aj ρ' w',(Builtin.append_ #[t,t2] ty #[.slice (some ae) len aa,y']).run P w=.ok aj w'∧V ρ' (.slice (some ⟨H.y,0,none⟩) (len+m) (UNK+ab.size)) aj∧
        St ρ H w ρ' (H.push (.cells ((c.drop off).take (len * ab.size)++ar) e false)) w'∧Sim P ρ' (H.push (.cells ((c.drop off).take (len * ab.size)++ar) e false)) w':=λac=>by
       have ah:=QeV (ty:=ty) (old:=o') ao ap an ad.info ad.zero am aV b3 ac bh bi;obtain⟨g1,g2,g3⟩:=ai.grow ad k2 ak (need:=len+m) (cap:=grownCap w (len+m) aa e) (by rw[k2.1,k1,av,Ry]) (grownCap_ge w (len+m) aa e) (by
        have:=grownCap_le_maxLen w (len+m) aa e (by simp only[maxLen];omega);simp only[maxLen,UNK]at *;omega)
       exact⟨_,_,_,ah,g3,g1,g2⟩
      split at h
      ·rename_i aN;split at h
       ·rename_i ax;obtain⟨aC,bo,b7,bp⟩:=ax;cases h;subst aC;subst bo
        by_cases ac:len+m<=aa
        ·obtain⟨aT,aG⟩:=aK aN;have aL:i.s=ab.size:=by
          obtain⟨aZ,ba,_,_,_,_,_,_,_,aH⟩:=aq;rw[aH,ad.cellsOf]
         have ag:ae=i.at_.add off:=by rcases g4 with h | ⟨h,h'⟩;exact h;omega
         have ay:c.length+ar.length<=i.n:=by
          rw[aL]at aG;have:(len+m) * ab.size<=aa * ab.size:=Bs _ ac;rw[Ry]at this;omega
         obtain⟨w',ah,aB,au⟩:=aq.storeEnd (off:=off) ak (by omega) b7 ay aM;obtain⟨aE,aF⟩:=ai.move (i':=⟨i.at_.add off,i.n - off,i.s⟩) g1 aI rfl aB (by simp[block_add]) (au.mono (Qgc _ ai.none_next) rfl);refine⟨.slice (some ae) (len+m) aa,_,w',Kc ao ap an ad.info am az ac (λb al=>?_) (λh=>by cases h),?_,aE,aF⟩;·cases al;rw[ag,ZK,bp];exact ah
         refine .slice H.y 0 (len+m) _ aa _ ae (Ww _ _ _) (.inl ?_) ac aJ (λ_=>?_) (λh=>by omega);·simp only[ZK,N9];exact ag
         simp only[LP];exact⟨by omega,by omega⟩
        obtain⟨aj,ρ',w',r1,r2,r3,r4⟩:=aW ac;have bn:(c.drop off).take (len * ab.size)=c.drop off:=LF (by simp;omega);rw[bn]at r3 r4;have aX:=J4.kill_push H id (.cells (c.drop off++ar) e' false);exact⟨aj,ρ',w',r1,r2,r3.less aX,r4.less aX⟩
       split at h
       ·rename_i ax;obtain⟨aC,bD,ay⟩:=ax;cases h;subst aC;obtain⟨aT,aG⟩:=aK aN;have aL:i.s=ab.size:=by omega
        have bw:=aq;obtain⟨aZ,ba,bE,_,bC,bA,_⟩:=bw;have ac:len+m<=aa:=by
         rcases Nq aa (len+m) with bx | bq
         ·exfalso;have aQ:(aa+1) * ab.size<=(len+m) * ab.size:=Bs _ bx;have aR:(aa+1) * ab.size=aa * ab.size+ab.size:=Nat.succ_mul _ _;have aS:0<ab.size:=by have:=ad.pos;have:=ad.cells;omega
          rw[aL]at aG;omega
         exact bq
        have ag:ae=i.at_.add off:=by rcases g4 with h | ⟨h,h'⟩;exact h;omega
        obtain⟨w',ah,aB,au⟩:=aq.storeList (off:=off+len * ab.size) ak (by rw[av];rw[Ry]at ay;omega) aM;obtain⟨aE,aF⟩:=ai.setBlk g1 aI rfl aB au;refine⟨.slice (some ae) (len+m) aa,ρ,w',Kc ao ap an ad.info am az ac (λb al=>?_) (λh=>by cases h),?_,aE,aF⟩;·cases al;rw[ag,ZK];exact ah
        exact .slice id off (len+m) cap aa i ae g1 (.inl ag) ac aJ (λ_=>⟨aT,aG⟩) (λh=>by omega)
       cases h
      rename_i aN;have bc:=aP (by omega);subst bc;split at h
      ·rename_i ac;split at h
       ·rename_i ax;cases h;obtain⟨aC,ay⟩:=ax;subst aC;have ag:ae=i.at_.add off:=by rcases g4 with h | ⟨h,h'⟩;exact h;omega
        obtain⟨w',ah,aB,au⟩:=aq.storeList (off:=off+len * ab.size) ak (by rw[av];rw[Ry]at ay;omega) aM;obtain⟨aE,aF⟩:=ai.setBlk g1 aI rfl aB au;refine⟨.slice (some ae) (len+m) aa,ρ,w',Kc ao ap an ad.info am az ac (λb al=>?_) (λh=>by cases h),?_,aE,aF⟩;·cases al;rw[ag,ZK];exact ah
        exact .slice id off (len+m) aa aa i ae g1 (.inl ag) ac aJ (λh=>by omega) (λ_=>rfl)
       cases h
      rename_i ac;cases h;exact aW ac
     cases h
    cases h
   cases h
  cases h
end
inductive Out where
 | ret (v:Value)
 | pan (v:Value)
def QDH (ρ:Ren):Out->Ending->Prop
 | .ret v,.returned aa=>V ρ v aa
 | .pan v,.panicked ch=>∃aa,V ρ v aa∧ch=[{v:=aa,recovered:=false}]
 | _,_=>False
def Qce (P:Program)(f:FuncId)(args:List Value)(H:Qa)(o:Out)(H':Qa):Prop:=
 ∀ρ w args',Sim P ρ H w->VL ρ args args'->Calls P f args'.toArray w λe w'=>∃ρ',QDH ρ' o e∧St ρ H w ρ' H' w'∧Sim P ρ' H' w'
def Qce.less {P:Program}{f:FuncId}{args:List Value}{H:Qa}{o:Out}{H1 H2:Qa}(h:Qce P f args H o H1)(l:J4 H2 H1):Qce P f args H o H2:=
 λρ w args' ab aa=>(h ρ w args' ab aa).mono λe w' ⟨ρ',h1,h2,h3⟩=>⟨ρ',h1,h2.less l,h3.less l⟩
def Qcf (args:List Value):Env:=λt=>args.getD t undef
section
variable {P:Program} {n:Nat} {Q:Ex->Env->Qa->Prop} {A:Env} {H:Qa} {d:Option Nat} {ty:TypeId} {pos:String} {af:Array Edge} {g:Option (Nat×Bool)}
def ZV (P:Program)(n:Nat)(A:Env)(H:Qa):ResultVar->Option Value
 | .tmp t=>if t<n then some (A t) else none
 | .cell a t=>if a<n then(match A a with | .pointer (some ad)=>X5 P t ad H | _=>none) else none
def QhP (P:Program)(n:Nat)(rs:Array ResultVar)(A:Env)(H:Qa):Option Value:=
 match rs.toList with
 | [r]=>ZV P n A H r
 | l=>(l.mapM (ZV P n A H)).map λvs=>.tuple vs.toArray
def Qo1 (tmps:Array Value):ResultVar->Sem Value
 | .tmp t=>pure (tmps.getD t undef)
 | .cell a t=>do loadVar t (<- asAddr (tmps.getD a undef))
def QwE {ρ:Ren}{w:World}{a:Act}(ak:Sim P ρ H w)(ac:EnvRel ρ n A a){r:ResultVar}{v:Value}(h:ZV P n A H r=some v):∃aa,(Qo1 a.tmps r).run P w=.ok aa w∧V ρ v aa:=by
 cases r with
 | tmp t=>
  simp only[ZV]at h;split at h;·rename_i ab;cases h;exact⟨_,rfl,ac.tmps t ab⟩
  cases h
 | cell p t=>
  simp only[ZV]at h;split at h
  ·rename_i ab;split at h;·rename_i ag ah;have ae:=ac.tmps p ab;rw[ah]at ae;obtain⟨i,g1,g2,g3⟩:=ae.ptr_inv;obtain⟨id,off,al⟩:=ag;simp only at g1 g2 g3;subst g2;obtain⟨c,e,ro,ad⟩:=Qia h;obtain⟨aa,ai,aj⟩:=QnN g1 ad (ak.live id _ i ad g1) h;refine⟨aa,?_,aj⟩;simp only[Qo1,g3,asAddr,LW,Nc,Lz,ai]
   cases h
  cases h
def QwF {ρ:Ren}{w:World}{a:Act}(ac:Sim P ρ H w)(ab:EnvRel ρ n A a):∀ (rs:List ResultVar) (vs:List Value),rs.mapM (ZV P n A H)=some vs->∃aa,(rs.mapM (Qo1 a.tmps)).run P w=.ok aa w∧VL ρ vs aa
 | [],vs,h=>by simp at h;subst h;exact⟨[],rfl,.nil ρ⟩
 | r::rs,vs,h=>by
  simp only[Ra,BV,BY,Rx,Lt]at h;obtain⟨v,ai,al,aj,rfl⟩:=h;obtain⟨ak,ad,ae⟩:=QwE ac ab ai;obtain⟨aa,ag,ah⟩:=QwF ac ab rs al aj;refine⟨ak::aa,?_,.cons ae ah⟩;simp only[Ra,LW,ad,Lz,ag,Nc]
def QyZ (fn:Func)(tmps:Array Value)(w:World):(results fn tmps).run P w=((fn.results.toList.mapM (Qo1 tmps)).run P w).andThen λvs w'=>.ok (if h:vs.length=1 then vs[0] else .tuple vs.toArray) w':=by
 unfold results;rw[Array.mapM_eq_mapM_toList];simp only[LW,Sem.run_map];have key:∀F:ResultVar->Sem Value,(∀r,F r=Qo1 tmps r)->((Sem.run P (List.mapM F fn.results.toList) w).andThen (λa w'=>Result.ok a.toArray w')).andThen (λa w'=>Sem.run P (pure (if h:a.size=1 then a[0] else Value.tuple a)) w') =
   (Sem.run P (List.mapM (Qo1 tmps) fn.results.toList) w).andThen λvs w'=>Result.ok (if h:vs.length=1 then vs[0] else Value.tuple vs.toArray) w':=by
  intro F aa;obtain rfl:F=Qo1 tmps:=funext aa;cases(fn.results.toList.mapM (Qo1 tmps)).run P w with
  | ok vs w'=>
   simp only[Lz,Nc];congr 1
  | halt x w'=>rfl
 exact key _ (λr=>by cases r<;>rfl)
def Qo2 {ρ:Ren}{w:World}{a:Act}(ag:Sim P ρ H w)(ae:EnvRel ρ n A a){fn:Func}{v:Value}(h:QhP P n fn.results A H=some v):∃ab,(results fn a.tmps).run P w=.ok ab w∧V ρ v ab:=by
 rw[QyZ];unfold QhP at h;split at h;·rename_i r ad;rw[ad];obtain⟨ab,ac,aa⟩:=QwE ag ae h;refine⟨ab,?_,aa⟩;simp only[Ra,FO,LW,ac,Lz,Nc];rfl
 ·rename_i am;simp only[Lx]at h;obtain⟨vs,ah,rfl⟩:=h;obtain⟨ai,ac,aa⟩:=QwF ag ae _ vs ah;have ak:ai.length≠1:=by
   rw[<- aa.1];have al:vs.length=fn.results.toList.length:=mapM_length ah;rw[al];intro aj;obtain⟨r,ad⟩:=List.length_eq_one_iff.1 aj;exact am r ad
  refine⟨.tuple ai.toArray,?_,.tuple _ _ (by simpa using aa.1) (λj x x' a b=>aa.2 j x x' (by simpa using a) (by simpa using b))⟩;rw[ac];simp only[Lz,ak,dite_false]
 where
 mapM_length {α β:Type} {f:α->Option β} {l:List α} {r:List β} (h:l.mapM f=some r):r.length=l.length:=by
  induction l generalizing r with
  | nil=>simp at h;subst h;rfl
  | cons x l ao=>
   simp only[Ra,BV,BY,Rx,Lt]at h;obtain⟨b,_,ap,an,rfl⟩:=h;simp[ao an]
def QuQ {ρ:Ren}{args args':List Value}(m:Nat)(h:VL ρ args args'):EnvRel ρ (args.length+(m - args.length)) (Qcf args) {tmps:=args'.toArray++Array.replicate (m - args'.toArray.size) undef,defers:=[]}:=by
 have ab:=h.1;refine⟨by simp[ab],λt ag=>?_⟩;simp only[Qcf];rw[N0]
 by_cases aa:t<args.length
 ·obtain⟨x',ac,ae⟩:=h.get (La aa);rw[Array.getElem?_append_left (by simpa[<- ab] using aa)];have ad:args'.toArray[t]? = some x':=by simpa using ac
  rw[ad];simp only[List.getD,La aa,NB];exact ae
 have e1:args.getD t undef=undef:=by simp[List.getD,N7 (by omega:args.length<=t)]
 rw[e1,Array.getElem?_append_right (by simp;omega),Array.getElem?_replicate];split;·exact .closed (by simp[undef,Xq])
 exact .closed (by simp[undef,Xq])
def QIS (P:Program)(n:Nat)(rs:Array ResultVar)(o:Out)(H':Qa):Ex->Env->Qa->Prop
 | .normal,A,H1=>∃v,o=.ret v∧QhP P n rs A H1=some v∧J4 H' H1
 | .ret,A,H1=>∃v,o=.ret v∧QhP P n rs A H1=some v∧J4 H' H1
 | .panic v,A,H1=>o=.pan v∧J4 H' H1
 | _,_,_=>False
/-! ### Blocks that nothing known may write, written by the machine -/
def Sim.putHid {ρ:Ren}{w:World}{b:Nat}{o o':Obj}(aa:Sim P ρ H w)(ac:Hid ρ H w b o):Sim P ρ H (w.putObj b o'):=
 ⟨aa.dom,λid bl i ab hi=>(aa.live id bl i ab hi).mono (.refl ρ) (World.putObj_heap_other (ac.un id i bl hi ab)),aa.sep,aa.glob⟩
def St.putHid {ρ0 ρ:Ren}{H0:Qa}{ab w:World}{b:Nat}{o':Obj}(aa:St ρ0 H0 ab ρ H w)(ae:ab.heap.size<=b):St ρ0 H0 ab ρ H (w.putObj b o'):=
 {aa with
  size:=by simpa using aa.size
  frame:=λk ac ad=>by rw[World.putObj_heap_other (by omega)];exact aa.frame k ac ad}
def Hid.put {ρ:Ren}{w:World}{b d:Nat}{o o':Obj}(h:Hid ρ H w d o)(aa:d≠b):Hid ρ H (w.putObj b o') d o:=
 ⟨by rw[World.putObj_heap_other aa];exact h.at_,h.un⟩
def Hid.same {ρ:Ren}{w:World}{b:Nat}{o o':Obj}(h:Hid ρ H w b o):Hid ρ H (w.putObj b o') b o':=⟨World.putObj_heap_same h.lt,h.un⟩
def Qgg {fn:Func}{tmps:Array Value}{R:Ending->World->Prop}{u:FrameMode}{z:Rd}{ρ0 ρ:Ren}{H0:Qa}{ab:World}(ad:u≠.run):∀ (aa:List Nat) (w:World),aa.Nodup->(∀d∈aa,ab.heap.size<=d∧Hid ρ H w d (.deferred (some [])))->
  St ρ0 H0 ab ρ H w->Sim P ρ H w->(∀w,St ρ0 H0 ab ρ H w->Sim P ρ H w->LeavesIn (fen z) 0 P fn tmps R [] u w)->LeavesInM (fen z) 0 P fn tmps R (aa.map Qww) u w
 | [],w,_,_,hst,hs,h=>h w hst hs
 | d::aa,w,hn,hd,hst,hs,h=>by
  obtain⟨ae,ac⟩:=hd d (by simp);refine⟨ad,.inl ⟨d,_,rfl,run_takeDeferred ac.at_,?_⟩⟩;rw[FR]at hn;exact Qgg ad aa _ hn.2 (λx hx=>⟨(hd x (by simp[hx])).1,(hd x (by simp[hx])).2.put (λe=>hn.1 (e▸hx))⟩) (hst.putHid ae) (hs.putHid ac) h
def QqY {f:FuncId}{fn:Func}{c:Code}{args:List Value}{o:Out}{H':Qa}(au:P.funcs[f]? = some fn)(aq:fn.body=some c)
  (h:AWp P (args.length+(fn.ntmps - args.length)) c (QIS P (args.length+(fn.ntmps - args.length)) fn.results o H') (Qcf args) H):Qce P f args H o H':=by
 intro ρ w args' hs ha;refine callsIn_wide.1 (callsIn_of_wp_marks (F:=fen ⟨none,w.heap.size,[]⟩) (n:=0) au aq trivial (FF (h ⟨none,w.heap.size,[]⟩ ρ w _ hs ⟨QuQ fn.ntmps ha,⟨⟨[],rfl,.nil,λd ar=>by simp at ar⟩,λl aa=>by simp at aa,Lb _⟩⟩) ?_));rintro e a1 an ⟨e',ρ1,A1,H1,ae,am,al,ai,ak⟩;obtain⟨ad,ab,aj,ah⟩:=ai.fr.marks;have ab:a1.defers=ad.map Qww:=ab.trans (Na _);cases e'<;>cases e<;>simp only[QoX]at ak<;>simp only[QIS]at ae
 case panic.panic v ch=>
  obtain⟨rfl,aa⟩:=ae;show LeavesInM _ _ _ _ _ _ a1.defers _ _;rw[ab];exact Qgg (by simp) ad an aj ah am al (λay ag ac=>⟨ρ1,ak,ag.less aa,ac.less aa⟩)
 all_goals
  obtain⟨v,rfl,av,aa⟩:=ae;show LeavesInM _ _ _ _ _ _ a1.defers _ _;rw[ab];refine Qgg (by simp) ad an aj ah am al (λay ag ac=>?_);obtain⟨ax,ao,ap⟩:=Qo2 ac ai.toEnvRel (fn:=fn) av;exact⟨ax,ao,ρ1,ap,ag.less aa,ac.less aa⟩
/-! ### Calls -/
def entered (P:Program)(f:FuncId):Bool:=
 match P.funcs[f]? with
 | some fn=>!(fn.name == "runtime.NumGoroutine")&&fn.body.isSome
 | none=>false
def QbU {f:FuncId}(h:entered P f=true)(args:Array Value)(w:World):(callFunc f args).run P w=.ok (.enter f args) w:=by
 unfold entered at h;split at h
 ·rename_i fn ac;simp only[Lm,Lr]at h;obtain⟨aa,ad⟩:=h;have ab:fn.body.isNone=false:=by cases ae:fn.body<;>simp_all
  simp only[callFunc,LW,DJ,Lz,ac,aa,LV,LN,ab,Nc]
 cases h
def Qy0 (P:Program)(z:Rd)(m:Machine):m.fenced P (fen z):=fenced_wide P m
def Qo3 {z:Rd}{m aa:Machine}:StepsIn (Machine.fenced P (fen z)) P m aa↔Steps P m aa:=by
 have:Machine.fenced P (fen z)=Machine.fenced P Fence.wide:=funext λm=>propext ⟨λ_=>fenced_wide P m,λ_=>Qy0 P z m⟩;rw[this];exact stepsIn_wide
def Qo4 {z:Rd}{n:Nat}{f:FuncId}{args:Array Value}{w:World}{R:Ending->World->Prop}(h:Calls P f args w R):CallsIn (fen z) n P f args w R:=by
 refine⟨trivial,λcs _=>?_⟩;obtain⟨e,w',fr,r,s,x⟩:=h cs;refine⟨e,w',fr,r,?_,x⟩;cases e with
 | returned v=>exact Qo3.2 s
 | panicked aa=>exact Qo3.2 s
 | outgrown=>exact s
def QqZ {o:Oper}{f:FuncId}{args:List Value}{v:Value}{H':Qa}
  (ad:∀ρ w a,Sim P ρ H w->QoY ρ o A a->∃args',VL ρ args args'∧(execOp a.eval o).run P w=.ok (.enter f args'.toArray) w) (ac:Qce P f args H (.ret v) H'):Qx P o A H v H':=by
 intro ρ w a hs he K Q hk z;obtain⟨args',ab,ae⟩:=ad ρ w a hs he;refine⟨λ_ _=>trivial,?_⟩;rw[Qh7 ae (by simp) _];refine⟨λh=>by simp[fen,Fence.wide]at h,?_⟩;refine Qo4 ((ac ρ w args' hs ab).mono ?_);rintro e w' ⟨ρ',aa,ah,ag⟩;cases e with
 | returned ai=>exact hk ai ρ' w' aa ah ag
 | panicked aj=>exact aa.elim
 | outgrown=>exact aa.elim
def QAS (P:Program)(f:FuncId)(args:List Value)(H:Qa)(v:Value)(H':Qa):Prop:=
 ∀ρ w args',Sim P ρ H w->VL ρ args args'->∃aa ρ' w',(callFunc f args'.toArray).run P w=.ok (.value aa) w'∧V ρ' v aa∧St ρ H w ρ' H' w'∧Sim P ρ' H' w'
def Kd (P:Program)(f:FuncId)(args:List Value)(H:Qa)(v:Value)(H':Qa):Prop:=
 (entered P f=true∧Qce P f args H (.ret v) H')∨QAS P f args H v H'
def QnR {o:Oper}{f:FuncId}{args:List Value}{v:Value}{H':Qa}
  (ag:∀ρ w a,Sim P ρ H w->QoY ρ o A a->∃args',VL ρ args args'∧(execOp a.eval o).run P w=(callFunc f args'.toArray).run P w) (ad:Kd P f args H v H'):Qx P o A H v H':=by
 rcases ad with⟨ah,ad⟩ | hx;·refine QqZ (λρ w a aa ae=>?_) ad;obtain⟨args',ab,ac⟩:=ag ρ w a aa ae;exact⟨args',ab,by rw[ac,QbU ah]⟩
 refine .of_run λρ w a aa ae=>?_;obtain⟨args',ab,ac⟩:=ag ρ w a aa ae;rw[ac];exact hx ρ w args' aa ab
def Qqy {f:FuncId}{args:Array Operand}{ac:Array TypeId}{v:Value}{H':Qa}(aa:Kd P f (args.map (ev A)).toList H v H'):
  Qx P ⟨d,.call ⟨.value (.func f),args,ac⟩,ty,pos,af,g⟩ A H v H':=
 QnR (λρ w a ad ab=>⟨(args.map a.eval).toList,Qt0 (λx hx=>ab x (by simp[Op.operands,Call.operands,hx])),by
  simp only[execOp,resolve,Deferred.ofValue,Act.eval,invoke,pure_bind,Array.empty_append,Array.append_empty,RE]⟩) aa
def V.func_inv {ρ:Ren}{f:FuncId}{xs ac:Array Value}{z:Value}(h:V ρ (.func (.func f) xs ac) z):∃aa ab,z=.func (.func f) aa ab∧VL ρ xs.toList aa.toList∧VL ρ ac.toList ab.toList:=by
 cases h with
 | same _ ai=>simp[plain]at ai
 | func fn xs ac aa ab aj ad ae ag ah=>
  exact⟨aa,ab,rfl,⟨by simpa using ad,λj x x' a b=>ag j x x' (by simpa using a) (by simpa using b)⟩,⟨by simpa using ae,λj x x' a b=>ah j x x' (by simpa using a) (by simpa using b)⟩⟩
def QwG {f:FuncId}{c:Operand}{args:Array Operand}{ai:Array TypeId}{xs ac:Array Value}{v:Value}{H':Qa}(ad:ev A c=.func (.func f) xs ac)
  (ah:Kd P f (xs.toList++(args.map (ev A)).toList++ac.toList) H v H'):Qx P ⟨d,.call ⟨.value c,args,ai⟩,ty,pos,af,g⟩ A H v H':=
 QnR (λρ w a al aa=>by
  have ab:=aa c (by simp[Op.operands,Call.operands]);rw[ad]at ab;obtain⟨aj,ak,e,ae,ag⟩:=ab.func_inv;refine⟨aj.toList++(args.map a.eval).toList++ak.toList,(ae.append (Qt0 (λx hx=>aa x (by simp[Op.operands,Call.operands,hx])))).append ag,?_⟩;simp only[execOp,resolve,e,Deferred.ofValue,invoke,pure_bind];congr 2;apply Ru;simp) ah
/-! ### Panics -/
def Kd.does {f:FuncId}{args:List Value}{v:Value}{H':Qa}(ac:entered P f=true)(h:Kd P f args H v H'):Qce P f args H (.ret v) H':=by
 rcases h with⟨_,ab⟩ | hx;·exact ab
 intro ρ w args' hs ha;obtain⟨ad,ρ',w',aa,_⟩:=hx ρ w args' hs ha;rw[QbU ac]at aa;cases aa
/-! ### What the model runs itself -/
inductive Xk where
 | count | indexByte | noEscape | add64
def Xk.entry:Xk->Array Value->Sem Value
 | .count=>Extern.BytealgCount.count
 | .indexByte=>Extern.BytealgIndexByte.indexByte
 | .noEscape=>Extern.AbiNoEscape.same
 | .add64=>λargs=>do
  let (x,y,c) <- Extern.MathBitsCarry.three "Add64" args
  pure (Extern.MathBitsCarry.pair ((x+y+c) % Extern.MathBitsCarry.m64) ((x+y+c) / Extern.MathBitsCarry.m64))
def Xk.val:Xk->List Value->Option Value
 | .count,[.string s,.int .u8 c]=>some (.int .i64 (Lib.countByte (bl s) c.toNat.toUInt8))
 | .indexByte,[.string s,.int .u8 c]=>some (.int .i64 (Lib.indexByte (bl s) c.toNat.toUInt8))
 | .noEscape,[x]=>some x
 | .add64,[.int .u64 x,.int .u64 y,.int .u64 c]=>if c.toNat<=1 then some (.tuple #[.int .u64 (((x.toNat+y.toNat+c.toNat) % 18446744073709551616:Nat):Int),.int .u64 (((x.toNat+y.toNat+c.toNat) / 18446744073709551616:Nat):Int)]) else none
 | _,_=>none
def IsExt (P:Program)(f:FuncId)(k:Xk):Prop:=
 ∃fn,P.funcs[f]? = some fn∧(fn.name == "runtime.NumGoroutine")=false∧fn.body.isNone=true∧(Extern.findNext fn).isNone=true∧Extern.find fn=some k.entry
set_option maxHeartbeats 800000 in
def QwH {f:FuncId}{k:Xk}{args:List Value}{v:Value}(hx:IsExt P f k)(ab:k.val args=some v):QAS P f args H v H:=by
 obtain⟨fn,ag,ah,ad,ae,ai⟩:=hx;have ae:Extern.findNext fn=none:=by simpa using ae
 intro ρ w args' hs ha;rw[run_callFunc_extern ag ah ad ae ai];unfold Xk.val at ab;split at ab;·rename_i s c;cases ab;obtain⟨x,l,rfl,hx,aa⟩:=ha.uncons;obtain⟨y,l,rfl,ac,aa⟩:=aa.uncons;obtain rfl:=aa.unnil;rw[hx.plain_eq rfl,ac.plain_eq rfl];refine⟨_,ρ,w,?_,.same _ rfl,.refl _ _ _,hs⟩;rw[show Xk.count.entry=Extern.BytealgCount.count from rfl,Lib.run_countString];rfl
 ·rename_i s c;cases ab;obtain⟨x,l,rfl,hx,aa⟩:=ha.uncons;obtain⟨y,l,rfl,ac,aa⟩:=aa.uncons;obtain rfl:=aa.unnil;rw[hx.plain_eq rfl,ac.plain_eq rfl];refine⟨_,ρ,w,?_,.same _ rfl,.refl _ _ _,hs⟩;rw[show Xk.indexByte.entry=Extern.BytealgIndexByte.indexByte from rfl,Lib.run_indexByteString];rfl
 ·rename_i x;cases ab;obtain⟨y,l,rfl,ac,aa⟩:=ha.uncons;obtain rfl:=aa.unnil;exact⟨y,ρ,w,rfl,ac,.refl _ _ _,hs⟩
 ·rename_i x y c;split at ab
  ·rename_i ao;cases ab;obtain⟨ap,l,rfl,al,aa⟩:=ha.uncons;obtain⟨aq,l,rfl,am,aa⟩:=aa.uncons;obtain⟨ar,l,rfl,an,aa⟩:=aa.uncons;obtain rfl:=aa.unnil;rw[al.plain_eq rfl,am.plain_eq rfl,an.plain_eq rfl];refine⟨_,ρ,w,?_,.closed (by simp[Xq,plain]),.refl _ _ _,hs⟩;have ak:¬c.toNat>1:=by omega
   have aj:Extern.MathBitsCarry.three "Add64" #[.int .u64 x,.int .u64 y,.int .u64 c]=(do
     let c:=(<- asInt (.int .u64 c)).toNat
     if c>1 then unsupported (.noEntry ("extern/math/bits." ++ "Add64" ++ ": a carry that is neither 0 nor 1"))
     pure ((<- asInt (.int .u64 x)).toNat,(<- asInt (.int .u64 y)).toNat,c)):=rfl
   have ad:(Extern.MathBitsCarry.three "Add64" #[.int .u64 x,.int .u64 y,.int .u64 c]).run P w=.ok (x.toNat,y.toNat,c.toNat) w:=by
    rw[aj];have hi:∀ (k:IntKind) (m:Int),(asInt (.int k m)).run P w=.ok m w:=λ_ _=>rfl;simp only[LW,hi,Lz,Le ak,Nc]
   simp only[Xk.entry,LW,ad,Lz,Nc];rfl
  cases ab
 cases ab
end
section
variable {P:Program} {n:Nat} {A:Env} {H:Qa} {d:Option Nat} {ty:TypeId} {pos:String} {af:Array Edge} {g:Option (Nat×Bool)}
def QnU (w:World)(e:TypeId)(s:ByteArray):Lib.bytesWorld w e s=w.drew.alloc (.cells (Lib.bytesCells w e s) e ((Lib.bytesCells w e s).size,(Lib.bytesCells w e s).size+1)):=by
 simp only[Lib.bytesWorld,World.freeze,World.alloc,World.drew];simp only[Nat.succ_ne_zero,LN];congr 1;apply Array.ext;·simp
 intro i aa ab;simp only[Array.size_modify,Array.size_push]at aa
 by_cases hi:i=w.heap.size;·subst hi;rw[Array.getElem_modify_self];simp
 rw[Array.getElem_modify_of_ne (by omega)];rw[Array.getElem_push_lt (by omega),Array.getElem_push_lt (by omega)]
def Qy5 {src ab e:TypeId}{x:Operand}{s:ByteArray}{u:TypeDesc}{ah:TypeInfo}{z:Value}(aj:P.underlying src=some u)(ak:P.underlying ab=some (.slice e))(al:P.underlying e=some (.int .u8))
  (aq:V0 P e ah z) (au:ah.size=1) (ai:ev A x=.string s) (aA:(bl s).length<=140737488355328):
  Qx P ⟨d,.convert src ab x,ty,pos,af,g⟩ A H (.slice (some ⟨H.y,0,none⟩) (bl s).length (UNK+1)) (H.push (.cells (X6 s) e false)):=
 .of_run λρ w a ar ao=>by
  have e1:=Zo (ao x (by simp[Op.operands])) ai rfl;have ag:=Lib.run_convert_string_bytes (P:=P) w src ab e s aj ak al;have aD:s.size=(bl s).length:=rfl;have ap:=grownCap_ge w s.size 0 e;have aB:=grownCap_le_maxLen w s.size 0 e (by simp only[maxLen];omega);have ay:(X6 s).length=(bl s).length:=by simp[X6,bl]
  have an:(Lib.bytesCells w e s).size=grownCap w s.size 0 e:=by
   simp only[Lib.bytesCells,Array.size_append,Array.size_map,Array.size_replicate];have:s.data.size=s.size:=rfl;omega
  have ae:(Lib.bytesCells w e s).toList=X6 s++List.replicate (grownCap w s.size 0 e - s.size) (.int .u8 0):=by
   simp[Lib.bytesCells,X6]
  rw[QnU]at ag;obtain⟨av,ax⟩:=ar.drew
  let i:ZD:=⟨⟨w.heap.size,0,none⟩,grownCap w s.size 0 e,P.cellsOf e⟩
  have am:Wv P (ext ρ H.y i) i (w.drew.alloc (.cells (Lib.bytesCells w e s) e ((Lib.bytesCells w e s).size,(Lib.bytesCells w e s).size+1))) (.cells (X6 s) e false):=by
   refine⟨_,_,heap_alloc_new w.drew _,⟨rfl,rfl⟩,by simp only[i];rw[an];simp,by simp only[i];omega,λj v ac=>⟨v,?_,.same v ?_⟩,λo _ aC az=>by omega,λk v ad aa=>?_,rfl⟩;·simp only[i,LP];rw[<- Bl,ae,LY (Lk.1 ac).1];exact ac
   ·have:=Ln ac;simp only[X6,N4]at this;obtain⟨b,_,rfl⟩:=this;rfl
   simp only[i,LP]at ad;rw[<- Bl,ae,LR ad,List.getElem?_replicate]at aa;split at aa;·cases aa;exact λ_=>⟨0,rfl,by omega,by omega⟩
   cases aa
  obtain⟨t1,t2⟩:=ax.push _ (.cells (X6 s) e false) i rfl am;refine⟨.slice (some ⟨w.heap.size,0,none⟩) s.size (grownCap w s.size 0 e),_,_,?_,?_,av.trans t1,t2⟩;·simp only[execOp,e1,LW,ag,Lz,Nc]
  refine .slice H.y 0 _ _ _ i _ (Ww _ _ _) (.inl (by rw[Qaq])) ap (by simp only[maxLen,UNK]at *;omega) (λ_=>?_) (λh=>by simp only[UNK]at h;omega);simp only[i,LP];rw[aq.cellsOf,au];exact⟨by simp only[UNK],by omega⟩
end
end Go.Ab
