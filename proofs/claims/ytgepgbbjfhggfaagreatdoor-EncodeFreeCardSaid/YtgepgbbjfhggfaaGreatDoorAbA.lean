/- The abstract heap: ids, blocks, renamings, what values and worlds are alike, and what a step leaves as it was. Over any program. -/
import Derived.WalkKit
import Derived.Laws.AppendOwn
import Derived.OrdersIn
import Derived.TacticsIn
import Derived.RangeFuncRecord
import Derived.Laws.StructEq
import Derived.Laws.Cover3
import Derived.Laws.Pointers
import Derived.Laws.MakeOwn
import Derived.RangeFuncNested
import Derived.Lib.Bytealg
import Derived.Lib.ConvBytes
set_option linter.unusedVariables false
noncomputable section
namespace Go.Ab
def UNK:Nat:=9223372036854775808
structure Ze where
 at_:Addr
 n:Nat
 s:Nat
abbrev Ren:=Nat->Option Ze
def plain:Value->Bool
 | .bool _ | .int _ _ | .float _ _ | .complex _ _ _ | .string _ | .pointer none | .slice none _ _ | .map none | .chan none | .nilFunc | .nilIface=>true
 | _=>false
def Qag:Fn->Bool
 | .yield _=>false
 | _=>true
inductive V (ρ:Ren):Value->Value->Prop
 | same (v:Value):plain v=true->V ρ v v
 | ptr (id off:Nat) (i:Ze):ρ id=some i->V ρ (.pointer (some ⟨id,off,none⟩)) (.pointer (some (i.at_.add off)))
 | slice (id off len cap cap':Nat) (i:Ze) (a':Addr):ρ id=some i->(a'=i.at_.add off∨(len=0∧cap'=0))->len<=cap'->cap'<UNK->
   (UNK<=cap->i.s=cap - UNK∧off+cap' * i.s=i.n)->(cap<UNK->cap'=cap)->V ρ (.slice (some ⟨id,off,none⟩) len cap) (.slice (some a') len cap')
 | map (id:Nat) (i:Ze):ρ id=some i->V ρ (.map (some id)) (.map (some i.at_.block))
 | func (fn:Fn) (xs ys xs' ys':Array Value):Qag fn=true->xs.size=xs'.size->ys.size=ys'.size->
   (∀ (j:Nat) x x',xs[j]? = some x->xs'[j]? = some x'->V ρ x x')->(∀ (j:Nat) x x',ys[j]? = some x->ys'[j]? = some x'->V ρ x x')->V ρ (.func fn xs ys) (.func fn xs' ys')
 | yield (l:Nat) (i:Ze):ρ l=some i->V ρ (.func (.yield l) #[] #[]) (.func (.yield i.at_.block) #[] #[])
 | iface (t:TypeId) (v v':Value):V ρ v v'->V ρ (.iface t v) (.iface t v')
 | agg (xs xs':Array Value):xs.size=xs'.size->(∀ (j:Nat) x x',xs[j]? = some x->xs'[j]? = some x'->V ρ x x')->V ρ (.agg xs) (.agg xs')
 | tuple (xs xs':Array Value):xs.size=xs'.size->(∀ (j:Nat) x x',xs[j]? = some x->xs'[j]? = some x'->V ρ x x')->V ρ (.tuple xs) (.tuple xs')
def Sub (ρ ρ':Ren):Prop:=∀id i,ρ id=some i->ρ' id=some i
theorem Sub.refl (ρ:Ren):Sub ρ ρ:=λ_ _ h=>h
theorem Sub.trans {a b c:Ren} (h:Sub a b) (h':Sub b c):Sub a c:=λid i e=>h' id i (h id i e)
theorem V.mono {ρ ρ':Ren} (hs:Sub ρ ρ') {v v':Value} (h:V ρ v v'):V ρ' v v':=by
 induction h with
 | same v hp=>exact .same v hp
 | ptr id off i h=>exact .ptr id off i (hs _ _ h)
 | slice id off len cap cap' i a' h h1 h2 h0 h3 h4=>exact .slice id off len cap cap' i a' (hs _ _ h) h1 h2 h0 h3 h4
 | map id i h=>exact .map id i (hs _ _ h)
 | func fn xs ys xs' ys' hn h1 h2 _ _ ih1 ih2=>exact .func fn xs ys xs' ys' hn h1 h2 ih1 ih2
 | yield l i h=>exact .yield l i (hs _ _ h)
 | iface t v v' _ ih=>exact .iface t v v' ih
 | agg xs xs' h1 _ ih=>exact .agg xs xs' h1 ih
 | tuple xs xs' h1 _ ih=>exact .tuple xs xs' h1 ih
def VL (ρ:Ren) (xs xs':List Value):Prop:=xs.length=xs'.length∧∀ (j:Nat) x x',xs[j]? = some x->xs'[j]? = some x'->V ρ x x'
theorem VL.mono {ρ ρ':Ren} (hs:Sub ρ ρ') {v v':List Value} (h:VL ρ v v'):VL ρ' v v':=⟨h.1,λj x x' a b=>(h.2 j x x' a b).mono hs⟩
theorem VL.nil (ρ:Ren):VL ρ [] []:=⟨rfl,λ_ _ _ h=>by simp at h⟩
theorem VL.cons {ρ:Ren} {x x':Value} {xs xs':List Value} (h:V ρ x x') (hs:VL ρ xs xs'):VL ρ (x::xs) (x'::xs'):=
 ⟨by simp[hs.1],λj y y' a b=>by
  cases j with
  | zero=>simp at a b;subst a;subst b;exact h
  | succ j=>simp at a b;exact hs.2 j y y' a b⟩
theorem VL.uncons {ρ:Ren} {x:Value} {xs l:List Value} (h:VL ρ (x::xs) l):∃x' xs',l=x'::xs'∧V ρ x x'∧VL ρ xs xs':=by
 cases l with
 | nil=>have:=h.1;simp at this
 | cons x' xs'=>
  exact⟨x',xs',rfl,h.2 0 x x' rfl rfl,by have:=h.1;simp at this;exact this,λj y y' a b=>h.2 (j+1) y y' (by simpa using a) (by simpa using b)⟩
theorem VL.unnil {ρ:Ren} {l:List Value} (h:VL ρ [] l):l=[]:=by
 have:=h.1;simp at this;exact List.length_eq_zero_iff.1 this.symm
theorem VL.append {ρ:Ren} {a a' b b':List Value} (h:VL ρ a a') (h':VL ρ b b'):VL ρ (a++b) (a'++b'):=by
 refine⟨by simp[h.1,h'.1],λj x x' e e'=>?_⟩
 by_cases hj:j<a.length
 ·rw[List.getElem?_append_left hj]at e;rw[List.getElem?_append_left (by rw[<- h.1];exact hj)]at e';exact h.2 j x x' e e'
 ·rw[List.getElem?_append_right (by omega)]at e;rw[List.getElem?_append_right (by rw[<- h.1];omega),<- h.1]at e';exact h'.2 _ x x' e e'
theorem VL.drop {ρ:Ren} {a a':List Value} (h:VL ρ a a') (k:Nat):VL ρ (a.drop k) (a'.drop k):=
 ⟨by simp[h.1],λj x x' e e'=>h.2 (k+j) x x' (by rw[<- List.getElem?_drop];exact e) (by rw[<- List.getElem?_drop];exact e')⟩
theorem VL.take {ρ:Ren} {a a':List Value} (h:VL ρ a a') (k:Nat):VL ρ (a.take k) (a'.take k):=by
 refine⟨by simp[h.1],λj x x' e e'=>?_⟩;rw[List.getElem?_take]at e e';split at e
 ·rename_i hj;rw[if_pos hj]at e';exact h.2 j x x' e e'
 ·cases e
theorem VL.get {ρ:Ren} {a a':List Value} (h:VL ρ a a') {j:Nat} {x:Value} (e:a[j]? = some x):∃x',a'[j]? = some x'∧V ρ x x':=by
 have hj:j<a.length:=(List.getElem?_eq_some_iff.1 e).1;have hj':j<a'.length:=by rw[<- h.1];exact hj
 exact⟨a'[j],List.getElem?_eq_getElem hj',h.2 j x _ e (List.getElem?_eq_getElem hj')⟩
theorem VL.set {ρ:Ren} {a a':List Value} (h:VL ρ a a') {k:Nat} {x x':Value} (hx:V ρ x x'):VL ρ (a.set k x) (a'.set k x'):=by
 refine⟨by simp[h.1],λj y y' e e'=>?_⟩;rw[List.getElem?_set]at e e'
 by_cases hk:k=j
 ·simp only[hk,if_true]at e e';split at e
  ·split at e'
   ·cases e;cases e';exact hx
   ·cases e'
  ·cases e
 ·simp only[hk,if_false]at e e';exact h.2 j y y' e e'
inductive Tr (α:Type) where
 | nil
 | node (l:Tr α) (x:Option α) (r:Tr α)
def Tr.get {α:Type} (t:Tr α):Nat->Option α:=
 Tr.rec (motive:=λ_=>Nat->Option α) (λ_=>none)
  (λ_ x _ ihl ihr n=>Bool.rec (motive:=λ_=>Option α) (Bool.rec (motive:=λ_=>Option α) (ihr (Nat.pred (Nat.div n 2))) (ihl (Nat.div n 2)) (Nat.beq (Nat.mod n 2) 1)) x (Nat.beq n 0)) t
def Tr.one {α:Type} (v:Option α) (f:Nat):Nat->Tr α:=
 Nat.rec (motive:=λ_=>Nat->Tr α) (λ_=>.nil)
  (λ_ ih n=>Bool.rec (motive:=λ_=>Tr α) (Bool.rec (motive:=λ_=>Tr α) (.node .nil none (ih (Nat.pred (Nat.div n 2)))) (.node (ih (Nat.div n 2)) none .nil) (Nat.beq (Nat.mod n 2) 1)) (.node .nil v .nil) (Nat.beq n 0)) f
def Tr.set {α:Type} (t:Tr α) (n:Nat) (v:Option α):Tr α:=
 Tr.rec (motive:=λ_=>Nat->Tr α) (λn=>Tr.one v (Nat.succ n) n)
  (λl x r ihl ihr n=>Bool.rec (motive:=λ_=>Tr α) (Bool.rec (motive:=λ_=>Tr α) (.node l x (ihr (Nat.pred (Nat.div n 2)))) (.node (ihl (Nat.div n 2)) x r) (Nat.beq (Nat.mod n 2) 1)) (.node l v r) (Nat.beq n 0)) t n
theorem Tr.get_nil {α:Type} (n:Nat):(Tr.nil:Tr α).get n=none:=rfl
theorem Tr.get_node {α:Type} (l:Tr α) (x:Option α) (r:Tr α) (n:Nat):(Tr.node l x r).get n=bif Nat.beq n 0 then x else bif Nat.beq (n % 2) 1 then l.get (n / 2) else r.get (n / 2 - 1):=by
 show Bool.rec (motive:=λ_=>Option α) (Bool.rec (motive:=λ_=>Option α) (r.get (Nat.pred (Nat.div n 2))) (l.get (Nat.div n 2)) (Nat.beq (Nat.mod n 2) 1)) x (Nat.beq n 0)=_;cases h:Nat.beq n 0 with
 | true=>rfl
 | false=>
  show Bool.rec (motive:=λ_=>Option α) (r.get (Nat.pred (Nat.div n 2))) (l.get (Nat.div n 2)) (Nat.beq (Nat.mod n 2) 1)=bif Nat.beq (n % 2) 1 then l.get (n / 2) else r.get (n / 2 - 1)
  show _=bif Nat.beq (Nat.mod n 2) 1 then l.get (n / 2) else r.get (n / 2 - 1)
  cases Nat.beq (Nat.mod n 2) 1<;>rfl
theorem Tr.set_nil {α:Type} (n:Nat) (v:Option α):(Tr.nil:Tr α).set n v=Tr.one v (n+1) n:=rfl
theorem Tr.set_node {α:Type} (l:Tr α) (x:Option α) (r:Tr α) (n:Nat) (v:Option α):(Tr.node l x r).set n v=bif Nat.beq n 0 then .node l v r else bif Nat.beq (n % 2) 1 then .node (l.set (n / 2) v) x r else .node l x (r.set (n / 2 - 1) v):=by
 show Bool.rec (motive:=λ_=>Tr α) (Bool.rec (motive:=λ_=>Tr α) (.node l x (r.set (Nat.pred (Nat.div n 2)) v)) (.node (l.set (Nat.div n 2) v) x r) (Nat.beq (Nat.mod n 2) 1)) (.node l v r) (Nat.beq n 0)=_;cases h:Nat.beq n 0 with
 | true=>rfl
 | false=>
  show Bool.rec (motive:=λ_=>Tr α) (.node l x (r.set (Nat.pred (Nat.div n 2)) v)) (.node (l.set (Nat.div n 2) v) x r) (Nat.beq (Nat.mod n 2) 1)=bif Nat.beq (Nat.mod n 2) 1 then Tr.node (l.set (n / 2) v) x r else Tr.node l x (r.set (n / 2 - 1) v)
  cases Nat.beq (Nat.mod n 2) 1<;>rfl
theorem Tr.one_succ {α:Type} (v:Option α) (f n:Nat):Tr.one v (f+1) n=bif Nat.beq n 0 then .node .nil v .nil else bif Nat.beq (n % 2) 1 then .node (Tr.one v f (n / 2)) none .nil else .node .nil none (Tr.one v f (n / 2 - 1)):=by
 show Bool.rec (motive:=λ_=>Tr α) (Bool.rec (motive:=λ_=>Tr α) (.node .nil none (Tr.one v f (Nat.pred (Nat.div n 2)))) (.node (Tr.one v f (Nat.div n 2)) none .nil) (Nat.beq (Nat.mod n 2) 1)) (.node .nil v .nil) (Nat.beq n 0)=_;cases h:Nat.beq n 0 with
 | true=>rfl
 | false=>
  show Bool.rec (motive:=λ_=>Tr α) (.node .nil none (Tr.one v f (Nat.pred (Nat.div n 2)))) (.node (Tr.one v f (Nat.div n 2)) none .nil) (Nat.beq (Nat.mod n 2) 1)=bif Nat.beq (Nat.mod n 2) 1 then Tr.node (Tr.one v f (n / 2)) none .nil else Tr.node .nil none (Tr.one v f (n / 2 - 1))
  cases Nat.beq (Nat.mod n 2) 1<;>rfl
theorem YF (a b:Nat):Nat.beq a b=decide (a=b):=by
 by_cases h:a=b
 ·subst h;simp
 ·simp only[h,decide_false];cases hb:Nat.beq a b with
  | false=>rfl
  | true=>exact absurd (Nat.eq_of_beq_eq_true hb) h
theorem Tr.get_one {α:Type} (v:Option α):∀ (f n m:Nat),n<f->(Tr.one v f n).get m=if m=n then v else none:=by
 intro f
 induction f with
 | zero=>intro n m h;omega
 | succ f ih=>
  intro n m h;simp only[Tr.one_succ,YF,cond_eq_ite,decide_eq_true_eq]
  by_cases hn:n=0
  ·subst hn;simp only[if_true,Tr.get_node,Tr.get_nil,YF,cond_eq_ite,decide_eq_true_eq,ite_self]
  ·simp only[hn,if_false]
   by_cases hod:n % 2=1
   ·simp only[hod,if_true,Tr.get_node,Tr.get_nil,YF,cond_eq_ite,decide_eq_true_eq,ih (n / 2) (m / 2) (by omega)]
    by_cases hm0:m=0
    ·subst hm0;simp[show ¬0=n by omega]
    ·simp only[hm0,if_false]
     by_cases hmo:m % 2=1
     ·simp only[hmo,if_true]
      by_cases e:m=n
      ·subst e;simp
      ·rw[if_neg (by omega),if_neg e]
     ·simp only[hmo,if_false];rw[if_neg (by omega)]
   ·simp only[hod,if_false,Tr.get_node,Tr.get_nil,YF,cond_eq_ite,decide_eq_true_eq,ih (n / 2 - 1) (m / 2 - 1) (by omega)]
    by_cases hm0:m=0
    ·subst hm0;simp[show ¬0=n by omega]
    ·simp only[hm0,if_false]
     by_cases hmo:m % 2=1
     ·simp only[hmo,if_true];rw[if_neg (by omega)]
     ·simp only[hmo,if_false]
      by_cases e:m=n
      ·subst e;simp
      ·rw[if_neg (by omega),if_neg e]
theorem Tr.get_set {α:Type} (t:Tr α) (n m:Nat) (v:Option α):(t.set n v).get m=if m=n then v else t.get m:=by
 induction t generalizing n m with
 | nil=>rw[Tr.set_nil,Tr.get_one v (n+1) n m (by omega),Tr.get_nil]
 | node l x r ihl ihr=>
  simp only[Tr.set_node,YF,cond_eq_ite,decide_eq_true_eq]
  by_cases hn:n=0
  ·subst hn;simp only[if_true,Tr.get_node,YF,cond_eq_ite,decide_eq_true_eq]
   by_cases hm0:m=0<;>simp[hm0]
  ·simp only[hn,if_false]
   by_cases hod:n % 2=1
   ·simp only[hod,if_true,Tr.get_node,YF,cond_eq_ite,decide_eq_true_eq,ihl (n / 2) (m / 2)]
    by_cases hm0:m=0
    ·subst hm0;simp[show ¬0=n by omega]
    ·simp only[hm0,if_false]
     by_cases hmo:m % 2=1
     ·simp only[hmo,if_true]
      by_cases e:m=n
      ·subst e;simp
      ·rw[if_neg (by omega),if_neg e]
     ·simp only[hmo,if_false];rw[if_neg (by omega)]
   ·simp only[hod,if_false,Tr.get_node,YF,cond_eq_ite,decide_eq_true_eq,ihr (n / 2 - 1) (m / 2 - 1)]
    by_cases hm0:m=0
    ·subst hm0;simp[show ¬0=n by omega]
    ·simp only[hm0,if_false]
     by_cases hmo:m % 2=1
     ·simp only[hmo,if_true];rw[if_neg (by omega)]
     ·simp only[hmo,if_false]
      by_cases e:m=n
      ·subst e;simp
      ·rw[if_neg (by omega),if_neg e]
inductive Blk where
 | cells (c:List Value) (e:TypeId) (ro:Bool)
 | map (es:List (Value×Value))
 | iter (s:ByteArray) (pos:Nat)
 | miter (m:Option Nat) (since:Nat) (seen:List Nat) (stp:Nat)
 | loop (A:Nat->Value) (n:Nat) (ps:Array Tmp) (as bd:Code) (st:Option Code)
def Blk.ro:Blk->Bool
 | .cells _ _ r=>r
 | _=>false
structure Qa where
 next:Nat
 tr:Tr Blk
def Qa.get (H:Qa) (id:Nat):Option Blk:=H.tr.get id
def Qa.set (H:Qa) (id:Nat) (b:Blk):Qa:=⟨H.next,H.tr.set id (some b)⟩
def Qa.kill (H:Qa) (id:Nat):Qa:=⟨H.next,H.tr.set id none⟩
def Qa.push (H:Qa) (b:Blk):Qa:=⟨H.next+1,H.tr.set H.next (some b)⟩
@[simp] theorem Qa.next_set (H:Qa) (id:Nat) (b:Blk):(H.set id b).next=H.next:=rfl
@[simp] theorem Qa.next_kill (H:Qa) (id:Nat):(H.kill id).next=H.next:=rfl
@[simp] theorem Qa.next_push (H:Qa) (b:Blk):(H.push b).next=H.next+1:=rfl
theorem Qa.get_set (H:Qa) (id m:Nat) (b:Blk):(H.set id b).get m=if m=id then some b else H.get m:=Tr.get_set _ _ _ _
theorem Qa.get_kill (H:Qa) (id m:Nat):(H.kill id).get m=if m=id then none else H.get m:=Tr.get_set _ _ _ _
theorem Qa.get_push (H:Qa) (m:Nat) (b:Blk):(H.push b).get m=if m=H.next then some b else H.get m:=Tr.get_set _ _ _ _
def Qvc (P:Program) (e:TypeId) (v:Value):Prop:=P.underlying e=some (.int .u8)->∃n:Int,v=.int .u8 n∧0<=n∧n<256
def Wq (P:Program) (ρ:Ren) (i:Ze) (w:World):Blk->Prop
 | .cells c _ true=>i.at_.block<w.heap.size∧∀ (j:Nat) v,c[j]? = some v->∃v',w.cell? (i.at_.add j)=some v'∧V ρ v v'
 | .cells c e false=>∃ (cur:Array Value) (fz:Nat×Nat),w.heap[i.at_.block]? = some (.cells cur e fz)∧(i.at_.spot=none∧i.at_.off=0)∧i.at_.off+i.n=cur.size∧c.length<=i.n∧
   (∀ (j:Nat) v,c[j]? = some v->∃v',cur[i.at_.off+j]? = some v'∧V ρ v v')∧
   (∀o,i.at_.off<=o->o<cur.size->¬ (fz.1<=o∧o<fz.2))∧
   (∀ (o:Nat) v,i.at_.off+c.length<=o->cur[o]? = some v->Qvc P e v)∧i.s=P.cellsOf e
 | .map es=>∃ (es':Array MapEntry) (clock:Nat),w.heap[i.at_.block]? = some (.map es' clock)∧VL ρ (es.map (·.1)) (es'.toList.map (·.key))∧VL ρ (es.map (·.2)) (es'.toList.map (·.val))∧
   clock=es'.size∧∀ (j:Nat) e,es'[j]? = some e->e.born=j
 | .iter s pos=>w.heap[i.at_.block]? = some (.stringIter s pos)∧i.at_.off=0
 | .miter none _ _ _=>w.heap[i.at_.block]? = some (.mapIter none 0 #[] 0)∧i.at_.off=0
 | .miter (some m) since seen stp=>(∃i',ρ m=some i'∧w.heap[i.at_.block]? = some (.mapIter (some i'.at_.block) since seen.toArray stp))∧i.at_.off=0
 | .loop A n ps as bd st=>∃ (fn:FuncId) (tmps:Array Value) (D:Nat),w.heap[i.at_.block]? = some (.loop {state:=if st.isNone then .ready else .done,pending:=st,fn:=fn,tmps:=tmps,params:=ps,assign:=as,body:=bd,defers:=D})∧
   tmps.size=n∧∀t,t<n->V ρ (A t) (tmps.getD t undef)
structure Sim (P:Program) (ρ:Ren) (H:Qa) (w:World):Prop where
 dom:∀id i,ρ id=some i->id<H.next
 live:∀id b i,H.get id=some b->ρ id=some i->Wq P ρ i w b
 sep:∀id1 id2 b1 b2 i1 i2,H.get id1=some b1->H.get id2=some b2->ρ id1=some i1->ρ id2=some i2->b1.ro=false->id1≠id2->i1.at_.block≠i2.at_.block
 glob:∀g,g<P.globals.size->∃i,ρ g=some i∧i.at_=⟨g,0,none⟩
theorem Wq.lt {P:Program} {ρ:Ren} {i:Ze} {w:World} {b:Blk} (h:Wq P ρ i w b):i.at_.block<w.heap.size:=by
 cases b with
 | cells c e ro=>
  cases ro with
  | true=>exact h.1
  | false=>
   obtain⟨cur,fz,hh,_⟩:=h;exact(Array.getElem?_eq_some_iff.1 hh).1
 | map es=>obtain⟨es',clock,hh,_⟩:=h;exact(Array.getElem?_eq_some_iff.1 hh).1
 | iter s pos=>exact(Array.getElem?_eq_some_iff.1 h.1).1
 | miter m since seen stp=>
  cases m with
  | none=>exact(Array.getElem?_eq_some_iff.1 h.1).1
  | some m=>obtain⟨⟨i',_,hh⟩,_⟩:=h;exact(Array.getElem?_eq_some_iff.1 hh).1
 | loop A n ps as bd st=>obtain⟨fn,tmps,D,hh,_⟩:=h;exact(Array.getElem?_eq_some_iff.1 hh).1
theorem block_add (a:Addr) (n:Nat):(a.add n).block=a.block:=by unfold Addr.add;split<;>rfl
theorem Zp (a:Addr) (i j:Nat):(a.add i).add j=a.add (i+j):=by
 unfold Addr.add
 by_cases hi:i=0<;>by_cases hj:j=0<;>simp[hi,hj,Nat.add_assoc]
theorem G0 (b o n:Nat):(⟨b,o,none⟩:Addr).add n=⟨b,o+n,none⟩:=by
 unfold Addr.add;split<;>simp_all
theorem QiB {a:Addr} (h:a.spot=none) (n:Nat):a.add n=⟨a.block,a.off+n,none⟩:=by
 obtain⟨b,o,s⟩:=a;simp at h;subst h;exact G0 b o n
theorem Wq.mono {P:Program} {ρ ρ':Ren} {i:Ze} {w w':World} {b:Blk} (hs:Sub ρ ρ') (hw:w'.heap[i.at_.block]? = w.heap[i.at_.block]?) (h:Wq P ρ i w b):Wq P ρ' i w' b:=by
 cases b with
 | cells c e ro=>
  cases ro with
  | true=>
   refine⟨?_,λj v hj=>?_⟩
   ·have:=h.1;rcases Nat.lt_or_ge i.at_.block w'.heap.size with h1 | h1
    ·exact h1
    ·rw[Array.getElem?_eq_none h1,Array.getElem?_eq_getElem this]at hw;cases hw
   ·obtain⟨v',hc,hv⟩:=h.2 j v hj;refine⟨v',?_,hv.mono hs⟩;rw[<- hc];exact World.cell?_of_block (by rw[block_add];exact hw)
  | false=>
   obtain⟨cur,fz,hh,h1,h2,h3,h4,h5,h6,h7⟩:=h;exact⟨cur,fz,hw.trans hh,h1,h2,h3,λj v hj=>by obtain⟨v',a,b⟩:=h4 j v hj;exact⟨v',a,b.mono hs⟩,h5,h6,h7⟩
 | map es=>obtain⟨es',clock,hh,h1,h2,h3⟩:=h;exact⟨es',clock,hw.trans hh,h1.mono hs,h2.mono hs,h3⟩
 | iter s pos=>exact⟨hw.trans h.1,h.2⟩
 | miter m since seen stp=>
  cases m with
  | none=>exact⟨hw.trans h.1,h.2⟩
  | some m=>obtain⟨⟨i',h1,hh⟩,h2⟩:=h;exact⟨⟨i',hs _ _ h1,hw.trans hh⟩,h2⟩
 | loop A n ps as bd st=>obtain⟨fn,tmps,D,hh,h1,h2⟩:=h;exact⟨fn,tmps,D,hw.trans hh,h1,λt ht=>(h2 t ht).mono hs⟩
structure St (ρ:Ren) (H:Qa) (w:World) (ρ':Ren) (H':Qa) (w':World):Prop where
 mono:Sub ρ ρ'
 next:H.next<=H'.next
 dead:∀id i,ρ id=some i->H.get id=none->H'.get id=none
 ro:∀id i b b',ρ id=some i->H.get id=some b->b.ro=true->H'.get id=some b'->b'.ro=true
 fresh:∀id i,ρ' id=some i->ρ id=none->H.next<=id∧(w.heap.size<=i.at_.block∨∃id0 i0 b0,ρ id0=some i0∧i0.at_.block=i.at_.block∧H.get id0=some b0∧b0.ro=false)
 os:w'.os=w.os
 tape:w'.tape=w.tape
 output:w'.output=w.output
 size:w.heap.size<=w'.heap.size
 frame:∀b,b<w.heap.size->(∀id i bl,ρ id=some i->H.get id=some bl->bl.ro=false->i.at_.block≠b)->w'.heap[b]? = w.heap[b]?
theorem St.refl (ρ:Ren) (H:Qa) (w:World):St ρ H w ρ H w where
 mono:=Sub.refl ρ
 next:=Nat.le_refl _
 dead:=λ_ _ _ h=>h
 ro:=λ_ _ b b' _ h hr h'=>by rw[h]at h';cases h';exact hr
 fresh:=λid i h h'=>by rw[h']at h;cases h
 os:=rfl
 tape:=rfl
 output:=rfl
 size:=Nat.le_refl _
 frame:=λ_ _ _=>rfl
theorem St.owned {ρ:Ren} {H:Qa} {w:World} {ρ':Ren} {H':Qa} {w':World} (h:St ρ H w ρ' H' w') {id:Nat} {i:Ze} {bl:Blk}
  (h1:ρ' id=some i) (h2:H'.get id=some bl) (h3:bl.ro=false):
  w.heap.size<=i.at_.block∨∃id0 i0 b0,ρ id0=some i0∧i0.at_.block=i.at_.block∧H.get id0=some b0∧b0.ro=false:=by
 cases hr:ρ id with
 | none=>exact(h.fresh id i h1 hr).2
 | some i0=>
  have:i0=i:=by have:=h.mono id i0 hr;rw[h1]at this;cases this;rfl
  subst this;cases hg:H.get id with
  | none=>rw[h.dead id i0 hr hg]at h2;cases h2
  | some b0=>
   refine .inr ⟨id,i0,b0,hr,rfl,hg,?_⟩;cases hro:b0.ro with
   | false=>rfl
   | true=>rw[h.ro id i0 b0 bl hr hg hro h2]at h3;cases h3
theorem St.trans {ρ ρ1 ρ2:Ren} {H H1 H2:Qa} {w w1 w2:World} (a:St ρ H w ρ1 H1 w1) (b:St ρ1 H1 w1 ρ2 H2 w2):St ρ H w ρ2 H2 w2 where
 mono:=a.mono.trans b.mono
 next:=Nat.le_trans a.next b.next
 dead:=λid i h h'=>b.dead id i (a.mono _ _ h) (a.dead id i h h')
 ro:=λid i bl bl' h h1 h2 h3=>by
  cases hg:H1.get id with
  | none=>rw[b.dead id i (a.mono _ _ h) hg]at h3;cases h3
  | some b1=>exact b.ro id i b1 bl' (a.mono _ _ h) hg (a.ro id i bl b1 h h1 h2 hg) h3
 fresh:=λid i h h'=>by
  cases hr:ρ1 id with
  | some i1=>
   have:i1=i:=by have:=b.mono id i1 hr;rw[h]at this;cases this;rfl
   subst this;exact a.fresh id i1 hr h'
  | none=>
   obtain⟨h1,h2⟩:=b.fresh id i h hr;refine⟨Nat.le_trans a.next h1,?_⟩;rcases h2 with h2 | ⟨id0,i0,b0,e1,e2,e3,e4⟩
   ·exact .inl (Nat.le_trans a.size h2)
   ·rw[<- e2];exact a.owned e1 e3 e4
 os:=b.os.trans a.os
 tape:=b.tape.trans a.tape
 output:=b.output.trans a.output
 size:=Nat.le_trans a.size b.size
 frame:=λbk hb hn=>by
  rw[b.frame bk (Nat.lt_of_lt_of_le hb a.size) ?_,a.frame bk hb hn];intro id i bl h1 h2 h3 e;rcases a.owned h1 h2 h3 with h | ⟨id0,i0,b0,e1,e2,e3,e4⟩
  ·omega
  ·exact hn id0 i0 b0 e1 e3 e4 (e2.trans e)
structure Hid (ρ:Ren) (H:Qa) (w:World) (b:Nat) (o:Obj):Prop where
 at_:w.heap[b]? = some o
 un:∀id i bl,ρ id=some i->H.get id=some bl->i.at_.block≠b
theorem Hid.lt {ρ:Ren} {H:Qa} {w:World} {b:Nat} {o:Obj} (h:Hid ρ H w b o):b<w.heap.size:=(Array.getElem?_eq_some_iff.1 h.at_).1
theorem Hid.step {ρ ρ':Ren} {H H':Qa} {w w':World} {b:Nat} {o:Obj} (h:Hid ρ H w b o) (hst:St ρ H w ρ' H' w'):Hid ρ' H' w' b o:=
 ⟨(hst.frame b h.lt (λid i bl h1 h2 _=>h.un id i bl h1 h2)).trans h.at_,λid i bl h1 h2 e=>by
  cases hr:ρ id with
  | none=>
   rcases(hst.fresh id i h1 hr).2 with hh | ⟨id0,i0,b0,e1,e2,e3,e4⟩
   ·have:=h.lt;omega
   ·exact h.un id0 i0 b0 e1 e3 (e2.trans e)
  | some i0=>
   have:i0=i:=by have:=hst.mono id i0 hr;rw[h1]at this;cases this;rfl
   subst this;cases hg:H.get id with
   | none=>rw[hst.dead id i0 hr hg]at h2;cases h2
   | some b0=>exact h.un id i0 b0 hr hg e⟩
structure YU (H2 H1:Qa):Prop where
 next:H1.next<=H2.next
 get:∀id b,H2.get id=some b->H1.get id=some b
theorem YU.refl (H:Qa):YU H H:=⟨Nat.le_refl _,λ_ _ h=>h⟩
theorem YU.trans {a b c:Qa} (h:YU a b) (h':YU b c):YU a c:=⟨Nat.le_trans h'.next h.next,λid x e=>h'.get id x (h.get id x e)⟩
theorem Sim.less {P:Program} {ρ:Ren} {H1 H2:Qa} {w:World} (h:Sim P ρ H1 w) (l:YU H2 H1):Sim P ρ H2 w:=
 ⟨λid i hi=>Nat.lt_of_lt_of_le (h.dom id i hi) l.next,λid b i hb hi=>h.live id b i (l.get id b hb) hi,λid1 id2 b1 b2 i1 i2 h1 h2=>h.sep id1 id2 b1 b2 i1 i2 (l.get _ _ h1) (l.get _ _ h2),h.glob⟩
theorem St.less {ρ ρ':Ren} {H H1 H2:Qa} {w w':World} (h:St ρ H w ρ' H1 w') (l:YU H2 H1):St ρ H w ρ' H2 w':=
 {h with
  next:=Nat.le_trans h.next l.next
  dead:=λid i hi hg=>by
   cases hc:H2.get id with
   | none=>rfl
   | some b=>have:=l.get id b hc;rw[h.dead id i hi hg]at this;cases this
  ro:=λid i b b' hi hg hr hb=>h.ro id i b b' hi hg hr (l.get id b' hb)}
abbrev Env:=Nat->Value
def upd (A:Env) (d:Nat) (v:Value):Env:=λt=>bif Nat.beq t d then v else A t
def ZE (A:Env) (d:Option Nat) (v:Value):Env:=match d with | some d=>upd A d v | none=>A
@[simp] theorem Qfj (A:Env) (d:Nat) (v:Value):upd A d v d=v:=by simp[upd]
theorem Vt (A:Env) {d t:Nat} (v:Value) (h:t≠d):upd A d v t=A t:=by simp[upd,YF,h]
def ev (A:Env):Operand->Value
 | .tmp t=>A t
 | .const v=>v
 | .global g=>.pointer (some ⟨g,0,none⟩)
 | .func f=>.func (.func f) #[] #[]
inductive Ex where
 | normal
 | exit (id:Nat)
 | goto (l:Nat)
 | ret
 | panic (v:Value)
def QcO (ρ:Ren):Ex->Exit->Prop
 | .normal,.normal=>True
 | .exit i,.exit j=>i=j
 | .goto i,.goto j=>i=j
 | .ret,.ret=>True
 | .panic v,.panic ch=>∃v',V ρ v v'∧ch=[{v:=v',recovered:=false}]
 | _,_=>False
structure EnvRel (ρ:Ren) (n:Nat) (A:Env) (a:Act):Prop where
 size:a.tmps.size=n
 tmps:∀t,t<n->V ρ (A t) (a.tmps.getD t undef)
theorem EnvRel.mono {ρ ρ':Ren} {n:Nat} {A:Env} {a:Act} (hs:Sub ρ ρ') (h:EnvRel ρ n A a):EnvRel ρ' n A a:=
 ⟨h.size,λt ht=>(h.tmps t ht).mono hs⟩
theorem EnvRel.put {ρ:Ren} {n:Nat} {A:Env} {a:Act} {d:Nat} {v v':Value} (h:EnvRel ρ n A a) (hd:d<n) (hv:V ρ v v'):EnvRel ρ n (upd A d v) (a.put (some d) v'):=by
 refine⟨by simp[Act.put,h.size],λt ht=>?_⟩
 by_cases e:t=d
 ·subst e;simp only[Qfj,Act.put];rw[Array.getD_eq_getD_getElem?,Array.getElem?_setIfInBounds_self_of_lt (by rw[h.size];exact hd)];exact hv
 ·rw[Vt A v e];have:=h.tmps t ht;simp only[Act.put];rw[Array.getD_eq_getD_getElem?,Array.getElem?_setIfInBounds_ne (by omega),<- Array.getD_eq_getD_getElem?];exact this
def Qbw (n:Nat):Option Nat->Bool
 | some d=>Nat.blt d n
 | none=>true
theorem EnvRel.putO {ρ:Ren} {n:Nat} {A:Env} {a:Act} {d:Option Nat} {v v':Value} (h:EnvRel ρ n A a) (hd:Qbw n d=true) (hv:V ρ v v'):EnvRel ρ n (ZE A d v) (a.put d v'):=by
 cases d with
 | none=>exact h
 | some d=>exact h.put (by simpa[Qbw] using hd) hv
def Xs:Value->Bool
 | .agg xs=>xs.all plain
 | .tuple xs=>xs.all plain
 | .iface _ v=>plain v
 | v=>plain v
theorem V.closed {ρ:Ren} {v:Value} (h:Xs v=true):V ρ v v:=by
 have arr:∀xs:Array Value,xs.all plain=true->∀ (j:Nat) x x',xs[j]? = some x->xs[j]? = some x'->V ρ x x':=λxs hx j x x' h1 h2=>by
  rw[h1]at h2;cases h2;exact .same x (Array.all_eq_true_iff_forall_mem.1 hx x (Array.mem_of_getElem? h1))
 cases v<;>first
  | exact .same _ h
  | exact .agg _ _ rfl (arr _ h)
  | exact .tuple _ _ rfl (arr _ h)
  | exact .iface _ _ _ (.same _ h)
def Qbx (P:Program) (n:Nat):Operand->Bool
 | .tmp t=>Nat.blt t n
 | .const v=>Xs v
 | .global g=>Nat.blt g P.globals.size
 | .func _=>true
theorem EnvRel.eval {P:Program} {ρ:Ren} {H:Qa} {w:World} {n:Nat} {A:Env} {a:Act} (hs:Sim P ρ H w) (h:EnvRel ρ n A a) {x:Operand} (hx:Qbx P n x=true):V ρ (ev A x) (a.eval x):=by
 cases x with
 | tmp t=>exact h.tmps t (by simpa[Qbx] using hx)
 | const v=>exact .closed hx
 | global g=>
  obtain⟨i,hi,e⟩:=hs.glob g (by simpa[Qbx] using hx);have:=V.ptr (ρ:=ρ) g 0 i hi;rw[e]at this;exact this
 | func f=>exact .func _ _ _ _ _ rfl rfl rfl (λj x x' h=>by simp at h) (λj x x' h=>by simp at h)
structure Rd where
 r:Option Nat
 b:Nat
 d:List Deferred
def fen (z:Rd):Fence:={Fence.wide with round:=z.r}
theorem QmK (z:Rd) (m:Nat):(fen z).room m:=λd h=>by simp[fen,Fence.wide]at h
def QdL (d:Nat):Deferred:={target:=.collected d,args:=#[]}
structure Fr (z:Rd) (ρ:Ren) (H:Qa) (w:World) (a:Act):Prop where
 marks:∃ds:List Nat,a.defers=ds.map QdL++z.d∧ds.Nodup∧∀d∈ds,z.b<=d∧Hid ρ H w d (.deferred (some []))
 round:∀l,z.r=some l->a.defers=[]∧∃rc,Hid ρ H w l (.loop rc)
 base:z.b<=w.heap.size
theorem Fr.step {z:Rd} {ρ ρ':Ren} {H H':Qa} {w w':World} {a a':Act} (h:Fr z ρ H w a) (hst:St ρ H w ρ' H' w') (ha:a'.defers=a.defers):Fr z ρ' H' w' a':=by
 obtain⟨ds,h1,h2,h3⟩:=h.marks;exact⟨⟨ds,ha.trans h1,h2,λd hd=>⟨(h3 d hd).1,(h3 d hd).2.step hst⟩⟩,λl hl=>by
  obtain⟨e,rc,hr⟩:=h.round l hl;exact⟨ha.trans e,rc,hr.step hst⟩,Nat.le_trans h.base hst.size⟩
structure KZ (z:Rd) (ρ:Ren) (H:Qa) (w:World) (n:Nat) (A:Env) (a:Act):Prop extends EnvRel ρ n A a where
 fr:Fr z ρ H w a
theorem KZ.step {z:Rd} {ρ ρ':Ren} {H H':Qa} {w w':World} {n:Nat} {A:Env} {a:Act} (h:KZ z ρ H w n A a) (hst:St ρ H w ρ' H' w'):KZ z ρ' H' w' n A a:=
 ⟨h.toEnvRel.mono hst.mono,h.fr.step hst rfl⟩
theorem Qto (a:Act) (d:Option Nat) (v:Value):(a.put d v).defers=a.defers:=by cases d<;>rfl
theorem KZ.putO {z:Rd} {ρ:Ren} {H:Qa} {w:World} {n:Nat} {A:Env} {a:Act} {d:Option Nat} {v v':Value} (h:KZ z ρ H w n A a) (hd:Qbw n d=true) (hv:V ρ v v'):KZ z ρ H w n (ZE A d v) (a.put d v'):=
 ⟨h.toEnvRel.putO hd hv,h.fr.step (.refl _ _ _) (Qto a d v')⟩
section
variable (P:Program) (n:Nat)
def QiC (z:Rd) (ρ:Ren) (H:Qa) (w:World) (Q:Ex->Env->Qa->Prop):Exit->Act->World->Prop:=
 λe a' w'=>∃e' ρ' A' H',Q e' A' H'∧St ρ H w ρ' H' w'∧Sim P ρ' H' w'∧KZ z ρ' H' w' n A' a'∧QcO ρ' e' e
def AWp (c:Code) (Q:Ex->Env->Qa->Prop) (A:Env) (H:Qa):Prop:=
 ∀z ρ w a,Sim P ρ H w->KZ z ρ H w n A a->c.wpIn (fen z) 0 P (QiC P n z ρ H w Q) a w
end
section
variable {P:Program} {n:Nat} {Q:Ex->Env->Qa->Prop} {A:Env} {H:Qa}
theorem QiC.weaken {z:Rd} {ρ ρ1:Ren} {H1:Qa} {w w1:World} (h:St ρ H w ρ1 H1 w1) {e:Exit} {a':Act} {w':World} (hl:QiC P n z ρ1 H1 w1 Q e a' w'):QiC P n z ρ H w Q e a' w':=by
 obtain⟨e',ρ',A',H',hq,hst,r⟩:=hl;exact⟨e',ρ',A',H',hq,h.trans hst,r⟩
theorem AWp.mono {c:Code} {Q':Ex->Env->Qa->Prop} (h:AWp P n c Q A H) (hq:∀e A H,Q e A H->Q' e A H):AWp P n c Q' A H:=
 λz ρ w a hs he=>wpIn_mono (h z ρ w a hs he) (λe a' w' ⟨e',ρ',A',H',q,r⟩=>⟨e',ρ',A',H',hq _ _ _ q,r⟩)
theorem QmL (h:Q .normal A H):AWp P n .skip Q A H:=
 λz ρ w a hs he=>wpIn_skip ⟨.normal,ρ,A,H,h,.refl _ _ _,hs,he,trivial⟩
theorem Qpg {l:Nat} (h:Q .normal A H):AWp P n (.label l) Q A H:=
 λz ρ w a hs he=>wpIn_label ⟨.normal,ρ,A,H,h,.refl _ _ _,hs,he,trivial⟩
theorem QrD {id:Nat} (h:Q (.exit id) A H):AWp P n (.exit id) Q A H:=
 λz ρ w a hs he=>wpIn_exit ⟨.exit id,ρ,A,H,h,.refl _ _ _,hs,he,rfl⟩
theorem QrE {l:Nat} (h:Q (.goto l) A H):AWp P n (.goto l) Q A H:=
 λz ρ w a hs he=>wpIn_goto ⟨.goto l,ρ,A,H,h,.refl _ _ _,hs,he,rfl⟩
theorem Qvd (h:Q .ret A H):AWp P n .ret Q A H:=
 λz ρ w a hs he=>wpIn_ret ⟨.ret,ρ,A,H,h,.refl _ _ _,hs,he,trivial⟩
def QBj (k:Env->Qa->Prop) (Q:Ex->Env->Qa->Prop):Ex->Env->Qa->Prop
 | .normal,A,H=>k A H
 | e,A,H=>Q e A H
theorem QiD {x y:Code} (h:AWp P n x (QBj (AWp P n y Q) Q) A H):AWp P n (.seq x y) Q A H:=by
 intro z ρ w a hs he;refine wpIn_seq (wpIn_mono (h z ρ w a hs he) ?_);rintro e a1 w1 ⟨e',ρ1,A1,H1,hq,hst,hs1,he1,hr⟩;cases e'<;>cases e<;>simp only[QcO]at hr
 case normal.normal=>
  exact wpIn_mono (hq z ρ1 w1 a1 hs1 he1) (λe a' w' hl=>QiC.weaken hst hl)
 all_goals exact⟨_,ρ1,A1,H1,hq,hst,hs1,he1,by first | trivial | exact hr⟩
theorem QiE {c:Operand} {x y:Code} {t:Bool} (hok:Qbx P n c=true) (hc:ev A c=.bool t) (h:AWp P n (if t then x else y) Q A H):AWp P n (.cond c x y) Q A H:=by
 intro z ρ w a hs he;have hv:=he.eval hs hok;rw[hc]at hv;have hb:a.eval c=.bool t:=by
  generalize a.eval c=z at hv;cases hv with
  | same _ _=>rfl
 exact wpIn_cond hb (h z ρ w a hs he)
def QiF (id:Nat) (Q:Ex->Env->Qa->Prop):Ex->Env->Qa->Prop
 | .exit id',A,H=>if id'=id then Q .normal A H else Q (.exit id') A H
 | e,A,H=>Q e A H
theorem Qaz {id:Nat} {c:Code} (h:AWp P n c (QiF id Q) A H):AWp P n (.block id c) Q A H:=by
 intro z ρ w a hs he;refine wpIn_block (wpIn_mono (h z ρ w a hs he) ?_);rintro e a1 w1 ⟨e',ρ1,A1,H1,hq,hst,hs1,he1,hr⟩;cases e'<;>cases e<;>simp only[QcO]at hr
 case exit.exit i j=>
  subst hr;simp only[Exit.inBlock,QiF]at *;split at hq
  ·rename_i e;rw[if_pos e];exact⟨.normal,ρ1,A1,H1,hq,hst,hs1,he1,trivial⟩
  ·rename_i e;rw[if_neg e];exact⟨.exit i,ρ1,A1,H1,hq,hst,hs1,he1,rfl⟩
 all_goals exact⟨_,ρ1,A1,H1,hq,hst,hs1,he1,by first | trivial | exact hr⟩
end
def Qg4 (ρ:Ren) (o:Oper) (A:Env) (a:Act):Prop:=∀x∈o.op.operands,V ρ (ev A x) (a.eval x)
section
variable (P:Program) (n:Nat)
def QdM (o:Oper):Bool:=Qbw n o.dst&&o.op.operands.all (Qbx P n)
def Qp (o:Oper) (A:Env) (H:Qa) (v:Value) (H':Qa):Prop:=
 ∀ρ w a,Sim P ρ H w->Qg4 ρ o A a->∀ (K:Act->World->Prop) (Q:Exit->Act->World->Prop),
  (∀v' ρ' w',V ρ' v v'->St ρ H w ρ' H' w'->Sim P ρ' H' w'->K (a.put o.dst v') w')->∀z,o.wpIn (fen z) 0 P a w K Q
def Qct (ops:Array Oper) (l:List Oper) (Q:Ex->Env->Qa->Prop) (A:Env) (H:Qa):Prop:=
 ∀z ρ w a,Sim P ρ H w->KZ z ρ H w n A a->wpListIn (fen z) 0 P ops (QiC P n z ρ H w Q) l a w
end
theorem QcP {P:Program} {o:Oper} {a:Act} {w w':World} {x:Next} (h:(execOp a.eval o).run P w=.ok x w') (hd:∀d,x≠.defer d) (r:Option Nat):(o.semAt r a.eval).run P w=.ok x w':=by
 by_cases hop:∀c,o.op≠.defer c
 ·rw[Oper.semAt_eq _ _ _ hop];exact h
 ·exfalso;obtain⟨c,hc⟩:=Classical.not_forall.1 hop;have hc:o.op=.defer c:=Classical.not_not.1 hc;simp only[execOp,hc,Sem.run_bind]at h;cases hr:(resolve a.eval c o.type).run P w with
  | ok d w1=>
   rw[hr]at h;simp only[Result.andThen_ok,Sem.run_pure,Result.ok.injEq]at h;exact hd d h.1.symm
  | halt y w1=>rw[hr]at h;simp[Result.andThen]at h
section
variable {P:Program} {n:Nat} {Q:Ex->Env->Qa->Prop} {A:Env} {H:Qa}
theorem Qp.of_run {o:Oper} {v:Value} {H':Qa}
  (h:∀ρ w a,Sim P ρ H w->Qg4 ρ o A a->∃v' ρ' w',(execOp a.eval o).run P w=.ok (.value v') w'∧V ρ' v v'∧St ρ H w ρ' H' w'∧Sim P ρ' H' w'):Qp P o A H v H':=by
 intro ρ w a hs he K Q hk;obtain⟨v',ρ',w',hr,hv,hst,hs'⟩:=h ρ w a hs he;intro z;refine⟨λ_ _=>trivial,?_⟩;rw[QcP hr (by simp) _];exact hk v' ρ' w' hv hst hs'
theorem Qp.of_skip {o:Oper} {H':Qa}
  (h:∀ρ w a,Sim P ρ H w->Qg4 ρ o A a->∃ρ' w',(execOp a.eval o).run P w=.ok .skip w'∧St ρ H w ρ' H' w'∧Sim P ρ' H' w'):Qp P o A H undef H':=by
 intro ρ w a hs he K Q hk;obtain⟨ρ',w',hr,hst,hs'⟩:=h ρ w a hs he;intro z;refine⟨λ_ _=>trivial,?_⟩;rw[QcP hr (by simp) _];exact hk undef ρ' w' (.closed (by simp[undef,Xs])) hst hs'
theorem Qp.pure_ {o:Oper} {v:Value}
  (h:∀ρ w a,Sim P ρ H w->Qg4 ρ o A a->∃v',(execOp a.eval o).run P w=.ok (.value v') w∧V ρ v v'):Qp P o A H v H:=
 .of_run λρ w a hs he=>by
  obtain⟨v',hr,hv⟩:=h ρ w a hs he;exact⟨v',ρ,w,hr,hv,.refl _ _ _,hs⟩
theorem EnvRel.op {ρ:Ren} {w:World} {a:Act} (hs:Sim P ρ H w) (he:EnvRel ρ n A a) {o:Oper} (ho:QdM P n o=true):Qg4 ρ o A a:=λx hx=>by
 simp only[QdM,Bool.and_eq_true]at ho;exact he.eval hs (Array.all_eq_true_iff_forall_mem.1 ho.2 x hx)
theorem Qfk {o:Oper} (ho:QdM P n o=true):Qbw n o.dst=true:=by simp only[QdM,Bool.and_eq_true]at ho;exact ho.1
theorem QrF {ops:Array Oper} (h:Q .normal A H):Qct P n ops [] Q A H:=
 λz ρ w a hs he=>⟨.normal,ρ,A,H,h,.refl _ _ _,hs,he,trivial⟩
theorem QrG {z:Rd} {o:Oper} {a:Act} {K K':Act->World->Prop} {Q1 Q2:Exit->Act->World->Prop} (hk:∀a w,K a w->K' a w) (hq:∀e a w,Q1 e a w->Q2 e a w) {r:Result Next}
  (h:o.uponIn (fen z) 0 P a K Q1 r):o.uponIn (fen z) 0 P a K' Q2 r:=by
 cases r with
 | ok nx w1=>
  cases nx<;>simp only[Oper.uponIn]at h ⊢<;>first
   | exact hk _ _ h
   | exact⟨h.1,CallsIn.mono h.2 (λe w2 he=>by
     cases e with
     | returned v=>exact hk _ _ he
     | panicked ch=>exact hq _ _ _ he
     | outgrown=>obtain⟨a0,w0,hh⟩:=he;exact⟨a0,w0,hq _ _ _ hh⟩)⟩
   | exact⟨h.1,RowsIn.mono h.2 (λv w2 he=>hk _ _ he)⟩
   | exact⟨h.1,RoundIn.mono h.2 (λe w2 he=>by
     cases e with
     | returned v=>exact hk _ _ he
     | panicked ch=>exact hq _ _ _ he
     | outgrown=>obtain⟨a0,w0,hh⟩:=he;exact⟨a0,w0,hq _ _ _ hh⟩)⟩
 | halt x w1=>cases x<;>simp only[Oper.uponIn]at h ⊢<;>exact hq _ _ _ h
theorem Yu {z:Rd} {ops:Array Oper} {Q1 Q2:Exit->Act->World->Prop} (hq:∀e a w,Q1 e a w->Q2 e a w):∀ (l:List Oper) (a:Act) (w:World),wpListIn (fen z) 0 P ops Q1 l a w->wpListIn (fen z) 0 P ops Q2 l a w
 | [],a,w,h=>hq _ _ _ h
 | o::rest,a,w,h=>by
  unfold wpListIn at h ⊢;split at h
  ·rename_i hw;rw[if_pos hw];exact⟨h.1,QrG (Yu hq rest) hq h.2⟩
  ·rename_i hw;rw[if_neg hw];exact⟨h.1,Yu hq rest _ _ h.2⟩
theorem Qld {z:Rd} {ops:Array Oper} {rest:List Oper} {ρ ρ':Ren} {H H':Qa} {w w':World} {a:Act} {w0:World} (hst:St ρ H w ρ' H' w')
  (h:wpListIn (fen z) 0 P ops (QiC P n z ρ' H' w' Q) rest a w0):wpListIn (fen z) 0 P ops (QiC P n z ρ H w Q) rest a w0:=
 Yu (λe a' w1 hl=>QiC.weaken hst hl) rest a w0 h
theorem Qph {ops:Array Oper} {o:Oper} {rest:List Oper} {v:Value} {H':Qa} (hg:o.guard=none) (ho:Qp P o A H v H') (hd:QdM P n o=true)
  (h:Qct P n ops rest Q (ZE A o.dst v) H'):Qct P n ops (o::rest) Q A H:=by
 intro z ρ w a hs he;refine wpListIn_plain hg λK hK=>?_;refine ho ρ w a hs (he.op hs hd) K _ (λv' ρ' w' hv hst hs'=>?_) z;have:=h z ρ' w' (a.put o.dst v') hs' ((he.step hst).putO (Qfk hd) hv);exact hK _ _ (Qld hst this)
def QaA (ops:Array Oper) (j:Nat):Option Nat:=(ops[j]?).bind (·.dst)
theorem QmM {id:Nat} {l:List Oper} (h:Qct P n l.toArray l Q A H):AWp P n (.region id l.toArray false) Q A H:=
 λz ρ w a hs he=>wpIn_region_lit (h z ρ w a hs he)
/-! ### New blocks -/
def ext (ρ:Ren) (id:Nat) (i:Ze):Ren:=λx=>if x=id then some i else ρ x
theorem Wg (ρ:Ren) (id:Nat) (i:Ze):ext ρ id i id=some i:=by simp[ext]
theorem Yg (ρ:Ren) {id x:Nat} (i:Ze) (h:x≠id):ext ρ id i x=ρ x:=by simp[ext,h]
theorem Qby {ρ:Ren} {id:Nat} (i:Ze) (h:ρ id=none):Sub ρ (ext ρ id i):=λx j hx=>by
 by_cases e:x=id
 ·subst e;rw[h]at hx;cases hx
 ·rw[Yg ρ i e];exact hx
theorem Sim.none_next {ρ:Ren} {w:World} (hs:Sim P ρ H w):ρ H.next=none:=by
 cases h:ρ H.next with
 | none=>rfl
 | some i=>have:=hs.dom _ _ h;omega
theorem Qfl (w:World) (o:Obj) {b:Nat} (h:b<w.heap.size):(w.alloc o).heap[b]? = w.heap[b]? := by
 simp only[World.alloc,Array.getElem?_push];rw[if_neg (by omega)]
theorem Sim.push {ρ:Ren} {w:World} (hs:Sim P ρ H w) (o:Obj) (b:Blk) (i:Ze) (hi:i.at_.block=w.heap.size)
  (hb:Wq P (ext ρ H.next i) i (w.alloc o) b):St ρ H w (ext ρ H.next i) (H.push b) (w.alloc o)∧Sim P (ext ρ H.next i) (H.push b) (w.alloc o):=by
 have hn:=hs.none_next;have hsub:=Qby i hn;have hlt:∀id j,ρ id=some j->id≠H.next:=λid j h e=>by rw[e,hn]at h;cases h
 refine⟨⟨hsub,by simp,λid j h h'=>?_,λid j b1 b' h h1 h2 h3=>?_,λid j h h'=>?_,rfl,rfl,rfl,by simp,λbk hbk _=>Qfl w o hbk⟩,⟨λid j h=>?_,λid bl j h h'=>?_,λid1 id2 b1 b2 i1 i2 h1 h2 h3 h4 h5 h6=>?_,λg hg=>?_⟩⟩
 ·rw[Qa.get_push,if_neg (hlt id j h)];exact h'
 ·rw[Qa.get_push,if_neg (hlt id j h),h1]at h3;cases h3;exact h2
 ·by_cases e:id=H.next
  ·subst e;rw[Wg]at h;cases h;exact⟨Nat.le_refl _,.inl (by rw[hi];exact Nat.le_refl _)⟩
  ·rw[Yg ρ i e,h']at h;cases h
 ·by_cases e:id=H.next
  ·subst e;simp
  ·rw[Yg ρ i e]at h;have:=hs.dom _ _ h;simp;omega
 ·by_cases e:id=H.next
  ·subst e;rw[Wg]at h';cases h';rw[Qa.get_push,if_pos rfl]at h;cases h;exact hb
  ·rw[Yg ρ i e]at h';rw[Qa.get_push,if_neg e]at h;have hr:=hs.live id bl j h h';exact hr.mono hsub (Qfl w o hr.lt)
 ·by_cases e1:id1=H.next
  ·by_cases e2:id2=H.next
   ·exact absurd (e1.trans e2.symm) h6
   ·rw[Yg ρ i e2]at h4;rw[Qa.get_push,if_neg e2]at h2;subst e1;rw[Wg]at h3;cases h3;have:=(hs.live id2 b2 i2 h2 h4).lt;omega
  ·rw[Yg ρ i e1]at h3;rw[Qa.get_push,if_neg e1]at h1
   by_cases e2:id2=H.next
   ·subst e2;rw[Wg]at h4;cases h4;have:=(hs.live id1 b1 i1 h1 h3).lt;omega
   ·rw[Yg ρ i e2]at h4;rw[Qa.get_push,if_neg e2]at h2;exact hs.sep id1 id2 b1 b2 i1 i2 h1 h2 h3 h4 h5 h6
 ·obtain⟨j,hj,e⟩:=hs.glob g hg;exact⟨j,hsub _ _ hj,e⟩
theorem Wq.new {ρ:Ren} {w:World} {c:List Value} {c':Array Value} {e:TypeId} (hc:VL ρ c c'.toList):
  Wq P ρ ⟨⟨w.heap.size,0,none⟩,c.length,P.cellsOf e⟩ (w.alloc (.cells c' e)) (.cells c e false):=by
 have hl:=hc.1;refine⟨c',(0,0),heap_alloc_new w _,⟨rfl,rfl⟩,by simpa using hl,Nat.le_refl _,λj v hj=>?_,λo _ _=>by simp,λo v h1 h2=>?_,rfl⟩
 ·obtain⟨v',h1,h2⟩:=hc.get hj;exact⟨v',by simpa using h1,h2⟩
 ·have:=(Array.getElem?_eq_some_iff.1 h2).1;simp at h1 hl;omega
theorem Sim.pushCells {ρ:Ren} {w:World} (hs:Sim P ρ H w) {c:List Value} {c':Array Value} (e:TypeId) (hc:VL ρ c c'.toList):
  let i:Ze:=⟨⟨w.heap.size,0,none⟩,c.length,P.cellsOf e⟩
  St ρ H w (ext ρ H.next i) (H.push (.cells c e false)) (w.alloc (.cells c' e))∧Sim P (ext ρ H.next i) (H.push (.cells c e false)) (w.alloc (.cells c' e)):=
 hs.push _ _ _ rfl (Wq.new (hc.mono (Qby _ hs.none_next)))
theorem V.cells {ρ:Ren} {v v':Value} (h:V ρ v v'):VL ρ v.cells.toList v'.cells.toList:=by
 have one:∀ {x x':Value},V ρ x x'->VL ρ [x] [x']:=λh=>.cons h (.nil ρ);cases h with
 | same v hp=>cases v<;>simp[plain]at hp<;>exact one (.same _ (by simp[plain, *]))
 | agg xs xs' h1 h2=>exact⟨by simpa[Value.cells] using h1,λj x x' e e'=>h2 j x x' (by simpa[Value.cells] using e) (by simpa[Value.cells] using e')⟩
 | ptr id off i h=>exact one (.ptr id off i h)
 | slice id off len cap cap' i a' h h1 h2 h0 h3 h4=>exact one (.slice id off len cap cap' i a' h h1 h2 h0 h3 h4)
 | map id i h=>exact one (.map id i h)
 | func fn xs ys xs' ys' hn h1 h2 h3 h4=>exact one (.func fn xs ys xs' ys' hn h1 h2 h3 h4)
 | yield l i h=>exact one (.yield l i h)
 | iface t v v' h=>exact one (.iface t v v' h)
 | tuple xs xs' h1 h2=>exact one (.tuple xs xs' h1 h2)
theorem V.oneCell {ρ:Ren} {v v':Value} (h:V ρ v v'):v'.oneCell'=v.oneCell':=by cases h<;>rfl
theorem VL.closed {ρ:Ren} {l:List Value} (h:l.all plain=true):VL ρ l l:=
 ⟨rfl,λj x x' a b=>by rw[a]at b;cases b;exact .same x (List.all_eq_true.1 h x (List.mem_of_getElem? a))⟩
/-! ### Loads -/
def Jj:TypeDesc->Bool
 | .struct _ | .array _ _=>true
 | _=>false
def XS (P:Program) (t:TypeId) (a:Addr) (H:Qa):Option Value:=
 match P.underlying t,P.info? t,H.get a.block with
 | some d,some inf,some (.cells c _ _)=>
  if Jj d then(if a.off+inf.size<=c.length then some (.agg ((c.drop a.off).take inf.size).toArray) else none)
  else c[a.off]?
 | _,_,_=>none
theorem Wq.cellAt {ρ:Ren} {i:Ze} {w:World} {c:List Value} {e:TypeId} {ro:Bool} (h:Wq P ρ i w (.cells c e ro)) {j:Nat} {v:Value} (hj:c[j]? = some v):
  ∃v',w.cell? (i.at_.add j)=some v'∧V ρ v v':=by
 cases ro with
 | true=>exact h.2 j v hj
 | false=>
  obtain⟨cur,fz,hh,h1,h2,h3,h4,_⟩:=h;obtain⟨v',ha,hv⟩:=h4 j v hj;refine⟨v',?_,hv⟩;rw[QiB h1.1,cell_of_row w _ _ cur e fz hh];exact ha
theorem Wq.cellsAt {ρ:Ren} {i:Ze} {w:World} {c:List Value} {e:TypeId} {ro:Bool} (h:Wq P ρ i w (.cells c e ro)) (off k:Nat) (hk:off+k<=c.length):
  ∃cs:List Value,cs.length=k∧VL ρ ((c.drop off).take k) cs∧(∀ (j:Nat) v,cs[j]? = some v->w.cell? ((i.at_.add off).add j)=some v):=by
 induction k generalizing off with
 | zero=>exact⟨[],rfl,by simpa using VL.nil ρ,λj v h=>by simp at h⟩
 | succ k ih=>
  have hlt:off<c.length:=by omega
  obtain⟨cs,hl,hvl,hc⟩:=ih (off+1) (by omega);obtain⟨v',h1,h2⟩:=h.cellAt (List.getElem?_eq_getElem hlt);refine⟨v'::cs,by simp[hl],?_,λj v hj=>?_⟩
  ·rw[List.drop_eq_getElem_cons hlt,List.take_succ_cons];exact .cons h2 hvl
  ·cases j with
   | zero=>simp at hj;subst hj;rw[show(i.at_.add off).add 0=i.at_.add off by rw[Zp];rfl];exact h1
   | succ j=>
    have:=hc j v (by simpa using hj);rw[Zp]at this ⊢;rw[show off+(j+1)=off+1+j by omega];exact this
theorem Qkf {ρ:Ren} {w:World} {t:TypeId} {id off:Nat} {v:Value} {i:Ze} {c:List Value} {e:TypeId} {ro:Bool} (hi:ρ id=some i) (hg:H.get id=some (.cells c e ro)) (hb:Wq P ρ i w (.cells c e ro))
  (hl:XS P t ⟨id,off,none⟩ H=some v):∃v',(loadVar t (i.at_.add off)).run P w=.ok v' w∧V ρ v v':=by
 unfold XS at hl;cases hu:P.underlying t with
 | none=>simp[hu]at hl
 | some d=>
  cases hf:P.info? t with
  | none=>simp[hu,hf]at hl
  | some inf=>
   simp only[hu,hf,hg]at hl;have hagg:(isAgg t).run P w=.ok (Jj d) w:=by
    simp only[isAgg,Sem.run_bind,run_underlying hu,Result.andThen_ok];cases d<;>rfl
   split at hl
   ·rename_i hd;split at hl
    ·rename_i hlen;obtain⟨cs,h1,h2,h3⟩:=hb.cellsAt off inf.size hlen;cases hl;refine⟨.agg cs.toArray,?_,.agg _ _ (by simpa using h2.1) (λj x x' a b=>h2.2 j x x' (by simpa using a) (by simpa using b))⟩;have:=run_loadCells_list (P:=P) w (i.at_.add off) cs h3;rw[h1]at this;simp only[loadVar,Sem.run_bind,hagg,Result.andThen_ok,hd,if_true,sizeOf,typeInfo,run_program,hf,Sem.run_pure,this]
    ·cases hl
   ·rename_i hd;obtain⟨v',h1,h2⟩:=hb.cellAt hl;refine⟨v',?_,h2⟩;simp only[loadVar,Sem.run_bind,hagg,Result.andThen_ok,hd,Bool.false_eq_true,if_false,run_load,h1]
end
section
variable {P:Program} {n:Nat} {Q:Ex->Env->Qa->Prop} {A:Env} {H:Qa}
structure Ki (w w':World) (g:Nat):Prop where
 other:∀b,b≠g->w'.heap[b]? = w.heap[b]?
 size:w'.heap.size=w.heap.size
 os:w'.os=w.os
 tape:w'.tape=w.tape
 output:w'.output=w.output
theorem Ki.refl (w:World) (g:Nat):Ki w w g:=⟨λ_ _=>rfl,rfl,rfl,rfl,rfl⟩
theorem Ki.trans {w w1 w2:World} {g:Nat} (a:Ki w w1 g) (b:Ki w1 w2 g):Ki w w2 g:=
 ⟨λk hk=>(b.other k hk).trans (a.other k hk),b.size.trans a.size,b.os.trans a.os,b.tape.trans a.tape,b.output.trans a.output⟩
theorem Sim.setBlk {ρ:Ren} {w w':World} (hs:Sim P ρ H w) {id:Nat} {i:Ze} {b b':Blk} (hi:ρ id=some i) (hg:H.get id=some b) (hro:b.ro=false)
  (hw:Ki w w' i.at_.block) (hb:Wq P ρ i w' b'):St ρ H w ρ (H.set id b') w'∧Sim P ρ (H.set id b') w':=by
 refine⟨⟨.refl ρ,Nat.le_refl _,λx j h h'=>?_,λx j b1 b2 h h1 h2 h3=>?_,λx j h h'=>(by rw[h']at h;cases h),hw.os,hw.tape,hw.output,(by rw[hw.size];exact Nat.le_refl _),λk hk hn=>?_⟩,⟨λx j h=>hs.dom x j h,λx bl j h h'=>?_,λid1 id2 b1 b2 i1 i2 h1 h2 h3 h4 h5 h6=>?_,hs.glob⟩⟩
 ·rw[Qa.get_set];by_cases e:x=id
  ·subst e;rw[hg]at h';cases h'
  ·rw[if_neg e];exact h'
 ·rw[Qa.get_set]at h3
  by_cases e:x=id
  ·subst e;rw[hg]at h1;cases h1;rw[hro]at h2;cases h2
  ·rw[if_neg e,h1]at h3;cases h3;exact h2
 ·exact hw.other k (λe=>hn id i b hi hg hro e.symm)
 ·rw[Qa.get_set]at h
  by_cases e:x=id
  ·subst e;rw[if_pos rfl]at h;cases h;rw[hi]at h';cases h';exact hb
  ·rw[if_neg e]at h;refine(hs.live x bl j h h').mono (.refl ρ) (hw.other _ ?_);exact λe'=>hs.sep id x b bl i j hg h hi h' hro (λh=>e h.symm) e'.symm
 ·rw[Qa.get_set]at h1 h2
  by_cases e1:id1=id
  ·subst e1;rw[if_neg (λh=>h6 h.symm)]at h2;exact hs.sep id1 id2 b b2 i1 i2 hg h2 h3 h4 hro h6
  ·rw[if_neg e1]at h1
   by_cases e2:id2=id
   ·subst e2;exact hs.sep id1 id2 b1 b i1 i2 h1 hg h3 h4 h5 h6
   ·rw[if_neg e2]at h2;exact hs.sep id1 id2 b1 b2 i1 i2 h1 h2 h3 h4 h5 h6
def splice (c:List Value) (p:Nat) (vs:List Value):List Value:=c.take p++(vs++c.drop (p+vs.length))
theorem Qg5 {c:List Value} {p:Nat} {vs:List Value} (h:p+vs.length<=c.length):(splice c p vs).length=c.length:=by
 simp[splice];omega
theorem QhG {c:List Value} {p:Nat} {vs:List Value} (h:p+vs.length<=c.length) (o:Nat):(splice c p vs)[o]? = if p<=o∧o<p+vs.length then vs[o - p]? else c[o]? := by
 unfold splice
 by_cases h1:o<p
 ·rw[List.getElem?_append_left (by simp;omega),if_neg (by omega),List.getElem?_take,if_pos h1]
 ·rw[List.getElem?_append_right (by simp;omega)];simp only[List.length_take,Nat.min_eq_left (show p<=c.length by omega)]
  by_cases h2:o<p+vs.length
  ·rw[List.getElem?_append_left (by omega),if_pos ⟨by omega,h2⟩]
  ·rw[List.getElem?_append_right (by omega),if_neg (by omega),List.getElem?_drop];congr 1;omega
theorem Qoo (w:World) (g o:Nat) (cur:Array Value) (e:TypeId) (fz:Nat×Nat) (v:Value) (hg:w.heap[g]? = some (.cells cur e fz)):
  (w.setCell ⟨g,o,none⟩ v).heap[g]? = some (.cells (cur.setIfInBounds o v) e fz)∧Ki w (w.setCell ⟨g,o,none⟩ v) g:=by
 refine⟨by simp[World.setCell,Array.getElem?_modify,hg],⟨λb hb=>?_,by simp,rfl,rfl,rfl⟩⟩;simp only[World.setCell,Array.getElem?_modify];rw[if_neg (λe=>hb e.symm)]
theorem QaE (P:Program) (g o:Nat) (e:TypeId) (fz:Nat×Nat):∀ (vs:List Value) (i:Nat) (cur:Array Value) (w:World),w.heap[g]? = some (.cells cur e fz)->o+i+vs.length<=cur.size->
  (∀k,o+i<=k->k<o+i+vs.length->¬ (fz.1<=k∧k<fz.2))->(∀v∈vs,v.oneCell'=true)->
  ∃w' cur',(storeCells ⟨g,o,none⟩ vs i).run P w=.ok () w'∧w'.heap[g]? = some (.cells cur' e fz)∧Ki w w' g∧cur'.size=cur.size∧
   ∀k,cur'[k]? = if o+i<=k∧k<o+i+vs.length then vs[k - (o+i)]? else cur[k]?
 | [],i,cur,w,hg,_,_,_=>⟨w,cur,rfl,hg,.refl _ _,rfl,λk=>by rw[if_neg (by simp)]⟩
 | v::rest,i,cur,w,hg,hl,hf,h1=>by
  simp only[List.length_cons]at hl hf;have hlt:o+i<cur.size:=by omega
  have hcell:w.cell? ⟨g,o+i,none⟩=some cur[o+i]:=by
   rw[cell_of_row w g (o+i) cur e fz hg,Array.getElem?_eq_getElem hlt]
  have hfz:w.frozen? ⟨g,o+i,none⟩=false:=by
   simp only[World.frozen?,hg];have:=hf (o+i) (by omega) (by omega);simp only[Bool.and_eq_false_iff,decide_eq_false_iff_not]
   by_cases hh:fz.1<=o+i
   ·right;exact λhx=>this ⟨hh,hx⟩
   ·left;exact hh
  have hst:(store ((⟨g,o,none⟩:Addr).add i) v).run P w=.ok () (w.setCell ⟨g,o+i,none⟩ v):=by
   rw[G0,run_store P w _ v _ (h1 v (by simp)),hcell];simp[hfz]
  obtain⟨hg1,hone⟩:=Qoo w g (o+i) cur e fz v hg;obtain⟨w',cur',hr,hg',hone',hsz,hk⟩:=QaE P g o e fz rest (i+1) (cur.setIfInBounds (o+i) v) (w.setCell ⟨g,o+i,none⟩ v) hg1 (by simp;omega)
   (λk hk1 hk2=>hf k (by omega) (by omega)) (λu hu=>h1 u (by simp[hu]))
  refine⟨w',cur',?_,hg',hone.trans hone',by simpa using hsz,λk=>?_⟩
  ·simp only[storeCells,Sem.run_bind,hst,Result.andThen_ok];exact hr
  ·rw[hk];simp only[List.length_cons]
   by_cases hk0:k=o+i
   ·subst hk0;rw[if_neg (by omega),if_pos ⟨Nat.le_refl _,by omega⟩];simp[hlt]
   ·by_cases hin:o+(i+1)<=k∧k<o+(i+1)+rest.length
    ·rw[if_pos hin,if_pos ⟨by omega,by omega⟩];rw[show k - (o+i)=(k - (o+(i+1)))+1 by omega];simp
    ·rw[if_neg hin,if_neg (by omega)];rw[Array.getElem?_setIfInBounds_ne (by omega)]
theorem Wq.storeList {ρ:Ren} {i:Ze} {w:World} {c:List Value} {e:TypeId} (hb:Wq P ρ i w (.cells c e false)) {off:Nat} {vs vs':List Value} (hvs:VL ρ vs vs') (hl:off+vs.length<=c.length)
  (h1:∀v∈vs,v.oneCell'=true):∃w',(storeCells (i.at_.add off) vs').run P w=.ok () w'∧Ki w w' i.at_.block∧Wq P ρ i w' (.cells (splice c off vs) e false):=by
 obtain⟨cur,fz,hh,hsp,hsz,hcl,hcell,hfz,hspare,hes⟩:=hb;have hlen:=hvs.1;have h1':∀v∈vs',v.oneCell'=true:=λv' hv'=>by
  obtain⟨j,hj⟩:=List.getElem?_of_mem hv';have hjl:j<vs.length:=by rw[hlen];exact(List.getElem?_eq_some_iff.1 hj).1
  have:=hvs.2 j _ v' (List.getElem?_eq_getElem hjl) hj;rw[this.oneCell];exact h1 _ (List.getElem_mem hjl)
 rw[QiB hsp.1];obtain⟨w',cur',hr,hg',hone,hsz',hk⟩:=QaE P i.at_.block (i.at_.off+off) e fz vs' 0 cur w hh (by omega) (λk hk1 hk2=>hfz k (by omega) (by omega)) h1';simp only[Nat.add_zero]at hk;refine⟨w',hr,hone,cur',fz,hg',hsp,by rw[hsz'];exact hsz,by rw[Qg5 hl];exact hcl,λj v hj=>?_,λo ho1 ho2=>hfz o ho1 (by rw[hsz']at ho2;exact ho2),λo v ho hov=>?_,hes⟩
 ·rw[QhG hl]at hj;rw[hk]
  by_cases hin:off<=j∧j<off+vs.length
  ·rw[if_pos hin]at hj;rw[if_pos ⟨by omega,by omega⟩];rw[show i.at_.off+j - (i.at_.off+off)=j - off by omega];exact hvs.get hj
  ·rw[if_neg hin]at hj;rw[if_neg (by omega)];exact hcell j v hj
 ·rw[Qg5 hl]at ho;rw[hk,if_neg (by omega)]at hov;exact hspare o v ho hov
def QhH (P:Program) (t:TypeId) (a:Addr) (v:Value) (H:Qa):Option Qa:=
 match P.info? t,H.get a.block with
 | some inf,some (.cells c e false)=>
  if v.cells.toList.length=inf.size∧a.off+v.cells.toList.length<=c.length∧v.cells.toList.all (·.oneCell')=true then some (H.set a.block (.cells (splice c a.off v.cells.toList) e false)) else none
 | _,_=>none
theorem Qtp {ρ:Ren} {w:World} (hs:Sim P ρ H w) {t:TypeId} {id off:Nat} {v v':Value} {i:Ze} {H':Qa} (hi:ρ id=some i) (hv:V ρ v v') (hst:QhH P t ⟨id,off,none⟩ v H=some H'):
  ∃w',(storeVar t (i.at_.add off) v').run P w=.ok () w'∧St ρ H w ρ H' w'∧Sim P ρ H' w':=by
 unfold QhH at hst;cases hf:P.info? t with
 | none=>simp[hf]at hst
 | some inf=>
  simp only[hf]at hst;split at hst
  ·rename_i inf' c e he hg;cases he;split at hst
   ·rename_i hc;obtain⟨hc1,hc2,hc3⟩:=hc;cases hst;have hvl:=hv.cells;obtain⟨w',hr,hone,hb⟩:=(hs.live id _ i hg hi).storeList hvl hc2 (λu hu=>List.all_eq_true.1 hc3 u hu);refine⟨w',?_,hs.setBlk hi hg rfl hone hb⟩;have hsize:v'.cells.size=inf.size:=by have:=hvl.1;simp at this hc1;omega
    simp only[storeVar,Sem.run_bind,sizeOf,typeInfo,run_program,Result.andThen_ok,hf,Sem.run_pure,hsize,ne_eq,not_true_eq_false,if_false];exact hr
   ·cases hst
  ·cases hst
end
theorem V.plain_eq {ρ:Ren} {v z:Value} (h:V ρ v z) (hp:plain v=true):z=v:=by
 cases h<;>first | rfl | (simp[plain]at hp)
section
variable {P:Program} {n:Nat} {A:Env} {H:Qa} {d:Option Nat} {ty:TypeId} {pos:String} {af:Array Edge} {g:Option (Nat×Bool)}
theorem Zf {ρ:Ren} {a:Act} {x:Operand} {v:Value} (h:V ρ (ev A x) (a.eval x)) (ex:ev A x=v) (hp:plain v=true):a.eval x=v:=by
 rw[ex]at h;exact h.plain_eq hp
theorem Qzh {x:Operand}:Qp P ⟨d,.move x,ty,pos,af,g⟩ A H (ev A x) H:=
 .pure_ λρ w a hs he=>⟨a.eval x,by simp only[execOp,Sem.run_pure],he x (by simp[Op.operands])⟩
theorem Qwc {x:Operand}:Qp P ⟨d,.assign x,ty,pos,af,g⟩ A H (ev A x) H:=
 .pure_ λρ w a hs he=>⟨a.eval x,by simp only[execOp,Sem.run_pure],he x (by simp[Op.operands])⟩
theorem Qzi {c x y:Operand} {t:Bool} (ec:ev A c=.bool t):
  Qp P ⟨d,.pick c x y,ty,pos,af,g⟩ A H (if t then ev A x else ev A y) H:=
 .pure_ λρ w a hs he=>by
  have e:=Zf (he c (by simp[Op.operands])) ec rfl;refine⟨if t then a.eval x else a.eval y,?_,?_⟩
  ·simp only[execOp,e,asBool,pure_bind,Sem.run_pure]
  ·cases t
   ·exact he y (by simp[Op.operands])
   ·exact he x (by simp[Op.operands])
def Qfm:Value->Bool
 | .pointer none | .nilIface | .nilFunc=>false
 | .func (.method _) _ _=>false
 | _=>true
theorem QrH {x:Operand} (hn:Qfm (ev A x)=true):Qp P ⟨d,.nilCheck x,ty,pos,af,g⟩ A H (ev A x) H:=
 .pure_ λρ w a hs he=>by
  have hv:=he x (by simp[Op.operands]);refine⟨a.eval x,?_,hv⟩;simp only[execOp];generalize ev A x=v at hv hn;generalize a.eval x=z at hv;cases hv with
  | same v hp=>cases v<;>simp[plain,Qfm]at hp hn<;>first | rfl | (rename_i p;cases p<;>simp_all)
  | func fn xs ys xs' ys' h1 h2 h3 h4 h5=>cases fn<;>simp[Qfm]at hn<;>rfl
  | _=>rfl
/-! ### Integers -/
def Yv (op:BinOp) (k:IntKind) (a b:Int):Option Value:=
 match op with
 | .add=>some (.int k (k.wrap (a+b)))
 | .sub=>some (.int k (k.wrap (a - b)))
 | .mul=>some (.int k (k.wrap (a * b)))
 | .quo=>if b=0 then none else some (.int k (k.wrap (a.tdiv b)))
 | .rem=>if b=0 then none else some (.int k (a.tmod b))
 | .and=>some (.int k (k.wrap (BitVec.ofInt k.bits a &&& BitVec.ofInt k.bits b).toNat))
 | .or=>some (.int k (k.wrap (BitVec.ofInt k.bits a ||| BitVec.ofInt k.bits b).toNat))
 | .xor=>some (.int k (k.wrap (BitVec.ofInt k.bits a ^^^ BitVec.ofInt k.bits b).toNat))
 | .andNot=>some (.int k (k.wrap (BitVec.ofInt k.bits a &&& ~~~BitVec.ofInt k.bits b).toNat))
 | .eql=>some (.bool (a==b))
 | .neq=>some (.bool (a != b))
 | .lss=>some (.bool (decide (a<b)))
 | .leq=>some (.bool (decide (a<=b)))
 | .gtr=>some (.bool (decide (a>b)))
 | .geq=>some (.bool (decide (a>=b)))
 | _=>none
theorem Qtq {op:BinOp} {k:IntKind} {a b:Int} {v:Value} (t:TypeId) (w:World) (h:Yv op k a b=some v):(binOp op t (.int k a) (.int k b)).run P w=.ok v w∧plain v=true:=by
  cases op<;>simp only[Yv,reduceCtorEq]at h<;>simp only[binOp,ne_eq,not_true_eq_false,if_false]<;>first
    | (cases h;exact⟨rfl,rfl⟩)
    | (split at h
       · cases h
       · cases h;rename_i hb;simp only[Op.intDiv,hb,if_false];exact⟨rfl,rfl⟩)
theorem Qev (op:BinOp) (t:TypeId) (x y:Operand) (k k':IntKind) (a b:Int) (w:World):(eqGuard op t x y (.int k a) (.int k' b)).run P w=.ok () w:=by
 cases op<;>rfl
theorem QBk {op:BinOp} {t t':TypeId} {x y:Operand} {k:IntKind} {a b:Int} {v:Value} (ex:ev A x=.int k a) (ey:ev A y=.int k b) (h:Yv op k a b=some v):
  Qp P ⟨d,.binOp op t x y t',ty,pos,af,g⟩ A H v H:=
 .pure_ λρ w s hs he=>by
  have e1:=Zf (he x (by simp[Op.operands])) ex rfl;have e2:=Zf (he y (by simp[Op.operands])) ey rfl;obtain⟨h1,h2⟩:=Qtq (P:=P) t w h;refine⟨v,?_,.same v h2⟩;simp only[execOp,e1,e2,Sem.run_bind,Qev,Result.andThen_ok,h1,Sem.run_pure]
def Vg (op:BinOp) (k:IntKind) (a b:Int):Option Value:=
 if b<0 then none else
 match op with
 | .shl=>some (.int k (k.wrap (a * 2 ^ (min b.toNat k.bits))))
 | .shr=>some (.int k (a.fdiv (2 ^ (min b.toNat k.bits))))
 | _=>none
theorem QrI {op:BinOp} {t t':TypeId} {x y:Operand} {k k':IntKind} {a b:Int} {v:Value} (ex:ev A x=.int k a) (ey:ev A y=.int k' b) (h:Vg op k a b=some v):
  Qp P ⟨d,.binOp op t x y t',ty,pos,af,g⟩ A H v H:=
 .pure_ λρ w s hs he=>by
  have e1:=Zf (he x (by simp[Op.operands])) ex rfl;have e2:=Zf (he y (by simp[Op.operands])) ey rfl;have hr:(binOp op t (.int k a) (.int k' b)).run P w=.ok v w∧plain v=true:=by
   unfold Vg at h;split at h
   ·cases h
   ·rename_i hb;cases op<;>simp only[reduceCtorEq]at h<;>(cases h;simp only[binOp,Op.shift,hb,if_false];exact⟨rfl,rfl⟩)
  refine⟨v,?_,.same v hr.2⟩;simp only[execOp,e1,e2,Sem.run_bind,Qev,Result.andThen_ok,hr.1,Sem.run_pure]
def bl (s:ByteArray):List UInt8:=s.data.toList
def mkS (l:List UInt8):ByteArray:=⟨⟨l⟩⟩
@[simp] theorem Qp3 (l:List UInt8):bl (mkS l)=l:=rfl
@[simp] theorem Qp4 (s:ByteArray):mkS (bl s)=s:=rfl
theorem QiG (s:ByteArray):(bl s).length=s.size:=rfl
def QhI (op:BinOp) (x y:List UInt8):Option Value:=
 match op with
 | .add=>if x.length+y.length<=9223372036854775807 then some (.string (mkS (x++y))) else none
 | .eql=>some (.bool (x==y))
 | .neq=>some (.bool !(x==y))
 | .lss=>some (.bool (Op.bytesLess x y))
 | .leq=>some (.bool (Op.bytesLess x y||x==y))
 | .gtr=>some (.bool !(Op.bytesLess x y||x==y))
 | .geq=>some (.bool !(Op.bytesLess x y))
 | _=>none
theorem Qp5 (x y:ByteArray):x++y=mkS (bl x++bl y):=by
 apply ByteArray.ext;rw[ByteArray.data_append];apply Array.ext';simp[mkS,bl]
theorem QBl {op:BinOp} {t t':TypeId} {x y:Operand} {a b:ByteArray} {v:Value} (ex:ev A x=.string a) (ey:ev A y=.string b) (h:QhI op (bl a) (bl b)=some v):
    Qp P ⟨d,.binOp op t x y t',ty,pos,af,g⟩ A H v H:=
  .pure_ λρ w s hs he=>by
    have e1:=Zf (he x (by simp[Op.operands])) ex rfl;have e2:=Zf (he y (by simp[Op.operands])) ey rfl;have hgd:(eqGuard op t x y (.string a) (.string b)).run P w=.ok () w:=by cases op<;>rfl
    have hr:(binOp op t (.string a) (.string b)).run P w=.ok v w∧plain v=true:=by
      cases op<;>simp only[QhI,reduceCtorEq]at h<;>first
        | (cases h;simp only[binOp,Op.stringOp,ByteArray.toList_eq];exact⟨rfl,rfl⟩)
        | (split at h
           · cases h
             rename_i hb;refine⟨?_,rfl⟩;simp only[QiG]at hb;simp only[binOp,Op.stringOp];rw[if_neg (by simp;omega),Qp5];rfl
           · cases h)
    refine⟨v,?_,.same v hr.2⟩;simp only[execOp,e1,e2,Sem.run_bind,hgd,Result.andThen_ok,hr.1,Sem.run_pure]
def Qpi (op:UnOp):Value->Option Value
 | .int k m=>match op with
  | .neg=>some (.int k (k.wrap (0 - m)))
  | .xor=>some (.int k (k.wrap (BitVec.ofInt k.bits (if k.signed then -1 else k.max) ^^^ BitVec.ofInt k.bits m).toNat))
  | _=>none
 | .bool b=>match op with
  | .not=>some (.bool !b)
  | _=>none
 | _=>none
theorem QC2 {op:UnOp} {t:TypeId} {x:Operand} {v:Value} (h:Qpi op (ev A x)=some v):Qp P ⟨d,.unOp op t x,ty,pos,af,g⟩ A H v H:=
 .pure_ λρ w s hs he=>by
  have hv:=he x (by simp[Op.operands]);have hr:(Op.unary op (s.eval x)).run P w=.ok v w∧plain v=true:=by
   generalize ev A x=u at hv h;cases u with
   | int k m=>
    rw[hv.plain_eq rfl];cases op<;>simp only[Qpi,reduceCtorEq]at h<;>(cases h;exact⟨rfl,rfl⟩)
   | bool b=>
    rw[hv.plain_eq rfl];cases op<;>simp only[Qpi,reduceCtorEq]at h<;>(cases h;exact⟨rfl,rfl⟩)
   | _=>simp[Qpi]at h
  refine⟨v,?_,.same v hr.2⟩;simp only[execOp,Sem.run_bind,hr.1,Result.andThen_ok,Sem.run_pure]
/-! ### Conversions without memory -/
def Qmn (P:Program) (src dst:TypeId) (x:Value):Option Value:=
 match P.underlying src,P.underlying dst with
 | some _,some (.int k)=>match x with | .int _ m=>some (.int k (k.wrap m)) | _=>none
 | some (.string),some (.string)=>match x with | .string s=>some (.string s) | _=>none
 | some (.int _),some (.string)=>match x with | .int _ m=>some (.string (Utf8.encode m)) | _=>none
 | _,_=>none
theorem Qzj {src dst:TypeId} {x:Operand} {v:Value} (h:Qmn P src dst (ev A x)=some v):Qp P ⟨d,.convert src dst x,ty,pos,af,g⟩ A H v H:=
 .pure_ λρ w s hs he=>by
  have hv:=he x (by simp[Op.operands]);have hr:(convert src dst (s.eval x)).run P w=.ok v w∧plain v=true:=by
   generalize ev A x=u at hv h;unfold Qmn at h;split at h
   ·rename_i _ _ k h1 h2;split at h
    ·cases h;rw[hv.plain_eq rfl];refine⟨?_,rfl⟩;simp only[convert,Sem.run_bind,run_underlying h1,run_underlying h2,Result.andThen_ok];rfl
    ·cases h
   ·rename_i _ _ h1 h2;split at h
    ·cases h;rw[hv.plain_eq rfl];refine⟨?_,rfl⟩;simp only[convert,Sem.run_bind,run_underlying h1,run_underlying h2,Result.andThen_ok];rfl
    ·cases h
   ·rename_i _ _ k h1 h2;split at h
    ·cases h;rw[hv.plain_eq rfl];refine⟨?_,rfl⟩;simp only[convert,Sem.run_bind,run_underlying h1,run_underlying h2,Result.andThen_ok];rfl
    ·cases h
   ·cases h
  refine⟨v,?_,.same v hr.2⟩;simp only[execOp,Sem.run_bind,hr.1,Result.andThen_ok,Sem.run_pure]
/-! ### Interfaces, functions, parts -/
theorem Qkg {t:TypeId} {x:Operand} {td:TypeDesc} (ht:P.underlying t=some td) (hi:(match td with | .interface _=>false | _=>true)=true):
  Qp P ⟨d,.makeInterface t x,ty,pos,af,g⟩ A H (.iface t (ev A x)) H:=
 .pure_ λρ w s hs he=>by
  refine⟨.iface t (s.eval x),?_,.iface _ _ _ (he x (by simp[Op.operands]))⟩;simp only[execOp,Instr.makeInterface,Sem.run_bind,run_underlying ht,Result.andThen_ok];cases td<;>first | rfl | simp at hi
theorem Qle {ρ:Ren} {a:Act} {xs:Array Operand} (h:∀x∈xs,V ρ (ev A x) (a.eval x)):VL ρ (xs.map (ev A)).toList (xs.map a.eval).toList:=by
 refine⟨by simp,λj x x' h1 h2=>?_⟩;simp only[Array.getElem?_toList,Array.getElem?_map,Option.map_eq_some_iff]at h1 h2;obtain⟨o,ho,rfl⟩:=h1;obtain⟨o',ho',rfl⟩:=h2;rw[ho]at ho';cases ho';exact h o (Array.mem_of_getElem? ho)
theorem QrJ {fn:Fn} {first captured:Array Operand} (hn:Qag fn=true):
  Qp P ⟨d,.makeFunc fn first captured,ty,pos,af,g⟩ A H (.func fn (first.map (ev A)) (captured.map (ev A))) H:=
 .pure_ λρ w s hs he=>by
  have h1:=Qle (xs:=first) (λx hx=>he x (by simp[Op.operands,hx]));have h2:=Qle (xs:=captured) (λx hx=>he x (by simp[Op.operands,hx]));refine⟨.func fn (first.map s.eval) (captured.map s.eval),rfl,.func _ _ _ _ _ hn (by simp) (by simp) (λj x x' a b=>h1.2 j x x' (by simpa using a) (by simpa using b)) (λj x x' a b=>h2.2 j x x' (by simpa using a) (by simpa using b))⟩
def Vh (P:Program) (t:TypeId) (cs:Array Value) (off:Nat):Option Value:=
 match P.underlying t,P.info? t with
 | some td,some inf=>if Jj td then some (.agg (cs.extract off (off+inf.size))) else cs[off]?
 | _,_=>none
theorem Qpj {t:TypeId} {td:TypeDesc} (hu:P.underlying t=some td) (w:World):(isAgg t).run P w=.ok (Jj td) w:=by
 simp only[isAgg,Sem.run_bind,run_underlying hu,Result.andThen_ok];cases td<;>rfl
theorem Q8 {t:TypeId} {inf:TypeInfo} (hi:P.info? t=some inf) (w:World):(sizeOf t).run P w=.ok inf.size w:=by
 simp only[sizeOf,typeInfo,Sem.run_bind,run_program,Result.andThen_ok,hi,Sem.run_pure]
theorem QiH {ρ:Ren} {t:TypeId} {cs cs':Array Value} {off:Nat} {v:Value} (hc:VL ρ cs.toList cs'.toList) (h:Vh P t cs off=some v) (w:World):∃v',(part t cs' off).run P w=.ok v' w∧V ρ v v':=by
 unfold Vh at h;split at h
 ·rename_i td inf hu hi;split at h
  ·rename_i hd;cases h;refine⟨.agg (cs'.extract off (off+inf.size)),?_,?_⟩
   ·simp only[part,Sem.run_bind,Qpj hu,Result.andThen_ok,hd,if_true,Q8 hi,Sem.run_pure]
   ·have hsz:cs.size=cs'.size:=by have:=hc.1;simpa using this
    refine .agg _ _ (by simp[hsz]) (λj x x' a b=>?_);rw[Array.getElem?_extract]at a b;split at a
    ·rename_i hh;rw[if_pos (by rw[<- hsz];exact hh)]at b;exact hc.2 (off+j) x x' (by simpa using a) (by simpa using b)
    ·cases a
  ·rename_i hd;have h':cs.toList[off]? = some v:=by simpa using h
   obtain⟨v',h1,h2⟩:=hc.get h';refine⟨v',?_,h2⟩;have h1':cs'[off]? = some v':=by simpa using h1
   simp only[part,Sem.run_bind,Qpj hu,Result.andThen_ok,hd,Bool.false_eq_true,if_false,h1',Sem.run_pure]
 ·cases h
theorem V.agg_inv {ρ:Ren} {cs:Array Value} {z:Value} (h:V ρ (.agg cs) z):∃cs',z=.agg cs'∧VL ρ cs.toList cs'.toList:=by
 cases h with
 | same _ hp=>simp[plain]at hp
 | agg xs xs' h1 h2=>exact⟨xs',rfl,by simpa using h1,λj x x' a b=>h2 j x x' (by simpa using a) (by simpa using b)⟩
theorem V.tuple_inv {ρ:Ren} {cs:Array Value} {z:Value} (h:V ρ (.tuple cs) z):∃cs',z=.tuple cs'∧VL ρ cs.toList cs'.toList:=by
 cases h with
 | same _ hp=>simp[plain]at hp
 | tuple xs xs' h1 h2=>exact⟨xs',rfl,by simpa using h1,λj x x' a b=>h2 j x x' (by simpa using a) (by simpa using b)⟩
theorem V.ptr_inv {ρ:Ren} {a:Addr} {z:Value} (h:V ρ (.pointer (some a)) z):∃i,ρ a.block=some i∧a.spot=none∧z=.pointer (some (i.at_.add a.off)):=by
 cases h with
 | same _ hp=>simp[plain]at hp
 | ptr id off i h=>exact⟨i,h,rfl,rfl⟩
theorem V.iface_inv {ρ:Ren} {t:TypeId} {v z:Value} (h:V ρ (.iface t v) z):∃v',z=.iface t v'∧V ρ v v':=by
 cases h with
 | same _ hp=>simp[plain]at hp
 | iface t v v' h=>exact⟨v',rfl,h⟩
theorem V.map_inv {ρ:Ren} {id:Nat} {z:Value} (h:V ρ (.map (some id)) z):∃i,ρ id=some i∧z=.map (some i.at_.block):=by
 cases h with
 | same _ hp=>simp[plain]at hp
 | map id i h=>exact⟨i,h,rfl⟩
theorem V.slice_inv {ρ:Ren} {a:Addr} {len cap:Nat} {z:Value} (h:V ρ (.slice (some a) len cap) z):∃i a' cap',ρ a.block=some i∧a.spot=none∧z=.slice (some a') len cap'∧
  (a'=i.at_.add a.off∨(len=0∧cap'=0))∧len<=cap'∧cap'<UNK∧(UNK<=cap->i.s=cap - UNK∧a.off+cap' * i.s=i.n)∧(cap<UNK->cap'=cap):=by
 cases h with
 | same _ hp=>simp[plain]at hp
 | slice id off len cap cap' i a' h h1 h2 h0 h3 h4=>exact⟨i,a',cap',h,rfl,rfl,h1,h2,h0,h3,h4⟩
theorem Qxh {t:TypeId} {x:Operand} {f:Nat} {fs:Array Field} {fd:Field} {cs:Array Value} {v:Value} (ht:P.underlying t=some (.struct fs)) (hf:fs[f]? = some fd) (ex:ev A x=.agg cs)
  (hp:Vh P fd.type cs fd.offset=some v):Qp P ⟨d,.field t x f,ty,pos,af,g⟩ A H v H:=
 .pure_ λρ w s hs he=>by
  have hv:=he x (by simp[Op.operands]);rw[ex]at hv;obtain⟨cs',e,hc⟩:=hv.agg_inv;obtain⟨v',h1,h2⟩:=QiH hc hp w;refine⟨v',?_,h2⟩;simp only[execOp,Instr.field,Sem.run_bind,run_underlying ht,Result.andThen_ok,hf,e,asAgg,Sem.run_pure,h1]
theorem Qp6 {t:TypeId} {x:Operand} {f:Nat} {fs:Array Field} {fd:Field} {inf:TypeInfo} {a:Addr} (ht:P.underlying t=some (.struct fs)) (hf:fs[f]? = some fd) (hi:P.info? fd.type=some inf) (hz:Nat.beq inf.size 0=false)
  (ex:ev A x=.pointer (some a)):Qp P ⟨d,.fieldAddr t x f,ty,pos,af,g⟩ A H (.pointer (some ⟨a.block,a.off+fd.offset,none⟩)) H:=
 .pure_ λρ w s hs he=>by
  have hv:=he x (by simp[Op.operands]);rw[ex]at hv;obtain⟨i,h1,h2,h3⟩:=hv.ptr_inv;refine⟨.pointer (some (i.at_.add (a.off+fd.offset))),?_,.ptr _ _ i h1⟩;have hz':¬inf.size=0:=by simpa[YF] using hz
  simp only[execOp,Instr.fieldAt,Sem.run_bind,run_underlying ht,Result.andThen_ok,hf,h3,Instr.sureAddr,Sem.run_pure,fieldPlace,Q8 hi,hz',if_false,Zp]
theorem QhJ {t e:TypeId} {x ix:Operand} {inf:TypeInfo} {a:Addr} {len cap:Nat} {k:IntKind} {m:Int} (ht:P.underlying t=some (.slice e)) (hi:P.info? e=some inf)
  (ex:ev A x=.slice (some a) len cap) (eix:ev A ix=.int k m) (h0:0<=m) (h1:m<len):
  Qp P ⟨d,.indexAddr t x ix,ty,pos,af,g⟩ A H (.pointer (some ⟨a.block,a.off+m.toNat * inf.size,none⟩)) H:=
 .pure_ λρ w s hs he=>by
  have hv:=he x (by simp[Op.operands]);rw[ex]at hv;have e2:=Zf (he ix (by simp[Op.operands])) eix rfl;obtain⟨i,a',cap',g1,g2,g3,g4,g5,g0,g6,g7⟩:=hv.slice_inv;have ha:a'=i.at_.add a.off:=by rcases g4 with h | ⟨h,_⟩;exact h;omega
  refine⟨.pointer (some (i.at_.add (a.off+m.toNat * inf.size))),?_,.ptr _ _ i g1⟩;simp only[execOp,Instr.indexAt,e2,asIntOf,g3,Sem.run_bind,Sem.run_pure,run_underlying ht,Result.andThen_ok,h0,h1,and_self,if_true,Q8 hi,ha,Zp]
theorem QhK {t e:TypeId} {x ix:Operand} {inf:TypeInfo} {a:Addr} {len:Nat} {k:IntKind} {m:Int} (ht:P.underlying t=some (.array len e)) (hi:P.info? e=some inf)
  (ex:ev A x=.pointer (some a)) (eix:ev A ix=.int k m) (h0:0<=m) (h1:m<len):
  Qp P ⟨d,.indexAddr t x ix,ty,pos,af,g⟩ A H (.pointer (some ⟨a.block,a.off+m.toNat * inf.size,none⟩)) H:=
 .pure_ λρ w s hs he=>by
  have hv:=he x (by simp[Op.operands]);rw[ex]at hv;have e2:=Zf (he ix (by simp[Op.operands])) eix rfl;obtain⟨i,g1,g2,g3⟩:=hv.ptr_inv;refine⟨.pointer (some (i.at_.add (a.off+m.toNat * inf.size))),?_,.ptr _ _ i g1⟩;simp only[execOp,Instr.indexAt,e2,asIntOf,g3,Instr.sureAddr,Sem.run_bind,Sem.run_pure,run_underlying ht,Result.andThen_ok,h0,h1,and_self,if_true,Q8 hi,Zp]
theorem QlV {t:TypeId} {x ix:Operand} {s:ByteArray} {k:IntKind} {m:Int} {b:UInt8} (ht:P.underlying t=some .string) (ex:ev A x=.string s) (eix:ev A ix=.int k m) (h0:0<=m) (hb':(bl s)[m.toNat]? = some b):
  Qp P ⟨d,.index t x ix,ty,pos,af,g⟩ A H (.int .u8 b.toNat) H:=
 .pure_ λρ w a hs he=>by
  have e1:=Zf (he x (by simp[Op.operands])) ex rfl;have e2:=Zf (he ix (by simp[Op.operands])) eix rfl;refine⟨.int .u8 b.toNat,?_,.same _ rfl⟩;have hb:s[m.toNat]? = some b:=by
   have hlt:m.toNat<s.size:=by rw[<- QiG];exact(List.getElem?_eq_some_iff.1 hb').1
   rw[getElem?_pos s _ hlt];rw[List.getElem?_eq_getElem (by rw[QiG];exact hlt)]at hb';exact hb'
  simp only[execOp,Instr.index,e1,e2,asIntOf,Sem.run_bind,Sem.run_pure,run_underlying ht,Result.andThen_ok,h0,if_true,hb]
theorem QmN {t e:TypeId} {x ix:Operand} {len:Nat} {inf:TypeInfo} {cs:Array Value} {k:IntKind} {m:Int} {v:Value} (ht:P.underlying t=some (.array len e)) (hi:P.info? e=some inf) (ex:ev A x=.agg cs) (eix:ev A ix=.int k m)
  (h0:0<=m) (h1:m<len) (hp:Vh P e cs (m.toNat * inf.size)=some v):Qp P ⟨d,.index t x ix,ty,pos,af,g⟩ A H v H:=
 .pure_ λρ w a hs he=>by
  have hv:=he x (by simp[Op.operands]);rw[ex]at hv;have e2:=Zf (he ix (by simp[Op.operands])) eix rfl;obtain⟨cs',e',hc⟩:=hv.agg_inv;obtain⟨v',g1,g2⟩:=QiH hc hp w;refine⟨v',?_,g2⟩;simp only[execOp,Instr.index,e',e2,asIntOf,Sem.run_bind,Sem.run_pure,run_underlying ht,Result.andThen_ok,h0,h1,and_self,if_true,Q8 hi,g1]
theorem Qtr {x:Operand} {ix:Nat} {vs:Array Value} {v:Value} (ex:ev A x=.tuple vs) (hv:vs[ix]? = some v):Qp P ⟨d,.extract x ix,ty,pos,af,g⟩ A H v H:=
 .pure_ λρ w a hs he=>by
  have hv':=he x (by simp[Op.operands]);rw[ex]at hv';obtain⟨vs',e',hc⟩:=hv'.tuple_inv;obtain⟨v',g1,g2⟩:=hc.get (j:=ix) (x:=v) (by simpa using hv);have g1':vs'[ix]? = some v':=by simpa using g1
  refine⟨v',?_,g2⟩;simp only[execOp,Instr.extract,e',g1',Sem.run_bind,Sem.run_pure,Result.andThen_ok]
end
section
variable {P:Program} {n:Nat} {A:Env} {H:Qa} {d:Option Nat} {ty:TypeId} {pos:String} {af:Array Edge} {g:Option (Nat×Bool)}
theorem Qfn {t:TypeId} {a:Addr} {v:Value} (h:XS P t a H=some v):∃c e ro,H.get a.block=some (.cells c e ro):=by
 unfold XS at h;split at h
 ·rename_i d inf c e ro h1 h2 h3;exact⟨c,e,ro,h3⟩
 ·cases h
theorem Qzk {t:TypeId} {x:Operand} {a:Addr} {v:Value} (ex:ev A x=.pointer (some a)) (hl:XS P t a H=some v):Qp P ⟨d,.load t x,ty,pos,af,g⟩ A H v H:=
 .pure_ λρ w s hs he=>by
  have hv:=he x (by simp[Op.operands]);rw[ex]at hv;obtain⟨i,g1,g2,g3⟩:=hv.ptr_inv;obtain⟨id,off,sp⟩:=a;simp only at g1 g2 g3;subst g2;obtain⟨c,e,ro,hg⟩:=Qfn hl;obtain⟨v',h1,h2⟩:=Qkf g1 hg (hs.live id _ i hg g1) hl;refine⟨v',?_,h2⟩;simp only[execOp,Instr.loadAt,g3,Instr.sureAddr,Sem.run_bind,Sem.run_pure,Result.andThen_ok,h1]
theorem Qxi {t:TypeId} {x y:Operand} {a:Addr} {H':Qa} (ex:ev A x=.pointer (some a)) (hl:QhH P t a (ev A y) H=some H'):Qp P ⟨d,.store t x y,ty,pos,af,g⟩ A H undef H':=
 .of_skip λρ w s hs he=>by
  have hv:=he x (by simp[Op.operands]);rw[ex]at hv;obtain⟨i,g1,g2,g3⟩:=hv.ptr_inv;obtain⟨id,off,sp⟩:=a;simp only at g1 g2 g3;subst g2;obtain⟨w',h1,h2,h3⟩:=Qtp hs g1 (he y (by simp[Op.operands])) hl;refine⟨ρ,w',?_,h2,h3⟩;simp only[execOp,Instr.storeAt,g3,Instr.sureAddr,Sem.run_bind,Sem.run_pure,Result.andThen_ok,h1]
theorem Yh {t:TypeId} {inf:TypeInfo} {z:Value} (hi:P.info? t=some inf) (hz:inf.zero=some z) (w:World):(zeroValue t).run P w=.ok z w:=by
 simp only[zeroValue,typeInfo,Sem.run_bind,run_program,Result.andThen_ok,hi,Sem.run_pure,hz]
theorem Qxj {e:TypeId} {inf:TypeInfo} {z:Value} (hi:P.info? e=some inf) (hz:inf.zero=some z) (hc:z.cells.toList.all plain=true):
  Qp P ⟨d,.alloc e,ty,pos,af,g⟩ A H (.pointer (some ⟨H.next,0,none⟩)) (H.push (.cells z.cells.toList e false)):=
 .of_run λρ w s hs he=>by
  obtain⟨h1,h2⟩:=hs.pushCells (c:=z.cells.toList) (c':=z.cells) e (.closed hc);refine⟨.pointer (some ⟨w.heap.size,0,none⟩),_,_,?_,.ptr H.next 0 _ (Wg _ _ _),h1,h2⟩;simp only[execOp,Instr.alloc,Sem.run_bind,Yh hi hz,Result.andThen_ok,newVar,newRow,run_newObj,Sem.run_pure,World.alloc]
theorem QBm {e:TypeId} {x:Operand}:
  Qp P ⟨d,.box e x,ty,pos,af,g⟩ A H (.pointer (some ⟨H.next,0,none⟩)) (H.push (.cells (ev A x).cells.toList e false)):=
 .of_run λρ w s hs he=>by
  obtain⟨h1,h2⟩:=hs.pushCells (c:=(ev A x).cells.toList) (c':=(s.eval x).cells) e (he x (by simp[Op.operands])).cells;refine⟨.pointer (some ⟨w.heap.size,0,none⟩),_,_,?_,.ptr H.next 0 _ (Wg _ _ _),h1,h2⟩;simp only[execOp,Instr.box,Sem.run_bind,newVar,newRow,run_newObj,Sem.run_pure,Result.andThen_ok,World.alloc]
/-! ### Building structs, arrays, slices -/
def Qbz (place:Nat->Option (Nat×Nat)):List Value->List (Nat×Value)->Option (List Value)
 | cells,[]=>some cells
 | cells,(i,v)::rest=>
  match place i with
  | none=>none
  | some (off,size)=>if v.cells.toList.length=size∧off+size<=cells.length then Qbz place (splice cells off v.cells.toList) rest else none
theorem Qg6:∀ (vs:List Value) (k off:Nat) (cs:Array Value),off+k+vs.length<=cs.size->
  ((vs.zipIdx k).foldl (fun(cs:Array Value) (p:Value×Nat)=>cs.setIfInBounds (off+p.2) p.1) cs).toList=splice cs.toList (off+k) vs
 | [],k,off,cs,h=>by simp[splice]
 | v::vs,k,off,cs,h=>by
  simp only[List.length_cons]at h;rw[List.zipIdx_cons,List.foldl_cons,Qg6 vs (k+1) off _ (by simp;omega)];apply List.ext_getElem?;intro o;rw[QhG (by simp;omega),QhG (by simp;omega)];simp only[Array.toList_setIfInBounds,List.length_cons]
  by_cases h0:o=off+k
  ·subst h0;rw[if_neg (by omega),if_pos ⟨by omega,by omega⟩,List.getElem?_set_self (by simp;omega)];simp
  ·by_cases h1:off+(k+1)<=o∧o<off+(k+1)+vs.length
   ·rw[if_pos h1,if_pos ⟨by omega,by omega⟩,show o - (off+k)=(o - (off+(k+1)))+1 by omega];simp
   ·rw[if_neg h1,if_neg (by omega),List.getElem?_set_ne (by omega)]
theorem QiI {ρ:Ren} {place:Nat->Option (Nat×Nat)}:∀ (parts parts':List (Nat×Value)) (c:List Value) (c':Array Value) (r:List Value),VL ρ c c'.toList->parts.map (·.1)=parts'.map (·.1)->VL ρ (parts.map (·.2)) (parts'.map (·.2))->
  Qbz place c parts=some r->∃r',Instr.fill place c' parts'=some r'∧VL ρ r r'.toList
 | [],parts',c,c',r,hc,h1,h2,h=>by
  have:parts'=[]:=by cases parts';rfl;simp at h1
  subst this;simp only[Qbz,Option.some.injEq]at h;subst h;exact⟨c',rfl,hc⟩
 | (i,v)::rest,parts',c,c',r,hc,h1,h2,h=>by
  cases parts' with
  | nil=>simp at h1
  | cons q rest'=>
   obtain⟨i',v'⟩:=q;simp only[List.map_cons,List.cons.injEq]at h1;obtain⟨rfl,h1⟩:=h1;obtain⟨x',xs',e,hv,hvs⟩:=h2.uncons;simp only[List.map_cons,List.cons.injEq]at e;obtain⟨rfl,rfl⟩:=e;unfold Qbz at h;split at h
   ·cases h
   ·rename_i off size hp;split at h
    ·rename_i hlen;have hcl:=hv.cells;have hl1:v'.cells.size=size:=by have:=hcl.1;simp at this hlen;omega
     have hl2:c.length=c'.size:=by have:=hc.1;simpa using this
     have hl3:v.cells.size=size:=by simpa using hlen.1
     have hrel:VL ρ (splice c off v.cells.toList) (splice c'.toList off v'.cells.toList):=by
      unfold splice;refine(hc.take _).append (hcl.append ?_);rw[show off+v'.cells.toList.length=off+v.cells.toList.length by simp;omega];exact hc.drop _
     have hf:=Qg6 v'.cells.toList 0 off c' (by simp;omega);simp only[Nat.add_zero]at hf;obtain⟨r',g1,g2⟩:=QiI rest rest' _ (splice c'.toList off v'.cells.toList).toArray r (by simpa using hrel) h1 hvs h;refine⟨r',?_,g2⟩;unfold Instr.fill;simp only[hp,hl1];rw[if_neg (by simp;omega)];rw[<- g1];congr 1;apply Array.ext';simp only[Array.toList_zipIdx,<- Array.foldl_toList];exact hf
    ·cases h
def Yo (A:Env) (parts:Array (Nat×Operand)):List (Nat×Value):=parts.toList.map λp=>(p.1,ev A p.2)
theorem Qkh {ρ:Ren} {a:Act} {parts:Array (Nat×Operand)} (he:∀x∈(parts.toList.map (·.2)).toArray,V ρ (ev A x) (a.eval x)):
  (Yo A parts).map (·.1)=(parts.map fun(i,x)=>(i,a.eval x)).toList.map (·.1)∧VL ρ ((Yo A parts).map (·.2)) ((parts.map fun(i,x)=>(i,a.eval x)).toList.map (·.2)):=by
 refine⟨by simp[Yo],by simp[Yo],λj x x' h1 h2=>?_⟩;simp only[Yo,List.map_map,List.getElem?_map,Option.map_eq_some_iff,Array.toList_map,Function.comp]at h1 h2;obtain⟨p,hp1,rfl⟩:=h1;obtain⟨q,hq1,rfl⟩:=h2;rw[hp1]at hq1;cases hq1;refine he _ ?_;simp only[List.mem_toArray,List.mem_map];exact⟨p,List.mem_of_getElem? hp1,rfl⟩
def QiJ (P:Program) (fs:Array Field):Option (Array (Nat×Nat)):=fs.mapM λf=>(P.info? f.type).map λinf=>(f.offset,inf.size)
theorem QmO (w:World):∀ (l:List Field) (r:List (Nat×Nat)),l.mapM (λf=>(P.info? f.type).map λinf=>(f.offset,inf.size))=some r->
  (l.mapM (λf=>(do pure (f.offset,<- sizeOf f.type):Sem (Nat×Nat)))).run P w=.ok r w
 | [],r,h=>by simp at h;subst h;rfl
 | f::l,r,h=>by
  simp only[List.mapM_cons,Option.bind_eq_bind,Option.bind_eq_some_iff,Option.map_eq_some_iff,Option.pure_def,Option.some.injEq]at h;obtain⟨p,⟨inf,hi,rfl⟩,q,hq,rfl⟩:=h;have ih:=QmO w l q hq;simp only[List.mapM_cons,Sem.run_bind,Q8 hi,Result.andThen_ok,Sem.run_pure,ih]
theorem QlW {t:TypeId} {parts:Array (Nat×Operand)} {fs:Array Field} {inf:TypeInfo} {z:Value} {pl:Array (Nat×Nat)} {r:List Value} (ht:P.underlying t=some (.struct fs)) (hi:P.info? t=some inf) (hz:inf.zero=some z)
  (hc:z.cells.toList.all plain=true) (hpl:QiJ P fs=some pl) (hr:Qbz (pl[·]?) z.cells.toList (Yo A parts)=some r):Qp P ⟨d,.build t parts,ty,pos,af,g⟩ A H (.agg r.toArray) H:=
 .pure_ λρ w s hs he=>by
  obtain⟨g1,g2⟩:=Qkh (A:=A) he;obtain⟨r',h1,h2⟩:=QiI (ρ:=ρ) (Yo A parts) _ z.cells.toList z.cells r (.closed hc) g1 g2 hr;refine⟨.agg r',?_,.agg _ _ (by simpa using h2.1) (λj x x' a b=>h2.2 j x x' (by simpa using a) (by simpa using b))⟩;have hpl':fs.toList.mapM (λf=>(P.info? f.type).map λinf=>(f.offset,inf.size))=some pl.toList:=by
   unfold QiJ at hpl;rw[Array.mapM_eq_mapM_toList]at hpl;simp only[Option.map_eq_map,Option.map_eq_some_iff]at hpl;obtain⟨l,hl,rfl⟩:=hpl;simpa using hl
  have hrun:=QmO (P:=P) w fs.toList pl.toList hpl';have hrun':(fs.mapM (λf=>(do pure (f.offset,<- sizeOf f.type):Sem (Nat×Nat)))).run P w=.ok pl w:=by
   rw[Array.mapM_eq_mapM_toList];simp only[Sem.run_map,hrun,Result.andThen_ok,Array.toArray_toList]
  simp only[execOp,Instr.build,Sem.run_bind,Yh hi hz,Result.andThen_ok,run_underlying ht,hrun',h1,Sem.run_pure]
theorem QmP {t e:TypeId} {len:Nat} {parts:Array (Nat×Operand)} {inf inf':TypeInfo} {z:Value} {r:List Value} (ht:P.underlying t=some (.array len e)) (hi:P.info? t=some inf) (hz:inf.zero=some z)
  (hc:z.cells.toList.all plain=true) (hi':P.info? e=some inf') (hr:Qbz (λi=>some (i * inf'.size,inf'.size)) z.cells.toList (Yo A parts)=some r):Qp P ⟨d,.build t parts,ty,pos,af,g⟩ A H (.agg r.toArray) H:=
 .pure_ λρ w s hs he=>by
  obtain⟨g1,g2⟩:=Qkh (A:=A) he;obtain⟨r',h1,h2⟩:=QiI (ρ:=ρ) (Yo A parts) _ z.cells.toList z.cells r (.closed hc) g1 g2 hr;refine⟨.agg r',?_,.agg _ _ (by simpa using h2.1) (λj x x' a b=>h2.2 j x x' (by simpa using a) (by simpa using b))⟩;simp only[execOp,Instr.build,Sem.run_bind,Yh hi hz,Result.andThen_ok,run_underlying ht,Q8 hi',h1,Sem.run_pure]
def Xi (z:Array Value) (m:Nat):List Value:=(List.range m).map λi=>z[i % z.size]!
theorem Qlf {z:Array Value} (hc:z.toList.all plain=true) (m:Nat) (hz:m=0∨0<z.size):(Xi z m).all plain=true:=by
 rw[List.all_eq_true];intro x hx;simp only[Xi,List.mem_map,List.mem_range]at hx;obtain⟨i,hi,rfl⟩:=hx;have hp:0<z.size:=by omega
 have hlt:i % z.size<z.size:=Nat.mod_lt _ hp;rw[getElem!_pos z _ hlt];exact List.all_eq_true.1 hc _ (by simp)
theorem Qop {t e:TypeId} {len:Nat} {parts:Array (Nat×Operand)} {inf:TypeInfo} {z:Value} {r:List Value} (ht:P.underlying t=some (.slice e)) (hi:P.info? e=some inf) (hz:inf.zero=some z)
  (hc:z.cells.toList.all plain=true) (hcs:Nat.blt 0 z.cells.size=true) (hlen:Nat.ble len 16777216=true) (hsm:Nat.ble (len * inf.size) 16777216=true) (hr:Qbz (λi=>some (i * inf.size,inf.size)) (Xi z.cells (len * inf.size)) (Yo A parts)=some r):
  Qp P ⟨d,.buildSlice t len parts,ty,pos,af,g⟩ A H (.slice (some ⟨H.next,0,none⟩) len len) (H.push (.cells r e false)):=
 .of_run λρ w s hs he=>by
  obtain⟨g1,g2⟩:=Qkh (A:=A) he;have hcs':0<z.cells.size:=by simpa using hcs
  have hsm':len * inf.size<=16777216:=by simpa using hsm
  have hzl:((Array.range (len * inf.size)).map (λi=>(if len * inf.size=0 then(#[]:Array Value) else z.cells)[i % (if len * inf.size=0 then(#[]:Array Value) else z.cells).size]!)).toList=Xi z.cells (len * inf.size):=by
   by_cases h0:len * inf.size=0
   ·simp[h0,Xi]
   ·simp[h0,Xi,Array.toList_range]
  have hp0:=Qlf hc (len * inf.size) (.inr hcs');obtain⟨r',h1,h2⟩:=QiI (ρ:=ρ) (Yo A parts) _ (Xi z.cells (len * inf.size)) ((Array.range (len * inf.size)).map (λi=>(if len * inf.size=0 then(#[]:Array Value) else z.cells)[i % (if len * inf.size=0 then(#[]:Array Value) else z.cells).size]!)) r (by rw[hzl];exact .closed hp0) g1 g2 hr;obtain⟨k1,k2⟩:=hs.pushCells (c:=r) (c':=r') e h2;have hlt:len<UNK:=by
   have:len<=16777216:=by simpa using hlen
   simp only[UNK];omega
  refine⟨.slice (some ⟨w.heap.size,0,none⟩) len len,_,_,?_,.slice H.next 0 len len len _ _ (Wg _ _ _) (.inl (by rw[G0])) (Nat.le_refl _) hlt (λh=>?_) (λ_=>rfl),k1,k2⟩
  ·have hb:¬ (len * inf.size>2 ^ 24):=by omega
   simp only[execOp,Instr.buildSlice,Sem.run_bind,run_underlying ht,Result.andThen_ok,Q8 hi,hb,if_false]
   by_cases h0:len * inf.size=0
   ·simp only[h0,if_true,Sem.run_pure]at h1 ⊢;simp only[h1,newRow,Sem.run_bind,run_newObj,Result.andThen_ok,Sem.run_pure,World.alloc]
   ·simp only[h0,if_false,Sem.run_bind,Yh hi hz,Sem.run_pure,Result.andThen_ok]at h1 ⊢;simp only[h1,newRow,Sem.run_bind,run_newObj,Result.andThen_ok,Sem.run_pure,World.alloc]
  ·exfalso;have hlen':len<=16777216:=by simpa using hlen
   simp only[UNK]at h;omega
end
section
variable {P:Program} {n:Nat} {A:Env} {H:Qa} {d:Option Nat} {ty:TypeId} {pos:String} {af:Array Edge} {g:Option (Nat×Bool)}
def QdN (P:Program) (e:TypeId) (inf:TypeInfo) (z:Value):Bool:=
  Nat.beq z.cells.size inf.size&&Nat.blt 0 inf.size&&z.cells.toList.all plain &&
    (match P.underlying e with
     | some (.int .u8)=>(match z with | .int .u8 m=>m==0 | _=>false)
     | some _=>true
     | none=>false)
structure K4 (P:Program) (e:TypeId) (inf:TypeInfo) (z:Value):Prop where
 info:P.info? e=some inf
 zero:inf.zero=some z
 cells:z.cells.size=inf.size
 pos:0<inf.size
 plain_:z.cells.toList.all plain=true
 byte:P.underlying e=some (.int .u8)->z=.int .u8 0
theorem K4.mk' {e:TypeId} {inf:TypeInfo} {z:Value} (h1:P.info? e=some inf) (h2:inf.zero=some z) (h:QdN P e inf z=true):K4 P e inf z:=by
 simp only[QdN,Bool.and_eq_true]at h;obtain⟨⟨⟨a,b⟩,c⟩,dd⟩:=h;refine⟨h1,h2,by simpa[YF] using a,by simpa using b,c,λhu=>?_⟩;rw[hu]at dd;simp only at dd;split at dd
 ·rename_i m;have:m=0:=by simpa using dd
  rw[this]
 ·cases dd
theorem K4.cellsOf {e:TypeId} {inf:TypeInfo} {z:Value} (h:K4 P e inf z):P.cellsOf e=inf.size:=by simp[Program.cellsOf,h.info]
theorem Qwd (z:Array Value) (m:Nat) (hz:0<z.size) {o:Nat} {v:Value} (h:(Xi z m)[o]? = some v):v∈z:=by
 simp only[Xi,List.getElem?_map,Option.map_eq_some_iff]at h;obtain⟨i,_,rfl⟩:=h;rw[getElem!_pos z _ (Nat.mod_lt _ hz)];exact Array.getElem_mem _
theorem K4.spare {e:TypeId} {inf:TypeInfo} {z:Value} (h:K4 P e inf z) {v:Value} (hv:v∈z.cells):Qvc P e v:=λhu=>by
 rw[h.byte hu]at hv;simp[Value.cells]at hv;exact⟨0,hv,by omega,by omega⟩
theorem Qp7 {t e:TypeId} {x y:Operand} {inf:TypeInfo} {z:Value} {l c:Int} (ht:P.underlying t=some (.slice e)) (hok:K4 P e inf z) (ex:ev A x=.int .i64 l) (ey:ev A y=.int .i64 c)
  (h0:0<=l) (h1:l<=c) (h2:(inf.bytes:Int) * c<=281474976710656) (h3:c<=9223372036854775807):
  Qp P ⟨d,.makeSlice t x y,ty,pos,af,g⟩ A H (.slice (some ⟨H.next,0,none⟩) l.toNat c.toNat) (H.push (.cells (Xi z.cells (c.toNat * inf.size)) e false)):=
 .of_run λρ w s hs he=>by
  have e1:=Zf (he x (by simp[Op.operands])) ex rfl;have e2:=Zf (he y (by simp[Op.operands])) ey rfl;have hr:=run_make (P:=P) w t e inf z ht hok.info hok.zero .i64 .i64 l c h0 h1 h2 h3;have hzl:(madeCells z.cells (c.toNat * inf.size)).toList=Xi z.cells (c.toNat * inf.size):=by simp[madeCells,Xi,Array.toList_range]
  obtain⟨k1,k2⟩:=hs.pushCells (c:=Xi z.cells (c.toNat * inf.size)) (c':=madeCells z.cells (c.toNat * inf.size)) e (by rw[hzl];exact .closed (Qlf hok.plain_ _ (.inr (by rw[hok.cells];exact hok.pos))));refine⟨.slice (some ⟨w.heap.size,0,none⟩) l.toNat c.toNat,_,_,?_,.slice H.next 0 l.toNat c.toNat c.toNat _ _ (Wg _ _ _) (.inl (by rw[G0])) (by omega) (by simp only[UNK];omega) (λh=>?_) (λ_=>rfl),k1,k2⟩
  ·simp only[execOp,e1,e2,Sem.run_bind,hr,Result.andThen_ok,Sem.run_pure]
  ·exfalso;simp only[UNK]at h;omega
/-! ### Slicing -/
def We (A:Env):Option Operand->Option (Option Int)
 | none=>some none
 | some x=>match ev A x with | .int _ m=>some (some m) | _=>none
theorem Qki {ρ:Ren} {a:Act} {x:Option Operand} (he:∀y,x=some y->V ρ (ev A y) (a.eval y)) {m:Option Int} (h:We A x=some m):
  (m=none∧x.map a.eval=none)∨∃k j,m=some j∧x.map a.eval=some (.int k j):=by
 cases x with
 | none=>simp[We]at h;exact .inl ⟨h.symm,rfl⟩
 | some x=>
  simp only[We]at h;split at h
  ·rename_i k j ej;cases h;have:=Zf (he _ rfl) ej rfl;exact .inr ⟨k,j,rfl,by simp[this]⟩
  ·cases h
theorem K5 {ρ:Ren} {w:World} {a:Act} {lo hi mx:Option Operand} (hlo:∀y,lo=some y->V ρ (ev A y) (a.eval y)) (hhi:∀y,hi=some y->V ρ (ev A y) (a.eval y)) (hmx:∀y,mx=some y->V ρ (ev A y) (a.eval y)) {l h m:Option Int} (el:We A lo=some l) (eh:We A hi=some h) (em:We A mx=some m)
  (hm:m≠none->h≠none) {len cap:Nat} (h1:0<=l.getD 0) (h2:l.getD 0<=h.getD len) (h3:h.getD len<=m.getD cap) (h4:m.getD cap<=cap) (isS:Bool):
  (Instr.sliceBounds isS len cap (lo.map a.eval) (hi.map a.eval) (mx.map a.eval)).run P w=.ok ((l.getD 0).toNat,(h.getD len).toNat,(m.getD cap).toNat) w:=by
 rcases Qki hhi eh with⟨rfl,e⟩ | ⟨k,j,rfl,e⟩<;>rcases Qki hlo el with⟨rfl,e'⟩ | ⟨k',j',rfl,e'⟩<;>rcases Qki hmx em with⟨rfl,e''⟩ | ⟨k'',j'',rfl,e''⟩<;>simp only[Option.getD_none,Option.getD_some]at h1 h2 h3 h4 ⊢<;>rw[e,e',e'']<;>simp only[Instr.sliceBounds,Sem.run_bind,Sem.run_pure,Result.andThen_ok]
 ·simp
 ·exact absurd rfl (hm (by simp))
 ·rw[run_sliceBound (P:=P) w k' j' len _ h1 h2];simp
 ·exact absurd rfl (hm (by simp))
 ·rw[run_sliceBound (P:=P) w k j cap _ h2 h3];simp
 ·rw[run_sliceBound (P:=P) w k'' j'' cap _ (by omega) h4];simp only[Result.andThen_ok];rw[run_sliceBound (P:=P) w k j j''.toNat _ (by omega) (by omega)];simp
 ·rw[run_sliceBound (P:=P) w k j cap _ (by omega) h3];simp only[Result.andThen_ok];rw[run_sliceBound (P:=P) w k' j' j.toNat _ (by omega) (by omega)];simp
 ·rw[run_sliceBound (P:=P) w k'' j'' cap _ (by omega) h4];simp only[Result.andThen_ok];rw[run_sliceBound (P:=P) w k j j''.toNat _ (by omega) (by omega)];simp only[Result.andThen_ok];rw[run_sliceBound (P:=P) w k' j' j.toNat _ (by omega) (by omega)];simp
theorem QlX {t:TypeId} {x:Operand} {lo hi:Option Operand} {s:ByteArray} {l h:Option Int} (ht:P.underlying t=some .string) (ex:ev A x=.string s)
  (el:We A lo=some l) (eh:We A hi=some h) (h1:0<=l.getD 0) (h2:l.getD 0<=h.getD (bl s).length) (h3:h.getD (bl s).length<=(bl s).length):
  Qp P ⟨d,.slice t x lo hi none,ty,pos,af,g⟩ A H (.string (mkS (((bl s).drop (l.getD 0).toNat).take ((h.getD (bl s).length).toNat - (l.getD 0).toNat)))) H:=
 .pure_ λρ w a hs he=>by
  have e1:=Zf (he x (by simp[Op.operands])) ex rfl;simp only[QiG]at h2 h3;refine⟨.string (s.extract (l.getD 0).toNat (h.getD s.size).toNat),?_,?_⟩
  rotate_left
  ·have:s.extract (l.getD 0).toNat (h.getD s.size).toNat=mkS (((bl s).drop (l.getD 0).toNat).take ((h.getD (bl s).length).toNat - (l.getD 0).toNat)):=by
    apply ByteArray.ext;apply Array.ext';rw[ByteArray.data_extract];simp[mkS,bl]
   rw[this];exact .same _ rfl
  have hb:=K5 (P:=P) (A:=A) (w:=w) (λy e=>he y (by simp[Op.operands,e])) (λy e=>he y (by simp[Op.operands,e])) (mx:=none) (λy e=>by cases e) el eh (m:=none) rfl (by simp) (len:=s.size) (cap:=s.size) h1 h2 (by simpa using h3) (by simp) false;simp only[Option.map_none]at hb;simp only[execOp,Instr.sliceAt,Instr.slice,e1,Sem.run_bind,run_underlying ht,Result.andThen_ok,Option.map_none,Option.isSome_none,Bool.false_eq_true,if_false,hb,Sem.run_pure]
def Yp (size:Nat) (x:Value) (l h m:Option Int):Option Value:=
 match x with
 | .slice none len cap=>
  if 0<=l.getD 0∧l.getD 0<=h.getD len∧h.getD len<=m.getD cap∧m.getD cap<=cap then some (.slice none ((h.getD len).toNat - (l.getD 0).toNat) ((m.getD cap).toNat - (l.getD 0).toNat)) else none
 | .slice (some a) len cap=>
  if UNK<=cap then
   match m with
   | none=>if 0<=l.getD 0∧l.getD 0<=h.getD len∧h.getD len<=len∧cap=UNK+size then some (.slice (some ⟨a.block,a.off+(l.getD 0).toNat * size,none⟩) ((h.getD len).toNat - (l.getD 0).toNat) cap) else none
   | some m=>if 0<=l.getD 0∧l.getD 0<=h.getD len∧h.getD len<=m∧m<=len∧l.getD 0<m then some (.slice (some ⟨a.block,a.off+(l.getD 0).toNat * size,none⟩) ((h.getD len).toNat - (l.getD 0).toNat) (m.toNat - (l.getD 0).toNat)) else none
  else
   if 0<=l.getD 0∧l.getD 0<=h.getD len∧h.getD len<=m.getD cap∧m.getD cap<=cap then
    some (.slice (some (if(m.getD cap).toNat=(l.getD 0).toNat then a else⟨a.block,a.off+(l.getD 0).toNat * size,none⟩)) ((h.getD len).toNat - (l.getD 0).toNat) ((m.getD cap).toNat - (l.getD 0).toNat))
   else none
 | _=>none
theorem QmQ {t e:TypeId} {x:Operand} {lo hi mx:Option Operand} {inf:TypeInfo} {l h m:Option Int} {v:Value} (ht:P.underlying t=some (.slice e)) (hi':P.info? e=some inf)
  (el:We A lo=some l) (eh:We A hi=some h) (em:We A mx=some m) (hm:m≠none->h≠none) (hv:Yp inf.size (ev A x) l h m=some v):
  Qp P ⟨d,.slice t x lo hi mx,ty,pos,af,g⟩ A H v H:=
 .pure_ λρ w s hs he=>by
  have hvx:=he x (by simp[Op.operands]);generalize ev A x=u at hvx hv;unfold Yp at hv;split at hv
  ·rename_i len cap;split at hv
   ·rename_i hc;obtain⟨c1,c2,c3,c4⟩:=hc;cases hv;have e1:=hvx.plain_eq rfl;have hb:=K5 (P:=P) (A:=A) (w:=w) (λy e=>he y (by simp[Op.operands,e])) (λy e=>he y (by simp[Op.operands,e])) (λy e=>he y (by simp[Op.operands,e])) el eh em hm (len:=len) (cap:=cap) c1 c2 c3 c4 true;refine⟨.slice none ((h.getD len).toNat - (l.getD 0).toNat) ((m.getD cap).toNat - (l.getD 0).toNat),?_,.same _ rfl⟩;simp only[execOp,Instr.sliceAt,Instr.slice,e1,Sem.run_bind,run_underlying ht,Result.andThen_ok,hb,Q8 hi',Sem.run_pure,Option.map_none,ite_self]
   ·cases hv
  ·rename_i a len cap;obtain⟨i,a',cap',g1,g2,g3,g4,g5,g0,g6,g7⟩:=hvx.slice_inv;obtain⟨id,off,sp⟩:=a;simp only at g1 g2 g4 g6 g7 hv;subst g2;split at hv
   ·rename_i hu;obtain⟨hes0,g6'⟩:=g6 hu;split at hv
    ·split at hv
     ·rename_i hc;obtain⟨c1,c2,c3,c4⟩:=hc;have hes:i.s=inf.size:=by omega
      cases hv;have hb:=K5 (P:=P) (A:=A) (w:=w) (λy e=>he y (by simp[Op.operands,e])) (λy e=>he y (by simp[Op.operands,e])) (λy e=>he y (by simp[Op.operands,e])) el eh em hm (len:=len) (cap:=cap') c1 c2 (by simp only[Option.getD_none];omega) (by simp) true;have hmul:off+(l.getD 0).toNat * inf.size+(cap' - (l.getD 0).toNat) * i.s=i.n:=by
       rw[hes]at g6' ⊢;rw[Nat.add_assoc,<- Nat.add_mul,Nat.add_sub_cancel' (by omega)];exact g6'
      refine⟨.slice (some (if cap'=(l.getD 0).toNat then a' else a'.add ((l.getD 0).toNat * inf.size))) ((h.getD len).toNat - (l.getD 0).toNat) (cap' - (l.getD 0).toNat),?_,?_⟩
      ·simp only[execOp,Instr.sliceAt,Instr.slice,g3,Sem.run_bind,run_underlying ht,Result.andThen_ok,hb,Q8 hi',Sem.run_pure,Option.getD_none,Int.toNat_natCast,Option.map_some];split<;>rfl
      ·by_cases hcl:cap'=(l.getD 0).toNat
       ·rw[if_pos hcl];exact .slice id _ _ _ _ i _ g1 (.inr ⟨by omega,by omega⟩) (by omega) (by omega) (λ_=>⟨hes0,hmul⟩) (λh=>by omega)
       ·rw[if_neg hcl];refine .slice id _ _ _ _ i _ g1 (.inl ?_) (by omega) (by omega) (λ_=>⟨hes0,hmul⟩) (λh=>by omega);rcases g4 with h | ⟨h,h'⟩
        ·rw[h,Zp]
        ·exfalso;omega
     ·cases hv
    ·rename_i m;split at hv
     ·rename_i hc;obtain⟨c1,c2,c3,c4,c5⟩:=hc;cases hv;have hb:=K5 (P:=P) (A:=A) (w:=w) (λy e=>he y (by simp[Op.operands,e])) (λy e=>he y (by simp[Op.operands,e])) (λy e=>he y (by simp[Op.operands,e])) el eh em hm (len:=len) (cap:=cap') c1 c2 c3 (by simp only[Option.getD_some];omega) true;refine⟨.slice (some (a'.add ((l.getD 0).toNat * inf.size))) ((h.getD len).toNat - (l.getD 0).toNat) (m.toNat - (l.getD 0).toNat),?_,?_⟩
      ·simp only[execOp,Instr.sliceAt,Instr.slice,g3,Sem.run_bind,run_underlying ht,Result.andThen_ok,hb,Q8 hi',Sem.run_pure,Option.getD_some,Option.map_some];rw[if_neg (by omega)]
      ·refine .slice id _ _ _ _ i _ g1 (.inl ?_) (by omega) (by omega) (λh=>?_) (λ_=>rfl)
       ·rcases g4 with h | ⟨h,h'⟩
        ·rw[h,Zp]
        ·exfalso;omega
       ·exfalso;omega
     ·cases hv
   ·rename_i hu;have g7':=g7 (by omega);subst g7';split at hv
    ·rename_i hc;obtain⟨c1,c2,c3,c4⟩:=hc;cases hv;have hb:=K5 (P:=P) (A:=A) (w:=w) (λy e=>he y (by simp[Op.operands,e])) (λy e=>he y (by simp[Op.operands,e])) (λy e=>he y (by simp[Op.operands,e])) el eh em hm (len:=len) (cap:=cap') c1 c2 c3 c4 true;refine⟨.slice (some (if(m.getD cap').toNat=(l.getD 0).toNat then a' else a'.add ((l.getD 0).toNat * inf.size))) ((h.getD len).toNat - (l.getD 0).toNat) ((m.getD cap').toNat - (l.getD 0).toNat),?_,?_⟩
     ·simp only[execOp,Instr.sliceAt,Instr.slice,g3,Sem.run_bind,run_underlying ht,Result.andThen_ok,hb,Q8 hi',Sem.run_pure,Option.map_some];split<;>rfl
     ·by_cases hcl:(m.getD cap').toNat=(l.getD 0).toNat
      ·rw[if_pos hcl,if_pos hcl];exact .slice id _ _ _ _ i _ g1 (.inr ⟨by omega,by omega⟩) (by omega) (by omega) (λh=>by omega) (λ_=>rfl)
      ·rw[if_neg hcl,if_neg hcl];refine .slice id _ _ _ _ i _ g1 (.inl ?_) (by omega) (by omega) (λh=>by omega) (λ_=>rfl);rcases g4 with h | ⟨h,h'⟩
       ·rw[h,Zp]
       ·exfalso;omega
    ·cases hv
  ·cases hv
end
section
variable {P:Program} {n:Nat} {A:Env} {H:Qa} {d:Option Nat} {ty:TypeId} {pos:String} {af:Array Edge} {g:Option (Nat×Bool)}
theorem W6 (ρ:Operand->Value) (b:Builtin) (args:Array Operand) (ts:Array TypeId):
  execOp ρ ⟨d,.call ⟨.builtin b,args,ts⟩,ty,pos,af,g⟩=builtin b ts ty (args.map λ| .const _=>true | _=>false) (args.map ρ):=by
 simp only[execOp,resolve,invoke,pure_bind];rfl
def Qxk (P:Program) (t:TypeId) (x:Value):Option Nat:=
 match P.underlying t with
 | some .string=>match x with | .string s=>some (bl s).length | _=>none
 | some (.array m _)=>some m
 | some (.slice _)=>match x with | .slice _ m _=>some m | _=>none
 | some (.pointer q)=>match P.underlying q with | some (.array m _)=>some m | _=>none
 | some (.map _ _)=>match x with | .map none=>some 0 | _=>none
 | _=>none
theorem QBn {t:TypeId} {x:Operand} {m:Nat} (h:Qxk P t (ev A x)=some m):Qp P ⟨d,.call ⟨.builtin .len,#[x],#[t]⟩,ty,pos,af,g⟩ A H (.int .i64 m) H:=
 .pure_ λρ w s hs he=>by
  have hv:=he x (by simp[Op.operands,Call.operands]);refine⟨.int .i64 m,?_,.same _ rfl⟩;rw[W6];generalize ev A x=u at hv h;have hz:(Builtin.len_ #[t] ty #[s.eval x]).run P w=.ok (.int .i64 m) w:=by
   unfold Qxk at h;split at h
   ·rename_i ht;split at h
    ·cases h;simp[Builtin.len_,run_underlying ht,hv.plain_eq rfl,goInt,QiG]
    ·cases h
   ·rename_i q e ht;cases h;simp[Builtin.len_,run_underlying ht,goInt]
   ·rename_i e ht;split at h
    ·rename_i a m' c;cases h;cases a with
     | none=>simp[Builtin.len_,run_underlying ht,hv.plain_eq rfl,goInt]
     | some a=>
      obtain⟨i,a',cap',g1,g2,g3,_⟩:=hv.slice_inv;simp[Builtin.len_,run_underlying ht,g3,goInt]
    ·cases h
   ·rename_i q ht;split at h
    ·rename_i m' e hq;cases h;simp[Builtin.len_,run_underlying ht,run_underlying hq,goInt]
    ·cases h
   ·rename_i k e ht;split at h
    ·cases h;simp[Builtin.len_,run_underlying ht,hv.plain_eq rfl,goInt]
    ·cases h
   ·cases h
  simp only[builtin,List.map_toArray,List.map_cons,List.map_nil,Sem.run_bind,hz,Result.andThen_ok,Sem.run_pure]
theorem QBo {t e:TypeId} {x:Operand} {a:Option Addr} {m c:Nat} (ht:P.underlying t=some (.slice e)) (ex:ev A x=.slice a m c) (hc:Nat.blt c UNK=true):
  Qp P ⟨d,.call ⟨.builtin .cap,#[x],#[t]⟩,ty,pos,af,g⟩ A H (.int .i64 c) H:=
 .pure_ λρ w s hs he=>by
  have hv:=he x (by simp[Op.operands,Call.operands]);rw[ex]at hv;refine⟨.int .i64 c,?_,.same _ rfl⟩;rw[W6];have hz:(Builtin.cap_ #[t] ty #[s.eval x]).run P w=.ok (.int .i64 c) w:=by
   cases a with
   | none=>simp[Builtin.cap_,run_underlying ht,hv.plain_eq rfl,goInt]
   | some a=>
    obtain⟨i,a',cap',g1,g2,g3,g4,g5,g0,g6,g7⟩:=hv.slice_inv;have:=g7 (by simpa using hc);simp[Builtin.cap_,run_underlying ht,g3,goInt,this]
  simp only[builtin,List.map_toArray,List.map_cons,List.map_nil,Sem.run_bind,hz,Result.andThen_ok,Sem.run_pure]
theorem Qzl {ts:Array TypeId} {x y:Operand} {k:IntKind} {a b:Int} (ex:ev A x=.int k a) (ey:ev A y=.int k b):
  Qp P ⟨d,.call ⟨.builtin .max,#[x,y],ts⟩,ty,pos,af,g⟩ A H (.int k (if b>a then b else a)) H:=
 .pure_ λρ w s hs he=>by
  have e1:=Zf (he x (by simp[Op.operands,Call.operands])) ex rfl;have e2:=Zf (he y (by simp[Op.operands,Call.operands])) ey rfl;refine⟨_,?_,.same _ rfl⟩;rw[W6];simp[builtin,e1,e2,Builtin.max_,Builtin.max2]
theorem Qzm {ts:Array TypeId} {x y:Operand} {k:IntKind} {a b:Int} (ex:ev A x=.int k a) (ey:ev A y=.int k b):
  Qp P ⟨d,.call ⟨.builtin .min,#[x,y],ts⟩,ty,pos,af,g⟩ A H (.int k (if b<a then b else a)) H:=
 .pure_ λρ w s hs he=>by
  have e1:=Zf (he x (by simp[Op.operands,Call.operands])) ex rfl;have e2:=Zf (he y (by simp[Op.operands,Call.operands])) ey rfl;refine⟨_,?_,.same _ rfl⟩;rw[W6];simp[builtin,e1,e2,Builtin.min_,Builtin.min2]
/-! ### append -/
def Yq (s:ByteArray):List Value:=s.data.toList.map λb=>.int .u8 b.toNat
def ZB (size:Nat) (x:Value) (H:Qa):Option (Nat×List Value):=
 match x with
 | .slice none 0 _=>some (0,[])
 | .slice (some a) m _=>
  if m=0 then some (0,[]) else
  match H.get a.block with
  | some (.cells c _ _)=>if a.off+m * size<=c.length then some (m,(c.drop a.off).take (m * size)) else none
  | _=>none
 | .string s=>if size=1 then some ((bl s).length,Yq s) else none
 | _=>none
theorem Qve {ρ:Ren} {w:World} (hs:Sim P ρ H w) {size m:Nat} {x x':Value} {c:List Value} (hx:V ρ x x') (h:ZB size x H=some (m,c)):
  (Builtin.lenOf x').run P w=.ok m w∧c.length=m * size∧∀m',m'<=m->∃c':List Value,VL ρ (c.take (m' * size)) c'∧∀w':World,(∀a:Addr,w'.cell? a=w.cell? a)->(Builtin.firstCells size m' x').run P w'=.ok c'.toArray w':=by
 unfold ZB at h;split at h
 ·cases h;rw[hx.plain_eq rfl];refine⟨rfl,by simp,λm' hm=>⟨[],by simpa using VL.nil ρ,λw' _=>rfl⟩⟩
 ·rename_i a m0 cap;obtain⟨i,a',cap',g1,g2,g3,g4,g5,g0,g6,g7⟩:=hx.slice_inv;split at h
  ·rename_i hm0;cases h;subst hm0;rw[g3];refine⟨rfl,by simp,λm' hm=>⟨[],by simpa using VL.nil ρ,λw' _=>?_⟩⟩;obtain rfl:m'=0:=by omega
   simp[Builtin.firstCells,loadCells,loadCellsFrom]
  ·rename_i hm0;split at h
   ·rename_i cc e ro hg;split at h
    ·rename_i hle;cases h;have ha:a'=i.at_.add a.off:=by rcases g4 with h | ⟨h,_⟩;exact h;omega
     rw[g3];refine⟨rfl,by simp;omega,λm' hm=>?_⟩;have hmul:m' * size<=m * size:=Nat.mul_le_mul_right _ hm;obtain⟨cs,k1,k2,k3⟩:=(hs.live _ _ i hg g1).cellsAt a.off (m' * size) (by omega);refine⟨cs,by rw[List.take_take,Nat.min_eq_left hmul];exact k2,λw' hw'=>?_⟩;have:=run_firstCells_some (P:=P) w' size m' a' m cap' cs k1 (λj v hj=>by rw[hw',ha];exact k3 j v hj);exact this
    ·cases h
   ·cases h
 ·rename_i s;split at h
  ·rename_i hsz;cases h;subst hsz;rw[hx.plain_eq rfl];refine⟨rfl,(by rw[Nat.mul_one];simp only[Yq,List.length_map,Array.length_toList];rfl),λm' hm=>⟨(Yq s).take (m' * 1),.closed ?_,λw' _=>?_⟩⟩
   ·rw[List.all_eq_true];intro v hv;have:=List.mem_of_mem_take hv;simp only[Yq,List.mem_map]at this;obtain⟨b,_,rfl⟩:=this;rfl
   ·simp only[Builtin.firstCells,Sem.run_pure];congr 1;apply Array.ext';rw[Nat.mul_one];simp only[Array.toList_map,Yq];simp[ByteArray.data_extract,List.map_take]
  ·cases h
 ·cases h
def Qfo:TypeDesc->Bool
 | .slice _=>true
 | .string=>true
 | _=>false
theorem QdO {td:TypeDesc} (h:Qfo td=true):td=.string∨∃e,td=.slice e:=by
 cases td<;>simp[Qfo]at h
 ·exact .inl rfl
 ·exact .inr ⟨_,rfl⟩
theorem Jo {t t2 e:TypeId} {inf:TypeInfo} {td:TypeDesc} {x':Value} {sLen sCap m:Nat} {base:Option Addr} {w w':World} {c':List Value} (ht:P.underlying t=some (.slice e)) (ht2:P.underlying t2=some td) (hni:Qfo td=true) (hi:P.info? e=some inf)
  (hl:(Builtin.lenOf x').run P w=.ok m w) (hf:(Builtin.firstCells inf.size m x').run P w=.ok c'.toArray w) (hroom:sLen+m<=sCap)
  (hst:∀a,base=some a->(storeCells (a.add (sLen * inf.size)) c').run P w=.ok () w') (hnone:base=none->w'=w):
  (Builtin.append_ #[t,t2] ty #[.slice base sLen sCap,x']).run P w=.ok (.slice base (sLen+m) sCap) w':=by
 cases base with
 | none=>
  obtain rfl:=hnone rfl;rcases QdO hni with rfl | ⟨e',rfl⟩<;>simp[Builtin.append_,run_underlying ht,run_underlying ht2,Q8 hi,hl,hroom,hf]
 | some a=>
  have:=hst a rfl;rcases QdO hni with rfl | ⟨e',rfl⟩<;>simp[Builtin.append_,run_underlying ht,run_underlying ht2,Q8 hi,hl,hroom,hf,this]
theorem QcQ {t t2 e:TypeId} {inf:TypeInfo} {z:Value} {td:TypeDesc} {x':Value} {sLen sCap m:Nat} {base:Option Addr} {w:World} {c' old:List Value} (ht:P.underlying t=some (.slice e)) (ht2:P.underlying t2=some td) (hni:Qfo td=true) (hi:P.info? e=some inf) (hz0:inf.zero=some z)
  (hl:(Builtin.lenOf x').run P w=.ok m w) (hf:(Builtin.firstCells inf.size m x').run P w.drew=.ok c'.toArray w.drew) (hfo:(Builtin.firstCells inf.size sLen (.slice base sLen sCap)).run P w.drew=.ok old.toArray w.drew) (hroom:¬sLen+m<=sCap)
  (h63:sLen+m<=9223372036854775807) (hby:(sLen+m) * inf.bytes<=140737488355328):
  (Builtin.append_ #[t,t2] ty #[.slice base sLen sCap,x']).run P w=.ok (.slice (some ⟨w.heap.size,0,none⟩) (sLen+m) (grownCap w (sLen+m) sCap e)) (w.drew.alloc (.cells (old.toArray++c'.toArray++Builtin.zeroCells z.cells (grownCap w (sLen+m) sCap e - (sLen+m))) e)):=by
 have h63':¬ (9223372036854775807<((sLen:Int)+(m:Int))):=by omega
 have h48':¬ (281474976710656<Builtin.nextslicecap (sLen+m) sCap * inf.bytes):=by have:=growslice_fits (need:=sLen+m) (old:=sCap) (bytes:=inf.bytes) (by omega) hby;omega
 rcases QdO hni with rfl | ⟨e',rfl⟩<;>simp[Builtin.append_,run_underlying ht,run_underlying ht2,sizeOf,typeInfo,zeroValue,hi,hz0,hl,hroom,h63',h48',Question.forced,hf,hfo,newRow,grownCap]<;>(congr 2;apply Array.ext';simp)
theorem Sim.drew {ρ:Ren} {w:World} (hs:Sim P ρ H w):St ρ H w ρ H w.drew∧Sim P ρ H w.drew:=
  ⟨⟨.refl ρ,Nat.le_refl _,λ_ _ _ h=>h,λ_ _ b b' _ h hr h'=>(by rw[h]at h';cases h';exact hr),λid i h h'=>(by rw[h']at h;cases h),rfl,rfl,rfl,Nat.le_refl _,λ_ _ _=>rfl⟩,
   ⟨hs.dom,λid b i h h'=>(hs.live id b i h h').mono (.refl ρ) rfl,hs.sep,hs.glob⟩⟩
theorem Sim.move {ρ:Ren} {w w':World} (hs:Sim P ρ H w) {id:Nat} {i i':Ze} {b b':Blk} (hi:ρ id=some i) (hg:H.get id=some b) (hro:b.ro=false) (hw:Ki w w' i.at_.block) (hi':i'.at_.block=i.at_.block)
  (hb:Wq P (ext ρ H.next i') i' w' b'):St ρ H w (ext ρ H.next i') ((H.kill id).push b') w'∧Sim P (ext ρ H.next i') ((H.kill id).push b') w':=by
 have hn:=hs.none_next;have hsub:=Qby i' hn;have hne:∀x j,ρ x=some j->x≠H.next:=λx j h e=>by rw[e,hn]at h;cases h
 have hget:∀x,((H.kill id).push b').get x=if x=H.next then some b' else if x=id then none else H.get x:=λx=>by rw[Qa.get_push,Qa.next_kill,Qa.get_kill]
 refine⟨⟨hsub,by simp,λx j h h'=>?_,λx j b1 b2 h h1 h2 h3=>?_,λx j h h'=>?_,hw.os,hw.tape,hw.output,(by rw[hw.size];exact Nat.le_refl _),λk hk hnn=>?_⟩,⟨λx j h=>?_,λx bl j h h'=>?_,λid1 id2 b1 b2 i1 i2 h1 h2 h3 h4 h5 h6=>?_,λgg hgg=>?_⟩⟩
 ·rw[hget,if_neg (hne x j h)];split
  ·rfl
  ·exact h'
 ·rw[hget,if_neg (hne x j h)]at h3;split at h3
  ·cases h3
  ·rw[h1]at h3;cases h3;exact h2
 ·by_cases e:x=H.next
  ·subst e;rw[Wg]at h;cases h;exact⟨Nat.le_refl _,.inr ⟨id,i,b,hi,hi'.symm,hg,hro⟩⟩
  ·rw[Yg ρ i' e,h']at h;cases h
 ·exact hw.other k (λe=>hnn id i b hi hg hro e.symm)
 ·by_cases e:x=H.next
  ·subst e;simp
  ·rw[Yg ρ i' e]at h;have:=hs.dom _ _ h;simp;omega
 ·by_cases e:x=H.next
  ·subst e;rw[Wg]at h';cases h';rw[hget,if_pos rfl]at h;cases h;exact hb
  ·rw[Yg ρ i' e]at h';rw[hget,if_neg e]at h;split at h
   ·cases h
   ·rename_i e2;refine(hs.live x bl j h h').mono hsub (hw.other _ ?_);exact λe'=>hs.sep id x b bl i j hg h hi h' hro (λh=>e2 h.symm) e'.symm
 ·rw[hget]at h1 h2
  by_cases e1:id1=H.next
  ·subst e1;rw[if_neg (λh=>h6 h.symm)]at h2;split at h2
   ·cases h2
   ·rename_i e2;rw[Wg]at h3;cases h3;rw[Yg ρ _ (λh=>h6 h.symm)]at h4;rw[hi'];exact hs.sep id id2 b b2 i i2 hg h2 hi h4 hro (λh=>e2 h.symm)
  ·rw[if_neg e1]at h1;rw[Yg ρ i' e1]at h3;split at h1
   ·cases h1
   ·rename_i e3
    by_cases e2:id2=H.next
    ·subst e2;rw[Wg]at h4;cases h4;rw[hi'];exact hs.sep id1 id b1 b i1 i h1 hg h3 hi h5 e3
    ·rw[if_neg e2]at h2;rw[Yg ρ i' e2]at h4;split at h2
     ·cases h2
     ·exact hs.sep id1 id2 b1 b2 i1 i2 h1 h2 h3 h4 h5 h6
 ·obtain⟨j,hj,e⟩:=hs.glob gg hgg;exact⟨j,hsub _ _ hj,e⟩
theorem QmR (z:Array Value) (m:Nat):(Builtin.zeroCells z m).toList=Xi z (m * z.size):=by
 simp[Builtin.zeroCells,Xi,Array.toList_range]
theorem Sim.grow {ρ:Ren} {w:World} (hs:Sim P ρ H w) {e:TypeId} {inf:TypeInfo} {z:Value} (hok:K4 P e inf z) {o o' c c':List Value} {need cap:Nat} (ho:VL ρ o o') (hc:VL ρ c c') (hl:o.length+c.length=need * inf.size) (hcap:need<=cap) (hc63:cap<UNK):
  let i:Ze:=⟨⟨w.heap.size,0,none⟩,cap * inf.size,P.cellsOf e⟩
  let w':=w.drew.alloc (.cells (o'.toArray++c'.toArray++Builtin.zeroCells z.cells (cap - need)) e)
  St ρ H w (ext ρ H.next i) (H.push (.cells (o++c) e false)) w'∧Sim P (ext ρ H.next i) (H.push (.cells (o++c) e false)) w'∧V (ext ρ H.next i) (.slice (some ⟨H.next,0,none⟩) need (UNK+inf.size)) (.slice (some ⟨w.heap.size,0,none⟩) need cap):=by
 intro i w';obtain⟨s1,s2⟩:=hs.drew;have hlist:(o'.toArray++c'.toArray++Builtin.zeroCells z.cells (cap - need)).toList=(o'++c')++Xi z.cells ((cap - need) * inf.size):=by
  rw[Array.toList_append,QmR,hok.cells];simp
 have hlen2:(o'++c').length=need * inf.size:=by rw[List.length_append,<- ho.1,<- hc.1];exact hl
 have hmul:need * inf.size+(cap - need) * inf.size=cap * inf.size:=by rw[<- Nat.add_mul];congr 1;omega
 have hsize:(o'.toArray++c'.toArray++Builtin.zeroCells z.cells (cap - need)).size=cap * inf.size:=by
  rw[<- Array.length_toList,hlist,List.length_append,hlen2];simp[Xi];exact hmul
 have hb:Wq P (ext ρ H.next i) i (w.drew.alloc (.cells (o'.toArray++c'.toArray++Builtin.zeroCells z.cells (cap - need)) e)) (.cells (o++c) e false):=by
  have hvl:VL (ext ρ H.next i) (o++c) (o'++c'):=(ho.append hc).mono (Qby _ hs.none_next);refine⟨_,(0,0),heap_alloc_new w.drew _,⟨rfl,rfl⟩,by simp only[i];rw[hsize];simp,?_,λj v hj=>?_,λo _ _=>by simp,λk v hk hkv=>?_,rfl⟩
  ·simp only[i];rw[List.length_append,hl];exact Nat.mul_le_mul_right _ hcap
  ·obtain⟨v',h1,h2⟩:=hvl.get hj;refine⟨v',?_,h2⟩;simp only[i,Nat.zero_add];rw[<- Array.getElem?_toList,hlist,List.getElem?_append_left (List.getElem?_eq_some_iff.1 h1).1];exact h1
  ·simp only[i,Nat.zero_add]at hk;rw[<- Array.getElem?_toList,hlist,List.getElem?_append_right (by rw[<- hvl.1];exact hk)]at hkv;exact hok.spare (Qwd _ _ (by rw[hok.cells];exact hok.pos) hkv)
 obtain⟨t1,t2⟩:=s2.push _ (.cells (o++c) e false) i rfl hb;refine⟨s1.trans t1,t2,?_⟩;refine .slice H.next 0 need _ cap i _ (Wg _ _ _) (.inl (by rw[G0])) hcap hc63 (λ_=>?_) (λh=>by omega);simp only[i,Nat.zero_add];rw[hok.cellsOf];exact⟨by omega,rfl⟩
def Qgu (e:TypeId) (inf:TypeInfo) (s x:Value) (H:Qa):Option (Value×Qa):=
 match ZB inf.size x H with
 | none=>none
 | some (m,news)=>
  if news.all (·.oneCell')=true then
   match s with
   | .slice none 0 0=>
    if m=0 then some (.slice none 0 0,H) else
    if m<=9223372036854775807∧m * inf.bytes<=140737488355328 then some (.slice (some ⟨H.next,0,none⟩) m (UNK+inf.size),H.push (.cells news e false)) else none
   | .slice (some a) len cap=>
    if m=0 then(if UNK<=cap∨len<=cap then some (.slice (some a) len cap,H) else none) else
    match H.get a.block with
    | some (.cells c e' ro)=>
     if a.off+len * inf.size<=c.length∧len+m<=9223372036854775807∧(len+m) * inf.bytes<=140737488355328 then
      if UNK<=cap then
       if ro=false∧e'=e∧a.off=0∧a.off+len * inf.size=c.length then some (.slice (some ⟨H.next,0,none⟩) (len+m) (UNK+inf.size),(H.kill a.block).push (.cells (c.drop a.off++news) e false))
       else if ro=false∧cap=UNK+inf.size∧a.off+(len+m) * inf.size<=c.length then some (.slice (some a) (len+m) cap,H.set a.block (.cells (splice c (a.off+len * inf.size) news) e' false)) else none
      else if len+m<=cap then
       (if ro=false∧a.off+(len+m) * inf.size<=c.length then some (.slice (some a) (len+m) cap,H.set a.block (.cells (splice c (a.off+len * inf.size) news) e' false)) else none)
      else some (.slice (some ⟨H.next,0,none⟩) (len+m) (UNK+inf.size),H.push (.cells ((c.drop a.off).take (len * inf.size)++news) e false))
     else none
    | _=>none
   | _=>none
  else none
theorem Wq.storeEnd {ρ:Ren} {i:Ze} {w:World} {c:List Value} {e:TypeId} (hb:Wq P ρ i w (.cells c e false)) {off:Nat} {vs vs':List Value} (hvs:VL ρ vs vs') (hoff:off<=c.length) (h00:off=0) (hl:c.length+vs.length<=i.n)
  (h1:∀v∈vs,v.oneCell'=true):∃w',(storeCells (i.at_.add c.length) vs').run P w=.ok () w'∧Ki w w' i.at_.block∧Wq P ρ ⟨i.at_.add off,i.n - off,i.s⟩ w' (.cells (c.drop off++vs) e false):=by
 obtain⟨cur,fz,hh,hsp,hsz,hcl,hcell,hfz,hspare,hes⟩:=hb;have hlen:=hvs.1;have h1':∀v∈vs',v.oneCell'=true:=λv' hv'=>by
  obtain⟨j,hj⟩:=List.getElem?_of_mem hv';have hjl:j<vs.length:=by rw[hlen];exact(List.getElem?_eq_some_iff.1 hj).1
  have:=hvs.2 j _ v' (List.getElem?_eq_getElem hjl) hj;rw[this.oneCell];exact h1 _ (List.getElem_mem hjl)
 rw[QiB hsp.1,QiB hsp.1];obtain⟨w',cur',hr,hg',hone,hsz',hk⟩:=QaE P i.at_.block (i.at_.off+c.length) e fz vs' 0 cur w hh (by omega) (λk hk1 hk2=>hfz k (by omega) (by omega)) h1';simp only[Nat.add_zero]at hk;refine⟨w',hr,hone,cur',fz,hg',⟨rfl,by have:=hsp.2;simp only;omega⟩,?_,?_,λj v hj=>?_,λo ho1 ho2=>hfz o (by simp only at ho1;omega) (by rw[hsz']at ho2;exact ho2),λo v ho hov=>?_,hes⟩
 ·simp only;omega
 ·simp;omega
 ·simp only;rw[hk]
  by_cases hin:j<c.length - off
  ·rw[List.getElem?_append_left (by simpa using hin),List.getElem?_drop]at hj;rw[if_neg (by omega),Nat.add_assoc];exact hcell _ v hj
  ·rw[List.getElem?_append_right (by simpa using hin)]at hj;simp only[List.length_drop]at hj;have hj2:j - (c.length - off)<vs.length:=(List.getElem?_eq_some_iff.1 hj).1;rw[if_pos ⟨by omega,by omega⟩];rw[show i.at_.off+off+j - (i.at_.off+c.length)=j - (c.length - off) by omega];exact hvs.get hj
 ·simp only[List.length_append,List.length_drop]at ho;rw[hk,if_neg (by omega)]at hov;exact hspare o v (by omega) hov
theorem YU.kill_push (H:Qa) (id:Nat) (b:Blk):YU ((H.kill id).push b) (H.push b):=by
 refine⟨by simp,λk bl hk=>?_⟩;have h1:=Qa.get_push (H.kill id) k b;have h2:=Qa.get_push H k b
 by_cases e:k=H.next
 ·rw[if_pos (by exact e)]at h1 h2;rw[h1]at hk;rw[h2];exact hk
 ·rw[if_neg (by exact e)]at h1 h2;rw[h1,Qa.get_kill]at hk;rw[h2]
  by_cases e2:k=id
  ·rw[if_pos e2]at hk;cases hk
  ·rw[if_neg e2]at hk;exact hk
theorem Qwe {t t2 e:TypeId} {x y:Operand} {inf:TypeInfo} {z:Value} {td:TypeDesc} {v:Value} {H':Qa} (ht:P.underlying t=some (.slice e)) (ht2:P.underlying t2=some td) (hni:Qfo td=true) (hok:K4 P e inf z)
  (h:Qgu e inf (ev A x) (ev A y) H=some (v,H')):Qp P ⟨d,.call ⟨.builtin .append,#[x,y],#[t,t2]⟩,ty,pos,af,g⟩ A H v H':=
 .of_run λρ w s hs he=>by
  rw[W6];have hvx:=he x (by simp[Op.operands,Call.operands]);have hvy:=he y (by simp[Op.operands,Call.operands])
  suffices hmain:∃v' ρ' w',(Builtin.append_ #[t,t2] ty #[s.eval x,s.eval y]).run P w=.ok v' w'∧V ρ' v v'∧St ρ H w ρ' H' w'∧Sim P ρ' H' w' by
   obtain⟨v',ρ',w',h1,h2,h3,h4⟩:=hmain;refine⟨v',ρ',w',?_,h2,h3,h4⟩;simp only[builtin,List.map_toArray,List.map_cons,List.map_nil,Sem.run_bind,h1,Result.andThen_ok,Sem.run_pure]
  generalize ev A x=u at hvx h;generalize ev A y=u2 at hvy h;generalize s.eval x=x' at hvx;generalize s.eval y=y' at hvy;unfold Qgu at h;split at h
  ·cases h
  ·rename_i m news hsrc;obtain⟨hlen,hcl,hcs⟩:=Qve hs hvy hsrc;obtain⟨c',hvl,hfc⟩:=hcs m (Nat.le_refl _);rw[List.take_of_length_le (by omega)]at hvl;have hfw:=hfc w (λ_=>rfl);have hfd:=hfc w.drew (λ_=>rfl);split at h
   ·rename_i hone;have hone':∀v∈news,v.oneCell'=true:=λv hv=>List.all_eq_true.1 hone v hv;split at h
    ·-- nil
     have e1:=hvx.plain_eq rfl;subst e1;split at h
     ·rename_i hm0;cases h;subst hm0;exact⟨.slice none 0 0,ρ,w,Jo ht ht2 hni hok.info hlen hfw (by omega) (λa h=>by cases h) (λ_=>rfl),.same _ rfl,.refl _ _ _,hs⟩
     ·rename_i hm0;split at h
      ·rename_i hbd;cases h;have hroom:¬0+m<=0:=by omega
       have hr:=QcQ (ty:=ty) (old:=[]) (base:=none) (sCap:=0) ht ht2 hni hok.info hok.zero hlen hfd rfl hroom (by omega) (by rw[Nat.zero_add];exact hbd.2);obtain⟨g1,g2,g3⟩:=hs.grow hok (o:=[]) (o':=[]) (.nil ρ) hvl (need:=m) (cap:=grownCap w (0+m) 0 e) (by simpa using hcl) (by have:=grownCap_ge w (0+m) 0 e;omega) (by
        have:=grownCap_le_maxLen w (0+m) 0 e (by simp only[maxLen];omega);simp only[maxLen,UNK]at *;omega)
       rw[Nat.zero_add]at hr g1 g2 g3;exact⟨_,_,_,hr,g3,g1,g2⟩
      ·cases h
    ·rename_i a len cap;obtain⟨i,a',cap',g1,g2,g3,g4,g5,g0,g6,g7⟩:=hvx.slice_inv;obtain⟨id,off,sp⟩:=a;simp only at g1 g2 g4 g6 g7 h;subst g2;subst g3;split at h
     ·rename_i hm0;split at h
      ·rename_i hcc;cases h;subst hm0;have hnil:c'=[]:=by
        have:news=[]:=List.length_eq_zero_iff.1 (by simpa using hcl);rw[this]at hvl;exact hvl.unnil
       subst hnil;exact⟨_,ρ,w,Jo ht ht2 hni hok.info hlen hfw (by omega) (λa _=>rfl) (λh=>by cases h),hvx,.refl _ _ _,hs⟩
      ·cases h
     ·rename_i hm0;split at h
      ·rename_i c e' ro hg;split at h
       ·rename_i hb;obtain⟨hb1,hb2,hb3⟩:=hb;have hlive:=hs.live id _ i hg g1;obtain⟨o',k1,k2,k3⟩:=hlive.cellsAt off (len * inf.size) hb1;have hold:(Builtin.firstCells inf.size len (.slice (some a') len cap')).run P w.drew=.ok o'.toArray w.drew:=by
         by_cases hl0:len=0
         ·subst hl0;have:o'=[]:=List.length_eq_zero_iff.1 (by simpa using k1);subst this;simp[Builtin.firstCells,loadCells,loadCellsFrom]
         ·have ha:a'=i.at_.add off:=by rcases g4 with h | ⟨h,_⟩;exact h;omega
          exact run_firstCells_some (P:=P) w.drew inf.size len a' len cap' o' k1 (λj v hj=>by rw[ha];exact k3 j v hj)
        have hgrow:¬len+m<=cap'->∃v' ρ' w',(Builtin.append_ #[t,t2] ty #[.slice (some a') len cap',y']).run P w=.ok v' w'∧V ρ' (.slice (some ⟨H.next,0,none⟩) (len+m) (UNK+inf.size)) v'∧
          St ρ H w ρ' (H.push (.cells ((c.drop off).take (len * inf.size)++news) e false)) w'∧Sim P ρ' (H.push (.cells ((c.drop off).take (len * inf.size)++news) e false)) w':=λhroom=>by
         have hr:=QcQ (ty:=ty) (old:=o') ht ht2 hni hok.info hok.zero hlen hfd hold hroom hb2 hb3;obtain⟨g1,g2,g3⟩:=hs.grow hok k2 hvl (need:=len+m) (cap:=grownCap w (len+m) cap' e) (by rw[k2.1,k1,hcl,Nat.add_mul]) (grownCap_ge w (len+m) cap' e) (by
          have:=grownCap_le_maxLen w (len+m) cap' e (by simp only[maxLen];omega);simp only[maxLen,UNK]at *;omega)
         exact⟨_,_,_,hr,g3,g1,g2⟩
        split at h
        ·rename_i hu;split at h
         ·rename_i hcnd;obtain⟨hro,he',hz0,hend⟩:=hcnd;cases h;subst hro;subst he'
          by_cases hroom:len+m<=cap'
          ·obtain⟨hes0,g6'⟩:=g6 hu;have hes:i.s=inf.size:=by
            obtain⟨cur,fz,_,_,_,_,_,_,_,he⟩:=hlive;rw[he,hok.cellsOf]
           have ha:a'=i.at_.add off:=by rcases g4 with h | ⟨h,h'⟩;exact h;omega
           have hfit:c.length+news.length<=i.n:=by
            rw[hes]at g6';have:(len+m) * inf.size<=cap' * inf.size:=Nat.mul_le_mul_right _ hroom;rw[Nat.add_mul]at this;omega
           obtain⟨w',hr,hone1,hbr⟩:=hlive.storeEnd (off:=off) hvl (by omega) hz0 hfit hone';obtain⟨q1,q2⟩:=hs.move (i':=⟨i.at_.add off,i.n - off,i.s⟩) g1 hg rfl hone1 (by simp[block_add]) (hbr.mono (Qby _ hs.none_next) rfl);refine⟨.slice (some a') (len+m) cap',_,w',Jo ht ht2 hni hok.info hlen hfw hroom (λb hb=>?_) (λh=>by cases h),?_,q1,q2⟩
           ·cases hb;rw[ha,Zp,hend];exact hr
           ·refine .slice H.next 0 (len+m) _ cap' _ a' (Wg _ _ _) (.inl ?_) hroom g0 (λ_=>?_) (λh=>by omega)
            ·simp only[Zp,Nat.add_zero];exact ha
            ·simp only[Nat.zero_add];exact⟨by omega,by omega⟩
          ·obtain⟨v',ρ',w',r1,r2,r3,r4⟩:=hgrow hroom;have hdrop:(c.drop off).take (len * inf.size)=c.drop off:=List.take_of_length_le (by simp;omega);rw[hdrop]at r3 r4;have hless:=YU.kill_push H id (.cells (c.drop off++news) e' false);exact⟨v',ρ',w',r1,r2,r3.less hless,r4.less hless⟩
         ·split at h
          ·rename_i hcnd;obtain⟨hro,hcu,hfit⟩:=hcnd;cases h;subst hro;obtain⟨hes0,g6'⟩:=g6 hu;have hes:i.s=inf.size:=by omega
           have hl2:=hlive;obtain⟨cur,fz,hcur,_,hcsz,hcle,_⟩:=hl2;have hroom:len+m<=cap':=by
            rcases Nat.lt_or_ge cap' (len+m) with hlt | hge
            ·exfalso;have h1:(cap'+1) * inf.size<=(len+m) * inf.size:=Nat.mul_le_mul_right _ hlt;have h2:(cap'+1) * inf.size=cap' * inf.size+inf.size:=Nat.succ_mul _ _;have h3:0<inf.size:=by have:=hok.pos;have:=hok.cells;omega
             rw[hes]at g6';omega
            ·exact hge
           have ha:a'=i.at_.add off:=by rcases g4 with h | ⟨h,h'⟩;exact h;omega
           obtain⟨w',hr,hone1,hbr⟩:=hlive.storeList (off:=off+len * inf.size) hvl (by rw[hcl];rw[Nat.add_mul]at hfit;omega) hone';obtain⟨q1,q2⟩:=hs.setBlk g1 hg rfl hone1 hbr;refine⟨.slice (some a') (len+m) cap',ρ,w',Jo ht ht2 hni hok.info hlen hfw hroom (λb hb=>?_) (λh=>by cases h),?_,q1,q2⟩
           ·cases hb;rw[ha,Zp];exact hr
           ·exact .slice id off (len+m) cap cap' i a' g1 (.inl ha) hroom g0 (λ_=>⟨hes0,g6'⟩) (λh=>by omega)
          ·cases h
        ·rename_i hu;have g7':=g7 (by omega);subst g7';split at h
         ·rename_i hroom;split at h
          ·rename_i hcnd;cases h;obtain⟨hro,hfit⟩:=hcnd;subst hro;have ha:a'=i.at_.add off:=by rcases g4 with h | ⟨h,h'⟩;exact h;omega
           obtain⟨w',hr,hone1,hbr⟩:=hlive.storeList (off:=off+len * inf.size) hvl (by rw[hcl];rw[Nat.add_mul]at hfit;omega) hone';obtain⟨q1,q2⟩:=hs.setBlk g1 hg rfl hone1 hbr;refine⟨.slice (some a') (len+m) cap',ρ,w',Jo ht ht2 hni hok.info hlen hfw hroom (λb hb=>?_) (λh=>by cases h),?_,q1,q2⟩
           ·cases hb;rw[ha,Zp];exact hr
           ·exact .slice id off (len+m) cap' cap' i a' g1 (.inl ha) hroom g0 (λh=>by omega) (λ_=>rfl)
          ·cases h
         ·rename_i hroom;cases h;exact hgrow hroom
       ·cases h
      ·cases h
    ·cases h
   ·cases h
end
inductive Out where
 | ret (v:Value)
 | pan (v:Value)
def QmS (ρ:Ren):Out->Ending->Prop
 | .ret v,.returned v'=>V ρ v v'
 | .pan v,.panicked ch=>∃v',V ρ v v'∧ch=[{v:=v',recovered:=false}]
 | _,_=>False
def Kj (P:Program) (f:FuncId) (args:List Value) (H:Qa) (o:Out) (H':Qa):Prop:=
 ∀ρ w args',Sim P ρ H w->VL ρ args args'->Calls P f args'.toArray w λe w'=>∃ρ',QmS ρ' o e∧St ρ H w ρ' H' w'∧Sim P ρ' H' w'
theorem Kj.less {P:Program} {f:FuncId} {args:List Value} {H:Qa} {o:Out} {H1 H2:Qa} (h:Kj P f args H o H1) (l:YU H2 H1):Kj P f args H o H2:=
 λρ w args' hs ha=>(h ρ w args' hs ha).mono λe w' ⟨ρ',h1,h2,h3⟩=>⟨ρ',h1,h2.less l,h3.less l⟩
def Zq (args:List Value):Env:=λt=>args.getD t undef
section
variable {P:Program} {n:Nat} {Q:Ex->Env->Qa->Prop} {A:Env} {H:Qa} {d:Option Nat} {ty:TypeId} {pos:String} {af:Array Edge} {g:Option (Nat×Bool)}
def Vi (P:Program) (n:Nat) (A:Env) (H:Qa):ResultVar->Option Value
 | .tmp t=>if t<n then some (A t) else none
 | .cell a t=>if a<n then(match A a with | .pointer (some ad)=>XS P t ad H | _=>none) else none
def QcR (P:Program) (n:Nat) (rs:Array ResultVar) (A:Env) (H:Qa):Option Value:=
 match rs.toList with
 | [r]=>Vi P n A H r
 | l=>(l.mapM (Vi P n A H)).map λvs=>.tuple vs.toArray
def Qlg (tmps:Array Value):ResultVar->Sem Value
 | .tmp t=>pure (tmps.getD t undef)
 | .cell a t=>do loadVar t (<- asAddr (tmps.getD a undef))
theorem QrK {ρ:Ren} {w:World} {a:Act} (hs:Sim P ρ H w) (he:EnvRel ρ n A a) {r:ResultVar} {v:Value} (h:Vi P n A H r=some v):∃v',(Qlg a.tmps r).run P w=.ok v' w∧V ρ v v':=by
 cases r with
 | tmp t=>
  simp only[Vi]at h;split at h
  ·rename_i ht;cases h;exact⟨_,rfl,he.tmps t ht⟩
  ·cases h
 | cell p t=>
  simp only[Vi]at h;split at h
  ·rename_i ht;split at h
   ·rename_i ad ead;have hv:=he.tmps p ht;rw[ead]at hv;obtain⟨i,g1,g2,g3⟩:=hv.ptr_inv;obtain⟨id,off,sp⟩:=ad;simp only at g1 g2 g3;subst g2;obtain⟨c,e,ro,hg⟩:=Qfn h;obtain⟨v',h1,h2⟩:=Qkf g1 hg (hs.live id _ i hg g1) h;refine⟨v',?_,h2⟩;simp only[Qlg,g3,asAddr,Sem.run_bind,Sem.run_pure,Result.andThen_ok,h1]
   ·cases h
  ·cases h
theorem QrL {ρ:Ren} {w:World} {a:Act} (hs:Sim P ρ H w) (he:EnvRel ρ n A a):∀ (rs:List ResultVar) (vs:List Value),rs.mapM (Vi P n A H)=some vs->∃vs',(rs.mapM (Qlg a.tmps)).run P w=.ok vs' w∧VL ρ vs vs'
 | [],vs,h=>by simp at h;subst h;exact⟨[],rfl,.nil ρ⟩
 | r::rs,vs,h=>by
  simp only[List.mapM_cons,Option.bind_eq_bind,Option.bind_eq_some_iff,Option.pure_def,Option.some.injEq]at h;obtain⟨v,hv,vs0,hvs,rfl⟩:=h;obtain⟨v',h1,h2⟩:=QrK hs he hv;obtain⟨vs',h3,h4⟩:=QrL hs he rs vs0 hvs;refine⟨v'::vs',?_,.cons h2 h4⟩;simp only[List.mapM_cons,Sem.run_bind,h1,Result.andThen_ok,h3,Sem.run_pure]
theorem Qts (fn:Func) (tmps:Array Value) (w:World):(results fn tmps).run P w=((fn.results.toList.mapM (Qlg tmps)).run P w).andThen λvs w'=>.ok (if h:vs.length=1 then vs[0] else .tuple vs.toArray) w':=by
 unfold results;rw[Array.mapM_eq_mapM_toList];simp only[Sem.run_bind,Sem.run_map];have key:∀F:ResultVar->Sem Value,(∀r,F r=Qlg tmps r)->((Sem.run P (List.mapM F fn.results.toList) w).andThen (λa w'=>Result.ok a.toArray w')).andThen (λa w'=>Sem.run P (pure (if h:a.size=1 then a[0] else Value.tuple a)) w') =
   (Sem.run P (List.mapM (Qlg tmps) fn.results.toList) w).andThen λvs w'=>Result.ok (if h:vs.length=1 then vs[0] else Value.tuple vs.toArray) w':=by
  intro F hF;obtain rfl:F=Qlg tmps:=funext hF;cases(fn.results.toList.mapM (Qlg tmps)).run P w with
  | ok vs w'=>
   simp only[Result.andThen_ok,Sem.run_pure];congr 1
  | halt x w'=>rfl
 exact key _ (λr=>by cases r<;>rfl)
theorem Qfp {ρ:Ren} {w:World} {a:Act} (hs:Sim P ρ H w) (he:EnvRel ρ n A a) {fn:Func} {v:Value} (h:QcR P n fn.results A H=some v):∃v',(results fn a.tmps).run P w=.ok v' w∧V ρ v v':=by
 rw[Qts];unfold QcR at h;split at h
 ·rename_i r hr;rw[hr];obtain⟨v',h1,h2⟩:=QrK hs he h;refine⟨v',?_,h2⟩;simp only[List.mapM_cons,List.mapM_nil,Sem.run_bind,h1,Result.andThen_ok,Sem.run_pure];rfl
 ·rename_i hne;simp only[Option.map_eq_some_iff]at h;obtain⟨vs,hvs,rfl⟩:=h;obtain⟨vs',h1,h2⟩:=QrL hs he _ vs hvs;have hl:vs'.length≠1:=by
   rw[<- h2.1];have hlen:vs.length=fn.results.toList.length:=mapM_length hvs;rw[hlen];intro hc;obtain⟨r,hr⟩:=List.length_eq_one_iff.1 hc;exact hne r hr
  refine⟨.tuple vs'.toArray,?_,.tuple _ _ (by simpa using h2.1) (λj x x' a b=>h2.2 j x x' (by simpa using a) (by simpa using b))⟩;rw[h1];simp only[Result.andThen_ok,hl,dite_false]
 where
 mapM_length {α β:Type} {f:α->Option β} {l:List α} {r:List β} (h:l.mapM f=some r):r.length=l.length:=by
  induction l generalizing r with
  | nil=>simp at h;subst h;rfl
  | cons x l ih=>
   simp only[List.mapM_cons,Option.bind_eq_bind,Option.bind_eq_some_iff,Option.pure_def,Option.some.injEq]at h;obtain⟨b,_,r',hr',rfl⟩:=h;simp[ih hr']
theorem QdP {ρ:Ren} {args args':List Value} (m:Nat) (h:VL ρ args args'):EnvRel ρ (args.length+(m - args.length)) (Zq args) {tmps:=args'.toArray++Array.replicate (m - args'.toArray.size) undef,defers:=[]}:=by
 have hl:=h.1;refine⟨by simp[hl],λt ht=>?_⟩;simp only[Zq];rw[Array.getD_eq_getD_getElem?]
 by_cases hlt:t<args.length
 ·obtain⟨x',h1,h2⟩:=h.get (List.getElem?_eq_getElem hlt);rw[Array.getElem?_append_left (by simpa[<- hl] using hlt)];have h1':args'.toArray[t]? = some x':=by simpa using h1
  rw[h1'];simp only[List.getD,List.getElem?_eq_getElem hlt,Option.getD_some];exact h2
 ·have e1:args.getD t undef=undef:=by simp[List.getD,List.getElem?_eq_none (by omega:args.length<=t)]
  rw[e1,Array.getElem?_append_right (by simp;omega),Array.getElem?_replicate];split
  ·exact .closed (by simp[undef,Xs])
  ·exact .closed (by simp[undef,Xs])
def QBp (P:Program) (n:Nat) (rs:Array ResultVar) (o:Out) (H':Qa):Ex->Env->Qa->Prop
 | .normal,A,H1=>∃v,o=.ret v∧QcR P n rs A H1=some v∧YU H' H1
 | .ret,A,H1=>∃v,o=.ret v∧QcR P n rs A H1=some v∧YU H' H1
 | .panic v,A,H1=>o=.pan v∧YU H' H1
 | _,_,_=>False
/-! ### Blocks that nothing known may write, written by the machine -/
theorem Sim.putHid {ρ:Ren} {w:World} {b:Nat} {o o':Obj} (hs:Sim P ρ H w) (hh:Hid ρ H w b o):Sim P ρ H (w.putObj b o'):=
 ⟨hs.dom,λid bl i hb hi=>(hs.live id bl i hb hi).mono (.refl ρ) (World.putObj_heap_other (hh.un id i bl hi hb)),hs.sep,hs.glob⟩
theorem St.putHid {ρ0 ρ:Ren} {H0:Qa} {w0 w:World} {b:Nat} {o':Obj} (hst:St ρ0 H0 w0 ρ H w) (hb:w0.heap.size<=b):St ρ0 H0 w0 ρ H (w.putObj b o'):=
 {hst with
  size:=by simpa using hst.size
  frame:=λk hk hn=>by rw[World.putObj_heap_other (by omega)];exact hst.frame k hk hn}
theorem Hid.put {ρ:Ren} {w:World} {b d:Nat} {o o':Obj} (h:Hid ρ H w d o) (hne:d≠b):Hid ρ H (w.putObj b o') d o:=
 ⟨by rw[World.putObj_heap_other hne];exact h.at_,h.un⟩
theorem Hid.same {ρ:Ren} {w:World} {b:Nat} {o o':Obj} (h:Hid ρ H w b o):Hid ρ H (w.putObj b o') b o':=⟨World.putObj_heap_same h.lt,h.un⟩
theorem Qah {fn:Func} {tmps:Array Value} {R:Ending->World->Prop} {u:FrameMode} {z:Rd} {ρ0 ρ:Ren} {H0:Qa} {w0:World} (hu:u≠.run):∀ (ds:List Nat) (w:World),ds.Nodup->(∀d∈ds,w0.heap.size<=d∧Hid ρ H w d (.deferred (some [])))->
  St ρ0 H0 w0 ρ H w->Sim P ρ H w->(∀w,St ρ0 H0 w0 ρ H w->Sim P ρ H w->LeavesIn (fen z) 0 P fn tmps R [] u w)->LeavesInM (fen z) 0 P fn tmps R (ds.map QdL) u w
 | [],w,_,_,hst,hs,h=>h w hst hs
 | d::ds,w,hn,hd,hst,hs,h=>by
  obtain⟨h1,h2⟩:=hd d (by simp);refine⟨hu,.inl ⟨d,_,rfl,run_takeDeferred h2.at_,?_⟩⟩;rw[List.nodup_cons]at hn;exact Qah hu ds _ hn.2 (λx hx=>⟨(hd x (by simp[hx])).1,(hd x (by simp[hx])).2.put (λe=>hn.1 (e▸hx))⟩) (hst.putHid h1) (hs.putHid h2) h
theorem QhL {f:FuncId} {fn:Func} {c:Code} {args:List Value} {o:Out} {H':Qa} (hf:P.funcs[f]? = some fn) (hb:fn.body=some c)
  (h:AWp P (args.length+(fn.ntmps - args.length)) c (QBp P (args.length+(fn.ntmps - args.length)) fn.results o H') (Zq args) H):Kj P f args H o H':=by
 intro ρ w args' hs ha;refine callsIn_wide.1 (callsIn_of_wp_marks (F:=fen ⟨none,w.heap.size,[]⟩) (n:=0) hf hb trivial (wpIn_mono (h ⟨none,w.heap.size,[]⟩ ρ w _ hs ⟨QdP fn.ntmps ha,⟨⟨[],rfl,.nil,λd hd=>by simp at hd⟩,λl hl=>by simp at hl,Nat.le_refl _⟩⟩) ?_));rintro e a1 w1 ⟨e',ρ1,A1,H1,hq,hst,hs1,he1,hr⟩;obtain⟨ds,hds,hnd,hdh⟩:=he1.fr.marks;have hds:a1.defers=ds.map QdL:=hds.trans (List.append_nil _);cases e'<;>cases e<;>simp only[QcO]at hr<;>simp only[QBp]at hq
 case panic.panic v ch=>
  obtain⟨rfl,hl⟩:=hq;show LeavesInM _ _ _ _ _ _ a1.defers _ _;rw[hds];exact Qah (by simp) ds w1 hnd hdh hst hs1 (λw2 hst2 hs2=>⟨ρ1,hr,hst2.less hl,hs2.less hl⟩)
 all_goals
  obtain⟨v,rfl,hv,hl⟩:=hq;show LeavesInM _ _ _ _ _ _ a1.defers _ _;rw[hds];refine Qah (by simp) ds w1 hnd hdh hst hs1 (λw2 hst2 hs2=>?_);obtain⟨v',h1,h2⟩:=Qfp hs2 he1.toEnvRel (fn:=fn) hv;exact⟨v',h1,ρ1,h2,hst2.less hl,hs2.less hl⟩
/-! ### Calls -/
def entered (P:Program) (f:FuncId):Bool:=
 match P.funcs[f]? with
 | some fn=>!(fn.name == "runtime.NumGoroutine")&&fn.body.isSome
 | none=>false
theorem YV {f:FuncId} (h:entered P f=true) (args:Array Value) (w:World):(callFunc f args).run P w=.ok (.enter f args) w:=by
 unfold entered at h;split at h
 ·rename_i fn hf;simp only[Bool.and_eq_true,Bool.not_eq_true']at h;obtain⟨h1,h2⟩:=h;have h3:fn.body.isNone=false:=by cases hb:fn.body<;>simp_all
  simp only[callFunc,Sem.run_bind,run_program,Result.andThen_ok,hf,h1,Bool.false_eq_true,if_false,h3,Sem.run_pure]
 ·cases h
theorem QaF (P:Program) (z:Rd) (m:Machine):m.fenced P (fen z):=fenced_wide P m
theorem ZF {z:Rd} {m m':Machine}:StepsIn (Machine.fenced P (fen z)) P m m'↔Steps P m m':=by
 have:Machine.fenced P (fen z)=Machine.fenced P Fence.wide:=funext λm=>propext ⟨λ_=>fenced_wide P m,λ_=>QaF P z m⟩;rw[this];exact stepsIn_wide
theorem Qfq {z:Rd} {n:Nat} {f:FuncId} {args:Array Value} {w:World} {R:Ending->World->Prop} (h:Calls P f args w R):CallsIn (fen z) n P f args w R:=by
 refine⟨trivial,λcs _=>?_⟩;obtain⟨e,w',fr,r,s,x⟩:=h cs;refine⟨e,w',fr,r,?_,x⟩;cases e with
 | returned v=>exact ZF.2 s
 | panicked ch=>exact ZF.2 s
 | outgrown=>exact s
theorem QmT {o:Oper} {f:FuncId} {args:List Value} {v:Value} {H':Qa}
  (hr:∀ρ w a,Sim P ρ H w->Qg4 ρ o A a->∃args',VL ρ args args'∧(execOp a.eval o).run P w=.ok (.enter f args'.toArray) w) (hd:Kj P f args H (.ret v) H'):Qp P o A H v H':=by
 intro ρ w a hs he K Q hk z;obtain⟨args',ha,hrun⟩:=hr ρ w a hs he;refine⟨λ_ _=>trivial,?_⟩;rw[QcP hrun (by simp) _];refine⟨λh=>by simp[fen,Fence.wide]at h,?_⟩;refine Qfq ((hd ρ w args' hs ha).mono ?_);rintro e w' ⟨ρ',ho,hst,hs'⟩;cases e with
 | returned v'=>exact hk v' ρ' w' ho hst hs'
 | panicked ch=>exact ho.elim
 | outgrown=>exact ho.elim
def Qvf (P:Program) (f:FuncId) (args:List Value) (H:Qa) (v:Value) (H':Qa):Prop:=
 ∀ρ w args',Sim P ρ H w->VL ρ args args'->∃v' ρ' w',(callFunc f args'.toArray).run P w=.ok (.value v') w'∧V ρ' v v'∧St ρ H w ρ' H' w'∧Sim P ρ' H' w'
def Jp (P:Program) (f:FuncId) (args:List Value) (H:Qa) (v:Value) (H':Qa):Prop:=
 (entered P f=true∧Kj P f args H (.ret v) H')∨Qvf P f args H v H'
theorem Qkj {o:Oper} {f:FuncId} {args:List Value} {v:Value} {H':Qa}
  (hr:∀ρ w a,Sim P ρ H w->Qg4 ρ o A a->∃args',VL ρ args args'∧(execOp a.eval o).run P w=(callFunc f args'.toArray).run P w) (hd:Jp P f args H v H'):Qp P o A H v H':=by
 rcases hd with⟨he,hd⟩ | hx
 ·refine QmT (λρ w a hs ho=>?_) hd;obtain⟨args',h1,h2⟩:=hr ρ w a hs ho;exact⟨args',h1,by rw[h2,YV he]⟩
 ·refine .of_run λρ w a hs ho=>?_;obtain⟨args',h1,h2⟩:=hr ρ w a hs ho;rw[h2];exact hx ρ w args' hs h1
theorem Qmo {f:FuncId} {args:Array Operand} {ts:Array TypeId} {v:Value} {H':Qa} (hd:Jp P f (args.map (ev A)).toList H v H'):
  Qp P ⟨d,.call ⟨.value (.func f),args,ts⟩,ty,pos,af,g⟩ A H v H':=
 Qkj (λρ w a hs he=>⟨(args.map a.eval).toList,Qle (λx hx=>he x (by simp[Op.operands,Call.operands,hx])),by
  simp only[execOp,resolve,Deferred.ofValue,Act.eval,invoke,pure_bind,Array.empty_append,Array.append_empty,Array.toArray_toList]⟩) hd
theorem V.func_inv {ρ:Ren} {f:FuncId} {xs ys:Array Value} {z:Value} (h:V ρ (.func (.func f) xs ys) z):∃xs' ys',z=.func (.func f) xs' ys'∧VL ρ xs.toList xs'.toList∧VL ρ ys.toList ys'.toList:=by
 cases h with
 | same _ hp=>simp[plain]at hp
 | func fn xs ys xs' ys' hn h1 h2 h3 h4=>
  exact⟨xs',ys',rfl,⟨by simpa using h1,λj x x' a b=>h3 j x x' (by simpa using a) (by simpa using b)⟩,⟨by simpa using h2,λj x x' a b=>h4 j x x' (by simpa using a) (by simpa using b)⟩⟩
theorem QrM {f:FuncId} {c:Operand} {args:Array Operand} {ts:Array TypeId} {xs ys:Array Value} {v:Value} {H':Qa} (ec:ev A c=.func (.func f) xs ys)
  (hd:Jp P f (xs.toList++(args.map (ev A)).toList++ys.toList) H v H'):Qp P ⟨d,.call ⟨.value c,args,ts⟩,ty,pos,af,g⟩ A H v H':=
 Qkj (λρ w a hs he=>by
  have hv:=he c (by simp[Op.operands,Call.operands]);rw[ec]at hv;obtain⟨xs',ys',e,h1,h2⟩:=hv.func_inv;refine⟨xs'.toList++(args.map a.eval).toList++ys'.toList,(h1.append (Qle (λx hx=>he x (by simp[Op.operands,Call.operands,hx])))).append h2,?_⟩;simp only[execOp,resolve,e,Deferred.ofValue,invoke,pure_bind];congr 2;apply Array.ext';simp) hd
/-! ### Panics -/
def Qpk (P:Program) (o:Oper) (A:Env) (H:Qa) (v:Value) (H':Qa):Prop:=
 ∀ρ w a,Sim P ρ H w->Qg4 ρ o A a->∀ (K:Act->World->Prop) (Q:Exit->Act->World->Prop),
  (∀v' ρ' w',V ρ' v v'->St ρ H w ρ' H' w'->Sim P ρ' H' w'->Q (.panic [{v:=v',recovered:=false}]) a w')->∀z,o.wpIn (fen z) 0 P a w K Q
theorem Qfr {o:Oper} {f:FuncId} {args:List Value} {v:Value} {H':Qa}
  (hr:∀ρ w a,Sim P ρ H w->Qg4 ρ o A a->∃args',VL ρ args args'∧(execOp a.eval o).run P w=.ok (.enter f args'.toArray) w) (hd:Kj P f args H (.pan v) H'):Qpk P o A H v H':=by
 intro ρ w a hs he K Q hk z;obtain⟨args',ha,hrun⟩:=hr ρ w a hs he;refine⟨λ_ _=>trivial,?_⟩;rw[QcP hrun (by simp) _];refine⟨λh=>by simp[fen,Fence.wide]at h,?_⟩;refine Qfq ((hd ρ w args' hs ha).mono ?_);rintro e w' ⟨ρ',ho,hst,hs'⟩;cases e with
 | returned v'=>exact ho.elim
 | panicked ch=>obtain⟨v',hv,rfl⟩:=ho;exact hk v' ρ' w' hv hst hs'
 | outgrown=>exact ho.elim
theorem Qzn {f:FuncId} {args:Array Operand} {ts:Array TypeId} {v:Value} {H':Qa} (hen:entered P f=true) (hd:Kj P f (args.map (ev A)).toList H (.pan v) H'):
  Qpk P ⟨d,.call ⟨.value (.func f),args,ts⟩,ty,pos,af,g⟩ A H v H':=
 Qfr (λρ w a hs he=>⟨(args.map a.eval).toList,Qle (λx hx=>he x (by simp[Op.operands,Call.operands,hx])),by
  rw[<- YV hen];simp only[execOp,resolve,Deferred.ofValue,Act.eval,invoke,pure_bind,Array.empty_append,Array.append_empty,Array.toArray_toList]⟩) hd
theorem Qxl {f:FuncId} {c:Operand} {args:Array Operand} {ts:Array TypeId} {xs ys:Array Value} {v:Value} {H':Qa} (ec:ev A c=.func (.func f) xs ys) (hen:entered P f=true)
  (hd:Kj P f (xs.toList++(args.map (ev A)).toList++ys.toList) H (.pan v) H'):Qpk P ⟨d,.call ⟨.value c,args,ts⟩,ty,pos,af,g⟩ A H v H':=
 Qfr (λρ w a hs he=>by
  have hv:=he c (by simp[Op.operands,Call.operands]);rw[ec]at hv;obtain⟨xs',ys',e,h1,h2⟩:=hv.func_inv;refine⟨xs'.toList++(args.map a.eval).toList++ys'.toList,(h1.append (Qle (λx hx=>he x (by simp[Op.operands,Call.operands,hx])))).append h2,?_⟩;rw[<- YV hen];simp only[execOp,resolve,e,Deferred.ofValue,invoke,pure_bind];congr 2;apply Array.ext';simp) hd
theorem Qxm {x:Operand} {t:TypeId} {v:Value} (ex:ev A x=.iface t v):Qpk P ⟨d,.panic x,ty,pos,af,g⟩ A H (.iface t v) H:=by
 intro ρ w a hs he K Q hk z;have hv:=he x (by simp[Op.operands]);rw[ex]at hv;have hi:∀u,V ρ (.iface t v) u->∃v',u=.iface t v':=λu hu=>by
  cases hu with
  | same _ hp=>simp[plain]at hp
  | iface t v v' h=>exact⟨v',rfl⟩
 obtain⟨v',ea⟩:=hi _ hv;rw[ea]at hv;refine⟨λ_ _=>trivial,?_⟩;rw[Oper.semAt_eq _ _ _ (λc hc=>by cases hc)];have hr:(execOp a.eval ⟨d,.panic x,ty,pos,af,g⟩).run P w=.halt (.panic (.iface t v')) w:=by
  simp only[execOp,Instr.panic,ea,goPanic];rfl
 rw[hr];exact hk _ ρ w hv (.refl _ _ _) hs
theorem Qtt {ops:Array Oper} {o:Oper} {rest:List Oper} {v:Value} {H':Qa} (hg:o.guard=none) (ho:Qpk P o A H v H') (hd:QdM P n o=true)
  (h:Q (.panic v) A H'):Qct P n ops (o::rest) Q A H:=by
 intro z ρ w a hs he;refine wpListIn_plain hg λK hK=>?_;exact ho ρ w a hs (he.op hs hd) K _ (λv' ρ' w' hv hst hs'=>⟨.panic v,ρ',A,H',h,hst,hs',he.step hst,v',hv,rfl⟩) z
theorem Jp.does {f:FuncId} {args:List Value} {v:Value} {H':Qa} (he:entered P f=true) (h:Jp P f args H v H'):Kj P f args H (.ret v) H':=by
 rcases h with⟨_,hd⟩ | hx
 ·exact hd
 ·intro ρ w args' hs ha;obtain⟨v',ρ',w',h1,_⟩:=hx ρ w args' hs ha;rw[YV he]at h1;cases h1
/-! ### What the model runs itself -/
inductive Xk where
 | count | indexByte | noEscape | add64
def Xk.entry:Xk->Array Value->Sem Value
 | .count=>Extern.BytealgCount.count
 | .indexByte=>Extern.BytealgIndexByte.indexByte
 | .noEscape=>Extern.AbiNoEscape.same
 | .add64=>λargs=>do
  let (x,y,c) <- Extern.MathBitsCarry.three "Add64" args
  pure (Extern.MathBitsCarry.pair ((x+y+c) % Extern.MathBitsCarry.m64) ((x+y+c) / Extern.MathBitsCarry.m64))
def Xk.val:Xk->List Value->Option Value
 | .count,[.string s,.int .u8 c]=>some (.int .i64 (Lib.countByte (bl s) c.toNat.toUInt8))
 | .indexByte,[.string s,.int .u8 c]=>some (.int .i64 (Lib.indexByte (bl s) c.toNat.toUInt8))
 | .noEscape,[x]=>some x
 | .add64,[.int .u64 x,.int .u64 y,.int .u64 c]=>if c.toNat<=1 then some (.tuple #[.int .u64 (((x.toNat+y.toNat+c.toNat) % 18446744073709551616:Nat):Int),.int .u64 (((x.toNat+y.toNat+c.toNat) / 18446744073709551616:Nat):Int)]) else none
 | _,_=>none
def IsExt (P:Program) (f:FuncId) (k:Xk):Prop:=
 ∃fn,P.funcs[f]? = some fn∧(fn.name == "runtime.NumGoroutine")=false∧fn.body.isNone=true∧(Extern.findNext fn).isNone=true∧Extern.find fn=some k.entry
set_option maxHeartbeats 800000 in
theorem Qxn {f:FuncId} {k:Xk} {args:List Value} {v:Value} (hx:IsExt P f k) (hv:k.val args=some v):Qvf P f args H v H:=by
 obtain⟨fn,h1,h2,h3,h4,h5⟩:=hx;have h4:Extern.findNext fn=none:=by simpa using h4
 intro ρ w args' hs ha;rw[run_callFunc_extern h1 h2 h3 h4 h5];unfold Xk.val at hv;split at hv
 ·rename_i s c;cases hv;obtain⟨x,l,rfl,hx,hl⟩:=ha.uncons;obtain⟨y,l,rfl,hy,hl⟩:=hl.uncons;obtain rfl:=hl.unnil;rw[hx.plain_eq rfl,hy.plain_eq rfl];refine⟨_,ρ,w,?_,.same _ rfl,.refl _ _ _,hs⟩;rw[show Xk.count.entry=Extern.BytealgCount.count from rfl,Lib.run_countString];rfl
 ·rename_i s c;cases hv;obtain⟨x,l,rfl,hx,hl⟩:=ha.uncons;obtain⟨y,l,rfl,hy,hl⟩:=hl.uncons;obtain rfl:=hl.unnil;rw[hx.plain_eq rfl,hy.plain_eq rfl];refine⟨_,ρ,w,?_,.same _ rfl,.refl _ _ _,hs⟩;rw[show Xk.indexByte.entry=Extern.BytealgIndexByte.indexByte from rfl,Lib.run_indexByteString];rfl
 ·rename_i x;cases hv;obtain⟨y,l,rfl,hy,hl⟩:=ha.uncons;obtain rfl:=hl.unnil;exact⟨y,ρ,w,rfl,hy,.refl _ _ _,hs⟩
 ·rename_i x y c;split at hv
  ·rename_i hc;cases hv;obtain⟨x1,l,rfl,hx1,hl⟩:=ha.uncons;obtain⟨x2,l,rfl,hx2,hl⟩:=hl.uncons;obtain⟨x3,l,rfl,hx3,hl⟩:=hl.uncons;obtain rfl:=hl.unnil;rw[hx1.plain_eq rfl,hx2.plain_eq rfl,hx3.plain_eq rfl];refine⟨_,ρ,w,?_,.closed (by simp[Xs,plain]),.refl _ _ _,hs⟩;have hn:¬c.toNat>1:=by omega
   have hdef:Extern.MathBitsCarry.three "Add64" #[.int .u64 x,.int .u64 y,.int .u64 c]=(do
     let c:=(<- asInt (.int .u64 c)).toNat
     if c>1 then unsupported (.noEntry ("extern/math/bits." ++ "Add64" ++ ": a carry that is neither 0 nor 1"))
     pure ((<- asInt (.int .u64 x)).toNat,(<- asInt (.int .u64 y)).toNat,c)):=rfl
   have h3:(Extern.MathBitsCarry.three "Add64" #[.int .u64 x,.int .u64 y,.int .u64 c]).run P w=.ok (x.toNat,y.toNat,c.toNat) w:=by
    rw[hdef];have hi:∀ (k:IntKind) (m:Int),(asInt (.int k m)).run P w=.ok m w:=λ_ _=>rfl;simp only[Sem.run_bind,hi,Result.andThen_ok,if_neg hn,Sem.run_pure]
   simp only[Xk.entry,Sem.run_bind,h3,Result.andThen_ok,Sem.run_pure];rfl
  ·cases hv
 ·cases hv
end
section
variable {P:Program} {n:Nat} {A:Env} {H:Qa} {d:Option Nat} {ty:TypeId} {pos:String} {af:Array Edge} {g:Option (Nat×Bool)}
theorem Qkn (w:World) (e:TypeId) (s:ByteArray):Lib.bytesWorld w e s=w.drew.alloc (.cells (Lib.bytesCells w e s) e ((Lib.bytesCells w e s).size,(Lib.bytesCells w e s).size+1)):=by
 simp only[Lib.bytesWorld,World.freeze,World.alloc,World.drew];simp only[Nat.succ_ne_zero,if_false];congr 1;apply Array.ext
 ·simp
 ·intro i h1 h2;simp only[Array.size_modify,Array.size_push]at h1
  by_cases hi:i=w.heap.size
  ·subst hi;rw[Array.getElem_modify_self];simp
  ·rw[Array.getElem_modify_of_ne (by omega)];rw[Array.getElem_push_lt (by omega),Array.getElem_push_lt (by omega)]
theorem Qty {src dst e:TypeId} {x:Operand} {s:ByteArray} {u:TypeDesc} {inf:TypeInfo} {z:Value} (h1:P.underlying src=some u) (h2:P.underlying dst=some (.slice e)) (h3:P.underlying e=some (.int .u8))
  (hok:K4 P e inf z) (hsz:inf.size=1) (ex:ev A x=.string s) (hl:(bl s).length<=140737488355328):
  Qp P ⟨d,.convert src dst x,ty,pos,af,g⟩ A H (.slice (some ⟨H.next,0,none⟩) (bl s).length (UNK+1)) (H.push (.cells (Yq s) e false)):=
 .of_run λρ w a hs he=>by
  have e1:=Zf (he x (by simp[Op.operands])) ex rfl;have hr:=Lib.run_convert_string_bytes (P:=P) w src dst e s h1 h2 h3;have hsize:s.size=(bl s).length:=rfl;have hge:=grownCap_ge w s.size 0 e;have hle:=grownCap_le_maxLen w s.size 0 e (by simp only[maxLen];omega);have hbl:(Yq s).length=(bl s).length:=by simp[Yq,bl]
  have hcs:(Lib.bytesCells w e s).size=grownCap w s.size 0 e:=by
   simp only[Lib.bytesCells,Array.size_append,Array.size_map,Array.size_replicate];have:s.data.size=s.size:=rfl;omega
  have hlist:(Lib.bytesCells w e s).toList=Yq s++List.replicate (grownCap w s.size 0 e - s.size) (.int .u8 0):=by
   simp[Lib.bytesCells,Yq]
  rw[Qkn]at hr;obtain⟨s1,s2⟩:=hs.drew
  let i:Ze:=⟨⟨w.heap.size,0,none⟩,grownCap w s.size 0 e,P.cellsOf e⟩
  have hb:Wq P (ext ρ H.next i) i (w.drew.alloc (.cells (Lib.bytesCells w e s) e ((Lib.bytesCells w e s).size,(Lib.bytesCells w e s).size+1))) (.cells (Yq s) e false):=by
   refine⟨_,_,heap_alloc_new w.drew _,⟨rfl,rfl⟩,by simp only[i];rw[hcs];simp,by simp only[i];omega,λj v hj=>⟨v,?_,.same v ?_⟩,λo _ ho hh=>by omega,λk v hk hkv=>?_,rfl⟩
   ·simp only[i,Nat.zero_add];rw[<- Array.getElem?_toList,hlist,List.getElem?_append_left (List.getElem?_eq_some_iff.1 hj).1];exact hj
   ·have:=List.mem_of_getElem? hj;simp only[Yq,List.mem_map]at this;obtain⟨b,_,rfl⟩:=this;rfl
   ·simp only[i,Nat.zero_add]at hk;rw[<- Array.getElem?_toList,hlist,List.getElem?_append_right hk,List.getElem?_replicate]at hkv;split at hkv
    ·cases hkv;exact λ_=>⟨0,rfl,by omega,by omega⟩
    ·cases hkv
  obtain⟨t1,t2⟩:=s2.push _ (.cells (Yq s) e false) i rfl hb;refine⟨.slice (some ⟨w.heap.size,0,none⟩) s.size (grownCap w s.size 0 e),_,_,?_,?_,s1.trans t1,t2⟩
  ·simp only[execOp,e1,Sem.run_bind,hr,Result.andThen_ok,Sem.run_pure]
  ·refine .slice H.next 0 _ _ _ i _ (Wg _ _ _) (.inl (by rw[G0])) hge (by simp only[maxLen,UNK]at *;omega) (λ_=>?_) (λh=>by simp only[UNK]at h;omega);simp only[i,Nat.zero_add];rw[hok.cellsOf,hsz];exact⟨by simp only[UNK],by omega⟩
end
end Go.Ab
