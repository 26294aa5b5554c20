/- Code made of resolved operations, and what it does, as a proposition. -/
import Derived.Test.YtgepgbbjfhggfaaGreatDoorAbC
import Derived.Test.YtgepgbbjfhggfaaGreatDoorAbB
set_option linter.unusedVariables false
set_option linter.unusedSimpArgs false
noncomputable section
namespace Go.Ab
structure PO where
 d:Option Nat
 r:R
 g:Option (Nat×Bool)
 s:Bool
inductive PC where
 | skip
 | ops (l:List PO)
 | seq (a b:PC)
 | cond (c:Operand) (a b:PC)
 | block (id:Nat) (b:PC)
 | loop (b:PC)
 | exit (id:Nat)
 | ret
 | label (l:Nat)
 | goto (l:Nat)
 | scope (b:PC) (l:Nat) (r:PC)
 | rangeF (g:Operand) (ps:List Nat) (a b:PC)
 | bad
/-! ### Resolving code -/
def QmH (o:Oper):Bool:=match o.op with | .load .. => true | _=>false
def QrG (o:Oper):Bool:=match o.op with | .alloc .. | .box .. | .makeSlice .. | .buildSlice .. | .convert .. | .makeMap .. | .range .. => true | _=>false
def Qak (o:Oper):Bool:=match o.op with | .call ⟨.value _,_,_⟩=>true | _=>false
def QiV (ops:Array Oper) (i:Nat):Bool:=match ops[i]? with | some o=>QmH o | none=>false
def QcB (ops:Array Oper) (i:Nat):Bool:=match ops[i]? with | some o=>QrG o | none=>false
def K9 (ops:Array Oper) (i:Nat):Bool:=match ops[i]? with | some o=>Qak o | none=>false
def Wo (ops:Array Oper) (ms:List Nat) (k:Nat):Bool:=
 (WG ops k&&(List.range ops.size).any fun i=>(QiV ops i&&!(Qt ms i k)&&!(Qt ms k i))||(QcB ops i&&Nat.blt i k&&!(Qt ms i k))) ||
 (QiV ops k&&(List.range ops.size).any fun i=>WG ops i&&!(Qt ms i k)&&!(Qt ms k i))
def QrH (o:Oper):Bool:=match o.op with | .store .. => true | _=>false
def QrI (ops:Array Oper) (i:Nat):Bool:=match ops[i]? with | some o=>QrH o | none=>false
def Qd7 (ms:List Nat) (i k:Nat):Bool:=!(Qt ms i k)&&!(Qt ms k i)
def QjS (ops:Array Oper) (i:Nat):Option Nat:=match ops[i]? with | some o=>(match o.op with | .load _ (.tmp t)=>some t | _=>none) | none=>none
def Qln (ops:Array Oper) (ms:List Nat) (k:Nat):List Operand:=(List.range k).filterMap fun i=>bif QiV ops i&&Qd7 ms i k then(QjS ops i).map .tmp else none
def QyO:List String:=["(*linotype/print.text).next"]
def isG (P:Program) (o:Oper):Bool:=match o.op with
 | .call ⟨.value (.func f),_,_⟩=>(match P.funcs[f]? with | some fn=>QyO.any fun n=>fn.name==n | none=>false)
 | _=>false
def gAt (P:Program) (ops:Array Oper) (i:Nat):Bool:=match ops[i]? with | some o=>isG P o | none=>false
def QyP (P:Program) (ops:Array Oper) (ms:List Nat) (i k:Nat):Bool:=
 Nat.blt i k&&(QjS ops i).isSome&&(List.range k).all fun j=>Nat.blt j i||((match ops[j]? with | some o=>!(o.dst==QjS ops i) | none=>true)&&(!(WG ops j)||(K9 ops j&&Wo ops ms j&&!(gAt P ops j))||(QrI ops j&&Wo ops ms j&&Qd7 ms i j)))
def Qhp (o:Oper):Bool:=match o.op with | .call ⟨.value (.func _),_,_⟩=>true | _=>false
def Qyv (ops:Array Oper) (i:Nat):Bool:=match ops[i]? with | some o=>Qhp o | none=>false
def Qlo (o:Oper):Option Nat:=match o.op with
 | .fieldAddr _ (.tmp b) _=>some b
 | .indexAddr _ (.tmp b) _=>some b
 | .move (.tmp b)=>some b
 | .assign (.tmp b)=>some b
 | _=>none
def QpY (o:Oper) (cur:Nat):Option Nat:=bif o.dst==some cur then Qlo o else some cur
def Jj (ops:Array Oper) (k:Nat):Nat→Nat→Option Nat
 | 0,cur=>some cur
 | d+1,cur=>match ops[k+d]? with
  | some o=>(match QpY o cur with | some c=>Jj ops k d c | none=>none)
  | none=>none
def QiW (ops:Array Oper) (k i:Nat):Option Nat:=match QjS ops i with
 | none=>none
 | some t=>Jj ops k (i - k) t
def Qa7 (ops:Array Oper) (ms:List Nat) (k:Nat):List Operand:=(List.range ops.size).filterMap fun i=>bif Nat.blt k i&&(QiV ops i&&Qd7 ms i k) then(QiW ops k i).map .tmp else none
def quiet (P:Program) (ops:Array Oper) (ms:List Nat) (i k:Nat):Bool:=
 (Nat.blt i k&&(List.range k).all fun j=>Nat.ble j i||(!(WG ops j)||(Wo ops ms j&&K9 ops j&&!(gAt P ops j)))) ||
 (Nat.blt k i&&Qyv ops k&&(QiW ops k i).isSome&&(List.range i).all fun j=>Nat.blt j k||(!(WG ops j)||(Wo ops ms j&&K9 ops j&&(!(gAt P ops j)||Qd7 ms i j))))
def Qtf (P:Program) (ops:Array Oper) (ms:List Nat):Bool:=
 (List.range ops.size).all fun k=>!(WG ops k)||!(Wo ops ms k)||(K9 ops k&&((List.range ops.size).all fun i=>!(QiV ops i)||Qt ms i k||Qt ms k i||quiet P ops ms i k)&&(!(gAt P ops k)||(List.range ops.size).all fun i=>(!(QiV ops i)||Qt ms i k||Qt ms k i||Nat.blt k i)&&(!(QcB ops i)||!(Nat.blt i k)||Qt ms i k))) ||
  (QrI ops k&&(List.range ops.size).all fun i=>(!(QiV ops i)||Qt ms i k||Qt ms k i||QyP P ops ms i k)&&(!(QcB ops i)||!(Nat.blt i k)||Qt ms i k))
def QbC (P:Program) (ops:Array Oper) (i:Nat) (o:Oper):R:=
 match o.op with
 | .store t x y=>match P.info? t with | some inf=>.stf inf.size x y (Qln ops (QA ops.toList []) i) | none=>Wa P o.op
 | .call ⟨.value (.func f),args,_⟩=>bif isG P o then .callG f args.toList (Qa7 ops (QA ops.toList []) i) else .callF f args.toList (Qa7 ops (QA ops.toList []) i)
 | _=>Wa P o.op
def Qhq (P:Program) (ops:Array Oper) (f:Bool) (i:Nat) (o:Oper):R:=bif f then QbC P ops i o else Wa P o.op
def QrJ (n:Nat) (ops:Array Oper) (o:Oper):Option (Option (Nat×Bool)):=
 match o.guard with
 | none=>some none
 | some (j,want)=>match Vi ops j with
  | some t=>if t<n then some (some (t,want)) else none
  | none=>none
def KJ (P:Program) (n:Nat) (ops:Array Oper) (fl:Nat→Bool):List Oper→Nat→Option (List PO)
 | [],_=>some []
 | o::l,i=>if Qcr P n o then
   match QrJ n ops o,KJ P n ops fl l (i+1) with
   | some g,some pl=>some (⟨o.dst,Qhq P ops (fl i) i o,g,fl i⟩::pl)
   | _,_=>none
  else none
def Qd8 (P:Program) (op:Op):Bool:=match op with
 | .convert src _ _=>(match P.underlying src with | some (.slice _) | some (.pointer _) | some .unsafePointer=>true | _=>false)
 | .range t _=>(match P.underlying t with | some (.map _ _)=>true | _=>false)
 | _=>false
def J0:Nat:=1000000
def sq:PC→PC→PC
 | .skip,y=>y
 | x,.skip=>x
 | x,y=>.seq x y
def Z1:PC→Nat→Option PC
 | .seq a b,l=>match Z1 a l with
  | some r=>some (sq r b)
  | none=>Z1 b l
 | .label l',l=>bif Nat.beq l' l then some .skip else none
 | _,_=>none
def Jk:PC→List Nat
 | .seq a b=>Jk a++Jk b
 | .label l=>[l]
 | _=>[]
def Qoj (b:PC):PC:=
 match Jk b with
 | []=>b
 | [l]=>match Z1 b l with
  | some r=>.scope b l r
  | none=>.bad
 | _=>.bad
def comp (P:Program) (n:Nat):Code→Option PC
 | .skip=>some .skip
 | .label l=>some (.label l)
 | .ret=>some .ret
 | .exit id=>some (bif Nat.blt id J0 then .exit id else .bad)
 | .goto l=>some (.goto l)
 | .region _ ops false=>some (match KJ P n ops (fun _=>false) ops.toList 0 with | some l=>.ops l | none=>.bad)
 | .region _ ops true=>some (if P.follows .mixedOrders&&Qa6 ops (WG ops)&&Qtf P ops (QA ops.toList [])&&ops.all (fun o=>!(Qd8 P o.op)) then(match KJ P n ops (Wo ops (QA ops.toList [])) ops.toList 0 with | some l=>.ops l | none=>.bad) else .bad)
 | .seq a b=>match comp P n a,comp P n b with
  | some x,some y=>some (sq x y)
  | _,_=>none
 | .cond c a b=>if Qac P n c then(match comp P n a,comp P n b with | some x,some y=>some (.cond c x y) | _,_=>none) else none
 | .block id b=>(comp P n b).map fun x=>bif Nat.blt id J0 then .block id x else .bad
 | .loop b=>(comp P n b).map .loop
 | .scope b=>(comp P n b).map Qoj
 | .rangeFunc g ps a b=>if Qac P n g then(match comp P n a,comp P n b with | some x,some y=>some (.rangeF g ps.toList x y) | _,_=>none) else none
 | _=>some .bad
/-! ### What it does -/
structure Kp where
 ret:Env→Qa→Prop
 ext:Nat→Env→Qa→Prop
def onS (o:Option (Value×Qa)) (k:Value→Qa→Prop):Prop:=∃v H',o=some (v,H')∧k v H'
def Qa.Wf (H:Qa):Prop:=∀id,H.next≤id→H.get id=none
theorem Qa.Wf.lt {H:Qa} (h:H.Wf) {id:Nat} {b:Blk} (hg:H.get id=some b):id<H.next:=by
 rcases Nat.lt_or_ge id H.next with h1 | h1
 ·exact h1
 ·rw[h id h1]at hg;cases hg
theorem Qa.Wf.push {H:Qa} (h:H.Wf) (b:Blk):(H.push b).Wf:=fun id hid=>by
 simp only[Qa.next_push]at hid
 rw[Qa.get_push,if_neg (by omega)];exact h id (by omega)
theorem Qa.Wf.set {H:Qa} (h:H.Wf) {i:Nat} {b0:Blk} (hg:H.get i=some b0) (b:Blk):(H.set i b).Wf:=fun id hid=>by
 have:=h.lt hg
 simp only[Qa.next_set]at hid
 rw[Qa.get_set,if_neg (by omega)];exact h id hid
theorem Qa.Wf.kill {H:Qa} (h:H.Wf) (i:Nat):(H.kill i).Wf:=fun id hid=>by
 simp only[Qa.next_kill]at hid
 rw[Qa.get_kill]
 split
 ·rfl
 ·exact h id hid
def Qe (P:Program) (f:FuncId) (args:List Value) (H:Qa) (k:Value→Qa→Prop):Prop:=H.Wf→∃v H',Zo P f args H v H'∧H.next≤H'.next∧H'.Wf∧k v H'
def YQ (P:Program) (l:Nat) (args:List Value) (H:Qa) (k:Value→Qa→Prop):Prop:=H.Wf→∃v H',QnC P l args H v H'∧H.next≤H'.next∧H'.Wf∧k v H'
def Qgj:Value→Value→Prop
 | .pointer (some a),.pointer (some b)=>b.block≠a.block
 | _,_=>True
def QmI (n:Nat):Value→Prop
 | .pointer (some a)=>a.block<n
 | .slice (some a) _ _=>a.block<n
 | _=>False
def QAb (H H':Qa):Value→Prop
 | .pointer (some a)=>H'.get a.block=H.get a.block
 | .slice (some a) _ _=>H'.get a.block=H.get a.block
 | _=>True
def EqB (H H':Qa):Prop:=∀id,id<H.next→H'.get id=H.get id
def pr (P:Program) (r:R) (s:Bool) (A:Env) (H:Qa) (k:Value→Qa→Prop):Prop:=
 match r with
 | .call f args=>Qe P f (args.map (ev A)) H fun v H'=>(s=true→∀id,H'.get id=H.get id)∧k v H'
 | .callv c args=>match ev A c with
  | .func (.func f) xs ys=>Qe P f (xs.toList++args.map (ev A)++ys.toList) H fun v H'=>(s=true→∀id,H'.get id=H.get id)∧k v H'
  | .func (.yield l) ⟨[]⟩ ⟨[]⟩=>YQ P l (args.map (ev A)) H fun v H'=>(s=true→∀id,H'.get id=H.get id)∧k v H'
  | _=>False
 | .callF f args os=>(∀z∈os,QmI H.next (ev A z))∧Qe P f (args.map (ev A)) H fun v H'=>EqB H H'∧k v H'
 | .callG f args os=>(∀z∈os,QmI H.next (ev A z))∧Qe P f (args.map (ev A)) H fun v H'=>(∀z∈os,QAb H H' (ev A z))∧k v H'
 | .stf size x y os=>onS (rop P (.stf size x y os) A H) fun v H'=>(∀z∈os,Qgj (ev A x) (ev A z))∧k v H'
 | r=>onS (rop P r A H) fun v H'=>(s=true→Qj H.next 6 v=true)∧k v H'
def pg (g:Option (Nat×Bool)) (A:Env) (yes no:Prop):Prop:=
 match g with
 | none=>yes
 | some (t,w)=>match A t with
  | .bool b=>if b=w then yes else no
  | .tuple _=>no
  | _=>False
def Ga (P:Program):List PO→(Env→Qa→Prop)→Env→Qa→Prop
 | [],k,A,H=>k A H
 | o::l,k,A,H=>pg o.g A (pr P o.r o.s A H fun v H'=>Ga P l k (YJ A o.d v) H') (Ga P l k (YJ A o.d undef) H)
def jmK (l:Nat) (I:Nat→Env→Qa→Prop) (m:Nat) (e:Nat→Env→Qa→Prop) (j:Nat) (A:Env) (H:Qa):Prop:=if j=J0+l then ∃m',m'<m∧I m' A H else e j A H
def Qvp (st:Option Code) (ks:Kp) (k:Env→Qa→Prop) (A:Env) (H:Qa):Prop:=match st with
 | none=>k A H
 | some .ret=>ks.ret A H
 | some (.exit j)=>Nat.blt j J0=true∧ks.ext j A H
 | _=>False
def QAc (L:Option Code→Blk) (l:Nat) (nx:Nat) (Q:Value→Qa→Prop):Kp:=⟨fun _ H2=>nx≤H2.next∧Q (.bool false) (H2.set l (L (some .ret))),fun j _ H2=>Nat.blt j J0=true∧nx≤H2.next∧Q (.bool false) (H2.set l (L (some (.exit j))))⟩
def QyQ (L:Option Code→Blk) (l:Nat) (nx:Nat) (Q:Value→Qa→Prop):Env→Qa→Prop:=fun _ H2=>nx≤H2.next∧Q (.bool true) (H2.set l (L none))
def Qtg:Kp:=⟨fun _ _=>False,fun _ _ _=>False⟩
def Qp (P:Program):PC→Kp→(Env→Qa→Prop)→Env→Qa→Prop
 | .skip,_,k,A,H=>k A H
 | .ops l,_,k,A,H=>Ga P l k A H
 | .seq a b,ks,k,A,H=>Qp P a ks (Qp P b ks k) A H
 | .cond c a b,ks,k,A,H=>match ev A c with
  | .bool t=>(t=true→Qp P a ks k A H)∧(t=false→Qp P b ks k A H)
  | _=>False
 | .block id b,ks,k,A,H=>Qp P b ⟨ks.ret,fun j=>if j=id then k else ks.ext j⟩ k A H
 | .loop b,ks,k,A,H=>∃I:Nat→Env→Qa→Prop,(∃m,I m A H)∧∀m A' H',I m A' H'→Qp P b ks (fun A'' H''=>∃m',m'<m∧I m' A'' H'') A' H'
 | .exit id,ks,_,A,H=>ks.ext id A H
 | .ret,ks,_,A,H=>ks.ret A H
 | .label _,_,k,A,H=>k A H
 | .goto l,ks,_,A,H=>ks.ext (J0+l) A H
 | .scope b l r,ks,k,A,H=>∃I:Nat→Env→Qa→Prop,(∃m,Qp P b ⟨ks.ret,jmK l I m ks.ext⟩ k A H)∧∀m A' H',I m A' H'→Qp P r ⟨ks.ret,jmK l I m ks.ext⟩ k A' H'
 | .rangeF g ps a b,ks,k,A,H=>match ev A g with
  | .func (.func f) xs ys=>∀L:Option Code→Blk,
    (∀ (l:Nat) (args:List Value) (H0:Qa) (Q:Value→Qa→Prop),H0.get l=some (L none)→args.length=ps.length→Qp P a Qtg (fun A1 H1=>Qp P b (QAc L l H0.next Q) (QyQ L l H0.next Q) A1 H1) (QjI A ps args) (H0.kill l)→YQ P l args H0 Q)→
    entered P f=true∧Qe P f (xs.toList++[.func (.yield H.next) #[] #[]]++ys.toList) (H.push (L none)) fun _ H2=>∃st,H2.get H.next=some (L st)∧Qvp st ks k A (H2.kill H.next)
  | _=>False
 | .bad,_,_,_,_=>False
/-! ### Soundness -/
section
variable {P:Program} {n:Nat}
theorem Quh:KI P ZP:=⟨fun f args H v H' h=>(by cases h),fun f args H v H' h=>(by cases h),fun f args H v H' h=>(by cases h)⟩
theorem Qui {H H':Qa} {r:Option Value} {c:Cls} {v:Value} (h:Xu H r=some (c,v,H')):c=.pure∧H'=H:=by
 obtain⟨_,h1,h2⟩:=Xb h;exact⟨h1,h2⟩
theorem WI {α:Type} {b:Bool} {x:Option α} {y:α} (h:(bif b then x else none)=some y):x=some y:=by cases b<;>simp_all
theorem Qhr {e:TypeId} {inf:TypeInfo} {s x:Value} {H H':Qa} {v:Value} (h:QeY e inf s x H=some (v,H')):H.next≤H'.next∧(H.Wf→H'.Wf):=by
  unfold QeY at h
  repeat' (split at h)
  all_goals first
    | (cases h;done)
    | (simp only[Option.some.injEq,Prod.mk.injEq]at h;obtain⟨_,rfl⟩:=h;refine⟨by simp,fun hw=>?_⟩
       first
         | exact hw
         | exact hw.push _
         | exact(hw.kill _).push _
         | exact hw.set (by assumption) _)
theorem Qe1 {k:TypeId} {m ix v:Value} {H H':Qa} (h:QpV P k m ix v H=some H'):H.next≤H'.next∧(H.Wf→H'.Wf):=by
 unfold QpV at h
 split at h
 ·split at h
  ·rename_i hg
   have h:=WI h
   split at h
   ·cases h;exact⟨by simp,fun hw=>hw.set hg _⟩
   ·cases h;exact⟨by simp,fun hw=>hw.set hg _⟩
   ·cases h
  ·cases h
 ·cases h
structure Syn (P:Program) (o:Oper) (H H':Qa) (c:Cls):Prop where
 gen:Xa c=true→QyN o=true∨Qd8 P o.op=true
 load:c=.load→QmH o=true
 alloc:∀b,c=.alloc b→QrG o=true
 next:H.next≤H'.next
 wf:H.Wf→H'.Wf
theorem Qw4 {o:Oper} {A:Env} {H H':Qa} {c:Cls} {v:Value} (h:aop P ZP o A H=some (c,v,H')):Syn P o H H' c:=by
  obtain⟨dst,op,ty,pos,af,g⟩:=o
  have hs:∀ {u:Value},some (Cls.pure,u,H)=some (c,v,H')→Syn P ⟨dst,op,ty,pos,af,g⟩ H H' c:=fun h=>by
    simp only[Option.some.injEq,Prod.mk.injEq]at h
    obtain⟨rfl,_,rfl⟩:=h
    exact⟨fun h=>(by cases h),fun h=>(by cases h),fun b h=>(by cases h),Nat.le_refl _,id⟩
  have hp:∀ {r:Option Value},Xu H r=some (c,v,H')→Syn P ⟨dst,op,ty,pos,af,g⟩ H H' c:=fun {r} h=>by
    obtain⟨rfl,rfl⟩:=Qui h
    exact⟨fun h=>(by cases h),fun h=>(by cases h),fun b h=>(by cases h),Nat.le_refl _,id⟩
  have ha:∀ {b:Blk} {u:Value},QrG ⟨dst,op,ty,pos,af,g⟩=true→some (Cls.alloc b,u,H.push b)=some (c,v,H')→Syn P ⟨dst,op,ty,pos,af,g⟩ H H' c:=fun hl h=>by
    simp only[Option.some.injEq,Prod.mk.injEq]at h
    obtain⟨rfl,_,rfl⟩:=h
    exact⟨fun h=>(by cases h),fun h=>(by cases h),fun b _=>hl,by simp,fun hw=>hw.push _⟩
  unfold aop at h
  split at h
  case h_1 hop=>exact hs h
  case h_2 hop=>exact hs h
  case h_3 hop=>
    unfold Qog at h
    split at h
    · exact hs h
    · cases h
  case h_4 hop=>exact hs (WI h)
  case h_5 hop=>exact hp h
  case h_6 hop=>exact hp h
  case h_7 hop=>
    unfold Qby at h
    simp only at hop
    split at h
    · split at h
      · split at h
        · exact ha (by subst hop;rfl) (WI h)
        · cases h
      · cases h
    · rename_i hu hd ex
      split at h
      · split at h
        · simp only[Option.some.injEq,Prod.mk.injEq]at h;obtain⟨rfl,_,rfl⟩:=h
          exact⟨fun _=>.inr (by subst hop;simp only[Qd8,hu]),fun h=>(by cases h),fun b h=>(by cases h),Nat.le_refl _,id⟩
        · cases h
      · cases h
    · rename_i hu hd ex
      split at h
      · split at h
        · simp only[Option.some.injEq,Prod.mk.injEq]at h;obtain⟨rfl,_,rfl⟩:=h
          exact⟨fun _=>.inr (by subst hop;simp only[Qd8,hu]),fun h=>(by cases h),fun b h=>(by cases h),Nat.le_refl _,id⟩
        · cases h
      · cases h
    · rename_i hu hd ex
      split at h
      · split at h
        · simp only[Option.some.injEq,Prod.mk.injEq]at h;obtain⟨rfl,_,rfl⟩:=h
          exact⟨fun _=>.inr (by subst hop;simp only[Qd8,hu]),fun h=>(by cases h),fun b h=>(by cases h),Nat.le_refl _,id⟩
        · cases h
      · cases h
    · exact hp h
  case h_8 hop=>
    unfold ZH at h
    split at h
    · cases h
    · exact hs h
    · cases h
  case h_9 hop=>exact hs (WI h)
  case h_10 hop=>
    unfold QkM at h
    repeat' (split at h)
    all_goals first | exact hp h | cases h
  case h_11 hop=>
    unfold ZZ at h
    repeat' (split at h)
    all_goals first
      | (cases h;done)
      | (revert h;cases hz:Nat.beq _ 0<;>intro h<;>first | exact hs h | cases h)
  case h_12 hop=>
    unfold Z0 at h
    repeat' (split at h)
    all_goals first | exact hs h | cases h
  case h_13 hop=>
    unfold QkN at h
    repeat' (split at h)
    all_goals first | exact hs h | exact hp h | cases h
  case h_14 hop=>
    unfold QeZ at h
    split at h
    · exact hp h
    · cases h
  case h_15 hop=>exact hp h
  case h_16 hop=>
    unfold QkO at h
    repeat' (split at h)
    all_goals first | (cases h;done) | exact hp (WI h)
  case h_17 hop=>
    simp only at hop
    unfold GZ at h
    split at h
    · split at h
      · split at h
        · have h:=WI h
          split at h
          · exact ha (by subst hop;rfl) h
          · cases h
        · cases h
      · cases h
    · cases h
  case h_18 hop=>
    simp only at hop
    unfold QkP at h
    split at h
    · split at h
      · exact ha (by subst hop;rfl) (WI h)
      · cases h
    · cases h
  case h_19 hop=>simp only at hop;unfold Qvn at h;exact ha (by subst hop;rfl) h
  case h_20 hop=>
    simp only at hop
    unfold Qah at h
    repeat' (split at h)
    all_goals first | (cases h;done) | exact ha (by subst hop;rfl) h
  case h_21 hop=>
    unfold Qhi at h
    repeat' (split at h)
    all_goals first | exact hs h | exact hp h | cases h
  case h_22 hop=>
    simp only at hop
    unfold Qlk at h
    repeat' (split at h)
    all_goals first
      | (cases h;done)
      | (simp only[Option.some.injEq,Prod.mk.injEq]at h
         obtain⟨rfl,_,rfl⟩:=h
         exact⟨fun h=>(by cases h),fun _=>(by subst hop;rfl),fun b h=>(by cases h),Nat.le_refl _,id⟩)
  case h_23 hop=>
    simp only at hop
    unfold Qhj at h
    split at h
    · split at h
      · rename_i H1 hst
        simp only[Option.some.injEq,Prod.mk.injEq]at h
        obtain⟨rfl,_,rfl⟩:=h
        have hst2:H.next≤H1.next∧(H.Wf→H1.Wf):=by
          unfold Qga at hst
          split at hst
          · rename_i hg
            split at hst
            · cases hst;exact⟨by simp,fun hw=>hw.set hg _⟩
            · cases hst
          · cases hst
        exact⟨fun _=>.inl (by subst hop;rfl),fun h=>(by cases h),fun b h=>(by cases h),hst2.1,hst2.2⟩
      · cases h
    · cases h
  case h_24 cl hop=>
    simp only at hop
    unfold Qd5 at h
    split at h
    · split at h
      · split at h
        · exact hs h
        · cases h
      · split at h
        · exact hs (WI h)
        · cases h
      · split at h
        · split at h
          · exact hs h
          · cases h
        · cases h
      · split at h
        · split at h
          · exact hs h
          · cases h
        · cases h
      · split at h
        · split at h
          · split at h
            · have h:=WI h
              simp only[Option.map_eq_some_iff,Prod.mk.injEq]at h
              obtain⟨⟨u,H1⟩,h1,rfl,rfl,rfl⟩:=h
              exact⟨fun _=>.inl (by subst hop;rfl),fun h=>(by cases h),fun b h=>(by cases h),(Qhr h1).1,(Qhr h1).2⟩
            · cases h
          · cases h
        · cases h
      · split at h
        · split at h
          · simp only[Option.map_eq_some_iff,Prod.mk.injEq]at h
            obtain⟨⟨u,H1⟩,h1,rfl,rfl,rfl⟩:=h
            have hn:H.next≤H1.next∧(H.Wf→H1.Wf):=by
              unfold Qtc at h1
              repeat' (split at h1)
              all_goals first
                | (cases h1;done)
                | (simp only[Option.some.injEq,Prod.mk.injEq]at h1;obtain⟨_,rfl⟩:=h1;exact⟨by simp,fun hw=>by first | exact hw | exact hw.set (by assumption) _⟩)
            exact⟨fun _=>.inl (by subst hop;rfl),fun h=>(by cases h),fun b h=>(by cases h),hn.1,hn.2⟩
          · cases h
        · cases h
      · split at h
        · exact hs h
        · split at h
          · exact hs h
          · cases h
        · cases h
      · split at h
        · simp only[Option.some.injEq,Prod.mk.injEq]at h;obtain⟨rfl,_,rfl⟩:=h
          exact⟨fun _=>.inl (by subst hop;rfl),fun h=>(by cases h),fun b h=>(by cases h),Nat.le_refl _,id⟩
        · split at h
          · rename_i hg
            split at h
            · split at h
              · simp only[Option.some.injEq,Prod.mk.injEq]at h;obtain⟨rfl,_,rfl⟩:=h
                exact⟨fun _=>.inl (by subst hop;rfl),fun h=>(by cases h),fun b h=>(by cases h),by simp,fun hw=>hw.set hg _⟩
              · cases h
            · cases h
          · cases h
        · cases h
      · cases h
    · split at h
      · split at h
        · simp[ZP]at h
        · cases h
      · cases h
    · simp[ZP]at h
    · split at h
      · simp[ZP]at h
      · have h:=WI h;simp[ZP]at h
      · cases h
  case h_25 hop=>simp only at hop;exact ha (by subst hop;rfl) h
  case h_26 hop=>
    simp only at hop
    unfold Qhk at h
    split at h
    · simp only[Option.map_eq_some_iff,Prod.mk.injEq]at h
      obtain⟨u,h1,rfl,rfl,rfl⟩:=h
      exact⟨fun _=>.inl (by subst hop;rfl),fun h=>(by cases h),fun b h=>(by cases h),Nat.le_refl _,id⟩
    · cases h
  case h_27 hop=>
    simp only at hop
    unfold Qll at h
    split at h
    · simp only[Option.map_eq_some_iff,Prod.mk.injEq]at h
      obtain⟨H1,h1,rfl,rfl,rfl⟩:=h
      exact⟨fun _=>.inl (by subst hop;rfl),fun h=>(by cases h),fun b h=>(by cases h),(Qe1 h1).1,(Qe1 h1).2⟩
    · cases h
  case h_28 hop=>
    simp only at hop
    unfold Qll at h
    split at h
    · simp only[Option.map_eq_some_iff,Prod.mk.injEq]at h
      obtain⟨H1,h1,rfl,rfl,rfl⟩:=h
      exact⟨fun _=>.inl (by subst hop;rfl),fun h=>(by cases h),fun b h=>(by cases h),(Qe1 h1).1,(Qe1 h1).2⟩
    · cases h
  case h_29 hop=>
    simp only at hop
    unfold Qoh at h
    split at h
    · exact ha (by subst hop;rfl) h
    · rename_i ht ex
      simp only[Option.some.injEq,Prod.mk.injEq]at h
      obtain⟨rfl,_,rfl⟩:=h
      exact⟨fun _=>.inr (by subst hop;simp only[Qd8,ht]),fun h=>(by cases h),fun b h=>(by cases h),by simp,fun hw=>hw.push _⟩
    · rename_i ht ex
      split at h
      · simp only[Option.some.injEq,Prod.mk.injEq]at h
        obtain⟨rfl,_,rfl⟩:=h
        exact⟨fun _=>.inr (by subst hop;simp only[Qd8,ht]),fun h=>(by cases h),fun b h=>(by cases h),by simp,fun hw=>hw.push _⟩
      · cases h
    · cases h
  case h_30 hop=>
    simp only at hop
    simp only[Option.map_eq_some_iff,Prod.mk.injEq]at h
    obtain⟨⟨u,H1⟩,h1,rfl,rfl,rfl⟩:=h
    have hn:H.next≤H1.next∧(H.Wf→H1.Wf):=by
      unfold Qtb at h1
      split at h1
      · have h1:=WI h1
        split at h1
        · rename_i hg
          split at h1
          · simp only[Option.some.injEq,Prod.mk.injEq]at h1;obtain⟨_,rfl⟩:=h1;exact⟨by simp,fun hw=>hw.set hg _⟩
          · simp only[Option.some.injEq,Prod.mk.injEq]at h1;obtain⟨_,rfl⟩:=h1;exact⟨by simp,fun hw=>hw⟩
        · cases h1
      · cases h1
    exact⟨fun _=>.inl (by subst hop;rfl),fun h=>(by cases h),fun b h=>(by cases h),hn.1,hn.2⟩
  case h_31 hop=>
    simp only at hop
    simp only[Option.map_eq_some_iff,Prod.mk.injEq]at h
    obtain⟨⟨u,H1⟩,h1,rfl,rfl,rfl⟩:=h
    have hn:H.next≤H1.next∧(H.Wf→H1.Wf):=by
      unfold Qof at h1
      split at h1
      · have h1:=WI h1
        split at h1
        · simp only[Option.some.injEq,Prod.mk.injEq]at h1;obtain⟨_,rfl⟩:=h1;exact⟨by simp,fun hw=>hw⟩
        · rename_i hg
          split at h1
          · have h1:=WI h1
            split at h1
            · simp only[Option.some.injEq,Prod.mk.injEq]at h1;obtain⟨_,rfl⟩:=h1;exact⟨by simp,fun hw=>hw⟩
            · split at h1
              · have h1:=WI h1
                simp only[Option.some.injEq,Prod.mk.injEq]at h1;obtain⟨_,rfl⟩:=h1;exact⟨by simp,fun hw=>hw.set hg _⟩
              · cases h1
            · cases h1
          · cases h1
        · cases h1
      · cases h1
    exact⟨fun _=>.inl (by subst hop;rfl),fun h=>(by cases h),fun b h=>(by cases h),hn.1,hn.2⟩
  case h_32 hop=>
    simp only at hop
    simp only[Option.map_eq_some_iff,Prod.mk.injEq]at h
    obtain⟨u,h1,rfl,rfl,rfl⟩:=h
    exact⟨fun _=>.inl (by subst hop;rfl),fun h=>(by cases h),fun b h=>(by cases h),Nat.le_refl _,fun hw=>hw⟩
  case h_33=>cases h
end
section
variable {P:Program} {n:Nat}
theorem QnL {ops:Array Oper} {o:Oper} {g:Option (Nat×Bool)} {A:Env} {yes no:Prop} (hc:QrJ n ops o=some g) (h:pg g A yes no):
  (Xt n ops A o=some true∧yes)∨(Xt n ops A o=some false∧no):=by
 unfold QrJ at hc
 unfold Xt
 split at hc
 ·rename_i hg
  cases hc
  exact .inl ⟨by rw[hg],h⟩
 ·rename_i j want hg
  rw[hg]
  split at hc
  ·rename_i t ht
   split at hc
   ·rename_i hlt
    cases hc
    have h':(match A t with | .bool b=>if b=want then yes else no | .tuple _=>no | _=>False):=h
    simp only[ht,hlt,if_true]
    split at h'
    ·rename_i b hb
     split at h'
     ·rename_i e;exact .inl ⟨by simp[hb,e],h'⟩
     ·rename_i e;exact .inr ⟨by simp[hb,e],h'⟩
    ·rename_i hb;exact .inr ⟨by simp[hb],h'⟩
    ·exact h'.elim
   ·cases hc
  ·cases hc
theorem Qoq {op:Op} {f:FuncId} {args:List Operand} (h:Wa P op=.call f args):∃a ts,op=.call ⟨.value (.func f),a,ts⟩∧args=a.toList:=by
 unfold Wa at h
 repeat' (split at h)
 all_goals first
  | (cases h;done)
  | (cases h;exact⟨_,_,rfl,rfl⟩)
theorem QmL {op:Op} {c:Operand} {args:List Operand} (h:Wa P op=.callv c args):∃a ts,op=.call ⟨.value c,a,ts⟩∧args=a.toList:=by
 unfold Wa at h
 repeat' (split at h)
 all_goals first
  | (cases h;done)
  | (cases h;exact⟨_,_,rfl,rfl⟩)
theorem Qp3 {op:Op} {size:Nat} {x y:Operand} {os:List Operand} (h:Wa P op=.stf size x y os):False:=by
 unfold Wa at h
 repeat' (split at h)
 all_goals cases h
theorem QmM {op:Op} {f:FuncId} {args os:List Operand} (h:Wa P op=.callF f args os):False:=by
 unfold Wa at h
 repeat' (split at h)
 all_goals cases h
theorem QmN {op:Op} {f:FuncId} {args os:List Operand} (h:Wa P op=.callG f args os):False:=by
 unfold Wa at h
 repeat' (split at h)
 all_goals cases h
def InB (v:Value) (b:Nat):Prop:=(∃a:Addr,v=.pointer (some a)∧a.block=b)∨∃ (a:Addr) (n c:Nat),v=.slice (some a) n c∧a.block=b
theorem InB.uniq {v:Value} {b b':Nat} (h:InB v b) (h':InB v b'):b=b':=by
 rcases h with⟨a,rfl,rfl⟩ | ⟨a,n,c,rfl,rfl⟩<;>rcases h' with⟨a',e,rfl⟩ | ⟨a',n',c',e,rfl⟩<;>cases e<;>rfl
def FA (o:Oper) (A:Env) (v:Value):Prop:=∀b,Qlo o=some b→∀n,InB v n→InB (A b) n
theorem FA.none {o:Oper} {A:Env} {v:Value} (h:Qlo o=none):FA o A v:=fun b h'=>by rw[h]at h';cases h'
theorem QyZ {o:Oper} {A:Env} {H H':Qa} {c:Cls} {v:Value} (h:aop P ZP o A H=some (c,v,H')):FA o A v:=by
 obtain⟨dst,op,ty,pos,af,g⟩:=o
 intro b hf n hv
 unfold Qlo at hf
 split at hf
 ·rename_i t b' f hop
  simp only at hop
  subst hop
  cases hf
  have h:ZZ P ZP A H t (.tmp b) f=some (c,v,H'):=h
  unfold ZZ at h
  split at h
  ·rename_i fs a _ ha
   split at h
   ·split at h
    ·rename_i inf _
     cases hz:Nat.beq inf.size 0 with
     | true=>rw[hz]at h;cases h
     | false=>
      rw[hz]at h
      simp only[cond_false,Option.some.injEq,Prod.mk.injEq]at h
      have ha:A b=.pointer (some a):=ha
      obtain⟨_,rfl,_⟩:=h
      rcases hv with⟨a',e,rfl⟩ | ⟨a',n',c',e,rfl⟩
      ·cases e;exact .inl ⟨a,ha,rfl⟩
      ·cases e
    ·cases h
   ·cases h
  ·cases h
 ·rename_i t b' ix hop
  simp only at hop
  subst hop
  cases hf
  have h:Z0 P ZP A H t (.tmp b) ix=some (c,v,H'):=h
  unfold Z0 at h
  split at h
  ·split at h
   ·rename_i e a len cap _ ha
    have ha:A b=.slice (some a) len cap:=ha
    split at h
    ·split at h
     ·simp only[Option.some.injEq,Prod.mk.injEq]at h
      obtain⟨_,rfl,_⟩:=h
      rcases hv with⟨a',e,rfl⟩ | ⟨a',n',c',e,rfl⟩
      ·cases e;exact .inr ⟨a,_,_,ha,rfl⟩
      ·cases e
     ·cases h
    ·cases h
   ·rename_i len e a _ ha
    have ha:A b=.pointer (some a):=ha
    split at h
    ·split at h
     ·simp only[Option.some.injEq,Prod.mk.injEq]at h
      obtain⟨_,rfl,_⟩:=h
      rcases hv with⟨a',e,rfl⟩ | ⟨a',n',c',e,rfl⟩
      ·cases e;exact .inl ⟨a,ha,rfl⟩
      ·cases e
     ·cases h
    ·cases h
   ·cases h
  ·cases h
 ·rename_i b' hop
  simp only at hop
  subst hop
  cases hf
  have h:some (Cls.pure,ev A (.tmp b),H)=some (c,v,H'):=h
  cases h
  exact hv
 ·rename_i b' hop
  simp only at hop
  subst hop
  cases hf
  have h:some (Cls.pure,ev A (.tmp b),H)=some (c,v,H'):=h
  cases h
  exact hv
 ·cases hf
theorem Qor {o:Oper} {s:Bool} {A:Env} {H:Qa} {k:Value→Qa→Prop} (hw:H.Wf) (h:pr P (Wa P o.op) s A H k):
  ∃c v H',QjM P o A H v H' c∧Syn P o H H' c∧(s=true→Qak o=true→∀id,H'.get id=H.get id)∧(s=true→QmH o=true→Qj H.next 6 v=true)∧FA o A v∧k v H':=by
 obtain⟨dst,op,ty,pos,af,g⟩:=o
 have other:onS (rop P (Wa P op) A H) (fun v H'=>(s=true→Qj H.next 6 v=true)∧k v H')→
   ∃c v H',QjM P ⟨dst,op,ty,pos,af,g⟩ A H v H' c∧Syn P ⟨dst,op,ty,pos,af,g⟩ H H' c∧(s=true→Qak ⟨dst,op,ty,pos,af,g⟩=true→∀id,H'.get id=H.get id)∧(s=true→QmH ⟨dst,op,ty,pos,af,g⟩=true→Qj H.next 6 v=true)∧FA ⟨dst,op,ty,pos,af,g⟩ A v∧k v H':=fun⟨v,H',hr,hs,hk⟩=>by
  obtain⟨c,ha⟩:=QrF hr
  have ha:aop P ZP ⟨dst,op,ty,pos,af,g⟩ A H=some (c,v,H'):=ha
  refine⟨c,v,H',Qe0 Quh ha,Qw4 ha,fun _ hc=>?_,fun h _=>hs h,QyZ ha,hk⟩
  unfold Qak at hc
  split at hc
  ·rename_i f a ts hop
   simp only at hop
   subst hop
   unfold aop at ha
   simp only[Qd5]at ha
   split at ha
   ·rename_i he;cases he
   ·rename_i he;cases he
   ·simp[ZP]at ha
   ·split at ha
    ·simp[ZP]at ha
    ·have ha:=WI ha;simp[ZP]at ha
    ·cases ha
  ·cases hc
 simp only[pr]at h
 split at h
 ·rename_i f args hr
  obtain⟨a,ts,hop,rfl⟩:=Qoq hr
  subst hop
  obtain⟨v,H',hc,hn,hwf,hs,hk⟩:=h hw
  refine⟨.gen,v,H',QkK (by simpa using hc),⟨fun _=>.inl rfl,fun h=>(by cases h),fun b h=>(by cases h),hn,fun _=>hwf⟩,fun h _=>hs h,fun _ h=>(by cases h),.none rfl,hk⟩
 ·rename_i c args hr
  obtain⟨a,ts,hop,rfl⟩:=QmL hr
  subst hop
  split at h
  ·rename_i f xs ys hv
   obtain⟨v,H',hc,hn,hwf,hs,hk⟩:=h hw
   refine⟨.gen,v,H',QpM hv (by simpa using hc),⟨fun _=>.inl rfl,fun h=>(by cases h),fun b h=>(by cases h),hn,fun _=>hwf⟩,fun h _=>hs h,fun _ h=>(by cases h),.none rfl,hk⟩
  ·rename_i l hv
   obtain⟨v,H',hc,hn,hwf,hs,hk⟩:=h hw
   refine⟨.gen,v,H',QpT hv (by simpa using hc),⟨fun _=>.inl rfl,fun h=>(by cases h),fun b h=>(by cases h),hn,fun _=>hwf⟩,fun h _=>hs h,fun _ h=>(by cases h),.none rfl,hk⟩
  ·exact h.elim
 ·rename_i hr;exact(QmM hr).elim
 ·rename_i hr;exact(QmN hr).elim
 ·rename_i hr;exact(Qp3 hr).elim
 ·exact other h
def Low (P:Program) (o:Oper) (os:List Operand) (A:Env) (H H':Qa):Prop:=Qhp o=true→∀z∈os,∃b:Nat,InB (ev A z) b∧b<H.next∧(isG P o=true→H'.get b=H.get b)
def Sep (o:Oper) (os:List Operand) (A:Env) (H H':Qa):Prop:=QrH o=true→∃a:Nat,(∀id,id≠a→H'.get id=H.get id)∧∀z∈os,∀b:Addr,ev A z=.pointer (some b)→b.block≠a
theorem Qp4 {ops:Array Oper} {i:Nat} {o:Oper} {s:Bool} {A:Env} {H:Qa} {k:Value→Qa→Prop} (hw:H.Wf) (h:pr P (Qhq P ops s i o) s A H k):
  ∃c v H',QjM P o A H v H' c∧Syn P o H H' c∧(s=true→Qak o=true→isG P o=false→EqB H H')∧(s=true→QmH o=true→Qj H.next 6 v=true)∧(s=true→Sep o (Qln ops (QA ops.toList []) i) A H H')∧(s=true→Low P o (Qa7 ops (QA ops.toList []) i) A H H')∧FA o A v∧k v H':=by
 cases s with
 | false=>
  obtain⟨c,v,H',h1,h2,h3,h4,hfa,h5⟩:=Qor hw h
  exact⟨c,v,H',h1,h2,fun h=>(by cases h),h4,fun h=>(by cases h),fun h=>(by cases h),hfa,h5⟩
 | true=>
  have h:pr P (QbC P ops i o) true A H k:=h
  have plainly:QrH o=false→Qhp o=false→QbC P ops i o=Wa P o.op→∃c v H',QjM P o A H v H' c∧Syn P o H H' c∧(true=true→Qak o=true→isG P o=false→EqB H H')∧(true=true→QmH o=true→Qj H.next 6 v=true)∧(true=true→Sep o (Qln ops (QA ops.toList []) i) A H H')∧(true=true→Low P o (Qa7 ops (QA ops.toList []) i) A H H')∧FA o A v∧k v H':=fun hns hnd e=>by
   rw[e]at h
   obtain⟨c,v,H',h1,h2,h3,h4,hfa,h5⟩:=Qor hw h
   exact⟨c,v,H',h1,h2,fun hh hc _ id _=>h3 hh hc id,h4,fun _ hs=>(by rw[hns]at hs;cases hs),fun _ hs=>(by rw[hnd]at hs;cases hs),hfa,h5⟩
  cases hst:QrH o with
  | false=>
   cases hdi:Qhp o with
   | false=>
    refine plainly hst hdi ?_
    unfold QbC
    unfold QrH at hst
    unfold Qhp at hdi
    split
    ·rename_i t x y hop;rw[hop]at hst;cases hst
    ·rename_i hop;rw[hop]at hdi;cases hdi
    ·rfl
   | true=>
    obtain⟨dst,op,ty,pos,af,g⟩:=o
    unfold Qhp at hdi
    split at hdi
    ·rename_i f a ts hop
     simp only at hop
     subst hop
     have hres:QbC P ops i ⟨dst,.call ⟨.value (.func f),a,ts⟩,ty,pos,af,g⟩=bif isG P ⟨dst,.call ⟨.value (.func f),a,ts⟩,ty,pos,af,g⟩ then .callG f a.toList (Qa7 ops (QA ops.toList []) i) else .callF f a.toList (Qa7 ops (QA ops.toList []) i):=rfl
     rw[hres]at h
     cases hG:isG P ⟨dst,.call ⟨.value (.func f),a,ts⟩,ty,pos,af,g⟩ with
     | false=>
      rw[hG]at h
      obtain⟨hlow,hq⟩:=h
      obtain⟨v,H',hc,hn,hwf,hs,hk⟩:=hq hw
      refine⟨.gen,v,H',QkK (by simpa using hc),⟨fun _=>.inl rfl,fun h=>(by cases h),fun b h=>(by cases h),hn,fun _=>hwf⟩,fun _ _ _=>hs,fun _ h=>(by cases h),fun _ h=>(by cases h),fun _ _ z hz=>?_,.none rfl,hk⟩
      have:=hlow z hz
      unfold QmI at this
      split at this
      ·rename_i b hb;exact⟨_,.inl ⟨b,hb,rfl⟩,this,fun h=>absurd (hG.symm.trans h) (by decide)⟩
      ·rename_i b n c hb;exact⟨_,.inr ⟨b,n,c,hb,rfl⟩,this,fun h=>absurd (hG.symm.trans h) (by decide)⟩
      ·exact this.elim
     | true=>
      rw[hG]at h
      obtain⟨hlow,hq⟩:=h
      obtain⟨v,H',hc,hn,hwf,hs,hk⟩:=hq hw
      refine⟨.gen,v,H',QkK (by simpa using hc),⟨fun _=>.inl rfl,fun h=>(by cases h),fun b h=>(by cases h),hn,fun _=>hwf⟩,fun _ _ h=>(by cases h),fun _ h=>(by cases h),fun _ h=>(by cases h),fun _ _ z hz=>?_,.none rfl,hk⟩
      have h1:=hlow z hz
      have h2:=hs z hz
      unfold QmI at h1
      split at h1
      ·rename_i b hb;rw[hb]at h2;exact⟨_,.inl ⟨b,hb,rfl⟩,h1,fun _=>h2⟩
      ·rename_i b n c hb;rw[hb]at h2;exact⟨_,.inr ⟨b,n,c,hb,rfl⟩,h1,fun _=>h2⟩
      ·exact h1.elim
    ·cases hdi
  | true=>
   unfold QrH at hst
   split at hst
   ·rename_i t x y hop
    unfold QbC at h
    rw[hop]at h
    simp only at h
    cases hin:P.info? t with
    | none=>
     rw[hin]at h
     have e:Wa P (.store t x y)=.gen (.store t x y):=by simp[Wa,hin]
     simp only at h
     rw[e]at h
     obtain⟨v,H',hr,hs,hk⟩:=h
     simp only[rop,aop,Qhj,Qga,hin]at hr
     split at hr
     ·rename_i hh;repeat' (split at hh)
      all_goals (first | (cases hh;done) | (rename_i h9;cases h9))
     ·cases hr
    | some inf=>
     rw[hin]at h
     obtain⟨v,H',hr,hs,hk⟩:=h
     have e:Wa P o.op=.st inf.size x y:=by rw[hop];simp[Wa,hin]
     obtain⟨c,v1,H1,h1,h2,h3,h4,hfa,h5⟩:=Qor (s:=false) (k:=fun v' H1=>v'=v∧H1=H') hw (o:=o) (by
      rw[e];exact⟨v,H',hr,fun h=>(by cases h),rfl,rfl⟩)
     obtain⟨rfl,rfl⟩:=h5
     refine⟨c,v1,H1,h1,h2,fun _ hc _=>?_,fun _ hl=>?_,fun _ _=>?_,fun _ hd=>?_,hfa,hk⟩
     ·unfold Qak at hc;rw[hop]at hc;cases hc
     ·unfold QmH at hl;rw[hop]at hl;cases hl
     ·simp only[rop]at hr
      split at hr
      ·rename_i a ha
       split at hr
       ·rename_i c' e' hg
        split at hr
        ·simp only[Option.some.injEq,Prod.mk.injEq]at hr
         obtain⟨_,rfl⟩:=hr
         refine⟨a.block,fun id hid=>by rw[Qa.get_set,if_neg hid],fun z hz=>?_⟩
         have hap:=hs z hz
         rw[ha]at hap
         intro b1 hb1
         rw[hb1]at hap
         exact hap
        ·cases hr
       ·cases hr
      ·cases hr
     ·unfold Qhp at hd;rw[hop]at hd;cases hd
   ·cases hst
theorem Qgl {ops:Array Oper} {fl:Nat→Bool}:∀ (l:List Oper) (i:Nat) (pl:List PO) (k:Env→Qa→Prop) (A:Env) (H:Qa),H.Wf→KJ P n ops fl l i=some pl→Ga P pl k A H→
  ∃A1 H1,H1.Wf∧k A1 H1∧Qa5 P n ops l (fun e A' H'=>e=.normal∧A'=A1∧H'=H1) A H
 | [],i,pl,k,A,H,hwf,hc,h=>by
  simp only[KJ,Option.some.injEq]at hc
  subst hc
  exact⟨A,H,hwf,h,QpF ⟨rfl,rfl,rfl⟩⟩
 | o::l,i,pl,k,A,H,hwf,hc,h=>by
  unfold KJ at hc
  split at hc
  ·rename_i hok
   split at hc
   ·rename_i g pl1 hg hpl
    cases hc
    have h:pg g A (pr P (Qhq P ops (fl i) i o) (fl i) A H fun v H'=>Ga P pl1 k (YJ A o.dst v) H') (Ga P pl1 k (YJ A o.dst undef) H):=h
    rcases QnL hg h with⟨hw,hy⟩ | ⟨hw,hn⟩
    ·obtain⟨c,v,H',h1,h2,h3,h4,_,_,_,h5⟩:=Qp4 hwf hy
     obtain⟨A1,H1,hw1,hk,ha⟩:=Qgl l (i+1) pl1 k _ _ (h2.wf hwf) hpl h5
     refine⟨A1,H1,hw1,hk,?_⟩
     cases hgd:o.guard with
     | none=>exact Qnu hgd h1.does hok ha
     | some jw=>
      obtain⟨j,w⟩:=jw
      exact Qaj hgd hw (fun _=>⟨v,H',h1.does,ha⟩) (fun hh=>by cases hh) hok
    ·obtain⟨A1,H1,hw1,hk,ha⟩:=Qgl l (i+1) pl1 k _ _ hwf hpl hn
     refine⟨A1,H1,hw1,hk,?_⟩
     cases hgd:o.guard with
     | none=>simp[Xt,hgd]at hw
     | some jw=>
      obtain⟨j,w⟩:=jw
      exact Qaj hgd hw (fun hh=>by cases hh) (fun _=>ha) hok
   ·cases hc
  ·cases hc
structure StR (P:Program) (n:Nat) (ops:Array Oper) (fl:Nat→Bool) (i:Nat) (o:Oper) (s:Stp) (t':Env) (H':Qa):Prop where
 ok:Qcr P n o=true
 wf:s.H.Wf
 env:t'=YJ s.t o.dst s.v
 next:s.H.next≤H'.next
 run:(Xt n ops s.t o=some true∧QjM P o s.t s.H s.v H' s.c∧Syn P o s.H H' s.c∧(fl i=true→Qak o=true→isG P o=false→EqB s.H H')∧(fl i=true→QmH o=true→Qj s.H.next 6 s.v=true)∧(fl i=true→Sep o (Qln ops (QA ops.toList []) i) s.t s.H H')∧(fl i=true→Low P o (Qa7 ops (QA ops.toList []) i) s.t s.H H')∧FA o s.t s.v) ∨
  (Xt n ops s.t o=some false∧s.c=.pure∧s.v=undef∧H'=s.H)
def Qea (l:List Stp) (t:Env) (i:Nat):Env:=match l[i]? with | some s=>s.t | none=>t
theorem Qlr {ops:Array Oper} {fl:Nat→Bool}:∀ (l:List Oper) (i:Nat) (pl:List PO) (k:Env→Qa→Prop) (A:Env) (H:Qa),H.Wf→KJ P n ops fl l i=some pl→Ga P pl k A H→
  ∃tr A1 H1,H1.Wf∧k A1 H1∧tr.length=l.length∧Qea tr A1 0=A∧WH tr H1 0=H∧∀ (j:Nat) o s,l[j]? = some o→tr[j]? = some s→StR P n ops fl (i+j) o s (Qea tr A1 (j+1)) (WH tr H1 (j+1))
 | [],i,pl,k,A,H,hwf,hc,h=>by
  simp only[KJ,Option.some.injEq]at hc
  subst hc
  exact⟨[],A,H,hwf,h,rfl,rfl,rfl,fun j o s h=>by simp at h⟩
 | o::l,i,pl,k,A,H,hwf,hc,h=>by
  unfold KJ at hc
  split at hc
  ·rename_i hok
   split at hc
   ·rename_i g pl1 hg hpl
    cases hc
    have h:pg g A (pr P (Qhq P ops (fl i) i o) (fl i) A H fun v H'=>Ga P pl1 k (YJ A o.dst v) H') (Ga P pl1 k (YJ A o.dst undef) H):=h
    have step:∀ (s:Stp) (t':Env) (H':Qa),s.t=A→s.H=H→H'.Wf→Ga P pl1 k t' H'→StR P n ops fl i o s t' H'→
      ∃tr A1 H1,H1.Wf∧k A1 H1∧tr.length=(o::l).length∧Qea tr A1 0=A∧WH tr H1 0=H∧∀ (j:Nat) o' s,(o::l)[j]? = some o'→tr[j]? = some s→StR P n ops fl (i+j) o' s (Qea tr A1 (j+1)) (WH tr H1 (j+1)):=by
     intro s t' H' e1 e2 hw' hp hst
     obtain⟨tr,A1,H1,hw1,hk,hl,ht,hh,hs⟩:=Qlr l (i+1) pl1 k t' H' hw' hpl hp
     refine⟨s::tr,A1,H1,hw1,hk,by simp[hl],by simp[Qea,e1],by simp[WH,e2],fun j o' s' hj hs'=>?_⟩
     cases j with
     | zero=>
      simp only[List.getElem?_cons_zero,Option.some.injEq]at hj hs'
      subst hj;subst hs'
      have h1:Qea (s::tr) A1 (0+1)=t':=by rw[← ht];simp[Qea]
      have h2:WH (s::tr) H1 (0+1)=H':=by rw[← hh];simp[WH]
      rw[h1,h2]
      exact hst
     | succ j=>
      have:=hs j o' s' (by simpa using hj) (by simpa using hs')
      rw[show i+(j+1)=i+1+j by omega]
      simpa[Qea,WH] using this
    rcases QnL hg h with⟨hw,hy⟩ | ⟨hw,hn⟩
    ·obtain⟨c,v,H',h1,h2,h3,h4,h6,h7,hfa,h5⟩:=Qp4 hwf hy
     exact step ⟨A,H,c,v⟩ _ H' rfl rfl (h2.wf hwf) h5 ⟨hok,hwf,rfl,h2.next,.inl ⟨hw,h1,h2,h3,h4,h6,h7,hfa⟩⟩
    ·exact step ⟨A,H,.pure,undef⟩ _ H rfl rfl hwf hn ⟨hok,hwf,rfl,Nat.le_refl _,.inr ⟨hw,rfl,rfl,rfl⟩⟩
   ·cases hc
  ·cases hc
theorem JY {t:TypeId} {a:Addr} {H1 H2:Qa} (h:H1.get a.block=H2.get a.block):Xr P t a H1=Xr P t a H2:=by
 unfold Xr
 rw[h]
theorem Qls (ops:Array Oper) (k e:Nat):∀ (d cur:Nat),Jj ops k (e+d) cur=match Jj ops (k+e) d cur with | some c=>Jj ops k e c | none=>none
 | 0,cur=>rfl
 | d+1,cur=>by
  show(match ops[k+(e+d)]? with | some o=>(match QpY o cur with | some c=>Jj ops k (e+d) c | none=>none) | none=>none)=(match (match ops[k+e+d]? with | some o=>(match QpY o cur with | some c=>Jj ops (k+e) d c | none=>none) | none=>none) with | some c=>Jj ops k e c | none=>none)
  rw[show k+(e+d)=k+e+d by omega]
  cases ops[k+e+d]? with
  | none=>rfl
  | some o=>
   simp only
   cases QpY o cur with
   | none=>rfl
   | some c=>exact Qls ops k e d c
theorem QrW {ops:Array Oper} {k i j tm bs:Nat} (h:Jj ops k (i - k) tm=some bs) (h1:k≤j) (h2:j≤i):∃c,Jj ops j (i - j) tm=some c:=by
 have:=Qls ops k (j - k) (i - j) tm
 rw[show j - k+(i - j)=i - k by omega,h,show k+(j - k)=j by omega]at this
 cases hc:Jj ops j (i - j) tm with
 | none=>rw[hc]at this;cases this
 | some c=>exact⟨c,rfl⟩
theorem QrX {id:Nat} {ops:Array Oper} {pl:List PO} {k:Env→Qa→Prop} {A:Env} {H:Qa} (hwf:H.Wf) (hm:P.follows .mixedOrders=true) (hrare:∀o∈ops,Qd8 P o.op=false) (hd:Qa6 ops (WG ops)=true) (hck:Qtf P ops (QA ops.toList [])=true)
  (hc:KJ P n ops (Wo ops (QA ops.toList [])) ops.toList 0=some pl) (h:Ga P pl k A H):
  ∃A1 H1,H1.Wf∧k A1 H1∧AWp P n (.region id ops true) (fun e A' H'=>e=.normal∧A'=A1∧H'=H1) A H:=by
 obtain⟨tr,A1,H1,hw1,hk,hl,hA,hH,hs⟩:=Qlr ops.toList 0 pl k A H hwf hc h
 refine⟨A1,H1,hw1,hk,?_⟩
 have hlen:tr.length=ops.size:=by simpa using hl
 let As:Nat→Env:=Qea tr A1
 let Hs:Nat→Qa:=WH tr H1
 let vs:Nat→Value:=fun i=>match tr[i]? with | some s=>s.v | none=>undef
 let cls:Nat→Cls:=fun i=>match tr[i]? with | some s=>s.c | none=>.pure
 have hat:∀ (i:Nat) o,ops[i]? = some o→∃s,tr[i]? = some s∧StR P n ops (Wo ops (QA ops.toList [])) i o s (As (i+1)) (Hs (i+1))∧As i=s.t∧Hs i=s.H∧vs i=s.v∧cls i=s.c:=fun i o ho=>by
  have hlt:i<tr.length:=by rw[hlen];exact(Array.getElem?_eq_some_iff.1 ho).1
  have hi:=List.getElem?_eq_getElem hlt
  refine⟨tr[i],hi,by have:=hs i o tr[i] (by simpa using ho) hi;rwa [Nat.zero_add]at this,?_,?_,?_,?_⟩<;>simp only[As,Hs,vs,cls,Qea,WH,hi]
 have hops:∀i,i<ops.size→∃o,ops[i]? = some o:=fun i hi=>⟨ops[i],Array.getElem?_eq_getElem hi⟩
 have hgen:∀i,i<ops.size→Xa (cls i)=true→WG ops i=true:=fun i hi hg=>by
  obtain⟨o,ho⟩:=hops i hi
  obtain⟨s,hsi,hst,_,_,_,e4⟩:=hat i o ho
  rw[e4]at hg
  simp only[WG,ho]
  rcases hst.run with⟨_,_,hsyn,_⟩ | ⟨_,hc0,_⟩
  ·rcases hsyn.gen hg with h | h
   ·exact h
   ·have:=hrare o (Array.mem_of_getElem? ho);rw[h]at this;cases this
  ·rw[hc0]at hg;cases hg
 have hchk:∀k',k'<ops.size→WG ops k'=true→Wo ops (QA ops.toList []) k'=true→(K9 ops k'=true∧(∀i,i<ops.size→QiV ops i=true→Qt (QA ops.toList []) i k'=false→Qt (QA ops.toList []) k' i=false→quiet P ops (QA ops.toList []) i k'=true)∧(gAt P ops k'=true→∀i,i<ops.size→(QiV ops i=true→Qt (QA ops.toList []) i k'=false→Qt (QA ops.toList []) k' i=false→k'<i)∧(QcB ops i=true→i<k'→Qt (QA ops.toList []) i k'=true))) ∨
   (QrI ops k'=true∧∀i,i<ops.size→(QiV ops i=true→Qt (QA ops.toList []) i k'=false→Qt (QA ops.toList []) k' i=false→QyP P ops (QA ops.toList []) i k'=true)∧(QcB ops i=true→i<k'→Qt (QA ops.toList []) i k'=true)):=fun k' hk' hg hf=>by
  have:=List.all_eq_true.1 hck k' (List.mem_range.2 hk')
  simp only[hg,hf,Bool.not_true,Bool.false_or,Bool.or_eq_true,Bool.and_eq_true,List.all_eq_true,List.mem_range]at this
  rcases this with this | this
  ·refine .inl ⟨this.1.1,fun i hi h1 h2 h3=>?_,fun hg i hi=>⟨fun h1 h2 h3=>?_,fun h1 h2=>?_⟩⟩
   ·have:=this.1.2 i hi
    simpa[h1,h2,h3] using this
   ·have h9:=this.2
    simp only[hg,Bool.not_true,Bool.false_eq_true,false_or]at h9
    have:=(h9 i hi).1
    simpa[h1,h2,h3] using this
   ·have h9:=this.2
    simp only[hg,Bool.not_true,Bool.false_eq_true,false_or]at h9
    have:=(h9 i hi).2
    have b:Nat.blt i k'=true:=by rw[Nat.blt_eq];exact h2
    simpa[h1,b] using this
  ·refine .inr ⟨this.1,fun i hi=>⟨fun h1 h2 h3=>?_,fun h1 h2=>?_⟩⟩
   ·have:=(this.2 i hi).1
    simpa[h1,h2,h3] using this
   ·have h3:=(this.2 i hi).2
    have b:Nat.blt i k'=true:=by rw[Nat.blt_eq];exact h2
    simpa[h1,b] using h3
 have hnx:∀j,j<ops.size→(Hs j).next≤(Hs (j+1)).next:=fun j hj=>by
  obtain⟨o,ho⟩:=hops j hj
  obtain⟨s,hsi,hst,e1,e2,e3,e4⟩:=hat j o ho
  rw[e2];exact hst.next
 have hnxs:∀d a,a+d≤ops.size→(Hs a).next≤(Hs (a+d)).next:=fun d=>by
  induction d with
  | zero=>exact fun a _=>Nat.le_refl _
  | succ d ih=>exact fun a h=>Nat.le_trans (ih a (by omega)) (hnx (a+d) (by omega))
 have hcallsame:∀k',k'<ops.size→K9 ops k'=true→Wo ops (QA ops.toList []) k'=true→gAt P ops k'=false→EqB (Hs k') (Hs (k'+1)):=fun k' hk' hcf hf hng=>by
  obtain⟨o,ho⟩:=hops k' hk'
  obtain⟨s,hsi,hst,e1,e2,e3,e4⟩:=hat k' o ho
  simp only[K9,ho]at hcf
  simp only[gAt,ho]at hng
  rw[e2]
  rcases hst.run with⟨_,_,_,h3,_⟩ | ⟨_,_,_,h4⟩
  ·exact h3 hf hcf hng
  ·rw[h4];exact fun _ _=>rfl
 have hkeep:∀j,j<ops.size→(WG ops j=false∨(Wo ops (QA ops.toList []) j=true∧K9 ops j=true∧gAt P ops j=false))→EqB (Hs j) (Hs (j+1)):=fun j hj hg=>by
  obtain⟨o,ho⟩:=hops j hj
  obtain⟨s,hsi,hst,e1,e2,e3,e4⟩:=hat j o ho
  rcases hst.run with⟨_,hcl,hsyn,_⟩ | ⟨_,_,_,h4⟩
  ·cases hsc:s.c with
   | pure=>rw[hsc]at hcl;rw[e2,hcl.1];exact fun _ _=>rfl
   | load=>rw[hsc]at hcl;rw[e2,hcl.1];exact fun _ _=>rfl
   | alloc b=>
    rw[hsc]at hcl
    rw[e2,hcl.1]
    exact fun id hid=>by rw[Qa.get_push,if_neg (by omega)]
   | gen=>
    have hsg:WG ops j=true:=hgen j hj (by rw[e4,hsc];rfl)
    rcases hg with hg | hg
    ·rw[hg]at hsg;cases hsg
    ·exact hcallsame j hj hg.2.1 hg.1 hg.2.2
  ·rw[e2,h4];exact fun _ _=>rfl
 have hkeeps:∀d a,a+d≤ops.size→(∀j,a≤j→j<a+d→WG ops j=false∨(Wo ops (QA ops.toList []) j=true∧K9 ops j=true∧gAt P ops j=false))→EqB (Hs a) (Hs (a+d)):=fun d=>by
  induction d with
  | zero=>exact fun a _ _ _ _=>rfl
  | succ d ih=>
   intro a h hj id hid
   have h1:=ih a (by omega) (fun j h1 h2=>hj j h1 (by omega)) id hid
   have h2:=hkeep (a+d) (by omega) (hj (a+d) (by omega) (by omega)) id (Nat.lt_of_lt_of_le hid (hnxs d a (by omega)))
   rw[show a+(d+1)=a+d+1 by omega,h2,h1]
 have F:YL P n ops As Hs vs cls:=by
  refine⟨fun i o ho=>?_,fun i hi=>?_,fun i o ho=>?_,fun i o ho=>?_,QjO hgen hd⟩
  ·obtain⟨s,hsi,hst,e1,e2,e3,e4⟩:=hat i o ho
   rw[e1,e3,hst.env]
  ·obtain⟨o,ho⟩:=hops i hi
   obtain⟨s,hsi,hst,e1,e2,e3,e4⟩:=hat i o ho
   rw[e2];exact hst.next
  ·obtain⟨s,hsi,hst,e1,e2,e3,e4⟩:=hat i o ho
   exact hst.ok
  ·obtain⟨s,hsi,hst,e1,e2,e3,e4⟩:=hat i o ho
   have hi:i<ops.size:=(Array.getElem?_eq_some_iff.1 ho).1
   unfold Qrt
   rw[e1,e2,e3,e4]
   rcases hst.run with⟨hw,hcl,hsyn,hf1,hf2,_,_⟩ | ⟨hw,hc0,hv0,hH0⟩
   ·right
    refine⟨hw,?_⟩
    cases hsc:s.c with
    | pure=>rw[hsc]at hcl;exact hcl
    | gen=>rw[hsc]at hcl;exact hcl
    | alloc b=>
     rw[hsc]at hcl
     refine⟨hcl.1,hcl.2,fun k' hk1 hik hgk ho'=>?_⟩
     have hsg:=hgen k' hk1 hgk
     have hal:QcB ops i=true:=by simp only[QcB,ho];exact hsyn.alloc b hsc
     have hfl:Wo ops (QA ops.toList []) k'=true:=by
      unfold Wo
      simp only[hsg,Bool.true_and,Bool.or_eq_true]
      left
      rw[List.any_eq_true]
      exact⟨i,List.mem_range.2 hi,by simp[hal,hik,ho']⟩
     rcases hchk k' hk1 hsg hfl with hch | hch
     ·have hng:gAt P ops k'=false:=by
       cases hgk':gAt P ops k' with
       | false=>rfl
       | true=>rw[(hch.2.2 hgk' i hi).2 hal hik]at ho';cases ho'
      rw[hcallsame k' hk1 hch.1 hfl hng]
      have h9:=hnxs (k' - (i+1)) (i+1) (by omega)
      rw[show i+1+(k' - (i+1))=k' by omega,hcl.1,Qa.next_push]at h9
      omega
     ·rw[(hch.2 i hi).2 hal hik]at ho';cases ho'
    | load=>
     rw[hsc]at hcl
     obtain⟨h1,tt,x,a,hop,ex,hl'⟩:=hcl
     refine⟨h1,tt,x,a,hop,ex,hl',fun k' hk1 hgk o1 o2=>?_⟩
     have hsg:=hgen k' hk1 hgk
     have hld:QiV ops i=true:=by simp only[QiV,ho];exact hsyn.load hsc
     have hfl:Wo ops (QA ops.toList []) k'=true:=by
      unfold Wo
      simp only[hsg,Bool.true_and,Bool.or_eq_true]
      left
      rw[List.any_eq_true]
      exact⟨i,List.mem_range.2 hi,by simp[hld,o1,o2]⟩
     have hfi:Wo ops (QA ops.toList []) i=true:=by
      unfold Wo
      simp only[Bool.or_eq_true]
      right
      simp only[hld,Bool.true_and]
      rw[List.any_eq_true]
      exact⟨k',List.mem_range.2 hk1,by simp[hsg,o1,o2]⟩
     have hload:o.op=.load tt x:=hop
     have hbel:Qj s.H.next 6 s.v=true:=hf2 hfi (by unfold QmH;rw[hload])
     rcases hchk k' hk1 hsg hfl with hch | hch
     ·have hq:=hch.2.1 i hi hld o1 o2
      have hb0:a.block<(Hs i).next:=by
       rw[e2]
       unfold Xr at hl'
       split at hl'
       ·rename_i hg;exact hst.wf.lt hg
       ·cases hl'
      unfold quiet at hq
      simp only[Bool.or_eq_true,Bool.and_eq_true,List.all_eq_true,List.mem_range]at hq
      have hget:(Hs k').get a.block=(Hs i).get a.block∧(Hs (k'+1)).get a.block=(Hs k').get a.block:=by
       rcases hq with⟨hlt,hq⟩ | ⟨⟨⟨hlt,hdir⟩,hsm⟩,hq⟩
       ·have hlt:i<k':=by simpa using hlt
        have hng:gAt P ops k'=false:=by
         cases hgk':gAt P ops k' with
         | false=>rfl
         | true=>have:=(hch.2.2 hgk' i hi).1 hld o1 o2;omega
        have hgi:WG ops i=false:=by
         simp only[QiV,ho]at hld
         simp only[WG,ho]
         unfold QmH at hld
         split at hld
         ·rename_i hop';simp only[QyN,hop']
         ·cases hld
        have h8:=hkeeps (k' - i) i (by omega) (fun j h1 h2=>?_)
        ·rw[show i+(k' - i)=k' by omega]at h8
         have h9:=hnxs (k' - i) i (by omega)
         rw[show i+(k' - i)=k' by omega]at h9
         exact⟨h8 _ hb0,hcallsame k' hk1 hch.1 hfl hng a.block (by omega)⟩
        ·rcases Nat.lt_or_ge i j with h3 | h3
         ·have h4:=hq j (by omega)
          have h5:Nat.ble j i=false:=by
           cases hb:Nat.ble j i with
           | false=>rfl
           | true=>rw[Nat.ble_eq]at hb;omega
          rw[h5]at h4
          rcases h4 with h4 | h4 | h4
          ·cases h4
          ·exact .inl (by simpa using h4)
          ·exact .inr ⟨h4.1.1,h4.1.2,by simpa using h4.2⟩
         ·rw[show j=i by omega];exact .inl hgi
       ·have hlt:k'<i:=by simpa using hlt
        obtain⟨bs,hbs⟩:=Option.isSome_iff_exists.1 hsm
        have hall:∀j,k'≤j→j<i→(WG ops j=false∨(Wo ops (QA ops.toList []) j=true∧K9 ops j=true∧(gAt P ops j=false∨Qd7 (QA ops.toList []) i j=true))):=fun j h1 h2=>by
         have h4:=hq j h2
         have h5:Nat.blt j k'=false:=by
          cases hb:Nat.blt j k' with
          | false=>rfl
          | true=>rw[Nat.blt_eq]at hb;omega
         rw[h5]at h4
         rcases h4 with h4 | h4 | h4
         ·cases h4
         ·exact .inl (by simpa using h4)
         ·refine .inr ⟨h4.1.1,h4.1.2,?_⟩
          rcases h4.2 with h6 | h6
          ·exact .inl (by simpa using h6)
          ·exact .inr h6
        obtain⟨ok,hok⟩:=hops k' hk1
        obtain⟨sk,hsk,hstk,f1,f2,f3,f4⟩:=hat k' ok hok
        have hback:∀ (k0 bs d cur:Nat),k0+d≤i→Jj ops k0 d cur=some bs→InB (As (k0+d) cur) a.block→InB (As k0 bs) a.block:=fun k0 bs d=>by
         induction d with
         | zero=>intro cur _ hb hv;cases hb;exact hv
         | succ d ih=>
          intro cur hd hb hv
          obtain⟨oj,hoj⟩:=hops (k0+d) (by omega)
          obtain⟨sj,hsj,hstj,g1,g2,g3,g4⟩:=hat (k0+d) oj hoj
          simp only[Jj,hoj]at hb
          split at hb
          ·rename_i c hc
           refine ih c (by omega) hb ?_
           rw[show k0+(d+1)=k0+d+1 by omega,hstj.env,← g1]at hv
           unfold QpY at hc
           cases hdst:oj.dst with
           | none=>
            rw[hdst]at hc hv
            have hc:some cur=some c:=hc
            cases hc
            exact hv
           | some q=>
            rw[hdst]at hc hv
            have hv:InB (upd (As (k0+d)) q sj.v cur) a.block:=hv
            by_cases hqc:q=cur
            ·subst hqc
             rw[QdU]at hv
             have hc:Qlo oj=some c:=by simpa using hc
             rcases hstj.run with⟨_,_,_,_,_,_,_,hfa⟩ | ⟨_,_,_,hu⟩
             ·have:=hfa c hc _ hv
              rw[g1];exact this
             ·exfalso
              have hu:sj.v=undef:=by first | exact hu.1 | exact hu | (rename_i hu2;exact hu2)
              rw[hu]at hv
              rcases hv with⟨_,e,_⟩ | ⟨_,_,_,e,_⟩<;>cases e
            ·rw[K6 _ _ (fun h=>hqc h.symm)]at hv
             have hc:some cur=some c:=by have e:(q==cur)=false:=beq_false_of_ne hqc;simpa[e] using hc
             cases hc
             exact hv
          ·cases hb
        obtain⟨tm,htm⟩:∃tm,QjS ops i=some tm:=by
         unfold QiW at hbs
         cases htm:QjS ops i with
         | none=>rw[htm]at hbs;cases hbs
         | some tm=>exact⟨tm,rfl⟩
        have hx:x=.tmp tm:=by
         unfold QjS at htm
         rw[ho]at htm
         simp only[hload]at htm
         split at htm
         ·rename_i hh;cases hh;cases htm;rfl
         ·cases htm
        have ex':As i tm=.pointer (some a):=by rw[hx]at ex;rw[e1];exact ex
        have hbk0:Jj ops k' (i - k') tm=some bs:=by
         unfold QiW at hbs
         rw[htm]at hbs
         exact hbs
        have hmid:∀j,k'≤j→j≤i→∃c,QiW ops j i=some c∧InB (As j c) a.block:=fun j h1 h2=>by
         obtain⟨c,hc⟩:=QrW hbk0 h1 h2
         refine⟨c,by unfold QiW;rw[htm];exact hc,?_⟩
         refine hback j c (i - j) tm (by omega) hc ?_
         rw[show j+(i - j)=i by omega,ex']
         exact .inl ⟨a,rfl,rfl⟩
        have hpt:InB (As k' bs) a.block:=by
         obtain⟨c,hc1,hc2⟩:=hmid k' (Nat.le_refl _) (by omega)
         rw[hbs]at hc1
         cases hc1
         exact hc2
        have hbk:a.block<(Hs k').next:=by
         have hlow:∀z∈Qa7 ops (QA ops.toList []) k',∃b:Nat,InB (ev sk.t z) b∧b<sk.H.next:=by
          rcases hstk.run with⟨_,_,_,_,_,_,h9,_⟩ | ⟨_,h9,_⟩
          ·intro z hz
           obtain⟨b,h1,h2,_⟩:=h9 hfl (by simpa only[Qyv,hok] using hdir) z hz
           exact⟨b,h1,h2⟩
          ·rw[f4,h9]at hgk;cases hgk
         obtain⟨b,hb1,hb2⟩:=hlow (.tmp bs) (by
          unfold Qa7
          rw[List.mem_filterMap]
          have b1:Nat.blt k' i=true:=by simpa using hlt
          exact⟨i,List.mem_range.2 hi,by simp[b1,hld,Qd7,o1,o2,hbs]⟩)
         have hb1:InB (sk.t bs) b:=hb1
         rw[← f1]at hb1
         rw[f2,hpt.uniq hb1];exact hb2
        have hstep:∀j,k'≤j→j<i→a.block<(Hs j).next→(Hs (j+1)).get a.block=(Hs j).get a.block:=fun j h1 h2 hbl=>by
         rcases hall j h1 h2 with h4 | ⟨h4,h5,h6⟩
         ·exact hkeep j (by omega) (.inl h4) _ hbl
         ·cases hgj:gAt P ops j with
          | false=>exact hkeep j (by omega) (.inr ⟨h4,h5,hgj⟩) _ hbl
          | true=>
           have h6:Qd7 (QA ops.toList []) i j=true:=by
            rcases h6 with h6 | h6
            ·rw[hgj]at h6;cases h6
            ·exact h6
           obtain⟨oj,hoj⟩:=hops j (by omega)
           obtain⟨sj,hsj,hstj,g1,g2,g3,g4⟩:=hat j oj hoj
           have hGj:isG P oj=true:=by simpa only[gAt,hoj] using hgj
           have hdj:Qhp oj=true:=by
            unfold isG at hGj
            unfold Qhp
            split at hGj
            ·first | rfl | (rename_i hopj;rw[hopj])
            ·cases hGj
           obtain⟨c,hc1,hc2⟩:=hmid j h1 (by omega)
           rw[g2]
           rcases hstj.run with⟨_,_,_,_,_,_,h9,_⟩ | ⟨_,_,_,h9⟩
           ·obtain⟨b,hb1,hb2,hb3⟩:=h9 h4 hdj (.tmp c) (by
             unfold Qa7
             rw[List.mem_filterMap]
             have b1:Nat.blt j i=true:=by simpa using h2
             have u2:Qd7 (QA ops.toList []) i j=true:=h6
             exact⟨i,List.mem_range.2 hi,by simp[b1,hld,u2,hc1]⟩)
            have hb1:InB (sj.t c) b:=hb1
            rw[← g1]at hb1
            rw[hc2.uniq hb1]
            exact hb3 hGj
           ·rw[h9]
        have hmany:∀d,k'+d≤i→(Hs (k'+d)).get a.block=(Hs k').get a.block∧a.block<(Hs (k'+d)).next:=fun d=>by
         induction d with
         | zero=>exact fun _=>⟨rfl,hbk⟩
         | succ d ih=>
          intro hd
          obtain⟨i1,i2⟩:=ih (by omega)
          have hn1:=hnx (k'+d) (by omega)
          refine⟨?_,?_⟩
          ·rw[show k'+(d+1)=k'+d+1 by omega,hstep (k'+d) (by omega) (by omega) i2,i1]
          ·rw[show k'+(d+1)=k'+d+1 by omega];omega
        have h8:=(hmany (i - k') (by omega)).1
        rw[show k'+(i - k')=i by omega]at h8
        exact⟨h8.symm,hstep k' (Nat.le_refl _) hlt hbk⟩
      exact⟨by rw[JY hget.1,e2];exact hl',by rw[JY hget.2,JY hget.1,e2];exact hl',hbel⟩
     ·have hcalm:=(hch.2 i hi).1 hld o1 o2
      unfold QyP at hcalm
      simp only[Bool.and_eq_true,List.all_eq_true,List.mem_range]at hcalm
      obtain⟨⟨hlt,hsm⟩,hall⟩:=hcalm
      have hlt:i<k':=by simpa using hlt
      obtain⟨tm,htm⟩:=Option.isSome_iff_exists.1 hsm
      have hx:x=.tmp tm:=by
       unfold QjS at htm
       rw[ho]at htm
       simp only[hload]at htm
       split at htm
       ·rename_i hh;cases hh;cases htm;rfl
       ·cases htm
      subst hx
      have hstep:∀j,i≤j→j<ops.size→As j tm=.pointer (some a)→(WG ops j=false∨(K9 ops j=true∧Wo ops (QA ops.toList []) j=true∧gAt P ops j=false)∨(i<j∧QrI ops j=true∧Wo ops (QA ops.toList []) j=true∧Qd7 (QA ops.toList []) i j=true))→a.block<(Hs j).next→(Hs (j+1)).get a.block=(Hs j).get a.block:=fun j hij hj hA hg hbl=>by
       obtain⟨oj,hoj⟩:=hops j hj
       obtain⟨sj,hsj,hstj,f1,f2,f3,f4⟩:=hat j oj hoj
       rw[f2]at hbl ⊢
       rcases hstj.run with⟨_,hcl,hsyn,_,_,hsep,_⟩ | ⟨_,_,_,h4⟩
       ·cases hsc:sj.c with
        | pure=>rw[hsc]at hcl;rw[hcl.1]
        | load=>rw[hsc]at hcl;rw[hcl.1]
        | alloc b=>rw[hsc]at hcl;rw[hcl.1,Qa.get_push,if_neg (by omega)]
        | gen=>
         have hsg:WG ops j=true:=hgen j hj (by rw[f4,hsc];rfl)
         rcases hg with hg | hg | ⟨hij2,hg1,hg2,hg3⟩
         ·rw[hg]at hsg;cases hsg
         ·rw[← f2];rw[← f2]at hbl;exact hcallsame j hj hg.1 hg.2.1 hg.2.2 _ hbl
         ·simp only[QrI,hoj]at hg1
          obtain⟨a',hk1',hk2'⟩:=hsep hg2 hg1
          have hb2:=hk2' (.tmp tm) (by
           unfold Qln
           rw[List.mem_filterMap]
           exact⟨i,List.mem_range.2 hij2,by simp[hld,hg3,htm]⟩) a (by show sj.t tm=_;rw[← f1];exact hA)
          exact hk1' _ hb2
       ·rw[h4]
      have hb0:a.block<(Hs i).next:=by
       rw[e2]
       unfold Xr at hl'
       split at hl'
       ·rename_i hg;exact hst.wf.lt hg
       ·cases hl'
      have hA0:As i tm=.pointer (some a):=by rw[e1];exact ex
      have hall2:∀j,i≤j→j<k'→(∀oj,ops[j]? = some oj→oj.dst≠some tm)∧(WG ops j=false∨(K9 ops j=true∧Wo ops (QA ops.toList []) j=true∧gAt P ops j=false)∨(i<j∧QrI ops j=true∧Wo ops (QA ops.toList []) j=true∧Qd7 (QA ops.toList []) i j=true)):=fun j hij hjk=>by
       have:=hall j hjk
       have b1:Nat.blt j i=false:=by
        cases hb:Nat.blt j i with
        | false=>rfl
        | true=>rw[Nat.blt_eq]at hb;omega
       simp only[b1,Bool.or_eq_true,Bool.and_eq_true,htm,Bool.not_eq_true',Bool.false_eq_true,false_or]at this
       refine⟨fun oj hoj hd=>?_,?_⟩
       ·have h9:=this.1
        rw[hoj]at h9
        simp[hd]at h9
       ·rcases this.2 with(h | h) | h
        ·exact .inl h
        ·exact .inr (.inl ⟨h.1.1,h.1.2,h.2⟩)
        ·refine .inr (.inr ⟨?_,h.1.1,h.1.2,h.2⟩)
         rcases Nat.lt_or_ge i j with h' | h'
         ·exact h'
         ·have e:j=i:=by omega
          subst e
          have h7:=h.1.1
          unfold QrI QrH at h7
          rw[ho]at h7
          simp only[hload]at h7
          cases h7
      have hrun:∀d,i+d≤k'→As (i+d) tm=.pointer (some a)∧(Hs (i+d)).get a.block=(Hs i).get a.block∧a.block<(Hs (i+d)).next:=by
       intro d
       induction d with
       | zero=>exact fun _=>⟨hA0,rfl,hb0⟩
       | succ d ih=>
        intro hd
        obtain⟨i1,i2,i3⟩:=ih (by omega)
        have hj:i+d<ops.size:=by omega
        obtain⟨oj,hoj⟩:=hops (i+d) hj
        obtain⟨sj,hsj,hstj,f1,f2,f3,f4⟩:=hat (i+d) oj hoj
        obtain⟨g1,g2⟩:=hall2 (i+d) (by omega) (by omega)
        refine⟨?_,?_,?_⟩
        ·rw[show i+(d+1)=i+d+1 by omega,hstj.env,← f1,← i1]
         cases hdst:oj.dst with
         | none=>rfl
         | some q=>exact K6 _ _ (fun h=>g1 oj hoj (by rw[hdst,h]))
        ·rw[show i+(d+1)=i+d+1 by omega,hstep (i+d) (by omega) hj i1 g2 i3,i2]
        ·rw[show i+(d+1)=i+d+1 by omega]
         have:=hstj.next
         rw[← f2]at this
         omega
      obtain⟨r1,r2,r3⟩:=hrun (k' - i) (by omega)
      rw[show i+(k' - i)=k' by omega]at r1 r2 r3
      have hlast:=hstep k' (by omega) hk1 r1 (.inr (.inr ⟨hlt,hch.1,hfl,by unfold Qd7;rw[o1,o2];rfl⟩)) r3
      exact⟨by rw[JY r2,e2];exact hl',by rw[JY hlast,JY r2,e2];exact hl',hbel⟩
   ·left
    exact⟨hw,hv0,hH0,hc0⟩
 have hend:As ops.size=A1∧Hs ops.size=H1:=by
  have:tr[ops.size]? = none:=List.getElem?_eq_none (by omega)
  simp only[As,Hs,Qea,WH,this,and_self]
 have hAs0:As 0=A:=hA
 have hHs0:Hs 0=H:=hH
 have:=QpR (id:=id) (Q:=fun e A' H'=>e=.normal∧A'=A1∧H'=H1) hm F ⟨rfl,hend.1,hend.2⟩
 rwa [hAs0,hHs0]at this
def Fp (ks:Kp) (k:Env→Qa→Prop):Ex→Env→Qa→Prop
 | .normal,A,H=>k A H
 | .ret,A,H=>ks.ret A H
 | .exit j,A,H=>j<J0∧ks.ext j A H
 | .goto l,A,H=>ks.ext (J0+l) A H
 | _,_,_=>False
def Qos (ex:Ex) (A1:Env) (H1:Qa):Ex→Env→Qa→Prop:=fun e A H=>e=ex∧A=A1∧H=H1
theorem Qw8 (x y:PC) (ks:Kp) (k:Env→Qa→Prop) (A:Env) (H:Qa):Qp P (sq x y) ks k A H=Qp P x ks (Qp P y ks k) A H:=by
 unfold sq
 split<;>rfl
theorem QvA (x y:PC) (l:Nat) (hx:x=.skip→True):Z1 (sq x y) l=match Z1 x l with | some r=>some (sq r y) | none=>Z1 y l:=by
 unfold sq
 split
 ·simp[Z1]
 ·rename_i hne
  cases hf:Z1 x l with
  | none=>simp[Z1]
  | some r=>
   cases r<;>rfl
 ·rfl
theorem QiY:∀ (c:Code) (pc:PC),comp P n c=some pc→∀l,(∀rest,findLabel c l=some rest→∃pr,Z1 pc l=some pr∧comp P n rest=some pr)∧(findLabel c l=none→Z1 pc l=none):=by
 intro c
 induction c with
 | seq a b iha ihb=>
  intro pc h l
  simp only[comp]at h
  split at h
  ·rename_i x y hx hy
   simp only[Option.some.injEq]at h
   subst h
   obtain⟨a1,a2⟩:=iha x hx l
   obtain⟨b1,b2⟩:=ihb y hy l
   rw[QvA x y l (fun _=>trivial)]
   cases hf:findLabel a l with
   | some r=>
    obtain⟨pr,h1,h2⟩:=a1 r hf
    rw[h1]
    refine⟨fun rest hr=>?_,fun hn=>?_⟩
    ·simp only[findLabel,hf,Option.some.injEq]at hr
     subst hr
     exact⟨_,rfl,by simp only[comp,h2,hy]⟩
    ·simp only[findLabel,hf]at hn;cases hn
   | none=>
    rw[a2 hf]
    simp only[findLabel,hf]
    exact⟨b1,b2⟩
  ·cases h
 | label l'=>
  intro pc h l
  simp only[comp,Option.some.injEq]at h
  subst h
  refine⟨fun rest hr=>?_,fun hn=>?_⟩
  ·simp only[findLabel]at hr
   split at hr
   ·rename_i he
    have he:l'=l:=by simpa using he
    subst he
    cases hr
    exact⟨.skip,by simp[Z1],rfl⟩
   ·cases hr
  ·simp only[findLabel]at hn
   split at hn
   ·cases hn
   ·rename_i he
    have he:¬l'=l:=by simpa using he
    simp[Z1,X1,he]
 | scope b ih=>
  intro pc h l
  refine⟨fun rest hr=>(by cases hr),fun _=>?_⟩
  simp only[comp,Option.map_eq_some_iff]at h
  obtain⟨pb,hb,rfl⟩:=h
  unfold Qoj
  split
  ·rename_i hl
   exact nolab pb hl l
  ·split
   ·rfl
   ·rfl
  ·rfl
 | region id ops draw=>
  intro pc h l
  refine⟨fun rest hr=>(by cases hr),fun _=>?_⟩
  cases draw
  ·simp only[comp,Option.some.injEq]at h
   subst h
   split<;>rfl
  ·simp only[comp,Option.some.injEq]at h
   subst h
   split
   ·split<;>rfl
   ·rfl
 | cond x a b iha ihb=>
  intro pc h l
  refine⟨fun rest hr=>(by cases hr),fun _=>?_⟩
  simp only[comp]at h
  split at h
  ·split at h
   ·cases h;rfl
   ·cases h
  ·cases h
 | block id b ih=>
  intro pc h l
  refine⟨fun rest hr=>(by cases hr),fun _=>?_⟩
  simp only[comp,Option.map_eq_some_iff]at h
  obtain⟨pb,hb,rfl⟩:=h
  cases Nat.blt id J0<;>rfl
 | loop b ih=>
  intro pc h l
  refine⟨fun rest hr=>(by cases hr),fun _=>?_⟩
  simp only[comp,Option.map_eq_some_iff]at h
  obtain⟨pb,hb,rfl⟩:=h
  rfl
 | rangeFunc g ps a b iha ihb=>
  intro pc h l
  refine⟨fun rest hr=>(by cases hr),fun _=>?_⟩
  simp only[comp]at h
  split at h
  ·split at h
   ·cases h;rfl
   ·cases h
  ·cases h
 | exit id=>
  intro pc h l
  refine⟨fun rest hr=>(by cases hr),fun _=>?_⟩
  simp only[comp,Option.some.injEq]at h
  subst h
  cases Nat.blt id J0<;>rfl
 | _=>
  intro pc h l
  refine⟨fun rest hr=>(by cases hr),fun _=>?_⟩
  cases h
  rfl
 where
 nolab:∀ (pc:PC),Jk pc=[]→∀l,Z1 pc l=none
  | .seq a b,h,l=>by
   simp only[Jk,List.append_eq_nil_iff]at h
   simp only[Z1,nolab a h.1 l,nolab b h.2 l]
  | .label l',h,l=>by simp[Jk]at h
  | .skip,h,l=>rfl
  | .ops _,h,l=>rfl
  | .cond _ _ _,h,l=>rfl
  | .block _ _,h,l=>rfl
  | .loop _,h,l=>rfl
  | .exit _,h,l=>rfl
  | .ret,h,l=>rfl
  | .goto _,h,l=>rfl
  | .scope _ _ _,h,l=>rfl
  | .rangeF _ _ _ _,h,l=>rfl
  | .bad,h,l=>rfl
theorem G3:∀ (pc:PC) (l:Nat) (r:PC),Z1 pc l=some r→l∈Jk pc
 | .seq a b,l,r,h=>by
  simp only[Z1]at h
  simp only[Jk,List.mem_append]
  cases hf:Z1 a l with
  | some q=>exact .inl (G3 a l q hf)
  | none=>rw[hf]at h;exact .inr (G3 b l r h)
 | .label l',l,r,h=>by
  simp only[Z1]at h
  cases hb:Nat.beq l' l with
  | true=>simp[Jk,Nat.eq_of_beq_eq_true hb]
  | false=>rw[hb]at h;cases h
 | .skip,l,r,h=>by cases h
 | .ops _,l,r,h=>by cases h
 | .cond _ _ _,l,r,h=>by cases h
 | .block _ _,l,r,h=>by cases h
 | .loop _,l,r,h=>by cases h
 | .exit _,l,r,h=>by cases h
 | .ret,l,r,h=>by cases h
 | .goto _,l,r,h=>by cases h
 | .scope _ _ _,l,r,h=>by cases h
 | .rangeF _ _ _ _,l,r,h=>by cases h
 | .bad,l,r,h=>by cases h
def Snd (P:Program) (n:Nat) (c:Code) (pc:PC):Prop:=∀ (ks:Kp) (k:Env→Qa→Prop) (A:Env) (H:Qa),H.Wf→Qp P pc ks k A H→∃ex A1 H1,H1.Wf∧Fp ks k ex A1 H1∧AWp P n c (Qos ex A1 H1) A H
theorem Qtl {a b:Code} {x y:PC} (ha:Snd P n a x) (hb:Snd P n b y):Snd P n (.seq a b) (sq x y):=by
 intro ks k A H hwf h
 rw[Qw8]at h
 obtain⟨ex,A1,H1,hw1,hf,ha⟩:=ha ks _ A H hwf h
 cases ex with
 | normal=>
  obtain⟨ex2,A2,H2,hw2,hf2,ha2⟩:=hb ks k A1 H1 hw1 hf
  refine⟨ex2,A2,H2,hw2,hf2,Qg9 (ha.mono ?_)⟩
  rintro e A' H' ⟨rfl,rfl,rfl⟩
  exact ha2
 | ret=>exact⟨.ret,A1,H1,hw1,hf,Qg9 (ha.mono (by rintro e A' H' ⟨rfl,rfl,rfl⟩;exact⟨rfl,rfl,rfl⟩))⟩
 | exit j=>exact⟨.exit j,A1,H1,hw1,hf,Qg9 (ha.mono (by rintro e A' H' ⟨rfl,rfl,rfl⟩;exact⟨rfl,rfl,rfl⟩))⟩
 | goto j=>exact⟨.goto j,A1,H1,hw1,hf,Qg9 (ha.mono (by rintro e A' H' ⟨rfl,rfl,rfl⟩;exact⟨rfl,rfl,rfl⟩))⟩
 | panic v=>exact hf.elim
def QBb (P:Program) (n:Nat) (c:Code) (pc:PC):Prop:=Snd P n c pc∧∀l rest,findLabel c l=some rest→∃pr,Z1 pc l=some pr∧comp P n rest=some pr∧Snd P n rest pr
theorem Qot:∀ (c:Code) (pc:PC),comp P n c=some pc→QBb P n c pc:=by
 intro c
 induction c with
 | skip=>intro pc hc;cases hc;exact⟨fun ks k A H hwf h=>⟨.normal,A,H,hwf,h,Qk2 ⟨rfl,rfl,rfl⟩⟩,fun l rest h=>by cases h⟩
 | label l=>
  intro pc hc
  cases hc
  refine⟨fun ks k A H hwf h=>⟨.normal,A,H,hwf,h,Qnt ⟨rfl,rfl,rfl⟩⟩,fun l' rest h=>?_⟩
  obtain⟨pr,h1,h2⟩:=(QiY (P:=P) (n:=n) (.label l) (.label l) rfl l').1 rest h
  refine⟨pr,h1,h2,?_⟩
  simp only[findLabel]at h
  split at h
  ·cases h
   cases h2
   exact fun ks k A H hwf h=>⟨.normal,A,H,hwf,h,Qk2 ⟨rfl,rfl,rfl⟩⟩
  ·cases h
 | ret=>intro pc hc;cases hc;exact⟨fun ks k A H hwf h=>⟨.ret,A,H,hwf,h,Qs6 ⟨rfl,rfl,rfl⟩⟩,fun l rest h=>by cases h⟩
 | exit id=>
  intro pc hc
  simp only[comp,Option.some.injEq]at hc
  subst hc
  refine⟨fun ks k A H hwf h=>?_,fun l rest h=>by cases h⟩
  cases hb:Nat.blt id J0 with
  | true=>
   rw[hb]at h
   exact⟨.exit id,A,H,hwf,⟨by simpa using hb,h⟩,QpD ⟨rfl,rfl,rfl⟩⟩
  | false=>rw[hb]at h;exact h.elim
 | goto l=>intro pc hc;cases hc;exact⟨fun ks k A H hwf h=>⟨.goto l,A,H,hwf,h,QpE ⟨rfl,rfl,rfl⟩⟩,fun l rest h=>by cases h⟩
 | refuse s=>intro pc hc;cases hc;exact⟨fun ks k A H hwf h=>h.elim,fun l rest h=>by cases h⟩
 | rangeFunc g ps a b iha ihb=>
  intro pc hc
  refine⟨fun ks k A H hwf h=>?_,fun l rest h=>by cases h⟩
  simp only[comp]at hc
  split at hc
  ·rename_i hok
   split at hc
   ·rename_i pa pb ha hb
    cases hc
    simp only[Qp]at h
    split at h
    ·rename_i f xs ys hg
     obtain⟨hen,hcq⟩:=h (fun st=>Blk.loop A n ps a b st) (fun l args H0 Q hl hlen hp hwf0=>by
      have hlt:l<H0.next:=hwf0.lt hl
      obtain⟨ex,A1,H1,hw1,hf1,haw⟩:=(iha pa ha).1 _ _ _ _ (hwf0.kill l) hp
      cases ex with
      | ret=>exact hf1.elim
      | exit j=>exact hf1.2.elim
      | goto j=>exact hf1.elim
      | panic v=>exact hf1.elim
      | normal=>
       obtain⟨ex,A2,H2,hw2,hf2,hbw⟩:=(ihb pb hb).1 _ _ _ _ hw1 hf1
       have hlen:args.length=ps.size:=by simpa using hlen
       have hwset:∀b,H0.next≤H2.next→(H2.set l b).Wf:=fun b hn id hid=>by
        simp only[Qa.next_set]at hid
        rw[Qa.get_set,if_neg (by omega)];exact hw2 id hid
       have mk:∀v H',Qlg l (Blk.loop A n ps a b) v H' ex A2 H2→QnC P l args H0 v H':=fun v H' hre=>
        QjJ hl hlen (haw.mono (by
         rintro e A' H' ⟨rfl,rfl,rfl⟩
         exact hbw.mono (by rintro e A' H' ⟨rfl,rfl,rfl⟩;exact hre)))
       cases ex with
       | normal=>exact⟨_,_,mk _ _ ⟨rfl,Yi.refl _⟩,by simpa using hf2.1,hwset _ hf2.1,hf2.2⟩
       | ret=>exact⟨_,_,mk _ _ ⟨rfl,Yi.refl _⟩,by simpa using hf2.1,hwset _ hf2.1,hf2.2⟩
       | exit j=>exact⟨_,_,mk _ _ ⟨rfl,Yi.refl _⟩,by simpa using hf2.2.2.1,hwset _ hf2.2.2.1,hf2.2.2.2⟩
       | goto j=>exact absurd hf2.1 (by simp)
       | panic v=>exact hf2.elim)
     obtain⟨v,H2,hd,hnx,hwf2,st,hl,hj⟩:=hcq (hwf.push _)
     have hwk:(H2.kill H.next).Wf:=hwf2.kill _
     have mk:∀e,Qvf (Qos e A (H2.kill H.next)) A (H2.kill H.next) st→AWp P n (.rangeFunc g ps a b) (Qos e A (H2.kill H.next)) A H:=fun e hq=>Qfz hok hg hen hd hl hq
     unfold Qvp at hj
     split at hj
     ·exact⟨.normal,A,_,hwk,hj,mk _ ⟨rfl,rfl,rfl⟩⟩
     ·exact⟨.ret,A,_,hwk,hj,mk _ ⟨rfl,rfl,rfl⟩⟩
     ·rename_i j
      exact⟨.exit j,A,_,hwk,⟨by simpa using hj.1,hj.2⟩,mk _ ⟨rfl,rfl,rfl⟩⟩
     ·exact hj.elim
    ·exact h.elim
   ·cases hc
  ·cases hc
 | region id ops draw=>
  intro pc hc
  refine⟨fun ks k A H hwf h=>?_,fun l rest h=>by cases h⟩
  cases draw with
  | false=>
   simp only[comp,Option.some.injEq]at hc
   subst hc
   split at h
   ·rename_i pl hpl
    obtain⟨A1,H1,hw1,hk,ha⟩:=Qgl ops.toList 0 pl k A H hwf hpl h
    exact⟨.normal,A1,H1,hw1,hk,(by
     have hw:AWp P n (.region id ops.toList.toArray false) (Qos .normal A1 H1) A H:=Qk3 (l:=ops.toList) (by
      have ha:Qa5 P n ops ops.toList (Qos .normal A1 H1) A H:=ha
      simpa using ha)
     simpa using hw)⟩
   ·exact h.elim
  | true=>
   simp only[comp,Option.some.injEq]at hc
   subst hc
   split at h
   ·rename_i hcond
    simp only[Bool.and_eq_true]at hcond
    split at h
    ·rename_i pl hpl
     obtain⟨A1,H1,hw1,hk,ha⟩:=QrX (id:=id) hwf hcond.1.1.1 (fun o ho=>by simpa using Array.all_eq_true_iff_forall_mem.1 hcond.2 o ho) hcond.1.1.2 hcond.1.2 hpl h
     exact⟨.normal,A1,H1,hw1,hk,ha⟩
    ·exact h.elim
   ·exact h.elim
 | seq a b iha ihb=>
  intro pc hc
  have hc0:=hc
  simp only[comp]at hc
  split at hc
  ·rename_i x y hx hy
   simp only[Option.some.injEq]at hc
   subst hc
   obtain⟨a1,a2⟩:=iha x hx
   obtain⟨b1,b2⟩:=ihb y hy
   refine⟨Qtl a1 b1,fun l rest h=>?_⟩
   obtain⟨pr,h1,h2⟩:=(QiY _ _ hc0 l).1 rest h
   refine⟨pr,h1,h2,?_⟩
   cases hf:findLabel a l with
   | some r=>
    simp only[findLabel,hf,Option.some.injEq]at h
    subst h
    obtain⟨p1,q1,q2,q3⟩:=a2 l r hf
    simp only[comp,q2,hy,Option.some.injEq]at h2
    subst h2
    exact Qtl q3 b1
   | none=>
    simp only[findLabel,hf]at h
    obtain⟨p1,q1,q2,q3⟩:=b2 l rest h
    rw[h2]at q2
    cases q2
    exact q3
  ·cases hc
 | cond x a b iha ihb=>
  intro pc hc
  refine⟨fun ks k A H hwf h=>?_,fun l rest h=>by cases h⟩
  simp only[comp]at hc
  split at hc
  ·rename_i hok
   split at hc
   ·rename_i pa pb ha hb
    cases hc
    simp only[Qp]at h
    split at h
    ·rename_i t ht
     cases t with
     | true=>
      obtain⟨ex,A1,H1,hw1,hf,hw⟩:=(iha pa ha).1 ks k A H hwf (h.1 rfl)
      exact⟨ex,A1,H1,hw1,hf,Qha (t:=true) hok ht hw⟩
     | false=>
      obtain⟨ex,A1,H1,hw1,hf,hw⟩:=(ihb pb hb).1 ks k A H hwf (h.2 rfl)
      exact⟨ex,A1,H1,hw1,hf,Qha (t:=false) hok ht hw⟩
    ·exact h.elim
   ·cases hc
  ·cases hc
 | block id b ih=>
  intro pc hc
  refine⟨fun ks k A H hwf h=>?_,fun l rest h=>by cases h⟩
  simp only[comp,Option.map_eq_some_iff]at hc
  obtain⟨pb,hb,rfl⟩:=hc
  cases hlt:Nat.blt id J0 with
  | false=>rw[hlt]at h;exact h.elim
  | true=>
   rw[hlt]at h
   have hlt:id<J0:=by simpa using hlt
   obtain⟨ex,A1,H1,hw1,hf,hw⟩:=(ih pb hb).1 _ k A H hwf h
   cases ex with
   | normal=>exact⟨.normal,A1,H1,hw1,hf,Vh (hw.mono (by rintro e A' H' ⟨rfl,rfl,rfl⟩;exact⟨rfl,rfl,rfl⟩))⟩
   | ret=>exact⟨.ret,A1,H1,hw1,hf,Vh (hw.mono (by rintro e A' H' ⟨rfl,rfl,rfl⟩;exact⟨rfl,rfl,rfl⟩))⟩
   | exit j=>
    simp only[Fp]at hf
    by_cases hj:j=id
    ·rw[if_pos hj]at hf
     exact⟨.normal,A1,H1,hw1,hf.2,Vh (hw.mono (by rintro e A' H' ⟨rfl,rfl,rfl⟩;simp only[Qhb,if_pos hj];exact⟨rfl,rfl,rfl⟩))⟩
    ·rw[if_neg hj]at hf
     exact⟨.exit j,A1,H1,hw1,hf,Vh (hw.mono (by rintro e A' H' ⟨rfl,rfl,rfl⟩;simp only[Qhb,if_neg hj];exact⟨rfl,rfl,rfl⟩))⟩
   | goto j=>
    simp only[Fp]at hf
    rw[if_neg (by omega)]at hf
    exact⟨.goto j,A1,H1,hw1,hf,Vh (hw.mono (by rintro e A' H' ⟨rfl,rfl,rfl⟩;exact⟨rfl,rfl,rfl⟩))⟩
   | panic v=>exact hf.elim
 | loop b ih=>
  intro pc hc
  refine⟨fun ks k A H hwf h=>?_,fun l rest h=>by cases h⟩
  simp only[comp,Option.map_eq_some_iff]at hc
  obtain⟨pb,hb,rfl⟩:=hc
  obtain⟨I,⟨m,hm⟩,hround⟩:=h
  have key:∀m A H,H.Wf→I m A H→∃ex A1 H1,H1.Wf∧Fp ks k ex A1 H1∧Qd4 P n b (Qos ex A1 H1) A H:=by
   intro m
   induction m using Nat.strongRecOn with
   | _ m ihm=>
    intro A H hwf hI
    obtain⟨ex,A1,H1,hw1,hf,hw⟩:=(ih pb hb).1 ks _ A H hwf (hround m A H hI)
    cases ex with
    | normal=>
     obtain⟨m',hlt,hI'⟩:=hf
     obtain⟨ex2,A2,H2,hw2,hf2,hl2⟩:=ihm m' hlt A1 H1 hw1 hI'
     exact⟨ex2,A2,H2,hw2,hf2,Qbv (hw.mono (by rintro e A' H' ⟨rfl,rfl,rfl⟩;exact hl2))⟩
    | ret=>exact⟨.ret,A1,H1,hw1,hf,Qbv (hw.mono (by rintro e A' H' ⟨rfl,rfl,rfl⟩;exact⟨rfl,rfl,rfl⟩))⟩
    | exit j=>exact⟨.exit j,A1,H1,hw1,hf,Qbv (hw.mono (by rintro e A' H' ⟨rfl,rfl,rfl⟩;exact⟨rfl,rfl,rfl⟩))⟩
    | goto j=>exact⟨.goto j,A1,H1,hw1,hf,Qbv (hw.mono (by rintro e A' H' ⟨rfl,rfl,rfl⟩;exact⟨rfl,rfl,rfl⟩))⟩
    | panic v=>exact hf.elim
  obtain⟨ex,A1,H1,hw1,hf,hw⟩:=key m A H hwf hm
  exact⟨ex,A1,H1,hw1,hf,QjH hw⟩
 | scope b ih=>
  intro pc hc
  refine⟨fun ks k A H hwf h=>?_,fun l rest h=>by cases h⟩
  simp only[comp,Option.map_eq_some_iff]at hc
  obtain⟨pb,hb,rfl⟩:=hc
  have hsnd:=ih pb hb
  have plain:(∀l,findLabel b l=none)→Qp P pb ks k A H→∃ex A1 H1,H1.Wf∧Fp ks k ex A1 H1∧AWp P n (.scope b) (Qos ex A1 H1) A H:=fun hno h=>by
   obtain⟨ex,A1,H1,hw1,hf,hw⟩:=hsnd.1 ks k A H hwf h
   refine⟨ex,A1,H1,hw1,hf,Qcw (ZO (hw.mono ?_))⟩
   rintro e A' H' ⟨rfl,rfl,rfl⟩
   cases e with
   | goto j=>simp only[Qt9,hno j];exact⟨rfl,rfl,rfl⟩
   | _=>exact⟨rfl,rfl,rfl⟩
  unfold Qoj at h
  split at h
  ·rename_i hl
   refine plain (fun l=>?_) h
   cases hf:findLabel b l with
   | none=>rfl
   | some r=>
    obtain⟨pr,h1,_⟩:=hsnd.2 l r hf
    have:=G3 _ _ _ h1
    rw[hl]at this
    cases this
  ·rename_i l hl
   split at h
   ·rename_i r hr
    obtain⟨I,⟨m,hm⟩,hround⟩:=h
    obtain⟨rest,hrest⟩:∃rest,findLabel b l=some rest:=by
     cases hf:findLabel b l with
     | none=>rw[(QiY b pb hb l).2 hf]at hr;cases hr
     | some rest=>exact⟨rest,rfl⟩
    obtain⟨pr,q1,q2,q3⟩:=hsnd.2 l rest hrest
    rw[hr]at q1
    cases q1
    have hother:∀j,j≠l→findLabel b j=none:=fun j hj=>by
     cases hf:findLabel b j with
     | none=>rfl
     | some r2=>
      obtain⟨pr2,h1,_⟩:=hsnd.2 j r2 hf
      have:=G3 _ _ _ h1
      rw[hl,List.mem_singleton]at this
      exact absurd this hj
    have key:∀m (c:Code) (pcc:PC),Snd P n c pcc→∀A H,H.Wf→Qp P pcc ⟨ks.ret,jmK l I m ks.ext⟩ k A H→∃ex A1 H1,H1.Wf∧Fp ks k ex A1 H1∧Qaf P n b c (Qos ex A1 H1) A H:=by
     intro m
     induction m using Nat.strongRecOn with
     | _ m ihm=>
      intro c pcc hsc A H hwf hx
      obtain⟨ex,A1,H1,hw1,hf,hw⟩:=hsc _ k A H hwf hx
      cases ex with
      | normal=>exact⟨.normal,A1,H1,hw1,hf,ZO (hw.mono (by rintro e A' H' ⟨rfl,rfl,rfl⟩;exact⟨rfl,rfl,rfl⟩))⟩
      | ret=>exact⟨.ret,A1,H1,hw1,hf,ZO (hw.mono (by rintro e A' H' ⟨rfl,rfl,rfl⟩;exact⟨rfl,rfl,rfl⟩))⟩
      | exit j=>
       simp only[Fp,jmK]at hf
       rw[if_neg (by omega)]at hf
       exact⟨.exit j,A1,H1,hw1,hf,ZO (hw.mono (by rintro e A' H' ⟨rfl,rfl,rfl⟩;exact⟨rfl,rfl,rfl⟩))⟩
      | goto j=>
       simp only[Fp,jmK]at hf
       by_cases hj:j=l
       ·subst hj
        rw[if_pos rfl]at hf
        obtain⟨m',hlt,hI⟩:=hf
        obtain⟨ex2,A2,H2,hw2,hf2,hs2⟩:=ihm m' hlt rest r q3 A1 H1 hw1 (hround m' A1 H1 hI)
        refine⟨ex2,A2,H2,hw2,hf2,ZO (hw.mono ?_)⟩
        rintro e A' H' ⟨rfl,rfl,rfl⟩
        simp only[Qt9,hrest]
        exact hs2
       ·rw[if_neg (by omega)]at hf
        refine⟨.goto j,A1,H1,hw1,hf,ZO (hw.mono ?_)⟩
        rintro e A' H' ⟨rfl,rfl,rfl⟩
        simp only[Qt9,hother j hj]
        exact⟨rfl,rfl,rfl⟩
      | panic v=>exact hf.elim
    obtain⟨ex,A1,H1,hw1,hf,hw⟩:=key m b pb hsnd.1 A H hwf hm
    exact⟨ex,A1,H1,hw1,hf,Qcw hw⟩
   ·exact h.elim
  ·exact h.elim
theorem Qp5 (c:Code) (pc:PC) (ks:Kp) (k:Env→Qa→Prop) (A:Env) (H:Qa) (hwf:H.Wf) (hc:comp P n c=some pc) (h:Qp P pc ks k A H):
  ∃ex A1 H1,H1.Wf∧Fp ks k ex A1 H1∧AWp P n c (Qos ex A1 H1) A H:=(Qot c pc hc).1 ks k A H hwf h
def Qou (P:Program) (fn:Func) (k:Value→Qa→Prop):Env→Qa→Prop:=fun A H=>∃v,Qbu P fn.ntmps fn.results A H=some v∧∃H2,Yi H2 H∧(H.Wf→H2.Wf)∧k v H2
theorem Qlt {f:FuncId} {fn:Func} {pc:PC} {args:List Value} {H:Qa} {k:Value→Qa→Prop} (hf:P.funcs[f]? = some fn) (hcb:fn.body.bind (comp P fn.ntmps)=some pc) (he:entered P f=true) (hl:args.length≤fn.ntmps)
  (h:H.Wf→Qp P pc ⟨Qou P fn fun v H'=>H.next≤H'.next∧k v H',fun _ _ _=>False⟩ (Qou P fn fun v H'=>H.next≤H'.next∧k v H') (Yw args) H):Qe P f args H k:=by
 obtain⟨c,hb,hc⟩:=Option.bind_eq_some_iff.1 hcb
 intro hwf
 obtain⟨ex,A1,H1,hw1,hfp,hw⟩:=Qp5 c pc _ _ (Yw args) H hwf hc (h hwf)
 have en:args.length+(fn.ntmps - args.length)=fn.ntmps:=by omega
 have main:Qou P fn (fun v H'=>H.next≤H'.next∧k v H') A1 H1→(ex=.normal∨ex=.ret)→∃v H',Zo P f args H v H'∧H.next≤H'.next∧H'.Wf∧k v H':=fun⟨v,hv,H2,hle,hw2,hn,hk⟩ hex=>by
  refine⟨v,H2,.inl ⟨he,Qge hf hb ?_⟩,hn,hw2 hw1,hk⟩
  rw[en]
  refine hw.mono ?_
  rintro e A' H' ⟨rfl,rfl,rfl⟩
  rcases hex with rfl | rfl
  ·exact⟨v,rfl,hv,hle⟩
  ·exact⟨v,rfl,hv,hle⟩
 cases ex with
 | normal=>exact main hfp (.inl rfl)
 | ret=>exact main hfp (.inr rfl)
 | exit j=>exact hfp.2.elim
 | goto j=>exact hfp.elim
 | panic v=>exact hfp.elim
theorem YQ.mono {l:Nat} {args:List Value} {H:Qa} {k k':Value→Qa→Prop} (h:YQ P l args H k) (hk:∀v H',k v H'→k' v H'):YQ P l args H k':=by
 intro hw
 obtain⟨v,H',h1,h2,h3,h4⟩:=h hw
 exact⟨v,H',h1,h2,h3,hk v H' h4⟩
theorem YQ.then {l:Nat} {args:List Value} {H:Qa} {k k':Value→Qa→Prop} (h:YQ P l args H k) (hk:∀v H',H.next≤H'.next→k v H'→k' v H'):YQ P l args H k':=by
 intro hw
 obtain⟨v,H',h1,h2,h3,h4⟩:=h hw
 exact⟨v,H',h1,h2,h3,hk v H' h2 h4⟩
theorem Qe.mono {f:FuncId} {args:List Value} {H:Qa} {k k':Value→Qa→Prop} (h:Qe P f args H k) (hk:∀v H',k v H'→k' v H'):Qe P f args H k':=by
 intro hw
 obtain⟨v,H',h1,h2,h3,h4⟩:=h hw
 exact⟨v,H',h1,h2,h3,hk v H' h4⟩
theorem Qe.then {f:FuncId} {args:List Value} {H:Qa} {k k':Value→Qa→Prop} (h:Qe P f args H k) (hk:∀v H',H.next≤H'.next→k v H'→k' v H'):Qe P f args H k':=by
 intro hw
 obtain⟨v,H',h1,h2,h3,h4⟩:=h hw
 exact⟨v,H',h1,h2,h3,hk v H' h2 h4⟩
theorem QmO {f:FuncId} {args:List Value} {H:Qa} {v:Value} (he:entered P f=true) (h:JU P f args H (.ret v) H):Qe P f args H fun u H'=>u=v∧H'=H:=
 fun hw=>⟨v,H,.inl ⟨he,h⟩,Nat.le_refl _,hw,rfl,rfl⟩
end
def Qa.up (H:Qa) (m:Nat):Qa:=⟨m,H.tr⟩
theorem Qa.get_up (H:Qa) (m id:Nat):(H.up m).get id=H.get id:=Eq.trans rfl rfl
@[simp] theorem Qa.next_up (H:Qa) (m:Nat):(H.up m).next=m:=Eq.trans rfl rfl
@[simp] theorem Qa.up_up (H:Qa) (m m':Nat):(H.up m).up m'=H.up m':=rfl
theorem Yi.up {H H1:Qa} {m:Nat} (hm:H1.next≤m) (h:∀id b,H.get id=some b→H1.get id=some b):Yi (H.up m) H1:=⟨hm,h⟩
def t (n:Nat):Operand:=.tmp n
def U:Env:=fun _=>undef
theorem WU (A:Env) (d:Nat) (v:Value):upd A d v d=v:=QdU A d v
theorem Qq (A:Env) (d n:Nat) (v:Value) (h:n≠d):upd A d v n=A n:=K6 A v h
theorem Qtm (A:Env) (d n:Nat) (v:Value):upd A d v n=bif n==d then v else A n:=by
 by_cases h:n=d
 ·subst h;simp
 ·have e:(n==d)=false:=beq_false_of_ne h
  rw[K6 A v h,e];rfl
theorem QAg (A:Env) (n:Nat):ev A (t n)=A n:=Eq.trans rfl rfl
theorem Qp6 (A:Env) (v:Value):ev A (.const v)=v:=Eq.trans rfl rfl
theorem Quk (A:Env) (g:Nat):ev A (.global g)=.pointer (some ⟨g,0,none⟩):=Eq.trans rfl rfl
theorem Qw9 (A:Env) (f:Nat):ev A (.func f)=.func (.func f) #[] #[]:=Eq.trans rfl rfl
theorem QbD (A:Env) (d:Nat) (v:Value):YJ A (some d) v=upd A d v:=Eq.trans rfl rfl
theorem QnM (A:Env) (v:Value):YJ A none v=A:=Eq.trans rfl rfl
theorem QBc:Yw []=U:=by funext n;simp[Yw,U]
theorem QBd (a:Value):Yw [a]=upd U 0 a:=by
 funext n
 rcases n with _ | n
 ·rw[WU];rfl
 ·rw[Qq _ _ _ _ (by omega)];simp[Yw,U]
theorem QBe (a b:Value):Yw [a,b]=upd (upd U 0 a) 1 b:=by
 funext n
 rcases n with _ | _ | n
 ·rw[Qq _ _ _ _ (by omega),WU];rfl
 ·rw[WU];rfl
 ·rw[Qq _ _ _ _ (by omega),Qq _ _ _ _ (by omega)];simp[Yw,U]
theorem QBf (a b c:Value):Yw [a,b,c]=upd (upd (upd U 0 a) 1 b) 2 c:=by
 funext n
 rcases n with _ | _ | _ | n
 ·rw[Qq _ _ _ _ (by omega),Qq _ _ _ _ (by omega),WU];rfl
 ·rw[Qq _ _ _ _ (by omega),WU];rfl
 ·rw[WU];rfl
 ·rw[Qq _ _ _ _ (by omega),Qq _ _ _ _ (by omega),Qq _ _ _ _ (by omega)];simp[Yw,U]
theorem QBg (a b c d:Value):Yw [a,b,c,d]=upd (upd (upd (upd U 0 a) 1 b) 2 c) 3 d:=by
 funext n
 rcases n with _ | _ | _ | _ | n
 ·rw[Qq _ _ _ _ (by omega),Qq _ _ _ _ (by omega),Qq _ _ _ _ (by omega),WU];rfl
 ·rw[Qq _ _ _ _ (by omega),Qq _ _ _ _ (by omega),WU];rfl
 ·rw[Qq _ _ _ _ (by omega),WU];rfl
 ·rw[WU];rfl
 ·rw[Qq _ _ _ _ (by omega),Qq _ _ _ _ (by omega),Qq _ _ _ _ (by omega),Qq _ _ _ _ (by omega)];simp[Yw,U]
theorem QBh (a b c d e:Value):Yw [a,b,c,d,e]=upd (upd (upd (upd (upd U 0 a) 1 b) 2 c) 3 d) 4 e:=by
 funext n
 rcases n with _ | _ | _ | _ | _ | n
 ·rw[Qq _ _ _ _ (by omega),Qq _ _ _ _ (by omega),Qq _ _ _ _ (by omega),Qq _ _ _ _ (by omega),WU];rfl
 ·rw[Qq _ _ _ _ (by omega),Qq _ _ _ _ (by omega),Qq _ _ _ _ (by omega),WU];rfl
 ·rw[Qq _ _ _ _ (by omega),Qq _ _ _ _ (by omega),WU];rfl
 ·rw[Qq _ _ _ _ (by omega),WU];rfl
 ·rw[WU];rfl
 ·rw[Qq _ _ _ _ (by omega),Qq _ _ _ _ (by omega),Qq _ _ _ _ (by omega),Qq _ _ _ _ (by omega),Qq _ _ _ _ (by omega)];simp[Yw,U]
section
variable {k:Value→Qa→Prop} {v:Value} {H H':Qa}
theorem Qr:onS (some (v,H')) k=k v H':=by
 apply propext
 constructor
 ·rintro⟨v1,H1,h,hk⟩;cases h;exact hk
 ·exact fun h=>⟨_,_,rfl,h⟩
theorem Qlu:onS none k=False:=by
 apply propext
 constructor
 ·rintro⟨v1,H1,h,hk⟩;cases h
 ·exact fun h=>h.elim
theorem Qht {c:Prop} [Decidable c] {a:Option (Value×Qa)}:onS (if c then a else none) k=(c∧onS a k):=by
 by_cases h:c
 ·simp[h]
 ·simp[h,Qlu]
theorem Qeb {r:Option Value}:onS (Qd6 H r) k=∃v,r=some v∧k v H:=by
 cases r with
 | none=>simp[Qd6,Qlu]
 | some u=>simp[Qd6,Qr]
end
/-! ### Code -/
section
variable {P:Program}
def QjU (P:Program) (l:List PO) (k:Env→Qa→Prop) (A:Env) (d:Option Nat) (v:Value) (H:Qa):Prop:=Ga P l k (YJ A d v) H
theorem QcC (l:List PO) (k:Env→Qa→Prop) (A:Env) (d:Nat) (v:Value) (H:Qa):QjU P l k A (some d) v H=Ga P l k (upd A d v) H:=Eq.trans rfl rfl
theorem QrY (l:List PO) (k:Env→Qa→Prop) (A:Env) (v:Value) (H:Qa):QjU P l k A none v H=Ga P l k A H:=Eq.trans rfl rfl
def gB (b:Bool) (P:Program) (r:R) (s:Bool) (l:List PO) (k:Env→Qa→Prop) (A:Env) (d:Option Nat) (H:Qa):Prop:=
 (b=true→pr P r s A H (QjU P l k A d))∧(b=false→Ga P l k (YJ A d undef) H)
def gV (v:Value) (w:Bool) (P:Program) (r:R) (s:Bool) (l:List PO) (k:Env→Qa→Prop) (A:Env) (d:Option Nat) (H:Qa):Prop:=
 match v with
 | .bool b=>gB (b==w) P r s l k A d H
 | .tuple _=>Ga P l k (YJ A d undef) H
 | _=>False
theorem Qxa (r:R) (s:Bool) (l:List PO) (k:Env→Qa→Prop) (A:Env) (d:Option Nat) (H:Qa):gB true P r s l k A d H=pr P r s A H (QjU P l k A d):=by simp[gB]
theorem QvB (r:R) (s:Bool) (l:List PO) (k:Env→Qa→Prop) (A:Env) (d:Option Nat) (H:Qa):gB false P r s l k A d H=Ga P l k (YJ A d undef) H:=by simp[gB]
theorem Qxb (b w:Bool) (r:R) (s:Bool) (l:List PO) (k:Env→Qa→Prop) (A:Env) (d:Option Nat) (H:Qa):gV (.bool b) w P r s l k A d H=gB (b==w) P r s l k A d H:=Eq.trans rfl rfl
theorem QvC (w:Bool) (r:R) (s:Bool) (l:List PO) (k:Env→Qa→Prop) (A:Env) (d:Option Nat) (H:Qa):gV undef w P r s l k A d H=Ga P l k (YJ A d undef) H:=Eq.trans rfl rfl
theorem bt (b:Bool):(b==true)=b:=by cases b<;>rfl
theorem bf (b:Bool):(b==false)=!b:=by cases b<;>rfl
theorem Qhu (k:Env→Qa→Prop) (A:Env) (H:Qa):Ga P [] k A H=k A H:=Eq.trans rfl rfl
theorem Qe2 (d:Option Nat) (r:R) (s:Bool) (l:List PO) (k:Env→Qa→Prop) (A:Env) (H:Qa):Ga P (⟨d,r,none,s⟩::l) k A H=pr P r s A H (QjU P l k A d):=Eq.trans rfl rfl
theorem QrZ (d:Option Nat) (r:R) (n:Nat) (w s:Bool) (l:List PO) (k:Env→Qa→Prop) (A:Env) (H:Qa):Ga P (⟨d,r,some (n,w),s⟩::l) k A H=gV (A n) w P r s l k A d H:=by
 show pg (some (n,w)) A (pr P r s A H (QjU P l k A d)) (Ga P l k (YJ A d undef) H)=_
 show(match A n with | .bool b=>if b=w then pr P r s A H (QjU P l k A d) else Ga P l k (YJ A d undef) H | .tuple _=>Ga P l k (YJ A d undef) H | _=>False)=_
 unfold gV
 cases A n<;>try rfl
 rename_i b
 cases b<;>cases w<;>simp[gB]
theorem Qgm (ks:Kp) (k:Env→Qa→Prop) (A:Env) (H:Qa):Qp P .skip ks k A H=k A H:=Eq.trans rfl rfl
theorem Qul (ks:Kp) (k:Env→Qa→Prop) (A:Env) (H:Qa):Qp P .ret ks k A H=ks.ret A H:=Eq.trans rfl rfl
theorem Qr0 (id:Nat) (ks:Kp) (k:Env→Qa→Prop) (A:Env) (H:Qa):Qp P (.exit id) ks k A H=ks.ext id A H:=Eq.trans rfl rfl
theorem Qum (l:List PO) (ks:Kp) (k:Env→Qa→Prop) (A:Env) (H:Qa):Qp P (.ops l) ks k A H=Ga P l k A H:=Eq.trans rfl rfl
theorem Qe3 (a b:PC) (ks:Kp) (k:Env→Qa→Prop) (A:Env) (H:Qa):Qp P (.seq a b) ks k A H=Qp P a ks (Qp P b ks k) A H:=Eq.trans rfl rfl
theorem QjV (l:Nat) (ks:Kp) (k:Env→Qa→Prop) (A:Env) (H:Qa):Qp P (.label l) ks k A H=k A H:=Eq.trans rfl rfl
theorem Qr1 (l:Nat) (ks:Kp) (k:Env→Qa→Prop) (A:Env) (H:Qa):Qp P (.goto l) ks k A H=ks.ext (J0+l) A H:=Eq.trans rfl rfl
theorem Qp7 {b r:PC} {l:Nat} {ks:Kp} {k:Env→Qa→Prop} {A:Env} {H:Qa} (I:Nat→Env→Qa→Prop) (m:Nat) (h0:Qp P b ⟨ks.ret,jmK l I m ks.ext⟩ k A H) (h:∀m A' H',I m A' H'→Qp P r ⟨ks.ret,jmK l I m ks.ext⟩ k A' H'):Qp P (.scope b l r) ks k A H:=
 ⟨I,⟨m,h0⟩,h⟩
def exK (id:Nat) (k:Env→Qa→Prop) (e:Nat→Env→Qa→Prop) (j:Nat):Env→Qa→Prop:=if j=id then k else e j
theorem QvD (id:Nat) (k:Env→Qa→Prop) (e:Nat→Env→Qa→Prop) (A:Env) (H:Qa):exK id k e id A H=k A H:=by simp[exK]
theorem Qun (id j:Nat) (k:Env→Qa→Prop) (e:Nat→Env→Qa→Prop) (A:Env) (H:Qa) (h:j≠id):exK id k e j A H=e j A H:=by simp[exK,h]
def YH:Nat→Env→Qa→Prop:=fun _ _ _=>False
theorem Qp8 (id:Nat) (b:PC) (ks:Kp) (k:Env→Qa→Prop) (A:Env) (H:Qa):Qp P (.block id b) ks k A H=Qp P b ⟨ks.ret,exK id k ks.ext⟩ k A H:=Eq.trans rfl rfl
theorem Qy0 (r:Env→Qa→Prop) (e:Nat→Env→Qa→Prop):(Kp.mk r e).ret=r:=Eq.trans rfl rfl
theorem Qy1 (r:Env→Qa→Prop) (e:Nat→Env→Qa→Prop):(Kp.mk r e).ext=e:=Eq.trans rfl rfl
def cB (b:Bool) (P:Program) (x y:PC) (ks:Kp) (k:Env→Qa→Prop) (A:Env) (H:Qa):Prop:=(b=true→Qp P x ks k A H)∧(b=false→Qp P y ks k A H)
def cV (v:Value) (P:Program) (x y:PC) (ks:Kp) (k:Env→Qa→Prop) (A:Env) (H:Qa):Prop:=match v with
 | .bool b=>cB b P x y ks k A H
 | _=>False
theorem Qr2 (c:Operand) (x y:PC) (ks:Kp) (k:Env→Qa→Prop) (A:Env) (H:Qa):Qp P (.cond c x y) ks k A H=cV (ev A c) P x y ks k A H:=Eq.trans rfl rfl
theorem Qxc (b:Bool) (x y:PC) (ks:Kp) (k:Env→Qa→Prop) (A:Env) (H:Qa):cV (.bool b) P x y ks k A H=cB b P x y ks k A H:=Eq.trans rfl rfl
theorem Qtn (x y:PC) (ks:Kp) (k:Env→Qa→Prop) (A:Env) (H:Qa):cB true P x y ks k A H=Qp P x ks k A H:=by simp[cB]
theorem Qlv (x y:PC) (ks:Kp) (k:Env→Qa→Prop) (A:Env) (H:Qa):cB false P x y ks k A H=Qp P y ks k A H:=by simp[cB]
/-! ### Operations -/
variable {k:Value→Qa→Prop} {A:Env} {H:Qa}
def flK (H:Qa) (k:Value→Qa→Prop) (v:Value) (H':Qa):Prop:=Qj H.next 6 v=true∧k v H'
theorem Quo (H:Qa) (k:Value→Qa→Prop) (v:Value) (H':Qa):flK H k v H'=(Qj H.next 6 v=true∧k v H'):=Eq.trans rfl rfl
def stK (H:Qa) (k:Value→Qa→Prop) (v:Value) (H':Qa):Prop:=(∀id,H'.get id=H.get id)∧k v H'
theorem Qup (H:Qa) (k:Value→Qa→Prop) (v:Value) (H':Qa):stK H k v H'=((∀id,H'.get id=H.get id)∧k v H'):=Eq.trans rfl rfl
theorem Q6 (r:Option (Value×Qa)):onS r (fun v H'=>(false=true→Qj H.next 6 v=true)∧k v H')=onS r k:=by
 congr 1;funext v H';simp
theorem Qxd (r:Option (Value×Qa)):onS r (fun v H'=>(true=true→Qj H.next 6 v=true)∧k v H')=onS r (flK H k):=by
 congr 1;funext v H';simp[flK]
theorem Qxe (f:FuncId) (l:List Operand):pr P (.call f l) false A H k=Qe P f (l.map (ev A)) H k:=by
 show Qe P f (l.map (ev A)) H (fun v H'=>(false=true→∀id,H'.get id=H.get id)∧k v H')=_
 congr 1;funext v H';simp
theorem Qr3 (f:FuncId) (l:List Operand):pr P (.call f l) true A H k=Qe P f (l.map (ev A)) H (stK H k):=by
 show Qe P f (l.map (ev A)) H (fun v H'=>(true=true→∀id,H'.get id=H.get id)∧k v H')=_
 congr 1;funext v H';simp[stK]
def kpK (H:Qa) (k:Value→Qa→Prop) (v:Value) (H':Qa):Prop:=EqB H H'∧k v H'
theorem Quq (H:Qa) (k:Value→Qa→Prop) (v:Value) (H':Qa):kpK H k v H'=(EqB H H'∧k v H'):=Eq.trans rfl rfl
def Qr4 (n:Nat):List Value→Prop
 | []=>True
 | v::l=>QmI n v∧Qr4 n l
theorem QvE (n:Nat):Qr4 n []=True:=Eq.trans rfl rfl
theorem Qur (n:Nat) (v:Value) (l:List Value):Qr4 n (v::l)=(QmI n v∧Qr4 n l):=Eq.trans rfl rfl
theorem QvF (n b o:Nat):QmI n (.pointer (some ⟨b,o,none⟩))=(b<n):=Eq.trans rfl rfl
theorem Qr5 (n b o l c:Nat):QmI n (.slice (some ⟨b,o,none⟩) l c)=(b<n):=Eq.trans rfl rfl
theorem Qp9 (n:Nat) (f:Operand→Value):∀l:List Operand,(∀z∈l,QmI n (f z))↔Qr4 n (l.map f)
 | []=>⟨fun _=>trivial,fun _ _ h=>by cases h⟩
 | x::l=>by
  have ih:=Qp9 n f l
  simp only[List.mem_cons,forall_eq_or_imp,List.map_cons,Qr4,ih]
theorem QvG (f:FuncId) (l os:List Operand) (s:Bool):pr P (.callF f l os) s A H k=(Qr4 H.next (os.map (ev A))∧Qe P f (l.map (ev A)) H (kpK H k)):=by
 show((∀z∈os,QmI H.next (ev A z))∧Qe P f (l.map (ev A)) H fun v H'=>EqB H H'∧k v H')=_
 rw[Qp9]
 rfl
def cvK (v:Value) (P:Program) (l:List Value) (H:Qa) (k:Value→Qa→Prop):Prop:=match v with
 | .func (.func f) xs ys=>Qe P f (xs.toList++l++ys.toList) H k
 | .func (.yield y) ⟨[]⟩ ⟨[]⟩=>YQ P y l H k
 | _=>False
theorem Vj (y:Nat) (l:List Value):cvK (.func (.yield y) #[] #[]) P l H k=YQ P y l H k:=Eq.trans rfl rfl
theorem KX (f:FuncId) (xs ys l:List Value):cvK (.func (.func f) xs.toArray ys.toArray) P l H k=Qe P f (xs++l++ys) H k:=Eq.trans rfl rfl
theorem QvH (c:Operand) (l:List Operand):pr P (.callv c l) false A H k=cvK (ev A c) P (l.map (ev A)) H k:=by
 show(match ev A c with | .func (.func f) xs ys=>Qe P f (xs.toList++l.map (ev A)++ys.toList) H (fun v H'=>(false=true→∀id,H'.get id=H.get id)∧k v H') | .func (.yield y) ⟨[]⟩ ⟨[]⟩=>YQ P y (l.map (ev A)) H (fun v H'=>(false=true→∀id,H'.get id=H.get id)∧k v H') | _=>False)=_
 unfold cvK
 split<;>first | rfl | skip
 all_goals (congr 1;funext v H';simp)
theorem Qto (x:Operand):pr P (.mv x) false A H k=k (ev A x) H:=(Q6 _).trans Qr
def Qyx (c x y:Value) (H:Qa) (k:Value→Qa→Prop):Prop:=onS (match c with | .bool b=>some (bif b then x else y,H) | _=>none) k
theorem Qxf (c x y:Operand):pr P (.pick c x y) false A H k=Qyx (ev A c) (ev A x) (ev A y) H k:=Q6 _
theorem Qr6 (b:Bool) (x y:Value):Qyx (.bool b) x y H k=k (bif b then x else y) H:=Qr
def JZ (op:BinOp) (x y:Value) (H:Qa) (k:Value→Qa→Prop):Prop:=∃v,JX op x y=some v∧k v H
theorem Qy2 (op:BinOp) (x y:Operand):pr P (.bin op x y) false A H k=JZ op (ev A x) (ev A y) H k:=(Q6 _).trans Qeb
theorem WJ {op:BinOp} {x y v:Value} (h:JX op x y=some v):JZ op x y H k=k v H:=by
 apply propext
 constructor
 ·rintro⟨u,h1,h2⟩;rw[h]at h1;cases h1;exact h2
 ·exact fun hk=>⟨v,h,hk⟩
theorem Qxg (ik:IntKind) (a b:Int):JZ .add (.int ik a) (.int ik b) H k=k (.int ik (ik.wrap (a+b))) H:=WJ (by simp[JX,XN])
theorem Qxh (ik:IntKind) (a b:Int):JZ .sub (.int ik a) (.int ik b) H k=k (.int ik (ik.wrap (a - b))) H:=WJ (by simp[JX,XN])
theorem Qxi (ik:IntKind) (a b:Int):JZ .mul (.int ik a) (.int ik b) H k=k (.int ik (ik.wrap (a * b))) H:=WJ (by simp[JX,XN])
theorem Qxj (ik:IntKind) (a b:Int):JZ .and (.int ik a) (.int ik b) H k=k (.int ik (ik.wrap (BitVec.ofInt ik.bits a &&& BitVec.ofInt ik.bits b).toNat)) H:=WJ (by simp[JX,XN])
theorem Qy3 (ik:IntKind) (a b:Int):JZ .or (.int ik a) (.int ik b) H k=k (.int ik (ik.wrap (BitVec.ofInt ik.bits a ||| BitVec.ofInt ik.bits b).toNat)) H:=WJ (by simp[JX,XN])
theorem Qxk (ik:IntKind) (a b:Int):JZ .xor (.int ik a) (.int ik b) H k=k (.int ik (ik.wrap (BitVec.ofInt ik.bits a ^^^ BitVec.ofInt ik.bits b).toNat)) H:=WJ (by simp[JX,XN])
theorem Qr7 (ik:IntKind) (a b:Int):JZ .andNot (.int ik a) (.int ik b) H k=k (.int ik (ik.wrap (BitVec.ofInt ik.bits a &&& ~~~BitVec.ofInt ik.bits b).toNat)) H:=WJ (by simp[JX,XN])
theorem Qxl (ik:IntKind) (a b:Int):JZ .eql (.int ik a) (.int ik b) H k=k (.bool (a==b)) H:=WJ (by simp[JX,XN])
theorem Qxm (ik:IntKind) (a b:Int):JZ .neq (.int ik a) (.int ik b) H k=k (.bool (!(a==b))) H:=WJ (by simp[JX,XN,bne])
theorem Qxn (ik:IntKind) (a b:Int):JZ .lss (.int ik a) (.int ik b) H k=k (.bool (decide (a<b))) H:=WJ (by simp[JX,XN])
theorem Qxo (ik:IntKind) (a b:Int):JZ .leq (.int ik a) (.int ik b) H k=k (.bool (decide (a≤b))) H:=WJ (by simp[JX,XN])
theorem Qxp (ik:IntKind) (a b:Int):JZ .gtr (.int ik a) (.int ik b) H k=k (.bool (decide (b<a))) H:=WJ (by simp[JX,XN])
theorem Qxq (ik:IntKind) (a b:Int):JZ .geq (.int ik a) (.int ik b) H k=k (.bool (decide (b≤a))) H:=WJ (by simp[JX,XN])
theorem Qxr (ik:IntKind) (a b:Int):JZ .rem (.int ik a) (.int ik b) H k=(b≠0∧k (.int ik (a.tmod b)) H):=by
 unfold JZ;by_cases h:b=0<;>simp[JX,XN,h]
theorem Qxs (ik:IntKind) (a b:Int):JZ .quo (.int ik a) (.int ik b) H k=(b≠0∧k (.int ik (ik.wrap (a.tdiv b))) H):=by
 unfold JZ;by_cases h:b=0<;>simp[JX,XN,h]
theorem Qxt (ik ik':IntKind) (a b:Int):JZ .shl (.int ik a) (.int ik' b) H k=(0≤b∧k (.int ik (ik.wrap (a * 2 ^ (min b.toNat ik.bits)))) H):=by
 unfold JZ;by_cases h:b<0
 ·simp[JX,KR,h];omega
 ·simp[JX,KR,h];intro _;omega
theorem Qxu (ik ik':IntKind) (a b:Int):JZ .shr (.int ik a) (.int ik' b) H k=(0≤b∧k (.int ik (a.fdiv (2 ^ (min b.toNat ik.bits)))) H):=by
 unfold JZ;by_cases h:b<0
 ·simp[JX,KR,h];omega
 ·simp[JX,KR,h];intro _;omega
theorem Qxv (a b:ByteArray):JZ .eql (.string a) (.string b) H k=k (.bool (bl a==bl b)) H:=WJ (by simp[JX,Qgb])
theorem Qxw (a b:ByteArray):JZ .neq (.string a) (.string b) H k=k (.bool (!(bl a==bl b))) H:=WJ (by simp[JX,Qgb])
theorem QvI (a b:ByteArray):JZ .add (.string a) (.string b) H k=((bl a).length+(bl b).length≤9223372036854775807∧k (.string (mkS (bl a++bl b))) H):=by
 unfold JZ;by_cases h:(bl a).length+(bl b).length≤9223372036854775807<;>simp[JX,Qgb,h]
def Qy4 (ne:Bool) (x y:Value) (H:Qa) (k:Value→Qa→Prop):Prop:=onS (match x,y with | .bool a,.bool b=>some (.bool (bif ne then !(a==b) else a==b),H) | _,_=>none) k
theorem Qy5 (ne:Bool) (x y:Operand):pr P (.beq ne x y) false A H k=Qy4 ne (ev A x) (ev A y) H k:=Q6 _
theorem Qxx (a b:Bool):Qy4 false (.bool a) (.bool b) H k=k (.bool (a==b)) H:=Qr
theorem Qxy (a b:Bool):Qy4 true (.bool a) (.bool b) H k=k (.bool (!(a==b))) H:=Qr
def Qxz (ne:Bool) (ks:List Sk) (x y:Value) (H:Qa) (k:Value→Qa→Prop):Prop:=onS (match x,y with
 | .agg xs,.agg ys=>match G0 ks xs ys 0 with | some b=>some (.bool (bif ne then !b else b),H) | none=>none
 | _,_=>none) k
theorem Qy6 (ne:Bool) (ks:List Sk) (x y:Operand):pr P (.eqs ne ks x y) false A H k=Qxz ne ks (ev A x) (ev A y) H k:=Q6 _
theorem Qus {ne:Bool} {ks:List Sk} {xs ys:Array Value} {b:Bool} (h:G0 ks xs ys 0=some b):Qxz ne ks (.agg xs) (.agg ys) H k=k (.bool (bif ne then !b else b)) H:=by
 simp only[Qxz,h,Qr]
def QAh (x:Value) (H:Qa) (k:Value→Qa→Prop):Prop:=onS (match x with | .bool b=>some (.bool !b,H) | _=>none) k
theorem Qy7 (x:Operand):pr P (.not x) false A H k=QAh (ev A x) H k:=Q6 _
theorem Qut (b:Bool):QAh (.bool b) H k=k (.bool !b) H:=Qr
def QvJ (ik:IntKind) (x:Value) (H:Qa) (k:Value→Qa→Prop):Prop:=onS (match x with | .int _ m=>some (.int ik (ik.wrap m),H) | _=>none) k
theorem QvK (ik:IntKind) (x:Operand):pr P (.toInt ik x) false A H k=QvJ ik (ev A x) H k:=Q6 _
theorem Qr8 (ik ik':IntKind) (m:Int):QvJ ik (.int ik' m) H k=k (.int ik (ik.wrap m)) H:=Qr
theorem QxA (ty:TypeId) (x:Operand):pr P (.mkIf ty x) false A H k=k (.iface ty (ev A x)) H:=(Q6 _).trans Qr
def Qy8 (agg:Bool) (off size:Nat) (x:Value) (H:Qa) (k:Value→Qa→Prop):Prop:=onS (match x with
 | .agg cs=>Qd6 H (bif agg then some (.agg (cs.extract off (off+size))) else cs[off]?)
 | _=>none) k
theorem Qy9 (agg:Bool) (off size:Nat) (x:Operand):pr P (.fld agg off size x) false A H k=Qy8 agg off size (ev A x) H k:=Q6 _
theorem Quu (off size:Nat) (l:List Value):Qy8 false off size (.agg l.toArray) H k=∃v,l[off]? = some v∧k v H:=by
 show onS (Qd6 H l.toArray[off]?) k=_
 rw[Qeb];simp
theorem QvL (off size:Nat) (l:List Value):Qy8 true off size (.agg l.toArray) H k=k (.agg ((l.drop off).take size).toArray) H:=by
 show onS (Qd6 H (some (.agg (l.toArray.extract off (off+size))))) k=_
 rw[Qeb];simp
def Qyy (off:Nat) (x:Value) (H:Qa) (k:Value→Qa→Prop):Prop:=onS (match x with | .pointer (some a)=>some (.pointer (some ⟨a.block,a.off+off,none⟩),H) | _=>none) k
theorem QxB (off:Nat) (x:Operand):pr P (.fldA off x) false A H k=Qyy off (ev A x) H k:=Q6 _
theorem Quv (off b o:Nat):Qyy off (.pointer (some ⟨b,o,none⟩)) H k=k (.pointer (some ⟨b,o+off,none⟩)) H:=Qr
def QAi (size:Nat) (x ix:Value) (H:Qa) (k:Value→Qa→Prop):Prop:=onS (match ix,x with
 | .int _ m,.slice (some a) len _=>if 0≤m∧m<len then some (.pointer (some ⟨a.block,a.off+m.toNat * size,none⟩),H) else none
 | _,_=>none) k
theorem QxC (size:Nat) (x ix:Operand):pr P (.idxS size x ix) false A H k=QAi size (ev A x) (ev A ix) H k:=Q6 _
theorem Qr9 (size:Nat) (ik:IntKind) (m:Int) (b o len cap:Nat):QAi size (.slice (some ⟨b,o,none⟩) len cap) (.int ik m) H k=((0≤m∧m<len)∧k (.pointer (some ⟨b,o+m.toNat * size,none⟩)) H):=by
 show onS (if 0≤m∧m<len then some (.pointer (some ⟨b,o+m.toNat * size,none⟩),H) else none) k=_
 rw[Qht,Qr]
def QAj (x ix:Value) (H:Qa) (k:Value→Qa→Prop):Prop:=onS (match ix,x with
 | .int _ m,.string s=>if 0≤m then(match (bl s)[m.toNat]? with | some b=>some (.int .u8 b.toNat,H) | none=>none) else none
 | _,_=>none) k
theorem Qza (x ix:Operand):pr P (.chr x ix) false A H k=QAj (ev A x) (ev A ix) H k:=Q6 _
theorem QvM (ik:IntKind) (m:Int) (s:ByteArray):QAj (.string s) (.int ik m) H k=(0≤m∧∃b,(bl s)[m.toNat]? = some b∧k (.int .u8 b.toNat) H):=by
 show onS (if 0≤m then(match (bl s)[m.toNat]? with | some b=>some (.int .u8 b.toNat,H) | none=>none) else none) k=_
 rw[Qht]
 congr 1
 cases hb:(bl s)[m.toNat]? with
 | some b=>simp[Qr]
 | none=>simp[Qlu]
def QxD (x:Value) (i:Nat) (H:Qa) (k:Value→Qa→Prop):Prop:=onS (match x with | .tuple vs=>Qd6 H vs[i]? | _=>none) k
theorem Qzb (x:Operand) (i:Nat):pr P (.ext x i) false A H k=QxD (ev A x) i H k:=Q6 _
theorem Qzc (a:Value) (l:List Value):QxD (.tuple (a::l).toArray) 0 H k=k a H:=Qr
theorem Qzd (a b:Value) (l:List Value):QxD (.tuple (a::b::l).toArray) 1 H k=k b H:=Qr
theorem Qze (a b c:Value) (l:List Value):QxD (.tuple (a::b::c::l).toArray) 2 H k=k c H:=Qr
def Qlw (ty:TypeId) (z:Value) (ok:Bool) (x:Value) (H:Qa) (k:Value→Qa→Prop):Prop:=onS (match x with
 | .nilIface=>bif ok then some (.tuple #[z,.bool false],H) else none
 | .iface u v=>if u=ty then some (bif ok then .tuple #[v,.bool true] else v,H) else(bif ok then some (.tuple #[z,.bool false],H) else none)
 | _=>none) k
theorem QxE (ty:TypeId) (z:Value) (ok:Bool) (x:Operand):pr P (.asrt ty z ok x) false A H k=Qlw ty z ok (ev A x) H k:=Q6 _
theorem Quw (ty:TypeId) (z v:Value):Qlw ty z true (.iface ty v) H k=k (.tuple #[v,.bool true]) H:=by simp[Qlw,Qr]
theorem QvN (ty u:TypeId) (z v:Value) (h:u≠ty):Qlw ty z true (.iface u v) H k=k (.tuple #[z,.bool false]) H:=by simp[Qlw,h,Qr]
theorem Qsa (ty:TypeId) (z v:Value):Qlw ty z false (.iface ty v) H k=k v H:=by simp[Qlw,Qr]
def QvO (r:Option (List Value)) (H:Qa) (k:Value→Qa→Prop):Prop:=onS (match r with | some r=>some (.agg r.toArray,H) | none=>none) k
theorem QvP (z:List Value) (parts:List (Nat×Nat×Operand)):pr P (.build z parts) false A H k=QvO (QjP (ev A) z parts) H k:=Q6 _
theorem Qqa (l:List Value):QvO (some l) H k=k (.agg l.toArray) H:=Qr
theorem Qux (f:Operand→Value) (cells:List Value):QjP f cells []=some cells:=Eq.trans rfl rfl
theorem Qlx (f:Operand→Value) (cells:List Value) (off size:Nat) (x:Operand) (rest:List (Nat×Nat×Operand)):QjP f cells ((off,size,x)::rest)=if(f x).cells.toList.length=size∧off+size≤cells.length then QjP f (splice cells off (f x).cells.toList) rest else none:=Eq.trans rfl rfl
def Qtp (e len:Nat) (r:Option (List Value)) (H:Qa) (k:Value→Qa→Prop):Prop:=onS (match r with | some r=>some (.slice (some ⟨H.next,0,none⟩) len len,H.push (.cells r e false)) | none=>none) k
def Qtq (size:Nat) (cells:List Value) (parts:List (Nat×Value)):Option (List Value):=Qae (fun i=>some (i * size,size)) cells parts
def evP (A:Env) (p:Nat×Operand):Nat×Value:=(p.1,ev A p.2)
theorem Qzf (A:Env) (i:Nat) (x:Operand):evP A (i,x)=(i,ev A x):=Eq.trans rfl rfl
theorem Quy (e size len:Nat) (z:List Value) (parts:List (Nat×Operand)):pr P (.bslice e size len z parts) false A H k=Qtp e len (Qtq size z (parts.map (evP A))) H k:=Q6 _
theorem Qov (e len:Nat) (l:List Value):Qtp e len (some l) H k=k (.slice (some ⟨H.next,0,none⟩) len len) (H.push (.cells l e false)):=Qr
theorem Quz (size:Nat) (cells:List Value):Qtq size cells []=some cells:=Eq.trans rfl rfl
theorem Qly (size:Nat) (cells:List Value) (i:Nat) (v:Value) (rest:List (Nat×Value)):Qtq size cells ((i,v)::rest)=if v.cells.toList.length=size∧i * size+size≤cells.length then Qtq size (splice cells (i * size) v.cells.toList) rest else none:=Eq.trans rfl rfl
theorem QvQ (e:TypeId) (z:List Value):pr P (.alloc e z) false A H k=k (.pointer (some ⟨H.next,0,none⟩)) (H.push (.cells z e false)):=(Q6 _).trans Qr
theorem Qzg (e:TypeId) (x:Operand):pr P (.box e x) false A H k=k (.pointer (some ⟨H.next,0,none⟩)) (H.push (.cells (ev A x).cells.toList e false)):=(Q6 _).trans Qr
def Qyz (e size bytes:Nat) (z:List Value) (x y:Value) (H:Qa) (k:Value→Qa→Prop):Prop:=onS (match x,y with
 | .int .i64 l,.int .i64 c=>if 0≤l∧l≤c∧(bytes:Int) * c≤281474976710656∧c≤9223372036854775807 then
   some (.slice (some ⟨H.next,0,none⟩) l.toNat c.toNat,H.push (.cells (W9 z.toArray (c.toNat * size)) e false)) else none
 | _,_=>none) k
theorem QxF (e size bytes:Nat) (z:List Value) (x y:Operand):pr P (.mkSl e size bytes z x y) false A H k=Qyz e size bytes z (ev A x) (ev A y) H k:=Q6 _
theorem QuA (e size bytes:Nat) (z:List Value) (l c:Int):Qyz e size bytes z (.int .i64 l) (.int .i64 c) H k=((0≤l∧l≤c∧(bytes:Int) * c≤281474976710656∧c≤9223372036854775807)∧k (.slice (some ⟨H.next,0,none⟩) l.toNat c.toNat) (H.push (.cells (W9 z.toArray (c.toNat * size)) e false))):=by
 show onS (if 0≤l∧l≤c∧(bytes:Int) * c≤281474976710656∧c≤9223372036854775807 then some (.slice (some ⟨H.next,0,none⟩) l.toNat c.toNat,H.push (.cells (W9 z.toArray (c.toNat * size)) e false)) else none) k=_
 rw[Qht,Qr]
def slK (size:Nat) (x:Value) (lo hi:Option (Option Int)) (H:Qa) (k:Value→Qa→Prop):Prop:=onS (match lo,hi with
 | some l,some h=>Qd6 H (Jg size x l h none)
 | _,_=>none) k
theorem QvR (size:Nat) (x:Value) (l h:Option Int):slK size x (some l) (some h) H k=∃v,Jg size x l h none=some v∧k v H:=Qeb
theorem Qzh (size:Nat) (x:Operand) (lo hi:Option Operand):pr P (.slS size x lo hi) false A H k=slK size (ev A x) (QnH (ev A) lo) (QnH (ev A) hi) H k:=Q6 _
theorem Qsb (f:Operand→Value):QnH f none=some none:=Eq.trans rfl rfl
theorem Qsc (f:Operand→Value) (x:Operand):QnH f (some x)=match f x with | .int _ m=>some (some m) | _=>none:=Eq.trans rfl rfl
def ldB (agg:Bool) (size off:Nat) (b:Option Blk) (H:Qa) (k:Value→Qa→Prop):Prop:=onS (match b with
 | some (.cells c _ _)=>bif agg then(if off+size≤c.length then some (.agg ((c.drop off).take size).toArray,H) else none) else Qd6 H c[off]?
 | _=>none) k
def ldK (agg:Bool) (size:Nat) (x:Value) (H:Qa) (k:Value→Qa→Prop):Prop:=onS (match x with
 | .pointer (some a)=>match H.get a.block with
  | some (.cells c _ _)=>bif agg then(if a.off+size≤c.length then some (.agg ((c.drop a.off).take size).toArray,H) else none) else Qd6 H c[a.off]?
  | _=>none
 | _=>none) k
theorem QAk (agg:Bool) (size:Nat) (x:Operand):pr P (.ld agg size x) false A H k=ldK agg size (ev A x) H k:=Q6 _
theorem QvS (agg:Bool) (size:Nat) (x:Operand):pr P (.ld agg size x) true A H k=ldK agg size (ev A x) H (flK H k):=Qxd _
theorem QxG (agg:Bool) (size b o:Nat):ldK agg size (.pointer (some ⟨b,o,none⟩)) H k=ldB agg size o (H.get b) H k:=Eq.trans rfl rfl
theorem QvT (size off:Nat) (c:List Value) (e:TypeId) (ro:Bool):ldB false size off (some (.cells c e ro)) H k=∃v,c[off]? = some v∧k v H:=Qeb
theorem QxH (size off:Nat) (c:List Value) (e:TypeId) (ro:Bool):ldB true size off (some (.cells c e ro)) H k=(off+size≤c.length∧k (.agg ((c.drop off).take size).toArray) H):=by
 show onS (if off+size≤c.length then some (.agg ((c.drop off).take size).toArray,H) else none) k=_
 rw[Qht,Qr]
def QAl (size:Nat) (a:Addr) (y:Value) (b:Option Blk) (H:Qa) (k:Value→Qa→Prop):Prop:=onS (match b with
 | some (.cells c e false)=>if y.cells.toList.length=size∧a.off+y.cells.toList.length≤c.length∧y.cells.toList.all (·.oneCell')=true then some (undef,H.set a.block (.cells (splice c a.off y.cells.toList) e false)) else none
 | _=>none) k
def Qzi (size:Nat) (x y:Value) (H:Qa) (k:Value→Qa→Prop):Prop:=onS (match x with
 | .pointer (some a)=>match H.get a.block with
  | some (.cells c e false)=>if y.cells.toList.length=size∧a.off+y.cells.toList.length≤c.length∧y.cells.toList.all (·.oneCell')=true then some (undef,H.set a.block (.cells (splice c a.off y.cells.toList) e false)) else none
  | _=>none
 | _=>none) k
theorem QAm (size:Nat) (x y:Operand):pr P (.st size x y) false A H k=Qzi size (ev A x) (ev A y) H k:=Q6 _
theorem QvU (size b o:Nat) (y:Value):Qzi size (.pointer (some ⟨b,o,none⟩)) y H k=QAl size ⟨b,o,none⟩ y (H.get b) H k:=Eq.trans rfl rfl
theorem Qsd (size b o:Nat) (y:Value) (c:List Value) (e:TypeId):QAl size ⟨b,o,none⟩ y (some (.cells c e false)) H k=((y.cells.toList.length=size∧o+y.cells.toList.length≤c.length∧y.cells.toList.all (·.oneCell')=true)∧k undef (H.set b (.cells (splice c o y.cells.toList) e false))):=by
 show onS (if y.cells.toList.length=size∧o+y.cells.toList.length≤c.length∧y.cells.toList.all (·.oneCell')=true then some (undef,H.set b (.cells (splice c o y.cells.toList) e false)) else none) k=_
 rw[Qht,Qr]
def apL:List Value→Value→Prop
 | [],_=>True
 | z::l,x=>Qgj x z∧apL l x
def apK (os:List Value) (x:Value) (k:Value→Qa→Prop) (v:Value) (H':Qa):Prop:=apL os x∧k v H'
theorem QnN (os:List Value) (x:Value) (k:Value→Qa→Prop) (v:Value) (H':Qa):apK os x k v H'=(apL os x∧k v H'):=Eq.trans rfl rfl
theorem QxI (x:Value):apL [] x=True:=Eq.trans rfl rfl
theorem QvV (z x:Value) (l:List Value):apL (z::l) x=(Qgj x z∧apL l x):=Eq.trans rfl rfl
theorem Qse (b o b' o':Nat):Qgj (.pointer (some ⟨b,o,none⟩)) (.pointer (some ⟨b',o',none⟩))=(b'≠b):=Eq.trans rfl rfl
theorem Qow (b o:Nat):Qgj (.pointer (some ⟨b,o,none⟩)) undef=True:=Eq.trans rfl rfl
theorem QxJ (os:List Operand) (x:Value):apL (os.map (ev A)) x=∀z∈os,Qgj x (ev A z):=by
 induction os with
 | nil=>simp[apL]
 | cons z l ih=>simp[apL,ih]
theorem Qzj (size:Nat) (x y:Operand) (os:List Operand) (s:Bool):pr P (.stf size x y os) s A H k=Qzi size (ev A x) (ev A y) H (apK (os.map (ev A)) (ev A x) k):=by
 show onS (rop P (.st size x y) A H) (fun v H'=>(∀z∈os,Qgj (ev A x) (ev A z))∧k v H')=onS (rop P (.st size x y) A H) _
 congr 1;funext v H'
 rw[QnN,QxJ]
def QyA (x:Value) (H:Qa) (k:Value→Qa→Prop):Prop:=onS (match x with | .slice _ m _=>some (.int .i64 (m:Int),H) | _=>none) k
theorem QxK (x:Operand):pr P (.lenS x) false A H k=QyA (ev A x) H k:=Q6 _
theorem Qw (a:Option Addr) (len cap:Nat):QyA (.slice a len cap) H k=k (.int .i64 (len:Int)) H:=Qr
def QyB (x:Value) (H:Qa) (k:Value→Qa→Prop):Prop:=onS (match x with | .string s=>some (.int .i64 ((bl s).length:Int),H) | _=>none) k
theorem QxL (x:Operand):pr P (.lenT x) false A H k=QyB (ev A x) H k:=Q6 _
theorem QuB (s:ByteArray):QyB (.string s) H k=k (.int .i64 ((bl s).length:Int)) H:=Qr
def Qhv (e size bytes:Nat) (s x:Value) (H:Qa) (k:Value→Qa→Prop):Prop:=onS (Y7 e size bytes s x H) k
theorem Qzk (e size bytes:Nat) (x y:Operand):pr P (.app e size bytes x y) false A H k=Qhv e size bytes (ev A x) (ev A y) H k:=Q6 _
def QAn (P:Program) (o:Op) (A:Env) (H:Qa) (k:Value→Qa→Prop):Prop:=onS (rop P (.gen o) A H) k
theorem Qhw (f:FuncId) (l:List Operand):pr P (.gen (.makeFunc (.func f) #[] l.toArray)) false A H k=k (.func (.func f) #[] (l.map (ev A)).toArray) H:=by
 have e:rop P (.gen (.makeFunc (.func f) #[] l.toArray)) A H=some (.func (.func f) #[] (l.map (ev A)).toArray,H):=by simp[rop,aop,Qgi,GW]
 refine(Q6 _).trans ?_
 rw[e,Qr]
def QAo (v:Value) (H:Qa) (k:Value→Qa→Prop):Prop:=onS (bif QdX v then some (v,H) else none) k
theorem Qzl (x:Operand):pr P (.gen (.nilCheck x)) false A H k=QAo (ev A x) H k:=by
 have e:rop P (.gen (.nilCheck x)) A H=(bif QdX (ev A x) then some (ev A x,H) else none):=by
  simp only[rop,aop,Qgh]
  cases QdX (ev A x)<;>rfl
 refine(Q6 _).trans ?_
 rw[e];rfl
theorem QvW (a:Addr):QAo (.pointer (some a)) H k=k (.pointer (some a)) H:=Qr
theorem QxM {x y:Operand} {ts:Array TypeId} {ik:IntKind} {a b:Int} (hx:ev A x=.int ik a) (hy:ev A y=.int ik b):pr P (.gen (.call ⟨.builtin .max,#[x,y],ts⟩)) false A H k=k (.int ik (if b>a then b else a)) H:=by
 have e:rop P (.gen (.call ⟨.builtin .max,#[x,y],ts⟩)) A H=some (.int ik (if b>a then b else a),H):=by simp[rop,aop,Qd5,hx,hy]
 refine(Q6 _).trans ?_
 rw[e,Qr]
theorem Qqb (ty:TypeId):pr P (.gen (.makeMap ty none)) false A H k=k (.map (some H.next)) (H.push (.map [])):=by
 have e:rop P (.gen (.makeMap ty none)) A H=some (.map (some H.next),H.push (.map [])):=by simp[rop,aop]
 refine(Q6 _).trans ?_
 rw[e,Qr]
def Qox (n:Int):List (Value×Value)→Nat→Option (Option (Nat×Value))
 | [],_=>some none
 | (.int .i64 a,b)::l,i=>if n=a then some (some (i,b)) else Qox n l (i+1)
 | _,_=>none
theorem Qgn (n:Int):∀ (es:List (Value×Value)) (i:Nat) r,Qox n es i=some r→Qlj (.int .i64) (.int .i64 n) es i=some r
 | [],i,r,h=>h
 | (a,b)::l,i,r,h=>by
  cases a with
  | int ik z=>
   cases ik with
   | i64=>
    have g:(if n=z then some (some (i,b)) else Qox n l (i+1))=some r:=h
    unfold Qlj
    simp only[Qag,cond_true,Instr.sameNow,if_true]
    by_cases hn:n=z
    ·rw[if_pos hn]at g
     subst hn
     have hb:(n==n)=true:=by simp
     simp only[hb]
     exact g
    ·rw[if_neg hn]at g
     have:(n==z)=false:=by simp[hn]
     simp only[this]
     exact Qgn n _ _ r g
   | _=>exact absurd h (by simp[Qox])
  | _=>exact absurd h (by simp[Qox])
theorem Qhx {ty kt e:TypeId} {x ix y:Operand} {m:Nat} {n:Int} {es:List (Value×Value)} (h1:P.underlying ty=some (.map kt e)) (h2:P.underlying kt=some (.int .i64)) (hx:ev A x=.map (some m)) (hk:ev A ix=.int .i64 n) (hm:H.get m=some (.map es)) (hp:Qox n es 0=some none):
  pr P (.gen (.insert ty x ix y)) false A H k=k undef (H.set m (.map (es++[(.int .i64 n,ev A y)]))):=by
 have hf:=Qgn n es 0 _ hp
 have e:rop P (.gen (.insert ty x ix y)) A H=some (undef,H.set m (.map (es++[(.int .i64 n,ev A y)]))):=by simp[rop,aop,Qll,h1,QpV,h2,hx,hk,hm,hf,Qag]
 refine(Q6 _).trans ?_
 rw[e,Qr]
def Qqc (z:Value):Option (Nat×Value)→Value
 | none=>.tuple #[z,.bool false]
 | some (_,v)=>.tuple #[v,.bool true]
theorem QuC {ty kt e:TypeId} {inf:TypeInfo} {z:Value} {x ix:Operand} {m:Nat} {n:Int} {es:List (Value×Value)} {r:Option (Nat×Value)} (h1:P.underlying ty=some (.map kt e)) (h2:P.underlying kt=some (.int .i64)) (h3:P.info? e=some inf) (h4:inf.zero=some z) (hz:W3 z=true) (hx:ev A x=.map (some m)) (hk:ev A ix=.int .i64 n) (hm:H.get m=some (.map es)) (hp:Qox n es 0=some r):
  pr P (.gen (.lookup ty x ix true)) false A H k=k (Qqc z r) H:=by
 have hf:=Qgn n es 0 _ hp
 have e:rop P (.gen (.lookup ty x ix true)) A H=some (Qqc z r,H):=by
  cases r<;>simp[Qqc,rop,aop,Qhk,h1,Qs9,h2,h3,h4,hz,hx,hk,hm,hf,Qag]
 refine(Q6 _).trans ?_
 rw[e,Qr]
theorem Qzm (o:Op):pr P (.gen o) false A H k=QAn P o A H k:=Q6 _
end
theorem Qoy {e size bytes m len b o cap:Nat} {news c:List Value} {x:Value} {H:Qa} {ro:Bool} {e':TypeId} (hx:Jh size x H=some (m,news)) (h1:news.all (·.oneCell')=true) (hm:m≠0) (hb:H.get b=some (.cells c e' ro))
  (hlen:o+len * size≤c.length) (hsum:(len+m) * bytes≤140737488355328) (hmax:len+m≤9223372036854775807) (hcap:cap<UNK) (hfull:¬len+m≤cap):
  Y7 e size bytes (.slice (some ⟨b,o,none⟩) len cap) x H=some (.slice (some ⟨H.next,0,none⟩) (len+m) (UNK+size),H.push (.cells ((c.drop o).take (len * size)++news) e false)):=by
 simp only[Y7,hx,h1,if_true,hm,if_false,hb]
 rw[if_pos ⟨hlen,hmax,hsum⟩,if_neg (by omega),if_neg hfull]
theorem Qqd {e size bytes m len b o cap:Nat} (h0:o=0) {news c:List Value} {x:Value} {H:Qa} (hx:Jh size x H=some (m,news)) (h1:news.all (·.oneCell')=true) (hm:m≠0) (hb:H.get b=some (.cells c e false))
  (hlen:o+len * size=c.length) (hsum:(len+m) * bytes≤140737488355328) (hmax:len+m≤9223372036854775807) (hcap:UNK≤cap):
  Y7 e size bytes (.slice (some ⟨b,o,none⟩) len cap) x H=some (.slice (some ⟨H.next,0,none⟩) (len+m) (UNK+size),(H.kill b).push (.cells (c.drop o++news) e false)):=by
 simp only[Y7,hx,h1,if_true,hm,if_false,hb]
 rw[if_pos ⟨by omega,hmax,hsum⟩,if_pos hcap,if_pos ⟨trivial,trivial,h0,hlen⟩]
theorem Qqe {e size bytes m:Nat} {news:List Value} {x:Value} {H:Qa} (hx:Jh size x H=some (m,news)) (h1:news.all (·.oneCell')=true) (hm:m≠0) (hsum:m * bytes≤140737488355328) (hmax:m≤9223372036854775807):
  Y7 e size bytes (.slice none 0 0) x H=some (.slice (some ⟨H.next,0,none⟩) m (UNK+size),H.push (.cells news e false)):=by
 simp only[Y7,hx,h1,if_true,hm,if_false]
 rw[if_pos ⟨hmax,hsum⟩]
/-! ### QyL of functions -/
def Ret (H0:Qa) (k:Value→Qa→Prop) (v:Value) (H:Qa):Prop:=∃H2,Yi H2 H∧(H.Wf→H2.Wf)∧H0.next≤H2.next∧k v H2
theorem Ret.mk {H0 H:Qa} {k:Value→Qa→Prop} {v:Value} (hn:H0.next≤H.next) (h:k v H):Ret H0 k v H:=⟨H,.refl H,id,hn,h⟩
theorem Qa.Wf.up {H:Qa} (h:H.Wf) {m:Nat} (hm:H.next≤m):(H.up m).Wf:=fun id hid=>h id (Nat.le_trans hm hid)
theorem Ret.up {H0 H:Qa} {k:Value→Qa→Prop} {v:Value} (hw:H0.Wf) (hn:H0.next≤H.next) (hg:∀id,id<H0.next→H.get id=H0.get id) (h:k v (H0.up H.next)):Ret H0 k v H:=
 ⟨H0.up H.next,Yi.up (Nat.le_refl _) (fun id b hb=>by rw[hg id (hw.lt hb)];exact hb),fun _=>hw.up hn,hn,h⟩
def Rt (P:Program) (fn:Func) (H0:Qa) (k:Value→Qa→Prop):Env→Qa→Prop:=Qou P fn fun v H'=>H0.next≤H'.next∧k v H'
section
variable {P:Program} {fn:Func} {H0:Qa} {k:Value→Qa→Prop} {A:Env} {H:Qa}
theorem QxN (hr:fn.results=#[]):Rt P fn H0 k A H=Ret H0 k (.tuple #[]) H:=by
 simp[Rt,Qou,Ret,Qbu,hr]
theorem Qx {r:Nat} (hr:fn.results=#[.tmp r]) (hn:Nat.blt r fn.ntmps=true):Rt P fn H0 k A H=Ret H0 k (A r) H:=by
 have:r<fn.ntmps:=by simpa using hn
 simp[Rt,Qou,Ret,Qbu,hr,KS,this]
theorem QmP {r s:Nat} (hr:fn.results=#[.tmp r,.tmp s]) (hn:(Nat.blt r fn.ntmps&&Nat.blt s fn.ntmps)=true):Rt P fn H0 k A H=Ret H0 k (.tuple #[A r,A s]) H:=by
 have:r<fn.ntmps∧s<fn.ntmps:=by simpa using hn
 simp[Rt,Qou,Ret,Qbu,hr,KS,this]
def ldR (agg:Bool) (size:Nat) (p:Value) (H:Qa) (k:Value→Prop):Prop:=match p with
 | .pointer (some a)=>(match H.get a.block with
  | some (.cells c _ _)=>bif agg then(a.off+size≤c.length∧k (.agg ((c.drop a.off).take size).toArray)) else ∃v,c[a.off]? = some v∧k v
  | _=>False)
 | _=>False
def Qzn (agg:Bool) (size off:Nat) (b:Option Blk) (k:Value→Prop):Prop:=match b with
 | some (.cells c _ _)=>bif agg then(off+size≤c.length∧k (.agg ((c.drop off).take size).toArray)) else ∃v,c[off]? = some v∧k v
 | _=>False
theorem QxO (agg:Bool) (size b o:Nat) (k:Value→Prop):ldR agg size (.pointer (some ⟨b,o,none⟩)) H k=Qzn agg size o (H.get b) k:=Eq.trans rfl rfl
theorem QvX (size o:Nat) (k:Value→Prop) (c:List Value) (e:TypeId) (ro:Bool):Qzn true size o (some (.cells c e ro)) k=(o+size≤c.length∧k (.agg ((c.drop o).take size).toArray)):=Eq.trans rfl rfl
theorem QuD (size o:Nat) (k:Value→Prop) (c:List Value) (e:TypeId) (ro:Bool):Qzn false size o (some (.cells c e ro)) k=∃v,c[o]? = some v∧k v:=Eq.trans rfl rfl
def Qsf (P:Program) (ty:TypeId) (p:Value) (H:Qa):Option Value:=match p with | .pointer (some ad)=>Xr P ty ad H | _=>none
theorem Qlz (n a:Nat) (ty:TypeId):KS P n A H (.cell a ty)=if a<n then Qsf P ty (A a) H else none:=Eq.trans rfl rfl
theorem QnO {ty:TypeId} {d:TypeDesc} {inf:TypeInfo} {p:Value} {q:Value→Prop} (hd:P.underlying ty=some d) (hi:P.info? ty=some inf):
  (∃v,Qsf P ty p H=some v∧q v)↔ldR (Zi d) inf.size p H q:=by
 unfold ldR Qsf
 split
 ·rename_i a
  have e:Xr P ty a H=match H.get a.block with
   | some (.cells c _ _)=>if Zi d then(if a.off+inf.size≤c.length then some (.agg ((c.drop a.off).take inf.size).toArray) else none) else c[a.off]?
   | _=>none:=by
   simp only[Xr,hd,hi]
   cases H.get a.block with
   | none=>rfl
   | some b=>cases b<;>rfl
  rw[e]
  cases hg:H.get a.block with
  | none=>simp
  | some b=>
   cases b with
   | cells c e ro=>
    cases hag:Zi d with
    | true=>by_cases hle:a.off+inf.size≤c.length<;>simp[hle]
    | false=>simp
   | map es=>simp
   | iter s pos=>simp
   | miter a b c d=>simp
   | loop A n ps as bd st=>simp
 ·simp
def Qtr (P:Program) (ty:TypeId) (agg:Bool) (size:Nat):Bool:=match P.underlying ty,P.info? ty with
 | some d,some inf=>(Zi d==agg)&&Nat.beq inf.size size
 | _,_=>false
theorem QlA {ty:TypeId} {agg:Bool} {size:Nat} (h:Qtr P ty agg size=true):∃d inf,P.underlying ty=some d∧P.info? ty=some inf∧Zi d=agg∧inf.size=size:=by
 unfold Qtr at h
 split at h
 ·rename_i d inf hd hi
  simp only[Bool.and_eq_true,beq_iff_eq,X1,decide_eq_true_eq]at h
  exact⟨d,inf,hd,hi,h.1,h.2⟩
 ·cases h
theorem QvY {a ty size:Nat} {agg:Bool} (hr:fn.results=#[.cell a ty]) (hn:Nat.blt a fn.ntmps=true) (ht:Qtr P ty agg size=true):Rt P fn H0 k A H=ldR agg size (A a) H fun v=>Ret H0 k v H:=by
 have hn:a<fn.ntmps:=by simpa using hn
 obtain⟨d,inf,hd,hi,rfl,rfl⟩:=QlA ht
 apply propext
 rw[← QnO hd hi]
 simp only[Rt,Qou,Ret,Qbu,hr,Qlz,hn,if_true]
theorem QvZ {a ty size:Nat} {agg:Bool} {r:Nat} (hr:fn.results=#[.cell a ty,.tmp r]) (hn:(Nat.blt a fn.ntmps&&Nat.blt r fn.ntmps)=true) (ht:Qtr P ty agg size=true):Rt P fn H0 k A H=ldR agg size (A a) H fun v=>Ret H0 k (.tuple #[v,A r]) H:=by
 have hn:a<fn.ntmps∧r<fn.ntmps:=by simpa using hn
 obtain⟨d,inf,hd,hi,rfl,rfl⟩:=QlA ht
 apply propext
 rw[← QnO hd hi]
 have e1:KS P fn.ntmps A H (.tmp r)=some (A r):=by simp[KS,hn.2]
 simp only[Rt,Qou,Ret,Qbu,hr,Qlz,e1,hn.1,if_true,List.mapM_cons,List.mapM_nil,Option.pure_def,Option.bind_eq_bind,Option.bind_some]
 constructor
 ·rintro⟨v,hv,h⟩
  simp only[Option.map_eq_some_iff,Option.bind_eq_some_iff,Option.some.injEq]at hv
  obtain⟨l,⟨w,hw,rfl⟩,rfl⟩:=hv
  exact⟨w,hw,h⟩
 ·rintro⟨v,hv,h⟩
  refine⟨_,?_,h⟩
  simp[hv]
end
theorem Qe4 {P:Program} {f:FuncId} {fn:Func} {pc:PC} {args:List Value} {H:Qa} {k:Value→Qa→Prop} {A:Env} (hf:P.funcs[f]? = some fn) (hc:fn.body.bind (comp P fn.ntmps)=some pc) (he:entered P f=true) (hl:Nat.ble args.length fn.ntmps=true) (hA:Yw args=A)
  (h:H.Wf→Qp P pc ⟨Rt P fn H k,YH⟩ (Rt P fn H k) A H):Qe P f args H k:=Qlt hf hc he (by simpa using hl) (by rw[hA];exact h)
theorem QlB (l:List Value):(Value.agg l.toArray).cells.toList=l:=Eq.trans rfl rfl
theorem QlC (ik:IntKind) (n:Int):(Value.int ik n).cells.toList=[.int ik n]:=Eq.trans rfl rfl
theorem QjW (b:Bool):(Value.bool b).cells.toList=[.bool b]:=Eq.trans rfl rfl
theorem Qhy (a:Option Addr) (l c:Nat):(Value.slice a l c).cells.toList=[.slice a l c]:=Eq.trans rfl rfl
theorem Qhz (ty:TypeId) (v:Value):(Value.iface ty v).cells.toList=[.iface ty v]:=Eq.trans rfl rfl
theorem QjX (ik:IntKind) (n:Int):(Value.int ik n).oneCell'=true:=Eq.trans rfl rfl
theorem QhA (b:Bool):(Value.bool b).oneCell'=true:=Eq.trans rfl rfl
theorem QfC (a:Option Addr) (l c:Nat):(Value.slice a l c).oneCell'=true:=Eq.trans rfl rfl
theorem QfD (ty:TypeId) (v:Value):(Value.iface ty v).oneCell'=true:=Eq.trans rfl rfl
section
variable {P:Program}
theorem Qv {b:Bool} {r:R} {s:Bool} {l:List PO} {k:Env→Qa→Prop} {A:Env} {d:Option Nat} {H:Qa} (h1:b=true→gB true P r s l k A d H) (h2:b=false→gB false P r s l k A d H):gB b P r s l k A d H:=by
 cases b
 ·exact h2 rfl
 ·exact h1 rfl
theorem Qg {b:Bool} {x y:PC} {ks:Kp} {k:Env→Qa→Prop} {A:Env} {H:Qa} (h1:b=true→cB true P x y ks k A H) (h2:b=false→cB false P x y ks k A H):cB b P x y ks k A H:=by
 cases b
 ·exact h2 rfl
 ·exact h1 rfl
end
/-! ### Loops -/
section
variable {P:Program}
def Qqf (I:Nat→Env→Qa→Prop) (m:Nat) (A:Env) (H:Qa):Prop:=∃m',m'<m∧I m' A H
theorem Qy {b:PC} {ks:Kp} {k:Env→Qa→Prop} {A:Env} {H:Qa} (I:Nat→Env→Qa→Prop) (m:Nat) (h0:I m A H) (h:∀m A' H',I m A' H'→Qp P b ks (Qqf I m) A' H'):Qp P (.loop b) ks k A H:=
 ⟨I,⟨m,h0⟩,h⟩
/-! Loops over functions. -/
def YR (P:Program) (L:Option Code→Blk) (ps:List Nat) (a b:PC) (A:Env):Prop:=∀ (l:Nat) (args:List Value) (H0:Qa) (Q:Value→Qa→Prop),H0.get l=some (L none)→args.length=ps.length→Qp P a Qtg (fun A1 H1=>Qp P b (QAc L l H0.next Q) (QyQ L l H0.next Q) A1 H1) (QjI A ps args) (H0.kill l)→YQ P l args H0 Q
def rgK (v:Value) (P:Program) (ps:List Nat) (a b:PC) (ks:Kp) (k:Env→Qa→Prop) (A:Env) (H:Qa):Prop:=match v with
 | .func (.func f) xs ys=>∀L:Option Code→Blk,YR P L ps a b A→entered P f=true∧Qe P f (xs.toList++[.func (.yield H.next) #[] #[]]++ys.toList) (H.push (L none)) fun _ H2=>∃st,H2.get H.next=some (L st)∧Qvp st ks k A (H2.kill H.next)
 | _=>False
theorem QcD (g:Operand) (ps:List Nat) (a b:PC) (ks:Kp) (k:Env→Qa→Prop) (A:Env) (H:Qa):Qp P (.rangeF g ps a b) ks k A H=rgK (ev A g) P ps a b ks k A H:=by
 show(match ev A g with | .func (.func f) xs ys=>_ | _=>False)=_
 unfold rgK
 split<;>rfl
theorem QlD (f:FuncId) (xs ys:List Value) (ps:List Nat) (a b:PC) (ks:Kp) (k:Env→Qa→Prop) (A:Env) (H:Qa):rgK (.func (.func f) xs.toArray ys.toArray) P ps a b ks k A H=∀L:Option Code→Blk,YR P L ps a b A→entered P f=true∧Qe P f (xs++[.func (.yield H.next) #[] #[]]++ys) (H.push (L none)) fun _ H2=>∃st,H2.get H.next=some (L st)∧Qvp st ks k A (H2.kill H.next):=Eq.trans rfl rfl
theorem QiZ (ks:Kp) (k:Env→Qa→Prop) (A:Env) (H:Qa):Qvp none ks k A H=k A H:=Eq.trans rfl rfl
theorem Qgo (L:Option Code→Blk) (l nx:Nat) (Q:Value→Qa→Prop) (A:Env) (H:Qa):QyQ L l nx Q A H=(nx≤H.next∧Q (.bool true) (H.set l (L none))):=Eq.trans rfl rfl
theorem Qi0 (A:Env) (l:List Value):QjI A [] l=A:=Eq.trans rfl rfl
theorem Qgp (A:Env) (p:Nat) (ps:List Nat) (v:Value) (l:List Value):QjI A (p::ps) (v::l)=QjI (upd A p v) ps l:=Eq.trans rfl rfl
structure Ext (H H':Qa):Prop where
 next:H.next≤H'.next
 get:∀id,id<H.next→H'.get id=H.get id
theorem Ext.eqB {H H':Qa} (h:Ext H H'):EqB H H':=fun id hid=>h.get id hid
theorem Ext.refl (H:Qa):Ext H H:=⟨Nat.le_refl _,fun _ _=>Eq.trans rfl rfl⟩
theorem Ext.trans {a b c:Qa} (h:Ext a b) (h':Ext b c):Ext a c:=⟨Nat.le_trans h.next h'.next,fun id hid=>by rw[h'.get id (Nat.lt_of_lt_of_le hid h.next),h.get id hid]⟩
theorem Ext.push {H H':Qa} (h:Ext H H') (b:Blk):Ext H (H'.push b):=⟨Nat.le_trans h.next (by simp),fun id hid=>by
 have:=h.next
 rw[Qa.get_push,if_neg (by omega)];exact h.get id hid⟩
theorem Ext.up {H H':Qa} (h:Ext H H') {m:Nat} (hm:H'.next≤m):Ext H (H'.up m):=⟨Nat.le_trans h.next hm,fun id hid=>by rw[Qa.get_up];exact h.get id hid⟩
theorem Ext.set {H H':Qa} (h:Ext H H') {i:Nat} (hi:H.next≤i) (b:Blk):Ext H (H'.set i b):=⟨h.next,fun id hid=>by
 rw[Qa.get_set,if_neg (by omega)];exact h.get id hid⟩
theorem Ext.kill {H H':Qa} (h:Ext H H') {i:Nat} (hi:H.next≤i):Ext H (H'.kill i):=⟨h.next,fun id hid=>by
 rw[Qa.get_kill,if_neg (by omega)];exact h.get id hid⟩
theorem Ret.ext {H0 H:Qa} {k:Value→Qa→Prop} {v:Value} (hw:H0.Wf) (he:Ext H0 H) (h:k v (H0.up H.next)):Ret H0 k v H:=.up hw he.next he.get h
end
/-! ### Appending -/
theorem Qam {size m b o cap:Nat} {c:List Value} {e:TypeId} {ro:Bool} {H:Qa} (hb:H.get b=some (.cells c e ro)) (hm:m≠0) (hc:o+m * size≤c.length):Jh size (.slice (some ⟨b,o,none⟩) m cap) H=some (m,(c.drop o).take (m * size)):=by
 simp only[Jh,hm,if_false,hb]
 rw[if_pos hc]
theorem Qqg {b cap:Nat} {v:Value} {e:TypeId} {ro:Bool} {H:Qa} (hb:H.get b=some (.cells [v] e ro)):Jh 1 (.slice (some ⟨b,0,none⟩) 1 cap) H=some (1,[v]):=Qam hb (by decide) (by simp)
theorem Qqh {e size bytes m len b o cap:Nat} (h0:o=0) {news c:List Value} {x:Value} {H:Qa} {k:Value→Qa→Prop} (hx:Jh size x H=some (m,news)) (h1:news.all (·.oneCell')=true) (hm:m≠0) (hb:H.get b=some (.cells c e false))
  (hlen:o+len * size=c.length) (hsum:(len+m) * bytes≤140737488355328) (hmax:len+m≤9223372036854775807) (hcap:UNK≤cap)
  (h:k (.slice (some ⟨H.next,0,none⟩) (len+m) (UNK+size)) ((H.kill b).push (.cells (c.drop o++news) e false))):Qhv e size bytes (.slice (some ⟨b,o,none⟩) len cap) x H k:=by
 unfold Qhv
 rw[Qqd h0 hx h1 hm hb hlen hsum hmax hcap,Qr]
 exact h
theorem Qi1 {e size bytes m len b o cap:Nat} {news c:List Value} {x:Value} {H:Qa} {ro:Bool} {e':TypeId} {k:Value→Qa→Prop} (hx:Jh size x H=some (m,news)) (h1:news.all (·.oneCell')=true) (hm:m≠0) (hb:H.get b=some (.cells c e' ro))
  (hlen:o+len * size≤c.length) (hsum:(len+m) * bytes≤140737488355328) (hmax:len+m≤9223372036854775807) (hcap:cap<UNK) (hfull:¬len+m≤cap)
  (h:k (.slice (some ⟨H.next,0,none⟩) (len+m) (UNK+size)) (H.push (.cells ((c.drop o).take (len * size)++news) e false))):Qhv e size bytes (.slice (some ⟨b,o,none⟩) len cap) x H k:=by
 unfold Qhv
 rw[Qoy hx h1 hm hb hlen hsum hmax hcap hfull,Qr]
 exact h
theorem QlE {e size bytes m:Nat} {news:List Value} {x:Value} {H:Qa} {k:Value→Qa→Prop} (hx:Jh size x H=some (m,news)) (h1:news.all (·.oneCell')=true) (hm:m≠0) (hsum:m * bytes≤140737488355328) (hmax:m≤9223372036854775807)
  (h:k (.slice (some ⟨H.next,0,none⟩) m (UNK+size)) (H.push (.cells news e false))):Qhv e size bytes (.slice none 0 0) x H k:=by
 unfold Qhv
 rw[Qqe hx h1 hm hsum hmax,Qr]
 exact h
theorem Qe.thenW {P:Program} {f:FuncId} {args:List Value} {H:Qa} {k k':Value→Qa→Prop} (h:Qe P f args H k) (hk:∀v H',H.next≤H'.next→H'.Wf→k v H'→k' v H'):Qe P f args H k':=by
 intro hw
 obtain⟨v,H',h1,h2,h3,h4⟩:=h hw
 exact⟨v,H',h1,h2,h3,hk v H' h2 h3 h4⟩
theorem QjY {H:Qa} {b:Blk} {m:Nat} (h:m=H.next):(H.push b).get m=some b:=by rw[Qa.get_push,if_pos h]
theorem QjZ {H:Qa} {b:Blk} {m:Nat} (h:¬m=H.next):(H.push b).get m=H.get m:=by rw[Qa.get_push,if_neg h]
theorem Qsg {H:Qa} {b:Blk} {i m:Nat} (h:m=i):(H.set i b).get m=some b:=by rw[Qa.get_set,if_pos h]
theorem Qsh {H:Qa} {b:Blk} {i m:Nat} (h:¬m=i):(H.set i b).get m=H.get m:=by rw[Qa.get_set,if_neg h]
/-! ### Rules, together -/
abbrev sxA:=And.intro @Qgm (And.intro @QjV (And.intro @Qr1 (And.intro @Qul (And.intro @Qr0 (And.intro @Qum (And.intro @Qe3 (And.intro @Qp8 (And.intro @Qy0 (And.intro @Qy1 (And.intro @QvD (And.intro @Qun (And.intro @Qr2 (And.intro @Qxc (And.intro @Qtn (And.intro @Qlv (And.intro @Qhu (And.intro @Qe2 (And.intro @QrZ (And.intro @QcC (And.intro @QrY (And.intro @Qxb (And.intro @QvC (And.intro @Qxa (And.intro @QvB (And.intro @bt (And.intro @bf (And.intro @WU (And.intro @Qtm (And.intro @QbD (And.intro @QnM (And.intro @QAg (And.intro @Qp6 (And.intro @Quk (And.intro @Qw9 (And.intro @Qto (And.intro @Qxf (And.intro @Qr6 (And.intro @Qy2 (And.intro @Qxg (And.intro @Qxh (And.intro @Qxi (And.intro @Qxj (And.intro @Qy3 (And.intro @Qxk (And.intro @Qr7 (And.intro @Qxl (And.intro @Qxm (And.intro @Qxn (And.intro @Qxo (And.intro @Qxp (And.intro @Qxq (And.intro @Qxr (And.intro @Qxs (And.intro @Qxt (And.intro @Qxu (And.intro @Qxv (And.intro @Qxw (And.intro @QvI (And.intro @Qy5 (And.intro @Qxx (And.intro @Qxy (And.intro @Qy6 (And.intro @Qy7 (And.intro @Qut (And.intro @QvK (And.intro @Qr8 (And.intro @QxA (And.intro @Qy9 (And.intro @Quu (And.intro @QvL (And.intro @QxB (And.intro @Quv (And.intro @QxC (And.intro @Qr9 (And.intro @Qza (And.intro @QvM (And.intro @Qzb (And.intro @Qzc (And.intro @Qzd (And.intro @Qze (And.intro @QxE (And.intro @Quw (And.intro @QvN (And.intro @Qsa (And.intro @QvP (And.intro @Qqa (And.intro @Qux (And.intro @Quy (And.intro @Qov (And.intro @Quz (And.intro @Qzf (And.intro @QvQ (And.intro @Qzg (And.intro @QxF (And.intro @QuA (And.intro @Qzh (And.intro @QvR (And.intro @Qsb (And.intro @Qsc (And.intro @QAk (And.intro @QvS (And.intro @QxG (And.intro @QvT (And.intro @QxH (And.intro @QAm (And.intro @Qzj (And.intro @QnN (And.intro @QxI (And.intro @QvV (And.intro @Qse (And.intro @Qow (And.intro @QvU (And.intro @Qsd (And.intro @QxK (And.intro @Qw (And.intro @QxL (And.intro @QuB (And.intro @Qzk (And.intro @Qxe (And.intro @QvH (And.intro @Qr3 (And.intro @QvG (And.intro @Qzl (And.intro @QvW (And.intro @Qqb (And.intro @Qhw (And.intro @Quq (And.intro @QvE (And.intro @Qur (And.intro @QvF (And.intro @Qr5 (And.intro @Quo (And.intro @Qup (And.intro @QxO (And.intro @QvX (@QuD))))))))))))))))))))))))))))))))))))))))))))))))))))))))))))))))))))))))))))))))))))))))))))))))))))))))))))))))))))))))))))))))))))))))
abbrev mxA:=And.intro @QlB (And.intro @QlC (And.intro @QjW (And.intro @Qhy (And.intro @Qhz (And.intro @QjX (And.intro @QhA (And.intro @QfC (And.intro @QfD (And.intro @Qlx (And.intro @Qly (And.intro @Qa.get_push (And.intro @Qa.next_push (And.intro @Qa.get_set (And.intro @Qa.next_set (And.intro @Qa.get_up (And.intro @Qa.next_up (And.intro @Nat.zero_add (And.intro @Nat.add_zero (And.intro @true_and (And.intro @and_true (And.intro @Nat.add_eq_left (And.intro @Nat.left_eq_add (And.intro @Nat.succ_ne_self (And.intro @Bool.and_self (And.intro @Nat.mul_one (And.intro @Nat.zero_mul (@Nat.one_mul)))))))))))))))))))))))))))
abbrev mxD:=And.intro @QlB (And.intro @QlC (And.intro @QjW (And.intro @Qhy (And.intro @Qhz (And.intro @QjX (And.intro @QhA (And.intro @QfC (And.intro @QfD (And.intro @Qlx (And.intro @Qly (And.intro @Qa.next_push (And.intro @Qa.next_set (And.intro @Qa.get_up (And.intro @Qa.next_up (And.intro @Nat.zero_add (And.intro @Nat.add_zero (And.intro @true_and (And.intro @and_true (And.intro @Nat.add_eq_left (And.intro @Nat.left_eq_add (And.intro @Nat.succ_ne_self (And.intro @Bool.and_self (And.intro @Nat.mul_one (And.intro @Nat.zero_mul (And.intro @Nat.one_mul (And.intro @QjY (And.intro @QjZ (And.intro @Qsg (@Qsh)))))))))))))))))))))))))))))
abbrev uxA:=And.intro @WU (And.intro @Qtm (And.intro @QbD (And.intro @QnM (And.intro @QAg (@Qp6)))))
abbrev sxB:=And.intro @List.map_cons.{0,0} (And.intro @List.map_nil.{0,0} (And.intro @ne_eq.{1} (And.intro not_false_eq_true (And.intro not_true_eq_false (And.intro @cond_true.{1} (And.intro @cond_false.{1} (And.intro Bool.not_true (And.intro Bool.not_false @Bool.not_not))))))))
abbrev uxB:=And.intro @cond_true.{1} @cond_false.{1}
abbrev mxB:=And.intro @if_true.{1} (And.intro @if_false.{1} (And.intro @List.getElem?_cons_succ.{0} (And.intro @List.getElem?_cons_zero.{0} (And.intro @Option.some.injEq.{0} (And.intro @exists_eq_left'.{1} (And.intro @eq_self.{1} (And.intro @List.length_cons.{0} (And.intro @List.length_nil.{0} (And.intro @List.all_cons.{0} (And.intro @List.all_nil.{0} (And.intro @List.drop_zero.{0} (And.intro @List.drop_succ_cons.{0} (And.intro @List.take_succ_cons.{0} (And.intro @List.take_zero.{0} (And.intro @List.cons_append.{0} (And.intro @List.nil_append.{0} (And.intro @List.append_nil.{0} (And.intro @List.take_nil.{0} @List.drop_nil.{0}))))))))))))))))))
theorem QBH (c:List Value) (p:Nat) (vs:List Value):splice c p vs=c.take p++(vs++c.drop (p+vs.length)):=rfl
abbrev QBD:=And.intro sxA (And.intro sxB (And.intro mxA (And.intro mxB @QBH)))
abbrev QBF:=And.intro sxA (And.intro sxB (And.intro mxD (And.intro mxB @QBH)))
abbrev QBG:=And.intro sxA sxB
abbrev QBI:=And.intro mxD (And.intro mxB @QBH)
abbrev QBE:=And.intro uxA uxB
/-! ### The code's text, short -/
abbrev Ow (d:Nat) (r:R):PO:=⟨some d,r,none,false⟩
abbrev Om (d:Nat) (x:Operand):PO:=⟨some d,.mv x,none,false⟩
abbrev Ov (r:R):PO:=⟨none,r,none,false⟩
abbrev Og (d:Nat) (r:R) (a:Nat) (b:Bool):PO:=⟨some d,r,some (a,b),false⟩
abbrev On (d:Nat) (x:Operand) (a:Nat) (b:Bool):PO:=⟨some d,.mv x,some (a,b),false⟩
abbrev Ci (n:Int):Operand:=.const (.int .i64 n)
abbrev In0 (P:Program) (f:FuncId) (fn:Func) (pc:PC):Prop:=∀ {H:Qa} {k:Value→Qa→Prop},(H.Wf→Qp P pc ⟨Rt P fn H k,YH⟩ (Rt P fn H k) (U) H)→Qe P f [] H k
theorem in0 {P:Program} {f:FuncId} {fn:Func} {pc:PC} (hf:P.funcs[f]? = some fn) (hc:fn.body.bind (comp P fn.ntmps)=some pc) (he:entered P f=true) (hl:Nat.ble 0 fn.ntmps=true):In0 P f fn pc:=fun h=>Qe4 hf hc he hl QBc h
abbrev In1 (P:Program) (f:FuncId) (fn:Func) (pc:PC):Prop:=∀ {a0:Value} {H:Qa} {k:Value→Qa→Prop},(H.Wf→Qp P pc ⟨Rt P fn H k,YH⟩ (Rt P fn H k) (upd U 0 a0) H)→Qe P f [a0] H k
theorem in1 {P:Program} {f:FuncId} {fn:Func} {pc:PC} (hf:P.funcs[f]? = some fn) (hc:fn.body.bind (comp P fn.ntmps)=some pc) (he:entered P f=true) (hl:Nat.ble 1 fn.ntmps=true):In1 P f fn pc:=fun h=>Qe4 hf hc he hl (QBd _) h
abbrev In2 (P:Program) (f:FuncId) (fn:Func) (pc:PC):Prop:=∀ {a0 a1:Value} {H:Qa} {k:Value→Qa→Prop},(H.Wf→Qp P pc ⟨Rt P fn H k,YH⟩ (Rt P fn H k) (upd (upd U 0 a0) 1 a1) H)→Qe P f [a0,a1] H k
theorem in2 {P:Program} {f:FuncId} {fn:Func} {pc:PC} (hf:P.funcs[f]? = some fn) (hc:fn.body.bind (comp P fn.ntmps)=some pc) (he:entered P f=true) (hl:Nat.ble 2 fn.ntmps=true):In2 P f fn pc:=fun h=>Qe4 hf hc he hl (QBe _ _) h
abbrev In3 (P:Program) (f:FuncId) (fn:Func) (pc:PC):Prop:=∀ {a0 a1 a2:Value} {H:Qa} {k:Value→Qa→Prop},(H.Wf→Qp P pc ⟨Rt P fn H k,YH⟩ (Rt P fn H k) (upd (upd (upd U 0 a0) 1 a1) 2 a2) H)→Qe P f [a0,a1,a2] H k
theorem in3 {P:Program} {f:FuncId} {fn:Func} {pc:PC} (hf:P.funcs[f]? = some fn) (hc:fn.body.bind (comp P fn.ntmps)=some pc) (he:entered P f=true) (hl:Nat.ble 3 fn.ntmps=true):In3 P f fn pc:=fun h=>Qe4 hf hc he hl (QBf _ _ _) h
abbrev In4 (P:Program) (f:FuncId) (fn:Func) (pc:PC):Prop:=∀ {a0 a1 a2 a3:Value} {H:Qa} {k:Value→Qa→Prop},(H.Wf→Qp P pc ⟨Rt P fn H k,YH⟩ (Rt P fn H k) (upd (upd (upd (upd U 0 a0) 1 a1) 2 a2) 3 a3) H)→Qe P f [a0,a1,a2,a3] H k
theorem in4 {P:Program} {f:FuncId} {fn:Func} {pc:PC} (hf:P.funcs[f]? = some fn) (hc:fn.body.bind (comp P fn.ntmps)=some pc) (he:entered P f=true) (hl:Nat.ble 4 fn.ntmps=true):In4 P f fn pc:=fun h=>Qe4 hf hc he hl (QBg _ _ _ _) h
abbrev In5 (P:Program) (f:FuncId) (fn:Func) (pc:PC):Prop:=∀ {a0 a1 a2 a3 a4:Value} {H:Qa} {k:Value→Qa→Prop},(H.Wf→Qp P pc ⟨Rt P fn H k,YH⟩ (Rt P fn H k) (upd (upd (upd (upd (upd U 0 a0) 1 a1) 2 a2) 3 a3) 4 a4) H)→Qe P f [a0,a1,a2,a3,a4] H k
theorem in5 {P:Program} {f:FuncId} {fn:Func} {pc:PC} (hf:P.funcs[f]? = some fn) (hc:fn.body.bind (comp P fn.ntmps)=some pc) (he:entered P f=true) (hl:Nat.ble 5 fn.ntmps=true):In5 P f fn pc:=fun h=>Qe4 hf hc he hl (QBh _ _ _ _ _) h
end Go.Ab
namespace Go.Ab
open Go.RowKit
section
variable {P:Program} {ρ:Ren} {H:Qa} {w:World}
def QbR (H:Qa):Prop:=∀id b,H.get id=some b→b.ro=true
theorem Sim.addRo (hs:Sim P ρ H w) (hro:QbR H) {c:List Value} (e:TypeId) {a:Addr} (hlt:a.block<w.heap.size) (hc:∀ (j:Nat) v,c[j]? = some v→∃v',w.cell? (a.add j)=some v'∧V ρ v v'):
  Sim P (ext ρ H.next ⟨a,0,0⟩) (H.push (.cells c e true)) w:=by
 have hn:=hs.none_next
 have hsub:=Qad ⟨a,0,0⟩ hn
 refine⟨fun id j h=>?_,fun id bl j h h'=>?_,fun id1 id2 b1 b2 i1 i2 h1 h2 h3 h4 h5 h6=>?_,fun g hg=>?_⟩
 ·by_cases ee:id=H.next
  ·subst ee;simp
  ·rw[XD ρ _ ee]at h;have:=hs.dom _ _ h;simp;omega
 ·by_cases ee:id=H.next
  ·subst ee
   rw[Q5]at h';cases h'
   rw[Qa.get_push,if_pos rfl]at h;cases h
   exact⟨hlt,fun j v hj=>by obtain⟨v',x1,x2⟩:=hc j v hj;exact⟨v',x1,x2.mono hsub⟩⟩
  ·rw[XD ρ _ ee]at h';rw[Qa.get_push,if_neg ee]at h
   exact(hs.live id bl j h h').mono hsub rfl
 ·have:b1.ro=true:=by
   by_cases ee:id1=H.next
   ·subst ee;rw[Qa.get_push,if_pos rfl]at h1;cases h1;rfl
   ·rw[Qa.get_push,if_neg ee]at h1;exact hro _ _ h1
  rw[this]at h5;cases h5
 ·obtain⟨j,hj,ee⟩:=hs.glob g hg
  exact⟨j,hsub _ _ hj,ee⟩
theorem Sim.addDead (hs:Sim P ρ H w) (hw:H.Wf) (a:Addr):Sim P (ext ρ H.next ⟨a,0,0⟩) (H.up (H.next+1)) w:=by
 have hn:=hs.none_next
 have hsub:=Qad ⟨a,0,0⟩ hn
 refine⟨fun id j h=>?_,fun id bl j h h'=>?_,fun id1 id2 b1 b2 i1 i2 h1 h2 h3 h4 h5 h6=>?_,fun g hg=>?_⟩
 ·by_cases ee:id=H.next
  ·subst ee;simp
  ·rw[XD ρ _ ee]at h;have:=hs.dom _ _ h;simp;omega
 ·rw[Qa.get_up]at h
  have:=hw.lt h
  rw[XD ρ _ (by omega)]at h'
  exact(hs.live id bl j h h').mono hsub rfl
 ·rw[Qa.get_up]at h1 h2
  have:=hw.lt h1
  have:=hw.lt h2
  rw[XD ρ _ (by omega)]at h3 h4
  exact hs.sep id1 id2 b1 b2 i1 i2 h1 h2 h3 h4 h5 h6
 ·obtain⟨j,hj,ee⟩:=hs.glob g hg
  exact⟨j,hsub _ _ hj,ee⟩
theorem QbR.push (h:QbR H) (c:List Value) (e:TypeId):QbR (H.push (.cells c e true)):=fun id b hb=>by
 rw[Qa.get_push]at hb
 split at hb
 ·cases hb;rfl
 ·exact h id b hb
theorem QbR.up (h:QbR H) (m:Nat):QbR (H.up m):=fun id b hb=>h id b (by rw[Qa.get_up]at hb;exact hb)
theorem V.sliceIn {id len cap:Nat} {a:Addr} (hi:ρ id=some ⟨a,0,0⟩) (hl:len≤cap) (hc:cap<UNK):V ρ (.slice (some ⟨id,0,none⟩) len cap) (.slice (some a) len cap):=
 .slice id 0 len cap cap ⟨a,0,0⟩ a hi (.inl (by rw[show(⟨a,0,0⟩:Ys).at_=a from rfl];unfold Addr.add;rw[if_pos rfl])) hl hc (fun h=>by omega) (fun _=>rfl)
theorem calls_of_callQ {f:FuncId} {args args':List Value} {X:Value→Qa→Prop} (h:Qe P f args H fun u H'=>u=.bool true∧X u H') (hw:H.Wf) (he:entered P f=true) (hs:Sim P ρ H w) (ha:VL ρ args args') (hro:QbR H):
  Calls P f args'.toArray w fun e w'=>e=.returned (.bool true)∧Below w.heap.size w w':=by
 obtain⟨v,H',hc,_,_,rfl,_⟩:=h hw
 exact QmW (hc.does he) hs ha rfl hro
theorem QuF {base:Nat} {a:Addr} {n:Nat} {cs:List Value} (h:w.cells? base a n=some cs):cs.length=n∧∀i,i<n→w.cell? (a.add i)=cs[i]? := by
 unfold World.cells? at h
 split at h
 ·have hl:=Qd0.mapM_length h
  refine⟨by simpa using hl,fun i hi=>?_⟩
  have key:∀ (l:List Nat) (cs:List Value),l.mapM (fun i=>w.cell? (a.add i))=some cs→∀ (j:Nat) x,l[j]? = some x→w.cell? (a.add x)=cs[j]? := by
   intro l
   induction l with
   | nil=>intro cs h j x hx;simp at hx
   | cons y l ih=>
    intro cs h j x hx
    simp only[List.mapM_cons,Option.bind_eq_bind,Option.bind_eq_some_iff,Option.pure_def,Option.some.injEq]at h
    obtain⟨v,hv,vs,hvs,rfl⟩:=h
    cases j with
    | zero=>simp at hx;subst hx;simpa using hv
    | succ j=>simpa using ih vs hvs j x (by simpa using hx)
  exact key _ _ h i i (by simp[hi])
 ·cases h
end
variable {P:Program}
variable {P:Program} {A:Env} {H:Qa} {k:Value→Qa→Prop}
theorem Qwg {o:Op} {v:Value} {H':Qa} (e:rop P (.gen o) A H=some (v,H')):pr P (.gen o) false A H k=k v H':=by
 refine(Q6 _).trans ?_
 rw[e,Qr]
/-! ### Texts -/
section
variable {ty:TypeId} {x lo hi:Operand} {s:ByteArray} {l h:Nat} {ik ik':IntKind}
end
/-! ### Arrays in memory -/
/-! ### Nil, and places held against each other -/
def QoV (P:Program) (t:TypeId):Bool:=match P.underlying t with | some (.slice _)=>true | _=>false
theorem Qfa {t t':TypeId} {x:Operand} {a:Option Addr} {n c:Nat} (ht:QoV P t=true) (hx:ev A x=.slice a n c):
  pr P (.gen (.binOp .eql t x (.const (.slice none 0 0)) t')) false A H k=k (.bool a.isNone) H:=by
 have hc:ev A (.const (.slice none 0 0))=.slice none 0 0:=rfl
 unfold QoV at ht
 split at ht
 ·rename_i h1
  exact Qwg (by cases a<;>simp[rop,aop,Qcy,QpW,Qlb,Xu,hx,hc,h1,aeq,Qgf,K8,Y5,Qhg,QpN])
 ·cases ht
/-! ### Numbers -/
/-! ### Pointers without a type -/
/-! ### Entries of the model -/
/-! ### Cells -/
end Go.Ab
