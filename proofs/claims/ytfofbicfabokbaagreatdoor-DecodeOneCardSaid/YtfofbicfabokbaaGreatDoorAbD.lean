/- Code made of resolved operations, and what it does, as a proposition. -/
import Derived.Test.YtfofbicfabokbaaGreatDoorAbC
import Derived.Test.YtfofbicfabokbaaGreatDoorAbB
set_option linter.unusedVariables false
noncomputable section
namespace Go.Ab
structure PO where
 d:Option Nat
 r:R
 g:Option (Nat×Bool)
 s:Bool
inductive PC where
 | skip
 | ops (l:List PO)
 | seq (a b:PC)
 | cond (c:Operand) (a b:PC)
 | block (id:Nat) (b:PC)
 | loop (b:PC)
 | exit (id:Nat)
 | ret
 | label (l:Nat)
 | goto (l:Nat)
 | scope (b:PC) (l:Nat) (r:PC)
 | bad
/-! ### Resolving code -/
def Qi9 (o:Oper):Bool:=match o.op with | .load .. => true | _=>false
def QnD (o:Oper):Bool:=match o.op with | .alloc .. | .box .. | .makeSlice .. | .buildSlice .. | .convert .. | .makeMap .. | .range .. => true | _=>false
def Vz (o:Oper):Bool:=match o.op with | .call ⟨.value _,_,_⟩=>true | _=>false
def QhN (ops:Array Oper) (i:Nat):Bool:=match ops[i]? with | some o=>Qi9 o | none=>false
def QeL (ops:Array Oper) (i:Nat):Bool:=match ops[i]? with | some o=>QnD o | none=>false
def KL (ops:Array Oper) (i:Nat):Bool:=match ops[i]? with | some o=>Vz o | none=>false
def WA (ops:Array Oper) (ms:List Nat) (k:Nat):Bool:=
 (WN ops k&&(List.range ops.size).any fun i=>(QhN ops i&&!(Qw ms i k)&&!(Qw ms k i))||(QeL ops i&&Nat.blt i k&&!(Qw ms i k))) ||
 (QhN ops k&&(List.range ops.size).any fun i=>WN ops i&&!(Qw ms i k)&&!(Qw ms k i))
def QnE (o:Oper):Bool:=match o.op with | .store .. => true | _=>false
def QnF (ops:Array Oper) (i:Nat):Bool:=match ops[i]? with | some o=>QnE o | none=>false
def QhO (ms:List Nat) (i k:Nat):Bool:=!(Qw ms i k)&&!(Qw ms k i)
def QhP (ops:Array Oper) (i:Nat):Option Nat:=match ops[i]? with | some o=>(match o.op with | .load _ (.tmp t)=>some t | _=>none) | none=>none
def QhQ (ops:Array Oper) (ms:List Nat) (k:Nat):List Operand:=(List.range k).filterMap fun i=>bif QhN ops i&&QhO ms i k then(QhP ops i).map .tmp else none
def Qvn (ops:Array Oper) (ms:List Nat) (i k:Nat):Bool:=
 Nat.blt i k&&(QhP ops i).isSome&&(List.range k).all fun j=>Nat.blt j i||((match ops[j]? with | some o=>!(o.dst==QhP ops i) | none=>true)&&(!(WN ops j)||(KL ops j&&WA ops ms j)||(QnF ops j&&WA ops ms j&&QhO ms i j)))
def QhR (o:Oper):Bool:=match o.op with | .call ⟨.value (.func _),_,_⟩=>true | _=>false
def Qu0 (ops:Array Oper) (i:Nat):Bool:=match ops[i]? with | some o=>QhR o | none=>false
def Qro (o:Oper):Option (Nat×Nat):=match o.op,o.dst,o.guard with
 | .fieldAddr _ (.tmp b) _,some d,none=>some (d,b)
 | _,_,_=>none
def Qkw (ops:Array Oper) (i:Nat):Option Nat:=match QhP ops i with
 | none=>none
 | some t=>match i with
  | 0=>some t
  | j+1=>match ops[j]? with
   | some o=>(match Qro o with | some (d,b)=>some (bif Nat.beq d t then b else t) | none=>some t)
   | none=>some t
def QfE (ops:Array Oper) (ms:List Nat) (k:Nat):List Operand:=(List.range ops.size).filterMap fun i=>bif Nat.blt k i&&(QhN ops i&&QhO ms i k) then(Qkw ops i).map .tmp else none
def quiet (ops:Array Oper) (ms:List Nat) (i k:Nat):Bool:=
 (Nat.blt i k&&(List.range k).all fun j=>Nat.ble j i||(!(WN ops j)||(WA ops ms j&&KL ops j))) ||
 (Nat.blt k i&&Qu0 ops k&&(Qkw ops i).isSome&&(List.range i).all fun j=>Nat.blt j k||((match ops[j]? with | some o=>!(o.dst==Qkw ops i) | none=>true)&&(!(WN ops j)||(WA ops ms j&&KL ops j))))
def Qpd (ops:Array Oper) (ms:List Nat):Bool:=
 (List.range ops.size).all fun k=>!(WN ops k)||!(WA ops ms k)||(KL ops k&&(List.range ops.size).all fun i=>!(QhN ops i)||Qw ms i k||Qw ms k i||quiet ops ms i k) ||
  (QnF ops k&&(List.range ops.size).all fun i=>(!(QhN ops i)||Qw ms i k||Qw ms k i||Qvn ops ms i k)&&(!(QeL ops i)||!(Nat.blt i k)||Qw ms i k))
def Qcj (P:Program) (ops:Array Oper) (i:Nat) (o:Oper):R:=
 match o.op with
 | .store t x y=>match P.info? t with | some inf=>.stf inf.size x y (QhQ ops (QF ops.toList []) i) | none=>Wp P o.op
 | .call ⟨.value (.func f),args,_⟩=>.callF f args.toList (QfE ops (QF ops.toList []) i)
 | _=>Wp P o.op
def QeM (P:Program) (ops:Array Oper) (f:Bool) (i:Nat) (o:Oper):R:=bif f then Qcj P ops i o else Wp P o.op
def QnG (n:Nat) (ops:Array Oper) (o:Oper):Option (Option (Nat×Bool)):=
 match o.guard with
 | none=>some none
 | some (j,want)=>match GD ops j with
  | some t=>if t<n then some (some (t,want)) else none
  | none=>none
def Kn (P:Program) (n:Nat) (ops:Array Oper) (fl:Nat→Bool):List Oper→Nat→Option (List PO)
 | [],_=>some []
 | o::l,i=>if QaQ P n o then
   match QnG n ops o,Kn P n ops fl l (i+1) with
   | some g,some pl=>some (⟨o.dst,QeM P ops (fl i) i o,g,fl i⟩::pl)
   | _,_=>none
  else none
def Qck (P:Program) (op:Op):Bool:=match op with
 | .convert src _ _=>(match P.underlying src with | some (.slice _) | some (.pointer _) | some .unsafePointer=>true | _=>false)
 | .range t _=>(match P.underlying t with | some (.map _ _)=>true | _=>false)
 | _=>false
def J0:Nat:=1000000
def sq:PC→PC→PC
 | .skip,y=>y
 | x,.skip=>x
 | x,y=>.seq x y
def Jt:PC→Nat→Option PC
 | .seq a b,l=>match Jt a l with
  | some r=>some (sq r b)
  | none=>Jt b l
 | .label l',l=>bif Nat.beq l' l then some .skip else none
 | _,_=>none
def JM:PC→List Nat
 | .seq a b=>JM a++JM b
 | .label l=>[l]
 | _=>[]
def Qkx (b:PC):PC:=
 match JM b with
 | []=>b
 | [l]=>match Jt b l with
  | some r=>.scope b l r
  | none=>.bad
 | _=>.bad
def comp (P:Program) (n:Nat):Code→Option PC
 | .skip=>some .skip
 | .label l=>some (.label l)
 | .ret=>some .ret
 | .exit id=>some (bif Nat.blt id J0 then .exit id else .bad)
 | .goto l=>some (.goto l)
 | .region _ ops false=>some (match Kn P n ops (fun _=>false) ops.toList 0 with | some l=>.ops l | none=>.bad)
 | .region _ ops true=>some (if P.follows .mixedOrders&&VY ops (WN ops)&&Qpd ops (QF ops.toList [])&&ops.all (fun o=>!(Qck P o.op)) then(match Kn P n ops (WA ops (QF ops.toList [])) ops.toList 0 with | some l=>.ops l | none=>.bad) else .bad)
 | .seq a b=>match comp P n a,comp P n b with
  | some x,some y=>some (sq x y)
  | _,_=>none
 | .cond c a b=>if Qae P n c then(match comp P n a,comp P n b with | some x,some y=>some (.cond c x y) | _,_=>none) else none
 | .block id b=>(comp P n b).map fun x=>bif Nat.blt id J0 then .block id x else .bad
 | .loop b=>(comp P n b).map .loop
 | .scope b=>(comp P n b).map Qkx
 | _=>some .bad
/-! ### What it does -/
structure Kp where
 ret:Env→Qa→Prop
 ext:Nat→Env→Qa→Prop
def onS (o:Option (Value×Qa)) (k:Value→Qa→Prop):Prop:=∃v H',o=some (v,H')∧k v H'
def Qa.Wf (H:Qa):Prop:=∀id,H.next≤id→H.get id=none
theorem Qa.Wf.lt {H:Qa} (h:H.Wf) {id:Nat} {b:Blk} (hg:H.get id=some b):id<H.next:=by
 rcases Nat.lt_or_ge id H.next with h1 | h1
 ·exact h1
 ·rw[h id h1]at hg;cases hg
theorem Qa.Wf.push {H:Qa} (h:H.Wf) (b:Blk):(H.push b).Wf:=fun id hid=>by
 simp only[Qa.next_push]at hid
 rw[Qa.get_push,if_neg (by omega)];exact h id (by omega)
theorem Qa.Wf.set {H:Qa} (h:H.Wf) {i:Nat} {b0:Blk} (hg:H.get i=some b0) (b:Blk):(H.set i b).Wf:=fun id hid=>by
 have:=h.lt hg
 simp only[Qa.next_set]at hid
 rw[Qa.get_set,if_neg (by omega)];exact h id hid
theorem Qa.Wf.kill {H:Qa} (h:H.Wf) (i:Nat):(H.kill i).Wf:=fun id hid=>by
 simp only[Qa.next_kill]at hid
 rw[Qa.get_kill]
 split
 ·rfl
 ·exact h id hid
def Qf (P:Program) (f:FuncId) (args:List Value) (H:Qa) (k:Value→Qa→Prop):Prop:=H.Wf→∃v H',ZL P f args H v H'∧H.next≤H'.next∧H'.Wf∧k v H'
def Qd8:Value→Value→Prop
 | .pointer (some a),.pointer (some b)=>b.block≠a.block
 | _,_=>False
def QnH (n:Nat):Value→Prop
 | .pointer (some a)=>a.block<n
 | _=>False
def EqB (H H':Qa):Prop:=∀id,id<H.next→H'.get id=H.get id
def pr (P:Program) (r:R) (s:Bool) (A:Env) (H:Qa) (k:Value→Qa→Prop):Prop:=
 match r with
 | .call f args=>Qf P f (args.map (ev A)) H fun v H'=>(s=true→∀id,H'.get id=H.get id)∧k v H'
 | .callv c args=>match ev A c with
  | .func (.func f) xs ys=>Qf P f (xs.toList++args.map (ev A)++ys.toList) H fun v H'=>(s=true→∀id,H'.get id=H.get id)∧k v H'
  | _=>False
 | .callF f args os=>(∀z∈os,QnH H.next (ev A z))∧Qf P f (args.map (ev A)) H fun v H'=>EqB H H'∧k v H'
 | .stf size x y os=>onS (rop P (.stf size x y os) A H) fun v H'=>(∀z∈os,Qd8 (ev A x) (ev A z))∧k v H'
 | r=>onS (rop P r A H) fun v H'=>(s=true→QK H.next 6 v=true)∧k v H'
def pg (g:Option (Nat×Bool)) (A:Env) (yes no:Prop):Prop:=
 match g with
 | none=>yes
 | some (t,w)=>match A t with
  | .bool b=>if b=w then yes else no
  | .tuple _=>no
  | _=>False
def KM (P:Program):List PO→(Env→Qa→Prop)→Env→Qa→Prop
 | [],k,A,H=>k A H
 | o::l,k,A,H=>pg o.g A (pr P o.r o.s A H fun v H'=>KM P l k (YO A o.d v) H') (KM P l k (YO A o.d undef) H)
def jmK (l:Nat) (I:Nat→Env→Qa→Prop) (m:Nat) (e:Nat→Env→Qa→Prop) (j:Nat) (A:Env) (H:Qa):Prop:=if j=J0+l then ∃m',m'<m∧I m' A H else e j A H
def Qm (P:Program):PC→Kp→(Env→Qa→Prop)→Env→Qa→Prop
 | .skip,_,k,A,H=>k A H
 | .ops l,_,k,A,H=>KM P l k A H
 | .seq a b,ks,k,A,H=>Qm P a ks (Qm P b ks k) A H
 | .cond c a b,ks,k,A,H=>match ev A c with
  | .bool t=>(t=true→Qm P a ks k A H)∧(t=false→Qm P b ks k A H)
  | _=>False
 | .block id b,ks,k,A,H=>Qm P b ⟨ks.ret,fun j=>if j=id then k else ks.ext j⟩ k A H
 | .loop b,ks,k,A,H=>∃I:Nat→Env→Qa→Prop,(∃m,I m A H)∧∀m A' H',I m A' H'→Qm P b ks (fun A'' H''=>∃m',m'<m∧I m' A'' H'') A' H'
 | .exit id,ks,_,A,H=>ks.ext id A H
 | .ret,ks,_,A,H=>ks.ret A H
 | .label _,_,k,A,H=>k A H
 | .goto l,ks,_,A,H=>ks.ext (J0+l) A H
 | .scope b l r,ks,k,A,H=>∃I:Nat→Env→Qa→Prop,(∃m,Qm P b ⟨ks.ret,jmK l I m ks.ext⟩ k A H)∧∀m A' H',I m A' H'→Qm P r ⟨ks.ret,jmK l I m ks.ext⟩ k A' H'
 | .bad,_,_,_,_=>False
/-! ### Soundness -/
section
variable {P:Program} {n:Nat}
theorem Qp5:Km P JK:=⟨fun f args H v H' h=>(by cases h),fun f args H v H' h=>(by cases h),fun f args H v H' h=>(by cases h)⟩
theorem Qp6 {H H':Qa} {r:Option Value} {c:Cls} {v:Value} (h:XX H r=some (c,v,H')):c=.pure∧H'=H:=by
 obtain⟨_,h1,h2⟩:=Xj h;exact⟨h1,h2⟩
theorem WP {α:Type} {b:Bool} {x:Option α} {y:α} (h:(bif b then x else none)=some y):x=some y:=by cases b<;>simp_all
theorem QeN {e:TypeId} {inf:TypeInfo} {s x:Value} {H H':Qa} {v:Value} (h:Qc2 e inf s x H=some (v,H')):H.next≤H'.next∧(H.Wf→H'.Wf):=by
  unfold Qc2 at h
  repeat' (split at h)
  all_goals first
    | (cases h;done)
    | (simp only[Option.some.injEq,Prod.mk.injEq]at h;obtain⟨_,rfl⟩:=h;refine⟨by simp,fun hw=>?_⟩
       first
         | exact hw
         | exact hw.push _
         | exact(hw.kill _).push _
         | exact hw.set (by assumption) _)
theorem Qc6 {k:TypeId} {m ix v:Value} {H H':Qa} (h:Qkr P k m ix v H=some H'):H.next≤H'.next∧(H.Wf→H'.Wf):=by
 unfold Qkr at h
 split at h
 ·split at h
  ·rename_i hg
   have h:=WP h
   split at h
   ·cases h;exact⟨by simp,fun hw=>hw.set hg _⟩
   ·cases h;exact⟨by simp,fun hw=>hw.set hg _⟩
   ·cases h
  ·cases h
 ·cases h
structure Syn (P:Program) (o:Oper) (H H':Qa) (c:Cls):Prop where
 gen:Xi c=true→Qvm o=true∨Qck P o.op=true
 load:c=.load→Qi9 o=true
 alloc:∀b,c=.alloc b→QnD o=true
 next:H.next≤H'.next
 wf:H.Wf→H'.Wf
theorem Qtk {o:Oper} {A:Env} {H H':Qa} {c:Cls} {v:Value} (h:aop P JK o A H=some (c,v,H')):Syn P o H H' c:=by
  obtain⟨dst,op,ty,pos,af,g⟩:=o
  have hs:∀ {u:Value},some (Cls.pure,u,H)=some (c,v,H')→Syn P ⟨dst,op,ty,pos,af,g⟩ H H' c:=fun h=>by
    simp only[Option.some.injEq,Prod.mk.injEq]at h
    obtain⟨rfl,_,rfl⟩:=h
    exact⟨fun h=>(by cases h),fun h=>(by cases h),fun b h=>(by cases h),Nat.le_refl _,id⟩
  have hp:∀ {r:Option Value},XX H r=some (c,v,H')→Syn P ⟨dst,op,ty,pos,af,g⟩ H H' c:=fun {r} h=>by
    obtain⟨rfl,rfl⟩:=Qp6 h
    exact⟨fun h=>(by cases h),fun h=>(by cases h),fun b h=>(by cases h),Nat.le_refl _,id⟩
  have ha:∀ {b:Blk} {u:Value},QnD ⟨dst,op,ty,pos,af,g⟩=true→some (Cls.alloc b,u,H.push b)=some (c,v,H')→Syn P ⟨dst,op,ty,pos,af,g⟩ H H' c:=fun hl h=>by
    simp only[Option.some.injEq,Prod.mk.injEq]at h
    obtain⟨rfl,_,rfl⟩:=h
    exact⟨fun h=>(by cases h),fun h=>(by cases h),fun b _=>hl,by simp,fun hw=>hw.push _⟩
  unfold aop at h
  split at h
  case h_1 hop=>exact hs h
  case h_2 hop=>exact hs h
  case h_3 hop=>
    unfold Qku at h
    split at h
    · exact hs h
    · cases h
  case h_4 hop=>exact hs (WP h)
  case h_5 hop=>exact hp h
  case h_6 hop=>exact hp h
  case h_7 hop=>
    unfold Qc3 at h
    simp only at hop
    split at h
    · split at h
      · split at h
        · exact ha (by subst hop;rfl) (WP h)
        · cases h
      · cases h
    · rename_i hu hd ex
      split at h
      · split at h
        · simp only[Option.some.injEq,Prod.mk.injEq]at h;obtain⟨rfl,_,rfl⟩:=h
          exact⟨fun _=>.inr (by subst hop;simp only[Qck,hu]),fun h=>(by cases h),fun b h=>(by cases h),Nat.le_refl _,id⟩
        · cases h
      · cases h
    · rename_i hu hd ex
      split at h
      · split at h
        · simp only[Option.some.injEq,Prod.mk.injEq]at h;obtain⟨rfl,_,rfl⟩:=h
          exact⟨fun _=>.inr (by subst hop;simp only[Qck,hu]),fun h=>(by cases h),fun b h=>(by cases h),Nat.le_refl _,id⟩
        · cases h
      · cases h
    · rename_i hu hd ex
      split at h
      · split at h
        · simp only[Option.some.injEq,Prod.mk.injEq]at h;obtain⟨rfl,_,rfl⟩:=h
          exact⟨fun _=>.inr (by subst hop;simp only[Qck,hu]),fun h=>(by cases h),fun b h=>(by cases h),Nat.le_refl _,id⟩
        · cases h
      · cases h
    · exact hp h
  case h_8 hop=>
    unfold Jb at h
    split at h
    · cases h
    · exact hs h
    · cases h
  case h_9 hop=>exact hs (WP h)
  case h_10 hop=>
    unfold Qhc at h
    repeat' (split at h)
    all_goals first | exact hp h | cases h
  case h_11 hop=>
    unfold Js at h
    repeat' (split at h)
    all_goals first
      | (cases h;done)
      | (revert h;cases hz:Nat.beq _ 0<;>intro h<;>first | exact hs h | cases h)
  case h_12 hop=>
    unfold Kz at h
    repeat' (split at h)
    all_goals first | exact hs h | cases h
  case h_13 hop=>
    unfold QeF at h
    repeat' (split at h)
    all_goals first | exact hs h | exact hp h | cases h
  case h_14 hop=>
    unfold Qc4 at h
    split at h
    · exact hp h
    · cases h
  case h_15 hop=>exact hp h
  case h_16 hop=>
    unfold Qhd at h
    repeat' (split at h)
    all_goals first | (cases h;done) | exact hp (WP h)
  case h_17 hop=>
    simp only at hop
    unfold Gt at h
    split at h
    · split at h
      · split at h
        · have h:=WP h
          split at h
          · exact ha (by subst hop;rfl) h
          · cases h
        · cases h
      · cases h
    · cases h
  case h_18 hop=>
    simp only at hop
    unfold Qhe at h
    split at h
    · split at h
      · exact ha (by subst hop;rfl) (WP h)
      · cases h
    · cases h
  case h_19 hop=>simp only at hop;unfold Qrm at h;exact ha (by subst hop;rfl) h
  case h_20 hop=>
    simp only at hop
    unfold Vw at h
    repeat' (split at h)
    all_goals first | (cases h;done) | exact ha (by subst hop;rfl) h
  case h_21 hop=>
    unfold Qhf at h
    repeat' (split at h)
    all_goals first | exact hs h | exact hp h | cases h
  case h_22 hop=>
    simp only at hop
    unfold QhL at h
    repeat' (split at h)
    all_goals first
      | (cases h;done)
      | (simp only[Option.some.injEq,Prod.mk.injEq]at h
         obtain⟨rfl,_,rfl⟩:=h
         exact⟨fun h=>(by cases h),fun _=>(by subst hop;rfl),fun b h=>(by cases h),Nat.le_refl _,id⟩)
  case h_23 hop=>
    simp only at hop
    unfold QeG at h
    split at h
    · split at h
      · rename_i H1 hst
        simp only[Option.some.injEq,Prod.mk.injEq]at h
        obtain⟨rfl,_,rfl⟩:=h
        have hst2:H.next≤H1.next∧(H.Wf→H1.Wf):=by
          unfold QdY at hst
          split at hst
          · rename_i hg
            split at hst
            · cases hst;exact⟨by simp,fun hw=>hw.set hg _⟩
            · cases hst
          · cases hst
        exact⟨fun _=>.inl (by subst hop;rfl),fun h=>(by cases h),fun b h=>(by cases h),hst2.1,hst2.2⟩
      · cases h
    · cases h
  case h_24 cl hop=>
    simp only at hop
    unfold Qd7 at h
    split at h
    · split at h
      · split at h
        · exact hs h
        · cases h
      · split at h
        · exact hs (WP h)
        · cases h
      · split at h
        · split at h
          · exact hs h
          · cases h
        · cases h
      · split at h
        · split at h
          · exact hs h
          · cases h
        · cases h
      · split at h
        · split at h
          · split at h
            · have h:=WP h
              simp only[Option.map_eq_some_iff,Prod.mk.injEq]at h
              obtain⟨⟨u,H1⟩,h1,rfl,rfl,rfl⟩:=h
              exact⟨fun _=>.inl (by subst hop;rfl),fun h=>(by cases h),fun b h=>(by cases h),(QeN h1).1,(QeN h1).2⟩
            · cases h
          · cases h
        · cases h
      · split at h
        · split at h
          · simp only[Option.map_eq_some_iff,Prod.mk.injEq]at h
            obtain⟨⟨u,H1⟩,h1,rfl,rfl,rfl⟩:=h
            have hn:H.next≤H1.next∧(H.Wf→H1.Wf):=by
              unfold Qpa at h1
              repeat' (split at h1)
              all_goals first
                | (cases h1;done)
                | (simp only[Option.some.injEq,Prod.mk.injEq]at h1;obtain⟨_,rfl⟩:=h1;exact⟨by simp,fun hw=>by first | exact hw | exact hw.set (by assumption) _⟩)
            exact⟨fun _=>.inl (by subst hop;rfl),fun h=>(by cases h),fun b h=>(by cases h),hn.1,hn.2⟩
          · cases h
        · cases h
      · split at h
        · exact hs h
        · split at h
          · exact hs h
          · cases h
        · cases h
      · split at h
        · simp only[Option.some.injEq,Prod.mk.injEq]at h;obtain⟨rfl,_,rfl⟩:=h
          exact⟨fun _=>.inl (by subst hop;rfl),fun h=>(by cases h),fun b h=>(by cases h),Nat.le_refl _,id⟩
        · split at h
          · rename_i hg
            split at h
            · split at h
              · simp only[Option.some.injEq,Prod.mk.injEq]at h;obtain⟨rfl,_,rfl⟩:=h
                exact⟨fun _=>.inl (by subst hop;rfl),fun h=>(by cases h),fun b h=>(by cases h),by simp,fun hw=>hw.set hg _⟩
              · cases h
            · cases h
          · cases h
        · cases h
      · cases h
    · split at h
      · split at h
        · simp[JK]at h
        · cases h
      · cases h
    · simp[JK]at h
    · split at h
      · simp[JK]at h
      · have h:=WP h;simp[JK]at h
      · cases h
  case h_25 hop=>simp only at hop;exact ha (by subst hop;rfl) h
  case h_26 hop=>
    simp only at hop
    unfold Qch at h
    split at h
    · simp only[Option.map_eq_some_iff,Prod.mk.injEq]at h
      obtain⟨u,h1,rfl,rfl,rfl⟩:=h
      exact⟨fun _=>.inl (by subst hop;rfl),fun h=>(by cases h),fun b h=>(by cases h),Nat.le_refl _,id⟩
    · cases h
  case h_27 hop=>
    simp only at hop
    unfold Qgc at h
    split at h
    · simp only[Option.map_eq_some_iff,Prod.mk.injEq]at h
      obtain⟨H1,h1,rfl,rfl,rfl⟩:=h
      exact⟨fun _=>.inl (by subst hop;rfl),fun h=>(by cases h),fun b h=>(by cases h),(Qc6 h1).1,(Qc6 h1).2⟩
    · cases h
  case h_28 hop=>
    simp only at hop
    unfold Qgc at h
    split at h
    · simp only[Option.map_eq_some_iff,Prod.mk.injEq]at h
      obtain⟨H1,h1,rfl,rfl,rfl⟩:=h
      exact⟨fun _=>.inl (by subst hop;rfl),fun h=>(by cases h),fun b h=>(by cases h),(Qc6 h1).1,(Qc6 h1).2⟩
    · cases h
  case h_29 hop=>
    simp only at hop
    unfold Qhg at h
    split at h
    · exact ha (by subst hop;rfl) h
    · rename_i ht ex
      simp only[Option.some.injEq,Prod.mk.injEq]at h
      obtain⟨rfl,_,rfl⟩:=h
      exact⟨fun _=>.inr (by subst hop;simp only[Qck,ht]),fun h=>(by cases h),fun b h=>(by cases h),by simp,fun hw=>hw.push _⟩
    · rename_i ht ex
      split at h
      · simp only[Option.some.injEq,Prod.mk.injEq]at h
        obtain⟨rfl,_,rfl⟩:=h
        exact⟨fun _=>.inr (by subst hop;simp only[Qck,ht]),fun h=>(by cases h),fun b h=>(by cases h),by simp,fun hw=>hw.push _⟩
      · cases h
    · cases h
  case h_30 hop=>
    simp only at hop
    simp only[Option.map_eq_some_iff,Prod.mk.injEq]at h
    obtain⟨⟨u,H1⟩,h1,rfl,rfl,rfl⟩:=h
    have hn:H.next≤H1.next∧(H.Wf→H1.Wf):=by
      unfold QjN at h1
      split at h1
      · have h1:=WP h1
        split at h1
        · rename_i hg
          split at h1
          · simp only[Option.some.injEq,Prod.mk.injEq]at h1;obtain⟨_,rfl⟩:=h1;exact⟨by simp,fun hw=>hw.set hg _⟩
          · simp only[Option.some.injEq,Prod.mk.injEq]at h1;obtain⟨_,rfl⟩:=h1;exact⟨by simp,fun hw=>hw⟩
        · cases h1
      · cases h1
    exact⟨fun _=>.inl (by subst hop;rfl),fun h=>(by cases h),fun b h=>(by cases h),hn.1,hn.2⟩
  case h_31 hop=>
    simp only at hop
    simp only[Option.map_eq_some_iff,Prod.mk.injEq]at h
    obtain⟨⟨u,H1⟩,h1,rfl,rfl,rfl⟩:=h
    have hn:H.next≤H1.next∧(H.Wf→H1.Wf):=by
      unfold Qkt at h1
      split at h1
      · have h1:=WP h1
        split at h1
        · simp only[Option.some.injEq,Prod.mk.injEq]at h1;obtain⟨_,rfl⟩:=h1;exact⟨by simp,fun hw=>hw⟩
        · rename_i hg
          split at h1
          · have h1:=WP h1
            split at h1
            · simp only[Option.some.injEq,Prod.mk.injEq]at h1;obtain⟨_,rfl⟩:=h1;exact⟨by simp,fun hw=>hw⟩
            · split at h1
              · have h1:=WP h1
                simp only[Option.some.injEq,Prod.mk.injEq]at h1;obtain⟨_,rfl⟩:=h1;exact⟨by simp,fun hw=>hw.set hg _⟩
              · cases h1
            · cases h1
          · cases h1
        · cases h1
      · cases h1
    exact⟨fun _=>.inl (by subst hop;rfl),fun h=>(by cases h),fun b h=>(by cases h),hn.1,hn.2⟩
  case h_32 hop=>
    simp only at hop
    simp only[Option.map_eq_some_iff,Prod.mk.injEq]at h
    obtain⟨u,h1,rfl,rfl,rfl⟩:=h
    exact⟨fun _=>.inl (by subst hop;rfl),fun h=>(by cases h),fun b h=>(by cases h),Nat.le_refl _,fun hw=>hw⟩
  case h_33=>cases h
end
section
variable {P:Program} {n:Nat}
theorem QjW {ops:Array Oper} {o:Oper} {g:Option (Nat×Bool)} {A:Env} {yes no:Prop} (hc:QnG n ops o=some g) (h:pg g A yes no):
  (Xm n ops A o=some true∧yes)∨(Xm n ops A o=some false∧no):=by
 unfold QnG at hc
 unfold Xm
 split at hc
 ·rename_i hg
  cases hc
  exact .inl ⟨by rw[hg],h⟩
 ·rename_i j want hg
  rw[hg]
  split at hc
  ·rename_i t ht
   split at hc
   ·rename_i hlt
    cases hc
    have h':(match A t with | .bool b=>if b=want then yes else no | .tuple _=>no | _=>False):=h
    simp only[ht,hlt,if_true]
    split at h'
    ·rename_i b hb
     split at h'
     ·rename_i e;exact .inl ⟨by simp[hb,e],h'⟩
     ·rename_i e;exact .inr ⟨by simp[hb,e],h'⟩
    ·rename_i hb;exact .inr ⟨by simp[hb],h'⟩
    ·exact h'.elim
   ·cases hc
  ·cases hc
theorem QkE {op:Op} {f:FuncId} {args:List Operand} (h:Wp P op=.call f args):∃a ts,op=.call ⟨.value (.func f),a,ts⟩∧args=a.toList:=by
 unfold Wp at h
 repeat' (split at h)
 all_goals first
  | (cases h;done)
  | (cases h;exact⟨_,_,rfl,rfl⟩)
theorem Qjc {op:Op} {c:Operand} {args:List Operand} (h:Wp P op=.callv c args):∃a ts,op=.call ⟨.value c,a,ts⟩∧args=a.toList:=by
 unfold Wp at h
 repeat' (split at h)
 all_goals first
  | (cases h;done)
  | (cases h;exact⟨_,_,rfl,rfl⟩)
theorem Ql4 {op:Op} {size:Nat} {x y:Operand} {os:List Operand} (h:Wp P op=.stf size x y os):False:=by
 unfold Wp at h
 repeat' (split at h)
 all_goals cases h
theorem Qjd {op:Op} {f:FuncId} {args os:List Operand} (h:Wp P op=.callF f args os):False:=by
 unfold Wp at h
 repeat' (split at h)
 all_goals cases h
def FA (o:Oper) (A:Env) (v:Value):Prop:=∀d b,Qro o=some (d,b)→∃ (a:Addr) (off:Nat),A b=.pointer (some a)∧v=.pointer (some ⟨a.block,off,none⟩)
theorem FA.none {o:Oper} {A:Env} {v:Value} (h:Qro o=none):FA o A v:=fun d b h'=>by rw[h]at h';cases h'
theorem Qvw {o:Oper} {A:Env} {H H':Qa} {c:Cls} {v:Value} (h:aop P JK o A H=some (c,v,H')):FA o A v:=by
 obtain⟨dst,op,ty,pos,af,g⟩:=o
 intro d b hf
 unfold Qro at hf
 split at hf
 ·rename_i t b' f d' hop hd hg
  simp only at hop
  subst hop
  cases hf
  have h:Js P JK A H t (.tmp b) f=some (c,v,H'):=h
  unfold Js at h
  split at h
  ·rename_i fs a _ ha
   split at h
   ·split at h
    ·rename_i inf _
     cases hz:Nat.beq inf.size 0 with
     | true=>rw[hz]at h;cases h
     | false=>
      rw[hz]at h
      simp only[cond_false,Option.some.injEq,Prod.mk.injEq]at h
      exact⟨a,_,ha,h.2.1.symm⟩
    ·cases h
   ·cases h
  ·cases h
 ·cases hf
theorem QkF {o:Oper} {s:Bool} {A:Env} {H:Qa} {k:Value→Qa→Prop} (hw:H.Wf) (h:pr P (Wp P o.op) s A H k):
  ∃c v H',Qgd P o A H v H' c∧Syn P o H H' c∧(s=true→Vz o=true→∀id,H'.get id=H.get id)∧(s=true→Qi9 o=true→QK H.next 6 v=true)∧FA o A v∧k v H':=by
 obtain⟨dst,op,ty,pos,af,g⟩:=o
 have other:onS (rop P (Wp P op) A H) (fun v H'=>(s=true→QK H.next 6 v=true)∧k v H')→
   ∃c v H',Qgd P ⟨dst,op,ty,pos,af,g⟩ A H v H' c∧Syn P ⟨dst,op,ty,pos,af,g⟩ H H' c∧(s=true→Vz ⟨dst,op,ty,pos,af,g⟩=true→∀id,H'.get id=H.get id)∧(s=true→Qi9 ⟨dst,op,ty,pos,af,g⟩=true→QK H.next 6 v=true)∧FA ⟨dst,op,ty,pos,af,g⟩ A v∧k v H':=fun⟨v,H',hr,hs,hk⟩=>by
  obtain⟨c,ha⟩:=QnC hr
  have ha:aop P JK ⟨dst,op,ty,pos,af,g⟩ A H=some (c,v,H'):=ha
  refine⟨c,v,H',Qc5 Qp5 ha,Qtk ha,fun _ hc=>?_,fun h _=>hs h,Qvw ha,hk⟩
  unfold Vz at hc
  split at hc
  ·rename_i f a ts hop
   simp only at hop
   subst hop
   unfold aop at ha
   simp only[Qd7]at ha
   split at ha
   ·rename_i he;cases he
   ·rename_i he;cases he
   ·simp[JK]at ha
   ·split at ha
    ·simp[JK]at ha
    ·have ha:=WP ha;simp[JK]at ha
    ·cases ha
  ·cases hc
 simp only[pr]at h
 split at h
 ·rename_i f args hr
  obtain⟨a,ts,hop,rfl⟩:=QkE hr
  subst hop
  obtain⟨v,H',hc,hn,hwf,hs,hk⟩:=h hw
  refine⟨.gen,v,H',Qko (by simpa using hc),⟨fun _=>.inl rfl,fun h=>(by cases h),fun b h=>(by cases h),hn,fun _=>hwf⟩,fun h _=>hs h,fun _ h=>(by cases h),.none rfl,hk⟩
 ·rename_i c args hr
  obtain⟨a,ts,hop,rfl⟩:=Qjc hr
  subst hop
  split at h
  ·rename_i f xs ys hv
   obtain⟨v,H',hc,hn,hwf,hs,hk⟩:=h hw
   refine⟨.gen,v,H',QlN hv (by simpa using hc),⟨fun _=>.inl rfl,fun h=>(by cases h),fun b h=>(by cases h),hn,fun _=>hwf⟩,fun h _=>hs h,fun _ h=>(by cases h),.none rfl,hk⟩
  ·exact h.elim
 ·rename_i hr;exact(Qjd hr).elim
 ·rename_i hr;exact(Ql4 hr).elim
 ·exact other h
def Low (o:Oper) (os:List Operand) (A:Env) (H:Qa):Prop:=QhR o=true→∀z∈os,∃b:Addr,ev A z=.pointer (some b)∧b.block<H.next
def Sep (o:Oper) (os:List Operand) (A:Env) (H H':Qa):Prop:=QnE o=true→∃a:Nat,(∀id,id≠a→H'.get id=H.get id)∧∀z∈os,∃b:Addr,ev A z=.pointer (some b)∧b.block≠a
theorem Ql5 {ops:Array Oper} {i:Nat} {o:Oper} {s:Bool} {A:Env} {H:Qa} {k:Value→Qa→Prop} (hw:H.Wf) (h:pr P (QeM P ops s i o) s A H k):
  ∃c v H',Qgd P o A H v H' c∧Syn P o H H' c∧(s=true→Vz o=true→EqB H H')∧(s=true→Qi9 o=true→QK H.next 6 v=true)∧(s=true→Sep o (QhQ ops (QF ops.toList []) i) A H H')∧(s=true→Low o (QfE ops (QF ops.toList []) i) A H)∧FA o A v∧k v H':=by
 cases s with
 | false=>
  obtain⟨c,v,H',h1,h2,h3,h4,hfa,h5⟩:=QkF hw h
  exact⟨c,v,H',h1,h2,fun h=>(by cases h),h4,fun h=>(by cases h),fun h=>(by cases h),hfa,h5⟩
 | true=>
  have h:pr P (Qcj P ops i o) true A H k:=h
  have plainly:QnE o=false→QhR o=false→Qcj P ops i o=Wp P o.op→∃c v H',Qgd P o A H v H' c∧Syn P o H H' c∧(true=true→Vz o=true→EqB H H')∧(true=true→Qi9 o=true→QK H.next 6 v=true)∧(true=true→Sep o (QhQ ops (QF ops.toList []) i) A H H')∧(true=true→Low o (QfE ops (QF ops.toList []) i) A H)∧FA o A v∧k v H':=fun hns hnd e=>by
   rw[e]at h
   obtain⟨c,v,H',h1,h2,h3,h4,hfa,h5⟩:=QkF hw h
   exact⟨c,v,H',h1,h2,fun hh hc id _=>h3 hh hc id,h4,fun _ hs=>(by rw[hns]at hs;cases hs),fun _ hs=>(by rw[hnd]at hs;cases hs),hfa,h5⟩
  cases hst:QnE o with
  | false=>
   cases hdi:QhR o with
   | false=>
    refine plainly hst hdi ?_
    unfold Qcj
    unfold QnE at hst
    unfold QhR at hdi
    split
    ·rename_i t x y hop;rw[hop]at hst;cases hst
    ·rename_i hop;rw[hop]at hdi;cases hdi
    ·rfl
   | true=>
    obtain⟨dst,op,ty,pos,af,g⟩:=o
    unfold QhR at hdi
    split at hdi
    ·rename_i f a ts hop
     simp only at hop
     subst hop
     obtain⟨hlow,hq⟩:=h
     obtain⟨v,H',hc,hn,hwf,hs,hk⟩:=hq hw
     refine⟨.gen,v,H',Qko (by simpa using hc),⟨fun _=>.inl rfl,fun h=>(by cases h),fun b h=>(by cases h),hn,fun _=>hwf⟩,fun _ _=>hs,fun _ h=>(by cases h),fun _ h=>(by cases h),fun _ _ z hz=>?_,.none rfl,hk⟩
     have:=hlow z hz
     unfold QnH at this
     split at this
     ·rename_i b hb;exact⟨b,hb,this⟩
     ·exact this.elim
    ·cases hdi
  | true=>
   unfold QnE at hst
   split at hst
   ·rename_i t x y hop
    unfold Qcj at h
    rw[hop]at h
    simp only at h
    cases hin:P.info? t with
    | none=>
     rw[hin]at h
     have e:Wp P (.store t x y)=.gen (.store t x y):=by simp[Wp,hin]
     simp only at h
     rw[e]at h
     obtain⟨v,H',hr,hs,hk⟩:=h
     simp only[rop,aop,QeG,QdY,hin]at hr
     split at hr
     ·rename_i hh;repeat' (split at hh)
      all_goals (first | (cases hh;done) | (rename_i h9;cases h9))
     ·cases hr
    | some inf=>
     rw[hin]at h
     obtain⟨v,H',hr,hs,hk⟩:=h
     have e:Wp P o.op=.st inf.size x y:=by rw[hop];simp[Wp,hin]
     obtain⟨c,v1,H1,h1,h2,h3,h4,hfa,h5⟩:=QkF (s:=false) (k:=fun v' H1=>v'=v∧H1=H') hw (o:=o) (by
      rw[e];exact⟨v,H',hr,fun h=>(by cases h),rfl,rfl⟩)
     obtain⟨rfl,rfl⟩:=h5
     refine⟨c,v1,H1,h1,h2,fun _ hc=>?_,fun _ hl=>?_,fun _ _=>?_,fun _ hd=>?_,hfa,hk⟩
     ·unfold Vz at hc;rw[hop]at hc;cases hc
     ·unfold Qi9 at hl;rw[hop]at hl;cases hl
     ·simp only[rop]at hr
      split at hr
      ·rename_i a ha
       split at hr
       ·rename_i c' e' hg
        split at hr
        ·simp only[Option.some.injEq,Prod.mk.injEq]at hr
         obtain⟨_,rfl⟩:=hr
         refine⟨a.block,fun id hid=>by rw[Qa.get_set,if_neg hid],fun z hz=>?_⟩
         have hap:=hs z hz
         rw[ha]at hap
         unfold Qd8 at hap
         split at hap
         ·rename_i a1 b1 e1 e2;cases e1;exact⟨b1,e2,hap⟩
         ·exact hap.elim
        ·cases hr
       ·cases hr
      ·cases hr
     ·unfold QhR at hd;rw[hop]at hd;cases hd
   ·cases hst
theorem Qea {ops:Array Oper} {fl:Nat→Bool}:∀ (l:List Oper) (i:Nat) (pl:List PO) (k:Env→Qa→Prop) (A:Env) (H:Qa),H.Wf→Kn P n ops fl l i=some pl→KM P pl k A H→
  ∃A1 H1,H1.Wf∧k A1 H1∧VX P n ops l (fun e A' H'=>e=.normal∧A'=A1∧H'=H1) A H
 | [],i,pl,k,A,H,hwf,hc,h=>by
  simp only[Kn,Option.some.injEq]at hc
  subst hc
  exact⟨A,H,hwf,h,QlG ⟨rfl,rfl,rfl⟩⟩
 | o::l,i,pl,k,A,H,hwf,hc,h=>by
  unfold Kn at hc
  split at hc
  ·rename_i hok
   split at hc
   ·rename_i g pl1 hg hpl
    cases hc
    have h:pg g A (pr P (QeM P ops (fl i) i o) (fl i) A H fun v H'=>KM P pl1 k (YO A o.dst v) H') (KM P pl1 k (YO A o.dst undef) H):=h
    rcases QjW hg h with⟨hw,hy⟩ | ⟨hw,hn⟩
    ·obtain⟨c,v,H',h1,h2,h3,h4,_,_,_,h5⟩:=Ql5 hwf hy
     obtain⟨A1,H1,hw1,hk,ha⟩:=Qea l (i+1) pl1 k _ _ (h2.wf hwf) hpl h5
     refine⟨A1,H1,hw1,hk,?_⟩
     cases hgd:o.guard with
     | none=>exact QjE hgd h1.does hok ha
     | some jw=>
      obtain⟨j,w⟩:=jw
      exact Vy hgd hw (fun _=>⟨v,H',h1.does,ha⟩) (fun hh=>by cases hh) hok
    ·obtain⟨A1,H1,hw1,hk,ha⟩:=Qea l (i+1) pl1 k _ _ hwf hpl hn
     refine⟨A1,H1,hw1,hk,?_⟩
     cases hgd:o.guard with
     | none=>simp[Xm,hgd]at hw
     | some jw=>
      obtain⟨j,w⟩:=jw
      exact Vy hgd hw (fun hh=>by cases hh) (fun _=>ha) hok
   ·cases hc
  ·cases hc
structure StR (P:Program) (n:Nat) (ops:Array Oper) (fl:Nat→Bool) (i:Nat) (o:Oper) (s:Stp) (t':Env) (H':Qa):Prop where
 ok:QaQ P n o=true
 wf:s.H.Wf
 env:t'=YO s.t o.dst s.v
 next:s.H.next≤H'.next
 run:(Xm n ops s.t o=some true∧Qgd P o s.t s.H s.v H' s.c∧Syn P o s.H H' s.c∧(fl i=true→Vz o=true→EqB s.H H')∧(fl i=true→Qi9 o=true→QK s.H.next 6 s.v=true)∧(fl i=true→Sep o (QhQ ops (QF ops.toList []) i) s.t s.H H')∧(fl i=true→Low o (QfE ops (QF ops.toList []) i) s.t s.H)∧FA o s.t s.v) ∨
  (Xm n ops s.t o=some false∧s.c=.pure∧s.v=undef∧H'=s.H)
def Qcm (l:List Stp) (t:Env) (i:Nat):Env:=match l[i]? with | some s=>s.t | none=>t
theorem QhU {ops:Array Oper} {fl:Nat→Bool}:∀ (l:List Oper) (i:Nat) (pl:List PO) (k:Env→Qa→Prop) (A:Env) (H:Qa),H.Wf→Kn P n ops fl l i=some pl→KM P pl k A H→
  ∃tr A1 H1,H1.Wf∧k A1 H1∧tr.length=l.length∧Qcm tr A1 0=A∧WO tr H1 0=H∧∀ (j:Nat) o s,l[j]? = some o→tr[j]? = some s→StR P n ops fl (i+j) o s (Qcm tr A1 (j+1)) (WO tr H1 (j+1))
 | [],i,pl,k,A,H,hwf,hc,h=>by
  simp only[Kn,Option.some.injEq]at hc
  subst hc
  exact⟨[],A,H,hwf,h,rfl,rfl,rfl,fun j o s h=>by simp at h⟩
 | o::l,i,pl,k,A,H,hwf,hc,h=>by
  unfold Kn at hc
  split at hc
  ·rename_i hok
   split at hc
   ·rename_i g pl1 hg hpl
    cases hc
    have h:pg g A (pr P (QeM P ops (fl i) i o) (fl i) A H fun v H'=>KM P pl1 k (YO A o.dst v) H') (KM P pl1 k (YO A o.dst undef) H):=h
    have step:∀ (s:Stp) (t':Env) (H':Qa),s.t=A→s.H=H→H'.Wf→KM P pl1 k t' H'→StR P n ops fl i o s t' H'→
      ∃tr A1 H1,H1.Wf∧k A1 H1∧tr.length=(o::l).length∧Qcm tr A1 0=A∧WO tr H1 0=H∧∀ (j:Nat) o' s,(o::l)[j]? = some o'→tr[j]? = some s→StR P n ops fl (i+j) o' s (Qcm tr A1 (j+1)) (WO tr H1 (j+1)):=by
     intro s t' H' e1 e2 hw' hp hst
     obtain⟨tr,A1,H1,hw1,hk,hl,ht,hh,hs⟩:=QhU l (i+1) pl1 k t' H' hw' hpl hp
     refine⟨s::tr,A1,H1,hw1,hk,by simp[hl],by simp[Qcm,e1],by simp[WO,e2],fun j o' s' hj hs'=>?_⟩
     cases j with
     | zero=>
      simp only[List.getElem?_cons_zero,Option.some.injEq]at hj hs'
      subst hj;subst hs'
      have h1:Qcm (s::tr) A1 (0+1)=t':=by rw[← ht];simp[Qcm]
      have h2:WO (s::tr) H1 (0+1)=H':=by rw[← hh];simp[WO]
      rw[h1,h2]
      exact hst
     | succ j=>
      have:=hs j o' s' (by simpa using hj) (by simpa using hs')
      rw[show i+(j+1)=i+1+j by omega]
      simpa[Qcm,WO] using this
    rcases QjW hg h with⟨hw,hy⟩ | ⟨hw,hn⟩
    ·obtain⟨c,v,H',h1,h2,h3,h4,h6,h7,hfa,h5⟩:=Ql5 hwf hy
     exact step ⟨A,H,c,v⟩ _ H' rfl rfl (h2.wf hwf) h5 ⟨hok,hwf,rfl,h2.next,.inl ⟨hw,h1,h2,h3,h4,h6,h7,hfa⟩⟩
    ·exact step ⟨A,H,.pure,undef⟩ _ H rfl rfl hwf hn ⟨hok,hwf,rfl,Nat.le_refl _,.inr ⟨hw,rfl,rfl,rfl⟩⟩
   ·cases hc
  ·cases hc
theorem J9 {t:TypeId} {a:Addr} {H1 H2:Qa} (h:H1.get a.block=H2.get a.block):XA P t a H1=XA P t a H2:=by
 unfold XA
 rw[h]
theorem QnU {id:Nat} {ops:Array Oper} {pl:List PO} {k:Env→Qa→Prop} {A:Env} {H:Qa} (hwf:H.Wf) (hm:P.follows .mixedOrders=true) (hrare:∀o∈ops,Qck P o.op=false) (hd:VY ops (WN ops)=true) (hck:Qpd ops (QF ops.toList [])=true)
  (hc:Kn P n ops (WA ops (QF ops.toList [])) ops.toList 0=some pl) (h:KM P pl k A H):
  ∃A1 H1,H1.Wf∧k A1 H1∧AWp P n (.region id ops true) (fun e A' H'=>e=.normal∧A'=A1∧H'=H1) A H:=by
 obtain⟨tr,A1,H1,hw1,hk,hl,hA,hH,hs⟩:=QhU ops.toList 0 pl k A H hwf hc h
 refine⟨A1,H1,hw1,hk,?_⟩
 have hlen:tr.length=ops.size:=by simpa using hl
 let As:Nat→Env:=Qcm tr A1
 let Hs:Nat→Qa:=WO tr H1
 let vs:Nat→Value:=fun i=>match tr[i]? with | some s=>s.v | none=>undef
 let cls:Nat→Cls:=fun i=>match tr[i]? with | some s=>s.c | none=>.pure
 have hat:∀ (i:Nat) o,ops[i]? = some o→∃s,tr[i]? = some s∧StR P n ops (WA ops (QF ops.toList [])) i o s (As (i+1)) (Hs (i+1))∧As i=s.t∧Hs i=s.H∧vs i=s.v∧cls i=s.c:=fun i o ho=>by
  have hlt:i<tr.length:=by rw[hlen];exact(Array.getElem?_eq_some_iff.1 ho).1
  have hi:=List.getElem?_eq_getElem hlt
  refine⟨tr[i],hi,by have:=hs i o tr[i] (by simpa using ho) hi;rwa [Nat.zero_add]at this,?_,?_,?_,?_⟩<;>simp only[As,Hs,vs,cls,Qcm,WO,hi]
 have hops:∀i,i<ops.size→∃o,ops[i]? = some o:=fun i hi=>⟨ops[i],Array.getElem?_eq_getElem hi⟩
 have hgen:∀i,i<ops.size→Xi (cls i)=true→WN ops i=true:=fun i hi hg=>by
  obtain⟨o,ho⟩:=hops i hi
  obtain⟨s,hsi,hst,_,_,_,e4⟩:=hat i o ho
  rw[e4]at hg
  simp only[WN,ho]
  rcases hst.run with⟨_,_,hsyn,_⟩ | ⟨_,hc0,_⟩
  ·rcases hsyn.gen hg with h | h
   ·exact h
   ·have:=hrare o (Array.mem_of_getElem? ho);rw[h]at this;cases this
  ·rw[hc0]at hg;cases hg
 have hchk:∀k',k'<ops.size→WN ops k'=true→WA ops (QF ops.toList []) k'=true→(KL ops k'=true∧∀i,i<ops.size→QhN ops i=true→Qw (QF ops.toList []) i k'=false→Qw (QF ops.toList []) k' i=false→quiet ops (QF ops.toList []) i k'=true) ∨
   (QnF ops k'=true∧∀i,i<ops.size→(QhN ops i=true→Qw (QF ops.toList []) i k'=false→Qw (QF ops.toList []) k' i=false→Qvn ops (QF ops.toList []) i k'=true)∧(QeL ops i=true→i<k'→Qw (QF ops.toList []) i k'=true)):=fun k' hk' hg hf=>by
  have:=List.all_eq_true.1 hck k' (List.mem_range.2 hk')
  simp only[hg,hf,Bool.not_true,Bool.false_or,Bool.or_eq_true,Bool.and_eq_true,List.all_eq_true,List.mem_range]at this
  rcases this with this | this
  ·refine .inl ⟨this.1,fun i hi h1 h2 h3=>?_⟩
   have:=this.2 i hi
   simpa[h1,h2,h3] using this
  ·refine .inr ⟨this.1,fun i hi=>⟨fun h1 h2 h3=>?_,fun h1 h2=>?_⟩⟩
   ·have:=(this.2 i hi).1
    simpa[h1,h2,h3] using this
   ·have h3:=(this.2 i hi).2
    have b:Nat.blt i k'=true:=by rw[Nat.blt_eq];exact h2
    simpa[h1,b] using h3
 have hnx:∀j,j<ops.size→(Hs j).next≤(Hs (j+1)).next:=fun j hj=>by
  obtain⟨o,ho⟩:=hops j hj
  obtain⟨s,hsi,hst,e1,e2,e3,e4⟩:=hat j o ho
  rw[e2];exact hst.next
 have hnxs:∀d a,a+d≤ops.size→(Hs a).next≤(Hs (a+d)).next:=fun d=>by
  induction d with
  | zero=>exact fun a _=>Nat.le_refl _
  | succ d ih=>exact fun a h=>Nat.le_trans (ih a (by omega)) (hnx (a+d) (by omega))
 have hcallsame:∀k',k'<ops.size→KL ops k'=true→WA ops (QF ops.toList []) k'=true→EqB (Hs k') (Hs (k'+1)):=fun k' hk' hcf hf=>by
  obtain⟨o,ho⟩:=hops k' hk'
  obtain⟨s,hsi,hst,e1,e2,e3,e4⟩:=hat k' o ho
  simp only[KL,ho]at hcf
  rw[e2]
  rcases hst.run with⟨_,_,_,h3,_⟩ | ⟨_,_,_,h4⟩
  ·exact h3 hf hcf
  ·rw[h4];exact fun _ _=>rfl
 have hkeep:∀j,j<ops.size→(WN ops j=false∨(WA ops (QF ops.toList []) j=true∧KL ops j=true))→EqB (Hs j) (Hs (j+1)):=fun j hj hg=>by
  obtain⟨o,ho⟩:=hops j hj
  obtain⟨s,hsi,hst,e1,e2,e3,e4⟩:=hat j o ho
  rcases hst.run with⟨_,hcl,hsyn,_⟩ | ⟨_,_,_,h4⟩
  ·cases hsc:s.c with
   | pure=>rw[hsc]at hcl;rw[e2,hcl.1];exact fun _ _=>rfl
   | load=>rw[hsc]at hcl;rw[e2,hcl.1];exact fun _ _=>rfl
   | alloc b=>
    rw[hsc]at hcl
    rw[e2,hcl.1]
    exact fun id hid=>by rw[Qa.get_push,if_neg (by omega)]
   | gen=>
    have hsg:WN ops j=true:=hgen j hj (by rw[e4,hsc];rfl)
    rcases hg with hg | hg
    ·rw[hg]at hsg;cases hsg
    ·exact hcallsame j hj hg.2 hg.1
  ·rw[e2,h4];exact fun _ _=>rfl
 have hkeeps:∀d a,a+d≤ops.size→(∀j,a≤j→j<a+d→WN ops j=false∨(WA ops (QF ops.toList []) j=true∧KL ops j=true))→EqB (Hs a) (Hs (a+d)):=fun d=>by
  induction d with
  | zero=>exact fun a _ _ _ _=>rfl
  | succ d ih=>
   intro a h hj id hid
   have h1:=ih a (by omega) (fun j h1 h2=>hj j h1 (by omega)) id hid
   have h2:=hkeep (a+d) (by omega) (hj (a+d) (by omega) (by omega)) id (Nat.lt_of_lt_of_le hid (hnxs d a (by omega)))
   rw[show a+(d+1)=a+d+1 by omega,h2,h1]
 have F:YS P n ops As Hs vs cls:=by
  refine⟨fun i o ho=>?_,fun i hi=>?_,fun i o ho=>?_,fun i o ho=>?_,Qgf hgen hd⟩
  ·obtain⟨s,hsi,hst,e1,e2,e3,e4⟩:=hat i o ho
   rw[e1,e3,hst.env]
  ·obtain⟨o,ho⟩:=hops i hi
   obtain⟨s,hsi,hst,e1,e2,e3,e4⟩:=hat i o ho
   rw[e2];exact hst.next
  ·obtain⟨s,hsi,hst,e1,e2,e3,e4⟩:=hat i o ho
   exact hst.ok
  ·obtain⟨s,hsi,hst,e1,e2,e3,e4⟩:=hat i o ho
   have hi:i<ops.size:=(Array.getElem?_eq_some_iff.1 ho).1
   unfold Qnq
   rw[e1,e2,e3,e4]
   rcases hst.run with⟨hw,hcl,hsyn,hf1,hf2,_,_⟩ | ⟨hw,hc0,hv0,hH0⟩
   ·right
    refine⟨hw,?_⟩
    cases hsc:s.c with
    | pure=>rw[hsc]at hcl;exact hcl
    | gen=>rw[hsc]at hcl;exact hcl
    | alloc b=>
     rw[hsc]at hcl
     refine⟨hcl.1,hcl.2,fun k' hk1 hik hgk ho'=>?_⟩
     have hsg:=hgen k' hk1 hgk
     have hal:QeL ops i=true:=by simp only[QeL,ho];exact hsyn.alloc b hsc
     have hfl:WA ops (QF ops.toList []) k'=true:=by
      unfold WA
      simp only[hsg,Bool.true_and,Bool.or_eq_true]
      left
      rw[List.any_eq_true]
      exact⟨i,List.mem_range.2 hi,by simp[hal,hik,ho']⟩
     rcases hchk k' hk1 hsg hfl with hch | hch
     ·rw[hcallsame k' hk1 hch.1 hfl]
      have h9:=hnxs (k' - (i+1)) (i+1) (by omega)
      rw[show i+1+(k' - (i+1))=k' by omega,hcl.1,Qa.next_push]at h9
      omega
     ·rw[(hch.2 i hi).2 hal hik]at ho';cases ho'
    | load=>
     rw[hsc]at hcl
     obtain⟨h1,tt,x,a,hop,ex,hl'⟩:=hcl
     refine⟨h1,tt,x,a,hop,ex,hl',fun k' hk1 hgk o1 o2=>?_⟩
     have hsg:=hgen k' hk1 hgk
     have hld:QhN ops i=true:=by simp only[QhN,ho];exact hsyn.load hsc
     have hfl:WA ops (QF ops.toList []) k'=true:=by
      unfold WA
      simp only[hsg,Bool.true_and,Bool.or_eq_true]
      left
      rw[List.any_eq_true]
      exact⟨i,List.mem_range.2 hi,by simp[hld,o1,o2]⟩
     have hfi:WA ops (QF ops.toList []) i=true:=by
      unfold WA
      simp only[Bool.or_eq_true]
      right
      simp only[hld,Bool.true_and]
      rw[List.any_eq_true]
      exact⟨k',List.mem_range.2 hk1,by simp[hsg,o1,o2]⟩
     have hload:o.op=.load tt x:=hop
     have hbel:QK s.H.next 6 s.v=true:=hf2 hfi (by unfold Qi9;rw[hload])
     rcases hchk k' hk1 hsg hfl with hch | hch
     ·have hq:=hch.2 i hi hld o1 o2
      have hb0:a.block<(Hs i).next:=by
       rw[e2]
       unfold XA at hl'
       split at hl'
       ·rename_i hg;exact hst.wf.lt hg
       ·cases hl'
      unfold quiet at hq
      simp only[Bool.or_eq_true,Bool.and_eq_true,List.all_eq_true,List.mem_range]at hq
      have hget:(Hs k').get a.block=(Hs i).get a.block∧a.block<(Hs k').next:=by
       rcases hq with⟨hlt,hq⟩ | ⟨⟨⟨hlt,hdir⟩,hsm⟩,hq⟩
       ·have hlt:i<k':=by simpa using hlt
        have hgi:WN ops i=false:=by
         simp only[QhN,ho]at hld
         simp only[WN,ho]
         unfold Qi9 at hld
         split at hld
         ·rename_i hop';simp only[Qvm,hop']
         ·cases hld
        have h8:=hkeeps (k' - i) i (by omega) (fun j h1 h2=>?_)
        ·rw[show i+(k' - i)=k' by omega]at h8
         have h9:=hnxs (k' - i) i (by omega)
         rw[show i+(k' - i)=k' by omega]at h9
         exact⟨h8 _ hb0,by omega⟩
        ·rcases Nat.lt_or_ge i j with h3 | h3
         ·have h4:=hq j (by omega)
          have h5:Nat.ble j i=false:=by
           cases hb:Nat.ble j i with
           | false=>rfl
           | true=>rw[Nat.ble_eq]at hb;omega
          simpa[h5] using h4
         ·rw[show j=i by omega];exact .inl hgi
       ·have hlt:k'<i:=by simpa using hlt
        obtain⟨bs,hbs⟩:=Option.isSome_iff_exists.1 hsm
        have hall:∀j,k'≤j→j<i→(∀oj,ops[j]? = some oj→oj.dst≠some bs)∧(WN ops j=false∨(WA ops (QF ops.toList []) j=true∧KL ops j=true)):=fun j h1 h2=>by
         have h4:=hq j h2
         have h5:Nat.blt j k'=false:=by
          cases hb:Nat.blt j k' with
          | false=>rfl
          | true=>rw[Nat.blt_eq]at hb;omega
         rcases h4 with h4 | h4
         ·rw[h5]at h4;cases h4
         ·refine⟨fun oj hoj hd=>?_,by simpa using h4.2⟩
          have h6:=h4.1
          rw[hoj,hbs]at h6
          simp[hd]at h6
        obtain⟨ok,hok⟩:=hops k' hk1
        obtain⟨sk,hsk,hstk,f1,f2,f3,f4⟩:=hat k' ok hok
        have hA:∀d,k'+d≤i→As (k'+d) bs=As k' bs:=fun d=>by
         induction d with
         | zero=>exact fun _=>rfl
         | succ d ih=>
          intro h
          obtain⟨oj,hoj⟩:=hops (k'+d) (by omega)
          obtain⟨sj,hsj,hstj,g1,g2,g3,g4⟩:=hat (k'+d) oj hoj
          rw[show k'+(d+1)=k'+d+1 by omega,hstj.env,← g1]
          cases hdst:oj.dst with
          | none=>exact ih (by omega)
          | some q=>
           have hne:bs≠q:=fun h9=>(hall (k'+d) (by omega) (by omega)).1 oj hoj (by rw[hdst,h9])
           show upd (As (k'+d)) q sj.v bs=_
           rw[KI _ _ hne]
           exact ih (by omega)
        have hpt:∃a2:Addr,As k' bs=.pointer (some a2)∧a2.block=a.block:=by
         unfold Qkw at hbs
         cases htm:QhP ops i with
         | none=>rw[htm]at hbs;cases hbs
         | some tm=>
          have hx:x=.tmp tm:=by
           unfold QhP at htm
           rw[ho]at htm
           simp only[hload]at htm
           split at htm
           ·rename_i hh;cases hh;cases htm;rfl
           ·cases htm
          subst hx
          have ex':As i tm=.pointer (some a):=by rw[e1];exact ex
          have same:bs=tm→∃a2:Addr,As k' bs=.pointer (some a2)∧a2.block=a.block:=fun h=>by
           have:=hA (i - k') (by omega)
           rw[show k'+(i - k')=i by omega,h,ex']at this
           exact⟨a,by rw[h,← this],rfl⟩
          rw[htm]at hbs
          simp only at hbs
          cases hij:i with
          | zero=>omega
          | succ j=>
           rw[hij]at hbs
           simp only at hbs
           obtain⟨oj,hoj⟩:=hops j (by omega)
           rw[hoj]at hbs
           simp only at hbs
           split at hbs
           ·rename_i d b hfo
            cases hdt:Nat.beq d tm with
            | false=>rw[hdt]at hbs;exact same (Option.some.inj hbs).symm
            | true=>
             rw[hdt]at hbs
             have hdt:=Nat.eq_of_beq_eq_true hdt
             subst hdt
             have hbb:b=bs:=Option.some.inj hbs
             subst hbb
             obtain⟨sj,hsj,hstj,g1,g2,g3,g4⟩:=hat j oj hoj
             have hgn:oj.guard=none∧oj.dst=some d:=by
              unfold Qro at hfo
              split at hfo
              ·rename_i h1 h2 h3;cases hfo;exact⟨h3,h2⟩
              ·cases hfo
             have hkj:k'≤j:=by
              rcases Nat.lt_or_ge j k' with h | h
              ·omega
              ·exact h
             rcases hstj.run with⟨_,_,_,_,_,_,_,hfa⟩ | ⟨hw0,_⟩
             ·obtain⟨a2,off,p1,p2⟩:=hfa d b hfo
              refine⟨a2,?_,?_⟩
              ·have:=hA (j - k') (by omega)
               rw[show k'+(j - k')=j by omega,g1,p1]at this
               exact this.symm
              ·rw[hij,hstj.env,hgn.2]at ex'
               have ex':upd sj.t d sj.v d=.pointer (some a):=ex'
               rw[Qb4,p2]at ex'
               cases ex'
               rfl
             ·simp[Xm,hgn.1]at hw0
           ·exact same (Option.some.inj hbs).symm
        have hbk:a.block<(Hs k').next:=by
         have hlow:∀z∈QfE ops (QF ops.toList []) k',∃b:Addr,ev sk.t z=.pointer (some b)∧b.block<sk.H.next:=by
          rcases hstk.run with⟨_,_,_,_,_,_,h9,_⟩ | ⟨_,h9,_⟩
          ·exact h9 hfl (by simpa only[Qu0,hok] using hdir)
          ·rw[f4,h9]at hgk;cases hgk
         obtain⟨b,hb1,hb2⟩:=hlow (.tmp bs) (by
          unfold QfE
          rw[List.mem_filterMap]
          have b1:Nat.blt k' i=true:=by simpa using hlt
          exact⟨i,List.mem_range.2 hi,by simp[b1,hld,QhO,o1,o2,hbs]⟩)
         have hb1:sk.t bs=.pointer (some b):=hb1
         obtain⟨a2,p1,p2⟩:=hpt
         rw[← f1,p1]at hb1
         cases hb1
         rw[f2,← p2];exact hb2
        have h8:=hkeeps (i - k') k' (by omega) (fun j h1 h2=>(hall j h1 (by omega)).2)
        rw[show k'+(i - k')=i by omega]at h8
        exact⟨(h8 _ hbk).symm,hbk⟩
      have hk2:=hcallsame k' hk1 hch.1 hfl a.block hget.2
      exact⟨by rw[J9 hget.1,e2];exact hl',by rw[J9 hk2,J9 hget.1,e2];exact hl',hbel⟩
     ·have hcalm:=(hch.2 i hi).1 hld o1 o2
      unfold Qvn at hcalm
      simp only[Bool.and_eq_true,List.all_eq_true,List.mem_range]at hcalm
      obtain⟨⟨hlt,hsm⟩,hall⟩:=hcalm
      have hlt:i<k':=by simpa using hlt
      obtain⟨tm,htm⟩:=Option.isSome_iff_exists.1 hsm
      have hx:x=.tmp tm:=by
       unfold QhP at htm
       rw[ho]at htm
       simp only[hload]at htm
       split at htm
       ·rename_i hh;cases hh;cases htm;rfl
       ·cases htm
      subst hx
      have hstep:∀j,i≤j→j<ops.size→As j tm=.pointer (some a)→(WN ops j=false∨(KL ops j=true∧WA ops (QF ops.toList []) j=true)∨(i<j∧QnF ops j=true∧WA ops (QF ops.toList []) j=true∧QhO (QF ops.toList []) i j=true))→a.block<(Hs j).next→(Hs (j+1)).get a.block=(Hs j).get a.block:=fun j hij hj hA hg hbl=>by
       obtain⟨oj,hoj⟩:=hops j hj
       obtain⟨sj,hsj,hstj,f1,f2,f3,f4⟩:=hat j oj hoj
       rw[f2]at hbl ⊢
       rcases hstj.run with⟨_,hcl,hsyn,_,_,hsep,_⟩ | ⟨_,_,_,h4⟩
       ·cases hsc:sj.c with
        | pure=>rw[hsc]at hcl;rw[hcl.1]
        | load=>rw[hsc]at hcl;rw[hcl.1]
        | alloc b=>rw[hsc]at hcl;rw[hcl.1,Qa.get_push,if_neg (by omega)]
        | gen=>
         have hsg:WN ops j=true:=hgen j hj (by rw[f4,hsc];rfl)
         rcases hg with hg | hg | ⟨hij2,hg1,hg2,hg3⟩
         ·rw[hg]at hsg;cases hsg
         ·rw[← f2];rw[← f2]at hbl;exact hcallsame j hj hg.1 hg.2 _ hbl
         ·simp only[QnF,hoj]at hg1
          obtain⟨a',hk1',hk2'⟩:=hsep hg2 hg1
          obtain⟨b,hb1,hb2⟩:=hk2' (.tmp tm) (by
           unfold QhQ
           rw[List.mem_filterMap]
           exact⟨i,List.mem_range.2 hij2,by simp[hld,hg3,htm]⟩)
          have hb1:sj.t tm=.pointer (some b):=hb1
          rw[← f1,hA]at hb1
          cases hb1
          exact hk1' _ hb2
       ·rw[h4]
      have hb0:a.block<(Hs i).next:=by
       rw[e2]
       unfold XA at hl'
       split at hl'
       ·rename_i hg;exact hst.wf.lt hg
       ·cases hl'
      have hA0:As i tm=.pointer (some a):=by rw[e1];exact ex
      have hall2:∀j,i≤j→j<k'→(∀oj,ops[j]? = some oj→oj.dst≠some tm)∧(WN ops j=false∨(KL ops j=true∧WA ops (QF ops.toList []) j=true)∨(i<j∧QnF ops j=true∧WA ops (QF ops.toList []) j=true∧QhO (QF ops.toList []) i j=true)):=fun j hij hjk=>by
       have:=hall j hjk
       have b1:Nat.blt j i=false:=by
        cases hb:Nat.blt j i with
        | false=>rfl
        | true=>rw[Nat.blt_eq]at hb;omega
       simp only[b1,Bool.or_eq_true,Bool.and_eq_true,htm,Bool.not_eq_true',Bool.false_eq_true,false_or]at this
       refine⟨fun oj hoj hd=>?_,?_⟩
       ·have h9:=this.1
        rw[hoj]at h9
        simp[hd]at h9
       ·rcases this.2 with(h | h) | h
        ·exact .inl h
        ·exact .inr (.inl h)
        ·refine .inr (.inr ⟨?_,h.1.1,h.1.2,h.2⟩)
         rcases Nat.lt_or_ge i j with h' | h'
         ·exact h'
         ·have e:j=i:=by omega
          subst e
          have h7:=h.1.1
          unfold QnF QnE at h7
          rw[ho]at h7
          simp only[hload]at h7
          cases h7
      have hrun:∀d,i+d≤k'→As (i+d) tm=.pointer (some a)∧(Hs (i+d)).get a.block=(Hs i).get a.block∧a.block<(Hs (i+d)).next:=by
       intro d
       induction d with
       | zero=>exact fun _=>⟨hA0,rfl,hb0⟩
       | succ d ih=>
        intro hd
        obtain⟨i1,i2,i3⟩:=ih (by omega)
        have hj:i+d<ops.size:=by omega
        obtain⟨oj,hoj⟩:=hops (i+d) hj
        obtain⟨sj,hsj,hstj,f1,f2,f3,f4⟩:=hat (i+d) oj hoj
        obtain⟨g1,g2⟩:=hall2 (i+d) (by omega) (by omega)
        refine⟨?_,?_,?_⟩
        ·rw[show i+(d+1)=i+d+1 by omega,hstj.env,← f1,← i1]
         cases hdst:oj.dst with
         | none=>rfl
         | some q=>exact KI _ _ (fun h=>g1 oj hoj (by rw[hdst,h]))
        ·rw[show i+(d+1)=i+d+1 by omega,hstep (i+d) (by omega) hj i1 g2 i3,i2]
        ·rw[show i+(d+1)=i+d+1 by omega]
         have:=hstj.next
         rw[← f2]at this
         omega
      obtain⟨r1,r2,r3⟩:=hrun (k' - i) (by omega)
      rw[show i+(k' - i)=k' by omega]at r1 r2 r3
      have hlast:=hstep k' (by omega) hk1 r1 (.inr (.inr ⟨hlt,hch.1,hfl,by unfold QhO;rw[o1,o2];rfl⟩)) r3
      exact⟨by rw[J9 r2,e2];exact hl',by rw[J9 hlast,J9 r2,e2];exact hl',hbel⟩
   ·left
    exact⟨hw,hv0,hH0,hc0⟩
 have hend:As ops.size=A1∧Hs ops.size=H1:=by
  have:tr[ops.size]? = none:=List.getElem?_eq_none (by omega)
  simp only[As,Hs,Qcm,WO,this,and_self]
 have hAs0:As 0=A:=hA
 have hHs0:Hs 0=H:=hH
 have:=QlS (id:=id) (Q:=fun e A' H'=>e=.normal∧A'=A1∧H'=H1) hm F ⟨rfl,hend.1,hend.2⟩
 rwa [hAs0,hHs0]at this
def Fp (ks:Kp) (k:Env→Qa→Prop):Ex→Env→Qa→Prop
 | .normal,A,H=>k A H
 | .ret,A,H=>ks.ret A H
 | .exit j,A,H=>j<J0∧ks.ext j A H
 | .goto l,A,H=>ks.ext (J0+l) A H
 | _,_,_=>False
def QnV (ex:Ex) (A1:Env) (H1:Qa):Ex→Env→Qa→Prop:=fun e A H=>e=ex∧A=A1∧H=H1
theorem Qto (x y:PC) (ks:Kp) (k:Env→Qa→Prop) (A:Env) (H:Qa):Qm P (sq x y) ks k A H=Qm P x ks (Qm P y ks k) A H:=by
 unfold sq
 split<;>rfl
theorem Qrz (x y:PC) (l:Nat) (hx:x=.skip→True):Jt (sq x y) l=match Jt x l with | some r=>some (sq r y) | none=>Jt y l:=by
 unfold sq
 split
 ·simp[Jt]
 ·rename_i hne
  cases hf:Jt x l with
  | none=>simp[Jt]
  | some r=>
   cases r<;>rfl
 ·rfl
theorem QfF:∀ (c:Code) (pc:PC),comp P n c=some pc→∀l,(∀rest,findLabel c l=some rest→∃pr,Jt pc l=some pr∧comp P n rest=some pr)∧(findLabel c l=none→Jt pc l=none):=by
 intro c
 induction c with
 | seq a b iha ihb=>
  intro pc h l
  simp only[comp]at h
  split at h
  ·rename_i x y hx hy
   simp only[Option.some.injEq]at h
   subst h
   obtain⟨a1,a2⟩:=iha x hx l
   obtain⟨b1,b2⟩:=ihb y hy l
   rw[Qrz x y l (fun _=>trivial)]
   cases hf:findLabel a l with
   | some r=>
    obtain⟨pr,h1,h2⟩:=a1 r hf
    rw[h1]
    refine⟨fun rest hr=>?_,fun hn=>?_⟩
    ·simp only[findLabel,hf,Option.some.injEq]at hr
     subst hr
     exact⟨_,rfl,by simp only[comp,h2,hy]⟩
    ·simp only[findLabel,hf]at hn;cases hn
   | none=>
    rw[a2 hf]
    simp only[findLabel,hf]
    exact⟨b1,b2⟩
  ·cases h
 | label l'=>
  intro pc h l
  simp only[comp,Option.some.injEq]at h
  subst h
  refine⟨fun rest hr=>?_,fun hn=>?_⟩
  ·simp only[findLabel]at hr
   split at hr
   ·rename_i he
    have he:l'=l:=by simpa using he
    subst he
    cases hr
    exact⟨.skip,by simp[Jt],rfl⟩
   ·cases hr
  ·simp only[findLabel]at hn
   split at hn
   ·cases hn
   ·rename_i he
    have he:¬l'=l:=by simpa using he
    simp[Jt,XG,he]
 | scope b ih=>
  intro pc h l
  refine⟨fun rest hr=>(by cases hr),fun _=>?_⟩
  simp only[comp,Option.map_eq_some_iff]at h
  obtain⟨pb,hb,rfl⟩:=h
  unfold Qkx
  split
  ·rename_i hl
   exact nolab pb hl l
  ·split
   ·rfl
   ·rfl
  ·rfl
 | region id ops draw=>
  intro pc h l
  refine⟨fun rest hr=>(by cases hr),fun _=>?_⟩
  cases draw
  ·simp only[comp,Option.some.injEq]at h
   subst h
   split<;>rfl
  ·simp only[comp,Option.some.injEq]at h
   subst h
   split
   ·split<;>rfl
   ·rfl
 | cond x a b iha ihb=>
  intro pc h l
  refine⟨fun rest hr=>(by cases hr),fun _=>?_⟩
  simp only[comp]at h
  split at h
  ·split at h
   ·cases h;rfl
   ·cases h
  ·cases h
 | block id b ih=>
  intro pc h l
  refine⟨fun rest hr=>(by cases hr),fun _=>?_⟩
  simp only[comp,Option.map_eq_some_iff]at h
  obtain⟨pb,hb,rfl⟩:=h
  cases Nat.blt id J0<;>rfl
 | loop b ih=>
  intro pc h l
  refine⟨fun rest hr=>(by cases hr),fun _=>?_⟩
  simp only[comp,Option.map_eq_some_iff]at h
  obtain⟨pb,hb,rfl⟩:=h
  rfl
 | exit id=>
  intro pc h l
  refine⟨fun rest hr=>(by cases hr),fun _=>?_⟩
  simp only[comp,Option.some.injEq]at h
  subst h
  cases Nat.blt id J0<;>rfl
 | _=>
  intro pc h l
  refine⟨fun rest hr=>(by cases hr),fun _=>?_⟩
  cases h
  rfl
 where
 nolab:∀ (pc:PC),JM pc=[]→∀l,Jt pc l=none
  | .seq a b,h,l=>by
   simp only[JM,List.append_eq_nil_iff]at h
   simp only[Jt,nolab a h.1 l,nolab b h.2 l]
  | .label l',h,l=>by simp[JM]at h
  | .skip,h,l=>rfl
  | .ops _,h,l=>rfl
  | .cond _ _ _,h,l=>rfl
  | .block _ _,h,l=>rfl
  | .loop _,h,l=>rfl
  | .exit _,h,l=>rfl
  | .ret,h,l=>rfl
  | .goto _,h,l=>rfl
  | .scope _ _ _,h,l=>rfl
  | .bad,h,l=>rfl
theorem Gv:∀ (pc:PC) (l:Nat) (r:PC),Jt pc l=some r→l∈JM pc
 | .seq a b,l,r,h=>by
  simp only[Jt]at h
  simp only[JM,List.mem_append]
  cases hf:Jt a l with
  | some q=>exact .inl (Gv a l q hf)
  | none=>rw[hf]at h;exact .inr (Gv b l r h)
 | .label l',l,r,h=>by
  simp only[Jt]at h
  cases hb:Nat.beq l' l with
  | true=>simp[JM,Nat.eq_of_beq_eq_true hb]
  | false=>rw[hb]at h;cases h
 | .skip,l,r,h=>by cases h
 | .ops _,l,r,h=>by cases h
 | .cond _ _ _,l,r,h=>by cases h
 | .block _ _,l,r,h=>by cases h
 | .loop _,l,r,h=>by cases h
 | .exit _,l,r,h=>by cases h
 | .ret,l,r,h=>by cases h
 | .goto _,l,r,h=>by cases h
 | .scope _ _ _,l,r,h=>by cases h
 | .bad,l,r,h=>by cases h
def Snd (P:Program) (n:Nat) (c:Code) (pc:PC):Prop:=∀ (ks:Kp) (k:Env→Qa→Prop) (A:Env) (H:Qa),H.Wf→Qm P pc ks k A H→∃ex A1 H1,H1.Wf∧Fp ks k ex A1 H1∧AWp P n c (QnV ex A1 H1) A H
theorem Qpi {a b:Code} {x y:PC} (ha:Snd P n a x) (hb:Snd P n b y):Snd P n (.seq a b) (sq x y):=by
 intro ks k A H hwf h
 rw[Qto]at h
 obtain⟨ex,A1,H1,hw1,hf,ha⟩:=ha ks _ A H hwf h
 cases ex with
 | normal=>
  obtain⟨ex2,A2,H2,hw2,hf2,ha2⟩:=hb ks k A1 H1 hw1 hf
  refine⟨ex2,A2,H2,hw2,hf2,Qev (ha.mono ?_)⟩
  rintro e A' H' ⟨rfl,rfl,rfl⟩
  exact ha2
 | ret=>exact⟨.ret,A1,H1,hw1,hf,Qev (ha.mono (by rintro e A' H' ⟨rfl,rfl,rfl⟩;exact⟨rfl,rfl,rfl⟩))⟩
 | exit j=>exact⟨.exit j,A1,H1,hw1,hf,Qev (ha.mono (by rintro e A' H' ⟨rfl,rfl,rfl⟩;exact⟨rfl,rfl,rfl⟩))⟩
 | goto j=>exact⟨.goto j,A1,H1,hw1,hf,Qev (ha.mono (by rintro e A' H' ⟨rfl,rfl,rfl⟩;exact⟨rfl,rfl,rfl⟩))⟩
 | panic v=>exact hf.elim
def Qxp (P:Program) (n:Nat) (c:Code) (pc:PC):Prop:=Snd P n c pc∧∀l rest,findLabel c l=some rest→∃pr,Jt pc l=some pr∧comp P n rest=some pr∧Snd P n rest pr
theorem QkG:∀ (c:Code) (pc:PC),comp P n c=some pc→Qxp P n c pc:=by
 intro c
 induction c with
 | skip=>intro pc hc;cases hc;exact⟨fun ks k A H hwf h=>⟨.normal,A,H,hwf,h,Qhv ⟨rfl,rfl,rfl⟩⟩,fun l rest h=>by cases h⟩
 | label l=>
  intro pc hc
  cases hc
  refine⟨fun ks k A H hwf h=>⟨.normal,A,H,hwf,h,QjD ⟨rfl,rfl,rfl⟩⟩,fun l' rest h=>?_⟩
  obtain⟨pr,h1,h2⟩:=(QfF (P:=P) (n:=n) (.label l) (.label l) rfl l').1 rest h
  refine⟨pr,h1,h2,?_⟩
  simp only[findLabel]at h
  split at h
  ·cases h
   cases h2
   exact fun ks k A H hwf h=>⟨.normal,A,H,hwf,h,Qhv ⟨rfl,rfl,rfl⟩⟩
  ·cases h
 | ret=>intro pc hc;cases hc;exact⟨fun ks k A H hwf h=>⟨.ret,A,H,hwf,h,Qo5 ⟨rfl,rfl,rfl⟩⟩,fun l rest h=>by cases h⟩
 | exit id=>
  intro pc hc
  simp only[comp,Option.some.injEq]at hc
  subst hc
  refine⟨fun ks k A H hwf h=>?_,fun l rest h=>by cases h⟩
  cases hb:Nat.blt id J0 with
  | true=>
   rw[hb]at h
   exact⟨.exit id,A,H,hwf,⟨by simpa using hb,h⟩,QlE ⟨rfl,rfl,rfl⟩⟩
  | false=>rw[hb]at h;exact h.elim
 | goto l=>intro pc hc;cases hc;exact⟨fun ks k A H hwf h=>⟨.goto l,A,H,hwf,h,QlF ⟨rfl,rfl,rfl⟩⟩,fun l rest h=>by cases h⟩
 | refuse s=>intro pc hc;cases hc;exact⟨fun ks k A H hwf h=>h.elim,fun l rest h=>by cases h⟩
 | rangeFunc f p a b iha ihb=>intro pc hc;cases hc;exact⟨fun ks k A H hwf h=>h.elim,fun l rest h=>by cases h⟩
 | region id ops draw=>
  intro pc hc
  refine⟨fun ks k A H hwf h=>?_,fun l rest h=>by cases h⟩
  cases draw with
  | false=>
   simp only[comp,Option.some.injEq]at hc
   subst hc
   split at h
   ·rename_i pl hpl
    obtain⟨A1,H1,hw1,hk,ha⟩:=Qea ops.toList 0 pl k A H hwf hpl h
    exact⟨.normal,A1,H1,hw1,hk,(by
     have hw:AWp P n (.region id ops.toList.toArray false) (QnV .normal A1 H1) A H:=Qhw (l:=ops.toList) (by
      have ha:VX P n ops ops.toList (QnV .normal A1 H1) A H:=ha
      simpa using ha)
     simpa using hw)⟩
   ·exact h.elim
  | true=>
   simp only[comp,Option.some.injEq]at hc
   subst hc
   split at h
   ·rename_i hcond
    simp only[Bool.and_eq_true]at hcond
    split at h
    ·rename_i pl hpl
     obtain⟨A1,H1,hw1,hk,ha⟩:=QnU (id:=id) hwf hcond.1.1.1 (fun o ho=>by simpa using Array.all_eq_true_iff_forall_mem.1 hcond.2 o ho) hcond.1.1.2 hcond.1.2 hpl h
     exact⟨.normal,A1,H1,hw1,hk,ha⟩
    ·exact h.elim
   ·exact h.elim
 | seq a b iha ihb=>
  intro pc hc
  have hc0:=hc
  simp only[comp]at hc
  split at hc
  ·rename_i x y hx hy
   simp only[Option.some.injEq]at hc
   subst hc
   obtain⟨a1,a2⟩:=iha x hx
   obtain⟨b1,b2⟩:=ihb y hy
   refine⟨Qpi a1 b1,fun l rest h=>?_⟩
   obtain⟨pr,h1,h2⟩:=(QfF _ _ hc0 l).1 rest h
   refine⟨pr,h1,h2,?_⟩
   cases hf:findLabel a l with
   | some r=>
    simp only[findLabel,hf,Option.some.injEq]at h
    subst h
    obtain⟨p1,q1,q2,q3⟩:=a2 l r hf
    simp only[comp,q2,hy,Option.some.injEq]at h2
    subst h2
    exact Qpi q3 b1
   | none=>
    simp only[findLabel,hf]at h
    obtain⟨p1,q1,q2,q3⟩:=b2 l rest h
    rw[h2]at q2
    cases q2
    exact q3
  ·cases hc
 | cond x a b iha ihb=>
  intro pc hc
  refine⟨fun ks k A H hwf h=>?_,fun l rest h=>by cases h⟩
  simp only[comp]at hc
  split at hc
  ·rename_i hok
   split at hc
   ·rename_i pa pb ha hb
    cases hc
    simp only[Qm]at h
    split at h
    ·rename_i t ht
     cases t with
     | true=>
      obtain⟨ex,A1,H1,hw1,hf,hw⟩:=(iha pa ha).1 ks k A H hwf (h.1 rfl)
      exact⟨ex,A1,H1,hw1,hf,Qew (t:=true) hok ht hw⟩
     | false=>
      obtain⟨ex,A1,H1,hw1,hf,hw⟩:=(ihb pb hb).1 ks k A H hwf (h.2 rfl)
      exact⟨ex,A1,H1,hw1,hf,Qew (t:=false) hok ht hw⟩
    ·exact h.elim
   ·cases hc
  ·cases hc
 | block id b ih=>
  intro pc hc
  refine⟨fun ks k A H hwf h=>?_,fun l rest h=>by cases h⟩
  simp only[comp,Option.map_eq_some_iff]at hc
  obtain⟨pb,hb,rfl⟩:=hc
  cases hlt:Nat.blt id J0 with
  | false=>rw[hlt]at h;exact h.elim
  | true=>
   rw[hlt]at h
   have hlt:id<J0:=by simpa using hlt
   obtain⟨ex,A1,H1,hw1,hf,hw⟩:=(ih pb hb).1 _ k A H hwf h
   cases ex with
   | normal=>exact⟨.normal,A1,H1,hw1,hf,GC (hw.mono (by rintro e A' H' ⟨rfl,rfl,rfl⟩;exact⟨rfl,rfl,rfl⟩))⟩
   | ret=>exact⟨.ret,A1,H1,hw1,hf,GC (hw.mono (by rintro e A' H' ⟨rfl,rfl,rfl⟩;exact⟨rfl,rfl,rfl⟩))⟩
   | exit j=>
    simp only[Fp]at hf
    by_cases hj:j=id
    ·rw[if_pos hj]at hf
     exact⟨.normal,A1,H1,hw1,hf.2,GC (hw.mono (by rintro e A' H' ⟨rfl,rfl,rfl⟩;simp only[Qex,if_pos hj];exact⟨rfl,rfl,rfl⟩))⟩
    ·rw[if_neg hj]at hf
     exact⟨.exit j,A1,H1,hw1,hf,GC (hw.mono (by rintro e A' H' ⟨rfl,rfl,rfl⟩;simp only[Qex,if_neg hj];exact⟨rfl,rfl,rfl⟩))⟩
   | goto j=>
    simp only[Fp]at hf
    rw[if_neg (by omega)]at hf
    exact⟨.goto j,A1,H1,hw1,hf,GC (hw.mono (by rintro e A' H' ⟨rfl,rfl,rfl⟩;exact⟨rfl,rfl,rfl⟩))⟩
   | panic v=>exact hf.elim
 | loop b ih=>
  intro pc hc
  refine⟨fun ks k A H hwf h=>?_,fun l rest h=>by cases h⟩
  simp only[comp,Option.map_eq_some_iff]at hc
  obtain⟨pb,hb,rfl⟩:=hc
  obtain⟨I,⟨m,hm⟩,hround⟩:=h
  have key:∀m A H,H.Wf→I m A H→∃ex A1 H1,H1.Wf∧Fp ks k ex A1 H1∧Qcg P n b (QnV ex A1 H1) A H:=by
   intro m
   induction m using Nat.strongRecOn with
   | _ m ihm=>
    intro A H hwf hI
    obtain⟨ex,A1,H1,hw1,hf,hw⟩:=(ih pb hb).1 ks _ A H hwf (hround m A H hI)
    cases ex with
    | normal=>
     obtain⟨m',hlt,hI'⟩:=hf
     obtain⟨ex2,A2,H2,hw2,hf2,hl2⟩:=ihm m' hlt A1 H1 hw1 hI'
     exact⟨ex2,A2,H2,hw2,hf2,Qah (hw.mono (by rintro e A' H' ⟨rfl,rfl,rfl⟩;exact hl2))⟩
    | ret=>exact⟨.ret,A1,H1,hw1,hf,Qah (hw.mono (by rintro e A' H' ⟨rfl,rfl,rfl⟩;exact⟨rfl,rfl,rfl⟩))⟩
    | exit j=>exact⟨.exit j,A1,H1,hw1,hf,Qah (hw.mono (by rintro e A' H' ⟨rfl,rfl,rfl⟩;exact⟨rfl,rfl,rfl⟩))⟩
    | goto j=>exact⟨.goto j,A1,H1,hw1,hf,Qah (hw.mono (by rintro e A' H' ⟨rfl,rfl,rfl⟩;exact⟨rfl,rfl,rfl⟩))⟩
    | panic v=>exact hf.elim
  obtain⟨ex,A1,H1,hw1,hf,hw⟩:=key m A H hwf hm
  exact⟨ex,A1,H1,hw1,hf,Qf9 hw⟩
 | scope b ih=>
  intro pc hc
  refine⟨fun ks k A H hwf h=>?_,fun l rest h=>by cases h⟩
  simp only[comp,Option.map_eq_some_iff]at hc
  obtain⟨pb,hb,rfl⟩:=hc
  have hsnd:=ih pb hb
  have plain:(∀l,findLabel b l=none)→Qm P pb ks k A H→∃ex A1 H1,H1.Wf∧Fp ks k ex A1 H1∧AWp P n (.scope b) (QnV ex A1 H1) A H:=fun hno h=>by
   obtain⟨ex,A1,H1,hw1,hf,hw⟩:=hsnd.1 ks k A H hwf h
   refine⟨ex,A1,H1,hw1,hf,QaW (Jj (hw.mono ?_))⟩
   rintro e A' H' ⟨rfl,rfl,rfl⟩
   cases e with
   | goto j=>simp only[QpX,hno j];exact⟨rfl,rfl,rfl⟩
   | _=>exact⟨rfl,rfl,rfl⟩
  unfold Qkx at h
  split at h
  ·rename_i hl
   refine plain (fun l=>?_) h
   cases hf:findLabel b l with
   | none=>rfl
   | some r=>
    obtain⟨pr,h1,_⟩:=hsnd.2 l r hf
    have:=Gv _ _ _ h1
    rw[hl]at this
    cases this
  ·rename_i l hl
   split at h
   ·rename_i r hr
    obtain⟨I,⟨m,hm⟩,hround⟩:=h
    obtain⟨rest,hrest⟩:∃rest,findLabel b l=some rest:=by
     cases hf:findLabel b l with
     | none=>rw[(QfF b pb hb l).2 hf]at hr;cases hr
     | some rest=>exact⟨rest,rfl⟩
    obtain⟨pr,q1,q2,q3⟩:=hsnd.2 l rest hrest
    rw[hr]at q1
    cases q1
    have hother:∀j,j≠l→findLabel b j=none:=fun j hj=>by
     cases hf:findLabel b j with
     | none=>rfl
     | some r2=>
      obtain⟨pr2,h1,_⟩:=hsnd.2 j r2 hf
      have:=Gv _ _ _ h1
      rw[hl,List.mem_singleton]at this
      exact absurd this hj
    have key:∀m (c:Code) (pcc:PC),Snd P n c pcc→∀A H,H.Wf→Qm P pcc ⟨ks.ret,jmK l I m ks.ext⟩ k A H→∃ex A1 H1,H1.Wf∧Fp ks k ex A1 H1∧Vv P n b c (QnV ex A1 H1) A H:=by
     intro m
     induction m using Nat.strongRecOn with
     | _ m ihm=>
      intro c pcc hsc A H hwf hx
      obtain⟨ex,A1,H1,hw1,hf,hw⟩:=hsc _ k A H hwf hx
      cases ex with
      | normal=>exact⟨.normal,A1,H1,hw1,hf,Jj (hw.mono (by rintro e A' H' ⟨rfl,rfl,rfl⟩;exact⟨rfl,rfl,rfl⟩))⟩
      | ret=>exact⟨.ret,A1,H1,hw1,hf,Jj (hw.mono (by rintro e A' H' ⟨rfl,rfl,rfl⟩;exact⟨rfl,rfl,rfl⟩))⟩
      | exit j=>
       simp only[Fp,jmK]at hf
       rw[if_neg (by omega)]at hf
       exact⟨.exit j,A1,H1,hw1,hf,Jj (hw.mono (by rintro e A' H' ⟨rfl,rfl,rfl⟩;exact⟨rfl,rfl,rfl⟩))⟩
      | goto j=>
       simp only[Fp,jmK]at hf
       by_cases hj:j=l
       ·subst hj
        rw[if_pos rfl]at hf
        obtain⟨m',hlt,hI⟩:=hf
        obtain⟨ex2,A2,H2,hw2,hf2,hs2⟩:=ihm m' hlt rest r q3 A1 H1 hw1 (hround m' A1 H1 hI)
        refine⟨ex2,A2,H2,hw2,hf2,Jj (hw.mono ?_)⟩
        rintro e A' H' ⟨rfl,rfl,rfl⟩
        simp only[QpX,hrest]
        exact hs2
       ·rw[if_neg (by omega)]at hf
        refine⟨.goto j,A1,H1,hw1,hf,Jj (hw.mono ?_)⟩
        rintro e A' H' ⟨rfl,rfl,rfl⟩
        simp only[QpX,hother j hj]
        exact⟨rfl,rfl,rfl⟩
      | panic v=>exact hf.elim
    obtain⟨ex,A1,H1,hw1,hf,hw⟩:=key m b pb hsnd.1 A H hwf hm
    exact⟨ex,A1,H1,hw1,hf,QaW hw⟩
   ·exact h.elim
  ·exact h.elim
theorem Ql6 (c:Code) (pc:PC) (ks:Kp) (k:Env→Qa→Prop) (A:Env) (H:Qa) (hwf:H.Wf) (hc:comp P n c=some pc) (h:Qm P pc ks k A H):
  ∃ex A1 H1,H1.Wf∧Fp ks k ex A1 H1∧AWp P n c (QnV ex A1 H1) A H:=(QkG c pc hc).1 ks k A H hwf h
def QgL (P:Program) (fn:Func) (k:Value→Qa→Prop):Env→Qa→Prop:=fun A H=>∃v,GI P fn.ntmps fn.results A H=some v∧∃H2,YN H2 H∧(H.Wf→H2.Wf)∧k v H2
theorem QhV {f:FuncId} {fn:Func} {pc:PC} {args:List Value} {H:Qa} {k:Value→Qa→Prop} (hf:P.funcs[f]? = some fn) (hcb:fn.body.bind (comp P fn.ntmps)=some pc) (he:entered P f=true) (hl:args.length≤fn.ntmps)
  (h:H.Wf→Qm P pc ⟨QgL P fn fun v H'=>H.next≤H'.next∧k v H',fun _ _ _=>False⟩ (QgL P fn fun v H'=>H.next≤H'.next∧k v H') (YD args) H):Qf P f args H k:=by
 obtain⟨c,hb,hc⟩:=Option.bind_eq_some_iff.1 hcb
 intro hwf
 obtain⟨ex,A1,H1,hw1,hfp,hw⟩:=Ql6 c pc _ _ (YD args) H hwf hc (h hwf)
 have en:args.length+(fn.ntmps - args.length)=fn.ntmps:=by omega
 have main:QgL P fn (fun v H'=>H.next≤H'.next∧k v H') A1 H1→(ex=.normal∨ex=.ret)→∃v H',ZL P f args H v H'∧H.next≤H'.next∧H'.Wf∧k v H':=fun⟨v,hv,H2,hle,hw2,hn,hk⟩ hex=>by
  refine⟨v,H2,.inl ⟨he,Qd2 hf hb ?_⟩,hn,hw2 hw1,hk⟩
  rw[en]
  refine hw.mono ?_
  rintro e A' H' ⟨rfl,rfl,rfl⟩
  rcases hex with rfl | rfl
  ·exact⟨v,rfl,hv,hle⟩
  ·exact⟨v,rfl,hv,hle⟩
 cases ex with
 | normal=>exact main hfp (.inl rfl)
 | ret=>exact main hfp (.inr rfl)
 | exit j=>exact hfp.2.elim
 | goto j=>exact hfp.elim
 | panic v=>exact hfp.elim
theorem Qf.mono {f:FuncId} {args:List Value} {H:Qa} {k k':Value→Qa→Prop} (h:Qf P f args H k) (hk:∀v H',k v H'→k' v H'):Qf P f args H k':=by
 intro hw
 obtain⟨v,H',h1,h2,h3,h4⟩:=h hw
 exact⟨v,H',h1,h2,h3,hk v H' h4⟩
theorem Qf.then {f:FuncId} {args:List Value} {H:Qa} {k k':Value→Qa→Prop} (h:Qf P f args H k) (hk:∀v H',H.next≤H'.next→k v H'→k' v H'):Qf P f args H k':=by
 intro hw
 obtain⟨v,H',h1,h2,h3,h4⟩:=h hw
 exact⟨v,H',h1,h2,h3,hk v H' h2 h4⟩
theorem Qje {f:FuncId} {args:List Value} {H:Qa} {v:Value} (he:entered P f=true) (h:JZ P f args H (.ret v) H):Qf P f args H fun u H'=>u=v∧H'=H:=
 fun hw=>⟨v,H,.inl ⟨he,h⟩,Nat.le_refl _,hw,rfl,rfl⟩
end
def Qa.up (H:Qa) (m:Nat):Qa:=⟨m,H.tr⟩
theorem Qa.get_up (H:Qa) (m id:Nat):(H.up m).get id=H.get id:=Eq.trans rfl rfl
@[simp] theorem Qa.next_up (H:Qa) (m:Nat):(H.up m).next=m:=Eq.trans rfl rfl
@[simp] theorem Qa.up_up (H:Qa) (m m':Nat):(H.up m).up m'=H.up m':=rfl
theorem Qa.up_self (H:Qa):H.up H.next=H:=rfl
theorem YN.up {H H1:Qa} {m:Nat} (hm:H1.next≤m) (h:∀id b,H.get id=some b→H1.get id=some b):YN (H.up m) H1:=⟨hm,h⟩
def t (n:Nat):Operand:=.tmp n
def U:Env:=fun _=>undef
theorem W0 (A:Env) (d:Nat) (v:Value):upd A d v d=v:=Qb4 A d v
theorem Qq (A:Env) (d n:Nat) (v:Value) (h:n≠d):upd A d v n=A n:=KI A v h
theorem Qpj (A:Env) (d n:Nat) (v:Value):upd A d v n=bif n==d then v else A n:=by
 by_cases h:n=d
 ·subst h;simp
 ·have e:(n==d)=false:=beq_false_of_ne h
  rw[KI A v h,e];rfl
theorem QwU (A:Env) (n:Nat):ev A (t n)=A n:=Eq.trans rfl rfl
theorem Ql7 (A:Env) (v:Value):ev A (.const v)=v:=Eq.trans rfl rfl
theorem Qp8 (A:Env) (g:Nat):ev A (.global g)=.pointer (some ⟨g,0,none⟩):=Eq.trans rfl rfl
theorem Qtp (A:Env) (f:Nat):ev A (.func f)=.func (.func f) #[] #[]:=Eq.trans rfl rfl
theorem QjX (A:Env) (d:Nat) (v:Value):YO A (some d) v=upd A d v:=Eq.trans rfl rfl
theorem QjY (A:Env) (v:Value):YO A none v=A:=Eq.trans rfl rfl
theorem Qxq:YD []=U:=by funext n;simp[YD,U]
theorem Qxr (a:Value):YD [a]=upd U 0 a:=by
 funext n
 rcases n with _ | n
 ·rw[W0];rfl
 ·rw[Qq _ _ _ _ (by omega)];simp[YD,U]
theorem Qxs (a b:Value):YD [a,b]=upd (upd U 0 a) 1 b:=by
 funext n
 rcases n with _ | _ | n
 ·rw[Qq _ _ _ _ (by omega),W0];rfl
 ·rw[W0];rfl
 ·rw[Qq _ _ _ _ (by omega),Qq _ _ _ _ (by omega)];simp[YD,U]
theorem Qxt (a b c:Value):YD [a,b,c]=upd (upd (upd U 0 a) 1 b) 2 c:=by
 funext n
 rcases n with _ | _ | _ | n
 ·rw[Qq _ _ _ _ (by omega),Qq _ _ _ _ (by omega),W0];rfl
 ·rw[Qq _ _ _ _ (by omega),W0];rfl
 ·rw[W0];rfl
 ·rw[Qq _ _ _ _ (by omega),Qq _ _ _ _ (by omega),Qq _ _ _ _ (by omega)];simp[YD,U]
theorem Qxu (a b c d:Value):YD [a,b,c,d]=upd (upd (upd (upd U 0 a) 1 b) 2 c) 3 d:=by
 funext n
 rcases n with _ | _ | _ | _ | n
 ·rw[Qq _ _ _ _ (by omega),Qq _ _ _ _ (by omega),Qq _ _ _ _ (by omega),W0];rfl
 ·rw[Qq _ _ _ _ (by omega),Qq _ _ _ _ (by omega),W0];rfl
 ·rw[Qq _ _ _ _ (by omega),W0];rfl
 ·rw[W0];rfl
 ·rw[Qq _ _ _ _ (by omega),Qq _ _ _ _ (by omega),Qq _ _ _ _ (by omega),Qq _ _ _ _ (by omega)];simp[YD,U]
theorem Qxv (a b c d e:Value):YD [a,b,c,d,e]=upd (upd (upd (upd (upd U 0 a) 1 b) 2 c) 3 d) 4 e:=by
 funext n
 rcases n with _ | _ | _ | _ | _ | n
 ·rw[Qq _ _ _ _ (by omega),Qq _ _ _ _ (by omega),Qq _ _ _ _ (by omega),Qq _ _ _ _ (by omega),W0];rfl
 ·rw[Qq _ _ _ _ (by omega),Qq _ _ _ _ (by omega),Qq _ _ _ _ (by omega),W0];rfl
 ·rw[Qq _ _ _ _ (by omega),Qq _ _ _ _ (by omega),W0];rfl
 ·rw[Qq _ _ _ _ (by omega),W0];rfl
 ·rw[W0];rfl
 ·rw[Qq _ _ _ _ (by omega),Qq _ _ _ _ (by omega),Qq _ _ _ _ (by omega),Qq _ _ _ _ (by omega),Qq _ _ _ _ (by omega)];simp[YD,U]
section
variable {k:Value→Qa→Prop} {v:Value} {H H':Qa}
theorem Ql:onS (some (v,H')) k=k v H':=by
 apply propext
 constructor
 ·rintro⟨v1,H1,h,hk⟩;cases h;exact hk
 ·exact fun h=>⟨_,_,rfl,h⟩
theorem QhW:onS none k=False:=by
 apply propext
 constructor
 ·rintro⟨v1,H1,h,hk⟩;cases h
 ·exact fun h=>h.elim
theorem QeP {c:Prop} [Decidable c] {a:Option (Value×Qa)}:onS (if c then a else none) k=(c∧onS a k):=by
 by_cases h:c
 ·simp[h]
 ·simp[h,QhW]
theorem Qcn {r:Option Value}:onS (Qci H r) k=∃v,r=some v∧k v H:=by
 cases r with
 | none=>simp[Qci,QhW]
 | some u=>simp[Qci,Ql]
end
/-! ### Code -/
section
variable {P:Program}
def QhX (P:Program) (l:List PO) (k:Env→Qa→Prop) (A:Env) (d:Option Nat) (v:Value) (H:Qa):Prop:=KM P l k (YO A d v) H
theorem QnW (l:List PO) (k:Env→Qa→Prop) (A:Env) (d:Nat) (v:Value) (H:Qa):QhX P l k A (some d) v H=KM P l k (upd A d v) H:=Eq.trans rfl rfl
theorem QnX (l:List PO) (k:Env→Qa→Prop) (A:Env) (v:Value) (H:Qa):QhX P l k A none v H=KM P l k A H:=Eq.trans rfl rfl
def gB (b:Bool) (P:Program) (r:R) (s:Bool) (l:List PO) (k:Env→Qa→Prop) (A:Env) (d:Option Nat) (H:Qa):Prop:=
 (b=true→pr P r s A H (QhX P l k A d))∧(b=false→KM P l k (YO A d undef) H)
def gV (v:Value) (w:Bool) (P:Program) (r:R) (s:Bool) (l:List PO) (k:Env→Qa→Prop) (A:Env) (d:Option Nat) (H:Qa):Prop:=
 match v with
 | .bool b=>gB (b==w) P r s l k A d H
 | .tuple _=>KM P l k (YO A d undef) H
 | _=>False
theorem Qtq (r:R) (s:Bool) (l:List PO) (k:Env→Qa→Prop) (A:Env) (d:Option Nat) (H:Qa):gB true P r s l k A d H=pr P r s A H (QhX P l k A d):=by simp[gB]
theorem QrA (r:R) (s:Bool) (l:List PO) (k:Env→Qa→Prop) (A:Env) (d:Option Nat) (H:Qa):gB false P r s l k A d H=KM P l k (YO A d undef) H:=by simp[gB]
theorem Qtr (b w:Bool) (r:R) (s:Bool) (l:List PO) (k:Env→Qa→Prop) (A:Env) (d:Option Nat) (H:Qa):gV (.bool b) w P r s l k A d H=gB (b==w) P r s l k A d H:=Eq.trans rfl rfl
theorem QrB (w:Bool) (r:R) (s:Bool) (l:List PO) (k:Env→Qa→Prop) (A:Env) (d:Option Nat) (H:Qa):gV undef w P r s l k A d H=KM P l k (YO A d undef) H:=Eq.trans rfl rfl
theorem bt (b:Bool):(b==true)=b:=by cases b<;>rfl
theorem bf (b:Bool):(b==false)=!b:=by cases b<;>rfl
theorem QrC (k:Env→Qa→Prop) (A:Env) (H:Qa):KM P [] k A H=k A H:=Eq.trans rfl rfl
theorem Qp9 (d:Option Nat) (r:R) (s:Bool) (l:List PO) (k:Env→Qa→Prop) (A:Env) (H:Qa):KM P (⟨d,r,none,s⟩::l) k A H=pr P r s A H (QhX P l k A d):=Eq.trans rfl rfl
theorem QnY (d:Option Nat) (r:R) (n:Nat) (w s:Bool) (l:List PO) (k:Env→Qa→Prop) (A:Env) (H:Qa):KM P (⟨d,r,some (n,w),s⟩::l) k A H=gV (A n) w P r s l k A d H:=by
 show pg (some (n,w)) A (pr P r s A H (QhX P l k A d)) (KM P l k (YO A d undef) H)=_
 show(match A n with | .bool b=>if b=w then pr P r s A H (QhX P l k A d) else KM P l k (YO A d undef) H | .tuple _=>KM P l k (YO A d undef) H | _=>False)=_
 unfold gV
 cases A n<;>try rfl
 rename_i b
 cases b<;>cases w<;>simp[gB]
theorem QnZ (ks:Kp) (k:Env→Qa→Prop) (A:Env) (H:Qa):Qm P .skip ks k A H=k A H:=Eq.trans rfl rfl
theorem Qqa (ks:Kp) (k:Env→Qa→Prop) (A:Env) (H:Qa):Qm P .ret ks k A H=ks.ret A H:=Eq.trans rfl rfl
theorem Qn0 (id:Nat) (ks:Kp) (k:Env→Qa→Prop) (A:Env) (H:Qa):Qm P (.exit id) ks k A H=ks.ext id A H:=Eq.trans rfl rfl
theorem Qqb (l:List PO) (ks:Kp) (k:Env→Qa→Prop) (A:Env) (H:Qa):Qm P (.ops l) ks k A H=KM P l k A H:=Eq.trans rfl rfl
theorem GE (a b:PC) (ks:Kp) (k:Env→Qa→Prop) (A:Env) (H:Qa):Qm P (.seq a b) ks k A H=Qm P a ks (Qm P b ks k) A H:=Eq.trans rfl rfl
theorem Qgk (l:Nat) (ks:Kp) (k:Env→Qa→Prop) (A:Env) (H:Qa):Qm P (.label l) ks k A H=k A H:=Eq.trans rfl rfl
theorem Qn1 (l:Nat) (ks:Kp) (k:Env→Qa→Prop) (A:Env) (H:Qa):Qm P (.goto l) ks k A H=ks.ext (J0+l) A H:=Eq.trans rfl rfl
theorem QrD (l:Nat) (I:Nat→Env→Qa→Prop) (m:Nat) (e:Nat→Env→Qa→Prop) (A:Env) (H:Qa):jmK l I m e (J0+l) A H=∃m',m'<m∧I m' A H:=by simp[jmK]
theorem Qgl {b r:PC} {l:Nat} {ks:Kp} {k:Env→Qa→Prop} {A:Env} {H:Qa} (I:Nat→Env→Qa→Prop) (m:Nat) (h0:Qm P b ⟨ks.ret,jmK l I m ks.ext⟩ k A H) (h:∀m A' H',I m A' H'→Qm P r ⟨ks.ret,jmK l I m ks.ext⟩ k A' H'):Qm P (.scope b l r) ks k A H:=
 ⟨I,⟨m,h0⟩,h⟩
def exK (id:Nat) (k:Env→Qa→Prop) (e:Nat→Env→Qa→Prop) (j:Nat):Env→Qa→Prop:=if j=id then k else e j
theorem QrE (id:Nat) (k:Env→Qa→Prop) (e:Nat→Env→Qa→Prop) (A:Env) (H:Qa):exK id k e id A H=k A H:=by simp[exK]
theorem QfG (id j:Nat) (k:Env→Qa→Prop) (e:Nat→Env→Qa→Prop) (A:Env) (H:Qa) (h:j≠id):exK id k e j A H=e j A H:=by simp[exK,h]
def Gw:Nat→Env→Qa→Prop:=fun _ _ _=>False
theorem Ql8 (id:Nat) (b:PC) (ks:Kp) (k:Env→Qa→Prop) (A:Env) (H:Qa):Qm P (.block id b) ks k A H=Qm P b ⟨ks.ret,exK id k ks.ext⟩ k A H:=Eq.trans rfl rfl
theorem Qvx (r:Env→Qa→Prop) (e:Nat→Env→Qa→Prop):(Kp.mk r e).ret=r:=Eq.trans rfl rfl
theorem Qvy (r:Env→Qa→Prop) (e:Nat→Env→Qa→Prop):(Kp.mk r e).ext=e:=Eq.trans rfl rfl
def cB (b:Bool) (P:Program) (x y:PC) (ks:Kp) (k:Env→Qa→Prop) (A:Env) (H:Qa):Prop:=(b=true→Qm P x ks k A H)∧(b=false→Qm P y ks k A H)
def cV (v:Value) (P:Program) (x y:PC) (ks:Kp) (k:Env→Qa→Prop) (A:Env) (H:Qa):Prop:=match v with
 | .bool b=>cB b P x y ks k A H
 | _=>False
theorem Qn2 (c:Operand) (x y:PC) (ks:Kp) (k:Env→Qa→Prop) (A:Env) (H:Qa):Qm P (.cond c x y) ks k A H=cV (ev A c) P x y ks k A H:=Eq.trans rfl rfl
theorem Qts (b:Bool) (x y:PC) (ks:Kp) (k:Env→Qa→Prop) (A:Env) (H:Qa):cV (.bool b) P x y ks k A H=cB b P x y ks k A H:=Eq.trans rfl rfl
theorem Qtt (x y:PC) (ks:Kp) (k:Env→Qa→Prop) (A:Env) (H:Qa):cB true P x y ks k A H=Qm P x ks k A H:=by simp[cB]
theorem QrF (x y:PC) (ks:Kp) (k:Env→Qa→Prop) (A:Env) (H:Qa):cB false P x y ks k A H=Qm P y ks k A H:=by simp[cB]
/-! ### Operations -/
variable {k:Value→Qa→Prop} {A:Env} {H:Qa}
def flK (H:Qa) (k:Value→Qa→Prop) (v:Value) (H':Qa):Prop:=QK H.next 6 v=true∧k v H'
theorem Qqc (H:Qa) (k:Value→Qa→Prop) (v:Value) (H':Qa):flK H k v H'=(QK H.next 6 v=true∧k v H'):=Eq.trans rfl rfl
def stK (H:Qa) (k:Value→Qa→Prop) (v:Value) (H':Qa):Prop:=(∀id,H'.get id=H.get id)∧k v H'
theorem Qqd (H:Qa) (k:Value→Qa→Prop) (v:Value) (H':Qa):stK H k v H'=((∀id,H'.get id=H.get id)∧k v H'):=Eq.trans rfl rfl
theorem QP (r:Option (Value×Qa)):onS r (fun v H'=>(false=true→QK H.next 6 v=true)∧k v H')=onS r k:=by
 congr 1;funext v H';simp
theorem Qtu (r:Option (Value×Qa)):onS r (fun v H'=>(true=true→QK H.next 6 v=true)∧k v H')=onS r (flK H k):=by
 congr 1;funext v H';simp[flK]
theorem Qtv (f:FuncId) (l:List Operand):pr P (.call f l) false A H k=Qf P f (l.map (ev A)) H k:=by
 show Qf P f (l.map (ev A)) H (fun v H'=>(false=true→∀id,H'.get id=H.get id)∧k v H')=_
 congr 1;funext v H';simp
theorem Qn3 (f:FuncId) (l:List Operand):pr P (.call f l) true A H k=Qf P f (l.map (ev A)) H (stK H k):=by
 show Qf P f (l.map (ev A)) H (fun v H'=>(true=true→∀id,H'.get id=H.get id)∧k v H')=_
 congr 1;funext v H';simp[stK]
def kpK (H:Qa) (k:Value→Qa→Prop) (v:Value) (H':Qa):Prop:=EqB H H'∧k v H'
theorem Qqe (H:Qa) (k:Value→Qa→Prop) (v:Value) (H':Qa):kpK H k v H'=(EqB H H'∧k v H'):=Eq.trans rfl rfl
def Qn4 (n:Nat):List Value→Prop
 | []=>True
 | v::l=>QnH n v∧Qn4 n l
theorem QrG (n:Nat):Qn4 n []=True:=Eq.trans rfl rfl
theorem Qqf (n:Nat) (v:Value) (l:List Value):Qn4 n (v::l)=(QnH n v∧Qn4 n l):=Eq.trans rfl rfl
theorem QrH (n b o:Nat):QnH n (.pointer (some ⟨b,o,none⟩))=(b<n):=Eq.trans rfl rfl
theorem Ql9 (n:Nat) (f:Operand→Value):∀l:List Operand,(∀z∈l,QnH n (f z))↔Qn4 n (l.map f)
 | []=>⟨fun _=>trivial,fun _ _ h=>by cases h⟩
 | x::l=>by
  have ih:=Ql9 n f l
  simp only[List.mem_cons,forall_eq_or_imp,List.map_cons,Qn4,ih]
theorem QrI (f:FuncId) (l os:List Operand) (s:Bool):pr P (.callF f l os) s A H k=(Qn4 H.next (os.map (ev A))∧Qf P f (l.map (ev A)) H (kpK H k)):=by
 show((∀z∈os,QnH H.next (ev A z))∧Qf P f (l.map (ev A)) H fun v H'=>EqB H H'∧k v H')=_
 rw[Ql9]
 rfl
def cvK (v:Value) (P:Program) (l:List Value) (H:Qa) (k:Value→Qa→Prop):Prop:=match v with
 | .func (.func f) xs ys=>Qf P f (xs.toList++l++ys.toList) H k
 | _=>False
theorem QrJ (c:Operand) (l:List Operand):pr P (.callv c l) false A H k=cvK (ev A c) P (l.map (ev A)) H k:=by
 show(match ev A c with | .func (.func f) xs ys=>Qf P f (xs.toList++l.map (ev A)++ys.toList) H (fun v H'=>(false=true→∀id,H'.get id=H.get id)∧k v H') | _=>False)=_
 unfold cvK
 split<;>first | rfl | skip
 congr 1;funext v H';simp
theorem QwV (x:Operand):pr P (.mv x) false A H k=k (ev A x) H:=(QP _).trans Ql
def Qu2 (c x y:Value) (H:Qa) (k:Value→Qa→Prop):Prop:=onS (match c with | .bool b=>some (bif b then x else y,H) | _=>none) k
theorem Qtw (c x y:Operand):pr P (.pick c x y) false A H k=Qu2 (ev A c) (ev A x) (ev A y) H k:=QP _
theorem Qn5 (b:Bool) (x y:Value):Qu2 (.bool b) x y H k=k (bif b then x else y) H:=Ql
def Ka (op:BinOp) (x y:Value) (H:Qa) (k:Value→Qa→Prop):Prop:=∃v,J8 op x y=some v∧k v H
theorem Qvz (op:BinOp) (x y:Operand):pr P (.bin op x y) false A H k=Ka op (ev A x) (ev A y) H k:=(QP _).trans Qcn
theorem WQ {op:BinOp} {x y v:Value} (h:J8 op x y=some v):Ka op x y H k=k v H:=by
 apply propext
 constructor
 ·rintro⟨u,h1,h2⟩;rw[h]at h1;cases h1;exact h2
 ·exact fun hk=>⟨v,h,hk⟩
theorem Qtx (ik:IntKind) (a b:Int):Ka .add (.int ik a) (.int ik b) H k=k (.int ik (ik.wrap (a+b))) H:=WQ (by simp[J8,XW])
theorem Qty (ik:IntKind) (a b:Int):Ka .sub (.int ik a) (.int ik b) H k=k (.int ik (ik.wrap (a - b))) H:=WQ (by simp[J8,XW])
theorem Qtz (ik:IntKind) (a b:Int):Ka .mul (.int ik a) (.int ik b) H k=k (.int ik (ik.wrap (a * b))) H:=WQ (by simp[J8,XW])
theorem QtA (ik:IntKind) (a b:Int):Ka .and (.int ik a) (.int ik b) H k=k (.int ik (ik.wrap (BitVec.ofInt ik.bits a &&& BitVec.ofInt ik.bits b).toNat)) H:=WQ (by simp[J8,XW])
theorem QvA (ik:IntKind) (a b:Int):Ka .or (.int ik a) (.int ik b) H k=k (.int ik (ik.wrap (BitVec.ofInt ik.bits a ||| BitVec.ofInt ik.bits b).toNat)) H:=WQ (by simp[J8,XW])
theorem QtB (ik:IntKind) (a b:Int):Ka .xor (.int ik a) (.int ik b) H k=k (.int ik (ik.wrap (BitVec.ofInt ik.bits a ^^^ BitVec.ofInt ik.bits b).toNat)) H:=WQ (by simp[J8,XW])
theorem Qn6 (ik:IntKind) (a b:Int):Ka .andNot (.int ik a) (.int ik b) H k=k (.int ik (ik.wrap (BitVec.ofInt ik.bits a &&& ~~~BitVec.ofInt ik.bits b).toNat)) H:=WQ (by simp[J8,XW])
theorem QtC (ik:IntKind) (a b:Int):Ka .eql (.int ik a) (.int ik b) H k=k (.bool (a==b)) H:=WQ (by simp[J8,XW])
theorem QtD (ik:IntKind) (a b:Int):Ka .neq (.int ik a) (.int ik b) H k=k (.bool (!(a==b))) H:=WQ (by simp[J8,XW,bne])
theorem QtE (ik:IntKind) (a b:Int):Ka .lss (.int ik a) (.int ik b) H k=k (.bool (decide (a<b))) H:=WQ (by simp[J8,XW])
theorem QtF (ik:IntKind) (a b:Int):Ka .leq (.int ik a) (.int ik b) H k=k (.bool (decide (a≤b))) H:=WQ (by simp[J8,XW])
theorem QtG (ik:IntKind) (a b:Int):Ka .gtr (.int ik a) (.int ik b) H k=k (.bool (decide (b<a))) H:=WQ (by simp[J8,XW])
theorem QtH (ik:IntKind) (a b:Int):Ka .geq (.int ik a) (.int ik b) H k=k (.bool (decide (b≤a))) H:=WQ (by simp[J8,XW])
theorem QtI (ik:IntKind) (a b:Int):Ka .rem (.int ik a) (.int ik b) H k=(b≠0∧k (.int ik (a.tmod b)) H):=by
 unfold Ka;by_cases h:b=0<;>simp[J8,XW,h]
theorem QtJ (ik:IntKind) (a b:Int):Ka .quo (.int ik a) (.int ik b) H k=(b≠0∧k (.int ik (ik.wrap (a.tdiv b))) H):=by
 unfold Ka;by_cases h:b=0<;>simp[J8,XW,h]
theorem QtK (ik ik':IntKind) (a b:Int):Ka .shl (.int ik a) (.int ik' b) H k=(0≤b∧k (.int ik (ik.wrap (a * 2 ^ (min b.toNat ik.bits)))) H):=by
 unfold Ka;by_cases h:b<0
 ·simp[J8,Kv,h];omega
 ·simp[J8,Kv,h];intro _;omega
theorem QtL (ik ik':IntKind) (a b:Int):Ka .shr (.int ik a) (.int ik' b) H k=(0≤b∧k (.int ik (a.fdiv (2 ^ (min b.toNat ik.bits)))) H):=by
 unfold Ka;by_cases h:b<0
 ·simp[J8,Kv,h];omega
 ·simp[J8,Kv,h];intro _;omega
theorem QtM (a b:ByteArray):Ka .eql (.string a) (.string b) H k=k (.bool (bl a==bl b)) H:=WQ (by simp[J8,QdZ])
theorem QtN (a b:ByteArray):Ka .neq (.string a) (.string b) H k=k (.bool (!(bl a==bl b))) H:=WQ (by simp[J8,QdZ])
theorem QrK (a b:ByteArray):Ka .add (.string a) (.string b) H k=((bl a).length+(bl b).length≤9223372036854775807∧k (.string (mkS (bl a++bl b))) H):=by
 unfold Ka;by_cases h:(bl a).length+(bl b).length≤9223372036854775807<;>simp[J8,QdZ,h]
def QvB (ne:Bool) (x y:Value) (H:Qa) (k:Value→Qa→Prop):Prop:=onS (match x,y with | .bool a,.bool b=>some (.bool (bif ne then !(a==b) else a==b),H) | _,_=>none) k
theorem QvC (ne:Bool) (x y:Operand):pr P (.beq ne x y) false A H k=QvB ne (ev A x) (ev A y) H k:=QP _
theorem QtO (a b:Bool):QvB false (.bool a) (.bool b) H k=k (.bool (a==b)) H:=Ql
theorem QtP (a b:Bool):QvB true (.bool a) (.bool b) H k=k (.bool (!(a==b))) H:=Ql
def QtQ (ne:Bool) (ks:List Sk) (x y:Value) (H:Qa) (k:Value→Qa→Prop):Prop:=onS (match x,y with
 | .agg xs,.agg ys=>match Gu ks xs ys 0 with | some b=>some (.bool (bif ne then !b else b),H) | none=>none
 | _,_=>none) k
theorem QvD (ne:Bool) (ks:List Sk) (x y:Operand):pr P (.eqs ne ks x y) false A H k=QtQ ne ks (ev A x) (ev A y) H k:=QP _
theorem Qqg {ne:Bool} {ks:List Sk} {xs ys:Array Value} {b:Bool} (h:Gu ks xs ys 0=some b):QtQ ne ks (.agg xs) (.agg ys) H k=k (.bool (bif ne then !b else b)) H:=by
 simp only[QtQ,h,Ql]
def QwW (x:Value) (H:Qa) (k:Value→Qa→Prop):Prop:=onS (match x with | .bool b=>some (.bool !b,H) | _=>none) k
theorem QvE (x:Operand):pr P (.not x) false A H k=QwW (ev A x) H k:=QP _
theorem Qqh (b:Bool):QwW (.bool b) H k=k (.bool !b) H:=Ql
def QrL (ik:IntKind) (x:Value) (H:Qa) (k:Value→Qa→Prop):Prop:=onS (match x with | .int _ m=>some (.int ik (ik.wrap m),H) | _=>none) k
theorem QrM (ik:IntKind) (x:Operand):pr P (.toInt ik x) false A H k=QrL ik (ev A x) H k:=QP _
theorem Qn7 (ik ik':IntKind) (m:Int):QrL ik (.int ik' m) H k=k (.int ik (ik.wrap m)) H:=Ql
theorem QtR (ty:TypeId) (x:Operand):pr P (.mkIf ty x) false A H k=k (.iface ty (ev A x)) H:=(QP _).trans Ql
def QvF (agg:Bool) (off size:Nat) (x:Value) (H:Qa) (k:Value→Qa→Prop):Prop:=onS (match x with
 | .agg cs=>Qci H (bif agg then some (.agg (cs.extract off (off+size))) else cs[off]?)
 | _=>none) k
theorem QvG (agg:Bool) (off size:Nat) (x:Operand):pr P (.fld agg off size x) false A H k=QvF agg off size (ev A x) H k:=QP _
theorem Qqi (off size:Nat) (l:List Value):QvF false off size (.agg l.toArray) H k=∃v,l[off]? = some v∧k v H:=by
 show onS (Qci H l.toArray[off]?) k=_
 rw[Qcn];simp
theorem QrN (off size:Nat) (l:List Value):QvF true off size (.agg l.toArray) H k=k (.agg ((l.drop off).take size).toArray) H:=by
 show onS (Qci H (some (.agg (l.toArray.extract off (off+size))))) k=_
 rw[Qcn];simp
def Qu3 (off:Nat) (x:Value) (H:Qa) (k:Value→Qa→Prop):Prop:=onS (match x with | .pointer (some a)=>some (.pointer (some ⟨a.block,a.off+off,none⟩),H) | _=>none) k
theorem QtS (off:Nat) (x:Operand):pr P (.fldA off x) false A H k=Qu3 off (ev A x) H k:=QP _
theorem Qqj (off b o:Nat):Qu3 off (.pointer (some ⟨b,o,none⟩)) H k=k (.pointer (some ⟨b,o+off,none⟩)) H:=Ql
def QwX (size:Nat) (x ix:Value) (H:Qa) (k:Value→Qa→Prop):Prop:=onS (match ix,x with
 | .int _ m,.slice (some a) len _=>if 0≤m∧m<len then some (.pointer (some ⟨a.block,a.off+m.toNat * size,none⟩),H) else none
 | _,_=>none) k
theorem QtT (size:Nat) (x ix:Operand):pr P (.idxS size x ix) false A H k=QwX size (ev A x) (ev A ix) H k:=QP _
theorem Qn8 (size:Nat) (ik:IntKind) (m:Int) (b o len cap:Nat):QwX size (.slice (some ⟨b,o,none⟩) len cap) (.int ik m) H k=((0≤m∧m<len)∧k (.pointer (some ⟨b,o+m.toNat * size,none⟩)) H):=by
 show onS (if 0≤m∧m<len then some (.pointer (some ⟨b,o+m.toNat * size,none⟩),H) else none) k=_
 rw[QeP,Ql]
def QwY (x ix:Value) (H:Qa) (k:Value→Qa→Prop):Prop:=onS (match ix,x with
 | .int _ m,.string s=>if 0≤m then(match (bl s)[m.toNat]? with | some b=>some (.int .u8 b.toNat,H) | none=>none) else none
 | _,_=>none) k
theorem QvH (x ix:Operand):pr P (.chr x ix) false A H k=QwY (ev A x) (ev A ix) H k:=QP _
theorem QrO (ik:IntKind) (m:Int) (s:ByteArray):QwY (.string s) (.int ik m) H k=(0≤m∧∃b,(bl s)[m.toNat]? = some b∧k (.int .u8 b.toNat) H):=by
 show onS (if 0≤m then(match (bl s)[m.toNat]? with | some b=>some (.int .u8 b.toNat,H) | none=>none) else none) k=_
 rw[QeP]
 congr 1
 cases hb:(bl s)[m.toNat]? with
 | some b=>simp[Ql]
 | none=>simp[QhW]
def QrP (x:Value) (i:Nat) (H:Qa) (k:Value→Qa→Prop):Prop:=onS (match x with | .tuple vs=>Qci H vs[i]? | _=>none) k
theorem QvI (x:Operand) (i:Nat):pr P (.ext x i) false A H k=QrP (ev A x) i H k:=QP _
theorem QvJ (a:Value) (l:List Value):QrP (.tuple (a::l).toArray) 0 H k=k a H:=Ql
theorem QvK (a b:Value) (l:List Value):QrP (.tuple (a::b::l).toArray) 1 H k=k b H:=Ql
theorem QvL (a b c:Value) (l:List Value):QrP (.tuple (a::b::c::l).toArray) 2 H k=k c H:=Ql
def QhY (ty:TypeId) (z:Value) (ok:Bool) (x:Value) (H:Qa) (k:Value→Qa→Prop):Prop:=onS (match x with
 | .nilIface=>bif ok then some (.tuple #[z,.bool false],H) else none
 | .iface u v=>if u=ty then some (bif ok then .tuple #[v,.bool true] else v,H) else(bif ok then some (.tuple #[z,.bool false],H) else none)
 | _=>none) k
theorem QtU (ty:TypeId) (z:Value) (ok:Bool) (x:Operand):pr P (.asrt ty z ok x) false A H k=QhY ty z ok (ev A x) H k:=QP _
theorem Qqk (ty:TypeId) (z v:Value):QhY ty z true (.iface ty v) H k=k (.tuple #[v,.bool true]) H:=by simp[QhY,Ql]
theorem QrQ (ty u:TypeId) (z v:Value) (h:u≠ty):QhY ty z true (.iface u v) H k=k (.tuple #[z,.bool false]) H:=by simp[QhY,h,Ql]
theorem Qn9 (ty:TypeId) (z v:Value):QhY ty z false (.iface ty v) H k=k v H:=by simp[QhY,Ql]
def Qoa (r:Option (List Value)) (H:Qa) (k:Value→Qa→Prop):Prop:=onS (match r with | some r=>some (.agg r.toArray,H) | none=>none) k
theorem QrR (z:List Value) (parts:List (Nat×Nat×Operand)):pr P (.build z parts) false A H k=Qoa (Qgg (ev A) z parts) H k:=QP _
theorem Qma (l:List Value):Qoa (some l) H k=k (.agg l.toArray) H:=Ql
theorem Qql (f:Operand→Value) (cells:List Value):Qgg f cells []=some cells:=Eq.trans rfl rfl
theorem QhZ (f:Operand→Value) (cells:List Value) (off size:Nat) (x:Operand) (rest:List (Nat×Nat×Operand)):Qgg f cells ((off,size,x)::rest)=if(f x).cells.toList.length=size∧off+size≤cells.length then Qgg f (splice cells off (f x).cells.toList) rest else none:=Eq.trans rfl rfl
def Qpk (e len:Nat) (r:Option (List Value)) (H:Qa) (k:Value→Qa→Prop):Prop:=onS (match r with | some r=>some (.slice (some ⟨H.next,0,none⟩) len len,H.push (.cells r e false)) | none=>none) k
def Qpl (size:Nat) (cells:List Value) (parts:List (Nat×Value)):Option (List Value):=Vu (fun i=>some (i * size,size)) cells parts
def evP (A:Env) (p:Nat×Operand):Nat×Value:=(p.1,ev A p.2)
theorem QvM (A:Env) (i:Nat) (x:Operand):evP A (i,x)=(i,ev A x):=Eq.trans rfl rfl
theorem Qqm (e size len:Nat) (z:List Value) (parts:List (Nat×Operand)):pr P (.bslice e size len z parts) false A H k=Qpk e len (Qpl size z (parts.map (evP A))) H k:=QP _
theorem QkH (e len:Nat) (l:List Value):Qpk e len (some l) H k=k (.slice (some ⟨H.next,0,none⟩) len len) (H.push (.cells l e false)):=Ql
theorem Qqn (size:Nat) (cells:List Value):Qpl size cells []=some cells:=Eq.trans rfl rfl
theorem Qh0 (size:Nat) (cells:List Value) (i:Nat) (v:Value) (rest:List (Nat×Value)):Qpl size cells ((i,v)::rest)=if v.cells.toList.length=size∧i * size+size≤cells.length then Qpl size (splice cells (i * size) v.cells.toList) rest else none:=Eq.trans rfl rfl
theorem QrS (e:TypeId) (z:List Value):pr P (.alloc e z) false A H k=k (.pointer (some ⟨H.next,0,none⟩)) (H.push (.cells z e false)):=(QP _).trans Ql
theorem QvN (e:TypeId) (x:Operand):pr P (.box e x) false A H k=k (.pointer (some ⟨H.next,0,none⟩)) (H.push (.cells (ev A x).cells.toList e false)):=(QP _).trans Ql
def Qu4 (e size bytes:Nat) (z:List Value) (x y:Value) (H:Qa) (k:Value→Qa→Prop):Prop:=onS (match x,y with
 | .int .i64 l,.int .i64 c=>if 0≤l∧l≤c∧(bytes:Int) * c≤281474976710656∧c≤9223372036854775807 then
   some (.slice (some ⟨H.next,0,none⟩) l.toNat c.toNat,H.push (.cells (XB z.toArray (c.toNat * size)) e false)) else none
 | _,_=>none) k
theorem QtV (e size bytes:Nat) (z:List Value) (x y:Operand):pr P (.mkSl e size bytes z x y) false A H k=Qu4 e size bytes z (ev A x) (ev A y) H k:=QP _
theorem Qqo (e size bytes:Nat) (z:List Value) (l c:Int):Qu4 e size bytes z (.int .i64 l) (.int .i64 c) H k=((0≤l∧l≤c∧(bytes:Int) * c≤281474976710656∧c≤9223372036854775807)∧k (.slice (some ⟨H.next,0,none⟩) l.toNat c.toNat) (H.push (.cells (XB z.toArray (c.toNat * size)) e false))):=by
 show onS (if 0≤l∧l≤c∧(bytes:Int) * c≤281474976710656∧c≤9223372036854775807 then some (.slice (some ⟨H.next,0,none⟩) l.toNat c.toNat,H.push (.cells (XB z.toArray (c.toNat * size)) e false)) else none) k=_
 rw[QeP,Ql]
def slK (size:Nat) (x:Value) (lo hi:Option (Option Int)) (H:Qa) (k:Value→Qa→Prop):Prop:=onS (match lo,hi with
 | some l,some h=>Qci H (Qc1 size x l h none)
 | _,_=>none) k
theorem QrT (size:Nat) (x:Value) (l h:Option Int):slK size x (some l) (some h) H k=∃v,Qc1 size x l h none=some v∧k v H:=Qcn
theorem QvO (size:Nat) (x:Operand) (lo hi:Option Operand):pr P (.slS size x lo hi) false A H k=slK size (ev A x) (QjR (ev A) lo) (QjR (ev A) hi) H k:=QP _
theorem Qob (f:Operand→Value):QjR f none=some none:=Eq.trans rfl rfl
theorem Qoc (f:Operand→Value) (x:Operand):QjR f (some x)=match f x with | .int _ m=>some (some m) | _=>none:=Eq.trans rfl rfl
def ldB (agg:Bool) (size off:Nat) (b:Option Blk) (H:Qa) (k:Value→Qa→Prop):Prop:=onS (match b with
 | some (.cells c _ _)=>bif agg then(if off+size≤c.length then some (.agg ((c.drop off).take size).toArray,H) else none) else Qci H c[off]?
 | _=>none) k
def ldK (agg:Bool) (size:Nat) (x:Value) (H:Qa) (k:Value→Qa→Prop):Prop:=onS (match x with
 | .pointer (some a)=>match H.get a.block with
  | some (.cells c _ _)=>bif agg then(if a.off+size≤c.length then some (.agg ((c.drop a.off).take size).toArray,H) else none) else Qci H c[a.off]?
  | _=>none
 | _=>none) k
theorem QwZ (agg:Bool) (size:Nat) (x:Operand):pr P (.ld agg size x) false A H k=ldK agg size (ev A x) H k:=QP _
theorem QrU (agg:Bool) (size:Nat) (x:Operand):pr P (.ld agg size x) true A H k=ldK agg size (ev A x) H (flK H k):=Qtu _
theorem QtW (agg:Bool) (size b o:Nat):ldK agg size (.pointer (some ⟨b,o,none⟩)) H k=ldB agg size o (H.get b) H k:=Eq.trans rfl rfl
theorem QrV (size off:Nat) (c:List Value) (e:TypeId) (ro:Bool):ldB false size off (some (.cells c e ro)) H k=∃v,c[off]? = some v∧k v H:=Qcn
theorem QtX (size off:Nat) (c:List Value) (e:TypeId) (ro:Bool):ldB true size off (some (.cells c e ro)) H k=(off+size≤c.length∧k (.agg ((c.drop off).take size).toArray) H):=by
 show onS (if off+size≤c.length then some (.agg ((c.drop off).take size).toArray,H) else none) k=_
 rw[QeP,Ql]
def Qw0 (size:Nat) (a:Addr) (y:Value) (b:Option Blk) (H:Qa) (k:Value→Qa→Prop):Prop:=onS (match b with
 | some (.cells c e false)=>if y.cells.toList.length=size∧a.off+y.cells.toList.length≤c.length∧y.cells.toList.all (·.oneCell')=true then some (undef,H.set a.block (.cells (splice c a.off y.cells.toList) e false)) else none
 | _=>none) k
def QvP (size:Nat) (x y:Value) (H:Qa) (k:Value→Qa→Prop):Prop:=onS (match x with
 | .pointer (some a)=>match H.get a.block with
  | some (.cells c e false)=>if y.cells.toList.length=size∧a.off+y.cells.toList.length≤c.length∧y.cells.toList.all (·.oneCell')=true then some (undef,H.set a.block (.cells (splice c a.off y.cells.toList) e false)) else none
  | _=>none
 | _=>none) k
theorem Qw1 (size:Nat) (x y:Operand):pr P (.st size x y) false A H k=QvP size (ev A x) (ev A y) H k:=QP _
theorem QrW (size b o:Nat) (y:Value):QvP size (.pointer (some ⟨b,o,none⟩)) y H k=Qw0 size ⟨b,o,none⟩ y (H.get b) H k:=Eq.trans rfl rfl
theorem Qod (size b o:Nat) (y:Value) (c:List Value) (e:TypeId):Qw0 size ⟨b,o,none⟩ y (some (.cells c e false)) H k=((y.cells.toList.length=size∧o+y.cells.toList.length≤c.length∧y.cells.toList.all (·.oneCell')=true)∧k undef (H.set b (.cells (splice c o y.cells.toList) e false))):=by
 show onS (if y.cells.toList.length=size∧o+y.cells.toList.length≤c.length∧y.cells.toList.all (·.oneCell')=true then some (undef,H.set b (.cells (splice c o y.cells.toList) e false)) else none) k=_
 rw[QeP,Ql]
def apL:List Value→Value→Prop
 | [],_=>True
 | z::l,x=>Qd8 x z∧apL l x
def apK (os:List Value) (x:Value) (k:Value→Qa→Prop) (v:Value) (H':Qa):Prop:=apL os x∧k v H'
theorem QjZ (os:List Value) (x:Value) (k:Value→Qa→Prop) (v:Value) (H':Qa):apK os x k v H'=(apL os x∧k v H'):=Eq.trans rfl rfl
theorem QtY (x:Value):apL [] x=True:=Eq.trans rfl rfl
theorem QrX (z x:Value) (l:List Value):apL (z::l) x=(Qd8 x z∧apL l x):=Eq.trans rfl rfl
theorem Qoe (b o b' o':Nat):Qd8 (.pointer (some ⟨b,o,none⟩)) (.pointer (some ⟨b',o',none⟩))=(b'≠b):=Eq.trans rfl rfl
theorem QtZ (os:List Operand) (x:Value):apL (os.map (ev A)) x=∀z∈os,Qd8 x (ev A z):=by
 induction os with
 | nil=>simp[apL]
 | cons z l ih=>simp[apL,ih]
theorem QvQ (size:Nat) (x y:Operand) (os:List Operand) (s:Bool):pr P (.stf size x y os) s A H k=QvP size (ev A x) (ev A y) H (apK (os.map (ev A)) (ev A x) k):=by
 show onS (rop P (.st size x y) A H) (fun v H'=>(∀z∈os,Qd8 (ev A x) (ev A z))∧k v H')=onS (rop P (.st size x y) A H) _
 congr 1;funext v H'
 rw[QjZ,QtZ]
def Qu5 (x:Value) (H:Qa) (k:Value→Qa→Prop):Prop:=onS (match x with | .slice _ m _=>some (.int .i64 (m:Int),H) | _=>none) k
theorem Qt0 (x:Operand):pr P (.lenS x) false A H k=Qu5 (ev A x) H k:=QP _
theorem Qmb (a:Option Addr) (len cap:Nat):Qu5 (.slice a len cap) H k=k (.int .i64 (len:Int)) H:=Ql
def Qu6 (x:Value) (H:Qa) (k:Value→Qa→Prop):Prop:=onS (match x with | .string s=>some (.int .i64 ((bl s).length:Int),H) | _=>none) k
theorem Qt1 (x:Operand):pr P (.lenT x) false A H k=Qu6 (ev A x) H k:=QP _
theorem Qqp (s:ByteArray):Qu6 (.string s) H k=k (.int .i64 ((bl s).length:Int)) H:=Ql
def Qh1 (e size bytes:Nat) (s x:Value) (H:Qa) (k:Value→Qa→Prop):Prop:=onS (JL e size bytes s x H) k
theorem QvR (e size bytes:Nat) (x y:Operand):pr P (.app e size bytes x y) false A H k=Qh1 e size bytes (ev A x) (ev A y) H k:=QP _
def Qw2 (P:Program) (o:Op) (A:Env) (H:Qa) (k:Value→Qa→Prop):Prop:=onS (rop P (.gen o) A H) k
theorem QeQ (f:FuncId) (l:List Operand):pr P (.gen (.makeFunc (.func f) #[] l.toArray)) false A H k=k (.func (.func f) #[] (l.map (ev A)).toArray) H:=by
 have e:rop P (.gen (.makeFunc (.func f) #[] l.toArray)) A H=some (.func (.func f) #[] (l.map (ev A)).toArray,H):=by simp[rop,aop,Qd6,Vs]
 refine(QP _).trans ?_
 rw[e,Ql]
def Qw3 (v:Value) (H:Qa) (k:Value→Qa→Prop):Prop:=onS (bif Qb8 v then some (v,H) else none) k
theorem QvS (x:Operand):pr P (.gen (.nilCheck x)) false A H k=Qw3 (ev A x) H k:=by
 have e:rop P (.gen (.nilCheck x)) A H=(bif Qb8 (ev A x) then some (ev A x,H) else none):=by
  simp only[rop,aop,Qd5]
  cases Qb8 (ev A x)<;>rfl
 refine(QP _).trans ?_
 rw[e];rfl
theorem QrY (a:Addr):Qw3 (.pointer (some a)) H k=k (.pointer (some a)) H:=Ql
theorem Qgm (ty:TypeId):pr P (.gen (.makeMap ty none)) false A H k=k (.map (some H.next)) (H.push (.map [])):=by
 have e:rop P (.gen (.makeMap ty none)) A H=some (.map (some H.next),H.push (.map [])):=by simp[rop,aop]
 refine(QP _).trans ?_
 rw[e,Ql]
theorem Qqq {ty kt e:TypeId} {td:TypeDesc} {inf:TypeInfo} {z:Value} {x ix:Operand} {m:Nat} (h1:P.underlying ty=some (.map kt e)) (h2:P.underlying kt=some td) (h3:P.info? e=some inf) (h4:inf.zero=some z) (hz:YC z=true) (hx:ev A x=.map (some m)) (hk:Kw td (ev A ix)=true) (hm:H.get m=some (.map [])):
  pr P (.gen (.lookup ty x ix true)) false A H k=k (.tuple #[z,.bool false]) H:=by
 have e:rop P (.gen (.lookup ty x ix true)) A H=some (.tuple #[z,.bool false],H):=by simp[rop,aop,Qch,h1,QlX,h2,h3,h4,hz,hx,hk,hm,QeE]
 refine(QP _).trans ?_
 rw[e,Ql]
theorem QrZ {ty kt e:TypeId} {td:TypeDesc} {x ix y:Operand} {m:Nat} (h1:P.underlying ty=some (.map kt e)) (h2:P.underlying kt=some td) (hx:ev A x=.map (some m)) (hk:Kw td (ev A ix)=true) (hm:H.get m=some (.map [])):
  pr P (.gen (.mapUpdate ty x ix y)) false A H k=k undef (H.set m (.map [(ev A ix,ev A y)])):=by
 have e:rop P (.gen (.mapUpdate ty x ix y)) A H=some (undef,H.set m (.map [(ev A ix,ev A y)])):=by simp[rop,aop,Qgc,h1,Qkr,h2,hx,hk,hm,QeE]
 refine(QP _).trans ?_
 rw[e,Ql]
def QkI (n:Int):List (Value×Value)→Nat→Option (Option (Nat×Value))
 | [],_=>some none
 | (.int .i64 a,b)::l,i=>if n=a then some (some (i,b)) else QkI n l (i+1)
 | _,_=>none
theorem Qeb (n:Int):∀ (es:List (Value×Value)) (i:Nat) r,QkI n es i=some r→QeE (.int .i64) (.int .i64 n) es i=some r
 | [],i,r,h=>h
 | (a,b)::l,i,r,h=>by
  cases a with
  | int ik z=>
   cases ik with
   | i64=>
    have g:(if n=z then some (some (i,b)) else QkI n l (i+1))=some r:=h
    unfold QeE
    simp only[Kw,cond_true,Instr.sameNow,if_true]
    by_cases hn:n=z
    ·rw[if_pos hn]at g
     subst hn
     have hb:(n==n)=true:=by simp
     simp only[hb]
     exact g
    ·rw[if_neg hn]at g
     have:(n==z)=false:=by simp[hn]
     simp only[this]
     exact Qeb n _ _ r g
   | _=>exact absurd h (by simp[QkI])
  | _=>exact absurd h (by simp[QkI])
theorem QeR {ty kt e:TypeId} {x ix y:Operand} {m:Nat} {n:Int} {es:List (Value×Value)} (h1:P.underlying ty=some (.map kt e)) (h2:P.underlying kt=some (.int .i64)) (hx:ev A x=.map (some m)) (hk:ev A ix=.int .i64 n) (hm:H.get m=some (.map es)) (hp:QkI n es 0=some none):
  pr P (.gen (.insert ty x ix y)) false A H k=k undef (H.set m (.map (es++[(.int .i64 n,ev A y)]))):=by
 have hf:=Qeb n es 0 _ hp
 have e:rop P (.gen (.insert ty x ix y)) A H=some (undef,H.set m (.map (es++[(.int .i64 n,ev A y)]))):=by simp[rop,aop,Qgc,h1,Qkr,h2,hx,hk,hm,hf,Kw]
 refine(QP _).trans ?_
 rw[e,Ql]
def Qmc (z:Value):Option (Nat×Value)→Value
 | none=>.tuple #[z,.bool false]
 | some (_,v)=>.tuple #[v,.bool true]
theorem Qqr {ty kt e:TypeId} {inf:TypeInfo} {z:Value} {x ix:Operand} {m:Nat} {n:Int} {es:List (Value×Value)} {r:Option (Nat×Value)} (h1:P.underlying ty=some (.map kt e)) (h2:P.underlying kt=some (.int .i64)) (h3:P.info? e=some inf) (h4:inf.zero=some z) (hz:YC z=true) (hx:ev A x=.map (some m)) (hk:ev A ix=.int .i64 n) (hm:H.get m=some (.map es)) (hp:QkI n es 0=some r):
  pr P (.gen (.lookup ty x ix true)) false A H k=k (Qmc z r) H:=by
 have hf:=Qeb n es 0 _ hp
 have e:rop P (.gen (.lookup ty x ix true)) A H=some (Qmc z r,H):=by
  cases r<;>simp[Qmc,rop,aop,Qch,h1,QlX,h2,h3,h4,hz,hx,hk,hm,hf,Kw]
 refine(QP _).trans ?_
 rw[e,Ql]
theorem QvT (o:Op):pr P (.gen o) false A H k=Qw2 P o A H k:=QP _
end
theorem QkJ {e size bytes m len b o cap:Nat} {news c:List Value} {x:Value} {H:Qa} {ro:Bool} {e':TypeId} (hx:QbU size x H=some (m,news)) (h1:news.all (·.oneCell')=true) (hm:m≠0) (hb:H.get b=some (.cells c e' ro))
  (hlen:o+len * size≤c.length) (hsum:(len+m) * bytes≤140737488355328) (hmax:len+m≤9223372036854775807) (hcap:cap<UNK) (hfull:¬len+m≤cap):
  JL e size bytes (.slice (some ⟨b,o,none⟩) len cap) x H=some (.slice (some ⟨H.next,0,none⟩) (len+m) (UNK+size),H.push (.cells ((c.drop o).take (len * size)++news) e false)):=by
 simp only[JL,hx,h1,if_true,hm,if_false,hb]
 rw[if_pos ⟨hlen,hmax,hsum⟩,if_neg (by omega),if_neg hfull]
theorem Qmd {e size bytes m len b o cap:Nat} (h0:o=0) {news c:List Value} {x:Value} {H:Qa} (hx:QbU size x H=some (m,news)) (h1:news.all (·.oneCell')=true) (hm:m≠0) (hb:H.get b=some (.cells c e false))
  (hlen:o+len * size=c.length) (hsum:(len+m) * bytes≤140737488355328) (hmax:len+m≤9223372036854775807) (hcap:UNK≤cap):
  JL e size bytes (.slice (some ⟨b,o,none⟩) len cap) x H=some (.slice (some ⟨H.next,0,none⟩) (len+m) (UNK+size),(H.kill b).push (.cells (c.drop o++news) e false)):=by
 simp only[JL,hx,h1,if_true,hm,if_false,hb]
 rw[if_pos ⟨by omega,hmax,hsum⟩,if_pos hcap,if_pos ⟨trivial,trivial,h0,hlen⟩]
theorem Qme {e size bytes m:Nat} {news:List Value} {x:Value} {H:Qa} (hx:QbU size x H=some (m,news)) (h1:news.all (·.oneCell')=true) (hm:m≠0) (hsum:m * bytes≤140737488355328) (hmax:m≤9223372036854775807):
  JL e size bytes (.slice none 0 0) x H=some (.slice (some ⟨H.next,0,none⟩) m (UNK+size),H.push (.cells news e false)):=by
 simp only[JL,hx,h1,if_true,hm,if_false]
 rw[if_pos ⟨hmax,hsum⟩]
/-! ### Qvk of functions -/
def Ret (H0:Qa) (k:Value→Qa→Prop) (v:Value) (H:Qa):Prop:=∃H2,YN H2 H∧(H.Wf→H2.Wf)∧H0.next≤H2.next∧k v H2
theorem Ret.mk {H0 H:Qa} {k:Value→Qa→Prop} {v:Value} (hn:H0.next≤H.next) (h:k v H):Ret H0 k v H:=⟨H,.refl H,id,hn,h⟩
theorem Qa.Wf.up {H:Qa} (h:H.Wf) {m:Nat} (hm:H.next≤m):(H.up m).Wf:=fun id hid=>h id (Nat.le_trans hm hid)
theorem Ret.up {H0 H:Qa} {k:Value→Qa→Prop} {v:Value} (hw:H0.Wf) (hn:H0.next≤H.next) (hg:∀id,id<H0.next→H.get id=H0.get id) (h:k v (H0.up H.next)):Ret H0 k v H:=
 ⟨H0.up H.next,YN.up (Nat.le_refl _) (fun id b hb=>by rw[hg id (hw.lt hb)];exact hb),fun _=>hw.up hn,hn,h⟩
def Rt (P:Program) (fn:Func) (H0:Qa) (k:Value→Qa→Prop):Env→Qa→Prop:=QgL P fn fun v H'=>H0.next≤H'.next∧k v H'
section
variable {P:Program} {fn:Func} {H0:Qa} {k:Value→Qa→Prop} {A:Env} {H:Qa}
theorem Qxw (hr:fn.results=#[]):Rt P fn H0 k A H=Ret H0 k (.tuple #[]) H:=by
 simp[Rt,QgL,Ret,GI,hr]
theorem W1 {r:Nat} (hr:fn.results=#[.tmp r]) (hn:Nat.blt r fn.ntmps=true):Rt P fn H0 k A H=Ret H0 k (A r) H:=by
 have:r<fn.ntmps:=by simpa using hn
 simp[Rt,QgL,Ret,GI,hr,YP,this]
theorem Qr0 {r s:Nat} (hr:fn.results=#[.tmp r,.tmp s]) (hn:(Nat.blt r fn.ntmps&&Nat.blt s fn.ntmps)=true):Rt P fn H0 k A H=Ret H0 k (.tuple #[A r,A s]) H:=by
 have:r<fn.ntmps∧s<fn.ntmps:=by simpa using hn
 simp[Rt,QgL,Ret,GI,hr,YP,this]
theorem Qxx {r s u:Nat} (hr:fn.results=#[.tmp r,.tmp s,.tmp u]) (hn:(Nat.blt r fn.ntmps&&Nat.blt s fn.ntmps&&Nat.blt u fn.ntmps)=true):Rt P fn H0 k A H=Ret H0 k (.tuple #[A r,A s,A u]) H:=by
 have:(r<fn.ntmps∧s<fn.ntmps)∧u<fn.ntmps:=by simpa using hn
 simp[Rt,QgL,Ret,GI,hr,YP,this]
def ldR (agg:Bool) (size:Nat) (p:Value) (H:Qa) (k:Value→Prop):Prop:=match p with
 | .pointer (some a)=>(match H.get a.block with
  | some (.cells c _ _)=>bif agg then(a.off+size≤c.length∧k (.agg ((c.drop a.off).take size).toArray)) else ∃v,c[a.off]? = some v∧k v
  | _=>False)
 | _=>False
def QvU (agg:Bool) (size off:Nat) (b:Option Blk) (k:Value→Prop):Prop:=match b with
 | some (.cells c _ _)=>bif agg then(off+size≤c.length∧k (.agg ((c.drop off).take size).toArray)) else ∃v,c[off]? = some v∧k v
 | _=>False
theorem Qt2 (agg:Bool) (size b o:Nat) (k:Value→Prop):ldR agg size (.pointer (some ⟨b,o,none⟩)) H k=QvU agg size o (H.get b) k:=Eq.trans rfl rfl
theorem Qr1 (size o:Nat) (k:Value→Prop) (c:List Value) (e:TypeId) (ro:Bool):QvU true size o (some (.cells c e ro)) k=(o+size≤c.length∧k (.agg ((c.drop o).take size).toArray)):=Eq.trans rfl rfl
theorem Qqs (size o:Nat) (k:Value→Prop) (c:List Value) (e:TypeId) (ro:Bool):QvU false size o (some (.cells c e ro)) k=∃v,c[o]? = some v∧k v:=Eq.trans rfl rfl
def Qof (P:Program) (ty:TypeId) (p:Value) (H:Qa):Option Value:=match p with | .pointer (some ad)=>XA P ty ad H | _=>none
theorem Qec (n a:Nat) (ty:TypeId):YP P n A H (.cell a ty)=if a<n then Qof P ty (A a) H else none:=Eq.trans rfl rfl
theorem QfH {ty:TypeId} {d:TypeDesc} {inf:TypeInfo} {p:Value} {q:Value→Prop} (hd:P.underlying ty=some d) (hi:P.info? ty=some inf):
  (∃v,Qof P ty p H=some v∧q v)↔ldR (ZF d) inf.size p H q:=by
 unfold ldR Qof
 split
 ·rename_i a
  have e:XA P ty a H=match H.get a.block with
   | some (.cells c _ _)=>if ZF d then(if a.off+inf.size≤c.length then some (.agg ((c.drop a.off).take inf.size).toArray) else none) else c[a.off]?
   | _=>none:=by
   simp only[XA,hd,hi]
   cases H.get a.block with
   | none=>rfl
   | some b=>cases b<;>rfl
  rw[e]
  cases hg:H.get a.block with
  | none=>simp
  | some b=>
   cases b with
   | cells c e ro=>
    cases hag:ZF d with
    | true=>by_cases hle:a.off+inf.size≤c.length<;>simp[hle]
    | false=>simp
   | map es=>simp
   | iter s pos=>simp
   | miter a b c d=>simp
   | loop A n ps as bd st=>simp
 ·simp
def Qmf (P:Program) (ty:TypeId) (agg:Bool) (size:Nat):Bool:=match P.underlying ty,P.info? ty with
 | some d,some inf=>(ZF d==agg)&&Nat.beq inf.size size
 | _,_=>false
theorem Qed {ty:TypeId} {agg:Bool} {size:Nat} (h:Qmf P ty agg size=true):∃d inf,P.underlying ty=some d∧P.info? ty=some inf∧ZF d=agg∧inf.size=size:=by
 unfold Qmf at h
 split at h
 ·rename_i d inf hd hi
  simp only[Bool.and_eq_true,beq_iff_eq,XG,decide_eq_true_eq]at h
  exact⟨d,inf,hd,hi,h.1,h.2⟩
 ·cases h
theorem QvV {a ty size:Nat} {agg:Bool} (hr:fn.results=#[.cell a ty]) (hn:Nat.blt a fn.ntmps=true) (ht:Qmf P ty agg size=true):Rt P fn H0 k A H=ldR agg size (A a) H fun v=>Ret H0 k v H:=by
 have hn:a<fn.ntmps:=by simpa using hn
 obtain⟨d,inf,hd,hi,rfl,rfl⟩:=Qed ht
 apply propext
 rw[← QfH hd hi]
 simp only[Rt,QgL,Ret,GI,hr,Qec,hn,if_true]
theorem Qmg {a ty size:Nat} {agg:Bool} {r:Nat} (hr:fn.results=#[.cell a ty,.tmp r]) (hn:(Nat.blt a fn.ntmps&&Nat.blt r fn.ntmps)=true) (ht:Qmf P ty agg size=true):Rt P fn H0 k A H=ldR agg size (A a) H fun v=>Ret H0 k (.tuple #[v,A r]) H:=by
 have hn:a<fn.ntmps∧r<fn.ntmps:=by simpa using hn
 obtain⟨d,inf,hd,hi,rfl,rfl⟩:=Qed ht
 apply propext
 rw[← QfH hd hi]
 have e1:YP P fn.ntmps A H (.tmp r)=some (A r):=by simp[YP,hn.2]
 simp only[Rt,QgL,Ret,GI,hr,Qec,e1,hn.1,if_true,List.mapM_cons,List.mapM_nil,Option.pure_def,Option.bind_eq_bind,Option.bind_some]
 constructor
 ·rintro⟨v,hv,h⟩
  simp only[Option.map_eq_some_iff,Option.bind_eq_some_iff,Option.some.injEq]at hv
  obtain⟨l,⟨w,hw,rfl⟩,rfl⟩:=hv
  exact⟨w,hw,h⟩
 ·rintro⟨v,hv,h⟩
  refine⟨_,?_,h⟩
  simp[hv]
theorem Qh2 {a ty size:Nat} {agg:Bool} {r q:Nat} (hr:fn.results=#[.cell a ty,.tmp r,.tmp q]) (hn:(Nat.blt a fn.ntmps&&(Nat.blt r fn.ntmps&&Nat.blt q fn.ntmps))=true) (ht:Qmf P ty agg size=true):Rt P fn H0 k A H=ldR agg size (A a) H fun v=>Ret H0 k (.tuple #[v,A r,A q]) H:=by
 have hn:a<fn.ntmps∧r<fn.ntmps∧q<fn.ntmps:=by simpa using hn
 obtain⟨d,inf,hd,hi,rfl,rfl⟩:=Qed ht
 apply propext
 rw[← QfH hd hi]
 have e1:YP P fn.ntmps A H (.tmp r)=some (A r):=by simp[YP,hn.2.1]
 have e2:YP P fn.ntmps A H (.tmp q)=some (A q):=by simp[YP,hn.2.2]
 simp only[Rt,QgL,Ret,GI,hr,Qec,e1,e2,hn.1,if_true,List.mapM_cons,List.mapM_nil,Option.pure_def,Option.bind_eq_bind,Option.bind_some]
 constructor
 ·rintro⟨v,hv,h⟩
  simp only[Option.map_eq_some_iff,Option.bind_eq_some_iff,Option.some.injEq]at hv
  obtain⟨l,⟨w,hw,rfl⟩,rfl⟩:=hv
  exact⟨w,hw,h⟩
 ·rintro⟨v,hv,h⟩
  refine⟨_,?_,h⟩
  simp[hv]
end
theorem Qc7 {P:Program} {f:FuncId} {fn:Func} {pc:PC} {args:List Value} {H:Qa} {k:Value→Qa→Prop} {A:Env} (hf:P.funcs[f]? = some fn) (hc:fn.body.bind (comp P fn.ntmps)=some pc) (he:entered P f=true) (hl:Nat.ble args.length fn.ntmps=true) (hA:YD args=A)
  (h:H.Wf→Qm P pc ⟨Rt P fn H k,Gw⟩ (Rt P fn H k) A H):Qf P f args H k:=QhV hf hc he (by simpa using hl) (by rw[hA];exact h)
theorem Qh3 (l:List Value):(Value.agg l.toArray).cells.toList=l:=Eq.trans rfl rfl
theorem Qh4 (ik:IntKind) (n:Int):(Value.int ik n).cells.toList=[.int ik n]:=Eq.trans rfl rfl
theorem Qgn (b:Bool):(Value.bool b).cells.toList=[.bool b]:=Eq.trans rfl rfl
theorem QeS (a:Option Addr) (l c:Nat):(Value.slice a l c).cells.toList=[.slice a l c]:=Eq.trans rfl rfl
theorem QeT (ty:TypeId) (v:Value):(Value.iface ty v).cells.toList=[.iface ty v]:=Eq.trans rfl rfl
theorem Qgo (ik:IntKind) (n:Int):(Value.int ik n).oneCell'=true:=Eq.trans rfl rfl
theorem QeU (b:Bool):(Value.bool b).oneCell'=true:=Eq.trans rfl rfl
theorem Qdn (a:Option Addr) (l c:Nat):(Value.slice a l c).oneCell'=true:=Eq.trans rfl rfl
theorem Qdo (ty:TypeId) (v:Value):(Value.iface ty v).oneCell'=true:=Eq.trans rfl rfl
section
variable {P:Program}
theorem Qr {b:Bool} {r:R} {s:Bool} {l:List PO} {k:Env→Qa→Prop} {A:Env} {d:Option Nat} {H:Qa} (h1:b=true→gB true P r s l k A d H) (h2:b=false→gB false P r s l k A d H):gB b P r s l k A d H:=by
 cases b
 ·exact h2 rfl
 ·exact h1 rfl
theorem Qg {b:Bool} {x y:PC} {ks:Kp} {k:Env→Qa→Prop} {A:Env} {H:Qa} (h1:b=true→cB true P x y ks k A H) (h2:b=false→cB false P x y ks k A H):cB b P x y ks k A H:=by
 cases b
 ·exact h2 rfl
 ·exact h1 rfl
end
/-! ### Loops -/
section
variable {P:Program}
def Qr2 (I:Nat→Env→Qa→Prop) (m:Nat) (A:Env) (H:Qa):Prop:=∃m',m'<m∧I m' A H
theorem QX {b:PC} {ks:Kp} {k:Env→Qa→Prop} {A:Env} {H:Qa} (I:Nat→Env→Qa→Prop) (m:Nat) (h0:I m A H) (h:∀m A' H',I m A' H'→Qm P b ks (Qr2 I m) A' H'):Qm P (.loop b) ks k A H:=
 ⟨I,⟨m,h0⟩,h⟩
structure Ext (H H':Qa):Prop where
 next:H.next≤H'.next
 get:∀id,id<H.next→H'.get id=H.get id
theorem Ext.eqB {H H':Qa} (h:Ext H H'):EqB H H':=fun id hid=>h.get id hid
theorem Ext.refl (H:Qa):Ext H H:=⟨Nat.le_refl _,fun _ _=>Eq.trans rfl rfl⟩
theorem Ext.trans {a b c:Qa} (h:Ext a b) (h':Ext b c):Ext a c:=⟨Nat.le_trans h.next h'.next,fun id hid=>by rw[h'.get id (Nat.lt_of_lt_of_le hid h.next),h.get id hid]⟩
theorem Ext.push {H H':Qa} (h:Ext H H') (b:Blk):Ext H (H'.push b):=⟨Nat.le_trans h.next (by simp),fun id hid=>by
 have:=h.next
 rw[Qa.get_push,if_neg (by omega)];exact h.get id hid⟩
theorem Ext.up {H H':Qa} (h:Ext H H') {m:Nat} (hm:H'.next≤m):Ext H (H'.up m):=⟨Nat.le_trans h.next hm,fun id hid=>by rw[Qa.get_up];exact h.get id hid⟩
theorem Ext.set {H H':Qa} (h:Ext H H') {i:Nat} (hi:H.next≤i) (b:Blk):Ext H (H'.set i b):=⟨h.next,fun id hid=>by
 rw[Qa.get_set,if_neg (by omega)];exact h.get id hid⟩
theorem Ext.kill {H H':Qa} (h:Ext H H') {i:Nat} (hi:H.next≤i):Ext H (H'.kill i):=⟨h.next,fun id hid=>by
 rw[Qa.get_kill,if_neg (by omega)];exact h.get id hid⟩
theorem Ret.ext {H0 H:Qa} {k:Value→Qa→Prop} {v:Value} (hw:H0.Wf) (he:Ext H0 H) (h:k v (H0.up H.next)):Ret H0 k v H:=.up hw he.next he.get h
end
/-! ### Appending -/
theorem Qhl {size m b o cap:Nat} {c:List Value} {e:TypeId} {ro:Bool} {H:Qa} (hb:H.get b=some (.cells c e ro)) (hm:m≠0) (hc:o+m * size≤c.length):QbU size (.slice (some ⟨b,o,none⟩) m cap) H=some (m,(c.drop o).take (m * size)):=by
 simp only[QbU,hm,if_false,hb]
 rw[if_pos hc]
theorem Qh5 {e size bytes m len b o cap:Nat} (h0:o=0) {news c:List Value} {x:Value} {H:Qa} {k:Value→Qa→Prop} (hx:QbU size x H=some (m,news)) (h1:news.all (·.oneCell')=true) (hm:m≠0) (hb:H.get b=some (.cells c e false))
  (hlen:o+len * size=c.length) (hsum:(len+m) * bytes≤140737488355328) (hmax:len+m≤9223372036854775807) (hcap:UNK≤cap)
  (h:k (.slice (some ⟨H.next,0,none⟩) (len+m) (UNK+size)) ((H.kill b).push (.cells (c.drop o++news) e false))):Qh1 e size bytes (.slice (some ⟨b,o,none⟩) len cap) x H k:=by
 unfold Qh1
 rw[Qmd h0 hx h1 hm hb hlen hsum hmax hcap,Ql]
 exact h
theorem Qqt {e size bytes m len b o cap:Nat} {news c:List Value} {x:Value} {H:Qa} {ro:Bool} {e':TypeId} {k:Value→Qa→Prop} (hx:QbU size x H=some (m,news)) (h1:news.all (·.oneCell')=true) (hm:m≠0) (hb:H.get b=some (.cells c e' ro))
  (hlen:o+len * size≤c.length) (hsum:(len+m) * bytes≤140737488355328) (hmax:len+m≤9223372036854775807) (hcap:cap<UNK) (hfull:¬len+m≤cap)
  (h:k (.slice (some ⟨H.next,0,none⟩) (len+m) (UNK+size)) (H.push (.cells ((c.drop o).take (len * size)++news) e false))):Qh1 e size bytes (.slice (some ⟨b,o,none⟩) len cap) x H k:=by
 unfold Qh1
 rw[QkJ hx h1 hm hb hlen hsum hmax hcap hfull,Ql]
 exact h
theorem Qh6 {e size bytes m:Nat} {news:List Value} {x:Value} {H:Qa} {k:Value→Qa→Prop} (hx:QbU size x H=some (m,news)) (h1:news.all (·.oneCell')=true) (hm:m≠0) (hsum:m * bytes≤140737488355328) (hmax:m≤9223372036854775807)
  (h:k (.slice (some ⟨H.next,0,none⟩) m (UNK+size)) (H.push (.cells news e false))):Qh1 e size bytes (.slice none 0 0) x H k:=by
 unfold Qh1
 rw[Qme hx h1 hm hsum hmax,Ql]
 exact h
theorem Qf.thenW {P:Program} {f:FuncId} {args:List Value} {H:Qa} {k k':Value→Qa→Prop} (h:Qf P f args H k) (hk:∀v H',H.next≤H'.next→H'.Wf→k v H'→k' v H'):Qf P f args H k':=by
 intro hw
 obtain⟨v,H',h1,h2,h3,h4⟩:=h hw
 exact⟨v,H',h1,h2,h3,hk v H' h2 h3 h4⟩
theorem Qgp {H:Qa} {b:Blk} {m:Nat} (h:m=H.next):(H.push b).get m=some b:=by rw[Qa.get_push,if_pos h]
theorem Qgq {H:Qa} {b:Blk} {m:Nat} (h:¬m=H.next):(H.push b).get m=H.get m:=by rw[Qa.get_push,if_neg h]
theorem Qog {H:Qa} {b:Blk} {i m:Nat} (h:m=i):(H.set i b).get m=some b:=by rw[Qa.get_set,if_pos h]
theorem Qoh {H:Qa} {b:Blk} {i m:Nat} (h:¬m=i):(H.set i b).get m=H.get m:=by rw[Qa.get_set,if_neg h]
/-! ### Rules, together -/
abbrev sxA:=And.intro @QnZ (And.intro @Qgk (And.intro @Qn1 (And.intro @Qqa (And.intro @Qn0 (And.intro @Qqb (And.intro @GE (And.intro @Ql8 (And.intro @Qvx (And.intro @Qvy (And.intro @QrE (And.intro @QfG (And.intro @Qn2 (And.intro @Qts (And.intro @Qtt (And.intro @QrF (And.intro @QrC (And.intro @Qp9 (And.intro @QnY (And.intro @QnW (And.intro @QnX (And.intro @Qtr (And.intro @QrB (And.intro @Qtq (And.intro @QrA (And.intro @bt (And.intro @bf (And.intro @W0 (And.intro @Qpj (And.intro @QjX (And.intro @QjY (And.intro @QwU (And.intro @Ql7 (And.intro @Qp8 (And.intro @Qtp (And.intro @QwV (And.intro @Qtw (And.intro @Qn5 (And.intro @Qvz (And.intro @Qtx (And.intro @Qty (And.intro @Qtz (And.intro @QtA (And.intro @QvA (And.intro @QtB (And.intro @Qn6 (And.intro @QtC (And.intro @QtD (And.intro @QtE (And.intro @QtF (And.intro @QtG (And.intro @QtH (And.intro @QtI (And.intro @QtJ (And.intro @QtK (And.intro @QtL (And.intro @QtM (And.intro @QtN (And.intro @QrK (And.intro @QvC (And.intro @QtO (And.intro @QtP (And.intro @QvD (And.intro @QvE (And.intro @Qqh (And.intro @QrM (And.intro @Qn7 (And.intro @QtR (And.intro @QvG (And.intro @Qqi (And.intro @QrN (And.intro @QtS (And.intro @Qqj (And.intro @QtT (And.intro @Qn8 (And.intro @QvH (And.intro @QrO (And.intro @QvI (And.intro @QvJ (And.intro @QvK (And.intro @QvL (And.intro @QtU (And.intro @Qqk (And.intro @QrQ (And.intro @Qn9 (And.intro @QrR (And.intro @Qma (And.intro @Qql (And.intro @Qqm (And.intro @QkH (And.intro @Qqn (And.intro @QvM (And.intro @QrS (And.intro @QvN (And.intro @QtV (And.intro @Qqo (And.intro @QvO (And.intro @QrT (And.intro @Qob (And.intro @Qoc (And.intro @QwZ (And.intro @QrU (And.intro @QtW (And.intro @QrV (And.intro @QtX (And.intro @Qw1 (And.intro @QvQ (And.intro @QjZ (And.intro @QtY (And.intro @QrX (And.intro @Qoe (And.intro @QrW (And.intro @Qod (And.intro @Qt0 (And.intro @Qmb (And.intro @Qt1 (And.intro @Qqp (And.intro @QvR (And.intro @Qtv (And.intro @QrJ (And.intro @Qn3 (And.intro @QrI (And.intro @QvS (And.intro @QrY (And.intro @Qgm (And.intro @QeQ (And.intro @Qqe (And.intro @QrG (And.intro @Qqf (And.intro @QrH (And.intro @Qqc (And.intro @Qqd (And.intro @Qt2 (And.intro @Qr1 (@Qqs))))))))))))))))))))))))))))))))))))))))))))))))))))))))))))))))))))))))))))))))))))))))))))))))))))))))))))))))))))))))))))))))))))))
abbrev mxA:=And.intro @Qh3 (And.intro @Qh4 (And.intro @Qgn (And.intro @QeS (And.intro @QeT (And.intro @Qgo (And.intro @QeU (And.intro @Qdn (And.intro @Qdo (And.intro @QhZ (And.intro @Qh0 (And.intro @Qa.get_push (And.intro @Qa.next_push (And.intro @Qa.get_set (And.intro @Qa.next_set (And.intro @Qa.get_up (And.intro @Qa.next_up (And.intro @Nat.zero_add (And.intro @Nat.add_zero (And.intro @true_and (And.intro @and_true (And.intro @Nat.add_eq_left (And.intro @Nat.left_eq_add (And.intro @Nat.succ_ne_self (And.intro @Bool.and_self (And.intro @Nat.mul_one (And.intro @Nat.zero_mul (@Nat.one_mul)))))))))))))))))))))))))))
abbrev mxD:=And.intro @Qh3 (And.intro @Qh4 (And.intro @Qgn (And.intro @QeS (And.intro @QeT (And.intro @Qgo (And.intro @QeU (And.intro @Qdn (And.intro @Qdo (And.intro @QhZ (And.intro @Qh0 (And.intro @Qa.next_push (And.intro @Qa.next_set (And.intro @Qa.get_up (And.intro @Qa.next_up (And.intro @Nat.zero_add (And.intro @Nat.add_zero (And.intro @true_and (And.intro @and_true (And.intro @Nat.add_eq_left (And.intro @Nat.left_eq_add (And.intro @Nat.succ_ne_self (And.intro @Bool.and_self (And.intro @Nat.mul_one (And.intro @Nat.zero_mul (And.intro @Nat.one_mul (And.intro @Qgp (And.intro @Qgq (And.intro @Qog (@Qoh)))))))))))))))))))))))))))))
abbrev uxA:=And.intro @W0 (And.intro @Qpj (And.intro @QjX (And.intro @QjY (And.intro @QwU (@Ql7)))))
abbrev sxB:=And.intro @List.map_cons.{0,0} (And.intro @List.map_nil.{0,0} (And.intro @ne_eq.{1} (And.intro not_false_eq_true (And.intro not_true_eq_false (And.intro @cond_true.{1} (And.intro @cond_false.{1} (And.intro Bool.not_true (And.intro Bool.not_false @Bool.not_not))))))))
abbrev uxB:=And.intro @cond_true.{1} @cond_false.{1}
abbrev mxB:=And.intro @if_true.{1} (And.intro @if_false.{1} (And.intro @List.getElem?_cons_succ.{0} (And.intro @List.getElem?_cons_zero.{0} (And.intro @Option.some.injEq.{0} (And.intro @exists_eq_left'.{1} (And.intro @eq_self.{1} (And.intro @List.length_cons.{0} (And.intro @List.length_nil.{0} (And.intro @List.all_cons.{0} (And.intro @List.all_nil.{0} (And.intro @List.drop_zero.{0} (And.intro @List.drop_succ_cons.{0} (And.intro @List.take_succ_cons.{0} (And.intro @List.take_zero.{0} (And.intro @List.cons_append.{0} (And.intro @List.nil_append.{0} (And.intro @List.append_nil.{0} (And.intro @List.take_nil.{0} @List.drop_nil.{0}))))))))))))))))))
/-! ### The code's text, short -/
abbrev Ow (d:Nat) (r:R):PO:=⟨some d,r,none,false⟩
abbrev Om (d:Nat) (x:Operand):PO:=⟨some d,.mv x,none,false⟩
abbrev Ov (r:R):PO:=⟨none,r,none,false⟩
abbrev Og (d:Nat) (r:R) (a:Nat) (b:Bool):PO:=⟨some d,r,some (a,b),false⟩
abbrev On (d:Nat) (x:Operand) (a:Nat) (b:Bool):PO:=⟨some d,.mv x,some (a,b),false⟩
abbrev Ci (n:Int):Operand:=.const (.int .i64 n)
abbrev In0 (P:Program) (f:FuncId) (fn:Func) (pc:PC):Prop:=∀ {H:Qa} {k:Value→Qa→Prop},(H.Wf→Qm P pc ⟨Rt P fn H k,Gw⟩ (Rt P fn H k) (U) H)→Qf P f [] H k
theorem in0 {P:Program} {f:FuncId} {fn:Func} {pc:PC} (hf:P.funcs[f]? = some fn) (hc:fn.body.bind (comp P fn.ntmps)=some pc) (he:entered P f=true) (hl:Nat.ble 0 fn.ntmps=true):In0 P f fn pc:=fun h=>Qc7 hf hc he hl Qxq h
abbrev In1 (P:Program) (f:FuncId) (fn:Func) (pc:PC):Prop:=∀ {a0:Value} {H:Qa} {k:Value→Qa→Prop},(H.Wf→Qm P pc ⟨Rt P fn H k,Gw⟩ (Rt P fn H k) (upd U 0 a0) H)→Qf P f [a0] H k
theorem in1 {P:Program} {f:FuncId} {fn:Func} {pc:PC} (hf:P.funcs[f]? = some fn) (hc:fn.body.bind (comp P fn.ntmps)=some pc) (he:entered P f=true) (hl:Nat.ble 1 fn.ntmps=true):In1 P f fn pc:=fun h=>Qc7 hf hc he hl (Qxr _) h
abbrev In2 (P:Program) (f:FuncId) (fn:Func) (pc:PC):Prop:=∀ {a0 a1:Value} {H:Qa} {k:Value→Qa→Prop},(H.Wf→Qm P pc ⟨Rt P fn H k,Gw⟩ (Rt P fn H k) (upd (upd U 0 a0) 1 a1) H)→Qf P f [a0,a1] H k
theorem in2 {P:Program} {f:FuncId} {fn:Func} {pc:PC} (hf:P.funcs[f]? = some fn) (hc:fn.body.bind (comp P fn.ntmps)=some pc) (he:entered P f=true) (hl:Nat.ble 2 fn.ntmps=true):In2 P f fn pc:=fun h=>Qc7 hf hc he hl (Qxs _ _) h
abbrev In3 (P:Program) (f:FuncId) (fn:Func) (pc:PC):Prop:=∀ {a0 a1 a2:Value} {H:Qa} {k:Value→Qa→Prop},(H.Wf→Qm P pc ⟨Rt P fn H k,Gw⟩ (Rt P fn H k) (upd (upd (upd U 0 a0) 1 a1) 2 a2) H)→Qf P f [a0,a1,a2] H k
theorem in3 {P:Program} {f:FuncId} {fn:Func} {pc:PC} (hf:P.funcs[f]? = some fn) (hc:fn.body.bind (comp P fn.ntmps)=some pc) (he:entered P f=true) (hl:Nat.ble 3 fn.ntmps=true):In3 P f fn pc:=fun h=>Qc7 hf hc he hl (Qxt _ _ _) h
abbrev In4 (P:Program) (f:FuncId) (fn:Func) (pc:PC):Prop:=∀ {a0 a1 a2 a3:Value} {H:Qa} {k:Value→Qa→Prop},(H.Wf→Qm P pc ⟨Rt P fn H k,Gw⟩ (Rt P fn H k) (upd (upd (upd (upd U 0 a0) 1 a1) 2 a2) 3 a3) H)→Qf P f [a0,a1,a2,a3] H k
theorem in4 {P:Program} {f:FuncId} {fn:Func} {pc:PC} (hf:P.funcs[f]? = some fn) (hc:fn.body.bind (comp P fn.ntmps)=some pc) (he:entered P f=true) (hl:Nat.ble 4 fn.ntmps=true):In4 P f fn pc:=fun h=>Qc7 hf hc he hl (Qxu _ _ _ _) h
abbrev In5 (P:Program) (f:FuncId) (fn:Func) (pc:PC):Prop:=∀ {a0 a1 a2 a3 a4:Value} {H:Qa} {k:Value→Qa→Prop},(H.Wf→Qm P pc ⟨Rt P fn H k,Gw⟩ (Rt P fn H k) (upd (upd (upd (upd (upd U 0 a0) 1 a1) 2 a2) 3 a3) 4 a4) H)→Qf P f [a0,a1,a2,a3,a4] H k
theorem in5 {P:Program} {f:FuncId} {fn:Func} {pc:PC} (hf:P.funcs[f]? = some fn) (hc:fn.body.bind (comp P fn.ntmps)=some pc) (he:entered P f=true) (hl:Nat.ble 5 fn.ntmps=true):In5 P f fn pc:=fun h=>Qc7 hf hc he hl (Qxv _ _ _ _ _) h
end Go.Ab
namespace Go.Ab
open Go.RowKit
section
variable {P:Program} {ρ:Ren} {H:Qa} {w:World}
def QcH (H:Qa):Prop:=∀id b,H.get id=some b→b.ro=true
theorem Sim.addRo (hs:Sim P ρ H w) (hro:QcH H) {c:List Value} (e:TypeId) {a:Addr} (hlt:a.block<w.heap.size) (hc:∀ (j:Nat) v,c[j]? = some v→∃v',w.cell? (a.add j)=some v'∧V ρ v v'):
  Sim P (ext ρ H.next ⟨a,0,0⟩) (H.push (.cells c e true)) w:=by
 have hn:=hs.none_next
 have hsub:=QaR ⟨a,0,0⟩ hn
 refine⟨fun id j h=>?_,fun id bl j h h'=>?_,fun id1 id2 b1 b2 i1 i2 h1 h2 h3 h4 h5 h6=>?_,fun g hg=>?_⟩
 ·by_cases ee:id=H.next
  ·subst ee;simp
  ·rw[XH ρ _ ee]at h;have:=hs.dom _ _ h;simp;omega
 ·by_cases ee:id=H.next
  ·subst ee
   rw[Wb]at h';cases h'
   rw[Qa.get_push,if_pos rfl]at h;cases h
   exact⟨hlt,fun j v hj=>by obtain⟨v',x1,x2⟩:=hc j v hj;exact⟨v',x1,x2.mono hsub⟩⟩
  ·rw[XH ρ _ ee]at h';rw[Qa.get_push,if_neg ee]at h
   exact(hs.live id bl j h h').mono hsub rfl
 ·have:b1.ro=true:=by
   by_cases ee:id1=H.next
   ·subst ee;rw[Qa.get_push,if_pos rfl]at h1;cases h1;rfl
   ·rw[Qa.get_push,if_neg ee]at h1;exact hro _ _ h1
  rw[this]at h5;cases h5
 ·obtain⟨j,hj,ee⟩:=hs.glob g hg
  exact⟨j,hsub _ _ hj,ee⟩
theorem Sim.addDead (hs:Sim P ρ H w) (hw:H.Wf) (a:Addr):Sim P (ext ρ H.next ⟨a,0,0⟩) (H.up (H.next+1)) w:=by
 have hn:=hs.none_next
 have hsub:=QaR ⟨a,0,0⟩ hn
 refine⟨fun id j h=>?_,fun id bl j h h'=>?_,fun id1 id2 b1 b2 i1 i2 h1 h2 h3 h4 h5 h6=>?_,fun g hg=>?_⟩
 ·by_cases ee:id=H.next
  ·subst ee;simp
  ·rw[XH ρ _ ee]at h;have:=hs.dom _ _ h;simp;omega
 ·rw[Qa.get_up]at h
  have:=hw.lt h
  rw[XH ρ _ (by omega)]at h'
  exact(hs.live id bl j h h').mono hsub rfl
 ·rw[Qa.get_up]at h1 h2
  have:=hw.lt h1
  have:=hw.lt h2
  rw[XH ρ _ (by omega)]at h3 h4
  exact hs.sep id1 id2 b1 b2 i1 i2 h1 h2 h3 h4 h5 h6
 ·obtain⟨j,hj,ee⟩:=hs.glob g hg
  exact⟨j,hsub _ _ hj,ee⟩
theorem QcH.push (h:QcH H) (c:List Value) (e:TypeId):QcH (H.push (.cells c e true)):=fun id b hb=>by
 rw[Qa.get_push]at hb
 split at hb
 ·cases hb;rfl
 ·exact h id b hb
theorem QcH.up (h:QcH H) (m:Nat):QcH (H.up m):=fun id b hb=>h id b (by rw[Qa.get_up]at hb;exact hb)
theorem V.sliceIn {id len cap:Nat} {a:Addr} (hi:ρ id=some ⟨a,0,0⟩) (hl:len≤cap) (hc:cap<UNK):V ρ (.slice (some ⟨id,0,none⟩) len cap) (.slice (some a) len cap):=
 .slice id 0 len cap cap ⟨a,0,0⟩ a hi (.inl (by rw[show(⟨a,0,0⟩:XF).at_=a from rfl];unfold Addr.add;rw[if_pos rfl])) hl hc (fun h=>by omega) (fun _=>rfl)
theorem calls_of_callQ {f:FuncId} {args args':List Value} {X:Value→Qa→Prop} (h:Qf P f args H fun u H'=>u=.bool true∧X u H') (hw:H.Wf) (he:entered P f=true) (hs:Sim P ρ H w) (ha:VL ρ args args') (hro:QcH H):
  Calls P f args'.toArray w fun e w'=>e=.returned (.bool true)∧Below w.heap.size w w':=by
 obtain⟨v,H',hc,_,_,rfl,_⟩:=h hw
 exact Qjm (hc.does he) hs ha rfl hro
theorem Qqv {base:Nat} {a:Addr} {n:Nat} {cs:List Value} (h:w.cells? base a n=some cs):cs.length=n∧∀i,i<n→w.cell? (a.add i)=cs[i]? := by
 unfold World.cells? at h
 split at h
 ·have hl:=Qcc.mapM_length h
  refine⟨by simpa using hl,fun i hi=>?_⟩
  have key:∀ (l:List Nat) (cs:List Value),l.mapM (fun i=>w.cell? (a.add i))=some cs→∀ (j:Nat) x,l[j]? = some x→w.cell? (a.add x)=cs[j]? := by
   intro l
   induction l with
   | nil=>intro cs h j x hx;simp at hx
   | cons y l ih=>
    intro cs h j x hx
    simp only[List.mapM_cons,Option.bind_eq_bind,Option.bind_eq_some_iff,Option.pure_def,Option.some.injEq]at h
    obtain⟨v,hv,vs,hvs,rfl⟩:=h
    cases j with
    | zero=>simp at hx;subst hx;simpa using hv
    | succ j=>simpa using ih vs hvs j x (by simpa using hx)
  exact key _ _ h i i (by simp[hi])
 ·cases h
end
variable {P:Program}
theorem Qqw {f:FuncId} {args args2:List Value} {v:Value} {B H1 H:Qa} {τ:Nat→Nat} (hd:JZ P f args B (.ret v) H1) (hv:plain v=true) (hg:P.globals.size≤B.next) (hτ:∀g,g<P.globals.size→τ g=g)
  (hB:∀id b,B.get id=some b→∃c e c2 e2 ro,b=.cells c e true∧H.get (τ id)=some (.cells c2 e2 ro)∧c.length=c2.length∧∀ (j:Nat) x y,c[j]? = some x→c2[j]? = some y→Qbd τ B.next x y)
  (hl:args.length=args2.length) (ha:∀ (j:Nat) x y,args[j]? = some x→args2[j]? = some y→Qbd τ B.next x y):JZ P f args2 H (.ret v) H:=by
 intro ρ w args' hs hargs
 have hargs':VL (back ρ τ B.next) args args':=⟨by rw[hl];exact hargs.1,fun j x x' e e'=>by
  have hj:j<args2.length:=by have:=(List.getElem?_eq_some_iff.1 e).1;omega
  exact ha j x args2[j] e (List.getElem?_eq_getElem hj) ρ x' (hargs.2 j _ x' (List.getElem?_eq_getElem hj) e')⟩
 have hsim:Sim P (back ρ τ B.next) B w:=by
  refine⟨fun id j h=>(JB h).1,fun id b i hb hi=>?_,fun id1 id2 b1 b2 i1 i2 h1 h2 h3 h4 h5=>?_,fun g hgl=>?_⟩
  ·obtain⟨c,e,c2,e2,ro,rfl,hh,hc,hx⟩:=hB id b hb
   have hr:=hs.live _ _ i hh (JB hi).2
   refine⟨hr.lt,fun j u hj=>?_⟩
   have hj2:j<c2.length:=by have:=(List.getElem?_eq_some_iff.1 hj).1;omega
   obtain⟨u',h1,h2⟩:=hr.cellAt (List.getElem?_eq_getElem hj2)
   exact⟨u',h1,hx j u c2[j] hj (List.getElem?_eq_getElem hj2) ρ u' h2⟩
  ·obtain⟨c,e,c2,e2,ro,rfl,_⟩:=hB id1 b1 h1
   cases h5
  ·obtain⟨j,hj,e⟩:=hs.glob g hgl
   refine⟨j,?_,e⟩
   unfold back
   rw[if_pos (by omega),hτ g hgl];exact hj
 refine(hd _ w args' hsim hargs').mono ?_
 rintro e w' ⟨ρ',ho,hst,hs'⟩
 have hbel:=hst.below (fun id b h=>by obtain⟨c,e,c2,e2,ro,rfl,_⟩:=hB id b h;rfl)
 refine⟨ρ,?_,⟨.refl ρ,Nat.le_refl _,fun _ _ _ h=>h,fun _ _ b b' _ h hr h'=>(by rw[h]at h';cases h';exact hr),fun id i h h'=>(by rw[h']at h;cases h),hbel.os,hbel.tape,hbel.output,hbel.size,fun b hb _=>hbel.block b hb⟩,
  ⟨hs.dom,fun id b i h h'=>(hs.live id b i h h').mono (.refl ρ) (hbel.block _ (hs.live id b i h h').lt),hs.sep,hs.glob⟩⟩
 cases e with
 | returned v'=>
  have:v'=v:=V.plain_eq ho hv
  subst this
  exact .same _ hv
 | _=>exact ho.elim
def Qld (M n:Nat) (ρ:Ren) (inf:Nat→XF):Ren:=fun id=>if id<M then ρ id else if id<M+n then some (inf (id - M)) else none
def Pic (P:Program) (M:Nat) (H1:Qa) (v u:Value) (rs:List Row):Prop:=
 ∀ρ1 w v',Sim P ρ1 H1 w→V ρ1 v v'→∃ (src:Nat→Nat) (inf:Nat→XF),
  (∀k,k<rs.length→M≤src k∧∃i,ρ1 (src k)=some i∧(inf k).at_=i.at_)∧
  V (Qld M rs.length ρ1 inf) u v'∧∀k r,rs[k]? = some r→Wa P (Qld M rs.length ρ1 inf) (inf k) w (.cells r.c r.e true)
theorem QmK {P:Program} {f:FuncId} {args args2:List Value} {v u:Value} {B H1:Qa} {τ:Nat→Nat} (hd:JZ P f args B (.ret v) H1) (hg:P.globals.size≤B.next) (hτ:∀g,g<P.globals.size→τ g=g)
  {rs:List Row} (hp:Pic P B.next H1 v u rs) (hu:okD 6 u=true) (hrs:∀r∈rs,r.ro=true∧r.c.all (okD 6)=true) (H:Qa)
  (hB:∀id b,B.get id=some b→∃c e c2 e2 ro,b=.cells c e true∧H.get (τ id)=some (.cells c2 e2 ro)∧c.length=c2.length∧∀ (j:Nat) x y,c[j]? = some x→c2[j]? = some y→Qbd τ B.next x y)
  (ha:ZM (mtV (Jn τ B.next) 6) args2 args=true):
  JZ P f args2 H (.ret (shW (shM τ B.next H.next) 6 u)) (X0 (shM τ B.next H.next) rs H):=by
 intro ρ w args' hs hargs
 have hbk:=fun a b i=>Qij (ρ:=ρ) (τ:=τ) (n:=B.next) (a:=a) (b:=b) (i:=i)
 obtain⟨hal,hav⟩:=Qay ha
 have hargs':VL (back ρ τ B.next) args args':=⟨by rw[← hal];exact hargs.1,fun j x x' e e'=>by
  have hj:j<args2.length:=by have:=(List.getElem?_eq_some_iff.1 e).1;omega
  exact Qpn hbk 6 (hav j args2[j] x (List.getElem?_eq_getElem hj) e) (hargs.2 j _ x' (List.getElem?_eq_getElem hj) e')⟩
 have hnro:∀id b,B.get id=some b→b.ro=true:=fun id b h=>by obtain⟨c,e,c2,e2,ro,rfl,_⟩:=hB id b h;rfl
 have hsim:Sim P (back ρ τ B.next) B w:=by
  refine⟨fun id j h=>(JB h).1,fun id b i hb hi=>?_,fun id1 id2 b1 b2 i1 i2 h1 h2 h3 h4 h5=>?_,fun g hgl=>?_⟩
  ·obtain⟨c,e,c2,e2,ro,rfl,hh,hc,hx⟩:=hB id b hb
   have hr:=hs.live _ _ i hh (JB hi).2
   refine⟨hr.lt,fun j u hj=>?_⟩
   have hj2:j<c2.length:=by have:=(List.getElem?_eq_some_iff.1 hj).1;omega
   obtain⟨u',h1,h2⟩:=hr.cellAt (List.getElem?_eq_getElem hj2)
   exact⟨u',h1,hx j u c2[j] hj (List.getElem?_eq_getElem hj2) ρ u' h2⟩
  ·rw[hnro id1 b1 h1]at h5;cases h5
  ·obtain⟨j,hj,e⟩:=hs.glob g hgl
   refine⟨j,?_,e⟩
   unfold back
   rw[if_pos (by omega),hτ g hgl];exact hj
 refine(hd _ w args' hsim hargs').mono ?_
 rintro e w' ⟨ρ1,ho,hst,hs1⟩
 cases e with
 | returned v'=>
  have hsame:∀b,b<w.heap.size→w'.heap[b]? = w.heap[b]? := fun b hb=>hst.frame b hb (fun id i bl _ h2 h3=>by rw[hnro id bl h2]at h3;cases h3)
  have hnew:∀id i,ρ1 id=some i→B.next≤id→w.heap.size≤i.at_.block:=fun id i h hid=>by
   have hn:back ρ τ B.next id=none:=by unfold back;rw[if_neg (by omega)]
   rcases(hst.fresh id i h hn).2 with h | ⟨id0,i0,b0,_,_,h3,h4⟩
   ·exact h
   ·rw[hnro id0 b0 h3]at h4;cases h4
  obtain⟨src,inf,hsrc,hpv,hpr⟩:=hp ρ1 w' v' hs1 ho
  generalize hM:B.next=M at *
  have hsh:∀id,shM τ M H.next id=if id<M then τ id else H.next+(id - M):=fun id=>by
   unfold shM;rw[VN];by_cases h:id<M<;>simp[h]
  let ρc:Ren:=Qld M rs.length ρ1 inf
  let ρ':Ren:=fun id=>if id<H.next then ρ id else ρc (M+(id - H.next))
  have hmap:∀b i,ρc b=some i→ρ' (shM τ M H.next b)=some i:=fun b i h=>by
   rw[hsh]
   by_cases hb:b<M
   ·simp only[hb,if_true,ρ']
    simp only[ρc,Qld,hb,if_true]at h
    cases hk:back ρ τ M b with
    | none=>
     have:=(hst.fresh b i h hk).1
     omega
    | some i0=>
     have:=hst.mono b i0 hk
     rw[h]at this
     cases this
     have h2:=(JB hk).2
     rw[if_pos (hs.dom _ _ h2)]
     exact h2
   ·simp only[hb,if_false,ρ']
    rw[if_neg (by omega),show M+(H.next+(b - M) - H.next)=b by omega]
    exact h
  have hval:∀ {y z:Value},okD 6 y=true→V ρc y z→V ρ' (shW (shM τ M H.next) 6 y) z:=fun h2 h3=>Qu8 hmap 6 h3 h2
  have hsub:Sub ρ ρ':=fun id i h=>by
   simp only[ρ']
   rw[if_pos (hs.dom id i h)]
   exact h
  have hget:∀id,(X0 (shM τ M H.next) rs H).get id=if H.next≤id∧id<H.next+rs.length then(rs[id - H.next]?).map (Row.blkW (shM τ M H.next)) else H.get id:=fun id=>GF rs H id
  have hnext:(X0 (shM τ M H.next) rs H).next=H.next+rs.length:=G8 rs H
  have hhigh:∀id i,ρ' id=some i→H.next≤id→id - H.next<rs.length∧i=inf (id - H.next):=fun id i hi hid=>by
   simp only[ρ']at hi
   rw[if_neg (by omega)]at hi
   simp only[ρc,Qld]at hi
   rw[if_neg (by omega)]at hi
   by_cases hl:M+(id - H.next)<M+rs.length
   ·rw[if_pos hl,show M+(id - H.next) - M=id - H.next by omega]at hi
    cases hi
    exact⟨by omega,rfl⟩
   ·rw[if_neg hl]at hi;cases hi
  have hlow:∀id i,ρ' id=some i→id<H.next→ρ id=some i:=fun id i hi hid=>by
   simp only[ρ']at hi
   rwa [if_pos hid]at hi
  have hgl:∀id,id<H.next→(X0 (shM τ M H.next) rs H).get id=H.get id:=fun id hid=>by rw[hget,if_neg (by omega)]
  have hinf:∀k,k<rs.length→w.heap.size≤(inf k).at_.block:=fun k hk=>by
   obtain⟨h1,i,h2,h3⟩:=hsrc k hk
   rw[h3];exact hnew _ i h2 h1
  refine⟨ρ',?_,⟨hsub,by rw[hnext];omega,fun id i h h'=>?_,fun id i b b' h h1 h2 h3=>?_,fun id i h h'=>?_,hst.os,hst.tape,hst.output,hst.size,fun b hb _=>hsame b hb⟩,
   ⟨fun id i h=>?_,fun id b i hb hi=>?_,fun id1 id2 b1 b2 i1 i2 h1 h2 h3 h4 h5 h6=>?_,fun g hg=>?_⟩⟩
  ·exact hval hu hpv
  ·rw[hgl id (hs.dom id i h)];exact h'
  ·rw[hgl id (hs.dom id i h),h1]at h3;cases h3;exact h2
  ·have hid:H.next≤id:=by
    rcases Nat.lt_or_ge id H.next with hlt | hge
    ·rw[hlow id i h hlt]at h';cases h'
    ·exact hge
   obtain⟨hk,rfl⟩:=hhigh id i h hid
   exact⟨hid,.inl (hinf _ hk)⟩
  ·rw[hnext]
   rcases Nat.lt_or_ge id H.next with hlt | hge
   ·omega
   ·have:=(hhigh id i h hge).1
    omega
  ·rcases Nat.lt_or_ge id H.next with hlt | hge
   ·rw[hgl id hlt]at hb
    have hr:=hs.live id b i hb (hlow id i hi hlt)
    exact hr.mono hsub (hsame _ hr.lt)
   ·obtain⟨hk,rfl⟩:=hhigh id i hi hge
    have hrk:=List.getElem?_eq_getElem hk
    rw[hget,if_pos ⟨hge,by omega⟩,hrk]at hb
    cases hb
    obtain⟨ro1,ok1⟩:=hrs _ (List.getElem_mem hk)
    have hb1:=hpr _ _ hrk
    unfold Row.blkW
    rw[ro1]
    refine hb1.turn (by simp) fun j x y z hx hy hz=>?_
    simp only[List.getElem?_map,Option.map_eq_some_iff]at hy
    obtain⟨y0,hy0,rfl⟩:=hy
    rw[hx]at hy0
    cases hy0
    exact hval (List.all_eq_true.1 ok1 x (List.mem_of_getElem? hx)) hz
  ·have old:∀id b i,id<H.next→(X0 (shM τ M H.next) rs H).get id=some b→ρ' id=some i→i.at_.block<w.heap.size:=fun id b i hlt hb hi=>by
    rw[hgl id hlt]at hb
    exact(hs.live id b i hb (hlow id i hi hlt)).lt
   rcases Nat.lt_or_ge id1 H.next with l1 | l1
   ·rcases Nat.lt_or_ge id2 H.next with l2 | l2
    ·rw[hgl id1 l1]at h1;rw[hgl id2 l2]at h2
     exact hs.sep id1 id2 b1 b2 i1 i2 h1 h2 (hlow id1 i1 h3 l1) (hlow id2 i2 h4 l2) h5 h6
    ·have a1:=old id1 b1 i1 l1 h1 h3
     obtain⟨hk,rfl⟩:=hhigh id2 i2 h4 l2
     have a2:=hinf _ hk
     omega
   ·obtain⟨hk,rfl⟩:=hhigh id1 i1 h3 l1
    rw[hget,if_pos ⟨l1,by omega⟩,List.getElem?_eq_getElem hk]at h1
    cases h1
    have:=(hrs _ (List.getElem_mem hk)).1
    unfold Row.blkW Blk.ro at h5
    simp only[this]at h5
    cases h5
  ·obtain⟨j,hj,e⟩:=hs.glob g hg
   exact⟨j,hsub _ _ hj,e⟩
 | _=>exact ho.elim
end Go.Ab
