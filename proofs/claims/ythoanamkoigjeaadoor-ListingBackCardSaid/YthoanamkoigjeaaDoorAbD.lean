/- Code made of resolved operations, and what it does, as a proposition. -/
import Derived.Test.YthoanamkoigjeaaDoorAbC
import Derived.Test.YthoanamkoigjeaaDoorAbB
set_option linter.unusedVariables false
set_option linter.unusedSimpArgs false
noncomputable section
namespace Go.Ab
structure PO where
 d:Option Nat
 r:R
 g:Option (Nat×Bool)
 s:Bool
inductive PC where
 | skip
 | ops (l:List PO)
 | seq (a b:PC)
 | cond (c:Operand) (a b:PC)
 | block (id:Nat) (b:PC)
 | loop (b:PC)
 | exit (id:Nat)
 | ret
 | label (l:Nat)
 | goto (l:Nat)
 | scope (b:PC) (l:Nat) (r:PC)
 | bad
/-! ### Resolving code -/
def Qe3 (o:Oper):Bool:=match o.op with | .load .. => true | _=>false
def Qif (o:Oper):Bool:=match o.op with | .alloc .. | .box .. | .makeSlice .. | .buildSlice .. | .convert .. | .makeMap .. | .range .. => true | _=>false
def GA (o:Oper):Bool:=match o.op with | .call ⟨.value _,_,_⟩=>true | _=>false
def Qec (ops:Array Oper) (i:Nat):Bool:=match ops[i]? with | some o=>Qe3 o | none=>false
def QbW (ops:Array Oper) (i:Nat):Bool:=match ops[i]? with | some o=>Qif o | none=>false
def J9 (ops:Array Oper) (i:Nat):Bool:=match ops[i]? with | some o=>GA o | none=>false
def Q3 (ops:Array Oper) (ms:List Nat) (k:Nat):Bool:=
 (Wb ops k&&(List.range ops.size).any fun i=>(Qec ops i&&!(Ql ms i k)&&!(Ql ms k i))||(QbW ops i&&Nat.blt i k&&!(Ql ms i k))) ||
 (Qec ops k&&(List.range ops.size).any fun i=>Wb ops i&&!(Ql ms i k)&&!(Ql ms k i))
def Qig (o:Oper):Bool:=match o.op with | .store .. => true | _=>false
def Qih (ops:Array Oper) (i:Nat):Bool:=match ops[i]? with | some o=>Qig o | none=>false
def Qed (ms:List Nat) (i k:Nat):Bool:=!(Ql ms i k)&&!(Ql ms k i)
def Qee (ops:Array Oper) (i:Nat):Option Nat:=match ops[i]? with | some o=>(match o.op with | .load _ (.tmp t)=>some t | _=>none) | none=>none
def Qef (ops:Array Oper) (ms:List Nat) (k:Nat):List Operand:=(List.range k).filterMap fun i=>bif Qec ops i&&Qed ms i k then(Qee ops i).map .tmp else none
def QnY (ops:Array Oper) (ms:List Nat) (i k:Nat):Bool:=
 Nat.blt i k&&(Qee ops i).isSome&&(List.range k).all fun j=>Nat.blt j i||((match ops[j]? with | some o=>!(o.dst==Qee ops i) | none=>true)&&(!(Wb ops j)||(J9 ops j&&Q3 ops ms j)||(Qih ops j&&Q3 ops ms j&&Qed ms i j)))
def Qeg (o:Oper):Bool:=match o.op with | .call ⟨.value (.func _),_,_⟩=>true | _=>false
def QnD (ops:Array Oper) (i:Nat):Bool:=match ops[i]? with | some o=>Qeg o | none=>false
def Qeh (o:Oper):Option Nat:=match o.op with
 | .fieldAddr _ (.tmp b) _=>some b
 | .indexAddr _ (.tmp b) _=>some b
 | .move (.tmp b)=>some b
 | .assign (.tmp b)=>some b
 | _=>none
def QnE (o:Oper) (cur:Nat):Option Nat:=bif o.dst==some cur then Qeh o else some cur
def Qgn (ops:Array Oper) (k:Nat):Nat→Nat→Option Nat
 | 0,cur=>some cur
 | d+1,cur=>match ops[k+d]? with
  | some o=>(match QnE o cur with | some c=>Qgn ops k d c | none=>none)
  | none=>none
def Qii (ops:Array Oper) (k i:Nat):Option Nat:=match Qee ops i with
 | none=>none
 | some t=>Qgn ops k (i - k) t
def Qct (ops:Array Oper) (ms:List Nat) (k:Nat):List Operand:=(List.range ops.size).filterMap fun i=>bif Nat.blt k i&&(Qec ops i&&Qed ms i k) then(Qii ops k i).map .tmp else none
def quiet (ops:Array Oper) (ms:List Nat) (i k:Nat):Bool:=
 (Nat.blt i k&&(List.range k).all fun j=>Nat.ble j i||(!(Wb ops j)||(Q3 ops ms j&&J9 ops j))) ||
 (Nat.blt k i&&QnD ops k&&(Qii ops k i).isSome&&(List.range i).all fun j=>Nat.blt j k||(!(Wb ops j)||(Q3 ops ms j&&J9 ops j)))
def Qjj (ops:Array Oper) (ms:List Nat):Bool:=
 (List.range ops.size).all fun k=>!(Wb ops k)||!(Q3 ops ms k)||(J9 ops k&&(List.range ops.size).all fun i=>!(Qec ops i)||Ql ms i k||Ql ms k i||quiet ops ms i k) ||
  (Qih ops k&&(List.range ops.size).all fun i=>(!(Qec ops i)||Ql ms i k||Ql ms k i||QnY ops ms i k)&&(!(QbW ops i)||!(Nat.blt i k)||Ql ms i k))
def Qap (P:Program) (ops:Array Oper) (i:Nat) (o:Oper):R:=
 match o.op with
 | .store t x y=>match P.info? t with | some inf=>.stf inf.size x y (Qef ops (Qq ops.toList []) i) | none=>QV P o.op
 | .call ⟨.value (.func f),args,_⟩=>.callF f args.toList (Qct ops (Qq ops.toList []) i)
 | _=>QV P o.op
def QbX (P:Program) (ops:Array Oper) (f:Bool) (i:Nat) (o:Oper):R:=bif f then Qap P ops i o else QV P o.op
def Qij (n:Nat) (ops:Array Oper) (o:Oper):Option (Option (Nat×Bool)):=
 match o.guard with
 | none=>some none
 | some (j,want)=>match KH ops j with
  | some t=>if t<n then some (some (t,want)) else none
  | none=>none
def JP (P:Program) (n:Nat) (ops:Array Oper) (fl:Nat→Bool):List Oper→Nat→Option (List PO)
 | [],_=>some []
 | o::l,i=>if Vz P n o then
   match Qij n ops o,JP P n ops fl l (i+1) with
   | some g,some pl=>some (⟨o.dst,QbX P ops (fl i) i o,g,fl i⟩::pl)
   | _,_=>none
  else none
def Qaq (P:Program) (op:Op):Bool:=match op with
 | .convert src _ _=>(match P.underlying src with | some (.slice _) | some (.pointer _) | some .unsafePointer=>true | _=>false)
 | .range t _=>(match P.underlying t with | some (.map _ _)=>true | _=>false)
 | _=>false
def J0:Nat:=1000000
def sq:PC→PC→PC
 | .skip,y=>y
 | x,.skip=>x
 | x,y=>.seq x y
def Zy:PC→Nat→Option PC
 | .seq a b,l=>match Zy a l with
  | some r=>some (sq r b)
  | none=>Zy b l
 | .label l',l=>bif Nat.beq l' l then some .skip else none
 | _,_=>none
def ZO:PC→List Nat
 | .seq a b=>ZO a++ZO b
 | .label l=>[l]
 | _=>[]
def Qgo (b:PC):PC:=
 match ZO b with
 | []=>b
 | [l]=>match Zy b l with
  | some r=>.scope b l r
  | none=>.bad
 | _=>.bad
def comp (P:Program) (n:Nat):Code→Option PC
 | .skip=>some .skip
 | .label l=>some (.label l)
 | .ret=>some .ret
 | .exit id=>some (bif Nat.blt id J0 then .exit id else .bad)
 | .goto l=>some (.goto l)
 | .region _ ops false=>some (match JP P n ops (fun _=>false) ops.toList 0 with | some l=>.ops l | none=>.bad)
 | .region _ ops true=>some (if P.follows .mixedOrders&&GV ops (Wb ops)&&Qjj ops (Qq ops.toList [])&&ops.all (fun o=>!(Qaq P o.op)) then(match JP P n ops (Q3 ops (Qq ops.toList [])) ops.toList 0 with | some l=>.ops l | none=>.bad) else .bad)
 | .seq a b=>match comp P n a,comp P n b with
  | some x,some y=>some (sq x y)
  | _,_=>none
 | .cond c a b=>if G9 P n c then(match comp P n a,comp P n b with | some x,some y=>some (.cond c x y) | _,_=>none) else none
 | .block id b=>(comp P n b).map fun x=>bif Nat.blt id J0 then .block id x else .bad
 | .loop b=>(comp P n b).map .loop
 | .scope b=>(comp P n b).map Qgo
 | _=>some .bad
/-! ### What it does -/
structure Kp where
 ret:Env→Qa→Prop
 ext:Nat→Env→Qa→Prop
def onS (o:Option (Value×Qa)) (k:Value→Qa→Prop):Prop:=∃v H',o=some (v,H')∧k v H'
def Qa.Wf (H:Qa):Prop:=∀id,H.next≤id→H.get id=none
theorem Qa.Wf.lt {H:Qa} (h:H.Wf) {id:Nat} {b:Blk} (hg:H.get id=some b):id<H.next:=by
 rcases Nat.lt_or_ge id H.next with h1 | h1
 ·exact h1
 ·rw[h id h1]at hg;cases hg
theorem Qa.Wf.push {H:Qa} (h:H.Wf) (b:Blk):(H.push b).Wf:=fun id hid=>by
 simp only[Qa.next_push]at hid
 rw[Qa.get_push,if_neg (by omega)];exact h id (by omega)
theorem Qa.Wf.set {H:Qa} (h:H.Wf) {i:Nat} {b0:Blk} (hg:H.get i=some b0) (b:Blk):(H.set i b).Wf:=fun id hid=>by
 have:=h.lt hg
 simp only[Qa.next_set]at hid
 rw[Qa.get_set,if_neg (by omega)];exact h id hid
theorem Qa.Wf.kill {H:Qa} (h:H.Wf) (i:Nat):(H.kill i).Wf:=fun id hid=>by
 simp only[Qa.next_kill]at hid
 rw[Qa.get_kill]
 split
 ·rfl
 ·exact h id hid
def Qf (P:Program) (f:FuncId) (args:List Value) (H:Qa) (k:Value→Qa→Prop):Prop:=H.Wf→∃v H',ZM P f args H v H'∧H.next≤H'.next∧H'.Wf∧k v H'
def Qbs:Value→Value→Prop
 | .pointer (some a),.pointer (some b)=>b.block≠a.block
 | _,_=>True
def Qhf (n:Nat):Value→Prop
 | .pointer (some a)=>a.block<n
 | .slice (some a) _ _=>a.block<n
 | _=>False
def EqB (H H':Qa):Prop:=∀id,id<H.next→H'.get id=H.get id
def pr (P:Program) (r:R) (s:Bool) (A:Env) (H:Qa) (k:Value→Qa→Prop):Prop:=
 match r with
 | .call f args=>Qf P f (args.map (ev A)) H fun v H'=>(s=true→∀id,H'.get id=H.get id)∧k v H'
 | .callv c args=>match ev A c with
  | .func (.func f) xs ys=>Qf P f (xs.toList++args.map (ev A)++ys.toList) H fun v H'=>(s=true→∀id,H'.get id=H.get id)∧k v H'
  | _=>False
 | .callF f args os=>(∀z∈os,Qhf H.next (ev A z))∧Qf P f (args.map (ev A)) H fun v H'=>EqB H H'∧k v H'
 | .stf size x y os=>onS (rop P (.stf size x y os) A H) fun v H'=>(∀z∈os,Qbs (ev A x) (ev A z))∧k v H'
 | r=>onS (rop P r A H) fun v H'=>(s=true→QH H.next 6 v=true)∧k v H'
def pg (g:Option (Nat×Bool)) (A:Env) (yes no:Prop):Prop:=
 match g with
 | none=>yes
 | some (t,w)=>match A t with
  | .bool b=>if b=w then yes else no
  | .tuple _=>no
  | _=>False
def Ka (P:Program):List PO→(Env→Qa→Prop)→Env→Qa→Prop
 | [],k,A,H=>k A H
 | o::l,k,A,H=>pg o.g A (pr P o.r o.s A H fun v H'=>Ka P l k (Yp A o.d v) H') (Ka P l k (Yp A o.d undef) H)
def jmK (l:Nat) (I:Nat→Env→Qa→Prop) (m:Nat) (e:Nat→Env→Qa→Prop) (j:Nat) (A:Env) (H:Qa):Prop:=if j=J0+l then ∃m',m'<m∧I m' A H else e j A H
def Qw (P:Program):PC→Kp→(Env→Qa→Prop)→Env→Qa→Prop
 | .skip,_,k,A,H=>k A H
 | .ops l,_,k,A,H=>Ka P l k A H
 | .seq a b,ks,k,A,H=>Qw P a ks (Qw P b ks k) A H
 | .cond c a b,ks,k,A,H=>match ev A c with
  | .bool t=>(t=true→Qw P a ks k A H)∧(t=false→Qw P b ks k A H)
  | _=>False
 | .block id b,ks,k,A,H=>Qw P b ⟨ks.ret,fun j=>if j=id then k else ks.ext j⟩ k A H
 | .loop b,ks,k,A,H=>∃I:Nat→Env→Qa→Prop,(∃m,I m A H)∧∀m A' H',I m A' H'→Qw P b ks (fun A'' H''=>∃m',m'<m∧I m' A'' H'') A' H'
 | .exit id,ks,_,A,H=>ks.ext id A H
 | .ret,ks,_,A,H=>ks.ret A H
 | .label _,_,k,A,H=>k A H
 | .goto l,ks,_,A,H=>ks.ext (J0+l) A H
 | .scope b l r,ks,k,A,H=>∃I:Nat→Env→Qa→Prop,(∃m,Qw P b ⟨ks.ret,jmK l I m ks.ext⟩ k A H)∧∀m A' H',I m A' H'→Qw P r ⟨ks.ret,jmK l I m ks.ext⟩ k A' H'
 | .bad,_,_,_,_=>False
/-! ### Soundness -/
section
variable {P:Program} {n:Nat}
theorem Qj3:JO P Zh:=⟨fun f args H v H' h=>(by cases h),fun f args H v H' h=>(by cases h),fun f args H v H' h=>(by cases h)⟩
theorem Qj4 {H H':Qa} {r:Option Value} {c:Cls} {v:Value} (h:WE H r=some (c,v,H')):c=.pure∧H'=H:=by
 obtain⟨_,h1,h2⟩:=WF h;exact⟨h1,h2⟩
theorem Wd {α:Type} {b:Bool} {x:Option α} {y:α} (h:(bif b then x else none)=some y):x=some y:=by cases b<;>simp_all
theorem QbY {e:TypeId} {inf:TypeInfo} {s x:Value} {H H':Qa} {v:Value} (h:QaO e inf s x H=some (v,H')):H.next≤H'.next∧(H.Wf→H'.Wf):=by
  unfold QaO at h
  repeat' (split at h)
  all_goals first
    | (cases h;done)
    | (simp only[Option.some.injEq,Prod.mk.injEq]at h;obtain⟨_,rfl⟩:=h;refine⟨by simp,fun hw=>?_⟩
       first
         | exact hw
         | exact hw.push _
         | exact(hw.kill _).push _
         | exact hw.set (by assumption) _)
theorem QaT {k:TypeId} {m ix v:Value} {H H':Qa} (h:Qh7 P k m ix v H=some H'):H.next≤H'.next∧(H.Wf→H'.Wf):=by
 unfold Qh7 at h
 split at h
 ·split at h
  ·rename_i hg
   have h:=Wd h
   split at h
   ·cases h;exact⟨by simp,fun hw=>hw.set hg _⟩
   ·cases h;exact⟨by simp,fun hw=>hw.set hg _⟩
   ·cases h
  ·cases h
 ·cases h
structure Syn (P:Program) (o:Oper) (H H':Qa) (c:Cls):Prop where
 gen:WD c=true→QnX o=true∨Qaq P o.op=true
 load:c=.load→Qe3 o=true
 alloc:∀b,c=.alloc b→Qif o=true
 next:H.next≤H'.next
 wf:H.Wf→H'.Wf
theorem Qmx {o:Oper} {A:Env} {H H':Qa} {c:Cls} {v:Value} (h:aop P Zh o A H=some (c,v,H')):Syn P o H H' c:=by
  obtain⟨dst,op,ty,pos,af,g⟩:=o
  have hs:∀ {u:Value},some (Cls.pure,u,H)=some (c,v,H')→Syn P ⟨dst,op,ty,pos,af,g⟩ H H' c:=fun h=>by
    simp only[Option.some.injEq,Prod.mk.injEq]at h
    obtain⟨rfl,_,rfl⟩:=h
    exact⟨fun h=>(by cases h),fun h=>(by cases h),fun b h=>(by cases h),Nat.le_refl _,id⟩
  have hp:∀ {r:Option Value},WE H r=some (c,v,H')→Syn P ⟨dst,op,ty,pos,af,g⟩ H H' c:=fun {r} h=>by
    obtain⟨rfl,rfl⟩:=Qj4 h
    exact⟨fun h=>(by cases h),fun h=>(by cases h),fun b h=>(by cases h),Nat.le_refl _,id⟩
  have ha:∀ {b:Blk} {u:Value},Qif ⟨dst,op,ty,pos,af,g⟩=true→some (Cls.alloc b,u,H.push b)=some (c,v,H')→Syn P ⟨dst,op,ty,pos,af,g⟩ H H' c:=fun hl h=>by
    simp only[Option.some.injEq,Prod.mk.injEq]at h
    obtain⟨rfl,_,rfl⟩:=h
    exact⟨fun h=>(by cases h),fun h=>(by cases h),fun b _=>hl,by simp,fun hw=>hw.push _⟩
  unfold aop at h
  split at h
  case h_1 hop=>exact hs h
  case h_2 hop=>exact hs h
  case h_3 hop=>
    unfold Qgj at h
    split at h
    · exact hs h
    · cases h
  case h_4 hop=>exact hs (Wd h)
  case h_5 hop=>exact hp h
  case h_6 hop=>exact hp h
  case h_7 hop=>
    unfold JD at h
    simp only at hop
    split at h
    · split at h
      · split at h
        · exact ha (by subst hop;rfl) (Wd h)
        · cases h
      · cases h
    · rename_i hu hd ex
      split at h
      · split at h
        · simp only[Option.some.injEq,Prod.mk.injEq]at h;obtain⟨rfl,_,rfl⟩:=h
          exact⟨fun _=>.inr (by subst hop;simp only[Qaq,hu]),fun h=>(by cases h),fun b h=>(by cases h),Nat.le_refl _,id⟩
        · cases h
      · cases h
    · rename_i hu hd ex
      split at h
      · split at h
        · simp only[Option.some.injEq,Prod.mk.injEq]at h;obtain⟨rfl,_,rfl⟩:=h
          exact⟨fun _=>.inr (by subst hop;simp only[Qaq,hu]),fun h=>(by cases h),fun b h=>(by cases h),Nat.le_refl _,id⟩
        · cases h
      · cases h
    · rename_i hu hd ex
      split at h
      · split at h
        · simp only[Option.some.injEq,Prod.mk.injEq]at h;obtain⟨rfl,_,rfl⟩:=h
          exact⟨fun _=>.inr (by subst hop;simp only[Qaq,hu]),fun h=>(by cases h),fun b h=>(by cases h),Nat.le_refl _,id⟩
        · cases h
      · cases h
    · exact hp h
  case h_8 hop=>
    unfold Zb at h
    split at h
    · cases h
    · exact hs h
    · cases h
  case h_9 hop=>exact hs (Wd h)
  case h_10 hop=>
    unfold QdD at h
    repeat' (split at h)
    all_goals first | exact hp h | cases h
  case h_11 hop=>
    unfold Zx at h
    repeat' (split at h)
    all_goals first
      | (cases h;done)
      | (revert h;cases hz:Nat.beq _ 0<;>intro h<;>first | exact hs h | cases h)
  case h_12 hop=>
    unfold Ys at h
    repeat' (split at h)
    all_goals first | exact hs h | cases h
  case h_13 hop=>
    unfold QdE at h
    repeat' (split at h)
    all_goals first | exact hs h | exact hp h | cases h
  case h_14 hop=>
    unfold QaP at h
    split at h
    · exact hp h
    · cases h
  case h_15 hop=>exact hp h
  case h_16 hop=>
    unfold QdF at h
    repeat' (split at h)
    all_goals first | (cases h;done) | exact hp (Wd h)
  case h_17 hop=>
    simp only at hop
    unfold Kz at h
    split at h
    · split at h
      · split at h
        · have h:=Wd h
          split at h
          · exact ha (by subst hop;rfl) h
          · cases h
        · cases h
      · cases h
    · cases h
  case h_18 hop=>
    simp only at hop
    unfold QdG at h
    split at h
    · split at h
      · exact ha (by subst hop;rfl) (Wd h)
      · cases h
    · cases h
  case h_19 hop=>simp only at hop;unfold Qk3 at h;exact ha (by subst hop;rfl) h
  case h_20 hop=>
    simp only at hop
    unfold Gy at h
    repeat' (split at h)
    all_goals first | (cases h;done) | exact ha (by subst hop;rfl) h
  case h_21 hop=>
    unfold QaQ at h
    repeat' (split at h)
    all_goals first | exact hs h | exact hp h | cases h
  case h_22 hop=>
    simp only at hop
    unfold Qd9 at h
    repeat' (split at h)
    all_goals first
      | (cases h;done)
      | (simp only[Option.some.injEq,Prod.mk.injEq]at h
         obtain⟨rfl,_,rfl⟩:=h
         exact⟨fun h=>(by cases h),fun _=>(by subst hop;rfl),fun b h=>(by cases h),Nat.le_refl _,id⟩)
  case h_23 hop=>
    simp only at hop
    unfold QbS at h
    split at h
    · split at h
      · rename_i H1 hst
        simp only[Option.some.injEq,Prod.mk.injEq]at h
        obtain⟨rfl,_,rfl⟩:=h
        have hst2:H.next≤H1.next∧(H.Wf→H1.Wf):=by
          unfold Qbk at hst
          split at hst
          · rename_i hg
            split at hst
            · cases hst;exact⟨by simp,fun hw=>hw.set hg _⟩
            · cases hst
          · cases hst
        exact⟨fun _=>.inl (by subst hop;rfl),fun h=>(by cases h),fun b h=>(by cases h),hst2.1,hst2.2⟩
      · cases h
    · cases h
  case h_24 cl hop=>
    simp only at hop
    unfold GW at h
    split at h
    · split at h
      · split at h
        · exact hs h
        · cases h
      · split at h
        · exact hs (Wd h)
        · cases h
      · split at h
        · split at h
          · exact hs h
          · cases h
        · cases h
      · split at h
        · split at h
          · exact hs h
          · cases h
        · cases h
      · split at h
        · split at h
          · split at h
            · have h:=Wd h
              simp only[Option.map_eq_some_iff,Prod.mk.injEq]at h
              obtain⟨⟨u,H1⟩,h1,rfl,rfl,rfl⟩:=h
              exact⟨fun _=>.inl (by subst hop;rfl),fun h=>(by cases h),fun b h=>(by cases h),(QbY h1).1,(QbY h1).2⟩
            · cases h
          · cases h
        · cases h
      · split at h
        · split at h
          · simp only[Option.map_eq_some_iff,Prod.mk.injEq]at h
            obtain⟨⟨u,H1⟩,h1,rfl,rfl,rfl⟩:=h
            have hn:H.next≤H1.next∧(H.Wf→H1.Wf):=by
              unfold Qjg at h1
              repeat' (split at h1)
              all_goals first
                | (cases h1;done)
                | (simp only[Option.some.injEq,Prod.mk.injEq]at h1;obtain⟨_,rfl⟩:=h1;exact⟨by simp,fun hw=>by first | exact hw | exact hw.set (by assumption) _⟩)
            exact⟨fun _=>.inl (by subst hop;rfl),fun h=>(by cases h),fun b h=>(by cases h),hn.1,hn.2⟩
          · cases h
        · cases h
      · split at h
        · exact hs h
        · split at h
          · exact hs h
          · cases h
        · cases h
      · split at h
        · simp only[Option.some.injEq,Prod.mk.injEq]at h;obtain⟨rfl,_,rfl⟩:=h
          exact⟨fun _=>.inl (by subst hop;rfl),fun h=>(by cases h),fun b h=>(by cases h),Nat.le_refl _,id⟩
        · split at h
          · rename_i hg
            split at h
            · split at h
              · simp only[Option.some.injEq,Prod.mk.injEq]at h;obtain⟨rfl,_,rfl⟩:=h
                exact⟨fun _=>.inl (by subst hop;rfl),fun h=>(by cases h),fun b h=>(by cases h),by simp,fun hw=>hw.set hg _⟩
              · cases h
            · cases h
          · cases h
        · cases h
      · cases h
    · split at h
      · split at h
        · simp[Zh]at h
        · cases h
      · cases h
    · simp[Zh]at h
    · split at h
      · simp[Zh]at h
      · have h:=Wd h;simp[Zh]at h
      · cases h
  case h_25 hop=>simp only at hop;exact ha (by subst hop;rfl) h
  case h_26 hop=>
    simp only at hop
    unfold Qea at h
    split at h
    · simp only[Option.map_eq_some_iff,Prod.mk.injEq]at h
      obtain⟨u,h1,rfl,rfl,rfl⟩:=h
      exact⟨fun _=>.inl (by subst hop;rfl),fun h=>(by cases h),fun b h=>(by cases h),Nat.le_refl _,id⟩
    · cases h
  case h_27 hop=>
    simp only at hop
    unfold Qfw at h
    split at h
    · simp only[Option.map_eq_some_iff,Prod.mk.injEq]at h
      obtain⟨H1,h1,rfl,rfl,rfl⟩:=h
      exact⟨fun _=>.inl (by subst hop;rfl),fun h=>(by cases h),fun b h=>(by cases h),(QaT h1).1,(QaT h1).2⟩
    · cases h
  case h_28 hop=>
    simp only at hop
    unfold Qfw at h
    split at h
    · simp only[Option.map_eq_some_iff,Prod.mk.injEq]at h
      obtain⟨H1,h1,rfl,rfl,rfl⟩:=h
      exact⟨fun _=>.inl (by subst hop;rfl),fun h=>(by cases h),fun b h=>(by cases h),(QaT h1).1,(QaT h1).2⟩
    · cases h
  case h_29 hop=>
    simp only at hop
    unfold Qgl at h
    split at h
    · exact ha (by subst hop;rfl) h
    · rename_i ht ex
      simp only[Option.some.injEq,Prod.mk.injEq]at h
      obtain⟨rfl,_,rfl⟩:=h
      exact⟨fun _=>.inr (by subst hop;simp only[Qaq,ht]),fun h=>(by cases h),fun b h=>(by cases h),by simp,fun hw=>hw.push _⟩
    · rename_i ht ex
      split at h
      · simp only[Option.some.injEq,Prod.mk.injEq]at h
        obtain⟨rfl,_,rfl⟩:=h
        exact⟨fun _=>.inr (by subst hop;simp only[Qaq,ht]),fun h=>(by cases h),fun b h=>(by cases h),by simp,fun hw=>hw.push _⟩
      · cases h
    · cases h
  case h_30 hop=>
    simp only at hop
    simp only[Option.map_eq_some_iff,Prod.mk.injEq]at h
    obtain⟨⟨u,H1⟩,h1,rfl,rfl,rfl⟩:=h
    have hn:H.next≤H1.next∧(H.Wf→H1.Wf):=by
      unfold Qjf at h1
      split at h1
      · have h1:=Wd h1
        split at h1
        · rename_i hg
          split at h1
          · simp only[Option.some.injEq,Prod.mk.injEq]at h1;obtain⟨_,rfl⟩:=h1;exact⟨by simp,fun hw=>hw.set hg _⟩
          · simp only[Option.some.injEq,Prod.mk.injEq]at h1;obtain⟨_,rfl⟩:=h1;exact⟨by simp,fun hw=>hw⟩
        · cases h1
      · cases h1
    exact⟨fun _=>.inl (by subst hop;rfl),fun h=>(by cases h),fun b h=>(by cases h),hn.1,hn.2⟩
  case h_31 hop=>
    simp only at hop
    simp only[Option.map_eq_some_iff,Prod.mk.injEq]at h
    obtain⟨⟨u,H1⟩,h1,rfl,rfl,rfl⟩:=h
    have hn:H.next≤H1.next∧(H.Wf→H1.Wf):=by
      unfold Qgi at h1
      split at h1
      · have h1:=Wd h1
        split at h1
        · simp only[Option.some.injEq,Prod.mk.injEq]at h1;obtain⟨_,rfl⟩:=h1;exact⟨by simp,fun hw=>hw⟩
        · rename_i hg
          split at h1
          · have h1:=Wd h1
            split at h1
            · simp only[Option.some.injEq,Prod.mk.injEq]at h1;obtain⟨_,rfl⟩:=h1;exact⟨by simp,fun hw=>hw⟩
            · split at h1
              · have h1:=Wd h1
                simp only[Option.some.injEq,Prod.mk.injEq]at h1;obtain⟨_,rfl⟩:=h1;exact⟨by simp,fun hw=>hw.set hg _⟩
              · cases h1
            · cases h1
          · cases h1
        · cases h1
      · cases h1
    exact⟨fun _=>.inl (by subst hop;rfl),fun h=>(by cases h),fun b h=>(by cases h),hn.1,hn.2⟩
  case h_32 hop=>
    simp only at hop
    simp only[Option.map_eq_some_iff,Prod.mk.injEq]at h
    obtain⟨u,h1,rfl,rfl,rfl⟩:=h
    exact⟨fun _=>.inl (by subst hop;rfl),fun h=>(by cases h),fun b h=>(by cases h),Nat.le_refl _,fun hw=>hw⟩
  case h_33=>cases h
end
section
variable {P:Program} {n:Nat}
theorem QfF {ops:Array Oper} {o:Oper} {g:Option (Nat×Bool)} {A:Env} {yes no:Prop} (hc:Qij n ops o=some g) (h:pg g A yes no):
  (W2 n ops A o=some true∧yes)∨(W2 n ops A o=some false∧no):=by
 unfold Qij at hc
 unfold W2
 split at hc
 ·rename_i hg
  cases hc
  exact .inl ⟨by rw[hg],h⟩
 ·rename_i j want hg
  rw[hg]
  split at hc
  ·rename_i t ht
   split at hc
   ·rename_i hlt
    cases hc
    have h':(match A t with | .bool b=>if b=want then yes else no | .tuple _=>no | _=>False):=h
    simp only[ht,hlt,if_true]
    split at h'
    ·rename_i b hb
     split at h'
     ·rename_i e;exact .inl ⟨by simp[hb,e],h'⟩
     ·rename_i e;exact .inr ⟨by simp[hb,e],h'⟩
    ·rename_i hb;exact .inr ⟨by simp[hb],h'⟩
    ·exact h'.elim
   ·cases hc
  ·cases hc
theorem Qgv {op:Op} {f:FuncId} {args:List Operand} (h:QV P op=.call f args):∃a ts,op=.call ⟨.value (.func f),a,ts⟩∧args=a.toList:=by
 unfold QV at h
 repeat' (split at h)
 all_goals first
  | (cases h;done)
  | (cases h;exact⟨_,_,rfl,rfl⟩)
theorem Qe6 {op:Op} {c:Operand} {args:List Operand} (h:QV P op=.callv c args):∃a ts,op=.call ⟨.value c,a,ts⟩∧args=a.toList:=by
 unfold QV at h
 repeat' (split at h)
 all_goals first
  | (cases h;done)
  | (cases h;exact⟨_,_,rfl,rfl⟩)
theorem Qhk {op:Op} {size:Nat} {x y:Operand} {os:List Operand} (h:QV P op=.stf size x y os):False:=by
 unfold QV at h
 repeat' (split at h)
 all_goals cases h
theorem Qe7 {op:Op} {f:FuncId} {args os:List Operand} (h:QV P op=.callF f args os):False:=by
 unfold QV at h
 repeat' (split at h)
 all_goals cases h
def InB (v:Value) (b:Nat):Prop:=(∃a:Addr,v=.pointer (some a)∧a.block=b)∨∃ (a:Addr) (n c:Nat),v=.slice (some a) n c∧a.block=b
theorem InB.uniq {v:Value} {b b':Nat} (h:InB v b) (h':InB v b'):b=b':=by
 rcases h with⟨a,rfl,rfl⟩ | ⟨a,n,c,rfl,rfl⟩<;>rcases h' with⟨a',e,rfl⟩ | ⟨a',n',c',e,rfl⟩<;>cases e<;>rfl
def FA (o:Oper) (A:Env) (v:Value):Prop:=∀b,Qeh o=some b→∀n,InB v n→InB (A b) n
theorem FA.none {o:Oper} {A:Env} {v:Value} (h:Qeh o=none):FA o A v:=fun b h'=>by rw[h]at h';cases h'
theorem Qn7 {o:Oper} {A:Env} {H H':Qa} {c:Cls} {v:Value} (h:aop P Zh o A H=some (c,v,H')):FA o A v:=by
 obtain⟨dst,op,ty,pos,af,g⟩:=o
 intro b hf n hv
 unfold Qeh at hf
 split at hf
 ·rename_i t b' f hop
  simp only at hop
  subst hop
  cases hf
  have h:Zx P Zh A H t (.tmp b) f=some (c,v,H'):=h
  unfold Zx at h
  split at h
  ·rename_i fs a _ ha
   split at h
   ·split at h
    ·rename_i inf _
     cases hz:Nat.beq inf.size 0 with
     | true=>rw[hz]at h;cases h
     | false=>
      rw[hz]at h
      simp only[cond_false,Option.some.injEq,Prod.mk.injEq]at h
      have ha:A b=.pointer (some a):=ha
      obtain⟨_,rfl,_⟩:=h
      rcases hv with⟨a',e,rfl⟩ | ⟨a',n',c',e,rfl⟩
      ·cases e;exact .inl ⟨a,ha,rfl⟩
      ·cases e
    ·cases h
   ·cases h
  ·cases h
 ·rename_i t b' ix hop
  simp only at hop
  subst hop
  cases hf
  have h:Ys P Zh A H t (.tmp b) ix=some (c,v,H'):=h
  unfold Ys at h
  split at h
  ·split at h
   ·rename_i e a len cap _ ha
    have ha:A b=.slice (some a) len cap:=ha
    split at h
    ·split at h
     ·simp only[Option.some.injEq,Prod.mk.injEq]at h
      obtain⟨_,rfl,_⟩:=h
      rcases hv with⟨a',e,rfl⟩ | ⟨a',n',c',e,rfl⟩
      ·cases e;exact .inr ⟨a,_,_,ha,rfl⟩
      ·cases e
     ·cases h
    ·cases h
   ·rename_i len e a _ ha
    have ha:A b=.pointer (some a):=ha
    split at h
    ·split at h
     ·simp only[Option.some.injEq,Prod.mk.injEq]at h
      obtain⟨_,rfl,_⟩:=h
      rcases hv with⟨a',e,rfl⟩ | ⟨a',n',c',e,rfl⟩
      ·cases e;exact .inl ⟨a,ha,rfl⟩
      ·cases e
     ·cases h
    ·cases h
   ·cases h
  ·cases h
 ·rename_i b' hop
  simp only at hop
  subst hop
  cases hf
  have h:some (Cls.pure,ev A (.tmp b),H)=some (c,v,H'):=h
  cases h
  exact hv
 ·rename_i b' hop
  simp only at hop
  subst hop
  cases hf
  have h:some (Cls.pure,ev A (.tmp b),H)=some (c,v,H'):=h
  cases h
  exact hv
 ·cases hf
theorem Qgw {o:Oper} {s:Bool} {A:Env} {H:Qa} {k:Value→Qa→Prop} (hw:H.Wf) (h:pr P (QV P o.op) s A H k):
  ∃c v H',Qda P o A H v H' c∧Syn P o H H' c∧(s=true→GA o=true→∀id,H'.get id=H.get id)∧(s=true→Qe3 o=true→QH H.next 6 v=true)∧FA o A v∧k v H':=by
 obtain⟨dst,op,ty,pos,af,g⟩:=o
 have other:onS (rop P (QV P op) A H) (fun v H'=>(s=true→QH H.next 6 v=true)∧k v H')→
   ∃c v H',Qda P ⟨dst,op,ty,pos,af,g⟩ A H v H' c∧Syn P ⟨dst,op,ty,pos,af,g⟩ H H' c∧(s=true→GA ⟨dst,op,ty,pos,af,g⟩=true→∀id,H'.get id=H.get id)∧(s=true→Qe3 ⟨dst,op,ty,pos,af,g⟩=true→QH H.next 6 v=true)∧FA ⟨dst,op,ty,pos,af,g⟩ A v∧k v H':=fun⟨v,H',hr,hs,hk⟩=>by
  obtain⟨c,ha⟩:=Qie hr
  have ha:aop P Zh ⟨dst,op,ty,pos,af,g⟩ A H=some (c,v,H'):=ha
  refine⟨c,v,H',QaR Qj3 ha,Qmx ha,fun _ hc=>?_,fun h _=>hs h,Qn7 ha,hk⟩
  unfold GA at hc
  split at hc
  ·rename_i f a ts hop
   simp only at hop
   subst hop
   unfold aop at ha
   simp only[GW]at ha
   split at ha
   ·rename_i he;cases he
   ·rename_i he;cases he
   ·simp[Zh]at ha
   ·split at ha
    ·simp[Zh]at ha
    ·have ha:=Wd ha;simp[Zh]at ha
    ·cases ha
  ·cases hc
 simp only[pr]at h
 split at h
 ·rename_i f args hr
  obtain⟨a,ts,hop,rfl⟩:=Qgv hr
  subst hop
  obtain⟨v,H',hc,hn,hwf,hs,hk⟩:=h hw
  refine⟨.gen,v,H',Qge (by simpa using hc),⟨fun _=>.inl rfl,fun h=>(by cases h),fun b h=>(by cases h),hn,fun _=>hwf⟩,fun h _=>hs h,fun _ h=>(by cases h),.none rfl,hk⟩
 ·rename_i c args hr
  obtain⟨a,ts,hop,rfl⟩:=Qe6 hr
  subst hop
  split at h
  ·rename_i f xs ys hv
   obtain⟨v,H',hc,hn,hwf,hs,hk⟩:=h hw
   refine⟨.gen,v,H',Qg3 hv (by simpa using hc),⟨fun _=>.inl rfl,fun h=>(by cases h),fun b h=>(by cases h),hn,fun _=>hwf⟩,fun h _=>hs h,fun _ h=>(by cases h),.none rfl,hk⟩
  ·exact h.elim
 ·rename_i hr;exact(Qe7 hr).elim
 ·rename_i hr;exact(Qhk hr).elim
 ·exact other h
def Low (o:Oper) (os:List Operand) (A:Env) (H:Qa):Prop:=Qeg o=true→∀z∈os,∃b:Nat,InB (ev A z) b∧b<H.next
def Sep (o:Oper) (os:List Operand) (A:Env) (H H':Qa):Prop:=Qig o=true→∃a:Nat,(∀id,id≠a→H'.get id=H.get id)∧∀z∈os,∀b:Addr,ev A z=.pointer (some b)→b.block≠a
theorem Qhl {ops:Array Oper} {i:Nat} {o:Oper} {s:Bool} {A:Env} {H:Qa} {k:Value→Qa→Prop} (hw:H.Wf) (h:pr P (QbX P ops s i o) s A H k):
  ∃c v H',Qda P o A H v H' c∧Syn P o H H' c∧(s=true→GA o=true→EqB H H')∧(s=true→Qe3 o=true→QH H.next 6 v=true)∧(s=true→Sep o (Qef ops (Qq ops.toList []) i) A H H')∧(s=true→Low o (Qct ops (Qq ops.toList []) i) A H)∧FA o A v∧k v H':=by
 cases s with
 | false=>
  obtain⟨c,v,H',h1,h2,h3,h4,hfa,h5⟩:=Qgw hw h
  exact⟨c,v,H',h1,h2,fun h=>(by cases h),h4,fun h=>(by cases h),fun h=>(by cases h),hfa,h5⟩
 | true=>
  have h:pr P (Qap P ops i o) true A H k:=h
  have plainly:Qig o=false→Qeg o=false→Qap P ops i o=QV P o.op→∃c v H',Qda P o A H v H' c∧Syn P o H H' c∧(true=true→GA o=true→EqB H H')∧(true=true→Qe3 o=true→QH H.next 6 v=true)∧(true=true→Sep o (Qef ops (Qq ops.toList []) i) A H H')∧(true=true→Low o (Qct ops (Qq ops.toList []) i) A H)∧FA o A v∧k v H':=fun hns hnd e=>by
   rw[e]at h
   obtain⟨c,v,H',h1,h2,h3,h4,hfa,h5⟩:=Qgw hw h
   exact⟨c,v,H',h1,h2,fun hh hc id _=>h3 hh hc id,h4,fun _ hs=>(by rw[hns]at hs;cases hs),fun _ hs=>(by rw[hnd]at hs;cases hs),hfa,h5⟩
  cases hst:Qig o with
  | false=>
   cases hdi:Qeg o with
   | false=>
    refine plainly hst hdi ?_
    unfold Qap
    unfold Qig at hst
    unfold Qeg at hdi
    split
    ·rename_i t x y hop;rw[hop]at hst;cases hst
    ·rename_i hop;rw[hop]at hdi;cases hdi
    ·rfl
   | true=>
    obtain⟨dst,op,ty,pos,af,g⟩:=o
    unfold Qeg at hdi
    split at hdi
    ·rename_i f a ts hop
     simp only at hop
     subst hop
     obtain⟨hlow,hq⟩:=h
     obtain⟨v,H',hc,hn,hwf,hs,hk⟩:=hq hw
     refine⟨.gen,v,H',Qge (by simpa using hc),⟨fun _=>.inl rfl,fun h=>(by cases h),fun b h=>(by cases h),hn,fun _=>hwf⟩,fun _ _=>hs,fun _ h=>(by cases h),fun _ h=>(by cases h),fun _ _ z hz=>?_,.none rfl,hk⟩
     have:=hlow z hz
     unfold Qhf at this
     split at this
     ·rename_i b hb;exact⟨_,.inl ⟨b,hb,rfl⟩,this⟩
     ·rename_i b n c hb;exact⟨_,.inr ⟨b,n,c,hb,rfl⟩,this⟩
     ·exact this.elim
    ·cases hdi
  | true=>
   unfold Qig at hst
   split at hst
   ·rename_i t x y hop
    unfold Qap at h
    rw[hop]at h
    simp only at h
    cases hin:P.info? t with
    | none=>
     rw[hin]at h
     have e:QV P (.store t x y)=.gen (.store t x y):=by simp[QV,hin]
     simp only at h
     rw[e]at h
     obtain⟨v,H',hr,hs,hk⟩:=h
     simp only[rop,aop,QbS,Qbk,hin]at hr
     split at hr
     ·rename_i hh;repeat' (split at hh)
      all_goals (first | (cases hh;done) | (rename_i h9;cases h9))
     ·cases hr
    | some inf=>
     rw[hin]at h
     obtain⟨v,H',hr,hs,hk⟩:=h
     have e:QV P o.op=.st inf.size x y:=by rw[hop];simp[QV,hin]
     obtain⟨c,v1,H1,h1,h2,h3,h4,hfa,h5⟩:=Qgw (s:=false) (k:=fun v' H1=>v'=v∧H1=H') hw (o:=o) (by
      rw[e];exact⟨v,H',hr,fun h=>(by cases h),rfl,rfl⟩)
     obtain⟨rfl,rfl⟩:=h5
     refine⟨c,v1,H1,h1,h2,fun _ hc=>?_,fun _ hl=>?_,fun _ _=>?_,fun _ hd=>?_,hfa,hk⟩
     ·unfold GA at hc;rw[hop]at hc;cases hc
     ·unfold Qe3 at hl;rw[hop]at hl;cases hl
     ·simp only[rop]at hr
      split at hr
      ·rename_i a ha
       split at hr
       ·rename_i c' e' hg
        split at hr
        ·simp only[Option.some.injEq,Prod.mk.injEq]at hr
         obtain⟨_,rfl⟩:=hr
         refine⟨a.block,fun id hid=>by rw[Qa.get_set,if_neg hid],fun z hz=>?_⟩
         have hap:=hs z hz
         rw[ha]at hap
         intro b1 hb1
         rw[hb1]at hap
         exact hap
        ·cases hr
       ·cases hr
      ·cases hr
     ·unfold Qeg at hd;rw[hop]at hd;cases hd
   ·cases hst
theorem Qbu {ops:Array Oper} {fl:Nat→Bool}:∀ (l:List Oper) (i:Nat) (pl:List PO) (k:Env→Qa→Prop) (A:Env) (H:Qa),H.Wf→JP P n ops fl l i=some pl→Ka P pl k A H→
  ∃A1 H1,H1.Wf∧k A1 H1∧GT P n ops l (fun e A' H'=>e=.normal∧A'=A1∧H'=H1) A H
 | [],i,pl,k,A,H,hwf,hc,h=>by
  simp only[JP,Option.some.injEq]at hc
  subst hc
  exact⟨A,H,hwf,h,QgW ⟨rfl,rfl,rfl⟩⟩
 | o::l,i,pl,k,A,H,hwf,hc,h=>by
  unfold JP at hc
  split at hc
  ·rename_i hok
   split at hc
   ·rename_i g pl1 hg hpl
    cases hc
    have h:pg g A (pr P (QbX P ops (fl i) i o) (fl i) A H fun v H'=>Ka P pl1 k (Yp A o.dst v) H') (Ka P pl1 k (Yp A o.dst undef) H):=h
    rcases QfF hg h with⟨hw,hy⟩ | ⟨hw,hn⟩
    ·obtain⟨c,v,H',h1,h2,h3,h4,_,_,_,h5⟩:=Qhl hwf hy
     obtain⟨A1,H1,hw1,hk,ha⟩:=Qbu l (i+1) pl1 k _ _ (h2.wf hwf) hpl h5
     refine⟨A1,H1,hw1,hk,?_⟩
     cases hgd:o.guard with
     | none=>exact Qfn hgd h1.does hok ha
     | some jw=>
      obtain⟨j,w⟩:=jw
      exact Gz hgd hw (fun _=>⟨v,H',h1.does,ha⟩) (fun hh=>by cases hh) hok
    ·obtain⟨A1,H1,hw1,hk,ha⟩:=Qbu l (i+1) pl1 k _ _ hwf hpl hn
     refine⟨A1,H1,hw1,hk,?_⟩
     cases hgd:o.guard with
     | none=>simp[W2,hgd]at hw
     | some jw=>
      obtain⟨j,w⟩:=jw
      exact Gz hgd hw (fun hh=>by cases hh) (fun _=>ha) hok
   ·cases hc
  ·cases hc
structure StR (P:Program) (n:Nat) (ops:Array Oper) (fl:Nat→Bool) (i:Nat) (o:Oper) (s:Stp) (t':Env) (H':Qa):Prop where
 ok:Vz P n o=true
 wf:s.H.Wf
 env:t'=Yp s.t o.dst s.v
 next:s.H.next≤H'.next
 run:(W2 n ops s.t o=some true∧Qda P o s.t s.H s.v H' s.c∧Syn P o s.H H' s.c∧(fl i=true→GA o=true→EqB s.H H')∧(fl i=true→Qe3 o=true→QH s.H.next 6 s.v=true)∧(fl i=true→Sep o (Qef ops (Qq ops.toList []) i) s.t s.H H')∧(fl i=true→Low o (Qct ops (Qq ops.toList []) i) s.t s.H)∧FA o s.t s.v) ∨
  (W2 n ops s.t o=some false∧s.c=.pure∧s.v=undef∧H'=s.H)
def Qas (l:List Stp) (t:Env) (i:Nat):Env:=match l[i]? with | some s=>s.t | none=>t
theorem Qek {ops:Array Oper} {fl:Nat→Bool}:∀ (l:List Oper) (i:Nat) (pl:List PO) (k:Env→Qa→Prop) (A:Env) (H:Qa),H.Wf→JP P n ops fl l i=some pl→Ka P pl k A H→
  ∃tr A1 H1,H1.Wf∧k A1 H1∧tr.length=l.length∧Qas tr A1 0=A∧Wc tr H1 0=H∧∀ (j:Nat) o s,l[j]? = some o→tr[j]? = some s→StR P n ops fl (i+j) o s (Qas tr A1 (j+1)) (Wc tr H1 (j+1))
 | [],i,pl,k,A,H,hwf,hc,h=>by
  simp only[JP,Option.some.injEq]at hc
  subst hc
  exact⟨[],A,H,hwf,h,rfl,rfl,rfl,fun j o s h=>by simp at h⟩
 | o::l,i,pl,k,A,H,hwf,hc,h=>by
  unfold JP at hc
  split at hc
  ·rename_i hok
   split at hc
   ·rename_i g pl1 hg hpl
    cases hc
    have h:pg g A (pr P (QbX P ops (fl i) i o) (fl i) A H fun v H'=>Ka P pl1 k (Yp A o.dst v) H') (Ka P pl1 k (Yp A o.dst undef) H):=h
    have step:∀ (s:Stp) (t':Env) (H':Qa),s.t=A→s.H=H→H'.Wf→Ka P pl1 k t' H'→StR P n ops fl i o s t' H'→
      ∃tr A1 H1,H1.Wf∧k A1 H1∧tr.length=(o::l).length∧Qas tr A1 0=A∧Wc tr H1 0=H∧∀ (j:Nat) o' s,(o::l)[j]? = some o'→tr[j]? = some s→StR P n ops fl (i+j) o' s (Qas tr A1 (j+1)) (Wc tr H1 (j+1)):=by
     intro s t' H' e1 e2 hw' hp hst
     obtain⟨tr,A1,H1,hw1,hk,hl,ht,hh,hs⟩:=Qek l (i+1) pl1 k t' H' hw' hpl hp
     refine⟨s::tr,A1,H1,hw1,hk,by simp[hl],by simp[Qas,e1],by simp[Wc,e2],fun j o' s' hj hs'=>?_⟩
     cases j with
     | zero=>
      simp only[List.getElem?_cons_zero,Option.some.injEq]at hj hs'
      subst hj;subst hs'
      have h1:Qas (s::tr) A1 (0+1)=t':=by rw[← ht];simp[Qas]
      have h2:Wc (s::tr) H1 (0+1)=H':=by rw[← hh];simp[Wc]
      rw[h1,h2]
      exact hst
     | succ j=>
      have:=hs j o' s' (by simpa using hj) (by simpa using hs')
      rw[show i+(j+1)=i+1+j by omega]
      simpa[Qas,Wc] using this
    rcases QfF hg h with⟨hw,hy⟩ | ⟨hw,hn⟩
    ·obtain⟨c,v,H',h1,h2,h3,h4,h6,h7,hfa,h5⟩:=Qhl hwf hy
     exact step ⟨A,H,c,v⟩ _ H' rfl rfl (h2.wf hwf) h5 ⟨hok,hwf,rfl,h2.next,.inl ⟨hw,h1,h2,h3,h4,h6,h7,hfa⟩⟩
    ·exact step ⟨A,H,.pure,undef⟩ _ H rfl rfl hwf hn ⟨hok,hwf,rfl,Nat.le_refl _,.inr ⟨hw,rfl,rfl,rfl⟩⟩
   ·cases hc
  ·cases hc
theorem JE {t:TypeId} {a:Addr} {H1 H2:Qa} (h:H1.get a.block=H2.get a.block):WZ P t a H1=WZ P t a H2:=by
 unfold WZ
 rw[h]
theorem Qiw {id:Nat} {ops:Array Oper} {pl:List PO} {k:Env→Qa→Prop} {A:Env} {H:Qa} (hwf:H.Wf) (hm:P.follows .mixedOrders=true) (hrare:∀o∈ops,Qaq P o.op=false) (hd:GV ops (Wb ops)=true) (hck:Qjj ops (Qq ops.toList [])=true)
  (hc:JP P n ops (Q3 ops (Qq ops.toList [])) ops.toList 0=some pl) (h:Ka P pl k A H):
  ∃A1 H1,H1.Wf∧k A1 H1∧AWp P n (.region id ops true) (fun e A' H'=>e=.normal∧A'=A1∧H'=H1) A H:=by
 obtain⟨tr,A1,H1,hw1,hk,hl,hA,hH,hs⟩:=Qek ops.toList 0 pl k A H hwf hc h
 refine⟨A1,H1,hw1,hk,?_⟩
 have hlen:tr.length=ops.size:=by simpa using hl
 let As:Nat→Env:=Qas tr A1
 let Hs:Nat→Qa:=Wc tr H1
 let vs:Nat→Value:=fun i=>match tr[i]? with | some s=>s.v | none=>undef
 let cls:Nat→Cls:=fun i=>match tr[i]? with | some s=>s.c | none=>.pure
 have hat:∀ (i:Nat) o,ops[i]? = some o→∃s,tr[i]? = some s∧StR P n ops (Q3 ops (Qq ops.toList [])) i o s (As (i+1)) (Hs (i+1))∧As i=s.t∧Hs i=s.H∧vs i=s.v∧cls i=s.c:=fun i o ho=>by
  have hlt:i<tr.length:=by rw[hlen];exact(Array.getElem?_eq_some_iff.1 ho).1
  have hi:=List.getElem?_eq_getElem hlt
  refine⟨tr[i],hi,by have:=hs i o tr[i] (by simpa using ho) hi;rwa [Nat.zero_add]at this,?_,?_,?_,?_⟩<;>simp only[As,Hs,vs,cls,Qas,Wc,hi]
 have hops:∀i,i<ops.size→∃o,ops[i]? = some o:=fun i hi=>⟨ops[i],Array.getElem?_eq_getElem hi⟩
 have hgen:∀i,i<ops.size→WD (cls i)=true→Wb ops i=true:=fun i hi hg=>by
  obtain⟨o,ho⟩:=hops i hi
  obtain⟨s,hsi,hst,_,_,_,e4⟩:=hat i o ho
  rw[e4]at hg
  simp only[Wb,ho]
  rcases hst.run with⟨_,_,hsyn,_⟩ | ⟨_,hc0,_⟩
  ·rcases hsyn.gen hg with h | h
   ·exact h
   ·have:=hrare o (Array.mem_of_getElem? ho);rw[h]at this;cases this
  ·rw[hc0]at hg;cases hg
 have hchk:∀k',k'<ops.size→Wb ops k'=true→Q3 ops (Qq ops.toList []) k'=true→(J9 ops k'=true∧∀i,i<ops.size→Qec ops i=true→Ql (Qq ops.toList []) i k'=false→Ql (Qq ops.toList []) k' i=false→quiet ops (Qq ops.toList []) i k'=true) ∨
   (Qih ops k'=true∧∀i,i<ops.size→(Qec ops i=true→Ql (Qq ops.toList []) i k'=false→Ql (Qq ops.toList []) k' i=false→QnY ops (Qq ops.toList []) i k'=true)∧(QbW ops i=true→i<k'→Ql (Qq ops.toList []) i k'=true)):=fun k' hk' hg hf=>by
  have:=List.all_eq_true.1 hck k' (List.mem_range.2 hk')
  simp only[hg,hf,Bool.not_true,Bool.false_or,Bool.or_eq_true,Bool.and_eq_true,List.all_eq_true,List.mem_range]at this
  rcases this with this | this
  ·refine .inl ⟨this.1,fun i hi h1 h2 h3=>?_⟩
   have:=this.2 i hi
   simpa[h1,h2,h3] using this
  ·refine .inr ⟨this.1,fun i hi=>⟨fun h1 h2 h3=>?_,fun h1 h2=>?_⟩⟩
   ·have:=(this.2 i hi).1
    simpa[h1,h2,h3] using this
   ·have h3:=(this.2 i hi).2
    have b:Nat.blt i k'=true:=by rw[Nat.blt_eq];exact h2
    simpa[h1,b] using h3
 have hnx:∀j,j<ops.size→(Hs j).next≤(Hs (j+1)).next:=fun j hj=>by
  obtain⟨o,ho⟩:=hops j hj
  obtain⟨s,hsi,hst,e1,e2,e3,e4⟩:=hat j o ho
  rw[e2];exact hst.next
 have hnxs:∀d a,a+d≤ops.size→(Hs a).next≤(Hs (a+d)).next:=fun d=>by
  induction d with
  | zero=>exact fun a _=>Nat.le_refl _
  | succ d ih=>exact fun a h=>Nat.le_trans (ih a (by omega)) (hnx (a+d) (by omega))
 have hcallsame:∀k',k'<ops.size→J9 ops k'=true→Q3 ops (Qq ops.toList []) k'=true→EqB (Hs k') (Hs (k'+1)):=fun k' hk' hcf hf=>by
  obtain⟨o,ho⟩:=hops k' hk'
  obtain⟨s,hsi,hst,e1,e2,e3,e4⟩:=hat k' o ho
  simp only[J9,ho]at hcf
  rw[e2]
  rcases hst.run with⟨_,_,_,h3,_⟩ | ⟨_,_,_,h4⟩
  ·exact h3 hf hcf
  ·rw[h4];exact fun _ _=>rfl
 have hkeep:∀j,j<ops.size→(Wb ops j=false∨(Q3 ops (Qq ops.toList []) j=true∧J9 ops j=true))→EqB (Hs j) (Hs (j+1)):=fun j hj hg=>by
  obtain⟨o,ho⟩:=hops j hj
  obtain⟨s,hsi,hst,e1,e2,e3,e4⟩:=hat j o ho
  rcases hst.run with⟨_,hcl,hsyn,_⟩ | ⟨_,_,_,h4⟩
  ·cases hsc:s.c with
   | pure=>rw[hsc]at hcl;rw[e2,hcl.1];exact fun _ _=>rfl
   | load=>rw[hsc]at hcl;rw[e2,hcl.1];exact fun _ _=>rfl
   | alloc b=>
    rw[hsc]at hcl
    rw[e2,hcl.1]
    exact fun id hid=>by rw[Qa.get_push,if_neg (by omega)]
   | gen=>
    have hsg:Wb ops j=true:=hgen j hj (by rw[e4,hsc];rfl)
    rcases hg with hg | hg
    ·rw[hg]at hsg;cases hsg
    ·exact hcallsame j hj hg.2 hg.1
  ·rw[e2,h4];exact fun _ _=>rfl
 have hkeeps:∀d a,a+d≤ops.size→(∀j,a≤j→j<a+d→Wb ops j=false∨(Q3 ops (Qq ops.toList []) j=true∧J9 ops j=true))→EqB (Hs a) (Hs (a+d)):=fun d=>by
  induction d with
  | zero=>exact fun a _ _ _ _=>rfl
  | succ d ih=>
   intro a h hj id hid
   have h1:=ih a (by omega) (fun j h1 h2=>hj j h1 (by omega)) id hid
   have h2:=hkeep (a+d) (by omega) (hj (a+d) (by omega) (by omega)) id (Nat.lt_of_lt_of_le hid (hnxs d a (by omega)))
   rw[show a+(d+1)=a+d+1 by omega,h2,h1]
 have F:Yr P n ops As Hs vs cls:=by
  refine⟨fun i o ho=>?_,fun i hi=>?_,fun i o ho=>?_,fun i o ho=>?_,Qdc hgen hd⟩
  ·obtain⟨s,hsi,hst,e1,e2,e3,e4⟩:=hat i o ho
   rw[e1,e3,hst.env]
  ·obtain⟨o,ho⟩:=hops i hi
   obtain⟨s,hsi,hst,e1,e2,e3,e4⟩:=hat i o ho
   rw[e2];exact hst.next
  ·obtain⟨s,hsi,hst,e1,e2,e3,e4⟩:=hat i o ho
   exact hst.ok
  ·obtain⟨s,hsi,hst,e1,e2,e3,e4⟩:=hat i o ho
   have hi:i<ops.size:=(Array.getElem?_eq_some_iff.1 ho).1
   unfold Qh1
   rw[e1,e2,e3,e4]
   rcases hst.run with⟨hw,hcl,hsyn,hf1,hf2,_,_⟩ | ⟨hw,hc0,hv0,hH0⟩
   ·right
    refine⟨hw,?_⟩
    cases hsc:s.c with
    | pure=>rw[hsc]at hcl;exact hcl
    | gen=>rw[hsc]at hcl;exact hcl
    | alloc b=>
     rw[hsc]at hcl
     refine⟨hcl.1,hcl.2,fun k' hk1 hik hgk ho'=>?_⟩
     have hsg:=hgen k' hk1 hgk
     have hal:QbW ops i=true:=by simp only[QbW,ho];exact hsyn.alloc b hsc
     have hfl:Q3 ops (Qq ops.toList []) k'=true:=by
      unfold Q3
      simp only[hsg,Bool.true_and,Bool.or_eq_true]
      left
      rw[List.any_eq_true]
      exact⟨i,List.mem_range.2 hi,by simp[hal,hik,ho']⟩
     rcases hchk k' hk1 hsg hfl with hch | hch
     ·rw[hcallsame k' hk1 hch.1 hfl]
      have h9:=hnxs (k' - (i+1)) (i+1) (by omega)
      rw[show i+1+(k' - (i+1))=k' by omega,hcl.1,Qa.next_push]at h9
      omega
     ·rw[(hch.2 i hi).2 hal hik]at ho';cases ho'
    | load=>
     rw[hsc]at hcl
     obtain⟨h1,tt,x,a,hop,ex,hl'⟩:=hcl
     refine⟨h1,tt,x,a,hop,ex,hl',fun k' hk1 hgk o1 o2=>?_⟩
     have hsg:=hgen k' hk1 hgk
     have hld:Qec ops i=true:=by simp only[Qec,ho];exact hsyn.load hsc
     have hfl:Q3 ops (Qq ops.toList []) k'=true:=by
      unfold Q3
      simp only[hsg,Bool.true_and,Bool.or_eq_true]
      left
      rw[List.any_eq_true]
      exact⟨i,List.mem_range.2 hi,by simp[hld,o1,o2]⟩
     have hfi:Q3 ops (Qq ops.toList []) i=true:=by
      unfold Q3
      simp only[Bool.or_eq_true]
      right
      simp only[hld,Bool.true_and]
      rw[List.any_eq_true]
      exact⟨k',List.mem_range.2 hk1,by simp[hsg,o1,o2]⟩
     have hload:o.op=.load tt x:=hop
     have hbel:QH s.H.next 6 s.v=true:=hf2 hfi (by unfold Qe3;rw[hload])
     rcases hchk k' hk1 hsg hfl with hch | hch
     ·have hq:=hch.2 i hi hld o1 o2
      have hb0:a.block<(Hs i).next:=by
       rw[e2]
       unfold WZ at hl'
       split at hl'
       ·rename_i hg;exact hst.wf.lt hg
       ·cases hl'
      unfold quiet at hq
      simp only[Bool.or_eq_true,Bool.and_eq_true,List.all_eq_true,List.mem_range]at hq
      have hget:(Hs k').get a.block=(Hs i).get a.block∧a.block<(Hs k').next:=by
       rcases hq with⟨hlt,hq⟩ | ⟨⟨⟨hlt,hdir⟩,hsm⟩,hq⟩
       ·have hlt:i<k':=by simpa using hlt
        have hgi:Wb ops i=false:=by
         simp only[Qec,ho]at hld
         simp only[Wb,ho]
         unfold Qe3 at hld
         split at hld
         ·rename_i hop';simp only[QnX,hop']
         ·cases hld
        have h8:=hkeeps (k' - i) i (by omega) (fun j h1 h2=>?_)
        ·rw[show i+(k' - i)=k' by omega]at h8
         have h9:=hnxs (k' - i) i (by omega)
         rw[show i+(k' - i)=k' by omega]at h9
         exact⟨h8 _ hb0,by omega⟩
        ·rcases Nat.lt_or_ge i j with h3 | h3
         ·have h4:=hq j (by omega)
          have h5:Nat.ble j i=false:=by
           cases hb:Nat.ble j i with
           | false=>rfl
           | true=>rw[Nat.ble_eq]at hb;omega
          simpa[h5] using h4
         ·rw[show j=i by omega];exact .inl hgi
       ·have hlt:k'<i:=by simpa using hlt
        obtain⟨bs,hbs⟩:=Option.isSome_iff_exists.1 hsm
        have hall:∀j,k'≤j→j<i→(Wb ops j=false∨(Q3 ops (Qq ops.toList []) j=true∧J9 ops j=true)):=fun j h1 h2=>by
         have h4:=hq j h2
         have h5:Nat.blt j k'=false:=by
          cases hb:Nat.blt j k' with
          | false=>rfl
          | true=>rw[Nat.blt_eq]at hb;omega
         rcases h4 with h4 | h4
         ·rw[h5]at h4;cases h4
         ·simpa using h4
        obtain⟨ok,hok⟩:=hops k' hk1
        obtain⟨sk,hsk,hstk,f1,f2,f3,f4⟩:=hat k' ok hok
        have hback:∀d cur,k'+d≤i→Qgn ops k' d cur=some bs→InB (As (k'+d) cur) a.block→InB (As k' bs) a.block:=fun d=>by
         induction d with
         | zero=>intro cur _ hb hv;cases hb;exact hv
         | succ d ih=>
          intro cur hd hb hv
          obtain⟨oj,hoj⟩:=hops (k'+d) (by omega)
          obtain⟨sj,hsj,hstj,g1,g2,g3,g4⟩:=hat (k'+d) oj hoj
          simp only[Qgn,hoj]at hb
          split at hb
          ·rename_i c hc
           refine ih c (by omega) hb ?_
           rw[show k'+(d+1)=k'+d+1 by omega,hstj.env,← g1]at hv
           unfold QnE at hc
           cases hdst:oj.dst with
           | none=>
            rw[hdst]at hc hv
            have hc:some cur=some c:=hc
            cases hc
            exact hv
           | some q=>
            rw[hdst]at hc hv
            have hv:InB (upd (As (k'+d)) q sj.v cur) a.block:=hv
            by_cases hqc:q=cur
            ·subst hqc
             rw[Qac]at hv
             have hc:Qeh oj=some c:=by simpa using hc
             rcases hstj.run with⟨_,_,_,_,_,_,_,hfa⟩ | ⟨_,_,_,hu⟩
             ·have:=hfa c hc _ hv
              rw[g1];exact this
             ·exfalso
              have hu:sj.v=undef:=by first | exact hu.1 | exact hu | (rename_i hu2;exact hu2)
              rw[hu]at hv
              rcases hv with⟨_,e,_⟩ | ⟨_,_,_,e,_⟩<;>cases e
            ·rw[J6 _ _ (fun h=>hqc h.symm)]at hv
             have hc:some cur=some c:=by have e:(q==cur)=false:=beq_false_of_ne hqc;simpa[e] using hc
             cases hc
             exact hv
          ·cases hb
        have hpt:InB (As k' bs) a.block:=by
         unfold Qii at hbs
         cases htm:Qee ops i with
         | none=>rw[htm]at hbs;cases hbs
         | some tm=>
          have hx:x=.tmp tm:=by
           unfold Qee at htm
           rw[ho]at htm
           simp only[hload]at htm
           split at htm
           ·rename_i hh;cases hh;cases htm;rfl
           ·cases htm
          subst hx
          have ex':As i tm=.pointer (some a):=by rw[e1];exact ex
          rw[htm]at hbs
          refine hback (i - k') tm (by omega) hbs ?_
          rw[show k'+(i - k')=i by omega,ex']
          exact .inl ⟨a,rfl,rfl⟩
        have hbk:a.block<(Hs k').next:=by
         have hlow:∀z∈Qct ops (Qq ops.toList []) k',∃b:Nat,InB (ev sk.t z) b∧b<sk.H.next:=by
          rcases hstk.run with⟨_,_,_,_,_,_,h9,_⟩ | ⟨_,h9,_⟩
          ·exact h9 hfl (by simpa only[QnD,hok] using hdir)
          ·rw[f4,h9]at hgk;cases hgk
         obtain⟨b,hb1,hb2⟩:=hlow (.tmp bs) (by
          unfold Qct
          rw[List.mem_filterMap]
          have b1:Nat.blt k' i=true:=by simpa using hlt
          exact⟨i,List.mem_range.2 hi,by simp[b1,hld,Qed,o1,o2,hbs]⟩)
         have hb1:InB (sk.t bs) b:=hb1
         rw[← f1]at hb1
         rw[f2,hpt.uniq hb1];exact hb2
        have h8:=hkeeps (i - k') k' (by omega) (fun j h1 h2=>hall j h1 (by omega))
        rw[show k'+(i - k')=i by omega]at h8
        exact⟨(h8 _ hbk).symm,hbk⟩
      have hk2:=hcallsame k' hk1 hch.1 hfl a.block hget.2
      exact⟨by rw[JE hget.1,e2];exact hl',by rw[JE hk2,JE hget.1,e2];exact hl',hbel⟩
     ·have hcalm:=(hch.2 i hi).1 hld o1 o2
      unfold QnY at hcalm
      simp only[Bool.and_eq_true,List.all_eq_true,List.mem_range]at hcalm
      obtain⟨⟨hlt,hsm⟩,hall⟩:=hcalm
      have hlt:i<k':=by simpa using hlt
      obtain⟨tm,htm⟩:=Option.isSome_iff_exists.1 hsm
      have hx:x=.tmp tm:=by
       unfold Qee at htm
       rw[ho]at htm
       simp only[hload]at htm
       split at htm
       ·rename_i hh;cases hh;cases htm;rfl
       ·cases htm
      subst hx
      have hstep:∀j,i≤j→j<ops.size→As j tm=.pointer (some a)→(Wb ops j=false∨(J9 ops j=true∧Q3 ops (Qq ops.toList []) j=true)∨(i<j∧Qih ops j=true∧Q3 ops (Qq ops.toList []) j=true∧Qed (Qq ops.toList []) i j=true))→a.block<(Hs j).next→(Hs (j+1)).get a.block=(Hs j).get a.block:=fun j hij hj hA hg hbl=>by
       obtain⟨oj,hoj⟩:=hops j hj
       obtain⟨sj,hsj,hstj,f1,f2,f3,f4⟩:=hat j oj hoj
       rw[f2]at hbl ⊢
       rcases hstj.run with⟨_,hcl,hsyn,_,_,hsep,_⟩ | ⟨_,_,_,h4⟩
       ·cases hsc:sj.c with
        | pure=>rw[hsc]at hcl;rw[hcl.1]
        | load=>rw[hsc]at hcl;rw[hcl.1]
        | alloc b=>rw[hsc]at hcl;rw[hcl.1,Qa.get_push,if_neg (by omega)]
        | gen=>
         have hsg:Wb ops j=true:=hgen j hj (by rw[f4,hsc];rfl)
         rcases hg with hg | hg | ⟨hij2,hg1,hg2,hg3⟩
         ·rw[hg]at hsg;cases hsg
         ·rw[← f2];rw[← f2]at hbl;exact hcallsame j hj hg.1 hg.2 _ hbl
         ·simp only[Qih,hoj]at hg1
          obtain⟨a',hk1',hk2'⟩:=hsep hg2 hg1
          have hb2:=hk2' (.tmp tm) (by
           unfold Qef
           rw[List.mem_filterMap]
           exact⟨i,List.mem_range.2 hij2,by simp[hld,hg3,htm]⟩) a (by show sj.t tm=_;rw[← f1];exact hA)
          exact hk1' _ hb2
       ·rw[h4]
      have hb0:a.block<(Hs i).next:=by
       rw[e2]
       unfold WZ at hl'
       split at hl'
       ·rename_i hg;exact hst.wf.lt hg
       ·cases hl'
      have hA0:As i tm=.pointer (some a):=by rw[e1];exact ex
      have hall2:∀j,i≤j→j<k'→(∀oj,ops[j]? = some oj→oj.dst≠some tm)∧(Wb ops j=false∨(J9 ops j=true∧Q3 ops (Qq ops.toList []) j=true)∨(i<j∧Qih ops j=true∧Q3 ops (Qq ops.toList []) j=true∧Qed (Qq ops.toList []) i j=true)):=fun j hij hjk=>by
       have:=hall j hjk
       have b1:Nat.blt j i=false:=by
        cases hb:Nat.blt j i with
        | false=>rfl
        | true=>rw[Nat.blt_eq]at hb;omega
       simp only[b1,Bool.or_eq_true,Bool.and_eq_true,htm,Bool.not_eq_true',Bool.false_eq_true,false_or]at this
       refine⟨fun oj hoj hd=>?_,?_⟩
       ·have h9:=this.1
        rw[hoj]at h9
        simp[hd]at h9
       ·rcases this.2 with(h | h) | h
        ·exact .inl h
        ·exact .inr (.inl h)
        ·refine .inr (.inr ⟨?_,h.1.1,h.1.2,h.2⟩)
         rcases Nat.lt_or_ge i j with h' | h'
         ·exact h'
         ·have e:j=i:=by omega
          subst e
          have h7:=h.1.1
          unfold Qih Qig at h7
          rw[ho]at h7
          simp only[hload]at h7
          cases h7
      have hrun:∀d,i+d≤k'→As (i+d) tm=.pointer (some a)∧(Hs (i+d)).get a.block=(Hs i).get a.block∧a.block<(Hs (i+d)).next:=by
       intro d
       induction d with
       | zero=>exact fun _=>⟨hA0,rfl,hb0⟩
       | succ d ih=>
        intro hd
        obtain⟨i1,i2,i3⟩:=ih (by omega)
        have hj:i+d<ops.size:=by omega
        obtain⟨oj,hoj⟩:=hops (i+d) hj
        obtain⟨sj,hsj,hstj,f1,f2,f3,f4⟩:=hat (i+d) oj hoj
        obtain⟨g1,g2⟩:=hall2 (i+d) (by omega) (by omega)
        refine⟨?_,?_,?_⟩
        ·rw[show i+(d+1)=i+d+1 by omega,hstj.env,← f1,← i1]
         cases hdst:oj.dst with
         | none=>rfl
         | some q=>exact J6 _ _ (fun h=>g1 oj hoj (by rw[hdst,h]))
        ·rw[show i+(d+1)=i+d+1 by omega,hstep (i+d) (by omega) hj i1 g2 i3,i2]
        ·rw[show i+(d+1)=i+d+1 by omega]
         have:=hstj.next
         rw[← f2]at this
         omega
      obtain⟨r1,r2,r3⟩:=hrun (k' - i) (by omega)
      rw[show i+(k' - i)=k' by omega]at r1 r2 r3
      have hlast:=hstep k' (by omega) hk1 r1 (.inr (.inr ⟨hlt,hch.1,hfl,by unfold Qed;rw[o1,o2];rfl⟩)) r3
      exact⟨by rw[JE r2,e2];exact hl',by rw[JE hlast,JE r2,e2];exact hl',hbel⟩
   ·left
    exact⟨hw,hv0,hH0,hc0⟩
 have hend:As ops.size=A1∧Hs ops.size=H1:=by
  have:tr[ops.size]? = none:=List.getElem?_eq_none (by omega)
  simp only[As,Hs,Qas,Wc,this,and_self]
 have hAs0:As 0=A:=hA
 have hHs0:Hs 0=H:=hH
 have:=Qg8 (id:=id) (Q:=fun e A' H'=>e=.normal∧A'=A1∧H'=H1) hm F ⟨rfl,hend.1,hend.2⟩
 rwa [hAs0,hHs0]at this
def Fp (ks:Kp) (k:Env→Qa→Prop):Ex→Env→Qa→Prop
 | .normal,A,H=>k A H
 | .ret,A,H=>ks.ret A H
 | .exit j,A,H=>j<J0∧ks.ext j A H
 | .goto l,A,H=>ks.ext (J0+l) A H
 | _,_,_=>False
def Qix (ex:Ex) (A1:Env) (H1:Qa):Ex→Env→Qa→Prop:=fun e A H=>e=ex∧A=A1∧H=H1
theorem QmB (x y:PC) (ks:Kp) (k:Env→Qa→Prop) (A:Env) (H:Qa):Qw P (sq x y) ks k A H=Qw P x ks (Qw P y ks k) A H:=by
 unfold sq
 split<;>rfl
theorem Qlg (x y:PC) (l:Nat) (hx:x=.skip→True):Zy (sq x y) l=match Zy x l with | some r=>some (sq r y) | none=>Zy y l:=by
 unfold sq
 split
 ·simp[Zy]
 ·rename_i hne
  cases hf:Zy x l with
  | none=>simp[Zy]
  | some r=>
   cases r<;>rfl
 ·rfl
theorem Qcv:∀ (c:Code) (pc:PC),comp P n c=some pc→∀l,(∀rest,findLabel c l=some rest→∃pr,Zy pc l=some pr∧comp P n rest=some pr)∧(findLabel c l=none→Zy pc l=none):=by
 intro c
 induction c with
 | seq a b iha ihb=>
  intro pc h l
  simp only[comp]at h
  split at h
  ·rename_i x y hx hy
   simp only[Option.some.injEq]at h
   subst h
   obtain⟨a1,a2⟩:=iha x hx l
   obtain⟨b1,b2⟩:=ihb y hy l
   rw[Qlg x y l (fun _=>trivial)]
   cases hf:findLabel a l with
   | some r=>
    obtain⟨pr,h1,h2⟩:=a1 r hf
    rw[h1]
    refine⟨fun rest hr=>?_,fun hn=>?_⟩
    ·simp only[findLabel,hf,Option.some.injEq]at hr
     subst hr
     exact⟨_,rfl,by simp only[comp,h2,hy]⟩
    ·simp only[findLabel,hf]at hn;cases hn
   | none=>
    rw[a2 hf]
    simp only[findLabel,hf]
    exact⟨b1,b2⟩
  ·cases h
 | label l'=>
  intro pc h l
  simp only[comp,Option.some.injEq]at h
  subst h
  refine⟨fun rest hr=>?_,fun hn=>?_⟩
  ·simp only[findLabel]at hr
   split at hr
   ·rename_i he
    have he:l'=l:=by simpa using he
    subst he
    cases hr
    exact⟨.skip,by simp[Zy],rfl⟩
   ·cases hr
  ·simp only[findLabel]at hn
   split at hn
   ·cases hn
   ·rename_i he
    have he:¬l'=l:=by simpa using he
    simp[Zy,YW,he]
 | scope b ih=>
  intro pc h l
  refine⟨fun rest hr=>(by cases hr),fun _=>?_⟩
  simp only[comp,Option.map_eq_some_iff]at h
  obtain⟨pb,hb,rfl⟩:=h
  unfold Qgo
  split
  ·rename_i hl
   exact nolab pb hl l
  ·split
   ·rfl
   ·rfl
  ·rfl
 | region id ops draw=>
  intro pc h l
  refine⟨fun rest hr=>(by cases hr),fun _=>?_⟩
  cases draw
  ·simp only[comp,Option.some.injEq]at h
   subst h
   split<;>rfl
  ·simp only[comp,Option.some.injEq]at h
   subst h
   split
   ·split<;>rfl
   ·rfl
 | cond x a b iha ihb=>
  intro pc h l
  refine⟨fun rest hr=>(by cases hr),fun _=>?_⟩
  simp only[comp]at h
  split at h
  ·split at h
   ·cases h;rfl
   ·cases h
  ·cases h
 | block id b ih=>
  intro pc h l
  refine⟨fun rest hr=>(by cases hr),fun _=>?_⟩
  simp only[comp,Option.map_eq_some_iff]at h
  obtain⟨pb,hb,rfl⟩:=h
  cases Nat.blt id J0<;>rfl
 | loop b ih=>
  intro pc h l
  refine⟨fun rest hr=>(by cases hr),fun _=>?_⟩
  simp only[comp,Option.map_eq_some_iff]at h
  obtain⟨pb,hb,rfl⟩:=h
  rfl
 | exit id=>
  intro pc h l
  refine⟨fun rest hr=>(by cases hr),fun _=>?_⟩
  simp only[comp,Option.some.injEq]at h
  subst h
  cases Nat.blt id J0<;>rfl
 | _=>
  intro pc h l
  refine⟨fun rest hr=>(by cases hr),fun _=>?_⟩
  cases h
  rfl
 where
 nolab:∀ (pc:PC),ZO pc=[]→∀l,Zy pc l=none
  | .seq a b,h,l=>by
   simp only[ZO,List.append_eq_nil_iff]at h
   simp only[Zy,nolab a h.1 l,nolab b h.2 l]
  | .label l',h,l=>by simp[ZO]at h
  | .skip,h,l=>rfl
  | .ops _,h,l=>rfl
  | .cond _ _ _,h,l=>rfl
  | .block _ _,h,l=>rfl
  | .loop _,h,l=>rfl
  | .exit _,h,l=>rfl
  | .ret,h,l=>rfl
  | .goto _,h,l=>rfl
  | .scope _ _ _,h,l=>rfl
  | .bad,h,l=>rfl
theorem KC:∀ (pc:PC) (l:Nat) (r:PC),Zy pc l=some r→l∈ZO pc
 | .seq a b,l,r,h=>by
  simp only[Zy]at h
  simp only[ZO,List.mem_append]
  cases hf:Zy a l with
  | some q=>exact .inl (KC a l q hf)
  | none=>rw[hf]at h;exact .inr (KC b l r h)
 | .label l',l,r,h=>by
  simp only[Zy]at h
  cases hb:Nat.beq l' l with
  | true=>simp[ZO,Nat.eq_of_beq_eq_true hb]
  | false=>rw[hb]at h;cases h
 | .skip,l,r,h=>by cases h
 | .ops _,l,r,h=>by cases h
 | .cond _ _ _,l,r,h=>by cases h
 | .block _ _,l,r,h=>by cases h
 | .loop _,l,r,h=>by cases h
 | .exit _,l,r,h=>by cases h
 | .ret,l,r,h=>by cases h
 | .goto _,l,r,h=>by cases h
 | .scope _ _ _,l,r,h=>by cases h
 | .bad,l,r,h=>by cases h
def Snd (P:Program) (n:Nat) (c:Code) (pc:PC):Prop:=∀ (ks:Kp) (k:Env→Qa→Prop) (A:Env) (H:Qa),H.Wf→Qw P pc ks k A H→∃ex A1 H1,H1.Wf∧Fp ks k ex A1 H1∧AWp P n c (Qix ex A1 H1) A H
theorem Qjo {a b:Code} {x y:PC} (ha:Snd P n a x) (hb:Snd P n b y):Snd P n (.seq a b) (sq x y):=by
 intro ks k A H hwf h
 rw[QmB]at h
 obtain⟨ex,A1,H1,hw1,hf,ha⟩:=ha ks _ A H hwf h
 cases ex with
 | normal=>
  obtain⟨ex2,A2,H2,hw2,hf2,ha2⟩:=hb ks k A1 H1 hw1 hf
  refine⟨ex2,A2,H2,hw2,hf2,QbJ (ha.mono ?_)⟩
  rintro e A' H' ⟨rfl,rfl,rfl⟩
  exact ha2
 | ret=>exact⟨.ret,A1,H1,hw1,hf,QbJ (ha.mono (by rintro e A' H' ⟨rfl,rfl,rfl⟩;exact⟨rfl,rfl,rfl⟩))⟩
 | exit j=>exact⟨.exit j,A1,H1,hw1,hf,QbJ (ha.mono (by rintro e A' H' ⟨rfl,rfl,rfl⟩;exact⟨rfl,rfl,rfl⟩))⟩
 | goto j=>exact⟨.goto j,A1,H1,hw1,hf,QbJ (ha.mono (by rintro e A' H' ⟨rfl,rfl,rfl⟩;exact⟨rfl,rfl,rfl⟩))⟩
 | panic v=>exact hf.elim
def Qpb (P:Program) (n:Nat) (c:Code) (pc:PC):Prop:=Snd P n c pc∧∀l rest,findLabel c l=some rest→∃pr,Zy pc l=some pr∧comp P n rest=some pr∧Snd P n rest pr
theorem Qgx:∀ (c:Code) (pc:PC),comp P n c=some pc→Qpb P n c pc:=by
 intro c
 induction c with
 | skip=>intro pc hc;cases hc;exact⟨fun ks k A H hwf h=>⟨.normal,A,H,hwf,h,QdQ ⟨rfl,rfl,rfl⟩⟩,fun l rest h=>by cases h⟩
 | label l=>
  intro pc hc
  cases hc
  refine⟨fun ks k A H hwf h=>⟨.normal,A,H,hwf,h,Qfm ⟨rfl,rfl,rfl⟩⟩,fun l' rest h=>?_⟩
  obtain⟨pr,h1,h2⟩:=(Qcv (P:=P) (n:=n) (.label l) (.label l) rfl l').1 rest h
  refine⟨pr,h1,h2,?_⟩
  simp only[findLabel]at h
  split at h
  ·cases h
   cases h2
   exact fun ks k A H hwf h=>⟨.normal,A,H,hwf,h,QdQ ⟨rfl,rfl,rfl⟩⟩
  ·cases h
 | ret=>intro pc hc;cases hc;exact⟨fun ks k A H hwf h=>⟨.ret,A,H,hwf,h,Qja ⟨rfl,rfl,rfl⟩⟩,fun l rest h=>by cases h⟩
 | exit id=>
  intro pc hc
  simp only[comp,Option.some.injEq]at hc
  subst hc
  refine⟨fun ks k A H hwf h=>?_,fun l rest h=>by cases h⟩
  cases hb:Nat.blt id J0 with
  | true=>
   rw[hb]at h
   exact⟨.exit id,A,H,hwf,⟨by simpa using hb,h⟩,QgU ⟨rfl,rfl,rfl⟩⟩
  | false=>rw[hb]at h;exact h.elim
 | goto l=>intro pc hc;cases hc;exact⟨fun ks k A H hwf h=>⟨.goto l,A,H,hwf,h,QgV ⟨rfl,rfl,rfl⟩⟩,fun l rest h=>by cases h⟩
 | refuse s=>intro pc hc;cases hc;exact⟨fun ks k A H hwf h=>h.elim,fun l rest h=>by cases h⟩
 | rangeFunc f p a b iha ihb=>intro pc hc;cases hc;exact⟨fun ks k A H hwf h=>h.elim,fun l rest h=>by cases h⟩
 | region id ops draw=>
  intro pc hc
  refine⟨fun ks k A H hwf h=>?_,fun l rest h=>by cases h⟩
  cases draw with
  | false=>
   simp only[comp,Option.some.injEq]at hc
   subst hc
   split at h
   ·rename_i pl hpl
    obtain⟨A1,H1,hw1,hk,ha⟩:=Qbu ops.toList 0 pl k A H hwf hpl h
    exact⟨.normal,A1,H1,hw1,hk,(by
     have hw:AWp P n (.region id ops.toList.toArray false) (Qix .normal A1 H1) A H:=QdR (l:=ops.toList) (by
      have ha:GT P n ops ops.toList (Qix .normal A1 H1) A H:=ha
      simpa using ha)
     simpa using hw)⟩
   ·exact h.elim
  | true=>
   simp only[comp,Option.some.injEq]at hc
   subst hc
   split at h
   ·rename_i hcond
    simp only[Bool.and_eq_true]at hcond
    split at h
    ·rename_i pl hpl
     obtain⟨A1,H1,hw1,hk,ha⟩:=Qiw (id:=id) hwf hcond.1.1.1 (fun o ho=>by simpa using Array.all_eq_true_iff_forall_mem.1 hcond.2 o ho) hcond.1.1.2 hcond.1.2 hpl h
     exact⟨.normal,A1,H1,hw1,hk,ha⟩
    ·exact h.elim
   ·exact h.elim
 | seq a b iha ihb=>
  intro pc hc
  have hc0:=hc
  simp only[comp]at hc
  split at hc
  ·rename_i x y hx hy
   simp only[Option.some.injEq]at hc
   subst hc
   obtain⟨a1,a2⟩:=iha x hx
   obtain⟨b1,b2⟩:=ihb y hy
   refine⟨Qjo a1 b1,fun l rest h=>?_⟩
   obtain⟨pr,h1,h2⟩:=(Qcv _ _ hc0 l).1 rest h
   refine⟨pr,h1,h2,?_⟩
   cases hf:findLabel a l with
   | some r=>
    simp only[findLabel,hf,Option.some.injEq]at h
    subst h
    obtain⟨p1,q1,q2,q3⟩:=a2 l r hf
    simp only[comp,q2,hy,Option.some.injEq]at h2
    subst h2
    exact Qjo q3 b1
   | none=>
    simp only[findLabel,hf]at h
    obtain⟨p1,q1,q2,q3⟩:=b2 l rest h
    rw[h2]at q2
    cases q2
    exact q3
  ·cases hc
 | cond x a b iha ihb=>
  intro pc hc
  refine⟨fun ks k A H hwf h=>?_,fun l rest h=>by cases h⟩
  simp only[comp]at hc
  split at hc
  ·rename_i hok
   split at hc
   ·rename_i pa pb ha hb
    cases hc
    simp only[Qw]at h
    split at h
    ·rename_i t ht
     cases t with
     | true=>
      obtain⟨ex,A1,H1,hw1,hf,hw⟩:=(iha pa ha).1 ks k A H hwf (h.1 rfl)
      exact⟨ex,A1,H1,hw1,hf,QbK (t:=true) hok ht hw⟩
     | false=>
      obtain⟨ex,A1,H1,hw1,hf,hw⟩:=(ihb pb hb).1 ks k A H hwf (h.2 rfl)
      exact⟨ex,A1,H1,hw1,hf,QbK (t:=false) hok ht hw⟩
    ·exact h.elim
   ·cases hc
  ·cases hc
 | block id b ih=>
  intro pc hc
  refine⟨fun ks k A H hwf h=>?_,fun l rest h=>by cases h⟩
  simp only[comp,Option.map_eq_some_iff]at hc
  obtain⟨pb,hb,rfl⟩:=hc
  cases hlt:Nat.blt id J0 with
  | false=>rw[hlt]at h;exact h.elim
  | true=>
   rw[hlt]at h
   have hlt:id<J0:=by simpa using hlt
   obtain⟨ex,A1,H1,hw1,hf,hw⟩:=(ih pb hb).1 _ k A H hwf h
   cases ex with
   | normal=>exact⟨.normal,A1,H1,hw1,hf,KG (hw.mono (by rintro e A' H' ⟨rfl,rfl,rfl⟩;exact⟨rfl,rfl,rfl⟩))⟩
   | ret=>exact⟨.ret,A1,H1,hw1,hf,KG (hw.mono (by rintro e A' H' ⟨rfl,rfl,rfl⟩;exact⟨rfl,rfl,rfl⟩))⟩
   | exit j=>
    simp only[Fp]at hf
    by_cases hj:j=id
    ·rw[if_pos hj]at hf
     exact⟨.normal,A1,H1,hw1,hf.2,KG (hw.mono (by rintro e A' H' ⟨rfl,rfl,rfl⟩;simp only[QbL,if_pos hj];exact⟨rfl,rfl,rfl⟩))⟩
    ·rw[if_neg hj]at hf
     exact⟨.exit j,A1,H1,hw1,hf,KG (hw.mono (by rintro e A' H' ⟨rfl,rfl,rfl⟩;simp only[QbL,if_neg hj];exact⟨rfl,rfl,rfl⟩))⟩
   | goto j=>
    simp only[Fp]at hf
    rw[if_neg (by omega)]at hf
    exact⟨.goto j,A1,H1,hw1,hf,KG (hw.mono (by rintro e A' H' ⟨rfl,rfl,rfl⟩;exact⟨rfl,rfl,rfl⟩))⟩
   | panic v=>exact hf.elim
 | loop b ih=>
  intro pc hc
  refine⟨fun ks k A H hwf h=>?_,fun l rest h=>by cases h⟩
  simp only[comp,Option.map_eq_some_iff]at hc
  obtain⟨pb,hb,rfl⟩:=hc
  obtain⟨I,⟨m,hm⟩,hround⟩:=h
  have key:∀m A H,H.Wf→I m A H→∃ex A1 H1,H1.Wf∧Fp ks k ex A1 H1∧Qam P n b (Qix ex A1 H1) A H:=by
   intro m
   induction m using Nat.strongRecOn with
   | _ m ihm=>
    intro A H hwf hI
    obtain⟨ex,A1,H1,hw1,hf,hw⟩:=(ih pb hb).1 ks _ A H hwf (hround m A H hI)
    cases ex with
    | normal=>
     obtain⟨m',hlt,hI'⟩:=hf
     obtain⟨ex2,A2,H2,hw2,hf2,hl2⟩:=ihm m' hlt A1 H1 hw1 hI'
     exact⟨ex2,A2,H2,hw2,hf2,Vc (hw.mono (by rintro e A' H' ⟨rfl,rfl,rfl⟩;exact hl2))⟩
    | ret=>exact⟨.ret,A1,H1,hw1,hf,Vc (hw.mono (by rintro e A' H' ⟨rfl,rfl,rfl⟩;exact⟨rfl,rfl,rfl⟩))⟩
    | exit j=>exact⟨.exit j,A1,H1,hw1,hf,Vc (hw.mono (by rintro e A' H' ⟨rfl,rfl,rfl⟩;exact⟨rfl,rfl,rfl⟩))⟩
    | goto j=>exact⟨.goto j,A1,H1,hw1,hf,Vc (hw.mono (by rintro e A' H' ⟨rfl,rfl,rfl⟩;exact⟨rfl,rfl,rfl⟩))⟩
    | panic v=>exact hf.elim
  obtain⟨ex,A1,H1,hw1,hf,hw⟩:=key m A H hwf hm
  exact⟨ex,A1,H1,hw1,hf,Qc7 hw⟩
 | scope b ih=>
  intro pc hc
  refine⟨fun ks k A H hwf h=>?_,fun l rest h=>by cases h⟩
  simp only[comp,Option.map_eq_some_iff]at hc
  obtain⟨pb,hb,rfl⟩:=hc
  have hsnd:=ih pb hb
  have plain:(∀l,findLabel b l=none)→Qw P pb ks k A H→∃ex A1 H1,H1.Wf∧Fp ks k ex A1 H1∧AWp P n (.scope b) (Qix ex A1 H1) A H:=fun hno h=>by
   obtain⟨ex,A1,H1,hw1,hf,hw⟩:=hsnd.1 ks k A H hwf h
   refine⟨ex,A1,H1,hw1,hf,VF (Zg (hw.mono ?_))⟩
   rintro e A' H' ⟨rfl,rfl,rfl⟩
   cases e with
   | goto j=>simp only[QjV,hno j];exact⟨rfl,rfl,rfl⟩
   | _=>exact⟨rfl,rfl,rfl⟩
  unfold Qgo at h
  split at h
  ·rename_i hl
   refine plain (fun l=>?_) h
   cases hf:findLabel b l with
   | none=>rfl
   | some r=>
    obtain⟨pr,h1,_⟩:=hsnd.2 l r hf
    have:=KC _ _ _ h1
    rw[hl]at this
    cases this
  ·rename_i l hl
   split at h
   ·rename_i r hr
    obtain⟨I,⟨m,hm⟩,hround⟩:=h
    obtain⟨rest,hrest⟩:∃rest,findLabel b l=some rest:=by
     cases hf:findLabel b l with
     | none=>rw[(Qcv b pb hb l).2 hf]at hr;cases hr
     | some rest=>exact⟨rest,rfl⟩
    obtain⟨pr,q1,q2,q3⟩:=hsnd.2 l rest hrest
    rw[hr]at q1
    cases q1
    have hother:∀j,j≠l→findLabel b j=none:=fun j hj=>by
     cases hf:findLabel b j with
     | none=>rfl
     | some r2=>
      obtain⟨pr2,h1,_⟩:=hsnd.2 j r2 hf
      have:=KC _ _ _ h1
      rw[hl,List.mem_singleton]at this
      exact absurd this hj
    have key:∀m (c:Code) (pcc:PC),Snd P n c pcc→∀A H,H.Wf→Qw P pcc ⟨ks.ret,jmK l I m ks.ext⟩ k A H→∃ex A1 H1,H1.Wf∧Fp ks k ex A1 H1∧Gx P n b c (Qix ex A1 H1) A H:=by
     intro m
     induction m using Nat.strongRecOn with
     | _ m ihm=>
      intro c pcc hsc A H hwf hx
      obtain⟨ex,A1,H1,hw1,hf,hw⟩:=hsc _ k A H hwf hx
      cases ex with
      | normal=>exact⟨.normal,A1,H1,hw1,hf,Zg (hw.mono (by rintro e A' H' ⟨rfl,rfl,rfl⟩;exact⟨rfl,rfl,rfl⟩))⟩
      | ret=>exact⟨.ret,A1,H1,hw1,hf,Zg (hw.mono (by rintro e A' H' ⟨rfl,rfl,rfl⟩;exact⟨rfl,rfl,rfl⟩))⟩
      | exit j=>
       simp only[Fp,jmK]at hf
       rw[if_neg (by omega)]at hf
       exact⟨.exit j,A1,H1,hw1,hf,Zg (hw.mono (by rintro e A' H' ⟨rfl,rfl,rfl⟩;exact⟨rfl,rfl,rfl⟩))⟩
      | goto j=>
       simp only[Fp,jmK]at hf
       by_cases hj:j=l
       ·subst hj
        rw[if_pos rfl]at hf
        obtain⟨m',hlt,hI⟩:=hf
        obtain⟨ex2,A2,H2,hw2,hf2,hs2⟩:=ihm m' hlt rest r q3 A1 H1 hw1 (hround m' A1 H1 hI)
        refine⟨ex2,A2,H2,hw2,hf2,Zg (hw.mono ?_)⟩
        rintro e A' H' ⟨rfl,rfl,rfl⟩
        simp only[QjV,hrest]
        exact hs2
       ·rw[if_neg (by omega)]at hf
        refine⟨.goto j,A1,H1,hw1,hf,Zg (hw.mono ?_)⟩
        rintro e A' H' ⟨rfl,rfl,rfl⟩
        simp only[QjV,hother j hj]
        exact⟨rfl,rfl,rfl⟩
      | panic v=>exact hf.elim
    obtain⟨ex,A1,H1,hw1,hf,hw⟩:=key m b pb hsnd.1 A H hwf hm
    exact⟨ex,A1,H1,hw1,hf,VF hw⟩
   ·exact h.elim
  ·exact h.elim
theorem Qhm (c:Code) (pc:PC) (ks:Kp) (k:Env→Qa→Prop) (A:Env) (H:Qa) (hwf:H.Wf) (hc:comp P n c=some pc) (h:Qw P pc ks k A H):
  ∃ex A1 H1,H1.Wf∧Fp ks k ex A1 H1∧AWp P n c (Qix ex A1 H1) A H:=(Qgx c pc hc).1 ks k A H hwf h
def Qe8 (P:Program) (fn:Func) (k:Value→Qa→Prop):Env→Qa→Prop:=fun A H=>∃v,GU P fn.ntmps fn.results A H=some v∧∃H2,Yo H2 H∧(H.Wf→H2.Wf)∧k v H2
theorem Qel {f:FuncId} {fn:Func} {pc:PC} {args:List Value} {H:Qa} {k:Value→Qa→Prop} (hf:P.funcs[f]? = some fn) (hcb:fn.body.bind (comp P fn.ntmps)=some pc) (he:Qv P f=true) (hl:args.length≤fn.ntmps)
  (h:H.Wf→Qw P pc ⟨Qe8 P fn fun v H'=>H.next≤H'.next∧k v H',fun _ _ _=>False⟩ (Qe8 P fn fun v H'=>H.next≤H'.next∧k v H') (Zu args) H):Qf P f args H k:=by
 obtain⟨c,hb,hc⟩:=Option.bind_eq_some_iff.1 hcb
 intro hwf
 obtain⟨ex,A1,H1,hw1,hfp,hw⟩:=Qhm c pc _ _ (Zu args) H hwf hc (h hwf)
 have en:args.length+(fn.ntmps - args.length)=fn.ntmps:=by omega
 have main:Qe8 P fn (fun v H'=>H.next≤H'.next∧k v H') A1 H1→(ex=.normal∨ex=.ret)→∃v H',ZM P f args H v H'∧H.next≤H'.next∧H'.Wf∧k v H':=fun⟨v,hv,H2,hle,hw2,hn,hk⟩ hex=>by
  refine⟨v,H2,.inl ⟨he,Qbn hf hb ?_⟩,hn,hw2 hw1,hk⟩
  rw[en]
  refine hw.mono ?_
  rintro e A' H' ⟨rfl,rfl,rfl⟩
  rcases hex with rfl | rfl
  ·exact⟨v,rfl,hv,hle⟩
  ·exact⟨v,rfl,hv,hle⟩
 cases ex with
 | normal=>exact main hfp (.inl rfl)
 | ret=>exact main hfp (.inr rfl)
 | exit j=>exact hfp.2.elim
 | goto j=>exact hfp.elim
 | panic v=>exact hfp.elim
theorem Qf.mono {f:FuncId} {args:List Value} {H:Qa} {k k':Value→Qa→Prop} (h:Qf P f args H k) (hk:∀v H',k v H'→k' v H'):Qf P f args H k':=by
 intro hw
 obtain⟨v,H',h1,h2,h3,h4⟩:=h hw
 exact⟨v,H',h1,h2,h3,hk v H' h4⟩
theorem Qf.then {f:FuncId} {args:List Value} {H:Qa} {k k':Value→Qa→Prop} (h:Qf P f args H k) (hk:∀v H',H.next≤H'.next→k v H'→k' v H'):Qf P f args H k':=by
 intro hw
 obtain⟨v,H',h1,h2,h3,h4⟩:=h hw
 exact⟨v,H',h1,h2,h3,hk v H' h2 h4⟩
theorem Qbf {f:FuncId} {args:List Value} {H:Qa} {v:Value} (he:Qv P f=true) (h:J7 P f args H (.ret v) H):Qf P f args H fun u H'=>u=v∧H'=H:=
 fun hw=>⟨v,H,.inl ⟨he,h⟩,Nat.le_refl _,hw,rfl,rfl⟩
end
def Qa.up (H:Qa) (m:Nat):Qa:=⟨m,H.tr⟩
theorem Qa.get_up (H:Qa) (m id:Nat):(H.up m).get id=H.get id:=Eq.trans rfl rfl
@[simp] theorem Qa.next_up (H:Qa) (m:Nat):(H.up m).next=m:=Eq.trans rfl rfl
@[simp] theorem Qa.up_up (H:Qa) (m m':Nat):(H.up m).up m'=H.up m':=rfl
theorem Yo.up {H H1:Qa} {m:Nat} (hm:H1.next≤m) (h:∀id b,H.get id=some b→H1.get id=some b):Yo (H.up m) H1:=⟨hm,h⟩
def t (n:Nat):Operand:=.tmp n
def U:Env:=fun _=>undef
theorem W3 (A:Env) (d:Nat) (v:Value):upd A d v d=v:=Qac A d v
theorem Qm (A:Env) (d n:Nat) (v:Value) (h:n≠d):upd A d v n=A n:=J6 A v h
theorem Qjp (A:Env) (d n:Nat) (v:Value):upd A d v n=bif n==d then v else A n:=by
 by_cases h:n=d
 ·subst h;simp
 ·have e:(n==d)=false:=beq_false_of_ne h
  rw[J6 A v h,e];rfl
theorem QoP (A:Env) (n:Nat):ev A (t n)=A n:=Eq.trans rfl rfl
theorem Qhn (A:Env) (v:Value):ev A (.const v)=v:=Eq.trans rfl rfl
theorem QfG (A:Env) (g:Nat):ev A (.global g)=.pointer (some ⟨g,0,none⟩):=Eq.trans rfl rfl
theorem QmC (A:Env) (f:Nat):ev A (.func f)=.func (.func f) #[] #[]:=Eq.trans rfl rfl
theorem QfH (A:Env) (d:Nat) (v:Value):Yp A (some d) v=upd A d v:=Eq.trans rfl rfl
theorem QfI (A:Env) (v:Value):Yp A none v=A:=Eq.trans rfl rfl
theorem Qpc (a:Value):Zu [a]=upd U 0 a:=by
 funext n
 rcases n with _ | n
 ·rw[W3];rfl
 ·rw[Qm _ _ _ _ (by omega)];simp[Zu,U]
theorem Qpd (a b:Value):Zu [a,b]=upd (upd U 0 a) 1 b:=by
 funext n
 rcases n with _ | _ | n
 ·rw[Qm _ _ _ _ (by omega),W3];rfl
 ·rw[W3];rfl
 ·rw[Qm _ _ _ _ (by omega),Qm _ _ _ _ (by omega)];simp[Zu,U]
theorem Qpe (a b c d:Value):Zu [a,b,c,d]=upd (upd (upd (upd U 0 a) 1 b) 2 c) 3 d:=by
 funext n
 rcases n with _ | _ | _ | _ | n
 ·rw[Qm _ _ _ _ (by omega),Qm _ _ _ _ (by omega),Qm _ _ _ _ (by omega),W3];rfl
 ·rw[Qm _ _ _ _ (by omega),Qm _ _ _ _ (by omega),W3];rfl
 ·rw[Qm _ _ _ _ (by omega),W3];rfl
 ·rw[W3];rfl
 ·rw[Qm _ _ _ _ (by omega),Qm _ _ _ _ (by omega),Qm _ _ _ _ (by omega),Qm _ _ _ _ (by omega)];simp[Zu,U]
theorem Qpf (a b c d e:Value):Zu [a,b,c,d,e]=upd (upd (upd (upd (upd U 0 a) 1 b) 2 c) 3 d) 4 e:=by
 funext n
 rcases n with _ | _ | _ | _ | _ | n
 ·rw[Qm _ _ _ _ (by omega),Qm _ _ _ _ (by omega),Qm _ _ _ _ (by omega),Qm _ _ _ _ (by omega),W3];rfl
 ·rw[Qm _ _ _ _ (by omega),Qm _ _ _ _ (by omega),Qm _ _ _ _ (by omega),W3];rfl
 ·rw[Qm _ _ _ _ (by omega),Qm _ _ _ _ (by omega),W3];rfl
 ·rw[Qm _ _ _ _ (by omega),W3];rfl
 ·rw[W3];rfl
 ·rw[Qm _ _ _ _ (by omega),Qm _ _ _ _ (by omega),Qm _ _ _ _ (by omega),Qm _ _ _ _ (by omega),Qm _ _ _ _ (by omega)];simp[Zu,U]
section
variable {k:Value→Qa→Prop} {v:Value} {H H':Qa}
theorem Qn:onS (some (v,H')) k=k v H':=by
 apply propext
 constructor
 ·rintro⟨v1,H1,h,hk⟩;cases h;exact hk
 ·exact fun h=>⟨_,_,rfl,h⟩
theorem Qem:onS none k=False:=by
 apply propext
 constructor
 ·rintro⟨v1,H1,h,hk⟩;cases h
 ·exact fun h=>h.elim
theorem Qb0 {c:Prop} [Decidable c] {a:Option (Value×Qa)}:onS (if c then a else none) k=(c∧onS a k):=by
 by_cases h:c
 ·simp[h]
 ·simp[h,Qem]
theorem Qat {r:Option Value}:onS (Qao H r) k=∃v,r=some v∧k v H:=by
 cases r with
 | none=>simp[Qao,Qem]
 | some u=>simp[Qao,Qn]
end
/-! ### Code -/
section
variable {P:Program}
def Qen (P:Program) (l:List PO) (k:Env→Qa→Prop) (A:Env) (d:Option Nat) (v:Value) (H:Qa):Prop:=Ka P l k (Yp A d v) H
theorem Qiy (l:List PO) (k:Env→Qa→Prop) (A:Env) (d:Nat) (v:Value) (H:Qa):Qen P l k A (some d) v H=Ka P l k (upd A d v) H:=Eq.trans rfl rfl
theorem Qiz (l:List PO) (k:Env→Qa→Prop) (A:Env) (v:Value) (H:Qa):Qen P l k A none v H=Ka P l k A H:=Eq.trans rfl rfl
def gB (b:Bool) (P:Program) (r:R) (s:Bool) (l:List PO) (k:Env→Qa→Prop) (A:Env) (d:Option Nat) (H:Qa):Prop:=
 (b=true→pr P r s A H (Qen P l k A d))∧(b=false→Ka P l k (Yp A d undef) H)
def gV (v:Value) (w:Bool) (P:Program) (r:R) (s:Bool) (l:List PO) (k:Env→Qa→Prop) (A:Env) (d:Option Nat) (H:Qa):Prop:=
 match v with
 | .bool b=>gB (b==w) P r s l k A d H
 | .tuple _=>Ka P l k (Yp A d undef) H
 | _=>False
theorem QmD (r:R) (s:Bool) (l:List PO) (k:Env→Qa→Prop) (A:Env) (d:Option Nat) (H:Qa):gB true P r s l k A d H=pr P r s A H (Qen P l k A d):=by simp[gB]
theorem Qlh (r:R) (s:Bool) (l:List PO) (k:Env→Qa→Prop) (A:Env) (d:Option Nat) (H:Qa):gB false P r s l k A d H=Ka P l k (Yp A d undef) H:=by simp[gB]
theorem QmE (b w:Bool) (r:R) (s:Bool) (l:List PO) (k:Env→Qa→Prop) (A:Env) (d:Option Nat) (H:Qa):gV (.bool b) w P r s l k A d H=gB (b==w) P r s l k A d H:=Eq.trans rfl rfl
theorem Qli (w:Bool) (r:R) (s:Bool) (l:List PO) (k:Env→Qa→Prop) (A:Env) (d:Option Nat) (H:Qa):gV undef w P r s l k A d H=Ka P l k (Yp A d undef) H:=Eq.trans rfl rfl
theorem bt (b:Bool):(b==true)=b:=by cases b<;>rfl
theorem bf (b:Bool):(b==false)=!b:=by cases b<;>rfl
theorem Qlj (k:Env→Qa→Prop) (A:Env) (H:Qa):Ka P [] k A H=k A H:=Eq.trans rfl rfl
theorem Qj6 (d:Option Nat) (r:R) (s:Bool) (l:List PO) (k:Env→Qa→Prop) (A:Env) (H:Qa):Ka P (⟨d,r,none,s⟩::l) k A H=pr P r s A H (Qen P l k A d):=Eq.trans rfl rfl
theorem QiA (d:Option Nat) (r:R) (n:Nat) (w s:Bool) (l:List PO) (k:Env→Qa→Prop) (A:Env) (H:Qa):Ka P (⟨d,r,some (n,w),s⟩::l) k A H=gV (A n) w P r s l k A d H:=by
 show pg (some (n,w)) A (pr P r s A H (Qen P l k A d)) (Ka P l k (Yp A d undef) H)=_
 show(match A n with | .bool b=>if b=w then pr P r s A H (Qen P l k A d) else Ka P l k (Yp A d undef) H | .tuple _=>Ka P l k (Yp A d undef) H | _=>False)=_
 unfold gV
 cases A n<;>try rfl
 rename_i b
 cases b<;>cases w<;>simp[gB]
theorem QiB (ks:Kp) (k:Env→Qa→Prop) (A:Env) (H:Qa):Qw P .skip ks k A H=k A H:=Eq.trans rfl rfl
theorem Qj7 (ks:Kp) (k:Env→Qa→Prop) (A:Env) (H:Qa):Qw P .ret ks k A H=ks.ret A H:=Eq.trans rfl rfl
theorem QiC (id:Nat) (ks:Kp) (k:Env→Qa→Prop) (A:Env) (H:Qa):Qw P (.exit id) ks k A H=ks.ext id A H:=Eq.trans rfl rfl
theorem Qj8 (l:List PO) (ks:Kp) (k:Env→Qa→Prop) (A:Env) (H:Qa):Qw P (.ops l) ks k A H=Ka P l k A H:=Eq.trans rfl rfl
theorem Qj9 (a b:PC) (ks:Kp) (k:Env→Qa→Prop) (A:Env) (H:Qa):Qw P (.seq a b) ks k A H=Qw P a ks (Qw P b ks k) A H:=Eq.trans rfl rfl
theorem Qho (l:Nat) (ks:Kp) (k:Env→Qa→Prop) (A:Env) (H:Qa):Qw P (.label l) ks k A H=k A H:=Eq.trans rfl rfl
theorem QiD (l:Nat) (ks:Kp) (k:Env→Qa→Prop) (A:Env) (H:Qa):Qw P (.goto l) ks k A H=ks.ext (J0+l) A H:=Eq.trans rfl rfl
theorem Qb1 (l:Nat) (I:Nat→Env→Qa→Prop) (m:Nat) (e:Nat→Env→Qa→Prop) (A:Env) (H:Qa):jmK l I m e (J0+l) A H=∃m',m'<m∧I m' A H:=by simp[jmK]
theorem Qhp {b r:PC} {l:Nat} {ks:Kp} {k:Env→Qa→Prop} {A:Env} {H:Qa} (I:Nat→Env→Qa→Prop) (m:Nat) (h0:Qw P b ⟨ks.ret,jmK l I m ks.ext⟩ k A H) (h:∀m A' H',I m A' H'→Qw P r ⟨ks.ret,jmK l I m ks.ext⟩ k A' H'):Qw P (.scope b l r) ks k A H:=
 ⟨I,⟨m,h0⟩,h⟩
def exK (id:Nat) (k:Env→Qa→Prop) (e:Nat→Env→Qa→Prop) (j:Nat):Env→Qa→Prop:=if j=id then k else e j
theorem Qlk (id:Nat) (k:Env→Qa→Prop) (e:Nat→Env→Qa→Prop) (A:Env) (H:Qa):exK id k e id A H=k A H:=by simp[exK]
theorem Qka (id j:Nat) (k:Env→Qa→Prop) (e:Nat→Env→Qa→Prop) (A:Env) (H:Qa) (h:j≠id):exK id k e j A H=e j A H:=by simp[exK,h]
def Qa0:Nat→Env→Qa→Prop:=fun _ _ _=>False
theorem Qhq (id:Nat) (b:PC) (ks:Kp) (k:Env→Qa→Prop) (A:Env) (H:Qa):Qw P (.block id b) ks k A H=Qw P b ⟨ks.ret,exK id k ks.ext⟩ k A H:=Eq.trans rfl rfl
theorem Qn8 (r:Env→Qa→Prop) (e:Nat→Env→Qa→Prop):(Kp.mk r e).ret=r:=Eq.trans rfl rfl
theorem Qn9 (r:Env→Qa→Prop) (e:Nat→Env→Qa→Prop):(Kp.mk r e).ext=e:=Eq.trans rfl rfl
def cB (b:Bool) (P:Program) (x y:PC) (ks:Kp) (k:Env→Qa→Prop) (A:Env) (H:Qa):Prop:=(b=true→Qw P x ks k A H)∧(b=false→Qw P y ks k A H)
def cV (v:Value) (P:Program) (x y:PC) (ks:Kp) (k:Env→Qa→Prop) (A:Env) (H:Qa):Prop:=match v with
 | .bool b=>cB b P x y ks k A H
 | _=>False
theorem QiE (c:Operand) (x y:PC) (ks:Kp) (k:Env→Qa→Prop) (A:Env) (H:Qa):Qw P (.cond c x y) ks k A H=cV (ev A c) P x y ks k A H:=Eq.trans rfl rfl
theorem QmF (b:Bool) (x y:PC) (ks:Kp) (k:Env→Qa→Prop) (A:Env) (H:Qa):cV (.bool b) P x y ks k A H=cB b P x y ks k A H:=Eq.trans rfl rfl
theorem QmG (x y:PC) (ks:Kp) (k:Env→Qa→Prop) (A:Env) (H:Qa):cB true P x y ks k A H=Qw P x ks k A H:=by simp[cB]
theorem Qll (x y:PC) (ks:Kp) (k:Env→Qa→Prop) (A:Env) (H:Qa):cB false P x y ks k A H=Qw P y ks k A H:=by simp[cB]
/-! ### Operations -/
variable {k:Value→Qa→Prop} {A:Env} {H:Qa}
def flK (H:Qa) (k:Value→Qa→Prop) (v:Value) (H':Qa):Prop:=QH H.next 6 v=true∧k v H'
theorem Qkb (H:Qa) (k:Value→Qa→Prop) (v:Value) (H':Qa):flK H k v H'=(QH H.next 6 v=true∧k v H'):=Eq.trans rfl rfl
def stK (H:Qa) (k:Value→Qa→Prop) (v:Value) (H':Qa):Prop:=(∀id,H'.get id=H.get id)∧k v H'
theorem Qkc (H:Qa) (k:Value→Qa→Prop) (v:Value) (H':Qa):stK H k v H'=((∀id,H'.get id=H.get id)∧k v H'):=Eq.trans rfl rfl
theorem Q4 (r:Option (Value×Qa)):onS r (fun v H'=>(false=true→QH H.next 6 v=true)∧k v H')=onS r k:=by
 congr 1;funext v H';simp
theorem QmH (r:Option (Value×Qa)):onS r (fun v H'=>(true=true→QH H.next 6 v=true)∧k v H')=onS r (flK H k):=by
 congr 1;funext v H';simp[flK]
theorem QmI (f:FuncId) (l:List Operand):pr P (.call f l) false A H k=Qf P f (l.map (ev A)) H k:=by
 show Qf P f (l.map (ev A)) H (fun v H'=>(false=true→∀id,H'.get id=H.get id)∧k v H')=_
 congr 1;funext v H';simp
theorem QiF (f:FuncId) (l:List Operand):pr P (.call f l) true A H k=Qf P f (l.map (ev A)) H (stK H k):=by
 show Qf P f (l.map (ev A)) H (fun v H'=>(true=true→∀id,H'.get id=H.get id)∧k v H')=_
 congr 1;funext v H';simp[stK]
def kpK (H:Qa) (k:Value→Qa→Prop) (v:Value) (H':Qa):Prop:=EqB H H'∧k v H'
theorem Qkd (H:Qa) (k:Value→Qa→Prop) (v:Value) (H':Qa):kpK H k v H'=(EqB H H'∧k v H'):=Eq.trans rfl rfl
def QiG (n:Nat):List Value→Prop
 | []=>True
 | v::l=>Qhf n v∧QiG n l
theorem Qlm (n:Nat):QiG n []=True:=Eq.trans rfl rfl
theorem Qke (n:Nat) (v:Value) (l:List Value):QiG n (v::l)=(Qhf n v∧QiG n l):=Eq.trans rfl rfl
theorem Qln (n b o:Nat):Qhf n (.pointer (some ⟨b,o,none⟩))=(b<n):=Eq.trans rfl rfl
theorem QiH (n b o l c:Nat):Qhf n (.slice (some ⟨b,o,none⟩) l c)=(b<n):=Eq.trans rfl rfl
theorem Qhr (n:Nat) (f:Operand→Value):∀l:List Operand,(∀z∈l,Qhf n (f z))↔QiG n (l.map f)
 | []=>⟨fun _=>trivial,fun _ _ h=>by cases h⟩
 | x::l=>by
  have ih:=Qhr n f l
  simp only[List.mem_cons,forall_eq_or_imp,List.map_cons,QiG,ih]
theorem Qlo (f:FuncId) (l os:List Operand) (s:Bool):pr P (.callF f l os) s A H k=(QiG H.next (os.map (ev A))∧Qf P f (l.map (ev A)) H (kpK H k)):=by
 show((∀z∈os,Qhf H.next (ev A z))∧Qf P f (l.map (ev A)) H fun v H'=>EqB H H'∧k v H')=_
 rw[Qhr]
 rfl
def cvK (v:Value) (P:Program) (l:List Value) (H:Qa) (k:Value→Qa→Prop):Prop:=match v with
 | .func (.func f) xs ys=>Qf P f (xs.toList++l++ys.toList) H k
 | _=>False
theorem Qlp (c:Operand) (l:List Operand):pr P (.callv c l) false A H k=cvK (ev A c) P (l.map (ev A)) H k:=by
 show(match ev A c with | .func (.func f) xs ys=>Qf P f (xs.toList++l.map (ev A)++ys.toList) H (fun v H'=>(false=true→∀id,H'.get id=H.get id)∧k v H') | _=>False)=_
 unfold cvK
 split<;>first | rfl | skip
 congr 1;funext v H';simp
theorem QoQ (x:Operand):pr P (.mv x) false A H k=k (ev A x) H:=(Q4 _).trans Qn
def QnG (c x y:Value) (H:Qa) (k:Value→Qa→Prop):Prop:=onS (match c with | .bool b=>some (bif b then x else y,H) | _=>none) k
theorem QmJ (c x y:Operand):pr P (.pick c x y) false A H k=QnG (ev A c) (ev A x) (ev A y) H k:=Q4 _
theorem QiI (b:Bool) (x y:Value):QnG (.bool b) x y H k=k (bif b then x else y) H:=Qn
def Zk (op:BinOp) (x y:Value) (H:Qa) (k:Value→Qa→Prop):Prop:=∃v,Zi op x y=some v∧k v H
theorem Qoa (op:BinOp) (x y:Operand):pr P (.bin op x y) false A H k=Zk op (ev A x) (ev A y) H k:=(Q4 _).trans Qat
theorem QJ {op:BinOp} {x y v:Value} (h:Zi op x y=some v):Zk op x y H k=k v H:=by
 apply propext
 constructor
 ·rintro⟨u,h1,h2⟩;rw[h]at h1;cases h1;exact h2
 ·exact fun hk=>⟨v,h,hk⟩
theorem QmK (ik:IntKind) (a b:Int):Zk .add (.int ik a) (.int ik b) H k=k (.int ik (ik.wrap (a+b))) H:=QJ (by simp[Zi,Xu])
theorem QmL (ik:IntKind) (a b:Int):Zk .sub (.int ik a) (.int ik b) H k=k (.int ik (ik.wrap (a - b))) H:=QJ (by simp[Zi,Xu])
theorem QmM (ik:IntKind) (a b:Int):Zk .mul (.int ik a) (.int ik b) H k=k (.int ik (ik.wrap (a * b))) H:=QJ (by simp[Zi,Xu])
theorem QmN (ik:IntKind) (a b:Int):Zk .and (.int ik a) (.int ik b) H k=k (.int ik (ik.wrap (BitVec.ofInt ik.bits a &&& BitVec.ofInt ik.bits b).toNat)) H:=QJ (by simp[Zi,Xu])
theorem Qob (ik:IntKind) (a b:Int):Zk .or (.int ik a) (.int ik b) H k=k (.int ik (ik.wrap (BitVec.ofInt ik.bits a ||| BitVec.ofInt ik.bits b).toNat)) H:=QJ (by simp[Zi,Xu])
theorem QmO (ik:IntKind) (a b:Int):Zk .xor (.int ik a) (.int ik b) H k=k (.int ik (ik.wrap (BitVec.ofInt ik.bits a ^^^ BitVec.ofInt ik.bits b).toNat)) H:=QJ (by simp[Zi,Xu])
theorem QiJ (ik:IntKind) (a b:Int):Zk .andNot (.int ik a) (.int ik b) H k=k (.int ik (ik.wrap (BitVec.ofInt ik.bits a &&& ~~~BitVec.ofInt ik.bits b).toNat)) H:=QJ (by simp[Zi,Xu])
theorem QmP (ik:IntKind) (a b:Int):Zk .eql (.int ik a) (.int ik b) H k=k (.bool (a==b)) H:=QJ (by simp[Zi,Xu])
theorem QmQ (ik:IntKind) (a b:Int):Zk .neq (.int ik a) (.int ik b) H k=k (.bool (!(a==b))) H:=QJ (by simp[Zi,Xu,bne])
theorem QmR (ik:IntKind) (a b:Int):Zk .lss (.int ik a) (.int ik b) H k=k (.bool (decide (a<b))) H:=QJ (by simp[Zi,Xu])
theorem QmS (ik:IntKind) (a b:Int):Zk .leq (.int ik a) (.int ik b) H k=k (.bool (decide (a≤b))) H:=QJ (by simp[Zi,Xu])
theorem QmT (ik:IntKind) (a b:Int):Zk .gtr (.int ik a) (.int ik b) H k=k (.bool (decide (b<a))) H:=QJ (by simp[Zi,Xu])
theorem QmU (ik:IntKind) (a b:Int):Zk .geq (.int ik a) (.int ik b) H k=k (.bool (decide (b≤a))) H:=QJ (by simp[Zi,Xu])
theorem QmV (ik:IntKind) (a b:Int):Zk .rem (.int ik a) (.int ik b) H k=(b≠0∧k (.int ik (a.tmod b)) H):=by
 unfold Zk;by_cases h:b=0<;>simp[Zi,Xu,h]
theorem QmW (ik:IntKind) (a b:Int):Zk .quo (.int ik a) (.int ik b) H k=(b≠0∧k (.int ik (ik.wrap (a.tdiv b))) H):=by
 unfold Zk;by_cases h:b=0<;>simp[Zi,Xu,h]
theorem QmX (ik ik':IntKind) (a b:Int):Zk .shl (.int ik a) (.int ik' b) H k=(0≤b∧k (.int ik (ik.wrap (a * 2 ^ (min b.toNat ik.bits)))) H):=by
 unfold Zk;by_cases h:b<0
 ·simp[Zi,JQ,h];omega
 ·simp[Zi,JQ,h];intro _;omega
theorem QmY (ik ik':IntKind) (a b:Int):Zk .shr (.int ik a) (.int ik' b) H k=(0≤b∧k (.int ik (a.fdiv (2 ^ (min b.toNat ik.bits)))) H):=by
 unfold Zk;by_cases h:b<0
 ·simp[Zi,JQ,h];omega
 ·simp[Zi,JQ,h];intro _;omega
theorem QmZ (a b:ByteArray):Zk .eql (.string a) (.string b) H k=k (.bool (bl a==bl b)) H:=QJ (by simp[Zi,KL])
theorem Qm0 (a b:ByteArray):Zk .neq (.string a) (.string b) H k=k (.bool (!(bl a==bl b))) H:=QJ (by simp[Zi,KL])
theorem Qlq (a b:ByteArray):Zk .add (.string a) (.string b) H k=((bl a).length+(bl b).length≤9223372036854775807∧k (.string (mkS (bl a++bl b))) H):=by
 unfold Zk;by_cases h:(bl a).length+(bl b).length≤9223372036854775807<;>simp[Zi,KL,h]
def Qoc (ne:Bool) (x y:Value) (H:Qa) (k:Value→Qa→Prop):Prop:=onS (match x,y with | .bool a,.bool b=>some (.bool (bif ne then !(a==b) else a==b),H) | _,_=>none) k
theorem Qod (ne:Bool) (x y:Operand):pr P (.beq ne x y) false A H k=Qoc ne (ev A x) (ev A y) H k:=Q4 _
theorem Qm1 (a b:Bool):Qoc false (.bool a) (.bool b) H k=k (.bool (a==b)) H:=Qn
theorem Qm2 (a b:Bool):Qoc true (.bool a) (.bool b) H k=k (.bool (!(a==b))) H:=Qn
def Qoe (ne:Bool) (ks:List Sk) (x y:Value) (H:Qa) (k:Value→Qa→Prop):Prop:=onS (match x,y with
 | .agg xs,.agg ys=>match YK ks xs ys 0 with | some b=>some (.bool (bif ne then !b else b),H) | none=>none
 | _,_=>none) k
theorem Qof (ne:Bool) (ks:List Sk) (x y:Operand):pr P (.eqs ne ks x y) false A H k=Qoe ne ks (ev A x) (ev A y) H k:=Q4 _
theorem QfJ {ne:Bool} {ks:List Sk} {xs ys:Array Value} {b:Bool} (h:YK ks xs ys 0=some b):Qoe ne ks (.agg xs) (.agg ys) H k=k (.bool (bif ne then !b else b)) H:=by
 simp only[Qoe,h,Qn]
theorem YL {kd:Sk} {ks:List Sk} {xs ys:Array Value} {i:Nat} {a b:Value} {p q:Bool} (ha:xs[i]? = some a) (hb:ys[i]? = some b) (hp:Qe2 kd a b=some p) (hq:YK ks xs ys (i+1)=some q):YK (kd::ks) xs ys i=some (p&&q):=by
 unfold YK
 rw[ha,hb]
 simp only[hp]
 cases p
 ·rfl
 ·simp[hq]
def QoR (x:Value) (H:Qa) (k:Value→Qa→Prop):Prop:=onS (match x with | .bool b=>some (.bool !b,H) | _=>none) k
theorem Qog (x:Operand):pr P (.not x) false A H k=QoR (ev A x) H k:=Q4 _
theorem Qkf (b:Bool):QoR (.bool b) H k=k (.bool !b) H:=Qn
def Qlr (ik:IntKind) (x:Value) (H:Qa) (k:Value→Qa→Prop):Prop:=onS (match x with | .int _ m=>some (.int ik (ik.wrap m),H) | _=>none) k
theorem Qls (ik:IntKind) (x:Operand):pr P (.toInt ik x) false A H k=Qlr ik (ev A x) H k:=Q4 _
theorem QiK (ik ik':IntKind) (m:Int):Qlr ik (.int ik' m) H k=k (.int ik (ik.wrap m)) H:=Qn
theorem Qm3 (ty:TypeId) (x:Operand):pr P (.mkIf ty x) false A H k=k (.iface ty (ev A x)) H:=(Q4 _).trans Qn
def Qoh (agg:Bool) (off size:Nat) (x:Value) (H:Qa) (k:Value→Qa→Prop):Prop:=onS (match x with
 | .agg cs=>Qao H (bif agg then some (.agg (cs.extract off (off+size))) else cs[off]?)
 | _=>none) k
theorem Qoi (agg:Bool) (off size:Nat) (x:Operand):pr P (.fld agg off size x) false A H k=Qoh agg off size (ev A x) H k:=Q4 _
theorem Qkg (off size:Nat) (l:List Value):Qoh false off size (.agg l.toArray) H k=∃v,l[off]? = some v∧k v H:=by
 show onS (Qao H l.toArray[off]?) k=_
 rw[Qat];simp
theorem Qlt (off size:Nat) (l:List Value):Qoh true off size (.agg l.toArray) H k=k (.agg ((l.drop off).take size).toArray) H:=by
 show onS (Qao H (some (.agg (l.toArray.extract off (off+size))))) k=_
 rw[Qat];simp
def QnH (off:Nat) (x:Value) (H:Qa) (k:Value→Qa→Prop):Prop:=onS (match x with | .pointer (some a)=>some (.pointer (some ⟨a.block,a.off+off,none⟩),H) | _=>none) k
theorem Qm4 (off:Nat) (x:Operand):pr P (.fldA off x) false A H k=QnH off (ev A x) H k:=Q4 _
theorem Qkh (off b o:Nat):QnH off (.pointer (some ⟨b,o,none⟩)) H k=k (.pointer (some ⟨b,o+off,none⟩)) H:=Qn
def QoS (size:Nat) (x ix:Value) (H:Qa) (k:Value→Qa→Prop):Prop:=onS (match ix,x with
 | .int _ m,.slice (some a) len _=>if 0≤m∧m<len then some (.pointer (some ⟨a.block,a.off+m.toNat * size,none⟩),H) else none
 | _,_=>none) k
theorem Qm5 (size:Nat) (x ix:Operand):pr P (.idxS size x ix) false A H k=QoS size (ev A x) (ev A ix) H k:=Q4 _
theorem QiL (size:Nat) (ik:IntKind) (m:Int) (b o len cap:Nat):QoS size (.slice (some ⟨b,o,none⟩) len cap) (.int ik m) H k=((0≤m∧m<len)∧k (.pointer (some ⟨b,o+m.toNat * size,none⟩)) H):=by
 show onS (if 0≤m∧m<len then some (.pointer (some ⟨b,o+m.toNat * size,none⟩),H) else none) k=_
 rw[Qb0,Qn]
def QoT (x ix:Value) (H:Qa) (k:Value→Qa→Prop):Prop:=onS (match ix,x with
 | .int _ m,.string s=>if 0≤m then(match (bl s)[m.toNat]? with | some b=>some (.int .u8 b.toNat,H) | none=>none) else none
 | _,_=>none) k
theorem Qoj (x ix:Operand):pr P (.chr x ix) false A H k=QoT (ev A x) (ev A ix) H k:=Q4 _
theorem Qk (ik:IntKind) (m:Int) (s:ByteArray):QoT (.string s) (.int ik m) H k=(0≤m∧∃b,(bl s)[m.toNat]? = some b∧k (.int .u8 b.toNat) H):=by
 show onS (if 0≤m then(match (bl s)[m.toNat]? with | some b=>some (.int .u8 b.toNat,H) | none=>none) else none) k=_
 rw[Qb0]
 congr 1
 cases hb:(bl s)[m.toNat]? with
 | some b=>simp[Qn]
 | none=>simp[Qem]
def Qm6 (x:Value) (i:Nat) (H:Qa) (k:Value→Qa→Prop):Prop:=onS (match x with | .tuple vs=>Qao H vs[i]? | _=>none) k
theorem Qok (x:Operand) (i:Nat):pr P (.ext x i) false A H k=Qm6 (ev A x) i H k:=Q4 _
theorem Qol (a:Value) (l:List Value):Qm6 (.tuple (a::l).toArray) 0 H k=k a H:=Qn
theorem Qom (a b:Value) (l:List Value):Qm6 (.tuple (a::b::l).toArray) 1 H k=k b H:=Qn
theorem Qon (a b c:Value) (l:List Value):Qm6 (.tuple (a::b::c::l).toArray) 2 H k=k c H:=Qn
def Qeo (ty:TypeId) (z:Value) (ok:Bool) (x:Value) (H:Qa) (k:Value→Qa→Prop):Prop:=onS (match x with
 | .nilIface=>bif ok then some (.tuple #[z,.bool false],H) else none
 | .iface u v=>if u=ty then some (bif ok then .tuple #[v,.bool true] else v,H) else(bif ok then some (.tuple #[z,.bool false],H) else none)
 | _=>none) k
theorem Qm7 (ty:TypeId) (z:Value) (ok:Bool) (x:Operand):pr P (.asrt ty z ok x) false A H k=Qeo ty z ok (ev A x) H k:=Q4 _
theorem Qki (ty:TypeId) (z v:Value):Qeo ty z true (.iface ty v) H k=k (.tuple #[v,.bool true]) H:=by simp[Qeo,Qn]
theorem Qlu (ty u:TypeId) (z v:Value) (h:u≠ty):Qeo ty z true (.iface u v) H k=k (.tuple #[z,.bool false]) H:=by simp[Qeo,h,Qn]
theorem QiM (ty:TypeId) (z v:Value):Qeo ty z false (.iface ty v) H k=k v H:=by simp[Qeo,Qn]
def Qlv (r:Option (List Value)) (H:Qa) (k:Value→Qa→Prop):Prop:=onS (match r with | some r=>some (.agg r.toArray,H) | none=>none) k
theorem Qlw (z:List Value) (parts:List (Nat×Nat×Operand)):pr P (.build z parts) false A H k=Qlv (Qdd (ev A) z parts) H k:=Q4 _
theorem Qhs (l:List Value):Qlv (some l) H k=k (.agg l.toArray) H:=Qn
theorem Qkj (f:Operand→Value) (cells:List Value):Qdd f cells []=some cells:=Eq.trans rfl rfl
theorem QiN (f:Operand→Value) (cells:List Value) (off size:Nat) (x:Operand) (rest:List (Nat×Nat×Operand)):Qdd f cells ((off,size,x)::rest)=if(f x).cells.toList.length=size∧off+size≤cells.length then Qdd f (splice cells off (f x).cells.toList) rest else none:=Eq.trans rfl rfl
def Qjq (e len:Nat) (r:Option (List Value)) (H:Qa) (k:Value→Qa→Prop):Prop:=onS (match r with | some r=>some (.slice (some ⟨H.next,0,none⟩) len len,H.push (.cells r e false)) | none=>none) k
def Qjr (size:Nat) (cells:List Value) (parts:List (Nat×Value)):Option (List Value):=Gw (fun i=>some (i * size,size)) cells parts
def evP (A:Env) (p:Nat×Operand):Nat×Value:=(p.1,ev A p.2)
theorem Qoo (A:Env) (i:Nat) (x:Operand):evP A (i,x)=(i,ev A x):=Eq.trans rfl rfl
theorem Qkk (e size len:Nat) (z:List Value) (parts:List (Nat×Operand)):pr P (.bslice e size len z parts) false A H k=Qjq e len (Qjr size z (parts.map (evP A))) H k:=Q4 _
theorem Qgy (e len:Nat) (l:List Value):Qjq e len (some l) H k=k (.slice (some ⟨H.next,0,none⟩) len len) (H.push (.cells l e false)):=Qn
theorem Qkl (size:Nat) (cells:List Value):Qjr size cells []=some cells:=Eq.trans rfl rfl
theorem QiO (size:Nat) (cells:List Value) (i:Nat) (v:Value) (rest:List (Nat×Value)):Qjr size cells ((i,v)::rest)=if v.cells.toList.length=size∧i * size+size≤cells.length then Qjr size (splice cells (i * size) v.cells.toList) rest else none:=Eq.trans rfl rfl
theorem Qlx (e:TypeId) (z:List Value):pr P (.alloc e z) false A H k=k (.pointer (some ⟨H.next,0,none⟩)) (H.push (.cells z e false)):=(Q4 _).trans Qn
theorem Qop (e:TypeId) (x:Operand):pr P (.box e x) false A H k=k (.pointer (some ⟨H.next,0,none⟩)) (H.push (.cells (ev A x).cells.toList e false)):=(Q4 _).trans Qn
def QnI (e size bytes:Nat) (z:List Value) (x y:Value) (H:Qa) (k:Value→Qa→Prop):Prop:=onS (match x,y with
 | .int .i64 l,.int .i64 c=>if 0≤l∧l≤c∧(bytes:Int) * c≤281474976710656∧c≤9223372036854775807 then
   some (.slice (some ⟨H.next,0,none⟩) l.toNat c.toNat,H.push (.cells (Xn z.toArray (c.toNat * size)) e false)) else none
 | _,_=>none) k
theorem Qm8 (e size bytes:Nat) (z:List Value) (x y:Operand):pr P (.mkSl e size bytes z x y) false A H k=QnI e size bytes z (ev A x) (ev A y) H k:=Q4 _
theorem Qkm (e size bytes:Nat) (z:List Value) (l c:Int):QnI e size bytes z (.int .i64 l) (.int .i64 c) H k=((0≤l∧l≤c∧(bytes:Int) * c≤281474976710656∧c≤9223372036854775807)∧k (.slice (some ⟨H.next,0,none⟩) l.toNat c.toNat) (H.push (.cells (Xn z.toArray (c.toNat * size)) e false))):=by
 show onS (if 0≤l∧l≤c∧(bytes:Int) * c≤281474976710656∧c≤9223372036854775807 then some (.slice (some ⟨H.next,0,none⟩) l.toNat c.toNat,H.push (.cells (Xn z.toArray (c.toNat * size)) e false)) else none) k=_
 rw[Qb0,Qn]
def slK (size:Nat) (x:Value) (lo hi:Option (Option Int)) (H:Qa) (k:Value→Qa→Prop):Prop:=onS (match lo,hi with
 | some l,some h=>Qao H (ZL size x l h none)
 | _,_=>none) k
theorem Qly (size:Nat) (x:Value) (l h:Option Int):slK size x (some l) (some h) H k=∃v,ZL size x l h none=some v∧k v H:=Qat
theorem Qoq (size:Nat) (x:Operand) (lo hi:Option Operand):pr P (.slS size x lo hi) false A H k=slK size (ev A x) (Qfz (ev A) lo) (Qfz (ev A) hi) H k:=Q4 _
theorem QiP (f:Operand→Value):Qfz f none=some none:=Eq.trans rfl rfl
theorem QiQ (f:Operand→Value) (x:Operand):Qfz f (some x)=match f x with | .int _ m=>some (some m) | _=>none:=Eq.trans rfl rfl
def ldB (agg:Bool) (size off:Nat) (b:Option Blk) (H:Qa) (k:Value→Qa→Prop):Prop:=onS (match b with
 | some (.cells c _ _)=>bif agg then(if off+size≤c.length then some (.agg ((c.drop off).take size).toArray,H) else none) else Qao H c[off]?
 | _=>none) k
def ldK (agg:Bool) (size:Nat) (x:Value) (H:Qa) (k:Value→Qa→Prop):Prop:=onS (match x with
 | .pointer (some a)=>match H.get a.block with
  | some (.cells c _ _)=>bif agg then(if a.off+size≤c.length then some (.agg ((c.drop a.off).take size).toArray,H) else none) else Qao H c[a.off]?
  | _=>none
 | _=>none) k
theorem QoU (agg:Bool) (size:Nat) (x:Operand):pr P (.ld agg size x) false A H k=ldK agg size (ev A x) H k:=Q4 _
theorem Qlz (agg:Bool) (size:Nat) (x:Operand):pr P (.ld agg size x) true A H k=ldK agg size (ev A x) H (flK H k):=QmH _
theorem Qm9 (agg:Bool) (size b o:Nat):ldK agg size (.pointer (some ⟨b,o,none⟩)) H k=ldB agg size o (H.get b) H k:=Eq.trans rfl rfl
theorem QlA (size off:Nat) (c:List Value) (e:TypeId) (ro:Bool):ldB false size off (some (.cells c e ro)) H k=∃v,c[off]? = some v∧k v H:=Qat
theorem Qna (size off:Nat) (c:List Value) (e:TypeId) (ro:Bool):ldB true size off (some (.cells c e ro)) H k=(off+size≤c.length∧k (.agg ((c.drop off).take size).toArray) H):=by
 show onS (if off+size≤c.length then some (.agg ((c.drop off).take size).toArray,H) else none) k=_
 rw[Qb0,Qn]
def QoV (size:Nat) (a:Addr) (y:Value) (b:Option Blk) (H:Qa) (k:Value→Qa→Prop):Prop:=onS (match b with
 | some (.cells c e false)=>if y.cells.toList.length=size∧a.off+y.cells.toList.length≤c.length∧y.cells.toList.all (·.oneCell')=true then some (undef,H.set a.block (.cells (splice c a.off y.cells.toList) e false)) else none
 | _=>none) k
def Qor (size:Nat) (x y:Value) (H:Qa) (k:Value→Qa→Prop):Prop:=onS (match x with
 | .pointer (some a)=>match H.get a.block with
  | some (.cells c e false)=>if y.cells.toList.length=size∧a.off+y.cells.toList.length≤c.length∧y.cells.toList.all (·.oneCell')=true then some (undef,H.set a.block (.cells (splice c a.off y.cells.toList) e false)) else none
  | _=>none
 | _=>none) k
theorem QoW (size:Nat) (x y:Operand):pr P (.st size x y) false A H k=Qor size (ev A x) (ev A y) H k:=Q4 _
theorem QlB (size b o:Nat) (y:Value):Qor size (.pointer (some ⟨b,o,none⟩)) y H k=QoV size ⟨b,o,none⟩ y (H.get b) H k:=Eq.trans rfl rfl
theorem QiR (size b o:Nat) (y:Value) (c:List Value) (e:TypeId):QoV size ⟨b,o,none⟩ y (some (.cells c e false)) H k=((y.cells.toList.length=size∧o+y.cells.toList.length≤c.length∧y.cells.toList.all (·.oneCell')=true)∧k undef (H.set b (.cells (splice c o y.cells.toList) e false))):=by
 show onS (if y.cells.toList.length=size∧o+y.cells.toList.length≤c.length∧y.cells.toList.all (·.oneCell')=true then some (undef,H.set b (.cells (splice c o y.cells.toList) e false)) else none) k=_
 rw[Qb0,Qn]
def apL:List Value→Value→Prop
 | [],_=>True
 | z::l,x=>Qbs x z∧apL l x
def apK (os:List Value) (x:Value) (k:Value→Qa→Prop) (v:Value) (H':Qa):Prop:=apL os x∧k v H'
theorem QfK (os:List Value) (x:Value) (k:Value→Qa→Prop) (v:Value) (H':Qa):apK os x k v H'=(apL os x∧k v H'):=Eq.trans rfl rfl
theorem Qnb (x:Value):apL [] x=True:=Eq.trans rfl rfl
theorem QlC (z x:Value) (l:List Value):apL (z::l) x=(Qbs x z∧apL l x):=Eq.trans rfl rfl
theorem QiS (b o b' o':Nat):Qbs (.pointer (some ⟨b,o,none⟩)) (.pointer (some ⟨b',o',none⟩))=(b'≠b):=Eq.trans rfl rfl
theorem Qgz (b o:Nat):Qbs (.pointer (some ⟨b,o,none⟩)) undef=True:=Eq.trans rfl rfl
theorem Qnc (os:List Operand) (x:Value):apL (os.map (ev A)) x=∀z∈os,Qbs x (ev A z):=by
 induction os with
 | nil=>simp[apL]
 | cons z l ih=>simp[apL,ih]
theorem Qos (size:Nat) (x y:Operand) (os:List Operand) (s:Bool):pr P (.stf size x y os) s A H k=Qor size (ev A x) (ev A y) H (apK (os.map (ev A)) (ev A x) k):=by
 show onS (rop P (.st size x y) A H) (fun v H'=>(∀z∈os,Qbs (ev A x) (ev A z))∧k v H')=onS (rop P (.st size x y) A H) _
 congr 1;funext v H'
 rw[QfK,Qnc]
def QnJ (x:Value) (H:Qa) (k:Value→Qa→Prop):Prop:=onS (match x with | .slice _ m _=>some (.int .i64 (m:Int),H) | _=>none) k
theorem Qnd (x:Operand):pr P (.lenS x) false A H k=QnJ (ev A x) H k:=Q4 _
theorem Qb (a:Option Addr) (len cap:Nat):QnJ (.slice a len cap) H k=k (.int .i64 (len:Int)) H:=Qn
def QnK (x:Value) (H:Qa) (k:Value→Qa→Prop):Prop:=onS (match x with | .string s=>some (.int .i64 ((bl s).length:Int),H) | _=>none) k
theorem Qne (x:Operand):pr P (.lenT x) false A H k=QnK (ev A x) H k:=Q4 _
theorem Qe (s:ByteArray):QnK (.string s) H k=k (.int .i64 ((bl s).length:Int)) H:=Qn
def Qe9 (e size bytes:Nat) (s x:Value) (H:Qa) (k:Value→Qa→Prop):Prop:=onS (KB e size bytes s x H) k
theorem Qot (e size bytes:Nat) (x y:Operand):pr P (.app e size bytes x y) false A H k=Qe9 e size bytes (ev A x) (ev A y) H k:=Q4 _
theorem QgA (f:FuncId) (l:List Operand):pr P (.gen (.makeFunc (.func f) #[] l.toArray)) false A H k=k (.func (.func f) #[] (l.map (ev A)).toArray) H:=by
 have e:rop P (.gen (.makeFunc (.func f) #[] l.toArray)) A H=some (.func (.func f) #[] (l.map (ev A)).toArray,H):=by simp[rop,aop,Qbr,Gt]
 refine(Q4 _).trans ?_
 rw[e,Qn]
def QoX (v:Value) (H:Qa) (k:Value→Qa→Prop):Prop:=onS (bif Qaf v then some (v,H) else none) k
theorem Qou (x:Operand):pr P (.gen (.nilCheck x)) false A H k=QoX (ev A x) H k:=by
 have e:rop P (.gen (.nilCheck x)) A H=(bif Qaf (ev A x) then some (ev A x,H) else none):=by
  simp only[rop,aop,Qbq]
  cases Qaf (ev A x)<;>rfl
 refine(Q4 _).trans ?_
 rw[e];rfl
theorem QI (a:Addr):QoX (.pointer (some a)) H k=k (.pointer (some a)) H:=Qn
theorem Qht (ty:TypeId):pr P (.gen (.makeMap ty none)) false A H k=k (.map (some H.next)) (H.push (.map [])):=by
 have e:rop P (.gen (.makeMap ty none)) A H=some (.map (some H.next),H.push (.map [])):=by simp[rop,aop]
 refine(Q4 _).trans ?_
 rw[e,Qn]
end
theorem QgB {e size bytes m len b o cap:Nat} {news c:List Value} {x:Value} {H:Qa} {ro:Bool} {e':TypeId} (hx:VB size x H=some (m,news)) (h1:news.all (·.oneCell')=true) (hm:m≠0) (hb:H.get b=some (.cells c e' ro))
  (hlen:o+len * size≤c.length) (hsum:(len+m) * bytes≤140737488355328) (hmax:len+m≤9223372036854775807) (hcap:cap<UNK) (hfull:¬len+m≤cap):
  KB e size bytes (.slice (some ⟨b,o,none⟩) len cap) x H=some (.slice (some ⟨H.next,0,none⟩) (len+m) (UNK+size),H.push (.cells ((c.drop o).take (len * size)++news) e false)):=by
 simp only[KB,hx,h1,if_true,hm,if_false,hb]
 rw[if_pos ⟨hlen,hmax,hsum⟩,if_neg (by omega),if_neg hfull]
theorem Qhu {e size bytes m len b o cap:Nat} (h0:o=0) {news c:List Value} {x:Value} {H:Qa} (hx:VB size x H=some (m,news)) (h1:news.all (·.oneCell')=true) (hm:m≠0) (hb:H.get b=some (.cells c e false))
  (hlen:o+len * size=c.length) (hsum:(len+m) * bytes≤140737488355328) (hmax:len+m≤9223372036854775807) (hcap:UNK≤cap):
  KB e size bytes (.slice (some ⟨b,o,none⟩) len cap) x H=some (.slice (some ⟨H.next,0,none⟩) (len+m) (UNK+size),(H.kill b).push (.cells (c.drop o++news) e false)):=by
 simp only[KB,hx,h1,if_true,hm,if_false,hb]
 rw[if_pos ⟨by omega,hmax,hsum⟩,if_pos hcap,if_pos ⟨trivial,trivial,h0,hlen⟩]
theorem Qhv {e size bytes m:Nat} {news:List Value} {x:Value} {H:Qa} (hx:VB size x H=some (m,news)) (h1:news.all (·.oneCell')=true) (hm:m≠0) (hsum:m * bytes≤140737488355328) (hmax:m≤9223372036854775807):
  KB e size bytes (.slice none 0 0) x H=some (.slice (some ⟨H.next,0,none⟩) m (UNK+size),H.push (.cells news e false)):=by
 simp only[KB,hx,h1,if_true,hm,if_false]
 rw[if_pos ⟨hmax,hsum⟩]
/-! ### QnV of functions -/
def Ret (H0:Qa) (k:Value→Qa→Prop) (v:Value) (H:Qa):Prop:=∃H2,Yo H2 H∧(H.Wf→H2.Wf)∧H0.next≤H2.next∧k v H2
theorem Ret.mk {H0 H:Qa} {k:Value→Qa→Prop} {v:Value} (hn:H0.next≤H.next) (h:k v H):Ret H0 k v H:=⟨H,.refl H,id,hn,h⟩
theorem Qa.Wf.up {H:Qa} (h:H.Wf) {m:Nat} (hm:H.next≤m):(H.up m).Wf:=fun id hid=>h id (Nat.le_trans hm hid)
theorem Ret.up {H0 H:Qa} {k:Value→Qa→Prop} {v:Value} (hw:H0.Wf) (hn:H0.next≤H.next) (hg:∀id,id<H0.next→H.get id=H0.get id) (h:k v (H0.up H.next)):Ret H0 k v H:=
 ⟨H0.up H.next,Yo.up (Nat.le_refl _) (fun id b hb=>by rw[hg id (hw.lt hb)];exact hb),fun _=>hw.up hn,hn,h⟩
def Rt (P:Program) (fn:Func) (H0:Qa) (k:Value→Qa→Prop):Env→Qa→Prop:=Qe8 P fn fun v H'=>H0.next≤H'.next∧k v H'
section
variable {P:Program} {fn:Func} {H0:Qa} {k:Value→Qa→Prop} {A:Env} {H:Qa}
theorem QoY (hr:fn.results=#[]):Rt P fn H0 k A H=Ret H0 k (.tuple #[]) H:=by
 simp[Rt,Qe8,Ret,GU,hr]
theorem XR {r:Nat} (hr:fn.results=#[.tmp r]) (hn:Nat.blt r fn.ntmps=true):Rt P fn H0 k A H=Ret H0 k (A r) H:=by
 have:r<fn.ntmps:=by simpa using hn
 simp[Rt,Qe8,Ret,GU,hr,Zv,this]
theorem Qkn {r s:Nat} (hr:fn.results=#[.tmp r,.tmp s]) (hn:(Nat.blt r fn.ntmps&&Nat.blt s fn.ntmps)=true):Rt P fn H0 k A H=Ret H0 k (.tuple #[A r,A s]) H:=by
 have:r<fn.ntmps∧s<fn.ntmps:=by simpa using hn
 simp[Rt,Qe8,Ret,GU,hr,Zv,this]
theorem QoZ {r s u:Nat} (hr:fn.results=#[.tmp r,.tmp s,.tmp u]) (hn:(Nat.blt r fn.ntmps&&Nat.blt s fn.ntmps&&Nat.blt u fn.ntmps)=true):Rt P fn H0 k A H=Ret H0 k (.tuple #[A r,A s,A u]) H:=by
 have:(r<fn.ntmps∧s<fn.ntmps)∧u<fn.ntmps:=by simpa using hn
 simp[Rt,Qe8,Ret,GU,hr,Zv,this]
def ldR (agg:Bool) (size:Nat) (p:Value) (H:Qa) (k:Value→Prop):Prop:=match p with
 | .pointer (some a)=>(match H.get a.block with
  | some (.cells c _ _)=>bif agg then(a.off+size≤c.length∧k (.agg ((c.drop a.off).take size).toArray)) else ∃v,c[a.off]? = some v∧k v
  | _=>False)
 | _=>False
def Qov (agg:Bool) (size off:Nat) (b:Option Blk) (k:Value→Prop):Prop:=match b with
 | some (.cells c _ _)=>bif agg then(off+size≤c.length∧k (.agg ((c.drop off).take size).toArray)) else ∃v,c[off]? = some v∧k v
 | _=>False
theorem Qnf (agg:Bool) (size b o:Nat) (k:Value→Prop):ldR agg size (.pointer (some ⟨b,o,none⟩)) H k=Qov agg size o (H.get b) k:=Eq.trans rfl rfl
theorem QlD (size o:Nat) (k:Value→Prop) (c:List Value) (e:TypeId) (ro:Bool):Qov true size o (some (.cells c e ro)) k=(o+size≤c.length∧k (.agg ((c.drop o).take size).toArray)):=Eq.trans rfl rfl
theorem Qko (size o:Nat) (k:Value→Prop) (c:List Value) (e:TypeId) (ro:Bool):Qov false size o (some (.cells c e ro)) k=∃v,c[o]? = some v∧k v:=Eq.trans rfl rfl
def Qcw (P:Program) (ty:TypeId) (p:Value) (H:Qa):Option Value:=match p with | .pointer (some ad)=>WZ P ty ad H | _=>none
theorem Qep (n a:Nat) (ty:TypeId):Zv P n A H (.cell a ty)=if a<n then Qcw P ty (A a) H else none:=Eq.trans rfl rfl
theorem Qcx {ty:TypeId} {d:TypeDesc} {inf:TypeInfo} {p:Value} {q:Value→Prop} (hd:P.underlying ty=some d) (hi:P.info? ty=some inf):
  (∃v,Qcw P ty p H=some v∧q v)↔ldR (YP d) inf.size p H q:=by
 unfold ldR Qcw
 split
 ·rename_i a
  have e:WZ P ty a H=match H.get a.block with
   | some (.cells c _ _)=>if YP d then(if a.off+inf.size≤c.length then some (.agg ((c.drop a.off).take inf.size).toArray) else none) else c[a.off]?
   | _=>none:=by
   simp only[WZ,hd,hi]
   cases H.get a.block with
   | none=>rfl
   | some b=>cases b<;>rfl
  rw[e]
  cases hg:H.get a.block with
  | none=>simp
  | some b=>
   cases b with
   | cells c e ro=>
    cases hag:YP d with
    | true=>by_cases hle:a.off+inf.size≤c.length<;>simp[hle]
    | false=>simp
   | map es=>simp
   | iter s pos=>simp
   | miter a b c d=>simp
   | loop A n ps as bd st=>simp
 ·simp
def Qhw (P:Program) (ty:TypeId) (agg:Bool) (size:Nat):Bool:=match P.underlying ty,P.info? ty with
 | some d,some inf=>(YP d==agg)&&Nat.beq inf.size size
 | _,_=>false
theorem Qbv {ty:TypeId} {agg:Bool} {size:Nat} (h:Qhw P ty agg size=true):∃d inf,P.underlying ty=some d∧P.info? ty=some inf∧YP d=agg∧inf.size=size:=by
 unfold Qhw at h
 split at h
 ·rename_i d inf hd hi
  simp only[Bool.and_eq_true,beq_iff_eq,YW,decide_eq_true_eq]at h
  exact⟨d,inf,hd,hi,h.1,h.2⟩
 ·cases h
theorem QlE {a ty size:Nat} {agg:Bool} {r q:Nat} (hr:fn.results=#[.tmp r,.tmp q,.cell a ty]) (hn:(Nat.blt a fn.ntmps&&(Nat.blt r fn.ntmps&&Nat.blt q fn.ntmps))=true) (ht:Qhw P ty agg size=true):Rt P fn H0 k A H=ldR agg size (A a) H fun v=>Ret H0 k (.tuple #[A r,A q,v]) H:=by
 have hn:a<fn.ntmps∧r<fn.ntmps∧q<fn.ntmps:=by simpa using hn
 obtain⟨d,inf,hd,hi,rfl,rfl⟩:=Qbv ht
 apply propext
 rw[← Qcx hd hi]
 have e1:Zv P fn.ntmps A H (.tmp r)=some (A r):=by simp[Zv,hn.2.1]
 have e2:Zv P fn.ntmps A H (.tmp q)=some (A q):=by simp[Zv,hn.2.2]
 simp only[Rt,Qe8,Ret,GU,hr,Qep,e1,e2,hn.1,if_true,List.mapM_cons,List.mapM_nil,Option.pure_def,Option.bind_eq_bind,Option.bind_some]
 constructor
 ·rintro⟨v,hv,h⟩
  cases e:Qcw P ty (A a) H with
  | none=>simp[e]at hv
  | some w=>
   simp[e]at hv
   subst hv
   exact⟨w,rfl,h⟩
 ·rintro⟨v,hv,h⟩
  refine⟨_,?_,h⟩
  simp[hv]
theorem Qo0 {a ty size a2 ty2 size2:Nat} {agg agg2:Bool} (hr:fn.results=#[.cell a ty,.cell a2 ty2]) (hn:(Nat.blt a fn.ntmps&&Nat.blt a2 fn.ntmps)=true) (ht:Qhw P ty agg size=true) (ht2:Qhw P ty2 agg2 size2=true):Rt P fn H0 k A H=ldR agg size (A a) H fun v=>ldR agg2 size2 (A a2) H fun v2=>Ret H0 k (.tuple #[v,v2]) H:=by
 have hn:a<fn.ntmps∧a2<fn.ntmps:=by simpa using hn
 obtain⟨d,inf,hd,hi,rfl,rfl⟩:=Qbv ht
 obtain⟨d2,inf2,hd2,hi2,rfl,rfl⟩:=Qbv ht2
 apply propext
 rw[← Qcx hd hi]
 simp only[← Qcx hd2 hi2]
 simp only[Rt,Qe8,Ret,GU,hr,Qep,hn.1,hn.2,if_true,List.mapM_cons,List.mapM_nil,Option.pure_def,Option.bind_eq_bind]
 constructor
 ·rintro⟨v,hv,h⟩
  cases e:Qcw P ty (A a) H with
  | none=>simp[e]at hv
  | some w=>
   cases e2:Qcw P ty2 (A a2) H with
   | none=>simp[e,e2]at hv
   | some w2=>
    simp[e,e2]at hv
    subst hv
    exact⟨w,rfl,w2,rfl,h⟩
 ·rintro⟨v,hv,v2,hv2,h⟩
  refine⟨_,?_,h⟩
  simp[hv,hv2]
end
theorem QdM {P:Program} {f:FuncId} {fn:Func} {pc:PC} {args:List Value} {H:Qa} {k:Value→Qa→Prop} {A:Env} (hf:P.funcs[f]? = some fn) (hc:fn.body.bind (comp P fn.ntmps)=some pc) (he:Qv P f=true) (hl:Nat.ble args.length fn.ntmps=true) (hA:Zu args=A)
  (h:H.Wf→Qw P pc ⟨Rt P fn H k,Qa0⟩ (Rt P fn H k) A H):Qf P f args H k:=Qel hf hc he (by simpa using hl) (by rw[hA];exact h)
theorem QiT (l:List Value):(Value.agg l.toArray).cells.toList=l:=Eq.trans rfl rfl
theorem QiU (ik:IntKind) (n:Int):(Value.int ik n).cells.toList=[.int ik n]:=Eq.trans rfl rfl
theorem Qhx (b:Bool):(Value.bool b).cells.toList=[.bool b]:=Eq.trans rfl rfl
theorem QgC (a:Option Addr) (l c:Nat):(Value.slice a l c).cells.toList=[.slice a l c]:=Eq.trans rfl rfl
theorem QgD (ty:TypeId) (v:Value):(Value.iface ty v).cells.toList=[.iface ty v]:=Eq.trans rfl rfl
theorem Qhy (ik:IntKind) (n:Int):(Value.int ik n).oneCell'=true:=Eq.trans rfl rfl
theorem QgE (b:Bool):(Value.bool b).oneCell'=true:=Eq.trans rfl rfl
theorem Qfa (a:Option Addr) (l c:Nat):(Value.slice a l c).oneCell'=true:=Eq.trans rfl rfl
theorem Qfb (ty:TypeId) (v:Value):(Value.iface ty v).oneCell'=true:=Eq.trans rfl rfl
section
variable {P:Program}
theorem QlF {b:Bool} {x y:PC} {ks:Kp} {k:Env→Qa→Prop} {A:Env} {H:Qa} (h1:b=true→cB true P x y ks k A H) (h2:b=false→cB false P x y ks k A H):cB b P x y ks k A H:=by
 cases b
 ·exact h2 rfl
 ·exact h1 rfl
end
/-! ### Loops -/
section
variable {P:Program}
def Qo1 (I:Nat→Env→Qa→Prop) (m:Nat) (A:Env) (H:Qa):Prop:=∃m',m'<m∧I m' A H
theorem QC {b:PC} {ks:Kp} {k:Env→Qa→Prop} {A:Env} {H:Qa} (I:Nat→Env→Qa→Prop) (m:Nat) (h0:I m A H) (h:∀m A' H',I m A' H'→Qw P b ks (Qo1 I m) A' H'):Qw P (.loop b) ks k A H:=
 ⟨I,⟨m,h0⟩,h⟩
structure Ext (H H':Qa):Prop where
 next:H.next≤H'.next
 get:∀id,id<H.next→H'.get id=H.get id
theorem Ext.refl (H:Qa):Ext H H:=⟨Nat.le_refl _,fun _ _=>Eq.trans rfl rfl⟩
theorem Ext.trans {a b c:Qa} (h:Ext a b) (h':Ext b c):Ext a c:=⟨Nat.le_trans h.next h'.next,fun id hid=>by rw[h'.get id (Nat.lt_of_lt_of_le hid h.next),h.get id hid]⟩
theorem Ext.push {H H':Qa} (h:Ext H H') (b:Blk):Ext H (H'.push b):=⟨Nat.le_trans h.next (by simp),fun id hid=>by
 have:=h.next
 rw[Qa.get_push,if_neg (by omega)];exact h.get id hid⟩
theorem Ext.up {H H':Qa} (h:Ext H H') {m:Nat} (hm:H'.next≤m):Ext H (H'.up m):=⟨Nat.le_trans h.next hm,fun id hid=>by rw[Qa.get_up];exact h.get id hid⟩
theorem Ext.set {H H':Qa} (h:Ext H H') {i:Nat} (hi:H.next≤i) (b:Blk):Ext H (H'.set i b):=⟨h.next,fun id hid=>by
 rw[Qa.get_set,if_neg (by omega)];exact h.get id hid⟩
theorem Ext.kill {H H':Qa} (h:Ext H H') {i:Nat} (hi:H.next≤i):Ext H (H'.kill i):=⟨h.next,fun id hid=>by
 rw[Qa.get_kill,if_neg (by omega)];exact h.get id hid⟩
theorem Ret.ext {H0 H:Qa} {k:Value→Qa→Prop} {v:Value} (hw:H0.Wf) (he:Ext H0 H) (h:k v (H0.up H.next)):Ret H0 k v H:=.up hw he.next he.get h
end
/-! ### Appending -/
theorem Qjs {size m b o cap:Nat} {c:List Value} {e:TypeId} {ro:Bool} {H:Qa} (hb:H.get b=some (.cells c e ro)) (hm:m≠0) (hc:o+m * size≤c.length):VB size (.slice (some ⟨b,o,none⟩) m cap) H=some (m,(c.drop o).take (m * size)):=by
 simp only[VB,hm,if_false,hb]
 rw[if_pos hc]
theorem QlG {b cap:Nat} {v:Value} {e:TypeId} {ro:Bool} {H:Qa} (hb:H.get b=some (.cells [v] e ro)):VB 1 (.slice (some ⟨b,0,none⟩) 1 cap) H=some (1,[v]):=Qjs hb (by decide) (by simp)
theorem QlH {e size bytes m len b o cap:Nat} (h0:o=0) {news c:List Value} {x:Value} {H:Qa} {k:Value→Qa→Prop} (hx:VB size x H=some (m,news)) (h1:news.all (·.oneCell')=true) (hm:m≠0) (hb:H.get b=some (.cells c e false))
  (hlen:o+len * size=c.length) (hsum:(len+m) * bytes≤140737488355328) (hmax:len+m≤9223372036854775807) (hcap:UNK≤cap)
  (h:k (.slice (some ⟨H.next,0,none⟩) (len+m) (UNK+size)) ((H.kill b).push (.cells (c.drop o++news) e false))):Qe9 e size bytes (.slice (some ⟨b,o,none⟩) len cap) x H k:=by
 unfold Qe9
 rw[Qhu h0 hx h1 hm hb hlen hsum hmax hcap,Qn]
 exact h
theorem Qkp {e size bytes m len b o cap:Nat} {news c:List Value} {x:Value} {H:Qa} {ro:Bool} {e':TypeId} {k:Value→Qa→Prop} (hx:VB size x H=some (m,news)) (h1:news.all (·.oneCell')=true) (hm:m≠0) (hb:H.get b=some (.cells c e' ro))
  (hlen:o+len * size≤c.length) (hsum:(len+m) * bytes≤140737488355328) (hmax:len+m≤9223372036854775807) (hcap:cap<UNK) (hfull:¬len+m≤cap)
  (h:k (.slice (some ⟨H.next,0,none⟩) (len+m) (UNK+size)) (H.push (.cells ((c.drop o).take (len * size)++news) e false))):Qe9 e size bytes (.slice (some ⟨b,o,none⟩) len cap) x H k:=by
 unfold Qe9
 rw[QgB hx h1 hm hb hlen hsum hmax hcap hfull,Qn]
 exact h
theorem QlI {e size bytes m:Nat} {news:List Value} {x:Value} {H:Qa} {k:Value→Qa→Prop} (hx:VB size x H=some (m,news)) (h1:news.all (·.oneCell')=true) (hm:m≠0) (hsum:m * bytes≤140737488355328) (hmax:m≤9223372036854775807)
  (h:k (.slice (some ⟨H.next,0,none⟩) m (UNK+size)) (H.push (.cells news e false))):Qe9 e size bytes (.slice none 0 0) x H k:=by
 unfold Qe9
 rw[Qhv hx h1 hm hsum hmax,Qn]
 exact h
theorem Qf.thenW {P:Program} {f:FuncId} {args:List Value} {H:Qa} {k k':Value→Qa→Prop} (h:Qf P f args H k) (hk:∀v H',H.next≤H'.next→H'.Wf→k v H'→k' v H'):Qf P f args H k':=by
 intro hw
 obtain⟨v,H',h1,h2,h3,h4⟩:=h hw
 exact⟨v,H',h1,h2,h3,hk v H' h2 h3 h4⟩
/-! ### Rules, together -/
abbrev sxA:=And.intro @QiB (And.intro @Qho (And.intro @QiD (And.intro @Qj7 (And.intro @QiC (And.intro @Qj8 (And.intro @Qj9 (And.intro @Qhq (And.intro @Qn8 (And.intro @Qn9 (And.intro @Qlk (And.intro @Qka (And.intro @QiE (And.intro @QmF (And.intro @QmG (And.intro @Qll (And.intro @Qlj (And.intro @Qj6 (And.intro @QiA (And.intro @Qiy (And.intro @Qiz (And.intro @QmE (And.intro @Qli (And.intro @QmD (And.intro @Qlh (And.intro @bt (And.intro @bf (And.intro @W3 (And.intro @Qjp (And.intro @QfH (And.intro @QfI (And.intro @QoP (And.intro @Qhn (And.intro @QfG (And.intro @QmC (And.intro @QoQ (And.intro @QmJ (And.intro @QiI (And.intro @Qoa (And.intro @QmK (And.intro @QmL (And.intro @QmM (And.intro @QmN (And.intro @Qob (And.intro @QmO (And.intro @QiJ (And.intro @QmP (And.intro @QmQ (And.intro @QmR (And.intro @QmS (And.intro @QmT (And.intro @QmU (And.intro @QmV (And.intro @QmW (And.intro @QmX (And.intro @QmY (And.intro @QmZ (And.intro @Qm0 (And.intro @Qlq (And.intro @Qod (And.intro @Qm1 (And.intro @Qm2 (And.intro @Qof (And.intro @Qog (And.intro @Qkf (And.intro @Qls (And.intro @QiK (And.intro @Qm3 (And.intro @Qoi (And.intro @Qkg (And.intro @Qlt (And.intro @Qm4 (And.intro @Qkh (And.intro @Qm5 (And.intro @QiL (And.intro @Qoj (And.intro @Qk (And.intro @Qok (And.intro @Qol (And.intro @Qom (And.intro @Qon (And.intro @Qm7 (And.intro @Qki (And.intro @Qlu (And.intro @QiM (And.intro @Qlw (And.intro @Qhs (And.intro @Qkj (And.intro @Qkk (And.intro @Qgy (And.intro @Qkl (And.intro @Qoo (And.intro @Qlx (And.intro @Qop (And.intro @Qm8 (And.intro @Qkm (And.intro @Qoq (And.intro @Qly (And.intro @QiP (And.intro @QiQ (And.intro @QoU (And.intro @Qlz (And.intro @Qm9 (And.intro @QlA (And.intro @Qna (And.intro @QoW (And.intro @Qos (And.intro @QfK (And.intro @Qnb (And.intro @QlC (And.intro @QiS (And.intro @Qgz (And.intro @QlB (And.intro @QiR (And.intro @Qnd (And.intro @Qb (And.intro @Qne (And.intro @Qe (And.intro @Qot (And.intro @QmI (And.intro @Qlp (And.intro @QiF (And.intro @Qlo (And.intro @Qou (And.intro @QI (And.intro @Qht (And.intro @QgA (And.intro @Qkd (And.intro @Qlm (And.intro @Qke (And.intro @Qln (And.intro @QiH (And.intro @Qkb (And.intro @Qkc (And.intro @Qnf (And.intro @QlD (@Qko))))))))))))))))))))))))))))))))))))))))))))))))))))))))))))))))))))))))))))))))))))))))))))))))))))))))))))))))))))))))))))))))))))))))
abbrev mxA:=And.intro @QiT (And.intro @QiU (And.intro @Qhx (And.intro @QgC (And.intro @QgD (And.intro @Qhy (And.intro @QgE (And.intro @Qfa (And.intro @Qfb (And.intro @QiN (And.intro @QiO (And.intro @Qa.get_push (And.intro @Qa.next_push (And.intro @Qa.get_set (And.intro @Qa.next_set (And.intro @Qa.get_up (And.intro @Qa.next_up (And.intro @Nat.zero_add (And.intro @Nat.add_zero (And.intro @true_and (And.intro @and_true (And.intro @Nat.add_eq_left (And.intro @Nat.left_eq_add (And.intro @Nat.succ_ne_self (And.intro @Bool.and_self (And.intro @Nat.mul_one (And.intro @Nat.zero_mul (@Nat.one_mul)))))))))))))))))))))))))))
abbrev uxA:=And.intro @W3 (And.intro @Qjp (And.intro @QfH (And.intro @QfI (And.intro @QoP (@Qhn)))))
abbrev sxB:=And.intro @List.map_cons.{0,0} (And.intro @List.map_nil.{0,0} (And.intro @ne_eq.{1} (And.intro not_false_eq_true (And.intro not_true_eq_false (And.intro @cond_true.{1} (And.intro @cond_false.{1} (And.intro Bool.not_true (And.intro Bool.not_false @Bool.not_not))))))))
abbrev uxB:=And.intro @cond_true.{1} @cond_false.{1}
abbrev mxB:=And.intro @if_true.{1} (And.intro @if_false.{1} (And.intro @List.getElem?_cons_succ.{0} (And.intro @List.getElem?_cons_zero.{0} (And.intro @Option.some.injEq.{0} (And.intro @exists_eq_left'.{1} (And.intro @eq_self.{1} (And.intro @List.length_cons.{0} (And.intro @List.length_nil.{0} (And.intro @List.all_cons.{0} (And.intro @List.all_nil.{0} (And.intro @List.drop_zero.{0} (And.intro @List.drop_succ_cons.{0} (And.intro @List.take_succ_cons.{0} (And.intro @List.take_zero.{0} (And.intro @List.cons_append.{0} (And.intro @List.nil_append.{0} (And.intro @List.append_nil.{0} (And.intro @List.take_nil.{0} @List.drop_nil.{0}))))))))))))))))))
/-! ### The code's text, short -/
abbrev Ow (d:Nat) (r:R):PO:=⟨some d,r,none,false⟩
abbrev Om (d:Nat) (x:Operand):PO:=⟨some d,.mv x,none,false⟩
abbrev Ov (r:R):PO:=⟨none,r,none,false⟩
abbrev Og (d:Nat) (r:R) (a:Nat) (b:Bool):PO:=⟨some d,r,some (a,b),false⟩
abbrev On (d:Nat) (x:Operand) (a:Nat) (b:Bool):PO:=⟨some d,.mv x,some (a,b),false⟩
abbrev Ci (n:Int):Operand:=.const (.int .i64 n)
abbrev In1 (P:Program) (f:FuncId) (fn:Func) (pc:PC):Prop:=∀ {a0:Value} {H:Qa} {k:Value→Qa→Prop},(H.Wf→Qw P pc ⟨Rt P fn H k,Qa0⟩ (Rt P fn H k) (upd U 0 a0) H)→Qf P f [a0] H k
theorem in1 {P:Program} {f:FuncId} {fn:Func} {pc:PC} (hf:P.funcs[f]? = some fn) (hc:fn.body.bind (comp P fn.ntmps)=some pc) (he:Qv P f=true) (hl:Nat.ble 1 fn.ntmps=true):In1 P f fn pc:=fun h=>QdM hf hc he hl (Qpc _) h
abbrev In2 (P:Program) (f:FuncId) (fn:Func) (pc:PC):Prop:=∀ {a0 a1:Value} {H:Qa} {k:Value→Qa→Prop},(H.Wf→Qw P pc ⟨Rt P fn H k,Qa0⟩ (Rt P fn H k) (upd (upd U 0 a0) 1 a1) H)→Qf P f [a0,a1] H k
theorem in2 {P:Program} {f:FuncId} {fn:Func} {pc:PC} (hf:P.funcs[f]? = some fn) (hc:fn.body.bind (comp P fn.ntmps)=some pc) (he:Qv P f=true) (hl:Nat.ble 2 fn.ntmps=true):In2 P f fn pc:=fun h=>QdM hf hc he hl (Qpd _ _) h
abbrev In4 (P:Program) (f:FuncId) (fn:Func) (pc:PC):Prop:=∀ {a0 a1 a2 a3:Value} {H:Qa} {k:Value→Qa→Prop},(H.Wf→Qw P pc ⟨Rt P fn H k,Qa0⟩ (Rt P fn H k) (upd (upd (upd (upd U 0 a0) 1 a1) 2 a2) 3 a3) H)→Qf P f [a0,a1,a2,a3] H k
theorem in4 {P:Program} {f:FuncId} {fn:Func} {pc:PC} (hf:P.funcs[f]? = some fn) (hc:fn.body.bind (comp P fn.ntmps)=some pc) (he:Qv P f=true) (hl:Nat.ble 4 fn.ntmps=true):In4 P f fn pc:=fun h=>QdM hf hc he hl (Qpe _ _ _ _) h
abbrev In5 (P:Program) (f:FuncId) (fn:Func) (pc:PC):Prop:=∀ {a0 a1 a2 a3 a4:Value} {H:Qa} {k:Value→Qa→Prop},(H.Wf→Qw P pc ⟨Rt P fn H k,Qa0⟩ (Rt P fn H k) (upd (upd (upd (upd (upd U 0 a0) 1 a1) 2 a2) 3 a3) 4 a4) H)→Qf P f [a0,a1,a2,a3,a4] H k
theorem in5 {P:Program} {f:FuncId} {fn:Func} {pc:PC} (hf:P.funcs[f]? = some fn) (hc:fn.body.bind (comp P fn.ntmps)=some pc) (he:Qv P f=true) (hl:Nat.ble 5 fn.ntmps=true):In5 P f fn pc:=fun h=>QdM hf hc he hl (Qpf _ _ _ _ _) h
variable {P:Program} {A:Env} {H:Qa} {k:Value→Qa→Prop}
theorem YT {o:Op} {v:Value} {H':Qa} (e:rop P (.gen o) A H=some (v,H')):pr P (.gen o) false A H k=k v H':=by
 refine(Q4 _).trans ?_
 rw[e,Qn]
/-! ### Texts -/
section
variable {ty:TypeId} {x lo hi:Operand} {s:ByteArray} {l h:Nat} {ik ik':IntKind}
theorem QgF (ht:P.underlying ty=some .string) (hx:ev A x=.string s) (lo hi:Option Operand) (l h:Nat) (hl:Qp A lo=some (some (l:Int))∨(Qp A lo=some none∧l=0)) (hh:Qp A hi=some (some (h:Int))∨(Qp A hi=some none∧h=(bl s).length)) (h1:l≤h) (h2:h≤(bl s).length):
  rop P (.gen (.slice ty x lo hi none)) A H=some (.string (mkS (((bl s).drop l).take (h - l))),H):=by
 rcases hl with hl | ⟨hl,rfl⟩<;>rcases hh with hh | ⟨hh,rfl⟩
 all_goals
  simp only[rop,aop,QaQ,ht,hx,hl,hh,Option.getD_some,Option.getD_none]
  rw[if_pos (by omega)]
  simp
theorem Qjt (ht:P.underlying ty=some .string) (hx:ev A x=.string s) (hlo:ev A lo=.int ik l) (hhi:ev A hi=.int ik' h) (h1:l≤h) (h2:h≤(bl s).length):
  pr P (.gen (.slice ty x (some lo) (some hi) none)) false A H k=k (.string (mkS (((bl s).drop l).take (h - l)))) H:=
 YT (QgF ht hx _ _ l h (.inl (by simp[Qp,hlo])) (.inl (by simp[Qp,hhi])) h1 h2)
theorem QfL (ht:P.underlying ty=some .string) (hx:ev A x=.string s) (hlo:ev A lo=.int ik l) (h1:l≤(bl s).length):
  pr P (.gen (.slice ty x (some lo) none none)) false A H k=k (.string (mkS ((bl s).drop l))) H:=by
 refine(YT (QgF ht hx _ _ l (bl s).length (.inl (by simp[Qp,hlo])) (.inr ⟨rfl,rfl⟩) h1 (Nat.le_refl _))).trans ?_
 rw[List.take_of_length_le (by rw[List.length_drop];exact Nat.le_refl _)]
theorem QfM (ht:P.underlying ty=some .string) (hx:ev A x=.string s) (hhi:ev A hi=.int ik h) (h1:h≤(bl s).length):
  pr P (.gen (.slice ty x none (some hi) none)) false A H k=k (.string (mkS ((bl s).take h))) H:=by
 refine(YT (QgF ht hx _ _ 0 h (.inr ⟨rfl,rfl⟩) (.inl (by simp[Qp,hhi])) (Nat.zero_le _) h1)).trans ?_
 rw[List.drop_zero,Nat.sub_zero]
theorem Qng (a b:ByteArray):Zk .lss (.string a) (.string b) H k=k (.bool (Op.bytesLess (bl a) (bl b))) H:=QJ (by simp[Zi,KL])
theorem Qnh (a b:ByteArray):Zk .leq (.string a) (.string b) H k=k (.bool (Op.bytesLess (bl a) (bl b)||bl a==bl b)) H:=QJ (by simp[Zi,KL])
theorem Qni (a b:ByteArray):Zk .gtr (.string a) (.string b) H k=k (.bool !(Op.bytesLess (bl a) (bl b)||bl a==bl b)) H:=QJ (by simp[Zi,KL])
theorem Qnj (a b:ByteArray):Zk .geq (.string a) (.string b) H k=k (.bool !(Op.bytesLess (bl a) (bl b))) H:=QJ (by simp[Zi,KL])
def Qju (P:Program) (src dst:TypeId):Bool:=match P.underlying src,P.underlying dst with
 | some (.slice e),some .string=>(match P.underlying e with | some (.int .u8)=>true | _=>false)
 | _,_=>false
theorem QaU {src dst:TypeId} {n c:Nat} {a:Option Addr} {vs:List Value} {bs:List UInt8} (ht:Qju P src dst=true) (hx:ev A x=.slice a n c) (hc:Wp 1 (.slice a n c) H=some vs) (hb:YJ vs=some bs):
  pr P (.gen (.convert src dst x)) false A H k=k (.string (mkS bs)) H:=by
 unfold Qju at ht
 split at ht
 ·rename_i e hs hd
  split at ht
  ·rename_i he
   exact YT (by simp only[rop,aop,JD,hs,hd,hx,he,hc,hb])
  ·cases ht
 ·cases ht
end
/-! ### Arrays in memory -/
def Qjv (P:Program) (ty:TypeId) (n size:Nat):Bool:=match P.underlying ty with
 | some (.array n' e)=>Nat.beq n' n&&(match P.info? e with | some inf=>Nat.beq inf.size size | none=>false)
 | _=>false
theorem Qes {ty:TypeId} {n size:Nat} (h:Qjv P ty n size=true):∃e inf,P.underlying ty=some (.array n e)∧P.info? e=some inf∧inf.size=size:=by
 unfold Qjv at h
 split at h
 ·rename_i n' e ht
  simp only[Bool.and_eq_true]at h
  obtain⟨h1,h2⟩:=h
  split at h2
  ·rename_i inf hi
   rw[← Nat.eq_of_beq_eq_true h1]
   exact⟨e,inf,ht,hi,Nat.eq_of_beq_eq_true h2⟩
  ·cases h2
 ·cases h
theorem QcG {ty:TypeId} {n size:Nat} {x ix:Operand} {b o i:Nat} {ik:IntKind} (ht:Qjv P ty n size=true) (hx:ev A x=.pointer (some ⟨b,o,none⟩)) (hi:ev A ix=.int ik i) (h:i<n):
  pr P (.gen (.indexAddr ty x ix)) false A H k=k (.pointer (some ⟨b,o+i * size,none⟩)) H:=by
 obtain⟨e,inf,htu,he,rfl⟩:=Qes ht
 exact YT (by
  simp only[rop,aop,Ys,hi,htu,hx,he]
  rw[if_pos (by omega),Int.toNat_natCast])
theorem QcH {ty:TypeId} {n size:Nat} {x:Operand} {lo hi:Option Operand} {b o l h:Nat} (ht:Qjv P ty n size=true) (hx:ev A x=.pointer (some ⟨b,o,none⟩))
  (hl:Qp A lo=some (some (l:Int))∨(Qp A lo=some none∧l=0)) (hh:Qp A hi=some (some (h:Int))∨(Qp A hi=some none∧h=n)) (h1:l≤h) (h2:h≤n) (hn:n<UNK):
  pr P (.gen (.slice ty x lo hi none)) false A H k=k (.slice (some ⟨b,o+l * size,none⟩) (h - l) (n - l)) H:=by
 obtain⟨e,inf,htu,he,rfl⟩:=Qes ht
 exact YT (by
  rcases hl with hl | ⟨hl,rfl⟩<;>rcases hh with hh | ⟨hh,rfl⟩
  all_goals
   simp only[rop,aop,QaQ,htu,hx,he,hl,hh,Option.getD_some,Option.getD_none]
   rw[if_pos (by omega)]
   simp)
/-! ### Nil, and places held against each other -/
def Qjw (P:Program) (t:TypeId):Bool:=match P.underlying t with | some (.pointer e)=>(match P.info? e with | some inf=>Nat.blt 0 inf.size | none=>false) | _=>false
theorem Qet {t:TypeId} (h:Qjw P t=true):∃e inf,P.underlying t=some (.pointer e)∧P.info? e=some inf∧¬inf.size=0:=by
 unfold Qjw at h
 split at h
 ·rename_i e ht
  split at h
  ·rename_i inf hi
   have:0<inf.size:=by simpa using h
   exact⟨e,inf,ht,hi,by omega⟩
  ·cases h
 ·cases h
theorem QfN {t t':TypeId} {x:Operand} {a:Option Addr} (ht:Qjw P t=true) (hx:ev A x=.pointer a):
  pr P (.gen (.binOp .eql t x (.const (.pointer none)) t')) false A H k=k (.bool a.isNone) H:=by
 have hc:ev A (.const (.pointer none))=.pointer none:=rfl
 obtain⟨e,inf,h1,_,_⟩:=Qet ht
 exact YT (by cases a<;>simp[rop,aop,Ky,Qe0,QbQ,WE,hx,hc,h1,aeq,Qak,ZN,XP,QaY,QeX])
def QgG (P:Program) (t:TypeId):Bool:=match P.underlying t with | some (.func _ _ _)=>true | _=>false
theorem QlJ {t t':TypeId} {x:Operand} (ht:QgG P t=true) {f:Fn} {a b:Array Value} (hx:ev A x=.func f a b):
  pr P (.gen (.binOp .eql t x (.const .nilFunc) t')) false A H k=k (.bool false) H:=by
 have hc:ev A (.const .nilFunc)=.nilFunc:=rfl
 unfold QgG at ht
 split at ht
 ·rename_i h1
  exact YT (by simp[rop,aop,Ky,Qe0,QbQ,WE,hx,hc,h1,aeq,Qak,ZN,XP,QaY,QeX])
 ·cases ht
theorem Qkq {t t':TypeId} {x:Operand} (ht:QgG P t=true) (hx:ev A x=.nilFunc):
  pr P (.gen (.binOp .eql t x (.const .nilFunc) t')) false A H k=k (.bool true) H:=by
 have hc:ev A (.const .nilFunc)=.nilFunc:=rfl
 unfold QgG at ht
 split at ht
 ·rename_i h1
  exact YT (by simp[rop,aop,Ky,Qe0,QbQ,WE,hx,hc,h1,aeq,Qak,ZN,XP,QaY,QeX])
 ·cases ht
theorem Qkr {t t':TypeId} {x y:Operand} {b o:Nat} (ht:Qjw P t=true) (hx:ev A x=.pointer (some ⟨b,o,none⟩)) (hy:ev A y=.pointer (some ⟨b,o,none⟩)):
  pr P (.gen (.binOp .neq t x y t')) false A H k=k (.bool false) H:=by
 obtain⟨e,inf,h1,h2,h3⟩:=Qet ht
 exact YT (by simp[rop,aop,Ky,Qe0,QbQ,WE,hx,hy,h1,h2,h3,aeq,Qak,ZN,XP,QaY,QeX])
/-! ### Numbers -/
theorem Qnk {x y:Operand} {ts:Array TypeId} {ik:IntKind} {a b:Int} (hx:ev A x=.int ik a) (hy:ev A y=.int ik b):pr P (.gen (.call ⟨.builtin .min,#[x,y],ts⟩)) false A H k=k (.int ik (if b<a then b else a)) H:=
 YT (by simp[rop,aop,GW,hx,hy])
theorem Qhz {t:TypeId} {x:Operand} {ik:IntKind} {n:Int} (hx:ev A x=.int ik n):pr P (.gen (.unOp .neg t x)) false A H k=k (.int ik (ik.wrap (-n))) H:=
 YT (by simp[rop,aop,Qgk,hx,WE,QdT])
/-! ### Pointers without a type -/
def Qo2 (P:Program) (src dst:TypeId):Bool:=match P.underlying src,P.underlying dst with
 | some (.pointer t),some .unsafePointer=>(match P.info? t with | some j=>Nat.blt 0 j.size | none=>false)
 | _,_=>false
theorem QlK {src dst:TypeId} {x:Operand} {b o:Nat} {c:List Value} {e:TypeId} (ht:Qo2 P src dst=true) (hx:ev A x=.pointer (some ⟨b,o,none⟩)) (hg:H.get b=some (.cells c e false)) (ho:o<c.length):
  pr P (.gen (.convert src dst x)) false A H k=k (.pointer (some ⟨b,o,none⟩)) H:=by
 unfold Qo2 at ht
 split at ht
 ·rename_i t h1 h2
  split at ht
  ·rename_i j hj
   have:0<j.size:=by simpa using ht
   exact YT (by
    simp only[rop,aop,JD,h1,h2,hx,hj,hg]
    rw[if_pos ⟨by omega,ho⟩])
  ·cases ht
 ·cases ht
def QlL (P:Program) (src dst e:TypeId) (n o:Nat):Bool:=match P.underlying src,P.underlying dst with
 | some .unsafePointer,some (.pointer u)=>(match P.info? u with | some _=>liesAt P P.depth e (n / P.cellsOf e) o u 1 | none=>false)
 | _,_=>false
theorem QiV {src dst:TypeId} {x:Operand} {b o:Nat} {c:List Value} {e:TypeId} (ht:QlL P src dst e c.length o=true) (hx:ev A x=.pointer (some ⟨b,o,none⟩)) (hg:H.get b=some (.cells c e false)):
  pr P (.gen (.convert src dst x)) false A H k=k (.pointer (some ⟨b,o,none⟩)) H:=by
 unfold QlL at ht
 split at ht
 ·rename_i u h1 h2
  split at ht
  ·rename_i j hj
   exact YT (by
    simp only[rop,aop,JD,h1,h2,hx,hj,hg]
    rw[if_pos ht])
  ·cases ht
 ·cases ht
theorem QiW {x:Operand} {ts:Array TypeId} {a:Option Addr} {n c:Nat} (hx:ev A x=.slice a n c) (h:a=none∨n≠0):pr P (.gen (.call ⟨.builtin .unsafeSliceData,#[x],ts⟩)) false A H k=k (.pointer a) H:=
 YT (by cases a<;>simp_all [rop,aop,GW])
def QnL (P:Program) (pt e:TypeId):Bool:=match P.underlying pt with | some (.pointer e')=>Nat.beq e' e&&Nat.beq (P.cellsOf e') 1 | _=>false
theorem Qks {x y:Operand} {pt t2 e:TypeId} {b:Nat} {c:List Value} {bs:List UInt8} (ht:QnL P pt e=true) (hx:ev A x=.pointer (some ⟨b,0,none⟩)) (hy:ev A y=.int .i64 (c.length:Int)) (hg:H.get b=some (.cells c e false)) (h0:0<c.length) (hm:c.length≤9223372036854775807) (hu:c.all Qk4=true) (hb:YJ c=some bs):
  pr P (.gen (.call ⟨.builtin .unsafeString,#[x,y],#[pt,t2]⟩)) false A H k=k (.string (mkS bs)) (H.set b (.cells c e true)):=by
 unfold QnL at ht
 split at ht
 ·rename_i e' h1
  simp only[Bool.and_eq_true]at ht
  obtain⟨h2,h3⟩:=ht
  have h2:=Nat.eq_of_beq_eq_true h2
  have h3:=Nat.eq_of_beq_eq_true h3
  subst h2
  refine YT ?_
  simp only[rop,aop,GW,hx,hy,h1,hg,Int.toNat_natCast,List.take_length]
  rw[if_pos ⟨trivial,trivial,h3,by omega,Nat.le_refl _,by omega,hu⟩,hb]
 ·cases ht
/-! ### Entries of the model -/
theorem QaV {f:FuncId} {e:Xk} {args:List Value} {v:Value} (hx:Qc5 P f e) (hv:e.val args=some v) (h:k v H):Qf P f args H k:=
 fun hw=>⟨v,H,.inr (Qg4 hx hv),Nat.le_refl _,hw,h⟩
/-! ### Cells -/
theorem Qfd (s:ByteArray):(Value.string s).cells.toList=[.string s]:=Eq.trans rfl rfl
theorem Qeu (a:Option Addr):(Value.pointer a).cells.toList=[.pointer a]:=Eq.trans rfl rfl
theorem Qev (s:ByteArray):(Value.string s).oneCell'=true:=Eq.trans rfl rfl
theorem Qdh (a:Option Addr):(Value.pointer a).oneCell'=true:=Eq.trans rfl rfl
abbrev syA:=And.intro @Qfd (And.intro @Qeu (And.intro @Qev (And.intro @Qdh (And.intro @Qng (And.intro @Qnh (And.intro @Qni (And.intro @Qnj (And.intro @Qg @QdS))))))))
end Go.Ab
namespace Go.Ab
open Go.RowKit
section
variable {P:Program} {ρ:Ren} {H:Qa} {w:World}
def QfO (H:Qa):Prop:=∀id b,H.get id=some b→b.ro=true
theorem Sim.addRo (hs:Sim P ρ H w) (hro:QfO H) {c:List Value} (e:TypeId) {a:Addr} (hlt:a.block<w.heap.size) (hc:∀ (j:Nat) v,c[j]? = some v→∃v',w.cell? (a.add j)=some v'∧V ρ v v'):
  Sim P (ext ρ H.next ⟨a,0,0⟩) (H.push (.cells c e true)) w:=by
 have hn:=hs.none_next
 have hsub:=QbM ⟨a,0,0⟩ hn
 refine⟨fun id j h=>?_,fun id bl j h h'=>?_,fun id1 id2 b1 b2 i1 i2 h1 h2 h3 h4 h5 h6=>?_,fun g hg=>?_⟩
 ·by_cases ee:id=H.next
  ·subst ee;simp
  ·rw[YO ρ _ ee]at h;have:=hs.dom _ _ h;simp;omega
 ·by_cases ee:id=H.next
  ·subst ee
   rw[QU]at h';cases h'
   rw[Qa.get_push,if_pos rfl]at h;cases h
   exact⟨hlt,fun j v hj=>by obtain⟨v',x1,x2⟩:=hc j v hj;exact⟨v',x1,x2.mono hsub⟩⟩
  ·rw[YO ρ _ ee]at h';rw[Qa.get_push,if_neg ee]at h
   exact(hs.live id bl j h h').mono hsub rfl
 ·have:b1.ro=true:=by
   by_cases ee:id1=H.next
   ·subst ee;rw[Qa.get_push,if_pos rfl]at h1;cases h1;rfl
   ·rw[Qa.get_push,if_neg ee]at h1;exact hro _ _ h1
  rw[this]at h5;cases h5
 ·obtain⟨j,hj,ee⟩:=hs.glob g hg
  exact⟨j,hsub _ _ hj,ee⟩
theorem Sim.addDead (hs:Sim P ρ H w) (hw:H.Wf) (a:Addr):Sim P (ext ρ H.next ⟨a,0,0⟩) (H.up (H.next+1)) w:=by
 have hn:=hs.none_next
 have hsub:=QbM ⟨a,0,0⟩ hn
 refine⟨fun id j h=>?_,fun id bl j h h'=>?_,fun id1 id2 b1 b2 i1 i2 h1 h2 h3 h4 h5 h6=>?_,fun g hg=>?_⟩
 ·by_cases ee:id=H.next
  ·subst ee;simp
  ·rw[YO ρ _ ee]at h;have:=hs.dom _ _ h;simp;omega
 ·rw[Qa.get_up]at h
  have:=hw.lt h
  rw[YO ρ _ (by omega)]at h'
  exact(hs.live id bl j h h').mono hsub rfl
 ·rw[Qa.get_up]at h1 h2
  have:=hw.lt h1
  have:=hw.lt h2
  rw[YO ρ _ (by omega)]at h3 h4
  exact hs.sep id1 id2 b1 b2 i1 i2 h1 h2 h3 h4 h5 h6
 ·obtain⟨j,hj,ee⟩:=hs.glob g hg
  exact⟨j,hsub _ _ hj,ee⟩
theorem QfO.push (h:QfO H) (c:List Value) (e:TypeId):QfO (H.push (.cells c e true)):=fun id b hb=>by
 rw[Qa.get_push]at hb
 split at hb
 ·cases hb;rfl
 ·exact h id b hb
theorem QfO.up (h:QfO H) (m:Nat):QfO (H.up m):=fun id b hb=>h id b (by rw[Qa.get_up]at hb;exact hb)
theorem V.sliceIn {id len cap:Nat} {a:Addr} (hi:ρ id=some ⟨a,0,0⟩) (hl:len≤cap) (hc:cap<UNK):V ρ (.slice (some ⟨id,0,none⟩) len cap) (.slice (some a) len cap):=
 .slice id 0 len cap cap ⟨a,0,0⟩ a hi (.inl (by rw[show(⟨a,0,0⟩:Yb).at_=a from rfl];unfold Addr.add;rw[if_pos rfl])) hl hc (fun h=>by omega) (fun _=>rfl)
theorem calls_of_callQ {f:FuncId} {args args':List Value} {X:Value→Qa→Prop} (h:Qf P f args H fun u H'=>u=.bool true∧X u H') (hw:H.Wf) (he:Qv P f=true) (hs:Sim P ρ H w) (ha:VL ρ args args') (hro:QfO H):
  Calls P f args'.toArray w fun e w'=>e=.returned (.bool true)∧Below w.heap.size w w':=by
 obtain⟨v,H',hc,_,_,rfl,_⟩:=h hw
 exact Qpv (hc.does he) hs ha rfl hro
theorem Qpr {base:Nat} {a:Addr} {n:Nat} {cs:List Value} (h:w.cells? base a n=some cs):cs.length=n∧∀i,i<n→w.cell? (a.add i)=cs[i]? := by
 unfold World.cells? at h
 split at h
 ·have hl:=Qc4.mapM_length h
  refine⟨by simpa using hl,fun i hi=>?_⟩
  have key:∀ (l:List Nat) (cs:List Value),l.mapM (fun i=>w.cell? (a.add i))=some cs→∀ (j:Nat) x,l[j]? = some x→w.cell? (a.add x)=cs[j]? := by
   intro l
   induction l with
   | nil=>intro cs h j x hx;simp at hx
   | cons y l ih=>
    intro cs h j x hx
    simp only[List.mapM_cons,Option.bind_eq_bind,Option.bind_eq_some_iff,Option.pure_def,Option.some.injEq]at h
    obtain⟨v,hv,vs,hvs,rfl⟩:=h
    cases j with
    | zero=>simp at hx;subst hx;simpa using hv
    | succ j=>simpa using ih vs hvs j x (by simpa using hx)
  exact key _ _ h i i (by simp[hi])
 ·cases h
end
variable {P:Program}
theorem Qku {f:FuncId} {args args2:List Value} {v:Value} {B H1 H:Qa} {τ:Nat→Nat} (hd:J7 P f args B (.ret v) H1) (hv:plain v=true) (hg:P.globals.size≤B.next) (hτ:∀g,g<P.globals.size→τ g=g)
  (hB:∀id b,B.get id=some b→∃c e c2 e2 ro,b=.cells c e true∧H.get (τ id)=some (.cells c2 e2 ro)∧c.length=c2.length∧∀ (j:Nat) x y,c[j]? = some x→c2[j]? = some y→Qa9 τ B.next x y)
  (hl:args.length=args2.length) (ha:∀ (j:Nat) x y,args[j]? = some x→args2[j]? = some y→Qa9 τ B.next x y):J7 P f args2 H (.ret v) H:=by
 intro ρ w args' hs hargs
 have hargs':VL (back ρ τ B.next) args args':=⟨by rw[hl];exact hargs.1,fun j x x' e e'=>by
  have hj:j<args2.length:=by have:=(List.getElem?_eq_some_iff.1 e).1;omega
  exact ha j x args2[j] e (List.getElem?_eq_getElem hj) ρ x' (hargs.2 j _ x' (List.getElem?_eq_getElem hj) e')⟩
 have hsim:Sim P (back ρ τ B.next) B w:=by
  refine⟨fun id j h=>(Vr h).1,fun id b i hb hi=>?_,fun id1 id2 b1 b2 i1 i2 h1 h2 h3 h4 h5=>?_,fun g hgl=>?_⟩
  ·obtain⟨c,e,c2,e2,ro,rfl,hh,hc,hx⟩:=hB id b hb
   have hr:=hs.live _ _ i hh (Vr hi).2
   refine⟨hr.lt,fun j u hj=>?_⟩
   have hj2:j<c2.length:=by have:=(List.getElem?_eq_some_iff.1 hj).1;omega
   obtain⟨u',h1,h2⟩:=hr.cellAt (List.getElem?_eq_getElem hj2)
   exact⟨u',h1,hx j u c2[j] hj (List.getElem?_eq_getElem hj2) ρ u' h2⟩
  ·obtain⟨c,e,c2,e2,ro,rfl,_⟩:=hB id1 b1 h1
   cases h5
  ·obtain⟨j,hj,e⟩:=hs.glob g hgl
   refine⟨j,?_,e⟩
   unfold back
   rw[if_pos (by omega),hτ g hgl];exact hj
 refine(hd _ w args' hsim hargs').mono ?_
 rintro e w' ⟨ρ',ho,hst,hs'⟩
 have hbel:=hst.below (fun id b h=>by obtain⟨c,e,c2,e2,ro,rfl,_⟩:=hB id b h;rfl)
 refine⟨ρ,?_,⟨.refl ρ,Nat.le_refl _,fun _ _ _ h=>h,fun _ _ b b' _ h hr h'=>(by rw[h]at h';cases h';exact hr),fun id i h h'=>(by rw[h']at h;cases h),hbel.os,hbel.tape,hbel.output,hbel.size,fun b hb _=>hbel.block b hb⟩,
  ⟨hs.dom,fun id b i h h'=>(hs.live id b i h h').mono (.refl ρ) (hbel.block _ (hs.live id b i h h').lt),hs.sep,hs.glob⟩⟩
 cases e with
 | returned v'=>
  have:v'=v:=V.plain_eq ho hv
  subst this
  exact .same _ hv
 | _=>exact ho.elim
section
variable {P:Program}
theorem Sim.tell {ρ:Ren} {H:Qa} {w:World} (hs:Sim P ρ H w) {b:Nat} {c:List Value} {e:TypeId} {i:Yb} (hg:H.get b=some (.cells c e false)) (hi:ρ b=some i) {l:List Int} {cur:Array Value} {fz:Nat×Nat}
  (hh:w.heap[i.at_.block]? = some (.cells cur e fz)) (hat:i.at_.spot=none∧i.at_.off=0) (hn:i.at_.off+i.n=cur.size) (hfz:∀o,i.at_.off≤o→o<cur.size→¬ (fz.1≤o∧o<fz.2)) (hs':i.s=P.cellsOf e) (hl:cur.toList=l.map (Value.int .u8 ·)):
  Sim P ρ (H.set b (.cells (l.map (Value.int .u8 ·)) e false)) w:=by
 have hlen:l.length=cur.size:=by have:=congrArg List.length hl;simpa using this.symm
 have key:∀id b1,(H.set b (.cells (l.map (Value.int .u8 ·)) e false)).get id=some b1→∃b2,H.get id=some b2∧b2.ro=b1.ro:=fun id b1 h=>by
  rw[Qa.get_set]at h
  split at h
  ·rename_i e1
   subst e1
   cases h
   exact⟨_,hg,rfl⟩
  ·exact⟨b1,h,rfl⟩
 refine⟨hs.dom,fun id bl j h h'=>?_,fun id1 id2 b1 b2 i1 i2 h1 h2 h3 h4 h5 h6=>?_,hs.glob⟩
 ·rw[Qa.get_set]at h
  split at h
  ·rename_i e1
   subst e1
   rw[hi]at h'
   cases h'
   cases h
   refine⟨cur,fz,hh,hat,hn,by rw[List.length_map];omega,fun j v hj=>?_,hfz,fun o v ho hv=>?_,hs'⟩
   ·rw[List.getElem?_map]at hj
    obtain⟨y,hy,rfl⟩:=Option.map_eq_some_iff.1 hj
    refine⟨_,?_,.same _ rfl⟩
    rw[hat.2,Nat.zero_add,← Array.getElem?_toList,hl,List.getElem?_map,hy]
    rfl
   ·rw[List.length_map,hat.2,Nat.zero_add]at ho
    have:=(Array.getElem?_eq_some_iff.1 hv).1
    omega
  ·exact hs.live id bl j h h'
 ·obtain⟨c1,g1,r1⟩:=key _ _ h1
  obtain⟨c2,g2,_⟩:=key _ _ h2
  exact hs.sep id1 id2 c1 c2 i1 i2 g1 g2 h3 h4 (by rw[r1,h5]) h6
end
end Go.Ab
