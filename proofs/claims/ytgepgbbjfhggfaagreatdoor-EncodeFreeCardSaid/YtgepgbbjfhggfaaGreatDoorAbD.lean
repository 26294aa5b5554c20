/- Code made of resolved operations, and what it does, as a proposition. -/
import Derived.Test.YtgepgbbjfhggfaaGreatDoorAbC
import Derived.Test.YtgepgbbjfhggfaaGreatDoorAbB
set_option linter.unusedVariables false
set_option linter.unusedSimpArgs false
noncomputable section
namespace Go.Ab
structure PO where
 d:Option Nat
 r:R
 g:Option (Nat×Bool)
 s:Bool
inductive PC where
 | skip
 | ops (l:List PO)
 | seq (a b:PC)
 | cond (c:Operand) (a b:PC)
 | block (id:Nat) (b:PC)
 | loop (b:PC)
 | exit (id:Nat)
 | ret
 | label (l:Nat)
 | goto (l:Nat)
 | scope (b:PC) (l:Nat) (r:PC)
 | rangeF (g:Operand) (ps:List Nat) (a b:PC)
 | bad
/-! ### Resolving code -/
def Qos (o:Oper):Bool:=match o.op with | .load .. => true | _=>false
def QtJ (o:Oper):Bool:=match o.op with | .alloc .. | .box .. | .makeSlice .. | .buildSlice .. | .convert .. | .makeMap .. | .range .. => true | _=>false
def QbG (o:Oper):Bool:=match o.op with | .call ⟨.value _,_,_⟩=>true | _=>false
def Qkr (ops:Array Oper) (i:Nat):Bool:=match ops[i]? with | some o=>Qos o | none=>false
def QdV (ops:Array Oper) (i:Nat):Bool:=match ops[i]? with | some o=>QtJ o | none=>false
def Vv (ops:Array Oper) (i:Nat):Bool:=match ops[i]? with | some o=>QbG o | none=>false
def WB (ops:Array Oper) (ms:List Nat) (k:Nat):Bool:=
 (WU ops k&&(List.range ops.size).any λi=>(Qkr ops i&&!(QA ms i k)&&!(QA ms k i))||(QdV ops i&&Nat.blt i k&&!(QA ms i k))) ||
 (Qkr ops k&&(List.range ops.size).any λi=>WU ops i&&!(QA ms i k)&&!(QA ms k i))
def QtK (o:Oper):Bool:=match o.op with | .store .. => true | _=>false
def QtL (ops:Array Oper) (i:Nat):Bool:=match ops[i]? with | some o=>QtK o | none=>false
def Qfw (ms:List Nat) (i k:Nat):Bool:=!(QA ms i k)&&!(QA ms k i)
def Qlv (ops:Array Oper) (i:Nat):Option Nat:=match ops[i]? with | some o=>(match o.op with | .load _ (.tmp t)=>some t | _=>none) | none=>none
def Qm5 (ops:Array Oper) (ms:List Nat) (k:Nat):List Operand:=(List.range k).filterMap λi=>bif Qkr ops i&&Qfw ms i k then(Qlv ops i).map .tmp else none
def QBs:List String:=["(*linotype/print.text).next"]
def isG (P:Program) (o:Oper):Bool:=match o.op with
 | .call ⟨.value (.func f),_,_⟩=>(match P.funcs[f]? with | some fn=>QBs.any λn=>fn.name==n | none=>false)
 | _=>false
def gAt (P:Program) (ops:Array Oper) (i:Nat):Bool:=match ops[i]? with | some o=>isG P o | none=>false
def QBt (P:Program) (ops:Array Oper) (ms:List Nat) (i k:Nat):Bool:=
 Nat.blt i k&&(Qlv ops i).isSome&&(List.range k).all λj=>Nat.blt j i||((match ops[j]? with | some o=>!(o.dst==Qlv ops i) | none=>true)&&(!(WU ops j)||(Vv ops j&&WB ops ms j&&!(gAt P ops j))||(QtL ops j&&WB ops ms j&&Qfw ms i j)))
def QiS (o:Oper):Bool:=match o.op with | .call ⟨.value (.func _),_,_⟩=>true | _=>false
def QA7 (ops:Array Oper) (i:Nat):Bool:=match ops[i]? with | some o=>QiS o | none=>false
def Qm6 (o:Oper):Option Nat:=match o.op with
 | .fieldAddr _ (.tmp b) _=>some b
 | .indexAddr _ (.tmp b) _=>some b
 | .move (.tmp b)=>some b
 | .assign (.tmp b)=>some b
 | _=>none
def QrW (o:Oper) (cur:Nat):Option Nat:=bif o.dst==some cur then Qm6 o else some cur
def Kl (ops:Array Oper) (k:Nat):Nat->Nat->Option Nat
 | 0,cur=>some cur
 | d+1,cur=>match ops[k+d]? with
  | some o=>(match QrW o cur with | some c=>Kl ops k d c | none=>none)
  | none=>none
def Qks (ops:Array Oper) (k i:Nat):Option Nat:=match Qlv ops i with
 | none=>none
 | some t=>Kl ops k (i - k) t
def Qcw (ops:Array Oper) (ms:List Nat) (k:Nat):List Operand:=(List.range ops.size).filterMap λi=>bif Nat.blt k i&&(Qkr ops i&&Qfw ms i k) then(Qks ops k i).map .tmp else none
def quiet (P:Program) (ops:Array Oper) (ms:List Nat) (i k:Nat):Bool:=
 (Nat.blt i k&&(List.range k).all λj=>Nat.ble j i||(!(WU ops j)||(WB ops ms j&&Vv ops j&&!(gAt P ops j)))) ||
 (Nat.blt k i&&QA7 ops k&&(Qks ops k i).isSome&&(List.range i).all λj=>Nat.blt j k||(!(WU ops j)||(WB ops ms j&&Vv ops j&&(!(gAt P ops j)||Qfw ms i j))))
def Qvl (P:Program) (ops:Array Oper) (ms:List Nat):Bool:=
 (List.range ops.size).all λk=>!(WU ops k)||!(WB ops ms k)||(Vv ops k&&((List.range ops.size).all λi=>!(Qkr ops i)||QA ms i k||QA ms k i||quiet P ops ms i k)&&(!(gAt P ops k)||(List.range ops.size).all λi=>(!(Qkr ops i)||QA ms i k||QA ms k i||Nat.blt k i)&&(!(QdV ops i)||!(Nat.blt i k)||QA ms i k))) ||
  (QtL ops k&&(List.range ops.size).all λi=>(!(Qkr ops i)||QA ms i k||QA ms k i||QBt P ops ms i k)&&(!(QdV ops i)||!(Nat.blt i k)||QA ms i k))
def QcY (P:Program) (ops:Array Oper) (i:Nat) (o:Oper):R:=
 match o.op with
 | .store t x y=>match P.info? t with | some inf=>.stf inf.size x y (Qm5 ops (QL ops.toList []) i) | none=>Wm P o.op
 | .call ⟨.value (.func f),args,_⟩=>bif isG P o then .callG f args.toList (Qcw ops (QL ops.toList []) i) else .callF f args.toList (Qcw ops (QL ops.toList []) i)
 | _=>Wm P o.op
def QiT (P:Program) (ops:Array Oper) (f:Bool) (i:Nat) (o:Oper):R:=bif f then QcY P ops i o else Wm P o.op
def QtM (n:Nat) (ops:Array Oper) (o:Oper):Option (Option (Nat×Bool)):=
 match o.guard with
 | none=>some none
 | some (j,want)=>match QaA ops j with
  | some t=>if t<n then some (some (t,want)) else none
  | none=>none
def G5 (P:Program) (n:Nat) (ops:Array Oper) (fl:Nat->Bool):List Oper->Nat->Option (List PO)
 | [],_=>some []
 | o::l,i=>if QdM P n o then
   match QtM n ops o,G5 P n ops fl l (i+1) with
   | some g,some pl=>some (⟨o.dst,QiT P ops (fl i) i o,g,fl i⟩::pl)
   | _,_=>none
  else none
def Qfx (P:Program) (op:Op):Bool:=match op with
 | .convert src _ _=>(match P.underlying src with | some (.slice _) | some (.pointer _) | some .unsafePointer=>true | _=>false)
 | .range t _=>(match P.underlying t with | some (.map _ _)=>true | _=>false)
 | _=>false
def J0:Nat:=1000000
def sq:PC->PC->PC
 | .skip,y=>y
 | x,.skip=>x
 | x,y=>.seq x y
def J5:PC->Nat->Option PC
 | .seq a b,l=>match J5 a l with
  | some r=>some (sq r b)
  | none=>J5 b l
 | .label l',l=>bif Nat.beq l' l then some .skip else none
 | _,_=>none
def Km:PC->List Nat
 | .seq a b=>Km a++Km b
 | .label l=>[l]
 | _=>[]
def Qqh (b:PC):PC:=
 match Km b with
 | []=>b
 | [l]=>match J5 b l with
  | some r=>.scope b l r
  | none=>.bad
 | _=>.bad
def comp (P:Program) (n:Nat):Code->Option PC
 | .skip=>some .skip
 | .label l=>some (.label l)
 | .ret=>some .ret
 | .exit id=>some (bif Nat.blt id J0 then .exit id else .bad)
 | .goto l=>some (.goto l)
 | .region _ ops false=>some (match G5 P n ops (λ_=>false) ops.toList 0 with | some l=>.ops l | none=>.bad)
 | .region _ ops true=>some (if P.follows .mixedOrders&&Qcu ops (WU ops)&&Qvl P ops (QL ops.toList [])&&ops.all (λo=>!(Qfx P o.op)) then(match G5 P n ops (WB ops (QL ops.toList [])) ops.toList 0 with | some l=>.ops l | none=>.bad) else .bad)
 | .seq a b=>match comp P n a,comp P n b with
  | some x,some y=>some (sq x y)
  | _,_=>none
 | .cond c a b=>if Qbx P n c then(match comp P n a,comp P n b with | some x,some y=>some (.cond c x y) | _,_=>none) else none
 | .block id b=>(comp P n b).map λx=>bif Nat.blt id J0 then .block id x else .bad
 | .loop b=>(comp P n b).map .loop
 | .scope b=>(comp P n b).map Qqh
 | .rangeFunc g ps a b=>if Qbx P n g then(match comp P n a,comp P n b with | some x,some y=>some (.rangeF g ps.toList x y) | _,_=>none) else none
 | _=>some .bad
/-! ### What it does -/
structure Kp where
 ret:Env->Qa->Prop
 ext:Nat->Env->Qa->Prop
def onS (o:Option (Value×Qa)) (k:Value->Qa->Prop):Prop:=∃v H',o=some (v,H')∧k v H'
def Qa.Wf (H:Qa):Prop:=∀id,H.next<=id->H.get id=none
theorem Qa.Wf.lt {H:Qa} (h:H.Wf) {id:Nat} {b:Blk} (hg:H.get id=some b):id<H.next:=by
 rcases Nat.lt_or_ge id H.next with h1 | h1
 ·exact h1
 ·rw[h id h1]at hg;cases hg
theorem Qa.Wf.push {H:Qa} (h:H.Wf) (b:Blk):(H.push b).Wf:=λid hid=>by
 simp only[Qa.next_push]at hid;rw[Qa.get_push,if_neg (by omega)];exact h id (by omega)
theorem Qa.Wf.set {H:Qa} (h:H.Wf) {i:Nat} {b0:Blk} (hg:H.get i=some b0) (b:Blk):(H.set i b).Wf:=λid hid=>by
 have:=h.lt hg;simp only[Qa.next_set]at hid;rw[Qa.get_set,if_neg (by omega)];exact h id hid
theorem Qa.Wf.kill {H:Qa} (h:H.Wf) (i:Nat):(H.kill i).Wf:=λid hid=>by
 simp only[Qa.next_kill]at hid;rw[Qa.get_kill];split
 ·rfl
 ·exact h id hid
def Qf (P:Program) (f:FuncId) (args:List Value) (H:Qa) (k:Value->Qa->Prop):Prop:=H.Wf->∃v H',Jp P f args H v H'∧H.next<=H'.next∧H'.Wf∧k v H'
def YQ (P:Program) (l:Nat) (args:List Value) (H:Qa) (k:Value->Qa->Prop):Prop:=H.Wf->∃v H',Qpp P l args H v H'∧H.next<=H'.next∧H'.Wf∧k v H'
def QhQ:Value->Value->Prop
 | .pointer (some a),.pointer (some b)=>b.block≠a.block
 | _,_=>True
def Qot (n:Nat):Value->Prop
 | .pointer (some a)=>a.block<n
 | .slice (some a) _ _=>a.block<n
 | _=>False
def QC7 (H H':Qa):Value->Prop
 | .pointer (some a)=>H'.get a.block=H.get a.block
 | .slice (some a) _ _=>H'.get a.block=H.get a.block
 | _=>True
def EqB (H H':Qa):Prop:=∀id,id<H.next->H'.get id=H.get id
def pr (P:Program) (r:R) (s:Bool) (A:Env) (H:Qa) (k:Value->Qa->Prop):Prop:=
 match r with
 | .call f args=>Qf P f (args.map (ev A)) H λv H'=>(s=true->∀id,H'.get id=H.get id)∧k v H'
 | .callv c args=>match ev A c with
  | .func (.func f) xs ys=>Qf P f (xs.toList++args.map (ev A)++ys.toList) H λv H'=>(s=true->∀id,H'.get id=H.get id)∧k v H'
  | .func (.yield l) ⟨[]⟩ ⟨[]⟩=>YQ P l (args.map (ev A)) H λv H'=>(s=true->∀id,H'.get id=H.get id)∧k v H'
  | _=>False
 | .callF f args os=>(∀z∈os,Qot H.next (ev A z))∧Qf P f (args.map (ev A)) H λv H'=>EqB H H'∧k v H'
 | .callG f args os=>(∀z∈os,Qot H.next (ev A z))∧Qf P f (args.map (ev A)) H λv H'=>(∀z∈os,QC7 H H' (ev A z))∧k v H'
 | .stf size x y os=>onS (rop P (.stf size x y os) A H) λv H'=>(∀z∈os,QhQ (ev A x) (ev A z))∧k v H'
 | r=>onS (rop P r A H) λv H'=>(s=true->Qj H.next 6 v=true)∧k v H'
def pg (g:Option (Nat×Bool)) (A:Env) (yes no:Prop):Prop:=
 match g with
 | none=>yes
 | some (t,w)=>match A t with
  | .bool b=>if b=w then yes else no
  | .tuple _=>no
  | _=>False
def Vw (P:Program):List PO->(Env->Qa->Prop)->Env->Qa->Prop
 | [],k,A,H=>k A H
 | o::l,k,A,H=>pg o.g A (pr P o.r o.s A H λv H'=>Vw P l k (ZE A o.d v) H') (Vw P l k (ZE A o.d undef) H)
def jmK (l:Nat) (I:Nat->Env->Qa->Prop) (m:Nat) (e:Nat->Env->Qa->Prop) (j:Nat) (A:Env) (H:Qa):Prop:=if j=J0+l then ∃m',m'<m∧I m' A H else e j A H
def QxD (st:Option Code) (ks:Kp) (k:Env->Qa->Prop) (A:Env) (H:Qa):Prop:=match st with
 | none=>k A H
 | some .ret=>ks.ret A H
 | some (.exit j)=>Nat.blt j J0=true∧ks.ext j A H
 | _=>False
def QC8 (L:Option Code->Blk) (l:Nat) (nx:Nat) (Q:Value->Qa->Prop):Kp:=⟨λ_ H2=>nx<=H2.next∧Q (.bool false) (H2.set l (L (some .ret))),λj _ H2=>Nat.blt j J0=true∧nx<=H2.next∧Q (.bool false) (H2.set l (L (some (.exit j))))⟩
def QBu (L:Option Code->Blk) (l:Nat) (nx:Nat) (Q:Value->Qa->Prop):Env->Qa->Prop:=λ_ H2=>nx<=H2.next∧Q (.bool true) (H2.set l (L none))
def Qvm:Kp:=⟨λ_ _=>False,λ_ _ _=>False⟩
def Qt (P:Program):PC->Kp->(Env->Qa->Prop)->Env->Qa->Prop
 | .skip,_,k,A,H=>k A H
 | .ops l,_,k,A,H=>Vw P l k A H
 | .seq a b,ks,k,A,H=>Qt P a ks (Qt P b ks k) A H
 | .cond c a b,ks,k,A,H=>match ev A c with
  | .bool t=>(t=true->Qt P a ks k A H)∧(t=false->Qt P b ks k A H)
  | _=>False
 | .block id b,ks,k,A,H=>Qt P b ⟨ks.ret,λj=>if j=id then k else ks.ext j⟩ k A H
 | .loop b,ks,k,A,H=>∃I:Nat->Env->Qa->Prop,(∃m,I m A H)∧∀m A' H',I m A' H'->Qt P b ks (λA'' H''=>∃m',m'<m∧I m' A'' H'') A' H'
 | .exit id,ks,_,A,H=>ks.ext id A H
 | .ret,ks,_,A,H=>ks.ret A H
 | .label _,_,k,A,H=>k A H
 | .goto l,ks,_,A,H=>ks.ext (J0+l) A H
 | .scope b l r,ks,k,A,H=>∃I:Nat->Env->Qa->Prop,(∃m,Qt P b ⟨ks.ret,jmK l I m ks.ext⟩ k A H)∧∀m A' H',I m A' H'->Qt P r ⟨ks.ret,jmK l I m ks.ext⟩ k A' H'
 | .rangeF g ps a b,ks,k,A,H=>match ev A g with
  | .func (.func f) xs ys=>∀L:Option Code->Blk,
    (∀ (l:Nat) (args:List Value) (H0:Qa) (Q:Value->Qa->Prop),H0.get l=some (L none)->args.length=ps.length->Qt P a Qvm (λA1 H1=>Qt P b (QC8 L l H0.next Q) (QBu L l H0.next Q) A1 H1) (Qlk A ps args) (H0.kill l)->YQ P l args H0 Q)->
    entered P f=true∧Qf P f (xs.toList++[.func (.yield H.next) #[] #[]]++ys.toList) (H.push (L none)) λ_ H2=>∃st,H2.get H.next=some (L st)∧QxD st ks k A (H2.kill H.next)
  | _=>False
 | .bad,_,_,_,_=>False
/-! ### Soundness -/
section
variable {P:Program} {n:Nat}
theorem Qws:G3 P JS:=⟨λf args H v H' h=>(by cases h),λf args H v H' h=>(by cases h),λf args H v H' h=>(by cases h)⟩
theorem Qwt {H H':Qa} {r:Option Value} {c:Cls} {v:Value} (h:XV H r=some (c,v,H')):c=.pure∧H'=H:=by
 obtain⟨_,h1,h2⟩:=Xy h;exact⟨h1,h2⟩
theorem WW {α:Type} {b:Bool} {x:Option α} {y:α} (h:(bif b then x else none)=some y):x=some y:=by cases b<;>simp_all
theorem QiU {e:TypeId} {inf:TypeInfo} {s x:Value} {H H':Qa} {v:Value} (h:Qgu e inf s x H=some (v,H')):H.next<=H'.next∧(H.Wf->H'.Wf):=by
  unfold Qgu at h
  repeat' (split at h)
  all_goals first
    | (cases h;done)
    | (simp only[Option.some.injEq,Prod.mk.injEq]at h;obtain⟨_,rfl⟩:=h;refine⟨by simp,λhw=>?_⟩
       first
         | exact hw
         | exact hw.push _
         | exact(hw.kill _).push _
         | exact hw.set (by assumption) _)
theorem Qgx {k:TypeId} {m ix v:Value} {H H':Qa} (h:QrU P k m ix v H=some H'):H.next<=H'.next∧(H.Wf->H'.Wf):=by
 unfold QrU at h;split at h
 ·split at h
  ·rename_i hg;have h:=WW h;split at h
   ·cases h;exact⟨by simp,λhw=>hw.set hg _⟩
   ·cases h;exact⟨by simp,λhw=>hw.set hg _⟩
   ·cases h
  ·cases h
 ·cases h
structure Syn (P:Program) (o:Oper) (H H':Qa) (c:Cls):Prop where
 gen:Xx c=true->QBr o=true∨Qfx P o.op=true
 load:c=.load->Qos o=true
 alloc:∀b,c=.alloc b->QtJ o=true
 next:H.next<=H'.next
 wf:H.Wf->H'.Wf
theorem Qzv {o:Oper} {A:Env} {H H':Qa} {c:Cls} {v:Value} (h:aop P JS o A H=some (c,v,H')):Syn P o H H' c:=by
  obtain⟨dst,op,ty,pos,af,g⟩:=o;have hs:∀ {u:Value},some (Cls.pure,u,H)=some (c,v,H')->Syn P ⟨dst,op,ty,pos,af,g⟩ H H' c:=λh=>by
    simp only[Option.some.injEq,Prod.mk.injEq]at h;obtain⟨rfl,_,rfl⟩:=h;exact⟨λh=>(by cases h),λh=>(by cases h),λb h=>(by cases h),Nat.le_refl _,id⟩
  have hp:∀ {r:Option Value},XV H r=some (c,v,H')->Syn P ⟨dst,op,ty,pos,af,g⟩ H H' c:=λ{r} h=>by
    obtain⟨rfl,rfl⟩:=Qwt h;exact⟨λh=>(by cases h),λh=>(by cases h),λb h=>(by cases h),Nat.le_refl _,id⟩
  have ha:∀ {b:Blk} {u:Value},QtJ ⟨dst,op,ty,pos,af,g⟩=true->some (Cls.alloc b,u,H.push b)=some (c,v,H')->Syn P ⟨dst,op,ty,pos,af,g⟩ H H' c:=λhl h=>by
    simp only[Option.some.injEq,Prod.mk.injEq]at h;obtain⟨rfl,_,rfl⟩:=h;exact⟨λh=>(by cases h),λh=>(by cases h),λb _=>hl,by simp,λhw=>hw.push _⟩
  unfold aop at h;split at h
  case h_1 hop=>exact hs h
  case h_2 hop=>exact hs h
  case h_3 hop=>
    unfold Qqe at h;split at h
    · exact hs h
    · cases h
  case h_4 hop=>exact hs (WW h)
  case h_5 hop=>exact hp h
  case h_6 hop=>exact hp h
  case h_7 hop=>
    unfold QaB at h;simp only at hop;split at h
    · split at h
      · split at h
        · exact ha (by subst hop;rfl) (WW h)
        · cases h
      · cases h
    · rename_i hu hd ex
      split at h
      · split at h
        · simp only[Option.some.injEq,Prod.mk.injEq]at h;obtain⟨rfl,_,rfl⟩:=h
          exact⟨λ_=>.inr (by subst hop;simp only[Qfx,hu]),λh=>(by cases h),λb h=>(by cases h),Nat.le_refl _,id⟩
        · cases h
      · cases h
    · rename_i hu hd ex
      split at h
      · split at h
        · simp only[Option.some.injEq,Prod.mk.injEq]at h;obtain⟨rfl,_,rfl⟩:=h
          exact⟨λ_=>.inr (by subst hop;simp only[Qfx,hu]),λh=>(by cases h),λb h=>(by cases h),Nat.le_refl _,id⟩
        · cases h
      · cases h
    · rename_i hu hd ex
      split at h
      · split at h
        · simp only[Option.some.injEq,Prod.mk.injEq]at h;obtain⟨rfl,_,rfl⟩:=h
          exact⟨λ_=>.inr (by subst hop;simp only[Qfx,hu]),λh=>(by cases h),λb h=>(by cases h),Nat.le_refl _,id⟩
        · cases h
      · cases h
    · exact hp h
  case h_8 hop=>
    unfold JK at h;split at h
    · cases h
    · exact hs h
    · cases h
  case h_9 hop=>exact hs (WW h)
  case h_10 hop=>
    unfold Qmq at h
    repeat' (split at h)
    all_goals first | exact hp h | cases h
  case h_11 hop=>
    unfold J3 at h
    repeat' (split at h)
    all_goals first
      | (cases h;done)
      | (revert h;cases hz:Nat.beq _ 0<;>intro h<;>first | exact hs h | cases h)
  case h_12 hop=>
    unfold J4 at h
    repeat' (split at h)
    all_goals first | exact hs h | cases h
  case h_13 hop=>
    unfold Qmr at h
    repeat' (split at h)
    all_goals first | exact hs h | exact hp h | cases h
  case h_14 hop=>
    unfold Qgv at h;split at h
    · exact hp h
    · cases h
  case h_15 hop=>exact hp h
  case h_16 hop=>
    unfold Qms at h
    repeat' (split at h)
    all_goals first | (cases h;done) | exact hp (WW h)
  case h_17 hop=>
    simp only at hop;unfold Qai at h;split at h
    · split at h
      · split at h
        · have h:=WW h
          split at h
          · exact ha (by subst hop;rfl) h
          · cases h
        · cases h
      · cases h
    · cases h
  case h_18 hop=>
    simp only at hop;unfold Qmt at h;split at h
    · split at h
      · exact ha (by subst hop;rfl) (WW h)
      · cases h
    · cases h
  case h_19 hop=>simp only at hop;unfold QxB at h;exact ha (by subst hop;rfl) h
  case h_20 hop=>
    simp only at hop;unfold QbD at h
    repeat' (split at h)
    all_goals first | (cases h;done) | exact ha (by subst hop;rfl) h
  case h_21 hop=>
    unfold QiL at h
    repeat' (split at h)
    all_goals first | exact hs h | exact hp h | cases h
  case h_22 hop=>
    simp only at hop;unfold Qm2 at h
    repeat' (split at h)
    all_goals first
      | (cases h;done)
      | (simp only[Option.some.injEq,Prod.mk.injEq]at h
         obtain⟨rfl,_,rfl⟩:=h;exact⟨λh=>(by cases h),λ_=>(by subst hop;rfl),λb h=>(by cases h),Nat.le_refl _,id⟩)
  case h_23 hop=>
    simp only at hop;unfold QiM at h;split at h
    · split at h
      · rename_i H1 hst
        simp only[Option.some.injEq,Prod.mk.injEq]at h;obtain⟨rfl,_,rfl⟩:=h;have hst2:H.next<=H1.next∧(H.Wf->H1.Wf):=by
          unfold QhH at hst;split at hst
          · rename_i hg
            split at hst
            · cases hst;exact⟨by simp,λhw=>hw.set hg _⟩
            · cases hst
          · cases hst
        exact⟨λ_=>.inl (by subst hop;rfl),λh=>(by cases h),λb h=>(by cases h),hst2.1,hst2.2⟩
      · cases h
    · cases h
  case h_24 cl hop=>
    simp only at hop;unfold Qcv at h;split at h
    · split at h
      · split at h
        · exact hs h
        · cases h
      · split at h
        · exact hs (WW h)
        · cases h
      · split at h
        · split at h
          · exact hs h
          · cases h
        · cases h
      · split at h
        · split at h
          · exact hs h
          · cases h
        · cases h
      · split at h
        · split at h
          · split at h
            · have h:=WW h
              simp only[Option.map_eq_some_iff,Prod.mk.injEq]at h;obtain⟨⟨u,H1⟩,h1,rfl,rfl,rfl⟩:=h;exact⟨λ_=>.inl (by subst hop;rfl),λh=>(by cases h),λb h=>(by cases h),(QiU h1).1,(QiU h1).2⟩
            · cases h
          · cases h
        · cases h
      · split at h
        · split at h
          · simp only[Option.map_eq_some_iff,Prod.mk.injEq]at h
            obtain⟨⟨u,H1⟩,h1,rfl,rfl,rfl⟩:=h;have hn:H.next<=H1.next∧(H.Wf->H1.Wf):=by
              unfold Qlo at h1
              repeat' (split at h1)
              all_goals first
                | (cases h1;done)
                | (simp only[Option.some.injEq,Prod.mk.injEq]at h1;obtain⟨_,rfl⟩:=h1;exact⟨by simp,λhw=>by first | exact hw | exact hw.set (by assumption) _⟩)
            exact⟨λ_=>.inl (by subst hop;rfl),λh=>(by cases h),λb h=>(by cases h),hn.1,hn.2⟩
          · cases h
        · cases h
      · split at h
        · exact hs h
        · split at h
          · exact hs h
          · cases h
        · cases h
      · split at h
        · simp only[Option.some.injEq,Prod.mk.injEq]at h;obtain⟨rfl,_,rfl⟩:=h
          exact⟨λ_=>.inl (by subst hop;rfl),λh=>(by cases h),λb h=>(by cases h),Nat.le_refl _,id⟩
        · split at h
          · rename_i hg
            split at h
            · split at h
              · simp only[Option.some.injEq,Prod.mk.injEq]at h;obtain⟨rfl,_,rfl⟩:=h
                exact⟨λ_=>.inl (by subst hop;rfl),λh=>(by cases h),λb h=>(by cases h),by simp,λhw=>hw.set hg _⟩
              · cases h
            · cases h
          · cases h
        · cases h
      · cases h
    · split at h
      · split at h
        · simp[JS]at h
        · cases h
      · cases h
    · simp[JS]at h
    · split at h
      · simp[JS]at h
      · have h:=WW h;simp[JS]at h
      · cases h
  case h_25 hop=>simp only at hop;exact ha (by subst hop;rfl) h
  case h_26 hop=>
    simp only at hop;unfold QiN at h;split at h
    · simp only[Option.map_eq_some_iff,Prod.mk.injEq]at h
      obtain⟨u,h1,rfl,rfl,rfl⟩:=h;exact⟨λ_=>.inl (by subst hop;rfl),λh=>(by cases h),λb h=>(by cases h),Nat.le_refl _,id⟩
    · cases h
  case h_27 hop=>
    simp only at hop;unfold Qm3 at h;split at h
    · simp only[Option.map_eq_some_iff,Prod.mk.injEq]at h
      obtain⟨H1,h1,rfl,rfl,rfl⟩:=h;exact⟨λ_=>.inl (by subst hop;rfl),λh=>(by cases h),λb h=>(by cases h),(Qgx h1).1,(Qgx h1).2⟩
    · cases h
  case h_28 hop=>
    simp only at hop;unfold Qm3 at h;split at h
    · simp only[Option.map_eq_some_iff,Prod.mk.injEq]at h
      obtain⟨H1,h1,rfl,rfl,rfl⟩:=h;exact⟨λ_=>.inl (by subst hop;rfl),λh=>(by cases h),λb h=>(by cases h),(Qgx h1).1,(Qgx h1).2⟩
    · cases h
  case h_29 hop=>
    simp only at hop;unfold Qqf at h;split at h
    · exact ha (by subst hop;rfl) h
    · rename_i ht ex
      simp only[Option.some.injEq,Prod.mk.injEq]at h;obtain⟨rfl,_,rfl⟩:=h;exact⟨λ_=>.inr (by subst hop;simp only[Qfx,ht]),λh=>(by cases h),λb h=>(by cases h),by simp,λhw=>hw.push _⟩
    · rename_i ht ex
      split at h
      · simp only[Option.some.injEq,Prod.mk.injEq]at h
        obtain⟨rfl,_,rfl⟩:=h;exact⟨λ_=>.inr (by subst hop;simp only[Qfx,ht]),λh=>(by cases h),λb h=>(by cases h),by simp,λhw=>hw.push _⟩
      · cases h
    · cases h
  case h_30 hop=>
    simp only at hop;simp only[Option.map_eq_some_iff,Prod.mk.injEq]at h;obtain⟨⟨u,H1⟩,h1,rfl,rfl,rfl⟩:=h;have hn:H.next<=H1.next∧(H.Wf->H1.Wf):=by
      unfold Qvi at h1;split at h1
      · have h1:=WW h1
        split at h1
        · rename_i hg
          split at h1
          · simp only[Option.some.injEq,Prod.mk.injEq]at h1;obtain⟨_,rfl⟩:=h1;exact⟨by simp,λhw=>hw.set hg _⟩
          · simp only[Option.some.injEq,Prod.mk.injEq]at h1;obtain⟨_,rfl⟩:=h1;exact⟨by simp,λhw=>hw⟩
        · cases h1
      · cases h1
    exact⟨λ_=>.inl (by subst hop;rfl),λh=>(by cases h),λb h=>(by cases h),hn.1,hn.2⟩
  case h_31 hop=>
    simp only at hop;simp only[Option.map_eq_some_iff,Prod.mk.injEq]at h;obtain⟨⟨u,H1⟩,h1,rfl,rfl,rfl⟩:=h;have hn:H.next<=H1.next∧(H.Wf->H1.Wf):=by
      unfold Qqc at h1;split at h1
      · have h1:=WW h1
        split at h1
        · simp only[Option.some.injEq,Prod.mk.injEq]at h1;obtain⟨_,rfl⟩:=h1;exact⟨by simp,λhw=>hw⟩
        · rename_i hg
          split at h1
          · have h1:=WW h1
            split at h1
            · simp only[Option.some.injEq,Prod.mk.injEq]at h1;obtain⟨_,rfl⟩:=h1;exact⟨by simp,λhw=>hw⟩
            · split at h1
              · have h1:=WW h1
                simp only[Option.some.injEq,Prod.mk.injEq]at h1;obtain⟨_,rfl⟩:=h1;exact⟨by simp,λhw=>hw.set hg _⟩
              · cases h1
            · cases h1
          · cases h1
        · cases h1
      · cases h1
    exact⟨λ_=>.inl (by subst hop;rfl),λh=>(by cases h),λb h=>(by cases h),hn.1,hn.2⟩
  case h_32 hop=>
    simp only at hop;simp only[Option.map_eq_some_iff,Prod.mk.injEq]at h;obtain⟨u,h1,rfl,rfl,rfl⟩:=h;exact⟨λ_=>.inl (by subst hop;rfl),λh=>(by cases h),λb h=>(by cases h),Nat.le_refl _,λhw=>hw⟩
  case h_33=>cases h
end
section
variable {P:Program} {n:Nat}
theorem Qpy {ops:Array Oper} {o:Oper} {g:Option (Nat×Bool)} {A:Env} {yes no:Prop} (hc:QtM n ops o=some g) (h:pg g A yes no):
  (XU n ops A o=some true∧yes)∨(XU n ops A o=some false∧no):=by
 unfold QtM at hc;unfold XU;split at hc
 ·rename_i hg;cases hc;exact .inl ⟨by rw[hg],h⟩
 ·rename_i j want hg;rw[hg];split at hc
  ·rename_i t ht;split at hc
   ·rename_i hlt;cases hc;have h':(match A t with | .bool b=>if b=want then yes else no | .tuple _=>no | _=>False):=h;simp only[ht,hlt,if_true];split at h'
    ·rename_i b hb;split at h'
     ·rename_i e;exact .inl ⟨by simp[hb,e],h'⟩
     ·rename_i e;exact .inr ⟨by simp[hb,e],h'⟩
    ·rename_i hb;exact .inr ⟨by simp[hb],h'⟩
    ·exact h'.elim
   ·cases hc
  ·cases hc
theorem Qqo {op:Op} {f:FuncId} {args:List Operand} (h:Wm P op=.call f args):∃a ts,op=.call ⟨.value (.func f),a,ts⟩∧args=a.toList:=by
 unfold Wm at h
 repeat' (split at h)
 all_goals first
  | (cases h;done)
  | (cases h;exact⟨_,_,rfl,rfl⟩)
theorem Qow {op:Op} {c:Operand} {args:List Operand} (h:Wm P op=.callv c args):∃a ts,op=.call ⟨.value c,a,ts⟩∧args=a.toList:=by
 unfold Wm at h
 repeat' (split at h)
 all_goals first
  | (cases h;done)
  | (cases h;exact⟨_,_,rfl,rfl⟩)
theorem Qr1 {op:Op} {size:Nat} {x y:Operand} {os:List Operand} (h:Wm P op=.stf size x y os):False:=by
 unfold Wm at h
 repeat' (split at h)
 all_goals cases h
theorem Qox {op:Op} {f:FuncId} {args os:List Operand} (h:Wm P op=.callF f args os):False:=by
 unfold Wm at h
 repeat' (split at h)
 all_goals cases h
theorem Qoy {op:Op} {f:FuncId} {args os:List Operand} (h:Wm P op=.callG f args os):False:=by
 unfold Wm at h
 repeat' (split at h)
 all_goals cases h
def InB (v:Value) (b:Nat):Prop:=(∃a:Addr,v=.pointer (some a)∧a.block=b)∨∃ (a:Addr) (n c:Nat),v=.slice (some a) n c∧a.block=b
theorem InB.uniq {v:Value} {b b':Nat} (h:InB v b) (h':InB v b'):b=b':=by
 rcases h with⟨a,rfl,rfl⟩ | ⟨a,n,c,rfl,rfl⟩<;>rcases h' with⟨a',e,rfl⟩ | ⟨a',n',c',e,rfl⟩<;>cases e<;>rfl
def FA (o:Oper) (A:Env) (v:Value):Prop:=∀b,Qm6 o=some b->∀n,InB v n->InB (A b) n
theorem FA.none {o:Oper} {A:Env} {v:Value} (h:Qm6 o=none):FA o A v:=λb h'=>by rw[h]at h';cases h'
theorem QBD {o:Oper} {A:Env} {H H':Qa} {c:Cls} {v:Value} (h:aop P JS o A H=some (c,v,H')):FA o A v:=by
 obtain⟨dst,op,ty,pos,af,g⟩:=o;intro b hf n hv;unfold Qm6 at hf;split at hf
 ·rename_i t b' f hop;simp only at hop;subst hop;cases hf;have h:J3 P JS A H t (.tmp b) f=some (c,v,H'):=h;unfold J3 at h;split at h
  ·rename_i fs a _ ha;split at h
   ·split at h
    ·rename_i inf _;cases hz:Nat.beq inf.size 0 with
     | true=>rw[hz]at h;cases h
     | false=>
      rw[hz]at h;simp only[cond_false,Option.some.injEq,Prod.mk.injEq]at h;have ha:A b=.pointer (some a):=ha;obtain⟨_,rfl,_⟩:=h;rcases hv with⟨a',e,rfl⟩ | ⟨a',n',c',e,rfl⟩
      ·cases e;exact .inl ⟨a,ha,rfl⟩
      ·cases e
    ·cases h
   ·cases h
  ·cases h
 ·rename_i t b' ix hop;simp only at hop;subst hop;cases hf;have h:J4 P JS A H t (.tmp b) ix=some (c,v,H'):=h;unfold J4 at h;split at h
  ·split at h
   ·rename_i e a len cap _ ha;have ha:A b=.slice (some a) len cap:=ha;split at h
    ·split at h
     ·simp only[Option.some.injEq,Prod.mk.injEq]at h;obtain⟨_,rfl,_⟩:=h;rcases hv with⟨a',e,rfl⟩ | ⟨a',n',c',e,rfl⟩
      ·cases e;exact .inr ⟨a,_,_,ha,rfl⟩
      ·cases e
     ·cases h
    ·cases h
   ·rename_i len e a _ ha;have ha:A b=.pointer (some a):=ha;split at h
    ·split at h
     ·simp only[Option.some.injEq,Prod.mk.injEq]at h;obtain⟨_,rfl,_⟩:=h;rcases hv with⟨a',e,rfl⟩ | ⟨a',n',c',e,rfl⟩
      ·cases e;exact .inl ⟨a,ha,rfl⟩
      ·cases e
     ·cases h
    ·cases h
   ·cases h
  ·cases h
 ·rename_i b' hop;simp only at hop;subst hop;cases hf;have h:some (Cls.pure,ev A (.tmp b),H)=some (c,v,H'):=h;cases h;exact hv
 ·rename_i b' hop;simp only at hop;subst hop;cases hf;have h:some (Cls.pure,ev A (.tmp b),H)=some (c,v,H'):=h;cases h;exact hv
 ·cases hf
theorem Qqp {o:Oper} {s:Bool} {A:Env} {H:Qa} {k:Value->Qa->Prop} (hw:H.Wf) (h:pr P (Wm P o.op) s A H k):
  ∃c v H',Qlp P o A H v H' c∧Syn P o H H' c∧(s=true->QbG o=true->∀id,H'.get id=H.get id)∧(s=true->Qos o=true->Qj H.next 6 v=true)∧FA o A v∧k v H':=by
 obtain⟨dst,op,ty,pos,af,g⟩:=o;have other:onS (rop P (Wm P op) A H) (λv H'=>(s=true->Qj H.next 6 v=true)∧k v H')->
   ∃c v H',Qlp P ⟨dst,op,ty,pos,af,g⟩ A H v H' c∧Syn P ⟨dst,op,ty,pos,af,g⟩ H H' c∧(s=true->QbG ⟨dst,op,ty,pos,af,g⟩=true->∀id,H'.get id=H.get id)∧(s=true->Qos ⟨dst,op,ty,pos,af,g⟩=true->Qj H.next 6 v=true)∧FA ⟨dst,op,ty,pos,af,g⟩ A v∧k v H':=fun⟨v,H',hr,hs,hk⟩=>by
  obtain⟨c,ha⟩:=QtI hr;have ha:aop P JS ⟨dst,op,ty,pos,af,g⟩ A H=some (c,v,H'):=ha;refine⟨c,v,H',Qgw Qws ha,Qzv ha,λ_ hc=>?_,λh _=>hs h,QBD ha,hk⟩;unfold QbG at hc;split at hc
  ·rename_i f a ts hop;simp only at hop;subst hop;unfold aop at ha;simp only[Qcv]at ha;split at ha
   ·rename_i he;cases he
   ·rename_i he;cases he
   ·simp[JS]at ha
   ·split at ha
    ·simp[JS]at ha
    ·have ha:=WW ha;simp[JS]at ha
    ·cases ha
  ·cases hc
 simp only[pr]at h;split at h
 ·rename_i f args hr;obtain⟨a,ts,hop,rfl⟩:=Qqo hr;subst hop;obtain⟨v,H',hc,hn,hwf,hs,hk⟩:=h hw;refine⟨.gen,v,H',Qmo (by simpa using hc),⟨λ_=>.inl rfl,λh=>(by cases h),λb h=>(by cases h),hn,λ_=>hwf⟩,λh _=>hs h,λ_ h=>(by cases h),.none rfl,hk⟩
 ·rename_i c args hr;obtain⟨a,ts,hop,rfl⟩:=Qow hr;subst hop;split at h
  ·rename_i f xs ys hv;obtain⟨v,H',hc,hn,hwf,hs,hk⟩:=h hw;refine⟨.gen,v,H',QrM hv (by simpa using hc),⟨λ_=>.inl rfl,λh=>(by cases h),λb h=>(by cases h),hn,λ_=>hwf⟩,λh _=>hs h,λ_ h=>(by cases h),.none rfl,hk⟩
  ·rename_i l hv;obtain⟨v,H',hc,hn,hwf,hs,hk⟩:=h hw;refine⟨.gen,v,H',QrS hv (by simpa using hc),⟨λ_=>.inl rfl,λh=>(by cases h),λb h=>(by cases h),hn,λ_=>hwf⟩,λh _=>hs h,λ_ h=>(by cases h),.none rfl,hk⟩
  ·exact h.elim
 ·rename_i hr;exact(Qox hr).elim
 ·rename_i hr;exact(Qoy hr).elim
 ·rename_i hr;exact(Qr1 hr).elim
 ·exact other h
def Low (P:Program) (o:Oper) (os:List Operand) (A:Env) (H H':Qa):Prop:=QiS o=true->∀z∈os,∃b:Nat,InB (ev A z) b∧b<H.next∧(isG P o=true->H'.get b=H.get b)
def Sep (o:Oper) (os:List Operand) (A:Env) (H H':Qa):Prop:=QtK o=true->∃a:Nat,(∀id,id≠a->H'.get id=H.get id)∧∀z∈os,∀b:Addr,ev A z=.pointer (some b)->b.block≠a
theorem Qr2 {ops:Array Oper} {i:Nat} {o:Oper} {s:Bool} {A:Env} {H:Qa} {k:Value->Qa->Prop} (hw:H.Wf) (h:pr P (QiT P ops s i o) s A H k):
  ∃c v H',Qlp P o A H v H' c∧Syn P o H H' c∧(s=true->QbG o=true->isG P o=false->EqB H H')∧(s=true->Qos o=true->Qj H.next 6 v=true)∧(s=true->Sep o (Qm5 ops (QL ops.toList []) i) A H H')∧(s=true->Low P o (Qcw ops (QL ops.toList []) i) A H H')∧FA o A v∧k v H':=by
 cases s with
 | false=>
  obtain⟨c,v,H',h1,h2,h3,h4,hfa,h5⟩:=Qqp hw h;exact⟨c,v,H',h1,h2,λh=>(by cases h),h4,λh=>(by cases h),λh=>(by cases h),hfa,h5⟩
 | true=>
  have h:pr P (QcY P ops i o) true A H k:=h;have plainly:QtK o=false->QiS o=false->QcY P ops i o=Wm P o.op->∃c v H',Qlp P o A H v H' c∧Syn P o H H' c∧(true=true->QbG o=true->isG P o=false->EqB H H')∧(true=true->Qos o=true->Qj H.next 6 v=true)∧(true=true->Sep o (Qm5 ops (QL ops.toList []) i) A H H')∧(true=true->Low P o (Qcw ops (QL ops.toList []) i) A H H')∧FA o A v∧k v H':=λhns hnd e=>by
   rw[e]at h;obtain⟨c,v,H',h1,h2,h3,h4,hfa,h5⟩:=Qqp hw h;exact⟨c,v,H',h1,h2,λhh hc _ id _=>h3 hh hc id,h4,λ_ hs=>(by rw[hns]at hs;cases hs),λ_ hs=>(by rw[hnd]at hs;cases hs),hfa,h5⟩
  cases hst:QtK o with
  | false=>
   cases hdi:QiS o with
   | false=>
    refine plainly hst hdi ?_;unfold QcY;unfold QtK at hst;unfold QiS at hdi;split
    ·rename_i t x y hop;rw[hop]at hst;cases hst
    ·rename_i hop;rw[hop]at hdi;cases hdi
    ·rfl
   | true=>
    obtain⟨dst,op,ty,pos,af,g⟩:=o;unfold QiS at hdi;split at hdi
    ·rename_i f a ts hop;simp only at hop;subst hop;have hres:QcY P ops i ⟨dst,.call ⟨.value (.func f),a,ts⟩,ty,pos,af,g⟩=bif isG P ⟨dst,.call ⟨.value (.func f),a,ts⟩,ty,pos,af,g⟩ then .callG f a.toList (Qcw ops (QL ops.toList []) i) else .callF f a.toList (Qcw ops (QL ops.toList []) i):=rfl
     rw[hres]at h;cases hG:isG P ⟨dst,.call ⟨.value (.func f),a,ts⟩,ty,pos,af,g⟩ with
     | false=>
      rw[hG]at h;obtain⟨hlow,hq⟩:=h;obtain⟨v,H',hc,hn,hwf,hs,hk⟩:=hq hw;refine⟨.gen,v,H',Qmo (by simpa using hc),⟨λ_=>.inl rfl,λh=>(by cases h),λb h=>(by cases h),hn,λ_=>hwf⟩,λ_ _ _=>hs,λ_ h=>(by cases h),λ_ h=>(by cases h),λ_ _ z hz=>?_,.none rfl,hk⟩;have:=hlow z hz;unfold Qot at this;split at this
      ·rename_i b hb;exact⟨_,.inl ⟨b,hb,rfl⟩,this,λh=>absurd (hG.symm.trans h) (by decide)⟩
      ·rename_i b n c hb;exact⟨_,.inr ⟨b,n,c,hb,rfl⟩,this,λh=>absurd (hG.symm.trans h) (by decide)⟩
      ·exact this.elim
     | true=>
      rw[hG]at h;obtain⟨hlow,hq⟩:=h;obtain⟨v,H',hc,hn,hwf,hs,hk⟩:=hq hw;refine⟨.gen,v,H',Qmo (by simpa using hc),⟨λ_=>.inl rfl,λh=>(by cases h),λb h=>(by cases h),hn,λ_=>hwf⟩,λ_ _ h=>(by cases h),λ_ h=>(by cases h),λ_ h=>(by cases h),λ_ _ z hz=>?_,.none rfl,hk⟩;have h1:=hlow z hz;have h2:=hs z hz;unfold Qot at h1;split at h1
      ·rename_i b hb;rw[hb]at h2;exact⟨_,.inl ⟨b,hb,rfl⟩,h1,λ_=>h2⟩
      ·rename_i b n c hb;rw[hb]at h2;exact⟨_,.inr ⟨b,n,c,hb,rfl⟩,h1,λ_=>h2⟩
      ·exact h1.elim
    ·cases hdi
  | true=>
   unfold QtK at hst;split at hst
   ·rename_i t x y hop;unfold QcY at h;rw[hop]at h;simp only at h;cases hin:P.info? t with
    | none=>
     rw[hin]at h;have e:Wm P (.store t x y)=.gen (.store t x y):=by simp[Wm,hin]
     simp only at h;rw[e]at h;obtain⟨v,H',hr,hs,hk⟩:=h;simp only[rop,aop,QiM,QhH,hin]at hr;split at hr
     ·rename_i hh;repeat' (split at hh)
      all_goals (first | (cases hh;done) | (rename_i h9;cases h9))
     ·cases hr
    | some inf=>
     rw[hin]at h;obtain⟨v,H',hr,hs,hk⟩:=h;have e:Wm P o.op=.st inf.size x y:=by rw[hop];simp[Wm,hin]
     obtain⟨c,v1,H1,h1,h2,h3,h4,hfa,h5⟩:=Qqp (s:=false) (k:=λv' H1=>v'=v∧H1=H') hw (o:=o) (by
      rw[e];exact⟨v,H',hr,λh=>(by cases h),rfl,rfl⟩)
     obtain⟨rfl,rfl⟩:=h5;refine⟨c,v1,H1,h1,h2,λ_ hc _=>?_,λ_ hl=>?_,λ_ _=>?_,λ_ hd=>?_,hfa,hk⟩
     ·unfold QbG at hc;rw[hop]at hc;cases hc
     ·unfold Qos at hl;rw[hop]at hl;cases hl
     ·simp only[rop]at hr;split at hr
      ·rename_i a ha;split at hr
       ·rename_i c' e' hg;split at hr
        ·simp only[Option.some.injEq,Prod.mk.injEq]at hr;obtain⟨_,rfl⟩:=hr;refine⟨a.block,λid hid=>by rw[Qa.get_set,if_neg hid],λz hz=>?_⟩;have hap:=hs z hz;rw[ha]at hap;intro b1 hb1;rw[hb1]at hap;exact hap
        ·cases hr
       ·cases hr
      ·cases hr
     ·unfold QiS at hd;rw[hop]at hd;cases hd
   ·cases hst
theorem QhS {ops:Array Oper} {fl:Nat->Bool}:∀ (l:List Oper) (i:Nat) (pl:List PO) (k:Env->Qa->Prop) (A:Env) (H:Qa),H.Wf->G5 P n ops fl l i=some pl->Vw P pl k A H->
  ∃A1 H1,H1.Wf∧k A1 H1∧Qct P n ops l (λe A' H'=>e=.normal∧A'=A1∧H'=H1) A H
 | [],i,pl,k,A,H,hwf,hc,h=>by
  simp only[G5,Option.some.injEq]at hc;subst hc;exact⟨A,H,hwf,h,QrF ⟨rfl,rfl,rfl⟩⟩
 | o::l,i,pl,k,A,H,hwf,hc,h=>by
  unfold G5 at hc;split at hc
  ·rename_i hok;split at hc
   ·rename_i g pl1 hg hpl;cases hc;have h:pg g A (pr P (QiT P ops (fl i) i o) (fl i) A H λv H'=>Vw P pl1 k (ZE A o.dst v) H') (Vw P pl1 k (ZE A o.dst undef) H):=h;rcases Qpy hg h with⟨hw,hy⟩ | ⟨hw,hn⟩
    ·obtain⟨c,v,H',h1,h2,h3,h4,_,_,_,h5⟩:=Qr2 hwf hy;obtain⟨A1,H1,hw1,hk,ha⟩:=QhS l (i+1) pl1 k _ _ (h2.wf hwf) hpl h5;refine⟨A1,H1,hw1,hk,?_⟩;cases hgd:o.guard with
     | none=>exact Qph hgd h1.does hok ha
     | some jw=>
      obtain⟨j,w⟩:=jw;exact QbF hgd hw (λ_=>⟨v,H',h1.does,ha⟩) (λhh=>by cases hh) hok
    ·obtain⟨A1,H1,hw1,hk,ha⟩:=QhS l (i+1) pl1 k _ _ hwf hpl hn;refine⟨A1,H1,hw1,hk,?_⟩;cases hgd:o.guard with
     | none=>simp[XU,hgd]at hw
     | some jw=>
      obtain⟨j,w⟩:=jw;exact QbF hgd hw (λhh=>by cases hh) (λ_=>ha) hok
   ·cases hc
  ·cases hc
structure StR (P:Program) (n:Nat) (ops:Array Oper) (fl:Nat->Bool) (i:Nat) (o:Oper) (s:Stp) (t':Env) (H':Qa):Prop where
 ok:QdM P n o=true
 wf:s.H.Wf
 env:t'=ZE s.t o.dst s.v
 next:s.H.next<=H'.next
 run:(XU n ops s.t o=some true∧Qlp P o s.t s.H s.v H' s.c∧Syn P o s.H H' s.c∧(fl i=true->QbG o=true->isG P o=false->EqB s.H H')∧(fl i=true->Qos o=true->Qj s.H.next 6 s.v=true)∧(fl i=true->Sep o (Qm5 ops (QL ops.toList []) i) s.t s.H H')∧(fl i=true->Low P o (Qcw ops (QL ops.toList []) i) s.t s.H H')∧FA o s.t s.v) ∨
  (XU n ops s.t o=some false∧s.c=.pure∧s.v=undef∧H'=s.H)
def Qfz (l:List Stp) (t:Env) (i:Nat):Env:=match l[i]? with | some s=>s.t | none=>t
theorem Qm9 {ops:Array Oper} {fl:Nat->Bool}:∀ (l:List Oper) (i:Nat) (pl:List PO) (k:Env->Qa->Prop) (A:Env) (H:Qa),H.Wf->G5 P n ops fl l i=some pl->Vw P pl k A H->
  ∃tr A1 H1,H1.Wf∧k A1 H1∧tr.length=l.length∧Qfz tr A1 0=A∧WV tr H1 0=H∧∀ (j:Nat) o s,l[j]? = some o->tr[j]? = some s->StR P n ops fl (i+j) o s (Qfz tr A1 (j+1)) (WV tr H1 (j+1))
 | [],i,pl,k,A,H,hwf,hc,h=>by
  simp only[G5,Option.some.injEq]at hc;subst hc;exact⟨[],A,H,hwf,h,rfl,rfl,rfl,λj o s h=>by simp at h⟩
 | o::l,i,pl,k,A,H,hwf,hc,h=>by
  unfold G5 at hc;split at hc
  ·rename_i hok;split at hc
   ·rename_i g pl1 hg hpl;cases hc;have h:pg g A (pr P (QiT P ops (fl i) i o) (fl i) A H λv H'=>Vw P pl1 k (ZE A o.dst v) H') (Vw P pl1 k (ZE A o.dst undef) H):=h;have step:∀ (s:Stp) (t':Env) (H':Qa),s.t=A->s.H=H->H'.Wf->Vw P pl1 k t' H'->StR P n ops fl i o s t' H'->
      ∃tr A1 H1,H1.Wf∧k A1 H1∧tr.length=(o::l).length∧Qfz tr A1 0=A∧WV tr H1 0=H∧∀ (j:Nat) o' s,(o::l)[j]? = some o'->tr[j]? = some s->StR P n ops fl (i+j) o' s (Qfz tr A1 (j+1)) (WV tr H1 (j+1)):=by
     intro s t' H' e1 e2 hw' hp hst;obtain⟨tr,A1,H1,hw1,hk,hl,ht,hh,hs⟩:=Qm9 l (i+1) pl1 k t' H' hw' hpl hp;refine⟨s::tr,A1,H1,hw1,hk,by simp[hl],by simp[Qfz,e1],by simp[WV,e2],λj o' s' hj hs'=>?_⟩;cases j with
     | zero=>
      simp only[List.getElem?_cons_zero,Option.some.injEq]at hj hs';subst hj;subst hs';have h1:Qfz (s::tr) A1 (0+1)=t':=by rw[<- ht];simp[Qfz]
      have h2:WV (s::tr) H1 (0+1)=H':=by rw[<- hh];simp[WV]
      rw[h1,h2];exact hst
     | succ j=>
      have:=hs j o' s' (by simpa using hj) (by simpa using hs');rw[show i+(j+1)=i+1+j by omega];simpa[Qfz,WV] using this
    rcases Qpy hg h with⟨hw,hy⟩ | ⟨hw,hn⟩
    ·obtain⟨c,v,H',h1,h2,h3,h4,h6,h7,hfa,h5⟩:=Qr2 hwf hy;exact step ⟨A,H,c,v⟩ _ H' rfl rfl (h2.wf hwf) h5 ⟨hok,hwf,rfl,h2.next,.inl ⟨hw,h1,h2,h3,h4,h6,h7,hfa⟩⟩
    ·exact step ⟨A,H,.pure,undef⟩ _ H rfl rfl hwf hn ⟨hok,hwf,rfl,Nat.le_refl _,.inr ⟨hw,rfl,rfl,rfl⟩⟩
   ·cases hc
  ·cases hc
theorem K9 {t:TypeId} {a:Addr} {H1 H2:Qa} (h:H1.get a.block=H2.get a.block):XS P t a H1=XS P t a H2:=by
 unfold XS;rw[h]
theorem Qna (ops:Array Oper) (k e:Nat):∀ (d cur:Nat),Kl ops k (e+d) cur=match Kl ops (k+e) d cur with | some c=>Kl ops k e c | none=>none
 | 0,cur=>rfl
 | d+1,cur=>by
  show(match ops[k+(e+d)]? with | some o=>(match QrW o cur with | some c=>Kl ops k (e+d) c | none=>none) | none=>none)=(match (match ops[k+e+d]? with | some o=>(match QrW o cur with | some c=>Kl ops (k+e) d c | none=>none) | none=>none) with | some c=>Kl ops k e c | none=>none);rw[show k+(e+d)=k+e+d by omega];cases ops[k+e+d]? with
  | none=>rfl
  | some o=>
   simp only;cases QrW o cur with
   | none=>rfl
   | some c=>exact Qna ops k e d c
theorem QtZ {ops:Array Oper} {k i j tm bs:Nat} (h:Kl ops k (i - k) tm=some bs) (h1:k<=j) (h2:j<=i):∃c,Kl ops j (i - j) tm=some c:=by
 have:=Qna ops k (j - k) (i - j) tm;rw[show j - k+(i - j)=i - k by omega,h,show k+(j - k)=j by omega]at this;cases hc:Kl ops j (i - j) tm with
 | none=>rw[hc]at this;cases this
 | some c=>exact⟨c,rfl⟩
theorem Qt0 {id:Nat} {ops:Array Oper} {pl:List PO} {k:Env->Qa->Prop} {A:Env} {H:Qa} (hwf:H.Wf) (hm:P.follows .mixedOrders=true) (hrare:∀o∈ops,Qfx P o.op=false) (hd:Qcu ops (WU ops)=true) (hck:Qvl P ops (QL ops.toList [])=true)
  (hc:G5 P n ops (WB ops (QL ops.toList [])) ops.toList 0=some pl) (h:Vw P pl k A H):
  ∃A1 H1,H1.Wf∧k A1 H1∧AWp P n (.region id ops true) (λe A' H'=>e=.normal∧A'=A1∧H'=H1) A H:=by
 obtain⟨tr,A1,H1,hw1,hk,hl,hA,hH,hs⟩:=Qm9 ops.toList 0 pl k A H hwf hc h;refine⟨A1,H1,hw1,hk,?_⟩;have hlen:tr.length=ops.size:=by simpa using hl
 let As:Nat->Env:=Qfz tr A1
 let Hs:Nat->Qa:=WV tr H1
 let vs:Nat->Value:=λi=>match tr[i]? with | some s=>s.v | none=>undef
 let cls:Nat->Cls:=λi=>match tr[i]? with | some s=>s.c | none=>.pure
 have hat:∀ (i:Nat) o,ops[i]? = some o->∃s,tr[i]? = some s∧StR P n ops (WB ops (QL ops.toList [])) i o s (As (i+1)) (Hs (i+1))∧As i=s.t∧Hs i=s.H∧vs i=s.v∧cls i=s.c:=λi o ho=>by
  have hlt:i<tr.length:=by rw[hlen];exact(Array.getElem?_eq_some_iff.1 ho).1
  have hi:=List.getElem?_eq_getElem hlt;refine⟨tr[i],hi,by have:=hs i o tr[i] (by simpa using ho) hi;rwa [Nat.zero_add]at this,?_,?_,?_,?_⟩<;>simp only[As,Hs,vs,cls,Qfz,WV,hi]
 have hops:∀i,i<ops.size->∃o,ops[i]? = some o:=λi hi=>⟨ops[i],Array.getElem?_eq_getElem hi⟩;have hgen:∀i,i<ops.size->Xx (cls i)=true->WU ops i=true:=λi hi hg=>by
  obtain⟨o,ho⟩:=hops i hi;obtain⟨s,hsi,hst,_,_,_,e4⟩:=hat i o ho;rw[e4]at hg;simp only[WU,ho];rcases hst.run with⟨_,_,hsyn,_⟩ | ⟨_,hc0,_⟩
  ·rcases hsyn.gen hg with h | h
   ·exact h
   ·have:=hrare o (Array.mem_of_getElem? ho);rw[h]at this;cases this
  ·rw[hc0]at hg;cases hg
 have hchk:∀k',k'<ops.size->WU ops k'=true->WB ops (QL ops.toList []) k'=true->(Vv ops k'=true∧(∀i,i<ops.size->Qkr ops i=true->QA (QL ops.toList []) i k'=false->QA (QL ops.toList []) k' i=false->quiet P ops (QL ops.toList []) i k'=true)∧(gAt P ops k'=true->∀i,i<ops.size->(Qkr ops i=true->QA (QL ops.toList []) i k'=false->QA (QL ops.toList []) k' i=false->k'<i)∧(QdV ops i=true->i<k'->QA (QL ops.toList []) i k'=true))) ∨
   (QtL ops k'=true∧∀i,i<ops.size->(Qkr ops i=true->QA (QL ops.toList []) i k'=false->QA (QL ops.toList []) k' i=false->QBt P ops (QL ops.toList []) i k'=true)∧(QdV ops i=true->i<k'->QA (QL ops.toList []) i k'=true)):=λk' hk' hg hf=>by
  have:=List.all_eq_true.1 hck k' (List.mem_range.2 hk');simp only[hg,hf,Bool.not_true,Bool.false_or,Bool.or_eq_true,Bool.and_eq_true,List.all_eq_true,List.mem_range]at this;rcases this with this | this
  ·refine .inl ⟨this.1.1,λi hi h1 h2 h3=>?_,λhg i hi=>⟨λh1 h2 h3=>?_,λh1 h2=>?_⟩⟩
   ·have:=this.1.2 i hi;simpa[h1,h2,h3] using this
   ·have h9:=this.2;simp only[hg,Bool.not_true,Bool.false_eq_true,false_or]at h9;have:=(h9 i hi).1;simpa[h1,h2,h3] using this
   ·have h9:=this.2;simp only[hg,Bool.not_true,Bool.false_eq_true,false_or]at h9;have:=(h9 i hi).2;have b:Nat.blt i k'=true:=by rw[Nat.blt_eq];exact h2
    simpa[h1,b] using this
  ·refine .inr ⟨this.1,λi hi=>⟨λh1 h2 h3=>?_,λh1 h2=>?_⟩⟩
   ·have:=(this.2 i hi).1;simpa[h1,h2,h3] using this
   ·have h3:=(this.2 i hi).2;have b:Nat.blt i k'=true:=by rw[Nat.blt_eq];exact h2
    simpa[h1,b] using h3
 have hnx:∀j,j<ops.size->(Hs j).next<=(Hs (j+1)).next:=λj hj=>by
  obtain⟨o,ho⟩:=hops j hj;obtain⟨s,hsi,hst,e1,e2,e3,e4⟩:=hat j o ho;rw[e2];exact hst.next
 have hnxs:∀d a,a+d<=ops.size->(Hs a).next<=(Hs (a+d)).next:=λd=>by
  induction d with
  | zero=>exact λa _=>Nat.le_refl _
  | succ d ih=>exact λa h=>Nat.le_trans (ih a (by omega)) (hnx (a+d) (by omega))
 have hcallsame:∀k',k'<ops.size->Vv ops k'=true->WB ops (QL ops.toList []) k'=true->gAt P ops k'=false->EqB (Hs k') (Hs (k'+1)):=λk' hk' hcf hf hng=>by
  obtain⟨o,ho⟩:=hops k' hk';obtain⟨s,hsi,hst,e1,e2,e3,e4⟩:=hat k' o ho;simp only[Vv,ho]at hcf;simp only[gAt,ho]at hng;rw[e2];rcases hst.run with⟨_,_,_,h3,_⟩ | ⟨_,_,_,h4⟩
  ·exact h3 hf hcf hng
  ·rw[h4];exact λ_ _=>rfl
 have hkeep:∀j,j<ops.size->(WU ops j=false∨(WB ops (QL ops.toList []) j=true∧Vv ops j=true∧gAt P ops j=false))->EqB (Hs j) (Hs (j+1)):=λj hj hg=>by
  obtain⟨o,ho⟩:=hops j hj;obtain⟨s,hsi,hst,e1,e2,e3,e4⟩:=hat j o ho;rcases hst.run with⟨_,hcl,hsyn,_⟩ | ⟨_,_,_,h4⟩
  ·cases hsc:s.c with
   | pure=>rw[hsc]at hcl;rw[e2,hcl.1];exact λ_ _=>rfl
   | load=>rw[hsc]at hcl;rw[e2,hcl.1];exact λ_ _=>rfl
   | alloc b=>
    rw[hsc]at hcl;rw[e2,hcl.1];exact λid hid=>by rw[Qa.get_push,if_neg (by omega)]
   | gen=>
    have hsg:WU ops j=true:=hgen j hj (by rw[e4,hsc];rfl);rcases hg with hg | hg
    ·rw[hg]at hsg;cases hsg
    ·exact hcallsame j hj hg.2.1 hg.1 hg.2.2
  ·rw[e2,h4];exact λ_ _=>rfl
 have hkeeps:∀d a,a+d<=ops.size->(∀j,a<=j->j<a+d->WU ops j=false∨(WB ops (QL ops.toList []) j=true∧Vv ops j=true∧gAt P ops j=false))->EqB (Hs a) (Hs (a+d)):=λd=>by
  induction d with
  | zero=>exact λa _ _ _ _=>rfl
  | succ d ih=>
   intro a h hj id hid;have h1:=ih a (by omega) (λj h1 h2=>hj j h1 (by omega)) id hid;have h2:=hkeep (a+d) (by omega) (hj (a+d) (by omega) (by omega)) id (Nat.lt_of_lt_of_le hid (hnxs d a (by omega)));rw[show a+(d+1)=a+d+1 by omega,h2,h1]
 have F:ZG P n ops As Hs vs cls:=by
  refine⟨λi o ho=>?_,λi hi=>?_,λi o ho=>?_,λi o ho=>?_,Qlr hgen hd⟩
  ·obtain⟨s,hsi,hst,e1,e2,e3,e4⟩:=hat i o ho;rw[e1,e3,hst.env]
  ·obtain⟨o,ho⟩:=hops i hi;obtain⟨s,hsi,hst,e1,e2,e3,e4⟩:=hat i o ho;rw[e2];exact hst.next
  ·obtain⟨s,hsi,hst,e1,e2,e3,e4⟩:=hat i o ho;exact hst.ok
  ·obtain⟨s,hsi,hst,e1,e2,e3,e4⟩:=hat i o ho;have hi:i<ops.size:=(Array.getElem?_eq_some_iff.1 ho).1;unfold Qtw;rw[e1,e2,e3,e4];rcases hst.run with⟨hw,hcl,hsyn,hf1,hf2,_,_⟩ | ⟨hw,hc0,hv0,hH0⟩
   ·right;refine⟨hw,?_⟩;cases hsc:s.c with
    | pure=>rw[hsc]at hcl;exact hcl
    | gen=>rw[hsc]at hcl;exact hcl
    | alloc b=>
     rw[hsc]at hcl;refine⟨hcl.1,hcl.2,λk' hk1 hik hgk ho'=>?_⟩;have hsg:=hgen k' hk1 hgk;have hal:QdV ops i=true:=by simp only[QdV,ho];exact hsyn.alloc b hsc
     have hfl:WB ops (QL ops.toList []) k'=true:=by
      unfold WB;simp only[hsg,Bool.true_and,Bool.or_eq_true];left;rw[List.any_eq_true];exact⟨i,List.mem_range.2 hi,by simp[hal,hik,ho']⟩
     rcases hchk k' hk1 hsg hfl with hch | hch
     ·have hng:gAt P ops k'=false:=by
       cases hgk':gAt P ops k' with
       | false=>rfl
       | true=>rw[(hch.2.2 hgk' i hi).2 hal hik]at ho';cases ho'
      rw[hcallsame k' hk1 hch.1 hfl hng];have h9:=hnxs (k' - (i+1)) (i+1) (by omega);rw[show i+1+(k' - (i+1))=k' by omega,hcl.1,Qa.next_push]at h9;omega
     ·rw[(hch.2 i hi).2 hal hik]at ho';cases ho'
    | load=>
     rw[hsc]at hcl;obtain⟨h1,tt,x,a,hop,ex,hl'⟩:=hcl;refine⟨h1,tt,x,a,hop,ex,hl',λk' hk1 hgk o1 o2=>?_⟩;have hsg:=hgen k' hk1 hgk;have hld:Qkr ops i=true:=by simp only[Qkr,ho];exact hsyn.load hsc
     have hfl:WB ops (QL ops.toList []) k'=true:=by
      unfold WB;simp only[hsg,Bool.true_and,Bool.or_eq_true];left;rw[List.any_eq_true];exact⟨i,List.mem_range.2 hi,by simp[hld,o1,o2]⟩
     have hfi:WB ops (QL ops.toList []) i=true:=by
      unfold WB;simp only[Bool.or_eq_true];right;simp only[hld,Bool.true_and];rw[List.any_eq_true];exact⟨k',List.mem_range.2 hk1,by simp[hsg,o1,o2]⟩
     have hload:o.op=.load tt x:=hop;have hbel:Qj s.H.next 6 s.v=true:=hf2 hfi (by unfold Qos;rw[hload]);rcases hchk k' hk1 hsg hfl with hch | hch
     ·have hq:=hch.2.1 i hi hld o1 o2;have hb0:a.block<(Hs i).next:=by
       rw[e2];unfold XS at hl';split at hl'
       ·rename_i hg;exact hst.wf.lt hg
       ·cases hl'
      unfold quiet at hq;simp only[Bool.or_eq_true,Bool.and_eq_true,List.all_eq_true,List.mem_range]at hq;have hget:(Hs k').get a.block=(Hs i).get a.block∧(Hs (k'+1)).get a.block=(Hs k').get a.block:=by
       rcases hq with⟨hlt,hq⟩ | ⟨⟨⟨hlt,hdir⟩,hsm⟩,hq⟩
       ·have hlt:i<k':=by simpa using hlt
        have hng:gAt P ops k'=false:=by
         cases hgk':gAt P ops k' with
         | false=>rfl
         | true=>have:=(hch.2.2 hgk' i hi).1 hld o1 o2;omega
        have hgi:WU ops i=false:=by
         simp only[Qkr,ho]at hld;simp only[WU,ho];unfold Qos at hld;split at hld
         ·rename_i hop';simp only[QBr,hop']
         ·cases hld
        have h8:=hkeeps (k' - i) i (by omega) (λj h1 h2=>?_)
        ·rw[show i+(k' - i)=k' by omega]at h8;have h9:=hnxs (k' - i) i (by omega);rw[show i+(k' - i)=k' by omega]at h9;exact⟨h8 _ hb0,hcallsame k' hk1 hch.1 hfl hng a.block (by omega)⟩
        ·rcases Nat.lt_or_ge i j with h3 | h3
         ·have h4:=hq j (by omega);have h5:Nat.ble j i=false:=by
           cases hb:Nat.ble j i with
           | false=>rfl
           | true=>rw[Nat.ble_eq]at hb;omega
          rw[h5]at h4;rcases h4 with h4 | h4 | h4
          ·cases h4
          ·exact .inl (by simpa using h4)
          ·exact .inr ⟨h4.1.1,h4.1.2,by simpa using h4.2⟩
         ·rw[show j=i by omega];exact .inl hgi
       ·have hlt:k'<i:=by simpa using hlt
        obtain⟨bs,hbs⟩:=Option.isSome_iff_exists.1 hsm;have hall:∀j,k'<=j->j<i->(WU ops j=false∨(WB ops (QL ops.toList []) j=true∧Vv ops j=true∧(gAt P ops j=false∨Qfw (QL ops.toList []) i j=true))):=λj h1 h2=>by
         have h4:=hq j h2;have h5:Nat.blt j k'=false:=by
          cases hb:Nat.blt j k' with
          | false=>rfl
          | true=>rw[Nat.blt_eq]at hb;omega
         rw[h5]at h4;rcases h4 with h4 | h4 | h4
         ·cases h4
         ·exact .inl (by simpa using h4)
         ·refine .inr ⟨h4.1.1,h4.1.2,?_⟩;rcases h4.2 with h6 | h6
          ·exact .inl (by simpa using h6)
          ·exact .inr h6
        obtain⟨ok,hok⟩:=hops k' hk1;obtain⟨sk,hsk,hstk,f1,f2,f3,f4⟩:=hat k' ok hok;have hback:∀ (k0 bs d cur:Nat),k0+d<=i->Kl ops k0 d cur=some bs->InB (As (k0+d) cur) a.block->InB (As k0 bs) a.block:=λk0 bs d=>by
         induction d with
         | zero=>intro cur _ hb hv;cases hb;exact hv
         | succ d ih=>
          intro cur hd hb hv;obtain⟨oj,hoj⟩:=hops (k0+d) (by omega);obtain⟨sj,hsj,hstj,g1,g2,g3,g4⟩:=hat (k0+d) oj hoj;simp only[Kl,hoj]at hb;split at hb
          ·rename_i c hc;refine ih c (by omega) hb ?_;rw[show k0+(d+1)=k0+d+1 by omega,hstj.env,<- g1]at hv;unfold QrW at hc;cases hdst:oj.dst with
           | none=>
            rw[hdst]at hc hv;have hc:some cur=some c:=hc;cases hc;exact hv
           | some q=>
            rw[hdst]at hc hv;have hv:InB (upd (As (k0+d)) q sj.v cur) a.block:=hv
            by_cases hqc:q=cur
            ·subst hqc;rw[Qfj]at hv;have hc:Qm6 oj=some c:=by simpa using hc
             rcases hstj.run with⟨_,_,_,_,_,_,_,hfa⟩ | ⟨_,_,_,hu⟩
             ·have:=hfa c hc _ hv;rw[g1];exact this
             ·exfalso;have hu:sj.v=undef:=by first | exact hu.1 | exact hu | (rename_i hu2;exact hu2)
              rw[hu]at hv;rcases hv with⟨_,e,_⟩ | ⟨_,_,_,e,_⟩<;>cases e
            ·rw[Vt _ _ (λh=>hqc h.symm)]at hv;have hc:some cur=some c:=by have e:(q==cur)=false:=beq_false_of_ne hqc;simpa[e] using hc
             cases hc;exact hv
          ·cases hb
        obtain⟨tm,htm⟩:∃tm,Qlv ops i=some tm:=by
         unfold Qks at hbs;cases htm:Qlv ops i with
         | none=>rw[htm]at hbs;cases hbs
         | some tm=>exact⟨tm,rfl⟩
        have hx:x=.tmp tm:=by
         unfold Qlv at htm;rw[ho]at htm;simp only[hload]at htm;split at htm
         ·rename_i hh;cases hh;cases htm;rfl
         ·cases htm
        have ex':As i tm=.pointer (some a):=by rw[hx]at ex;rw[e1];exact ex
        have hbk0:Kl ops k' (i - k') tm=some bs:=by
         unfold Qks at hbs;rw[htm]at hbs;exact hbs
        have hmid:∀j,k'<=j->j<=i->∃c,Qks ops j i=some c∧InB (As j c) a.block:=λj h1 h2=>by
         obtain⟨c,hc⟩:=QtZ hbk0 h1 h2;refine⟨c,by unfold Qks;rw[htm];exact hc,?_⟩;refine hback j c (i - j) tm (by omega) hc ?_;rw[show j+(i - j)=i by omega,ex'];exact .inl ⟨a,rfl,rfl⟩
        have hpt:InB (As k' bs) a.block:=by
         obtain⟨c,hc1,hc2⟩:=hmid k' (Nat.le_refl _) (by omega);rw[hbs]at hc1;cases hc1;exact hc2
        have hbk:a.block<(Hs k').next:=by
         have hlow:∀z∈Qcw ops (QL ops.toList []) k',∃b:Nat,InB (ev sk.t z) b∧b<sk.H.next:=by
          rcases hstk.run with⟨_,_,_,_,_,_,h9,_⟩ | ⟨_,h9,_⟩
          ·intro z hz;obtain⟨b,h1,h2,_⟩:=h9 hfl (by simpa only[QA7,hok] using hdir) z hz;exact⟨b,h1,h2⟩
          ·rw[f4,h9]at hgk;cases hgk
         obtain⟨b,hb1,hb2⟩:=hlow (.tmp bs) (by
          unfold Qcw;rw[List.mem_filterMap];have b1:Nat.blt k' i=true:=by simpa using hlt
          exact⟨i,List.mem_range.2 hi,by simp[b1,hld,Qfw,o1,o2,hbs]⟩)
         have hb1:InB (sk.t bs) b:=hb1;rw[<- f1]at hb1;rw[f2,hpt.uniq hb1];exact hb2
        have hstep:∀j,k'<=j->j<i->a.block<(Hs j).next->(Hs (j+1)).get a.block=(Hs j).get a.block:=λj h1 h2 hbl=>by
         rcases hall j h1 h2 with h4 | ⟨h4,h5,h6⟩
         ·exact hkeep j (by omega) (.inl h4) _ hbl
         ·cases hgj:gAt P ops j with
          | false=>exact hkeep j (by omega) (.inr ⟨h4,h5,hgj⟩) _ hbl
          | true=>
           have h6:Qfw (QL ops.toList []) i j=true:=by
            rcases h6 with h6 | h6
            ·rw[hgj]at h6;cases h6
            ·exact h6
           obtain⟨oj,hoj⟩:=hops j (by omega);obtain⟨sj,hsj,hstj,g1,g2,g3,g4⟩:=hat j oj hoj;have hGj:isG P oj=true:=by simpa only[gAt,hoj] using hgj
           have hdj:QiS oj=true:=by
            unfold isG at hGj;unfold QiS;split at hGj
            ·first | rfl | (rename_i hopj;rw[hopj])
            ·cases hGj
           obtain⟨c,hc1,hc2⟩:=hmid j h1 (by omega);rw[g2];rcases hstj.run with⟨_,_,_,_,_,_,h9,_⟩ | ⟨_,_,_,h9⟩
           ·obtain⟨b,hb1,hb2,hb3⟩:=h9 h4 hdj (.tmp c) (by
             unfold Qcw;rw[List.mem_filterMap];have b1:Nat.blt j i=true:=by simpa using h2
             have u2:Qfw (QL ops.toList []) i j=true:=h6;exact⟨i,List.mem_range.2 hi,by simp[b1,hld,u2,hc1]⟩)
            have hb1:InB (sj.t c) b:=hb1;rw[<- g1]at hb1;rw[hc2.uniq hb1];exact hb3 hGj
           ·rw[h9]
        have hmany:∀d,k'+d<=i->(Hs (k'+d)).get a.block=(Hs k').get a.block∧a.block<(Hs (k'+d)).next:=λd=>by
         induction d with
         | zero=>exact λ_=>⟨rfl,hbk⟩
         | succ d ih=>
          intro hd;obtain⟨i1,i2⟩:=ih (by omega);have hn1:=hnx (k'+d) (by omega);refine⟨?_,?_⟩
          ·rw[show k'+(d+1)=k'+d+1 by omega,hstep (k'+d) (by omega) (by omega) i2,i1]
          ·rw[show k'+(d+1)=k'+d+1 by omega];omega
        have h8:=(hmany (i - k') (by omega)).1;rw[show k'+(i - k')=i by omega]at h8;exact⟨h8.symm,hstep k' (Nat.le_refl _) hlt hbk⟩
      exact⟨by rw[K9 hget.1,e2];exact hl',by rw[K9 hget.2,K9 hget.1,e2];exact hl',hbel⟩
     ·have hcalm:=(hch.2 i hi).1 hld o1 o2;unfold QBt at hcalm;simp only[Bool.and_eq_true,List.all_eq_true,List.mem_range]at hcalm;obtain⟨⟨hlt,hsm⟩,hall⟩:=hcalm;have hlt:i<k':=by simpa using hlt
      obtain⟨tm,htm⟩:=Option.isSome_iff_exists.1 hsm;have hx:x=.tmp tm:=by
       unfold Qlv at htm;rw[ho]at htm;simp only[hload]at htm;split at htm
       ·rename_i hh;cases hh;cases htm;rfl
       ·cases htm
      subst hx;have hstep:∀j,i<=j->j<ops.size->As j tm=.pointer (some a)->(WU ops j=false∨(Vv ops j=true∧WB ops (QL ops.toList []) j=true∧gAt P ops j=false)∨(i<j∧QtL ops j=true∧WB ops (QL ops.toList []) j=true∧Qfw (QL ops.toList []) i j=true))->a.block<(Hs j).next->(Hs (j+1)).get a.block=(Hs j).get a.block:=λj hij hj hA hg hbl=>by
       obtain⟨oj,hoj⟩:=hops j hj;obtain⟨sj,hsj,hstj,f1,f2,f3,f4⟩:=hat j oj hoj;rw[f2]at hbl ⊢;rcases hstj.run with⟨_,hcl,hsyn,_,_,hsep,_⟩ | ⟨_,_,_,h4⟩
       ·cases hsc:sj.c with
        | pure=>rw[hsc]at hcl;rw[hcl.1]
        | load=>rw[hsc]at hcl;rw[hcl.1]
        | alloc b=>rw[hsc]at hcl;rw[hcl.1,Qa.get_push,if_neg (by omega)]
        | gen=>
         have hsg:WU ops j=true:=hgen j hj (by rw[f4,hsc];rfl);rcases hg with hg | hg | ⟨hij2,hg1,hg2,hg3⟩
         ·rw[hg]at hsg;cases hsg
         ·rw[<- f2];rw[<- f2]at hbl;exact hcallsame j hj hg.1 hg.2.1 hg.2.2 _ hbl
         ·simp only[QtL,hoj]at hg1;obtain⟨a',hk1',hk2'⟩:=hsep hg2 hg1;have hb2:=hk2' (.tmp tm) (by
           unfold Qm5;rw[List.mem_filterMap];exact⟨i,List.mem_range.2 hij2,by simp[hld,hg3,htm]⟩) a (by show sj.t tm=_;rw[<- f1];exact hA)
          exact hk1' _ hb2
       ·rw[h4]
      have hb0:a.block<(Hs i).next:=by
       rw[e2];unfold XS at hl';split at hl'
       ·rename_i hg;exact hst.wf.lt hg
       ·cases hl'
      have hA0:As i tm=.pointer (some a):=by rw[e1];exact ex
      have hall2:∀j,i<=j->j<k'->(∀oj,ops[j]? = some oj->oj.dst≠some tm)∧(WU ops j=false∨(Vv ops j=true∧WB ops (QL ops.toList []) j=true∧gAt P ops j=false)∨(i<j∧QtL ops j=true∧WB ops (QL ops.toList []) j=true∧Qfw (QL ops.toList []) i j=true)):=λj hij hjk=>by
       have:=hall j hjk;have b1:Nat.blt j i=false:=by
        cases hb:Nat.blt j i with
        | false=>rfl
        | true=>rw[Nat.blt_eq]at hb;omega
       simp only[b1,Bool.or_eq_true,Bool.and_eq_true,htm,Bool.not_eq_true',Bool.false_eq_true,false_or]at this;refine⟨λoj hoj hd=>?_,?_⟩
       ·have h9:=this.1;rw[hoj]at h9;simp[hd]at h9
       ·rcases this.2 with(h | h) | h
        ·exact .inl h
        ·exact .inr (.inl ⟨h.1.1,h.1.2,h.2⟩)
        ·refine .inr (.inr ⟨?_,h.1.1,h.1.2,h.2⟩);rcases Nat.lt_or_ge i j with h' | h'
         ·exact h'
         ·have e:j=i:=by omega
          subst e;have h7:=h.1.1;unfold QtL QtK at h7;rw[ho]at h7;simp only[hload]at h7;cases h7
      have hrun:∀d,i+d<=k'->As (i+d) tm=.pointer (some a)∧(Hs (i+d)).get a.block=(Hs i).get a.block∧a.block<(Hs (i+d)).next:=by
       intro d
       induction d with
       | zero=>exact λ_=>⟨hA0,rfl,hb0⟩
       | succ d ih=>
        intro hd;obtain⟨i1,i2,i3⟩:=ih (by omega);have hj:i+d<ops.size:=by omega
        obtain⟨oj,hoj⟩:=hops (i+d) hj;obtain⟨sj,hsj,hstj,f1,f2,f3,f4⟩:=hat (i+d) oj hoj;obtain⟨g1,g2⟩:=hall2 (i+d) (by omega) (by omega);refine⟨?_,?_,?_⟩
        ·rw[show i+(d+1)=i+d+1 by omega,hstj.env,<- f1,<- i1];cases hdst:oj.dst with
         | none=>rfl
         | some q=>exact Vt _ _ (λh=>g1 oj hoj (by rw[hdst,h]))
        ·rw[show i+(d+1)=i+d+1 by omega,hstep (i+d) (by omega) hj i1 g2 i3,i2]
        ·rw[show i+(d+1)=i+d+1 by omega];have:=hstj.next;rw[<- f2]at this;omega
      obtain⟨r1,r2,r3⟩:=hrun (k' - i) (by omega);rw[show i+(k' - i)=k' by omega]at r1 r2 r3;have hlast:=hstep k' (by omega) hk1 r1 (.inr (.inr ⟨hlt,hch.1,hfl,by unfold Qfw;rw[o1,o2];rfl⟩)) r3;exact⟨by rw[K9 r2,e2];exact hl',by rw[K9 hlast,K9 r2,e2];exact hl',hbel⟩
   ·left;exact⟨hw,hv0,hH0,hc0⟩
 have hend:As ops.size=A1∧Hs ops.size=H1:=by
  have:tr[ops.size]? = none:=List.getElem?_eq_none (by omega);simp only[As,Hs,Qfz,WV,this,and_self]
 have hAs0:As 0=A:=hA;have hHs0:Hs 0=H:=hH;have:=QrQ (id:=id) (Q:=λe A' H'=>e=.normal∧A'=A1∧H'=H1) hm F ⟨rfl,hend.1,hend.2⟩;rwa [hAs0,hHs0]at this
def Fp (ks:Kp) (k:Env->Qa->Prop):Ex->Env->Qa->Prop
 | .normal,A,H=>k A H
 | .ret,A,H=>ks.ret A H
 | .exit j,A,H=>j<J0∧ks.ext j A H
 | .goto l,A,H=>ks.ext (J0+l) A H
 | _,_,_=>False
def Qqq (ex:Ex) (A1:Env) (H1:Qa):Ex->Env->Qa->Prop:=λe A H=>e=ex∧A=A1∧H=H1
theorem Qzz (x y:PC) (ks:Kp) (k:Env->Qa->Prop) (A:Env) (H:Qa):Qt P (sq x y) ks k A H=Qt P x ks (Qt P y ks k) A H:=by
 unfold sq;split<;>rfl
theorem QxO (x y:PC) (l:Nat) (hx:x=.skip->True):J5 (sq x y) l=match J5 x l with | some r=>some (sq r y) | none=>J5 y l:=by
 unfold sq;split
 ·simp[J5]
 ·rename_i hne;cases hf:J5 x l with
  | none=>simp[J5]
  | some r=>
   cases r<;>rfl
 ·rfl
theorem Qku:∀ (c:Code) (pc:PC),comp P n c=some pc->∀l,(∀rest,findLabel c l=some rest->∃pr,J5 pc l=some pr∧comp P n rest=some pr)∧(findLabel c l=none->J5 pc l=none):=by
 intro c
 induction c with
 | seq a b iha ihb=>
  intro pc h l;simp only[comp]at h;split at h
  ·rename_i x y hx hy;simp only[Option.some.injEq]at h;subst h;obtain⟨a1,a2⟩:=iha x hx l;obtain⟨b1,b2⟩:=ihb y hy l;rw[QxO x y l (λ_=>trivial)];cases hf:findLabel a l with
   | some r=>
    obtain⟨pr,h1,h2⟩:=a1 r hf;rw[h1];refine⟨λrest hr=>?_,λhn=>?_⟩
    ·simp only[findLabel,hf,Option.some.injEq]at hr;subst hr;exact⟨_,rfl,by simp only[comp,h2,hy]⟩
    ·simp only[findLabel,hf]at hn;cases hn
   | none=>
    rw[a2 hf];simp only[findLabel,hf];exact⟨b1,b2⟩
  ·cases h
 | label l'=>
  intro pc h l;simp only[comp,Option.some.injEq]at h;subst h;refine⟨λrest hr=>?_,λhn=>?_⟩
  ·simp only[findLabel]at hr;split at hr
   ·rename_i he;have he:l'=l:=by simpa using he
    subst he;cases hr;exact⟨.skip,by simp[J5],rfl⟩
   ·cases hr
  ·simp only[findLabel]at hn;split at hn
   ·cases hn
   ·rename_i he;have he:¬l'=l:=by simpa using he
    simp[J5,YF,he]
 | scope b ih=>
  intro pc h l;refine⟨λrest hr=>(by cases hr),λ_=>?_⟩;simp only[comp,Option.map_eq_some_iff]at h;obtain⟨pb,hb,rfl⟩:=h;unfold Qqh;split
  ·rename_i hl;exact nolab pb hl l
  ·split
   ·rfl
   ·rfl
  ·rfl
 | region id ops draw=>
  intro pc h l;refine⟨λrest hr=>(by cases hr),λ_=>?_⟩;cases draw
  ·simp only[comp,Option.some.injEq]at h;subst h;split<;>rfl
  ·simp only[comp,Option.some.injEq]at h;subst h;split
   ·split<;>rfl
   ·rfl
 | cond x a b iha ihb=>
  intro pc h l;refine⟨λrest hr=>(by cases hr),λ_=>?_⟩;simp only[comp]at h;split at h
  ·split at h
   ·cases h;rfl
   ·cases h
  ·cases h
 | block id b ih=>
  intro pc h l;refine⟨λrest hr=>(by cases hr),λ_=>?_⟩;simp only[comp,Option.map_eq_some_iff]at h;obtain⟨pb,hb,rfl⟩:=h;cases Nat.blt id J0<;>rfl
 | loop b ih=>
  intro pc h l;refine⟨λrest hr=>(by cases hr),λ_=>?_⟩;simp only[comp,Option.map_eq_some_iff]at h;obtain⟨pb,hb,rfl⟩:=h;rfl
 | rangeFunc g ps a b iha ihb=>
  intro pc h l;refine⟨λrest hr=>(by cases hr),λ_=>?_⟩;simp only[comp]at h;split at h
  ·split at h
   ·cases h;rfl
   ·cases h
  ·cases h
 | exit id=>
  intro pc h l;refine⟨λrest hr=>(by cases hr),λ_=>?_⟩;simp only[comp,Option.some.injEq]at h;subst h;cases Nat.blt id J0<;>rfl
 | _=>
  intro pc h l;refine⟨λrest hr=>(by cases hr),λ_=>?_⟩;cases h;rfl
 where
 nolab:∀ (pc:PC),Km pc=[]->∀l,J5 pc l=none
  | .seq a b,h,l=>by
   simp only[Km,List.append_eq_nil_iff]at h;simp only[J5,nolab a h.1 l,nolab b h.2 l]
  | .label l',h,l=>by simp[Km]at h
  | .skip,h,l=>rfl
  | .ops _,h,l=>rfl
  | .cond _ _ _,h,l=>rfl
  | .block _ _,h,l=>rfl
  | .loop _,h,l=>rfl
  | .exit _,h,l=>rfl
  | .ret,h,l=>rfl
  | .goto _,h,l=>rfl
  | .scope _ _ _,h,l=>rfl
  | .rangeF _ _ _ _,h,l=>rfl
  | .bad,h,l=>rfl
theorem Qak:∀ (pc:PC) (l:Nat) (r:PC),J5 pc l=some r->l∈Km pc
 | .seq a b,l,r,h=>by
  simp only[J5]at h;simp only[Km,List.mem_append];cases hf:J5 a l with
  | some q=>exact .inl (Qak a l q hf)
  | none=>rw[hf]at h;exact .inr (Qak b l r h)
 | .label l',l,r,h=>by
  simp only[J5]at h;cases hb:Nat.beq l' l with
  | true=>simp[Km,Nat.eq_of_beq_eq_true hb]
  | false=>rw[hb]at h;cases h
 | .skip,l,r,h=>by cases h
 | .ops _,l,r,h=>by cases h
 | .cond _ _ _,l,r,h=>by cases h
 | .block _ _,l,r,h=>by cases h
 | .loop _,l,r,h=>by cases h
 | .exit _,l,r,h=>by cases h
 | .ret,l,r,h=>by cases h
 | .goto _,l,r,h=>by cases h
 | .scope _ _ _,l,r,h=>by cases h
 | .rangeF _ _ _ _,l,r,h=>by cases h
 | .bad,l,r,h=>by cases h
def Snd (P:Program) (n:Nat) (c:Code) (pc:PC):Prop:=∀ (ks:Kp) (k:Env->Qa->Prop) (A:Env) (H:Qa),H.Wf->Qt P pc ks k A H->∃ex A1 H1,H1.Wf∧Fp ks k ex A1 H1∧AWp P n c (Qqq ex A1 H1) A H
theorem Qvr {a b:Code} {x y:PC} (ha:Snd P n a x) (hb:Snd P n b y):Snd P n (.seq a b) (sq x y):=by
 intro ks k A H hwf h;rw[Qzz]at h;obtain⟨ex,A1,H1,hw1,hf,ha⟩:=ha ks _ A H hwf h;cases ex with
 | normal=>
  obtain⟨ex2,A2,H2,hw2,hf2,ha2⟩:=hb ks k A1 H1 hw1 hf;refine⟨ex2,A2,H2,hw2,hf2,QiD (ha.mono ?_)⟩;rintro e A' H' ⟨rfl,rfl,rfl⟩;exact ha2
 | ret=>exact⟨.ret,A1,H1,hw1,hf,QiD (ha.mono (by rintro e A' H' ⟨rfl,rfl,rfl⟩;exact⟨rfl,rfl,rfl⟩))⟩
 | exit j=>exact⟨.exit j,A1,H1,hw1,hf,QiD (ha.mono (by rintro e A' H' ⟨rfl,rfl,rfl⟩;exact⟨rfl,rfl,rfl⟩))⟩
 | goto j=>exact⟨.goto j,A1,H1,hw1,hf,QiD (ha.mono (by rintro e A' H' ⟨rfl,rfl,rfl⟩;exact⟨rfl,rfl,rfl⟩))⟩
 | panic v=>exact hf.elim
def QD8 (P:Program) (n:Nat) (c:Code) (pc:PC):Prop:=Snd P n c pc∧∀l rest,findLabel c l=some rest->∃pr,J5 pc l=some pr∧comp P n rest=some pr∧Snd P n rest pr
theorem Qqr:∀ (c:Code) (pc:PC),comp P n c=some pc->QD8 P n c pc:=by
 intro c
 induction c with
 | skip=>intro pc hc;cases hc;exact⟨λks k A H hwf h=>⟨.normal,A,H,hwf,h,QmL ⟨rfl,rfl,rfl⟩⟩,λl rest h=>by cases h⟩
 | label l=>
  intro pc hc;cases hc;refine⟨λks k A H hwf h=>⟨.normal,A,H,hwf,h,Qpg ⟨rfl,rfl,rfl⟩⟩,λl' rest h=>?_⟩;obtain⟨pr,h1,h2⟩:=(Qku (P:=P) (n:=n) (.label l) (.label l) rfl l').1 rest h;refine⟨pr,h1,h2,?_⟩;simp only[findLabel]at h;split at h
  ·cases h;cases h2;exact λks k A H hwf h=>⟨.normal,A,H,hwf,h,QmL ⟨rfl,rfl,rfl⟩⟩
  ·cases h
 | ret=>intro pc hc;cases hc;exact⟨λks k A H hwf h=>⟨.ret,A,H,hwf,h,Qvd ⟨rfl,rfl,rfl⟩⟩,λl rest h=>by cases h⟩
 | exit id=>
  intro pc hc;simp only[comp,Option.some.injEq]at hc;subst hc;refine⟨λks k A H hwf h=>?_,λl rest h=>by cases h⟩;cases hb:Nat.blt id J0 with
  | true=>
   rw[hb]at h;exact⟨.exit id,A,H,hwf,⟨by simpa using hb,h⟩,QrD ⟨rfl,rfl,rfl⟩⟩
  | false=>rw[hb]at h;exact h.elim
 | goto l=>intro pc hc;cases hc;exact⟨λks k A H hwf h=>⟨.goto l,A,H,hwf,h,QrE ⟨rfl,rfl,rfl⟩⟩,λl rest h=>by cases h⟩
 | refuse s=>intro pc hc;cases hc;exact⟨λks k A H hwf h=>h.elim,λl rest h=>by cases h⟩
 | rangeFunc g ps a b iha ihb=>
  intro pc hc;refine⟨λks k A H hwf h=>?_,λl rest h=>by cases h⟩;simp only[comp]at hc;split at hc
  ·rename_i hok;split at hc
   ·rename_i pa pb ha hb;cases hc;simp only[Qt]at h;split at h
    ·rename_i f xs ys hg;obtain⟨hen,hcq⟩:=h (λst=>Blk.loop A n ps a b st) (λl args H0 Q hl hlen hp hwf0=>by
      have hlt:l<H0.next:=hwf0.lt hl;obtain⟨ex,A1,H1,hw1,hf1,haw⟩:=(iha pa ha).1 _ _ _ _ (hwf0.kill l) hp;cases ex with
      | ret=>exact hf1.elim
      | exit j=>exact hf1.2.elim
      | goto j=>exact hf1.elim
      | panic v=>exact hf1.elim
      | normal=>
       obtain⟨ex,A2,H2,hw2,hf2,hbw⟩:=(ihb pb hb).1 _ _ _ _ hw1 hf1;have hlen:args.length=ps.size:=by simpa using hlen
       have hwset:∀b,H0.next<=H2.next->(H2.set l b).Wf:=λb hn id hid=>by
        simp only[Qa.next_set]at hid;rw[Qa.get_set,if_neg (by omega)];exact hw2 id hid
       have mk:∀v H',QmY l (Blk.loop A n ps a b) v H' ex A2 H2->Qpp P l args H0 v H':=λv H' hre=>
        Qll hl hlen (haw.mono (by
         rintro e A' H' ⟨rfl,rfl,rfl⟩;exact hbw.mono (by rintro e A' H' ⟨rfl,rfl,rfl⟩;exact hre)))
       cases ex with
       | normal=>exact⟨_,_,mk _ _ ⟨rfl,YU.refl _⟩,by simpa using hf2.1,hwset _ hf2.1,hf2.2⟩
       | ret=>exact⟨_,_,mk _ _ ⟨rfl,YU.refl _⟩,by simpa using hf2.1,hwset _ hf2.1,hf2.2⟩
       | exit j=>exact⟨_,_,mk _ _ ⟨rfl,YU.refl _⟩,by simpa using hf2.2.2.1,hwset _ hf2.2.2.1,hf2.2.2.2⟩
       | goto j=>exact absurd hf2.1 (by simp)
       | panic v=>exact hf2.elim)
     obtain⟨v,H2,hd,hnx,hwf2,st,hl,hj⟩:=hcq (hwf.push _);have hwk:(H2.kill H.next).Wf:=hwf2.kill _;have mk:∀e,Qxt (Qqq e A (H2.kill H.next)) A (H2.kill H.next) st->AWp P n (.rangeFunc g ps a b) (Qqq e A (H2.kill H.next)) A H:=λe hq=>Qg7 hok hg hen hd hl hq;unfold QxD at hj;split at hj
     ·exact⟨.normal,A,_,hwk,hj,mk _ ⟨rfl,rfl,rfl⟩⟩
     ·exact⟨.ret,A,_,hwk,hj,mk _ ⟨rfl,rfl,rfl⟩⟩
     ·rename_i j;exact⟨.exit j,A,_,hwk,⟨by simpa using hj.1,hj.2⟩,mk _ ⟨rfl,rfl,rfl⟩⟩
     ·exact hj.elim
    ·exact h.elim
   ·cases hc
  ·cases hc
 | region id ops draw=>
  intro pc hc;refine⟨λks k A H hwf h=>?_,λl rest h=>by cases h⟩;cases draw with
  | false=>
   simp only[comp,Option.some.injEq]at hc;subst hc;split at h
   ·rename_i pl hpl;obtain⟨A1,H1,hw1,hk,ha⟩:=QhS ops.toList 0 pl k A H hwf hpl h;exact⟨.normal,A1,H1,hw1,hk,(by
     have hw:AWp P n (.region id ops.toList.toArray false) (Qqq .normal A1 H1) A H:=QmM (l:=ops.toList) (by
      have ha:Qct P n ops ops.toList (Qqq .normal A1 H1) A H:=ha;simpa using ha)
     simpa using hw)⟩
   ·exact h.elim
  | true=>
   simp only[comp,Option.some.injEq]at hc;subst hc;split at h
   ·rename_i hcond;simp only[Bool.and_eq_true]at hcond;split at h
    ·rename_i pl hpl;obtain⟨A1,H1,hw1,hk,ha⟩:=Qt0 (id:=id) hwf hcond.1.1.1 (λo ho=>by simpa using Array.all_eq_true_iff_forall_mem.1 hcond.2 o ho) hcond.1.1.2 hcond.1.2 hpl h;exact⟨.normal,A1,H1,hw1,hk,ha⟩
    ·exact h.elim
   ·exact h.elim
 | seq a b iha ihb=>
  intro pc hc;have hc0:=hc;simp only[comp]at hc;split at hc
  ·rename_i x y hx hy;simp only[Option.some.injEq]at hc;subst hc;obtain⟨a1,a2⟩:=iha x hx;obtain⟨b1,b2⟩:=ihb y hy;refine⟨Qvr a1 b1,λl rest h=>?_⟩;obtain⟨pr,h1,h2⟩:=(Qku _ _ hc0 l).1 rest h;refine⟨pr,h1,h2,?_⟩;cases hf:findLabel a l with
   | some r=>
    simp only[findLabel,hf,Option.some.injEq]at h;subst h;obtain⟨p1,q1,q2,q3⟩:=a2 l r hf;simp only[comp,q2,hy,Option.some.injEq]at h2;subst h2;exact Qvr q3 b1
   | none=>
    simp only[findLabel,hf]at h;obtain⟨p1,q1,q2,q3⟩:=b2 l rest h;rw[h2]at q2;cases q2;exact q3
  ·cases hc
 | cond x a b iha ihb=>
  intro pc hc;refine⟨λks k A H hwf h=>?_,λl rest h=>by cases h⟩;simp only[comp]at hc;split at hc
  ·rename_i hok;split at hc
   ·rename_i pa pb ha hb;cases hc;simp only[Qt]at h;split at h
    ·rename_i t ht;cases t with
     | true=>
      obtain⟨ex,A1,H1,hw1,hf,hw⟩:=(iha pa ha).1 ks k A H hwf (h.1 rfl);exact⟨ex,A1,H1,hw1,hf,QiE (t:=true) hok ht hw⟩
     | false=>
      obtain⟨ex,A1,H1,hw1,hf,hw⟩:=(ihb pb hb).1 ks k A H hwf (h.2 rfl);exact⟨ex,A1,H1,hw1,hf,QiE (t:=false) hok ht hw⟩
    ·exact h.elim
   ·cases hc
  ·cases hc
 | block id b ih=>
  intro pc hc;refine⟨λks k A H hwf h=>?_,λl rest h=>by cases h⟩;simp only[comp,Option.map_eq_some_iff]at hc;obtain⟨pb,hb,rfl⟩:=hc;cases hlt:Nat.blt id J0 with
  | false=>rw[hlt]at h;exact h.elim
  | true=>
   rw[hlt]at h;have hlt:id<J0:=by simpa using hlt
   obtain⟨ex,A1,H1,hw1,hf,hw⟩:=(ih pb hb).1 _ k A H hwf h;cases ex with
   | normal=>exact⟨.normal,A1,H1,hw1,hf,Qaz (hw.mono (by rintro e A' H' ⟨rfl,rfl,rfl⟩;exact⟨rfl,rfl,rfl⟩))⟩
   | ret=>exact⟨.ret,A1,H1,hw1,hf,Qaz (hw.mono (by rintro e A' H' ⟨rfl,rfl,rfl⟩;exact⟨rfl,rfl,rfl⟩))⟩
   | exit j=>
    simp only[Fp]at hf
    by_cases hj:j=id
    ·rw[if_pos hj]at hf;exact⟨.normal,A1,H1,hw1,hf.2,Qaz (hw.mono (by rintro e A' H' ⟨rfl,rfl,rfl⟩;simp only[QiF,if_pos hj];exact⟨rfl,rfl,rfl⟩))⟩
    ·rw[if_neg hj]at hf;exact⟨.exit j,A1,H1,hw1,hf,Qaz (hw.mono (by rintro e A' H' ⟨rfl,rfl,rfl⟩;simp only[QiF,if_neg hj];exact⟨rfl,rfl,rfl⟩))⟩
   | goto j=>
    simp only[Fp]at hf;rw[if_neg (by omega)]at hf;exact⟨.goto j,A1,H1,hw1,hf,Qaz (hw.mono (by rintro e A' H' ⟨rfl,rfl,rfl⟩;exact⟨rfl,rfl,rfl⟩))⟩
   | panic v=>exact hf.elim
 | loop b ih=>
  intro pc hc;refine⟨λks k A H hwf h=>?_,λl rest h=>by cases h⟩;simp only[comp,Option.map_eq_some_iff]at hc;obtain⟨pb,hb,rfl⟩:=hc;obtain⟨I,⟨m,hm⟩,hround⟩:=h;have key:∀m A H,H.Wf->I m A H->∃ex A1 H1,H1.Wf∧Fp ks k ex A1 H1∧Qfu P n b (Qqq ex A1 H1) A H:=by
   intro m
   induction m using Nat.strongRecOn with
   | _ m ihm=>
    intro A H hwf hI;obtain⟨ex,A1,H1,hw1,hf,hw⟩:=(ih pb hb).1 ks _ A H hwf (hround m A H hI);cases ex with
    | normal=>
     obtain⟨m',hlt,hI'⟩:=hf;obtain⟨ex2,A2,H2,hw2,hf2,hl2⟩:=ihm m' hlt A1 H1 hw1 hI';exact⟨ex2,A2,H2,hw2,hf2,QcS (hw.mono (by rintro e A' H' ⟨rfl,rfl,rfl⟩;exact hl2))⟩
    | ret=>exact⟨.ret,A1,H1,hw1,hf,QcS (hw.mono (by rintro e A' H' ⟨rfl,rfl,rfl⟩;exact⟨rfl,rfl,rfl⟩))⟩
    | exit j=>exact⟨.exit j,A1,H1,hw1,hf,QcS (hw.mono (by rintro e A' H' ⟨rfl,rfl,rfl⟩;exact⟨rfl,rfl,rfl⟩))⟩
    | goto j=>exact⟨.goto j,A1,H1,hw1,hf,QcS (hw.mono (by rintro e A' H' ⟨rfl,rfl,rfl⟩;exact⟨rfl,rfl,rfl⟩))⟩
    | panic v=>exact hf.elim
  obtain⟨ex,A1,H1,hw1,hf,hw⟩:=key m A H hwf hm;exact⟨ex,A1,H1,hw1,hf,Qlj hw⟩
 | scope b ih=>
  intro pc hc;refine⟨λks k A H hwf h=>?_,λl rest h=>by cases h⟩;simp only[comp,Option.map_eq_some_iff]at hc;obtain⟨pb,hb,rfl⟩:=hc;have hsnd:=ih pb hb;have plain:(∀l,findLabel b l=none)->Qt P pb ks k A H->∃ex A1 H1,H1.Wf∧Fp ks k ex A1 H1∧AWp P n (.scope b) (Qqq ex A1 H1) A H:=λhno h=>by
   obtain⟨ex,A1,H1,hw1,hf,hw⟩:=hsnd.1 ks k A H hwf h;refine⟨ex,A1,H1,hw1,hf,QdR (JR (hw.mono ?_))⟩;rintro e A' H' ⟨rfl,rfl,rfl⟩;cases e with
   | goto j=>simp only[Qwk,hno j];exact⟨rfl,rfl,rfl⟩
   | _=>exact⟨rfl,rfl,rfl⟩
  unfold Qqh at h;split at h
  ·rename_i hl;refine plain (λl=>?_) h;cases hf:findLabel b l with
   | none=>rfl
   | some r=>
    obtain⟨pr,h1,_⟩:=hsnd.2 l r hf;have:=Qak _ _ _ h1;rw[hl]at this;cases this
  ·rename_i l hl;split at h
   ·rename_i r hr;obtain⟨I,⟨m,hm⟩,hround⟩:=h;obtain⟨rest,hrest⟩:∃rest,findLabel b l=some rest:=by
     cases hf:findLabel b l with
     | none=>rw[(Qku b pb hb l).2 hf]at hr;cases hr
     | some rest=>exact⟨rest,rfl⟩
    obtain⟨pr,q1,q2,q3⟩:=hsnd.2 l rest hrest;rw[hr]at q1;cases q1;have hother:∀j,j≠l->findLabel b j=none:=λj hj=>by
     cases hf:findLabel b j with
     | none=>rfl
     | some r2=>
      obtain⟨pr2,h1,_⟩:=hsnd.2 j r2 hf;have:=Qak _ _ _ h1;rw[hl,List.mem_singleton]at this;exact absurd this hj
    have key:∀m (c:Code) (pcc:PC),Snd P n c pcc->∀A H,H.Wf->Qt P pcc ⟨ks.ret,jmK l I m ks.ext⟩ k A H->∃ex A1 H1,H1.Wf∧Fp ks k ex A1 H1∧QbA P n b c (Qqq ex A1 H1) A H:=by
     intro m
     induction m using Nat.strongRecOn with
     | _ m ihm=>
      intro c pcc hsc A H hwf hx;obtain⟨ex,A1,H1,hw1,hf,hw⟩:=hsc _ k A H hwf hx;cases ex with
      | normal=>exact⟨.normal,A1,H1,hw1,hf,JR (hw.mono (by rintro e A' H' ⟨rfl,rfl,rfl⟩;exact⟨rfl,rfl,rfl⟩))⟩
      | ret=>exact⟨.ret,A1,H1,hw1,hf,JR (hw.mono (by rintro e A' H' ⟨rfl,rfl,rfl⟩;exact⟨rfl,rfl,rfl⟩))⟩
      | exit j=>
       simp only[Fp,jmK]at hf;rw[if_neg (by omega)]at hf;exact⟨.exit j,A1,H1,hw1,hf,JR (hw.mono (by rintro e A' H' ⟨rfl,rfl,rfl⟩;exact⟨rfl,rfl,rfl⟩))⟩
      | goto j=>
       simp only[Fp,jmK]at hf
       by_cases hj:j=l
       ·subst hj;rw[if_pos rfl]at hf;obtain⟨m',hlt,hI⟩:=hf;obtain⟨ex2,A2,H2,hw2,hf2,hs2⟩:=ihm m' hlt rest r q3 A1 H1 hw1 (hround m' A1 H1 hI);refine⟨ex2,A2,H2,hw2,hf2,JR (hw.mono ?_)⟩;rintro e A' H' ⟨rfl,rfl,rfl⟩;simp only[Qwk,hrest];exact hs2
       ·rw[if_neg (by omega)]at hf;refine⟨.goto j,A1,H1,hw1,hf,JR (hw.mono ?_)⟩;rintro e A' H' ⟨rfl,rfl,rfl⟩;simp only[Qwk,hother j hj];exact⟨rfl,rfl,rfl⟩
      | panic v=>exact hf.elim
    obtain⟨ex,A1,H1,hw1,hf,hw⟩:=key m b pb hsnd.1 A H hwf hm;exact⟨ex,A1,H1,hw1,hf,QdR hw⟩
   ·exact h.elim
  ·exact h.elim
theorem Qr3 (c:Code) (pc:PC) (ks:Kp) (k:Env->Qa->Prop) (A:Env) (H:Qa) (hwf:H.Wf) (hc:comp P n c=some pc) (h:Qt P pc ks k A H):
  ∃ex A1 H1,H1.Wf∧Fp ks k ex A1 H1∧AWp P n c (Qqq ex A1 H1) A H:=(Qqr c pc hc).1 ks k A H hwf h
def Qqs (P:Program) (fn:Func) (k:Value->Qa->Prop):Env->Qa->Prop:=λA H=>∃v,QcR P fn.ntmps fn.results A H=some v∧∃H2,YU H2 H∧(H.Wf->H2.Wf)∧k v H2
theorem Qnb {f:FuncId} {fn:Func} {pc:PC} {args:List Value} {H:Qa} {k:Value->Qa->Prop} (hf:P.funcs[f]? = some fn) (hcb:fn.body.bind (comp P fn.ntmps)=some pc) (he:entered P f=true) (hl:args.length<=fn.ntmps)
  (h:H.Wf->Qt P pc ⟨Qqs P fn λv H'=>H.next<=H'.next∧k v H',λ_ _ _=>False⟩ (Qqs P fn λv H'=>H.next<=H'.next∧k v H') (Zq args) H):Qf P f args H k:=by
 obtain⟨c,hb,hc⟩:=Option.bind_eq_some_iff.1 hcb;intro hwf;obtain⟨ex,A1,H1,hw1,hfp,hw⟩:=Qr3 c pc _ _ (Zq args) H hwf hc (h hwf);have en:args.length+(fn.ntmps - args.length)=fn.ntmps:=by omega
 have main:Qqs P fn (λv H'=>H.next<=H'.next∧k v H') A1 H1->(ex=.normal∨ex=.ret)->∃v H',Jp P f args H v H'∧H.next<=H'.next∧H'.Wf∧k v H':=fun⟨v,hv,H2,hle,hw2,hn,hk⟩ hex=>by
  refine⟨v,H2,.inl ⟨he,QhL hf hb ?_⟩,hn,hw2 hw1,hk⟩;rw[en];refine hw.mono ?_;rintro e A' H' ⟨rfl,rfl,rfl⟩;rcases hex with rfl | rfl
  ·exact⟨v,rfl,hv,hle⟩
  ·exact⟨v,rfl,hv,hle⟩
 cases ex with
 | normal=>exact main hfp (.inl rfl)
 | ret=>exact main hfp (.inr rfl)
 | exit j=>exact hfp.2.elim
 | goto j=>exact hfp.elim
 | panic v=>exact hfp.elim
theorem YQ.mono {l:Nat} {args:List Value} {H:Qa} {k k':Value->Qa->Prop} (h:YQ P l args H k) (hk:∀v H',k v H'->k' v H'):YQ P l args H k':=by
 intro hw;obtain⟨v,H',h1,h2,h3,h4⟩:=h hw;exact⟨v,H',h1,h2,h3,hk v H' h4⟩
theorem YQ.then {l:Nat} {args:List Value} {H:Qa} {k k':Value->Qa->Prop} (h:YQ P l args H k) (hk:∀v H',H.next<=H'.next->k v H'->k' v H'):YQ P l args H k':=by
 intro hw;obtain⟨v,H',h1,h2,h3,h4⟩:=h hw;exact⟨v,H',h1,h2,h3,hk v H' h2 h4⟩
theorem Qf.mono {f:FuncId} {args:List Value} {H:Qa} {k k':Value->Qa->Prop} (h:Qf P f args H k) (hk:∀v H',k v H'->k' v H'):Qf P f args H k':=by
 intro hw;obtain⟨v,H',h1,h2,h3,h4⟩:=h hw;exact⟨v,H',h1,h2,h3,hk v H' h4⟩
theorem Qf.then {f:FuncId} {args:List Value} {H:Qa} {k k':Value->Qa->Prop} (h:Qf P f args H k) (hk:∀v H',H.next<=H'.next->k v H'->k' v H'):Qf P f args H k':=by
 intro hw;obtain⟨v,H',h1,h2,h3,h4⟩:=h hw;exact⟨v,H',h1,h2,h3,hk v H' h2 h4⟩
theorem Qoz {f:FuncId} {args:List Value} {H:Qa} {v:Value} (he:entered P f=true) (h:Kj P f args H (.ret v) H):Qf P f args H λu H'=>u=v∧H'=H:=
 λhw=>⟨v,H,.inl ⟨he,h⟩,Nat.le_refl _,hw,rfl,rfl⟩
end
def Qa.up (H:Qa) (m:Nat):Qa:=⟨m,H.tr⟩
theorem Qa.get_up (H:Qa) (m id:Nat):(H.up m).get id=H.get id:=Eq.trans rfl rfl
@[simp] theorem Qa.next_up (H:Qa) (m:Nat):(H.up m).next=m:=Eq.trans rfl rfl
@[simp] theorem Qa.up_up (H:Qa) (m m':Nat):(H.up m).up m'=H.up m':=rfl
theorem YU.up {H H1:Qa} {m:Nat} (hm:H1.next<=m) (h:∀id b,H.get id=some b->H1.get id=some b):YU (H.up m) H1:=⟨hm,h⟩
def t (n:Nat):Operand:=.tmp n
def U:Env:=λ_=>undef
theorem Xb (A:Env) (d:Nat) (v:Value):upd A d v d=v:=Qfj A d v
theorem Qy (A:Env) (d n:Nat) (v:Value) (h:n≠d):upd A d v n=A n:=Vt A v h
theorem Qvs (A:Env) (d n:Nat) (v:Value):upd A d v n=bif n==d then v else A n:=by
 by_cases h:n=d
 ·subst h;simp
 ·have e:(n==d)=false:=beq_false_of_ne h;rw[Vt A v h,e];rfl
theorem QDc (A:Env) (n:Nat):ev A (t n)=A n:=Eq.trans rfl rfl
theorem Qr4 (A:Env) (v:Value):ev A (.const v)=v:=Eq.trans rfl rfl
theorem Qwv (A:Env) (g:Nat):ev A (.global g)=.pointer (some ⟨g,0,none⟩):=Eq.trans rfl rfl
theorem QzA (A:Env) (f:Nat):ev A (.func f)=.func (.func f) #[] #[]:=Eq.trans rfl rfl
theorem QcZ (A:Env) (d:Nat) (v:Value):ZE A (some d) v=upd A d v:=Eq.trans rfl rfl
theorem Qpz (A:Env) (v:Value):ZE A none v=A:=Eq.trans rfl rfl
theorem QD9:Zq []=U:=by funext n;simp[Zq,U]
theorem QEa (a:Value):Zq [a]=upd U 0 a:=by
 funext n;rcases n with _ | n
 ·rw[Xb];rfl
 ·rw[Qy _ _ _ _ (by omega)];simp[Zq,U]
theorem QEb (a b:Value):Zq [a,b]=upd (upd U 0 a) 1 b:=by
 funext n;rcases n with _ | _ | n
 ·rw[Qy _ _ _ _ (by omega),Xb];rfl
 ·rw[Xb];rfl
 ·rw[Qy _ _ _ _ (by omega),Qy _ _ _ _ (by omega)];simp[Zq,U]
theorem QEc (a b c:Value):Zq [a,b,c]=upd (upd (upd U 0 a) 1 b) 2 c:=by
 funext n;rcases n with _ | _ | _ | n
 ·rw[Qy _ _ _ _ (by omega),Qy _ _ _ _ (by omega),Xb];rfl
 ·rw[Qy _ _ _ _ (by omega),Xb];rfl
 ·rw[Xb];rfl
 ·rw[Qy _ _ _ _ (by omega),Qy _ _ _ _ (by omega),Qy _ _ _ _ (by omega)];simp[Zq,U]
theorem QEd (a b c d:Value):Zq [a,b,c,d]=upd (upd (upd (upd U 0 a) 1 b) 2 c) 3 d:=by
 funext n;rcases n with _ | _ | _ | _ | n
 ·rw[Qy _ _ _ _ (by omega),Qy _ _ _ _ (by omega),Qy _ _ _ _ (by omega),Xb];rfl
 ·rw[Qy _ _ _ _ (by omega),Qy _ _ _ _ (by omega),Xb];rfl
 ·rw[Qy _ _ _ _ (by omega),Xb];rfl
 ·rw[Xb];rfl
 ·rw[Qy _ _ _ _ (by omega),Qy _ _ _ _ (by omega),Qy _ _ _ _ (by omega),Qy _ _ _ _ (by omega)];simp[Zq,U]
theorem QEe (a b c d e:Value):Zq [a,b,c,d,e]=upd (upd (upd (upd (upd U 0 a) 1 b) 2 c) 3 d) 4 e:=by
 funext n;rcases n with _ | _ | _ | _ | _ | n
 ·rw[Qy _ _ _ _ (by omega),Qy _ _ _ _ (by omega),Qy _ _ _ _ (by omega),Qy _ _ _ _ (by omega),Xb];rfl
 ·rw[Qy _ _ _ _ (by omega),Qy _ _ _ _ (by omega),Qy _ _ _ _ (by omega),Xb];rfl
 ·rw[Qy _ _ _ _ (by omega),Qy _ _ _ _ (by omega),Xb];rfl
 ·rw[Qy _ _ _ _ (by omega),Xb];rfl
 ·rw[Xb];rfl
 ·rw[Qy _ _ _ _ (by omega),Qy _ _ _ _ (by omega),Qy _ _ _ _ (by omega),Qy _ _ _ _ (by omega),Qy _ _ _ _ (by omega)];simp[Zq,U]
section
variable {k:Value->Qa->Prop} {v:Value} {H H':Qa}
theorem Qw:onS (some (v,H')) k=k v H':=by
 apply propext;constructor
 ·rintro⟨v1,H1,h,hk⟩;cases h;exact hk
 ·exact λh=>⟨_,_,rfl,h⟩
theorem Qnc:onS none k=False:=by
 apply propext;constructor
 ·rintro⟨v1,H1,h,hk⟩;cases h
 ·exact λh=>h.elim
theorem QiW {c:Prop} [Decidable c] {a:Option (Value×Qa)}:onS (if c then a else none) k=(c∧onS a k):=by
 by_cases h:c
 ·simp[h]
 ·simp[h,Qnc]
theorem QfA {r:Option Value}:onS (Qfv H r) k=∃v,r=some v∧k v H:=by
 cases r with
 | none=>simp[Qfv,Qnc]
 | some u=>simp[Qfv,Qw]
end
/-! ### Code -/
section
variable {P:Program}
def Qlx (P:Program) (l:List PO) (k:Env->Qa->Prop) (A:Env) (d:Option Nat) (v:Value) (H:Qa):Prop:=Vw P l k (ZE A d v) H
theorem QdW (l:List PO) (k:Env->Qa->Prop) (A:Env) (d:Nat) (v:Value) (H:Qa):Qlx P l k A (some d) v H=Vw P l k (upd A d v) H:=Eq.trans rfl rfl
theorem Qt1 (l:List PO) (k:Env->Qa->Prop) (A:Env) (v:Value) (H:Qa):Qlx P l k A none v H=Vw P l k A H:=Eq.trans rfl rfl
def gB (b:Bool) (P:Program) (r:R) (s:Bool) (l:List PO) (k:Env->Qa->Prop) (A:Env) (d:Option Nat) (H:Qa):Prop:=
 (b=true->pr P r s A H (Qlx P l k A d))∧(b=false->Vw P l k (ZE A d undef) H)
def gV (v:Value) (w:Bool) (P:Program) (r:R) (s:Bool) (l:List PO) (k:Env->Qa->Prop) (A:Env) (d:Option Nat) (H:Qa):Prop:=
 match v with
 | .bool b=>gB (b==w) P r s l k A d H
 | .tuple _=>Vw P l k (ZE A d undef) H
 | _=>False
theorem QzB (r:R) (s:Bool) (l:List PO) (k:Env->Qa->Prop) (A:Env) (d:Option Nat) (H:Qa):gB true P r s l k A d H=pr P r s A H (Qlx P l k A d):=by simp[gB]
theorem QxP (r:R) (s:Bool) (l:List PO) (k:Env->Qa->Prop) (A:Env) (d:Option Nat) (H:Qa):gB false P r s l k A d H=Vw P l k (ZE A d undef) H:=by simp[gB]
theorem QzC (b w:Bool) (r:R) (s:Bool) (l:List PO) (k:Env->Qa->Prop) (A:Env) (d:Option Nat) (H:Qa):gV (.bool b) w P r s l k A d H=gB (b==w) P r s l k A d H:=Eq.trans rfl rfl
theorem QxQ (w:Bool) (r:R) (s:Bool) (l:List PO) (k:Env->Qa->Prop) (A:Env) (d:Option Nat) (H:Qa):gV undef w P r s l k A d H=Vw P l k (ZE A d undef) H:=Eq.trans rfl rfl
theorem bt (b:Bool):(b==true)=b:=by cases b<;>rfl
theorem bf (b:Bool):(b==false)=!b:=by cases b<;>rfl
theorem QiX (k:Env->Qa->Prop) (A:Env) (H:Qa):Vw P [] k A H=k A H:=Eq.trans rfl rfl
theorem Qgy (d:Option Nat) (r:R) (s:Bool) (l:List PO) (k:Env->Qa->Prop) (A:Env) (H:Qa):Vw P (⟨d,r,none,s⟩::l) k A H=pr P r s A H (Qlx P l k A d):=Eq.trans rfl rfl
theorem Qt2 (d:Option Nat) (r:R) (n:Nat) (w s:Bool) (l:List PO) (k:Env->Qa->Prop) (A:Env) (H:Qa):Vw P (⟨d,r,some (n,w),s⟩::l) k A H=gV (A n) w P r s l k A d H:=by
 show pg (some (n,w)) A (pr P r s A H (Qlx P l k A d)) (Vw P l k (ZE A d undef) H)=_;show(match A n with | .bool b=>if b=w then pr P r s A H (Qlx P l k A d) else Vw P l k (ZE A d undef) H | .tuple _=>Vw P l k (ZE A d undef) H | _=>False)=_;unfold gV;cases A n<;>try rfl
 rename_i b;cases b<;>cases w<;>simp[gB]
theorem QhT (ks:Kp) (k:Env->Qa->Prop) (A:Env) (H:Qa):Qt P .skip ks k A H=k A H:=Eq.trans rfl rfl
theorem Qww (ks:Kp) (k:Env->Qa->Prop) (A:Env) (H:Qa):Qt P .ret ks k A H=ks.ret A H:=Eq.trans rfl rfl
theorem Qt3 (id:Nat) (ks:Kp) (k:Env->Qa->Prop) (A:Env) (H:Qa):Qt P (.exit id) ks k A H=ks.ext id A H:=Eq.trans rfl rfl
theorem Qwx (l:List PO) (ks:Kp) (k:Env->Qa->Prop) (A:Env) (H:Qa):Qt P (.ops l) ks k A H=Vw P l k A H:=Eq.trans rfl rfl
theorem Qgz (a b:PC) (ks:Kp) (k:Env->Qa->Prop) (A:Env) (H:Qa):Qt P (.seq a b) ks k A H=Qt P a ks (Qt P b ks k) A H:=Eq.trans rfl rfl
theorem Qly (l:Nat) (ks:Kp) (k:Env->Qa->Prop) (A:Env) (H:Qa):Qt P (.label l) ks k A H=k A H:=Eq.trans rfl rfl
theorem Qt4 (l:Nat) (ks:Kp) (k:Env->Qa->Prop) (A:Env) (H:Qa):Qt P (.goto l) ks k A H=ks.ext (J0+l) A H:=Eq.trans rfl rfl
theorem Qr5 {b r:PC} {l:Nat} {ks:Kp} {k:Env->Qa->Prop} {A:Env} {H:Qa} (I:Nat->Env->Qa->Prop) (m:Nat) (h0:Qt P b ⟨ks.ret,jmK l I m ks.ext⟩ k A H) (h:∀m A' H',I m A' H'->Qt P r ⟨ks.ret,jmK l I m ks.ext⟩ k A' H'):Qt P (.scope b l r) ks k A H:=
 ⟨I,⟨m,h0⟩,h⟩
def exK (id:Nat) (k:Env->Qa->Prop) (e:Nat->Env->Qa->Prop) (j:Nat):Env->Qa->Prop:=if j=id then k else e j
theorem QxR (id:Nat) (k:Env->Qa->Prop) (e:Nat->Env->Qa->Prop) (A:Env) (H:Qa):exK id k e id A H=k A H:=by simp[exK]
theorem Qwy (id j:Nat) (k:Env->Qa->Prop) (e:Nat->Env->Qa->Prop) (A:Env) (H:Qa) (h:j≠id):exK id k e j A H=e j A H:=by simp[exK,h]
def Z5:Nat->Env->Qa->Prop:=λ_ _ _=>False
theorem Qr6 (id:Nat) (b:PC) (ks:Kp) (k:Env->Qa->Prop) (A:Env) (H:Qa):Qt P (.block id b) ks k A H=Qt P b ⟨ks.ret,exK id k ks.ext⟩ k A H:=Eq.trans rfl rfl
theorem QBE (r:Env->Qa->Prop) (e:Nat->Env->Qa->Prop):(Kp.mk r e).ret=r:=Eq.trans rfl rfl
theorem QBF (r:Env->Qa->Prop) (e:Nat->Env->Qa->Prop):(Kp.mk r e).ext=e:=Eq.trans rfl rfl
def cB (b:Bool) (P:Program) (x y:PC) (ks:Kp) (k:Env->Qa->Prop) (A:Env) (H:Qa):Prop:=(b=true->Qt P x ks k A H)∧(b=false->Qt P y ks k A H)
def cV (v:Value) (P:Program) (x y:PC) (ks:Kp) (k:Env->Qa->Prop) (A:Env) (H:Qa):Prop:=match v with
 | .bool b=>cB b P x y ks k A H
 | _=>False
theorem Qt5 (c:Operand) (x y:PC) (ks:Kp) (k:Env->Qa->Prop) (A:Env) (H:Qa):Qt P (.cond c x y) ks k A H=cV (ev A c) P x y ks k A H:=Eq.trans rfl rfl
theorem QzD (b:Bool) (x y:PC) (ks:Kp) (k:Env->Qa->Prop) (A:Env) (H:Qa):cV (.bool b) P x y ks k A H=cB b P x y ks k A H:=Eq.trans rfl rfl
theorem Qvt (x y:PC) (ks:Kp) (k:Env->Qa->Prop) (A:Env) (H:Qa):cB true P x y ks k A H=Qt P x ks k A H:=by simp[cB]
theorem Qnd (x y:PC) (ks:Kp) (k:Env->Qa->Prop) (A:Env) (H:Qa):cB false P x y ks k A H=Qt P y ks k A H:=by simp[cB]
/-! ### Operations -/
variable {k:Value->Qa->Prop} {A:Env} {H:Qa}
def flK (H:Qa) (k:Value->Qa->Prop) (v:Value) (H':Qa):Prop:=Qj H.next 6 v=true∧k v H'
theorem Qwz (H:Qa) (k:Value->Qa->Prop) (v:Value) (H':Qa):flK H k v H'=(Qj H.next 6 v=true∧k v H'):=Eq.trans rfl rfl
def stK (H:Qa) (k:Value->Qa->Prop) (v:Value) (H':Qa):Prop:=(∀id,H'.get id=H.get id)∧k v H'
theorem QwA (H:Qa) (k:Value->Qa->Prop) (v:Value) (H':Qa):stK H k v H'=((∀id,H'.get id=H.get id)∧k v H'):=Eq.trans rfl rfl
theorem Q9 (r:Option (Value×Qa)):onS r (λv H'=>(false=true->Qj H.next 6 v=true)∧k v H')=onS r k:=by
 congr 1;funext v H';simp
theorem QzE (r:Option (Value×Qa)):onS r (λv H'=>(true=true->Qj H.next 6 v=true)∧k v H')=onS r (flK H k):=by
 congr 1;funext v H';simp[flK]
theorem QzF (f:FuncId) (l:List Operand):pr P (.call f l) false A H k=Qf P f (l.map (ev A)) H k:=by
 show Qf P f (l.map (ev A)) H (λv H'=>(false=true->∀id,H'.get id=H.get id)∧k v H')=_;congr 1;funext v H';simp
theorem Qt6 (f:FuncId) (l:List Operand):pr P (.call f l) true A H k=Qf P f (l.map (ev A)) H (stK H k):=by
 show Qf P f (l.map (ev A)) H (λv H'=>(true=true->∀id,H'.get id=H.get id)∧k v H')=_;congr 1;funext v H';simp[stK]
def kpK (H:Qa) (k:Value->Qa->Prop) (v:Value) (H':Qa):Prop:=EqB H H'∧k v H'
theorem QwB (H:Qa) (k:Value->Qa->Prop) (v:Value) (H':Qa):kpK H k v H'=(EqB H H'∧k v H'):=Eq.trans rfl rfl
def Qt7 (n:Nat):List Value->Prop
 | []=>True
 | v::l=>Qot n v∧Qt7 n l
theorem QxS (n:Nat):Qt7 n []=True:=Eq.trans rfl rfl
theorem QwC (n:Nat) (v:Value) (l:List Value):Qt7 n (v::l)=(Qot n v∧Qt7 n l):=Eq.trans rfl rfl
theorem QxT (n b o:Nat):Qot n (.pointer (some ⟨b,o,none⟩))=(b<n):=Eq.trans rfl rfl
theorem Qt8 (n b o l c:Nat):Qot n (.slice (some ⟨b,o,none⟩) l c)=(b<n):=Eq.trans rfl rfl
theorem Qr7 (n:Nat) (f:Operand->Value):∀l:List Operand,(∀z∈l,Qot n (f z))↔Qt7 n (l.map f)
 | []=>⟨λ_=>trivial,λ_ _ h=>by cases h⟩
 | x::l=>by
  have ih:=Qr7 n f l;simp only[List.mem_cons,forall_eq_or_imp,List.map_cons,Qt7,ih]
theorem QxU (f:FuncId) (l os:List Operand) (s:Bool):pr P (.callF f l os) s A H k=(Qt7 H.next (os.map (ev A))∧Qf P f (l.map (ev A)) H (kpK H k)):=by
 show((∀z∈os,Qot H.next (ev A z))∧Qf P f (l.map (ev A)) H λv H'=>EqB H H'∧k v H')=_;rw[Qr7];rfl
def cvK (v:Value) (P:Program) (l:List Value) (H:Qa) (k:Value->Qa->Prop):Prop:=match v with
 | .func (.func f) xs ys=>Qf P f (xs.toList++l++ys.toList) H k
 | .func (.yield y) ⟨[]⟩ ⟨[]⟩=>YQ P y l H k
 | _=>False
theorem QaC (y:Nat) (l:List Value):cvK (.func (.yield y) #[] #[]) P l H k=YQ P y l H k:=Eq.trans rfl rfl
theorem Vl (f:FuncId) (xs ys l:List Value):cvK (.func (.func f) xs.toArray ys.toArray) P l H k=Qf P f (xs++l++ys) H k:=Eq.trans rfl rfl
theorem QxV (c:Operand) (l:List Operand):pr P (.callv c l) false A H k=cvK (ev A c) P (l.map (ev A)) H k:=by
 show(match ev A c with | .func (.func f) xs ys=>Qf P f (xs.toList++l.map (ev A)++ys.toList) H (λv H'=>(false=true->∀id,H'.get id=H.get id)∧k v H') | .func (.yield y) ⟨[]⟩ ⟨[]⟩=>YQ P y (l.map (ev A)) H (λv H'=>(false=true->∀id,H'.get id=H.get id)∧k v H') | _=>False)=_;unfold cvK;split<;>first | rfl | skip
 all_goals (congr 1;funext v H';simp)
theorem Qvu (x:Operand):pr P (.mv x) false A H k=k (ev A x) H:=(Q9 _).trans Qw
def QA9 (c x y:Value) (H:Qa) (k:Value->Qa->Prop):Prop:=onS (match c with | .bool b=>some (bif b then x else y,H) | _=>none) k
theorem QzG (c x y:Operand):pr P (.pick c x y) false A H k=QA9 (ev A c) (ev A x) (ev A y) H k:=Q9 _
theorem Qt9 (b:Bool) (x y:Value):QA9 (.bool b) x y H k=k (bif b then x else y) H:=Qw
def Ga (op:BinOp) (x y:Value) (H:Qa) (k:Value->Qa->Prop):Prop:=∃v,K8 op x y=some v∧k v H
theorem QBG (op:BinOp) (x y:Operand):pr P (.bin op x y) false A H k=Ga op (ev A x) (ev A y) H k:=(Q9 _).trans QfA
theorem WX {op:BinOp} {x y v:Value} (h:K8 op x y=some v):Ga op x y H k=k v H:=by
 apply propext;constructor
 ·rintro⟨u,h1,h2⟩;rw[h]at h1;cases h1;exact h2
 ·exact λhk=>⟨v,h,hk⟩
theorem QzH (ik:IntKind) (a b:Int):Ga .add (.int ik a) (.int ik b) H k=k (.int ik (ik.wrap (a+b))) H:=WX (by simp[K8,Yv])
theorem QzI (ik:IntKind) (a b:Int):Ga .sub (.int ik a) (.int ik b) H k=k (.int ik (ik.wrap (a - b))) H:=WX (by simp[K8,Yv])
theorem QzJ (ik:IntKind) (a b:Int):Ga .mul (.int ik a) (.int ik b) H k=k (.int ik (ik.wrap (a * b))) H:=WX (by simp[K8,Yv])
theorem QzK (ik:IntKind) (a b:Int):Ga .and (.int ik a) (.int ik b) H k=k (.int ik (ik.wrap (BitVec.ofInt ik.bits a &&& BitVec.ofInt ik.bits b).toNat)) H:=WX (by simp[K8,Yv])
theorem QBH (ik:IntKind) (a b:Int):Ga .or (.int ik a) (.int ik b) H k=k (.int ik (ik.wrap (BitVec.ofInt ik.bits a ||| BitVec.ofInt ik.bits b).toNat)) H:=WX (by simp[K8,Yv])
theorem QzL (ik:IntKind) (a b:Int):Ga .xor (.int ik a) (.int ik b) H k=k (.int ik (ik.wrap (BitVec.ofInt ik.bits a ^^^ BitVec.ofInt ik.bits b).toNat)) H:=WX (by simp[K8,Yv])
theorem Qua (ik:IntKind) (a b:Int):Ga .andNot (.int ik a) (.int ik b) H k=k (.int ik (ik.wrap (BitVec.ofInt ik.bits a &&& ~~~BitVec.ofInt ik.bits b).toNat)) H:=WX (by simp[K8,Yv])
theorem QzM (ik:IntKind) (a b:Int):Ga .eql (.int ik a) (.int ik b) H k=k (.bool (a==b)) H:=WX (by simp[K8,Yv])
theorem QzN (ik:IntKind) (a b:Int):Ga .neq (.int ik a) (.int ik b) H k=k (.bool (!(a==b))) H:=WX (by simp[K8,Yv,bne])
theorem QzO (ik:IntKind) (a b:Int):Ga .lss (.int ik a) (.int ik b) H k=k (.bool (decide (a<b))) H:=WX (by simp[K8,Yv])
theorem QzP (ik:IntKind) (a b:Int):Ga .leq (.int ik a) (.int ik b) H k=k (.bool (decide (a<=b))) H:=WX (by simp[K8,Yv])
theorem QzQ (ik:IntKind) (a b:Int):Ga .gtr (.int ik a) (.int ik b) H k=k (.bool (decide (b<a))) H:=WX (by simp[K8,Yv])
theorem QzR (ik:IntKind) (a b:Int):Ga .geq (.int ik a) (.int ik b) H k=k (.bool (decide (b<=a))) H:=WX (by simp[K8,Yv])
theorem QzS (ik:IntKind) (a b:Int):Ga .rem (.int ik a) (.int ik b) H k=(b≠0∧k (.int ik (a.tmod b)) H):=by
 unfold Ga;by_cases h:b=0<;>simp[K8,Yv,h]
theorem QzT (ik:IntKind) (a b:Int):Ga .quo (.int ik a) (.int ik b) H k=(b≠0∧k (.int ik (ik.wrap (a.tdiv b))) H):=by
 unfold Ga;by_cases h:b=0<;>simp[K8,Yv,h]
theorem QzU (ik ik':IntKind) (a b:Int):Ga .shl (.int ik a) (.int ik' b) H k=(0<=b∧k (.int ik (ik.wrap (a * 2 ^ (min b.toNat ik.bits)))) H):=by
 unfold Ga;by_cases h:b<0
 ·simp[K8,Vg,h];omega
 ·simp[K8,Vg,h];intro _;omega
theorem QzV (ik ik':IntKind) (a b:Int):Ga .shr (.int ik a) (.int ik' b) H k=(0<=b∧k (.int ik (a.fdiv (2 ^ (min b.toNat ik.bits)))) H):=by
 unfold Ga;by_cases h:b<0
 ·simp[K8,Vg,h];omega
 ·simp[K8,Vg,h];intro _;omega
theorem QzW (a b:ByteArray):Ga .eql (.string a) (.string b) H k=k (.bool (bl a==bl b)) H:=WX (by simp[K8,QhI])
theorem QzX (a b:ByteArray):Ga .neq (.string a) (.string b) H k=k (.bool (!(bl a==bl b))) H:=WX (by simp[K8,QhI])
theorem QxW (a b:ByteArray):Ga .add (.string a) (.string b) H k=((bl a).length+(bl b).length<=9223372036854775807∧k (.string (mkS (bl a++bl b))) H):=by
 unfold Ga;by_cases h:(bl a).length+(bl b).length<=9223372036854775807<;>simp[K8,QhI,h]
def QBI (ne:Bool) (x y:Value) (H:Qa) (k:Value->Qa->Prop):Prop:=onS (match x,y with | .bool a,.bool b=>some (.bool (bif ne then !(a==b) else a==b),H) | _,_=>none) k
theorem QBJ (ne:Bool) (x y:Operand):pr P (.beq ne x y) false A H k=QBI ne (ev A x) (ev A y) H k:=Q9 _
theorem QzY (a b:Bool):QBI false (.bool a) (.bool b) H k=k (.bool (a==b)) H:=Qw
theorem QzZ (a b:Bool):QBI true (.bool a) (.bool b) H k=k (.bool (!(a==b))) H:=Qw
def Qz0 (ne:Bool) (ks:List Sk) (x y:Value) (H:Qa) (k:Value->Qa->Prop):Prop:=onS (match x,y with
 | .agg xs,.agg ys=>match Qaj ks xs ys 0 with | some b=>some (.bool (bif ne then !b else b),H) | none=>none
 | _,_=>none) k
theorem QBK (ne:Bool) (ks:List Sk) (x y:Operand):pr P (.eqs ne ks x y) false A H k=Qz0 ne ks (ev A x) (ev A y) H k:=Q9 _
theorem QwD {ne:Bool} {ks:List Sk} {xs ys:Array Value} {b:Bool} (h:Qaj ks xs ys 0=some b):Qz0 ne ks (.agg xs) (.agg ys) H k=k (.bool (bif ne then !b else b)) H:=by
 simp only[Qz0,h,Qw]
def QDd (x:Value) (H:Qa) (k:Value->Qa->Prop):Prop:=onS (match x with | .bool b=>some (.bool !b,H) | _=>none) k
theorem QBL (x:Operand):pr P (.not x) false A H k=QDd (ev A x) H k:=Q9 _
theorem QwE (b:Bool):QDd (.bool b) H k=k (.bool !b) H:=Qw
def QxX (ik:IntKind) (x:Value) (H:Qa) (k:Value->Qa->Prop):Prop:=onS (match x with | .int _ m=>some (.int ik (ik.wrap m),H) | _=>none) k
theorem QxY (ik:IntKind) (x:Operand):pr P (.toInt ik x) false A H k=QxX ik (ev A x) H k:=Q9 _
theorem Qub (ik ik':IntKind) (m:Int):QxX ik (.int ik' m) H k=k (.int ik (ik.wrap m)) H:=Qw
theorem Qz1 (ty:TypeId) (x:Operand):pr P (.mkIf ty x) false A H k=k (.iface ty (ev A x)) H:=(Q9 _).trans Qw
def QBM (agg:Bool) (off size:Nat) (x:Value) (H:Qa) (k:Value->Qa->Prop):Prop:=onS (match x with
 | .agg cs=>Qfv H (bif agg then some (.agg (cs.extract off (off+size))) else cs[off]?)
 | _=>none) k
theorem QBN (agg:Bool) (off size:Nat) (x:Operand):pr P (.fld agg off size x) false A H k=QBM agg off size (ev A x) H k:=Q9 _
theorem QwF (off size:Nat) (l:List Value):QBM false off size (.agg l.toArray) H k=∃v,l[off]? = some v∧k v H:=by
 show onS (Qfv H l.toArray[off]?) k=_;rw[QfA];simp
theorem QxZ (off size:Nat) (l:List Value):QBM true off size (.agg l.toArray) H k=k (.agg ((l.drop off).take size).toArray) H:=by
 show onS (Qfv H (some (.agg (l.toArray.extract off (off+size))))) k=_;rw[QfA];simp
def QBa (off:Nat) (x:Value) (H:Qa) (k:Value->Qa->Prop):Prop:=onS (match x with | .pointer (some a)=>some (.pointer (some ⟨a.block,a.off+off,none⟩),H) | _=>none) k
theorem Qz2 (off:Nat) (x:Operand):pr P (.fldA off x) false A H k=QBa off (ev A x) H k:=Q9 _
theorem QwG (off b o:Nat):QBa off (.pointer (some ⟨b,o,none⟩)) H k=k (.pointer (some ⟨b,o+off,none⟩)) H:=Qw
def QDe (size:Nat) (x ix:Value) (H:Qa) (k:Value->Qa->Prop):Prop:=onS (match ix,x with
 | .int _ m,.slice (some a) len _=>if 0<=m∧m<len then some (.pointer (some ⟨a.block,a.off+m.toNat * size,none⟩),H) else none
 | _,_=>none) k
theorem Qz3 (size:Nat) (x ix:Operand):pr P (.idxS size x ix) false A H k=QDe size (ev A x) (ev A ix) H k:=Q9 _
theorem Quc (size:Nat) (ik:IntKind) (m:Int) (b o len cap:Nat):QDe size (.slice (some ⟨b,o,none⟩) len cap) (.int ik m) H k=((0<=m∧m<len)∧k (.pointer (some ⟨b,o+m.toNat * size,none⟩)) H):=by
 show onS (if 0<=m∧m<len then some (.pointer (some ⟨b,o+m.toNat * size,none⟩),H) else none) k=_;rw[QiW,Qw]
def QDf (x ix:Value) (H:Qa) (k:Value->Qa->Prop):Prop:=onS (match ix,x with
 | .int _ m,.string s=>if 0<=m then(match (bl s)[m.toNat]? with | some b=>some (.int .u8 b.toNat,H) | none=>none) else none
 | _,_=>none) k
theorem QBO (x ix:Operand):pr P (.chr x ix) false A H k=QDf (ev A x) (ev A ix) H k:=Q9 _
theorem Qx0 (ik:IntKind) (m:Int) (s:ByteArray):QDf (.string s) (.int ik m) H k=(0<=m∧∃b,(bl s)[m.toNat]? = some b∧k (.int .u8 b.toNat) H):=by
 show onS (if 0<=m then(match (bl s)[m.toNat]? with | some b=>some (.int .u8 b.toNat,H) | none=>none) else none) k=_;rw[QiW];congr 1;cases hb:(bl s)[m.toNat]? with
 | some b=>simp[Qw]
 | none=>simp[Qnc]
def Qz4 (x:Value) (i:Nat) (H:Qa) (k:Value->Qa->Prop):Prop:=onS (match x with | .tuple vs=>Qfv H vs[i]? | _=>none) k
theorem QBP (x:Operand) (i:Nat):pr P (.ext x i) false A H k=Qz4 (ev A x) i H k:=Q9 _
theorem QBQ (a:Value) (l:List Value):Qz4 (.tuple (a::l).toArray) 0 H k=k a H:=Qw
theorem QBR (a b:Value) (l:List Value):Qz4 (.tuple (a::b::l).toArray) 1 H k=k b H:=Qw
theorem QBS (a b c:Value) (l:List Value):Qz4 (.tuple (a::b::c::l).toArray) 2 H k=k c H:=Qw
def Qne (ty:TypeId) (z:Value) (ok:Bool) (x:Value) (H:Qa) (k:Value->Qa->Prop):Prop:=onS (match x with
 | .nilIface=>bif ok then some (.tuple #[z,.bool false],H) else none
 | .iface u v=>if u=ty then some (bif ok then .tuple #[v,.bool true] else v,H) else(bif ok then some (.tuple #[z,.bool false],H) else none)
 | _=>none) k
theorem Qz5 (ty:TypeId) (z:Value) (ok:Bool) (x:Operand):pr P (.asrt ty z ok x) false A H k=Qne ty z ok (ev A x) H k:=Q9 _
theorem QwH (ty:TypeId) (z v:Value):Qne ty z true (.iface ty v) H k=k (.tuple #[v,.bool true]) H:=by simp[Qne,Qw]
theorem Qx1 (ty u:TypeId) (z v:Value) (h:u≠ty):Qne ty z true (.iface u v) H k=k (.tuple #[z,.bool false]) H:=by simp[Qne,h,Qw]
theorem Qud (ty:TypeId) (z v:Value):Qne ty z false (.iface ty v) H k=k v H:=by simp[Qne,Qw]
def Qx2 (r:Option (List Value)) (H:Qa) (k:Value->Qa->Prop):Prop:=onS (match r with | some r=>some (.agg r.toArray,H) | none=>none) k
theorem Qx3 (z:List Value) (parts:List (Nat×Nat×Operand)):pr P (.build z parts) false A H k=Qx2 (Qls (ev A) z parts) H k:=Q9 _
theorem Qr8 (l:List Value):Qx2 (some l) H k=k (.agg l.toArray) H:=Qw
theorem QwI (f:Operand->Value) (cells:List Value):Qls f cells []=some cells:=Eq.trans rfl rfl
theorem Qnf (f:Operand->Value) (cells:List Value) (off size:Nat) (x:Operand) (rest:List (Nat×Nat×Operand)):Qls f cells ((off,size,x)::rest)=if(f x).cells.toList.length=size∧off+size<=cells.length then Qls f (splice cells off (f x).cells.toList) rest else none:=Eq.trans rfl rfl
def Qvv (e len:Nat) (r:Option (List Value)) (H:Qa) (k:Value->Qa->Prop):Prop:=onS (match r with | some r=>some (.slice (some ⟨H.next,0,none⟩) len len,H.push (.cells r e false)) | none=>none) k
def Qvw (size:Nat) (cells:List Value) (parts:List (Nat×Value)):Option (List Value):=Qbz (λi=>some (i * size,size)) cells parts
def evP (A:Env) (p:Nat×Operand):Nat×Value:=(p.1,ev A p.2)
theorem QBT (A:Env) (i:Nat) (x:Operand):evP A (i,x)=(i,ev A x):=Eq.trans rfl rfl
theorem QwJ (e size len:Nat) (z:List Value) (parts:List (Nat×Operand)):pr P (.bslice e size len z parts) false A H k=Qvv e len (Qvw size z (parts.map (evP A))) H k:=Q9 _
theorem Qqt (e len:Nat) (l:List Value):Qvv e len (some l) H k=k (.slice (some ⟨H.next,0,none⟩) len len) (H.push (.cells l e false)):=Qw
theorem QwK (size:Nat) (cells:List Value):Qvw size cells []=some cells:=Eq.trans rfl rfl
theorem Qng (size:Nat) (cells:List Value) (i:Nat) (v:Value) (rest:List (Nat×Value)):Qvw size cells ((i,v)::rest)=if v.cells.toList.length=size∧i * size+size<=cells.length then Qvw size (splice cells (i * size) v.cells.toList) rest else none:=Eq.trans rfl rfl
theorem Qx4 (e:TypeId) (z:List Value):pr P (.alloc e z) false A H k=k (.pointer (some ⟨H.next,0,none⟩)) (H.push (.cells z e false)):=(Q9 _).trans Qw
theorem QBU (e:TypeId) (x:Operand):pr P (.box e x) false A H k=k (.pointer (some ⟨H.next,0,none⟩)) (H.push (.cells (ev A x).cells.toList e false)):=(Q9 _).trans Qw
def QBb (e size bytes:Nat) (z:List Value) (x y:Value) (H:Qa) (k:Value->Qa->Prop):Prop:=onS (match x,y with
 | .int .i64 l,.int .i64 c=>if 0<=l∧l<=c∧(bytes:Int) * c<=281474976710656∧c<=9223372036854775807 then
   some (.slice (some ⟨H.next,0,none⟩) l.toNat c.toNat,H.push (.cells (Xi z.toArray (c.toNat * size)) e false)) else none
 | _,_=>none) k
theorem Qz6 (e size bytes:Nat) (z:List Value) (x y:Operand):pr P (.mkSl e size bytes z x y) false A H k=QBb e size bytes z (ev A x) (ev A y) H k:=Q9 _
theorem QpA (e size bytes:Nat) (z:List Value) (l c:Int):QBb e size bytes z (.int .i64 l) (.int .i64 c) H k=((0<=l∧l<=c∧(bytes:Int) * c<=281474976710656∧c<=9223372036854775807)∧k (.slice (some ⟨H.next,0,none⟩) l.toNat c.toNat) (H.push (.cells (Xi z.toArray (c.toNat * size)) e false))):=by
 show onS (if 0<=l∧l<=c∧(bytes:Int) * c<=281474976710656∧c<=9223372036854775807 then some (.slice (some ⟨H.next,0,none⟩) l.toNat c.toNat,H.push (.cells (Xi z.toArray (c.toNat * size)) e false)) else none) k=_;rw[QiW,Qw]
def slK (size:Nat) (x:Value) (lo hi:Option (Option Int)) (H:Qa) (k:Value->Qa->Prop):Prop:=onS (match lo,hi with
 | some l,some h=>Qfv H (Yp size x l h none)
 | _,_=>none) k
theorem Qx5 (size:Nat) (x:Value) (l h:Option Int):slK size x (some l) (some h) H k=∃v,Yp size x l h none=some v∧k v H:=QfA
theorem QBV (size:Nat) (x:Operand) (lo hi:Option Operand):pr P (.slS size x lo hi) false A H k=slK size (ev A x) (Qpu (ev A) lo) (Qpu (ev A) hi) H k:=Q9 _
theorem Que (f:Operand->Value):Qpu f none=some none:=Eq.trans rfl rfl
theorem Quf (f:Operand->Value) (x:Operand):Qpu f (some x)=match f x with | .int _ m=>some (some m) | _=>none:=Eq.trans rfl rfl
def ldB (agg:Bool) (size off:Nat) (b:Option Blk) (H:Qa) (k:Value->Qa->Prop):Prop:=onS (match b with
 | some (.cells c _ _)=>bif agg then(if off+size<=c.length then some (.agg ((c.drop off).take size).toArray,H) else none) else Qfv H c[off]?
 | _=>none) k
def ldK (agg:Bool) (size:Nat) (x:Value) (H:Qa) (k:Value->Qa->Prop):Prop:=onS (match x with
 | .pointer (some a)=>match H.get a.block with
  | some (.cells c _ _)=>bif agg then(if a.off+size<=c.length then some (.agg ((c.drop a.off).take size).toArray,H) else none) else Qfv H c[a.off]?
  | _=>none
 | _=>none) k
theorem QDg (agg:Bool) (size:Nat) (x:Operand):pr P (.ld agg size x) false A H k=ldK agg size (ev A x) H k:=Q9 _
theorem Qx6 (agg:Bool) (size:Nat) (x:Operand):pr P (.ld agg size x) true A H k=ldK agg size (ev A x) H (flK H k):=QzE _
theorem Qz7 (agg:Bool) (size b o:Nat):ldK agg size (.pointer (some ⟨b,o,none⟩)) H k=ldB agg size o (H.get b) H k:=Eq.trans rfl rfl
theorem Qx7 (size off:Nat) (c:List Value) (e:TypeId) (ro:Bool):ldB false size off (some (.cells c e ro)) H k=∃v,c[off]? = some v∧k v H:=QfA
theorem Qz8 (size off:Nat) (c:List Value) (e:TypeId) (ro:Bool):ldB true size off (some (.cells c e ro)) H k=(off+size<=c.length∧k (.agg ((c.drop off).take size).toArray) H):=by
 show onS (if off+size<=c.length then some (.agg ((c.drop off).take size).toArray,H) else none) k=_;rw[QiW,Qw]
def QDh (size:Nat) (a:Addr) (y:Value) (b:Option Blk) (H:Qa) (k:Value->Qa->Prop):Prop:=onS (match b with
 | some (.cells c e false)=>if y.cells.toList.length=size∧a.off+y.cells.toList.length<=c.length∧y.cells.toList.all (·.oneCell')=true then some (undef,H.set a.block (.cells (splice c a.off y.cells.toList) e false)) else none
 | _=>none) k
def QBW (size:Nat) (x y:Value) (H:Qa) (k:Value->Qa->Prop):Prop:=onS (match x with
 | .pointer (some a)=>match H.get a.block with
  | some (.cells c e false)=>if y.cells.toList.length=size∧a.off+y.cells.toList.length<=c.length∧y.cells.toList.all (·.oneCell')=true then some (undef,H.set a.block (.cells (splice c a.off y.cells.toList) e false)) else none
  | _=>none
 | _=>none) k
theorem QDi (size:Nat) (x y:Operand):pr P (.st size x y) false A H k=QBW size (ev A x) (ev A y) H k:=Q9 _
theorem Qx8 (size b o:Nat) (y:Value):QBW size (.pointer (some ⟨b,o,none⟩)) y H k=QDh size ⟨b,o,none⟩ y (H.get b) H k:=Eq.trans rfl rfl
theorem Qug (size b o:Nat) (y:Value) (c:List Value) (e:TypeId):QDh size ⟨b,o,none⟩ y (some (.cells c e false)) H k=((y.cells.toList.length=size∧o+y.cells.toList.length<=c.length∧y.cells.toList.all (·.oneCell')=true)∧k undef (H.set b (.cells (splice c o y.cells.toList) e false))):=by
 show onS (if y.cells.toList.length=size∧o+y.cells.toList.length<=c.length∧y.cells.toList.all (·.oneCell')=true then some (undef,H.set b (.cells (splice c o y.cells.toList) e false)) else none) k=_;rw[QiW,Qw]
def apL:List Value->Value->Prop
 | [],_=>True
 | z::l,x=>QhQ x z∧apL l x
def apK (os:List Value) (x:Value) (k:Value->Qa->Prop) (v:Value) (H':Qa):Prop:=apL os x∧k v H'
theorem QpB (os:List Value) (x:Value) (k:Value->Qa->Prop) (v:Value) (H':Qa):apK os x k v H'=(apL os x∧k v H'):=Eq.trans rfl rfl
theorem Qz9 (x:Value):apL [] x=True:=Eq.trans rfl rfl
theorem Qx9 (z x:Value) (l:List Value):apL (z::l) x=(QhQ x z∧apL l x):=Eq.trans rfl rfl
theorem Quh (b o b' o':Nat):QhQ (.pointer (some ⟨b,o,none⟩)) (.pointer (some ⟨b',o',none⟩))=(b'≠b):=Eq.trans rfl rfl
theorem Qqu (b o:Nat):QhQ (.pointer (some ⟨b,o,none⟩)) undef=True:=Eq.trans rfl rfl
theorem QAa (os:List Operand) (x:Value):apL (os.map (ev A)) x=∀z∈os,QhQ x (ev A z):=by
 induction os with
 | nil=>simp[apL]
 | cons z l ih=>simp[apL,ih]
theorem QBX (size:Nat) (x y:Operand) (os:List Operand) (s:Bool):pr P (.stf size x y os) s A H k=QBW size (ev A x) (ev A y) H (apK (os.map (ev A)) (ev A x) k):=by
 show onS (rop P (.st size x y) A H) (λv H'=>(∀z∈os,QhQ (ev A x) (ev A z))∧k v H')=onS (rop P (.st size x y) A H) _;congr 1;funext v H';rw[QpB,QAa]
def QBc (x:Value) (H:Qa) (k:Value->Qa->Prop):Prop:=onS (match x with | .slice _ m _=>some (.int .i64 (m:Int),H) | _=>none) k
theorem QAb (x:Operand):pr P (.lenS x) false A H k=QBc (ev A x) H k:=Q9 _
theorem Qm (a:Option Addr) (len cap:Nat):QBc (.slice a len cap) H k=k (.int .i64 (len:Int)) H:=Qw
def QBd (x:Value) (H:Qa) (k:Value->Qa->Prop):Prop:=onS (match x with | .string s=>some (.int .i64 ((bl s).length:Int),H) | _=>none) k
theorem QAc (x:Operand):pr P (.lenT x) false A H k=QBd (ev A x) H k:=Q9 _
theorem QwL (s:ByteArray):QBd (.string s) H k=k (.int .i64 ((bl s).length:Int)) H:=Qw
def QfB (e size bytes:Nat) (s x:Value) (H:Qa) (k:Value->Qa->Prop):Prop:=onS (Z4 e size bytes s x H) k
theorem QBY (e size bytes:Nat) (x y:Operand):pr P (.app e size bytes x y) false A H k=QfB e size bytes (ev A x) (ev A y) H k:=Q9 _
def QDj (P:Program) (o:Op) (A:Env) (H:Qa) (k:Value->Qa->Prop):Prop:=onS (rop P (.gen o) A H) k
theorem QiY (f:FuncId) (l:List Operand):pr P (.gen (.makeFunc (.func f) #[] l.toArray)) false A H k=k (.func (.func f) #[] (l.map (ev A)).toArray) H:=by
 have e:rop P (.gen (.makeFunc (.func f) #[] l.toArray)) A H=some (.func (.func f) #[] (l.map (ev A)).toArray,H):=by simp[rop,aop,QhP,Qag]
 refine(Q9 _).trans ?_;rw[e,Qw]
def QDk (v:Value) (H:Qa) (k:Value->Qa->Prop):Prop:=onS (bif Qfm v then some (v,H) else none) k
theorem QBZ (x:Operand):pr P (.gen (.nilCheck x)) false A H k=QDk (ev A x) H k:=by
 have e:rop P (.gen (.nilCheck x)) A H=(bif Qfm (ev A x) then some (ev A x,H) else none):=by
  simp only[rop,aop,QhO];cases Qfm (ev A x)<;>rfl
 refine(Q9 _).trans ?_;rw[e];rfl
theorem Qya (a:Addr):QDk (.pointer (some a)) H k=k (.pointer (some a)) H:=Qw
theorem QAd {x y:Operand} {ts:Array TypeId} {ik:IntKind} {a b:Int} (hx:ev A x=.int ik a) (hy:ev A y=.int ik b):pr P (.gen (.call ⟨.builtin .max,#[x,y],ts⟩)) false A H k=k (.int ik (if b>a then b else a)) H:=by
 have e:rop P (.gen (.call ⟨.builtin .max,#[x,y],ts⟩)) A H=some (.int ik (if b>a then b else a),H):=by simp[rop,aop,Qcv,hx,hy]
 refine(Q9 _).trans ?_;rw[e,Qw]
theorem Qr9 (ty:TypeId):pr P (.gen (.makeMap ty none)) false A H k=k (.map (some H.next)) (H.push (.map [])):=by
 have e:rop P (.gen (.makeMap ty none)) A H=some (.map (some H.next),H.push (.map [])):=by simp[rop,aop]
 refine(Q9 _).trans ?_;rw[e,Qw]
def Qqv (n:Int):List (Value×Value)->Nat->Option (Option (Nat×Value))
 | [],_=>some none
 | (.int .i64 a,b)::l,i=>if n=a then some (some (i,b)) else Qqv n l (i+1)
 | _,_=>none
theorem QhU (n:Int):∀ (es:List (Value×Value)) (i:Nat) r,Qqv n es i=some r->Qm1 (.int .i64) (.int .i64 n) es i=some r
 | [],i,r,h=>h
 | (a,b)::l,i,r,h=>by
  cases a with
  | int ik z=>
   cases ik with
   | i64=>
    have g:(if n=z then some (some (i,b)) else Qqv n l (i+1))=some r:=h;unfold Qm1;simp only[QbB,cond_true,Instr.sameNow,if_true]
    by_cases hn:n=z
    ·rw[if_pos hn]at g;subst hn;have hb:(n==n)=true:=by simp
     simp only[hb];exact g
    ·rw[if_neg hn]at g;have:(n==z)=false:=by simp[hn]
     simp only[this];exact QhU n _ _ r g
   | _=>exact absurd h (by simp[Qqv])
  | _=>exact absurd h (by simp[Qqv])
theorem QiZ {ty kt e:TypeId} {x ix y:Operand} {m:Nat} {n:Int} {es:List (Value×Value)} (h1:P.underlying ty=some (.map kt e)) (h2:P.underlying kt=some (.int .i64)) (hx:ev A x=.map (some m)) (hk:ev A ix=.int .i64 n) (hm:H.get m=some (.map es)) (hp:Qqv n es 0=some none):
  pr P (.gen (.insert ty x ix y)) false A H k=k undef (H.set m (.map (es++[(.int .i64 n,ev A y)]))):=by
 have hf:=QhU n es 0 _ hp;have e:rop P (.gen (.insert ty x ix y)) A H=some (undef,H.set m (.map (es++[(.int .i64 n,ev A y)]))):=by simp[rop,aop,Qm3,h1,QrU,h2,hx,hk,hm,hf,QbB]
 refine(Q9 _).trans ?_;rw[e,Qw]
def Qsa (z:Value):Option (Nat×Value)->Value
 | none=>.tuple #[z,.bool false]
 | some (_,v)=>.tuple #[v,.bool true]
theorem QwM {ty kt e:TypeId} {inf:TypeInfo} {z:Value} {x ix:Operand} {m:Nat} {n:Int} {es:List (Value×Value)} {r:Option (Nat×Value)} (h1:P.underlying ty=some (.map kt e)) (h2:P.underlying kt=some (.int .i64)) (h3:P.info? e=some inf) (h4:inf.zero=some z) (hz:Xs z=true) (hx:ev A x=.map (some m)) (hk:ev A ix=.int .i64 n) (hm:H.get m=some (.map es)) (hp:Qqv n es 0=some r):
  pr P (.gen (.lookup ty x ix true)) false A H k=k (Qsa z r) H:=by
 have hf:=QhU n es 0 _ hp;have e:rop P (.gen (.lookup ty x ix true)) A H=some (Qsa z r,H):=by
  cases r<;>simp[Qsa,rop,aop,QiN,h1,Qvg,h2,h3,h4,hz,hx,hk,hm,hf,QbB]
 refine(Q9 _).trans ?_;rw[e,Qw]
theorem QB0 (o:Op):pr P (.gen o) false A H k=QDj P o A H k:=Q9 _
end
theorem Qqw {e size bytes m len b o cap:Nat} {news c:List Value} {x:Value} {H:Qa} {ro:Bool} {e':TypeId} (hx:ZB size x H=some (m,news)) (h1:news.all (·.oneCell')=true) (hm:m≠0) (hb:H.get b=some (.cells c e' ro))
  (hlen:o+len * size<=c.length) (hsum:(len+m) * bytes<=140737488355328) (hmax:len+m<=9223372036854775807) (hcap:cap<UNK) (hfull:¬len+m<=cap):
  Z4 e size bytes (.slice (some ⟨b,o,none⟩) len cap) x H=some (.slice (some ⟨H.next,0,none⟩) (len+m) (UNK+size),H.push (.cells ((c.drop o).take (len * size)++news) e false)):=by
 simp only[Z4,hx,h1,if_true,hm,if_false,hb];rw[if_pos ⟨hlen,hmax,hsum⟩,if_neg (by omega),if_neg hfull]
theorem Qsb {e size bytes m len b o cap:Nat} (h0:o=0) {news c:List Value} {x:Value} {H:Qa} (hx:ZB size x H=some (m,news)) (h1:news.all (·.oneCell')=true) (hm:m≠0) (hb:H.get b=some (.cells c e false))
  (hlen:o+len * size=c.length) (hsum:(len+m) * bytes<=140737488355328) (hmax:len+m<=9223372036854775807) (hcap:UNK<=cap):
  Z4 e size bytes (.slice (some ⟨b,o,none⟩) len cap) x H=some (.slice (some ⟨H.next,0,none⟩) (len+m) (UNK+size),(H.kill b).push (.cells (c.drop o++news) e false)):=by
 simp only[Z4,hx,h1,if_true,hm,if_false,hb];rw[if_pos ⟨by omega,hmax,hsum⟩,if_pos hcap,if_pos ⟨trivial,trivial,h0,hlen⟩]
theorem Qsc {e size bytes m:Nat} {news:List Value} {x:Value} {H:Qa} (hx:ZB size x H=some (m,news)) (h1:news.all (·.oneCell')=true) (hm:m≠0) (hsum:m * bytes<=140737488355328) (hmax:m<=9223372036854775807):
  Z4 e size bytes (.slice none 0 0) x H=some (.slice (some ⟨H.next,0,none⟩) m (UNK+size),H.push (.cells news e false)):=by
 simp only[Z4,hx,h1,if_true,hm,if_false];rw[if_pos ⟨hmax,hsum⟩]
/-! ### QBp of functions -/
def Ret (H0:Qa) (k:Value->Qa->Prop) (v:Value) (H:Qa):Prop:=∃H2,YU H2 H∧(H.Wf->H2.Wf)∧H0.next<=H2.next∧k v H2
theorem Ret.mk {H0 H:Qa} {k:Value->Qa->Prop} {v:Value} (hn:H0.next<=H.next) (h:k v H):Ret H0 k v H:=⟨H,.refl H,id,hn,h⟩
theorem Qa.Wf.up {H:Qa} (h:H.Wf) {m:Nat} (hm:H.next<=m):(H.up m).Wf:=λid hid=>h id (Nat.le_trans hm hid)
theorem Ret.up {H0 H:Qa} {k:Value->Qa->Prop} {v:Value} (hw:H0.Wf) (hn:H0.next<=H.next) (hg:∀id,id<H0.next->H.get id=H0.get id) (h:k v (H0.up H.next)):Ret H0 k v H:=
 ⟨H0.up H.next,YU.up (Nat.le_refl _) (λid b hb=>by rw[hg id (hw.lt hb)];exact hb),λ_=>hw.up hn,hn,h⟩
def Rt (P:Program) (fn:Func) (H0:Qa) (k:Value->Qa->Prop):Env->Qa->Prop:=Qqs P fn λv H'=>H0.next<=H'.next∧k v H'
section
variable {P:Program} {fn:Func} {H0:Qa} {k:Value->Qa->Prop} {A:Env} {H:Qa}
theorem Qyb (hr:fn.results=#[]):Rt P fn H0 k A H=Ret H0 k (.tuple #[]) H:=by
 simp[Rt,Qqs,Ret,QcR,hr]
theorem QEf {r:Nat} (hr:fn.results=#[.tmp r]) (hn:Nat.blt r fn.ntmps=true):Rt P fn H0 k A H=Ret H0 k (A r) H:=by
 have:r<fn.ntmps:=by simpa using hn
 simp[Rt,Qqs,Ret,QcR,hr,Vi,this]
theorem QEg {r s:Nat} (hr:fn.results=#[.tmp r,.tmp s]) (hn:(Nat.blt r fn.ntmps&&Nat.blt s fn.ntmps)=true):Rt P fn H0 k A H=Ret H0 k (.tuple #[A r,A s]) H:=by
 have:r<fn.ntmps∧s<fn.ntmps:=by simpa using hn
 simp[Rt,Qqs,Ret,QcR,hr,Vi,this]
def ldR (agg:Bool) (size:Nat) (p:Value) (H:Qa) (k:Value->Prop):Prop:=match p with
 | .pointer (some a)=>(match H.get a.block with
  | some (.cells c _ _)=>bif agg then(a.off+size<=c.length∧k (.agg ((c.drop a.off).take size).toArray)) else ∃v,c[a.off]? = some v∧k v
  | _=>False)
 | _=>False
def QB1 (agg:Bool) (size off:Nat) (b:Option Blk) (k:Value->Prop):Prop:=match b with
 | some (.cells c _ _)=>bif agg then(off+size<=c.length∧k (.agg ((c.drop off).take size).toArray)) else ∃v,c[off]? = some v∧k v
 | _=>False
theorem QAe (agg:Bool) (size b o:Nat) (k:Value->Prop):ldR agg size (.pointer (some ⟨b,o,none⟩)) H k=QB1 agg size o (H.get b) k:=Eq.trans rfl rfl
theorem Qyc (size o:Nat) (k:Value->Prop) (c:List Value) (e:TypeId) (ro:Bool):QB1 true size o (some (.cells c e ro)) k=(o+size<=c.length∧k (.agg ((c.drop o).take size).toArray)):=Eq.trans rfl rfl
theorem QwN (size o:Nat) (k:Value->Prop) (c:List Value) (e:TypeId) (ro:Bool):QB1 false size o (some (.cells c e ro)) k=∃v,c[o]? = some v∧k v:=Eq.trans rfl rfl
def Qui (P:Program) (ty:TypeId) (p:Value) (H:Qa):Option Value:=match p with | .pointer (some ad)=>XS P ty ad H | _=>none
theorem Qnh (n a:Nat) (ty:TypeId):Vi P n A H (.cell a ty)=if a<n then Qui P ty (A a) H else none:=Eq.trans rfl rfl
theorem QpC {ty:TypeId} {d:TypeDesc} {inf:TypeInfo} {p:Value} {q:Value->Prop} (hd:P.underlying ty=some d) (hi:P.info? ty=some inf):
  (∃v,Qui P ty p H=some v∧q v)↔ldR (Jj d) inf.size p H q:=by
 unfold ldR Qui;split
 ·rename_i a;have e:XS P ty a H=match H.get a.block with
   | some (.cells c _ _)=>if Jj d then(if a.off+inf.size<=c.length then some (.agg ((c.drop a.off).take inf.size).toArray) else none) else c[a.off]?
   | _=>none:=by
   simp only[XS,hd,hi];cases H.get a.block with
   | none=>rfl
   | some b=>cases b<;>rfl
  rw[e];cases hg:H.get a.block with
  | none=>simp
  | some b=>
   cases b with
   | cells c e ro=>
    cases hag:Jj d with
    | true=>by_cases hle:a.off+inf.size<=c.length<;>simp[hle]
    | false=>simp
   | map es=>simp
   | iter s pos=>simp
   | miter a b c d=>simp
   | loop A n ps as bd st=>simp
 ·simp
def Qvx (P:Program) (ty:TypeId) (agg:Bool) (size:Nat):Bool:=match P.underlying ty,P.info? ty with
 | some d,some inf=>(Jj d==agg)&&Nat.beq inf.size size
 | _,_=>false
theorem Qni {ty:TypeId} {agg:Bool} {size:Nat} (h:Qvx P ty agg size=true):∃d inf,P.underlying ty=some d∧P.info? ty=some inf∧Jj d=agg∧inf.size=size:=by
 unfold Qvx at h;split at h
 ·rename_i d inf hd hi;simp only[Bool.and_eq_true,beq_iff_eq,YF,decide_eq_true_eq]at h;exact⟨d,inf,hd,hi,h.1,h.2⟩
 ·cases h
theorem QwO {a ty size:Nat} {agg:Bool} (hr:fn.results=#[.cell a ty]) (hn:Nat.blt a fn.ntmps=true) (ht:Qvx P ty agg size=true):Rt P fn H0 k A H=ldR agg size (A a) H λv=>Ret H0 k v H:=by
 have hn:a<fn.ntmps:=by simpa using hn
 obtain⟨d,inf,hd,hi,rfl,rfl⟩:=Qni ht;apply propext;rw[<- QpC hd hi];simp only[Rt,Qqs,Ret,QcR,hr,Qnh,hn,if_true]
theorem Qvy {a ty size:Nat} {agg:Bool} {r:Nat} (hr:fn.results=#[.cell a ty,.tmp r]) (hn:(Nat.blt a fn.ntmps&&Nat.blt r fn.ntmps)=true) (ht:Qvx P ty agg size=true):Rt P fn H0 k A H=ldR agg size (A a) H λv=>Ret H0 k (.tuple #[v,A r]) H:=by
 have hn:a<fn.ntmps∧r<fn.ntmps:=by simpa using hn
 obtain⟨d,inf,hd,hi,rfl,rfl⟩:=Qni ht;apply propext;rw[<- QpC hd hi];have e1:Vi P fn.ntmps A H (.tmp r)=some (A r):=by simp[Vi,hn.2]
 simp only[Rt,Qqs,Ret,QcR,hr,Qnh,e1,hn.1,if_true,List.mapM_cons,List.mapM_nil,Option.pure_def,Option.bind_eq_bind,Option.bind_some];constructor
 ·rintro⟨v,hv,h⟩;simp only[Option.map_eq_some_iff,Option.bind_eq_some_iff,Option.some.injEq]at hv;obtain⟨l,⟨w,hw,rfl⟩,rfl⟩:=hv;exact⟨w,hw,h⟩
 ·rintro⟨v,hv,h⟩;refine⟨_,?_,h⟩;simp[hv]
end
theorem QgA {P:Program} {f:FuncId} {fn:Func} {pc:PC} {args:List Value} {H:Qa} {k:Value->Qa->Prop} {A:Env} (hf:P.funcs[f]? = some fn) (hc:fn.body.bind (comp P fn.ntmps)=some pc) (he:entered P f=true) (hl:Nat.ble args.length fn.ntmps=true) (hA:Zq args=A)
  (h:H.Wf->Qt P pc ⟨Rt P fn H k,Z5⟩ (Rt P fn H k) A H):Qf P f args H k:=Qnb hf hc he (by simpa using hl) (by rw[hA];exact h)
theorem Qnj (l:List Value):(Value.agg l.toArray).cells.toList=l:=Eq.trans rfl rfl
theorem Qnk (ik:IntKind) (n:Int):(Value.int ik n).cells.toList=[.int ik n]:=Eq.trans rfl rfl
theorem Qlz (b:Bool):(Value.bool b).cells.toList=[.bool b]:=Eq.trans rfl rfl
theorem Qi0 (a:Option Addr) (l c:Nat):(Value.slice a l c).cells.toList=[.slice a l c]:=Eq.trans rfl rfl
theorem Qi1 (ty:TypeId) (v:Value):(Value.iface ty v).cells.toList=[.iface ty v]:=Eq.trans rfl rfl
theorem QlA (ik:IntKind) (n:Int):(Value.int ik n).oneCell'=true:=Eq.trans rfl rfl
theorem Qi2 (b:Bool):(Value.bool b).oneCell'=true:=Eq.trans rfl rfl
theorem Qha (a:Option Addr) (l c:Nat):(Value.slice a l c).oneCell'=true:=Eq.trans rfl rfl
theorem Qhb (ty:TypeId) (v:Value):(Value.iface ty v).oneCell'=true:=Eq.trans rfl rfl
section
variable {P:Program}
theorem QG {b:Bool} {r:R} {s:Bool} {l:List PO} {k:Env->Qa->Prop} {A:Env} {d:Option Nat} {H:Qa} (h1:b=true->gB true P r s l k A d H) (h2:b=false->gB false P r s l k A d H):gB b P r s l k A d H:=by
 cases b
 ·exact h2 rfl
 ·exact h1 rfl
theorem Qh {b:Bool} {x y:PC} {ks:Kp} {k:Env->Qa->Prop} {A:Env} {H:Qa} (h1:b=true->cB true P x y ks k A H) (h2:b=false->cB false P x y ks k A H):cB b P x y ks k A H:=by
 cases b
 ·exact h2 rfl
 ·exact h1 rfl
end
/-! ### Loops -/
section
variable {P:Program}
def Qsd (I:Nat->Env->Qa->Prop) (m:Nat) (A:Env) (H:Qa):Prop:=∃m',m'<m∧I m' A H
theorem Qu {b:PC} {ks:Kp} {k:Env->Qa->Prop} {A:Env} {H:Qa} (I:Nat->Env->Qa->Prop) (m:Nat) (h0:I m A H) (h:∀m A' H',I m A' H'->Qt P b ks (Qsd I m) A' H'):Qt P (.loop b) ks k A H:=
 ⟨I,⟨m,h0⟩,h⟩
/-! Loops over functions. -/
def YR (P:Program) (L:Option Code->Blk) (ps:List Nat) (a b:PC) (A:Env):Prop:=∀ (l:Nat) (args:List Value) (H0:Qa) (Q:Value->Qa->Prop),H0.get l=some (L none)->args.length=ps.length->Qt P a Qvm (λA1 H1=>Qt P b (QC8 L l H0.next Q) (QBu L l H0.next Q) A1 H1) (Qlk A ps args) (H0.kill l)->YQ P l args H0 Q
def rgK (v:Value) (P:Program) (ps:List Nat) (a b:PC) (ks:Kp) (k:Env->Qa->Prop) (A:Env) (H:Qa):Prop:=match v with
 | .func (.func f) xs ys=>∀L:Option Code->Blk,YR P L ps a b A->entered P f=true∧Qf P f (xs.toList++[.func (.yield H.next) #[] #[]]++ys.toList) (H.push (L none)) λ_ H2=>∃st,H2.get H.next=some (L st)∧QxD st ks k A (H2.kill H.next)
 | _=>False
theorem QdX (g:Operand) (ps:List Nat) (a b:PC) (ks:Kp) (k:Env->Qa->Prop) (A:Env) (H:Qa):Qt P (.rangeF g ps a b) ks k A H=rgK (ev A g) P ps a b ks k A H:=by
 show(match ev A g with | .func (.func f) xs ys=>_ | _=>False)=_;unfold rgK;split<;>rfl
theorem Qnl (f:FuncId) (xs ys:List Value) (ps:List Nat) (a b:PC) (ks:Kp) (k:Env->Qa->Prop) (A:Env) (H:Qa):rgK (.func (.func f) xs.toArray ys.toArray) P ps a b ks k A H=∀L:Option Code->Blk,YR P L ps a b A->entered P f=true∧Qf P f (xs++[.func (.yield H.next) #[] #[]]++ys) (H.push (L none)) λ_ H2=>∃st,H2.get H.next=some (L st)∧QxD st ks k A (H2.kill H.next):=Eq.trans rfl rfl
theorem Qkv (ks:Kp) (k:Env->Qa->Prop) (A:Env) (H:Qa):QxD none ks k A H=k A H:=Eq.trans rfl rfl
theorem QhV (L:Option Code->Blk) (l nx:Nat) (Q:Value->Qa->Prop) (A:Env) (H:Qa):QBu L l nx Q A H=(nx<=H.next∧Q (.bool true) (H.set l (L none))):=Eq.trans rfl rfl
theorem Qkw (A:Env) (l:List Value):Qlk A [] l=A:=Eq.trans rfl rfl
theorem QhW (A:Env) (p:Nat) (ps:List Nat) (v:Value) (l:List Value):Qlk A (p::ps) (v::l)=Qlk (upd A p v) ps l:=Eq.trans rfl rfl
structure Ext (H H':Qa):Prop where
 next:H.next<=H'.next
 get:∀id,id<H.next->H'.get id=H.get id
theorem Ext.eqB {H H':Qa} (h:Ext H H'):EqB H H':=λid hid=>h.get id hid
theorem Ext.refl (H:Qa):Ext H H:=⟨Nat.le_refl _,λ_ _=>Eq.trans rfl rfl⟩
theorem Ext.trans {a b c:Qa} (h:Ext a b) (h':Ext b c):Ext a c:=⟨Nat.le_trans h.next h'.next,λid hid=>by rw[h'.get id (Nat.lt_of_lt_of_le hid h.next),h.get id hid]⟩
theorem Ext.push {H H':Qa} (h:Ext H H') (b:Blk):Ext H (H'.push b):=⟨Nat.le_trans h.next (by simp),λid hid=>by
 have:=h.next;rw[Qa.get_push,if_neg (by omega)];exact h.get id hid⟩
theorem Ext.up {H H':Qa} (h:Ext H H') {m:Nat} (hm:H'.next<=m):Ext H (H'.up m):=⟨Nat.le_trans h.next hm,λid hid=>by rw[Qa.get_up];exact h.get id hid⟩
theorem Ext.set {H H':Qa} (h:Ext H H') {i:Nat} (hi:H.next<=i) (b:Blk):Ext H (H'.set i b):=⟨h.next,λid hid=>by
 rw[Qa.get_set,if_neg (by omega)];exact h.get id hid⟩
theorem Ext.kill {H H':Qa} (h:Ext H H') {i:Nat} (hi:H.next<=i):Ext H (H'.kill i):=⟨h.next,λid hid=>by
 rw[Qa.get_kill,if_neg (by omega)];exact h.get id hid⟩
theorem Ret.ext {H0 H:Qa} {k:Value->Qa->Prop} {v:Value} (hw:H0.Wf) (he:Ext H0 H) (h:k v (H0.up H.next)):Ret H0 k v H:=.up hw he.next he.get h
end
/-! ### Appending -/
theorem G6 {size m b o cap:Nat} {c:List Value} {e:TypeId} {ro:Bool} {H:Qa} (hb:H.get b=some (.cells c e ro)) (hm:m≠0) (hc:o+m * size<=c.length):ZB size (.slice (some ⟨b,o,none⟩) m cap) H=some (m,(c.drop o).take (m * size)):=by
 simp only[ZB,hm,if_false,hb];rw[if_pos hc]
theorem Qse {b cap:Nat} {v:Value} {e:TypeId} {ro:Bool} {H:Qa} (hb:H.get b=some (.cells [v] e ro)):ZB 1 (.slice (some ⟨b,0,none⟩) 1 cap) H=some (1,[v]):=G6 hb (by decide) (by simp)
theorem Qsf {e size bytes m len b o cap:Nat} (h0:o=0) {news c:List Value} {x:Value} {H:Qa} {k:Value->Qa->Prop} (hx:ZB size x H=some (m,news)) (h1:news.all (·.oneCell')=true) (hm:m≠0) (hb:H.get b=some (.cells c e false))
  (hlen:o+len * size=c.length) (hsum:(len+m) * bytes<=140737488355328) (hmax:len+m<=9223372036854775807) (hcap:UNK<=cap)
  (h:k (.slice (some ⟨H.next,0,none⟩) (len+m) (UNK+size)) ((H.kill b).push (.cells (c.drop o++news) e false))):QfB e size bytes (.slice (some ⟨b,o,none⟩) len cap) x H k:=by
 unfold QfB;rw[Qsb h0 hx h1 hm hb hlen hsum hmax hcap,Qw];exact h
theorem Qkx {e size bytes m len b o cap:Nat} {news c:List Value} {x:Value} {H:Qa} {ro:Bool} {e':TypeId} {k:Value->Qa->Prop} (hx:ZB size x H=some (m,news)) (h1:news.all (·.oneCell')=true) (hm:m≠0) (hb:H.get b=some (.cells c e' ro))
  (hlen:o+len * size<=c.length) (hsum:(len+m) * bytes<=140737488355328) (hmax:len+m<=9223372036854775807) (hcap:cap<UNK) (hfull:¬len+m<=cap)
  (h:k (.slice (some ⟨H.next,0,none⟩) (len+m) (UNK+size)) (H.push (.cells ((c.drop o).take (len * size)++news) e false))):QfB e size bytes (.slice (some ⟨b,o,none⟩) len cap) x H k:=by
 unfold QfB;rw[Qqw hx h1 hm hb hlen hsum hmax hcap hfull,Qw];exact h
theorem Qnm {e size bytes m:Nat} {news:List Value} {x:Value} {H:Qa} {k:Value->Qa->Prop} (hx:ZB size x H=some (m,news)) (h1:news.all (·.oneCell')=true) (hm:m≠0) (hsum:m * bytes<=140737488355328) (hmax:m<=9223372036854775807)
  (h:k (.slice (some ⟨H.next,0,none⟩) m (UNK+size)) (H.push (.cells news e false))):QfB e size bytes (.slice none 0 0) x H k:=by
 unfold QfB;rw[Qsc hx h1 hm hsum hmax,Qw];exact h
theorem Qf.thenW {P:Program} {f:FuncId} {args:List Value} {H:Qa} {k k':Value->Qa->Prop} (h:Qf P f args H k) (hk:∀v H',H.next<=H'.next->H'.Wf->k v H'->k' v H'):Qf P f args H k':=by
 intro hw;obtain⟨v,H',h1,h2,h3,h4⟩:=h hw;exact⟨v,H',h1,h2,h3,hk v H' h2 h3 h4⟩
theorem QlB {H:Qa} {b:Blk} {m:Nat} (h:m=H.next):(H.push b).get m=some b:=by rw[Qa.get_push,if_pos h]
theorem QlC {H:Qa} {b:Blk} {m:Nat} (h:¬m=H.next):(H.push b).get m=H.get m:=by rw[Qa.get_push,if_neg h]
theorem Quj {H:Qa} {b:Blk} {i m:Nat} (h:m=i):(H.set i b).get m=some b:=by rw[Qa.get_set,if_pos h]
theorem Quk {H:Qa} {b:Blk} {i m:Nat} (h:¬m=i):(H.set i b).get m=H.get m:=by rw[Qa.get_set,if_neg h]
/-! ### Rules, together -/
abbrev sxA:=And.intro @QhT (And.intro @Qly (And.intro @Qt4 (And.intro @Qww (And.intro @Qt3 (And.intro @Qwx (And.intro @Qgz (And.intro @Qr6 (And.intro @QBE (And.intro @QBF (And.intro @QxR (And.intro @Qwy (And.intro @Qt5 (And.intro @QzD (And.intro @Qvt (And.intro @Qnd (And.intro @QiX (And.intro @Qgy (And.intro @Qt2 (And.intro @QdW (And.intro @Qt1 (And.intro @QzC (And.intro @QxQ (And.intro @QzB (And.intro @QxP (And.intro @bt (And.intro @bf (And.intro @Xb (And.intro @Qvs (And.intro @QcZ (And.intro @Qpz (And.intro @QDc (And.intro @Qr4 (And.intro @Qwv (And.intro @QzA (And.intro @Qvu (And.intro @QzG (And.intro @Qt9 (And.intro @QBG (And.intro @QzH (And.intro @QzI (And.intro @QzJ (And.intro @QzK (And.intro @QBH (And.intro @QzL (And.intro @Qua (And.intro @QzM (And.intro @QzN (And.intro @QzO (And.intro @QzP (And.intro @QzQ (And.intro @QzR (And.intro @QzS (And.intro @QzT (And.intro @QzU (And.intro @QzV (And.intro @QzW (And.intro @QzX (And.intro @QxW (And.intro @QBJ (And.intro @QzY (And.intro @QzZ (And.intro @QBK (And.intro @QBL (And.intro @QwE (And.intro @QxY (And.intro @Qub (And.intro @Qz1 (And.intro @QBN (And.intro @QwF (And.intro @QxZ (And.intro @Qz2 (And.intro @QwG (And.intro @Qz3 (And.intro @Quc (And.intro @QBO (And.intro @Qx0 (And.intro @QBP (And.intro @QBQ (And.intro @QBR (And.intro @QBS (And.intro @Qz5 (And.intro @QwH (And.intro @Qx1 (And.intro @Qud (And.intro @Qx3 (And.intro @Qr8 (And.intro @QwI (And.intro @QwJ (And.intro @Qqt (And.intro @QwK (And.intro @QBT (And.intro @Qx4 (And.intro @QBU (And.intro @Qz6 (And.intro @QpA (And.intro @QBV (And.intro @Qx5 (And.intro @Que (And.intro @Quf (And.intro @QDg (And.intro @Qx6 (And.intro @Qz7 (And.intro @Qx7 (And.intro @Qz8 (And.intro @QDi (And.intro @QBX (And.intro @QpB (And.intro @Qz9 (And.intro @Qx9 (And.intro @Quh (And.intro @Qqu (And.intro @Qx8 (And.intro @Qug (And.intro @QAb (And.intro @Qm (And.intro @QAc (And.intro @QwL (And.intro @QBY (And.intro @QzF (And.intro @QxV (And.intro @Qt6 (And.intro @QxU (And.intro @QBZ (And.intro @Qya (And.intro @Qr9 (And.intro @QiY (And.intro @QwB (And.intro @QxS (And.intro @QwC (And.intro @QxT (And.intro @Qt8 (And.intro @Qwz (And.intro @QwA (And.intro @QAe (And.intro @Qyc (@QwN))))))))))))))))))))))))))))))))))))))))))))))))))))))))))))))))))))))))))))))))))))))))))))))))))))))))))))))))))))))))))))))))))))))))
abbrev mxA:=And.intro @Qnj (And.intro @Qnk (And.intro @Qlz (And.intro @Qi0 (And.intro @Qi1 (And.intro @QlA (And.intro @Qi2 (And.intro @Qha (And.intro @Qhb (And.intro @Qnf (And.intro @Qng (And.intro @Qa.get_push (And.intro @Qa.next_push (And.intro @Qa.get_set (And.intro @Qa.next_set (And.intro @Qa.get_up (And.intro @Qa.next_up (And.intro @Nat.zero_add (And.intro @Nat.add_zero (And.intro @true_and (And.intro @and_true (And.intro @Nat.add_eq_left (And.intro @Nat.left_eq_add (And.intro @Nat.succ_ne_self (And.intro @Bool.and_self (And.intro @Nat.mul_one (And.intro @Nat.zero_mul (@Nat.one_mul)))))))))))))))))))))))))))
abbrev mxD:=And.intro @Qnj (And.intro @Qnk (And.intro @Qlz (And.intro @Qi0 (And.intro @Qi1 (And.intro @QlA (And.intro @Qi2 (And.intro @Qha (And.intro @Qhb (And.intro @Qnf (And.intro @Qng (And.intro @Qa.next_push (And.intro @Qa.next_set (And.intro @Qa.get_up (And.intro @Qa.next_up (And.intro @Nat.zero_add (And.intro @Nat.add_zero (And.intro @true_and (And.intro @and_true (And.intro @Nat.add_eq_left (And.intro @Nat.left_eq_add (And.intro @Nat.succ_ne_self (And.intro @Bool.and_self (And.intro @Nat.mul_one (And.intro @Nat.zero_mul (And.intro @Nat.one_mul (And.intro @QlB (And.intro @QlC (And.intro @Quj (@Quk)))))))))))))))))))))))))))))
abbrev uxA:=And.intro @Xb (And.intro @Qvs (And.intro @QcZ (And.intro @Qpz (And.intro @QDc (@Qr4)))))
abbrev sxB:=And.intro @List.map_cons.{0,0} (And.intro @List.map_nil.{0,0} (And.intro @ne_eq.{1} (And.intro not_false_eq_true (And.intro not_true_eq_false (And.intro @cond_true.{1} (And.intro @cond_false.{1} (And.intro Bool.not_true (And.intro Bool.not_false @Bool.not_not))))))))
abbrev uxB:=And.intro @cond_true.{1} @cond_false.{1}
abbrev mxB:=And.intro @if_true.{1} (And.intro @if_false.{1} (And.intro @List.getElem?_cons_succ.{0} (And.intro @List.getElem?_cons_zero.{0} (And.intro @Option.some.injEq.{0} (And.intro @exists_eq_left'.{1} (And.intro @eq_self.{1} (And.intro @List.length_cons.{0} (And.intro @List.length_nil.{0} (And.intro @List.all_cons.{0} (And.intro @List.all_nil.{0} (And.intro @List.drop_zero.{0} (And.intro @List.drop_succ_cons.{0} (And.intro @List.take_succ_cons.{0} (And.intro @List.take_zero.{0} (And.intro @List.cons_append.{0} (And.intro @List.nil_append.{0} (And.intro @List.append_nil.{0} (And.intro @List.take_nil.{0} @List.drop_nil.{0}))))))))))))))))))
theorem Qky (c:List Value) (p:Nat) (vs:List Value):splice c p vs=c.take p++(vs++c.drop (p+vs.length)):=rfl
abbrev Qc:=And.intro sxA (And.intro sxB (And.intro mxA (And.intro mxB @Qky)))
abbrev Wp:=And.intro sxA (And.intro sxB (And.intro mxD (And.intro mxB @Qky)))
abbrev Qbt:=And.intro sxA sxB
abbrev Qsg:=And.intro mxD (And.intro mxB @Qky)
abbrev Qq:=And.intro uxA uxB
/-! ### The code's text, short -/
abbrev Ow (d:Nat) (r:R):PO:=⟨some d,r,none,false⟩
abbrev Om (d:Nat) (x:Operand):PO:=⟨some d,.mv x,none,false⟩
abbrev Ov (r:R):PO:=⟨none,r,none,false⟩
abbrev Og (d:Nat) (r:R) (a:Nat) (b:Bool):PO:=⟨some d,r,some (a,b),false⟩
abbrev On (d:Nat) (x:Operand) (a:Nat) (b:Bool):PO:=⟨some d,.mv x,some (a,b),false⟩
abbrev Ci (n:Int):Operand:=.const (.int .i64 n)
abbrev In0 (P:Program) (f:FuncId) (fn:Func) (pc:PC):Prop:=∀ {H:Qa} {k:Value->Qa->Prop},(H.Wf->Qt P pc ⟨Rt P fn H k,Z5⟩ (Rt P fn H k) (U) H)->Qf P f [] H k
theorem in0 {P:Program} {f:FuncId} {fn:Func} {pc:PC} (hf:P.funcs[f]? = some fn) (hc:fn.body.bind (comp P fn.ntmps)=some pc) (he:entered P f=true) (hl:Nat.ble 0 fn.ntmps=true):In0 P f fn pc:=λh=>QgA hf hc he hl QD9 h
abbrev In1 (P:Program) (f:FuncId) (fn:Func) (pc:PC):Prop:=∀ {a0:Value} {H:Qa} {k:Value->Qa->Prop},(H.Wf->Qt P pc ⟨Rt P fn H k,Z5⟩ (Rt P fn H k) (upd U 0 a0) H)->Qf P f [a0] H k
theorem in1 {P:Program} {f:FuncId} {fn:Func} {pc:PC} (hf:P.funcs[f]? = some fn) (hc:fn.body.bind (comp P fn.ntmps)=some pc) (he:entered P f=true) (hl:Nat.ble 1 fn.ntmps=true):In1 P f fn pc:=λh=>QgA hf hc he hl (QEa _) h
abbrev In2 (P:Program) (f:FuncId) (fn:Func) (pc:PC):Prop:=∀ {a0 a1:Value} {H:Qa} {k:Value->Qa->Prop},(H.Wf->Qt P pc ⟨Rt P fn H k,Z5⟩ (Rt P fn H k) (upd (upd U 0 a0) 1 a1) H)->Qf P f [a0,a1] H k
theorem in2 {P:Program} {f:FuncId} {fn:Func} {pc:PC} (hf:P.funcs[f]? = some fn) (hc:fn.body.bind (comp P fn.ntmps)=some pc) (he:entered P f=true) (hl:Nat.ble 2 fn.ntmps=true):In2 P f fn pc:=λh=>QgA hf hc he hl (QEb _ _) h
abbrev In3 (P:Program) (f:FuncId) (fn:Func) (pc:PC):Prop:=∀ {a0 a1 a2:Value} {H:Qa} {k:Value->Qa->Prop},(H.Wf->Qt P pc ⟨Rt P fn H k,Z5⟩ (Rt P fn H k) (upd (upd (upd U 0 a0) 1 a1) 2 a2) H)->Qf P f [a0,a1,a2] H k
theorem in3 {P:Program} {f:FuncId} {fn:Func} {pc:PC} (hf:P.funcs[f]? = some fn) (hc:fn.body.bind (comp P fn.ntmps)=some pc) (he:entered P f=true) (hl:Nat.ble 3 fn.ntmps=true):In3 P f fn pc:=λh=>QgA hf hc he hl (QEc _ _ _) h
abbrev In4 (P:Program) (f:FuncId) (fn:Func) (pc:PC):Prop:=∀ {a0 a1 a2 a3:Value} {H:Qa} {k:Value->Qa->Prop},(H.Wf->Qt P pc ⟨Rt P fn H k,Z5⟩ (Rt P fn H k) (upd (upd (upd (upd U 0 a0) 1 a1) 2 a2) 3 a3) H)->Qf P f [a0,a1,a2,a3] H k
theorem in4 {P:Program} {f:FuncId} {fn:Func} {pc:PC} (hf:P.funcs[f]? = some fn) (hc:fn.body.bind (comp P fn.ntmps)=some pc) (he:entered P f=true) (hl:Nat.ble 4 fn.ntmps=true):In4 P f fn pc:=λh=>QgA hf hc he hl (QEd _ _ _ _) h
abbrev In5 (P:Program) (f:FuncId) (fn:Func) (pc:PC):Prop:=∀ {a0 a1 a2 a3 a4:Value} {H:Qa} {k:Value->Qa->Prop},(H.Wf->Qt P pc ⟨Rt P fn H k,Z5⟩ (Rt P fn H k) (upd (upd (upd (upd (upd U 0 a0) 1 a1) 2 a2) 3 a3) 4 a4) H)->Qf P f [a0,a1,a2,a3,a4] H k
theorem in5 {P:Program} {f:FuncId} {fn:Func} {pc:PC} (hf:P.funcs[f]? = some fn) (hc:fn.body.bind (comp P fn.ntmps)=some pc) (he:entered P f=true) (hl:Nat.ble 5 fn.ntmps=true):In5 P f fn pc:=λh=>QgA hf hc he hl (QEe _ _ _ _ _) h
/-! #### Still shorter -/
abbrev Oa (d x:Nat):PO:=Om d (t x)
abbrev Ob (d n x:Nat):PO:=Ow d (.fldA n (t x))
abbrev Oc (d s x:Nat):PO:=Ow d (.ld false s (t x))
abbrev Od (d s x:Nat):PO:=Ow d (.ld true s (t x))
abbrev Oe (d:Nat) (o:BinOp) (x:Nat) (c:Int):PO:=Ow d (.bin o (t x) (Ci c))
abbrev Gp (d:Nat) (o:BinOp) (x y:Nat):PO:=Ow d (.bin o (t x) (t y))
abbrev Oj (d x y:Nat):PO:=Ow d (.pick (t x) (t y) (.const (.bool false)))
abbrev Gk (d x y:Nat):PO:=Ow d (.pick (t x) (.const (.bool true)) (t y))
abbrev Ol (d:Nat) (b:Bool):PO:=Om d (.const (.bool b))
abbrev Oi (d:Nat) (c:Int):PO:=Om d (Ci c)
abbrev Oz (d:Nat):PO:=Om d (.const (.slice none 0 0))
abbrev Gu (s x y:Nat):PO:=Ov (.st s (t x) (t y))
abbrev Ox (d s x y:Nat):PO:=Ow d (.idxS s (t x) (t y))
abbrev Oy (d s x:Nat) (c:Int):PO:=Ow d (.idxS s (t x) (Ci c))
abbrev Ou (d x:Nat):PO:=Ow d (.lenS (t x))
abbrev Ot (d x n:Nat):PO:=Ow d (.ext (t x) n)
abbrev Oh (d x:Nat):PO:=Ow d (.not (t x))
abbrev Gr (d:Nat) (T:TypeId) (x:Nat):PO:=Ow d (.box T (t x))
abbrev Oq (d x:Nat):PO:=Ow d (.gen (.nilCheck (t x)))
abbrev Oo (d x a:Nat) (b:Bool):PO:=On d (t x) a b
abbrev Gb (d n x a:Nat) (b:Bool):PO:=Og d (.fldA n (t x)) a b
abbrev Gc (d s x a:Nat) (b:Bool):PO:=Og d (.ld false s (t x)) a b
abbrev Gd (d s x a:Nat) (b:Bool):PO:=Og d (.ld true s (t x)) a b
abbrev Ge (d:Nat) (o:BinOp) (x:Nat) (c:Int) (a:Nat) (b:Bool):PO:=Og d (.bin o (t x) (Ci c)) a b
abbrev Gf (d:Nat) (o:BinOp) (x y a:Nat) (b:Bool):PO:=Og d (.bin o (t x) (t y)) a b
abbrev Gy (d s x y a:Nat) (b:Bool):PO:=Og d (.idxS s (t x) (t y)) a b
abbrev So (l:List PO) (b:PC):PC:=.seq (.ops l) b
abbrev Sr (l:List PO):PC:=.seq (.ops l) .ret
abbrev Sc (x:Nat) (a b:PC):PC:=.cond (t x) a b
theorem jn0 {P:Program} {f:FuncId} {fn:Func} {pc:PC} (hf:P.funcs[f]? = some fn) (h:(fn.body.bind (comp P fn.ntmps),entered P f,Nat.ble 0 fn.ntmps)=(some pc,true,true)):In0 P f fn pc:=in0 hf (congrArg (·.1) h) (congrArg (·.2.1) h) (congrArg (·.2.2) h)
theorem jn1 {P:Program} {f:FuncId} {fn:Func} {pc:PC} (hf:P.funcs[f]? = some fn) (h:(fn.body.bind (comp P fn.ntmps),entered P f,Nat.ble 1 fn.ntmps)=(some pc,true,true)):In1 P f fn pc:=in1 hf (congrArg (·.1) h) (congrArg (·.2.1) h) (congrArg (·.2.2) h)
theorem jn2 {P:Program} {f:FuncId} {fn:Func} {pc:PC} (hf:P.funcs[f]? = some fn) (h:(fn.body.bind (comp P fn.ntmps),entered P f,Nat.ble 2 fn.ntmps)=(some pc,true,true)):In2 P f fn pc:=in2 hf (congrArg (·.1) h) (congrArg (·.2.1) h) (congrArg (·.2.2) h)
theorem jn3 {P:Program} {f:FuncId} {fn:Func} {pc:PC} (hf:P.funcs[f]? = some fn) (h:(fn.body.bind (comp P fn.ntmps),entered P f,Nat.ble 3 fn.ntmps)=(some pc,true,true)):In3 P f fn pc:=in3 hf (congrArg (·.1) h) (congrArg (·.2.1) h) (congrArg (·.2.2) h)
theorem jn4 {P:Program} {f:FuncId} {fn:Func} {pc:PC} (hf:P.funcs[f]? = some fn) (h:(fn.body.bind (comp P fn.ntmps),entered P f,Nat.ble 4 fn.ntmps)=(some pc,true,true)):In4 P f fn pc:=in4 hf (congrArg (·.1) h) (congrArg (·.2.1) h) (congrArg (·.2.2) h)
theorem jn5 {P:Program} {f:FuncId} {fn:Func} {pc:PC} (hf:P.funcs[f]? = some fn) (h:(fn.body.bind (comp P fn.ntmps),entered P f,Nat.ble 5 fn.ntmps)=(some pc,true,true)):In5 P f fn pc:=in5 hf (congrArg (·.1) h) (congrArg (·.2.1) h) (congrArg (·.2.2) h)
theorem QC {P:Program} {fn:Func} {H0 H:Qa} {k:Value->Qa->Prop} {A:Env} {r:Nat} (h:(fn.results,Nat.blt r fn.ntmps)=(#[.tmp r],true)):Rt P fn H0 k A H=Ret H0 k (A r) H:=QEf (congrArg (·.1) h) (congrArg (·.2) h)
theorem QoA {P:Program} {fn:Func} {H0 H:Qa} {k:Value->Qa->Prop} {A:Env} {r s:Nat} (h:(fn.results,Nat.blt r fn.ntmps&&Nat.blt s fn.ntmps)=(#[.tmp r,.tmp s],true)):Rt P fn H0 k A H=Ret H0 k (.tuple #[A r,A s]) H:=QEg (congrArg (·.1) h) (congrArg (·.2) h)
/-! ### Functions' codes, short -/
abbrev Ca (d:Nat) (f:FuncId) (x:Nat):PO:=Ow d (.call f [t x])
abbrev Cb (d:Nat) (f:FuncId) (x y:Nat):PO:=Ow d (.call f [t x,t y])
abbrev Cc (d:Nat) (f:FuncId) (x y z:Nat):PO:=Ow d (.call f [t x,t y,t z])
abbrev Cd (d:Nat) (e:TypeId) (l:List Value):PO:=Ow d (.alloc e l)
abbrev Ze2:List Value:=[.int .i64 0,.int .i64 0]
abbrev Ze5:List Value:=[.int .i64 0,.int .i64 0,.int .i64 0,.int .i64 0,.int .i64 0]
abbrev Ze6:List Value:=[.int .i64 0,.int .i64 0,.int .i64 0,.int .i64 0,.int .i64 0,.int .i64 0]
abbrev Ze7:List Value:=[.int .i64 0,.int .i64 0,.int .i64 0,.int .i64 0,.int .i64 0,.int .i64 0,.int .i64 0]
abbrev Ze8:List Value:=[.int .i64 0,.int .i64 0,.int .i64 0,.int .i64 0,.int .i64 0,.int .i64 0,.int .i64 0,.int .i64 0]
abbrev Qbu:List Value:=[.int .i64 0,.int .i64 0,.int .i64 0,.int .i64 0,.int .i64 0,.int .i64 0,.int .i64 0,.int .i64 0,.int .i64 0,.int .i64 0,.int .i64 0]
abbrev QDl:List Value:=[.int .i64 0,.int .i64 0,.int .i64 0,.int .i64 0,.int .i64 0,.int .i64 0,.int .i64 0,.int .i64 0,.int .i64 0,.int .i64 0,.int .i64 0,.int .i64 0,.int .i64 0]
abbrev QoB:List Value:=[.int .i64 0,.int .i64 0,.int .i64 0,.int .i64 0,.int .i64 0,.int .i64 0,.int .i64 0,.int .i64 0,.int .i64 0,.int .i64 0,.int .i64 0,.int .i64 0,.int .i64 0,.int .i64 0,.int .i64 0,.int .i64 0,.int .i64 0,.int .i64 0,.int .i64 0,.int .i64 0,.int .i64 0,.int .i64 0]
abbrev QB2:List Value:=[.int .i64 0,.int .i64 0,.int .i64 0,.int .i64 0,.int .i64 0,.int .i64 0,.int .i64 0,.int .i64 0,.int .i64 0,.int .i64 0,.int .i64 0,.int .i64 0,.int .i64 0,.int .i64 0,.int .i64 0,.int .i64 0,.int .i64 0,.int .i64 0,.int .i64 0,.int .i64 0,.int .i64 0,.int .i64 0,.int .i64 0,.int .i64 0,.int .i64 0,.int .i64 0,.int .i64 0,.int .i64 0,.int .i64 0,.int .i64 0,.int .i64 0,.int .i64 0,.int .i64 0]
/-! ### Rules and rewriting steps, short -/
theorem nD {α:Type} (l:List α):l.drop 0=l:=List.drop_zero
theorem nB (a:Int):(a==a)=true:=beq_self_eq_true a
theorem nC {α:Type} (a:α) (l m:List α):(a::l)++m=a::(l++m):=List.cons_append
/-! ### Macros -/
variable {A B C D E F G I J K L M N O R S T U V W X Y P Q:Prop}
end Go.Ab
namespace Go.Ab
open Go.RowKit
section
variable {P:Program} {ρ:Ren} {H:Qa} {w:World}
def Qdf (H:Qa):Prop:=∀id b,H.get id=some b->b.ro=true
theorem Sim.addRo (hs:Sim P ρ H w) (hro:Qdf H) {c:List Value} (e:TypeId) {a:Addr} (hlt:a.block<w.heap.size) (hc:∀ (j:Nat) v,c[j]? = some v->∃v',w.cell? (a.add j)=some v'∧V ρ v v'):
  Sim P (ext ρ H.next ⟨a,0,0⟩) (H.push (.cells c e true)) w:=by
 have hn:=hs.none_next;have hsub:=Qby ⟨a,0,0⟩ hn;refine⟨λid j h=>?_,λid bl j h h'=>?_,λid1 id2 b1 b2 i1 i2 h1 h2 h3 h4 h5 h6=>?_,λg hg=>?_⟩
 ·by_cases ee:id=H.next
  ·subst ee;simp
  ·rw[Yg ρ _ ee]at h;have:=hs.dom _ _ h;simp;omega
 ·by_cases ee:id=H.next
  ·subst ee;rw[Wg]at h';cases h';rw[Qa.get_push,if_pos rfl]at h;cases h;exact⟨hlt,λj v hj=>by obtain⟨v',x1,x2⟩:=hc j v hj;exact⟨v',x1,x2.mono hsub⟩⟩
  ·rw[Yg ρ _ ee]at h';rw[Qa.get_push,if_neg ee]at h;exact(hs.live id bl j h h').mono hsub rfl
 ·have:b1.ro=true:=by
   by_cases ee:id1=H.next
   ·subst ee;rw[Qa.get_push,if_pos rfl]at h1;cases h1;rfl
   ·rw[Qa.get_push,if_neg ee]at h1;exact hro _ _ h1
  rw[this]at h5;cases h5
 ·obtain⟨j,hj,ee⟩:=hs.glob g hg;exact⟨j,hsub _ _ hj,ee⟩
theorem Sim.addDead (hs:Sim P ρ H w) (hw:H.Wf) (a:Addr):Sim P (ext ρ H.next ⟨a,0,0⟩) (H.up (H.next+1)) w:=by
 have hn:=hs.none_next;have hsub:=Qby ⟨a,0,0⟩ hn;refine⟨λid j h=>?_,λid bl j h h'=>?_,λid1 id2 b1 b2 i1 i2 h1 h2 h3 h4 h5 h6=>?_,λg hg=>?_⟩
 ·by_cases ee:id=H.next
  ·subst ee;simp
  ·rw[Yg ρ _ ee]at h;have:=hs.dom _ _ h;simp;omega
 ·rw[Qa.get_up]at h;have:=hw.lt h;rw[Yg ρ _ (by omega)]at h';exact(hs.live id bl j h h').mono hsub rfl
 ·rw[Qa.get_up]at h1 h2;have:=hw.lt h1;have:=hw.lt h2;rw[Yg ρ _ (by omega)]at h3 h4;exact hs.sep id1 id2 b1 b2 i1 i2 h1 h2 h3 h4 h5 h6
 ·obtain⟨j,hj,ee⟩:=hs.glob g hg;exact⟨j,hsub _ _ hj,ee⟩
theorem Qdf.push (h:Qdf H) (c:List Value) (e:TypeId):Qdf (H.push (.cells c e true)):=λid b hb=>by
 rw[Qa.get_push]at hb;split at hb
 ·cases hb;rfl
 ·exact h id b hb
theorem Qdf.up (h:Qdf H) (m:Nat):Qdf (H.up m):=λid b hb=>h id b (by rw[Qa.get_up]at hb;exact hb)
theorem V.sliceIn {id len cap:Nat} {a:Addr} (hi:ρ id=some ⟨a,0,0⟩) (hl:len<=cap) (hc:cap<UNK):V ρ (.slice (some ⟨id,0,none⟩) len cap) (.slice (some a) len cap):=
 .slice id 0 len cap cap ⟨a,0,0⟩ a hi (.inl (by rw[show(⟨a,0,0⟩:Ze).at_=a from rfl];unfold Addr.add;rw[if_pos rfl])) hl hc (λh=>by omega) (λ_=>rfl)
theorem calls_of_callQ {f:FuncId} {args args':List Value} {X:Value->Qa->Prop} (h:Qf P f args H λu H'=>u=.bool true∧X u H') (hw:H.Wf) (he:entered P f=true) (hs:Sim P ρ H w) (ha:VL ρ args args') (hro:Qdf H):
  Calls P f args'.toArray w λe w'=>e=.returned (.bool true)∧Below w.heap.size w w':=by
 obtain⟨v,H',hc,_,_,rfl,_⟩:=h hw;exact QoI (hc.does he) hs ha rfl hro
theorem QwQ {base:Nat} {a:Addr} {n:Nat} {cs:List Value} (h:w.cells? base a n=some cs):cs.length=n∧∀i,i<n->w.cell? (a.add i)=cs[i]? := by
 unfold World.cells? at h;split at h
 ·have hl:=Qfp.mapM_length h;refine⟨by simpa using hl,λi hi=>?_⟩;have key:∀ (l:List Nat) (cs:List Value),l.mapM (λi=>w.cell? (a.add i))=some cs->∀ (j:Nat) x,l[j]? = some x->w.cell? (a.add x)=cs[j]? := by
   intro l
   induction l with
   | nil=>intro cs h j x hx;simp at hx
   | cons y l ih=>
    intro cs h j x hx;simp only[List.mapM_cons,Option.bind_eq_bind,Option.bind_eq_some_iff,Option.pure_def,Option.some.injEq]at h;obtain⟨v,hv,vs,hvs,rfl⟩:=h;cases j with
    | zero=>simp at hx;subst hx;simpa using hv
    | succ j=>simpa using ih vs hvs j x (by simpa using hx)
  exact key _ _ h i i (by simp[hi])
 ·cases h
end
variable {P:Program}
variable {P:Program} {A:Env} {H:Qa} {k:Value->Qa->Prop}
theorem Quw {o:Op} {v:Value} {H':Qa} (e:rop P (.gen o) A H=some (v,H')):pr P (.gen o) false A H k=k v H':=by
 refine(Q9 _).trans ?_;rw[e,Qw]
/-! ### Texts -/
section
variable {ty:TypeId} {x lo hi:Operand} {s:ByteArray} {l h:Nat} {ik ik':IntKind}
end
/-! ### Arrays in memory -/
/-! ### Nil, and places held against each other -/
def QqS (P:Program) (t:TypeId):Bool:=match P.underlying t with | some (.slice _)=>true | _=>false
theorem QgH {t t':TypeId} {x:Operand} {a:Option Addr} {n c:Nat} (ht:QqS P t=true) (hx:ev A x=.slice a n c):
  pr P (.gen (.binOp .eql t x (.const (.slice none 0 0)) t')) false A H k=k (.bool a.isNone) H:=by
 have hc:ev A (.const (.slice none 0 0))=.slice none 0 0:=rfl;unfold QqS at ht;split at ht
 ·rename_i h1;exact Quw (by cases a<;>simp[rop,aop,QbC,Qqd,Qlh,XV,hx,hc,h1,aeq,Qfs,K6,YW,QhM,Qp8])
 ·cases ht
/-! ### Numbers -/
/-! ### Pointers without a type -/
/-! ### Entries of the model -/
/-! ### Cells -/
section
variable {P:Program}
theorem Sim.tell {ρ:Ren} {H:Qa} {w:World} (hs:Sim P ρ H w) {b:Nat} {c:List Value} {e:TypeId} {i:Ze} (hg:H.get b=some (.cells c e false)) (hi:ρ b=some i) {l:List Int} {cur:Array Value} {fz:Nat×Nat}
  (hh:w.heap[i.at_.block]? = some (.cells cur e fz)) (hat:i.at_.spot=none∧i.at_.off=0) (hn:i.at_.off+i.n=cur.size) (hfz:∀o,i.at_.off<=o->o<cur.size->¬ (fz.1<=o∧o<fz.2)) (hs':i.s=P.cellsOf e) (hl:cur.toList=l.map (Value.int .u8 ·)):
  Sim P ρ (H.set b (.cells (l.map (Value.int .u8 ·)) e false)) w:=by
 have hlen:l.length=cur.size:=by have:=congrArg List.length hl;simpa using this.symm
 have key:∀id b1,(H.set b (.cells (l.map (Value.int .u8 ·)) e false)).get id=some b1->∃b2,H.get id=some b2∧b2.ro=b1.ro:=λid b1 h=>by
  rw[Qa.get_set]at h;split at h
  ·rename_i e1;subst e1;cases h;exact⟨_,hg,rfl⟩
  ·exact⟨b1,h,rfl⟩
 refine⟨hs.dom,λid bl j h h'=>?_,λid1 id2 b1 b2 i1 i2 h1 h2 h3 h4 h5 h6=>?_,hs.glob⟩
 ·rw[Qa.get_set]at h;split at h
  ·rename_i e1;subst e1;rw[hi]at h';cases h';cases h;refine⟨cur,fz,hh,hat,hn,by rw[List.length_map];omega,λj v hj=>?_,hfz,λo v ho hv=>?_,hs'⟩
   ·rw[List.getElem?_map]at hj;obtain⟨y,hy,rfl⟩:=Option.map_eq_some_iff.1 hj;refine⟨_,?_,.same _ rfl⟩;rw[hat.2,Nat.zero_add,<- Array.getElem?_toList,hl,List.getElem?_map,hy];rfl
   ·rw[List.length_map,hat.2,Nat.zero_add]at ho;have:=(Array.getElem?_eq_some_iff.1 hv).1;omega
  ·exact hs.live id bl j h h'
 ·obtain⟨c1,g1,r1⟩:=key _ _ h1;obtain⟨c2,g2,_⟩:=key _ _ h2;exact hs.sep id1 id2 c1 c2 i1 i2 g1 g2 h3 h4 (by rw[r1,h5]) h6
theorem QyY {f:FuncId} {H:Qa} {b n:Nat} {c:List Value} {e:TypeId} {o:Out} (hu:P.underlying e=some (.int .u8)) (hg:H.get b=some (.cells c e false)) (hc:∀v∈c,∃z:Int,v=.int .u8 z∧0<=z∧z<256)
  (h:∀l:List Int,(∀z∈l,0<=z∧z<256)->n<=l.length->l.length<UNK->∃H3,Kj P f [.slice (some ⟨b,0,none⟩) n l.length] (H.set b (.cells (l.map (Value.int .u8 ·)) e false)) o H3∧H3.next=H.next∧∀id,id≠b->H3.get id=H.get id):
  Kj P f [.slice (some ⟨b,0,none⟩) n (UNK+1)] H o (H.kill b):=by
 intro ρ w args' hs ha;obtain⟨x,l0,rfl,hx,hl⟩:=ha.uncons;obtain rfl:=hl.unnil;cases hx with
 | same _ hp=>cases hp
 | slice _ _ _ _ cap' i a' hi h1 h2 h0 h3 h4=>
  obtain⟨cur,fz,hh,hat,hn,hcl,hck,hfz,hsp,hs'⟩:=hs.live b _ i hg hi;obtain⟨hs1,hs2⟩:=h3 (by omega);rw[show UNK+1 - UNK=1 by omega]at hs1;rw[hs1]at hs2;have hcur:cur.size=cap':=by omega
  have hby:∀v∈cur.toList,∃z:Int,v=.int .u8 z∧0<=z∧z<256:=λv hv=>by
   obtain⟨j,hj⟩:=List.mem_iff_getElem?.1 hv;rw[Array.getElem?_toList]at hj
   by_cases hlt:j<c.length
   ·obtain⟨v',e1,e2⟩:=hck j _ (List.getElem?_eq_getElem hlt);rw[hat.2,Nat.zero_add,hj]at e1;cases e1;obtain⟨z,ez,hz⟩:=hc _ (List.getElem_mem hlt);rw[ez]at e2;exact⟨z,e2.plain_eq rfl,hz⟩
   ·exact hsp j v (by omega) hj hu
  obtain⟨l,hl,hlb⟩:∃l:List Int,cur.toList=l.map (Value.int .u8 ·)∧∀z∈l,0<=z∧z<256:=by
   have key:∀L:List Value,(∀v∈L,∃z:Int,v=.int .u8 z∧0<=z∧z<256)->∃l:List Int,L=l.map (Value.int .u8 ·)∧∀z∈l,0<=z∧z<256:=by
    intro L
    induction L with
    | nil=>exact λ_=>⟨[],rfl,λz h=>by cases h⟩
    | cons v L ih=>
     intro hL;obtain⟨z,rfl,hz⟩:=hL v (List.mem_cons_self ..);obtain⟨l,rfl,hl⟩:=ih λv hv=>hL v (List.mem_cons_of_mem _ hv);refine⟨z::l,rfl,λy hy=>?_⟩;rcases List.mem_cons.1 hy with rfl | hy
     ·exact hz
     ·exact hl y hy
   exact key _ hby
  have hll:l.length=cap':=by have:=congrArg List.length hl;simp at this;omega
  obtain⟨H3,hd,hn3,hg3⟩:=h l hlb (by omega) (by omega);have hs2':=hs.tell hg hi hh hat hn hfz hs' hl;have hv:VL ρ [.slice (some ⟨b,0,none⟩) n l.length] [.slice (some a') n cap']:=.cons (.slice b 0 n l.length cap' i a' hi h1 h2 h0 (λh=>by omega) (λ_=>hll.symm)) (.nil _);refine(hd ρ w _ hs2' hv).mono λee w' ⟨ρ',r1,st,sim⟩=>?_;have hless:YU (H.kill b) H3:=⟨by rw[hn3];exact Nat.le_refl _,λid x hx=>by
   by_cases e1:id=b
   ·subst e1;rw[Qa.get_kill,if_pos rfl]at hx;cases hx
   ·rw[Qa.get_kill,if_neg e1]at hx;rw[hg3 id e1];exact hx⟩
  have st2:=st.less hless;have gs:∀id,id≠b->(H.set b (.cells (l.map (Value.int .u8 ·)) e false)).get id=H.get id:=λid hne=>by rw[Qa.get_set,if_neg hne]
  have gb:(H.set b (.cells (l.map (Value.int .u8 ·)) e false)).get b=some (.cells (l.map (Value.int .u8 ·)) e false):=by rw[Qa.get_set,if_pos rfl]
  refine⟨ρ',r1,⟨st2.mono,st2.next,λid j h1 h2=>?_,λid j b1 b2 h1 h2 h3 h4=>?_,λid j h1 h2=>?_,st2.os,st2.tape,st2.output,st2.size,λbb hbb hf=>?_⟩,sim.less hless⟩
  ·refine st2.dead id j h1 ?_
   by_cases e1:id=b
   ·subst e1;rw[hg]at h2;cases h2
   ·rw[gs id e1];exact h2
  ·by_cases e1:id=b
   ·subst e1;rw[Qa.get_kill,if_pos rfl]at h4;cases h4
   ·exact st2.ro id j b1 b2 h1 (by rw[gs id e1];exact h2) h3 h4
  ·obtain⟨k1,k2⟩:=st2.fresh id j h1 h2;refine⟨k1,?_⟩;rcases k2 with k2 | ⟨id0,i0,b0,q1,q2,q3,q4⟩
   ·exact .inl k2
   ·refine .inr ?_
    by_cases e1:id0=b
    ·subst e1;exact⟨id0,i0,_,q1,q2,hg,rfl⟩
    ·exact⟨id0,i0,b0,q1,q2,by rw[<- gs id0 e1];exact q3,q4⟩
  ·refine st2.frame bb hbb λid j bl q1 q2 q3=>?_
   by_cases e1:id=b
   ·subst e1;exact hf id j _ q1 hg rfl
   ·exact hf id j bl q1 (by rw[<- gs id e1];exact q2) q3
theorem Qxc {f:FuncId} {H:Qa} {b n:Nat} {c:List Value} {e:TypeId} {v:Value} (he:entered P f=true) (hu:P.underlying e=some (.int .u8)) (hg:H.get b=some (.cells c e false)) (hc:∀v∈c,∃z:Int,v=.int .u8 z∧0<=z∧z<256)
  (h:∀l:List Int,(∀z∈l,0<=z∧z<256)->n<=l.length->l.length<UNK->Qf P f [.slice (some ⟨b,0,none⟩) n l.length] (H.set b (.cells (l.map (Value.int .u8 ·)) e false)) λu H3=>u=v∧H3.next=H.next∧∀id,id≠b->H3.get id=H.get id):
  Qf P f [.slice (some ⟨b,0,none⟩) n (UNK+1)] H λu H'=>u=v∧H'=H.kill b:=by
 intro hw;refine⟨v,H.kill b,.inl ⟨he,QyY hu hg hc λl h1 h2 h3=>?_⟩,Nat.le_refl _,hw.kill b,rfl,rfl⟩;obtain⟨u,H3,k1,k2,k3,rfl,k4,k5⟩:=h l h1 h2 h3 (hw.set hg _);exact⟨H3,k1.does he,k4,k5⟩
end
end Go.Ab
