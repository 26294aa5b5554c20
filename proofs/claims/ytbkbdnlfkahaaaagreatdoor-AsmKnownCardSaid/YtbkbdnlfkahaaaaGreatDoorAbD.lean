/- Code made of resolved operations, and what it does, as a proposition. -/
import Derived.Test.YtbkbdnlfkahaaaaGreatDoorAbC
import Derived.Test.YtbkbdnlfkahaaaaGreatDoorAbB
set_option linter.unusedVariables false
set_option linter.unusedSimpArgs false
noncomputable section
namespace Go.Ab
structure PO where
 d:Option Nat
 r:R
 g:Option (Nat×Bool)
 s:Bool
inductive PC where
 | skip
 | ops (l:List PO)
 | seq (a b:PC)
 | cond (c:Operand) (a b:PC)
 | block (id:Nat) (b:PC)
 | loop (b:PC)
 | exit (id:Nat)
 | ret
 | label (l:Nat)
 | goto (l:Nat)
 | scope (b:PC) (l:Nat) (r:PC)
 | rangeF (g:Operand) (ps:List Nat) (a b:PC)
 | bad
/-! ### Resolving code -/
def G5 (o:Oper):Bool:=match o.op with | .load .. => true | _=>false
def QcT (o:Oper):Bool:=match o.op with | .alloc .. | .box .. | .makeSlice .. | .buildSlice .. | .convert .. | .makeMap .. | .range .. => true | _=>false
def Zu (o:Oper):Bool:=match o.op with | .call ⟨.value _,_,_⟩=>true | _=>false
def QcU (o:Oper):Bool:=match o.op with | .call ⟨.builtin .append,_,_⟩=>true | _=>false
def QeK (o:Oper):Bool:=Zu o||QcU o
def JK (ops:Array Oper) (i:Nat):Bool:=match ops[i]? with | some o=>G5 o | none=>false
def YD (ops:Array Oper) (i:Nat):Bool:=match ops[i]? with | some o=>QcT o | none=>false
def Xg (ops:Array Oper) (i:Nat):Bool:=match ops[i]? with | some o=>QeK o | none=>false
def QC (ops:Array Oper) (ms:List Nat) (k:Nat):Bool:=
 (QA ops k&&(List.range ops.size).any λi=>(JK ops i&&!(Qd ms i k)&&!(Qd ms k i))||(YD ops i&&Nat.blt i k&&!(Qd ms i k))) ||
 (JK ops k&&(List.range ops.size).any λi=>QA ops i&&!(Qd ms i k)&&!(Qd ms k i))
def QcV (o:Oper):Bool:=match o.op with | .store .. => true | _=>false
def QcW (ops:Array Oper) (i:Nat):Bool:=match ops[i]? with | some o=>QcV o | none=>false
def Zc (ms:List Nat) (i k:Nat):Bool:=!(Qd ms i k)&&!(Qd ms k i)
def Kd (ops:Array Oper) (i:Nat):Option Nat:=match ops[i]? with | some o=>(match o.op with | .load _ (.tmp t)=>some t | _=>none) | none=>none
def Gn (ops:Array Oper) (ms:List Nat) (k:Nat):List Operand:=(List.range k).filterMap λi=>bif JK ops i&&Zc ms i k then(Kd ops i).map .tmp else none
def Qkm:List String:=["(*linotype/print.text).next"]
def isG (P:Program) (o:Oper):Bool:=match o.op with
 | .call ⟨.value (.func f),_,_⟩=>(match P.funcs[f]? with | some fn=>Qkm.any λn=>fn.name==n | none=>false)
 | _=>false
def gAt (P:Program) (ops:Array Oper) (i:Nat):Bool:=match ops[i]? with | some o=>isG P o | none=>false
def Qkn (P:Program) (ops:Array Oper) (ms:List Nat) (i k:Nat):Bool:=
 Nat.blt i k&&(Kd ops i).isSome&&(List.range k).all λj=>Nat.blt j i||((match ops[j]? with | some o=>!(o.dst==Kd ops i) | none=>true)&&(!(QA ops j)||(Xg ops j&&QC ops ms j&&!(gAt P ops j))||(QcW ops j&&QC ops ms j&&Zc ms i j)))
def ZF (o:Oper):Bool:=match o.op with | .call ⟨.value (.func _),_,_⟩=>true | .call ⟨.builtin .append,_,_⟩=>true | _=>false
def QjD (ops:Array Oper) (i:Nat):Bool:=match ops[i]? with | some o=>ZF o | none=>false
def Gq (o:Oper):Option Nat:=match o.op with
 | .fieldAddr _ (.tmp b) _=>some b
 | .indexAddr _ (.tmp b) _=>some b
 | .move (.tmp b)=>some b
 | .assign (.tmp b)=>some b
 | .nilCheck (.tmp b)=>some b
 | _=>none
def Qbk (o:Oper) (cur:Nat):Option Nat:=bif o.dst==some cur then Gq o else some cur
def WQ (ops:Array Oper) (k:Nat):Nat->Nat->Option Nat
 | 0,cur=>some cur
 | d+1,cur=>match ops[k+d]? with
  | some o=>(match Qbk o cur with | some c=>WQ ops k d c | none=>none)
  | none=>none
def JL (ops:Array Oper) (k i:Nat):Option Nat:=match Kd ops i with
 | none=>none
 | some t=>WQ ops k (i - k) t
def Xh (ops:Array Oper) (ms:List Nat) (k:Nat):List Operand:=(List.range ops.size).filterMap λi=>bif Nat.blt k i&&(JK ops i&&Zc ms i k) then(JL ops k i).map .tmp else none
def quiet (P:Program) (ops:Array Oper) (ms:List Nat) (i k:Nat):Bool:=
 (Nat.blt i k&&(List.range k).all λj=>Nat.ble j i||(!(QA ops j)||(QC ops ms j&&Xg ops j&&!(gAt P ops j)))) ||
 (Nat.blt k i&&QjD ops k&&(JL ops k i).isSome&&(List.range i).all λj=>Nat.blt j k||(!(QA ops j)||(QC ops ms j&&Xg ops j&&(!(gAt P ops j)||Zc ms i j))))
def QdY (P:Program) (ops:Array Oper) (ms:List Nat):Bool:=
 (List.range ops.size).all λk=>!(QA ops k)||!(QC ops ms k)||(Xg ops k&&((List.range ops.size).all λi=>!(JK ops i)||Qd ms i k||Qd ms k i||quiet P ops ms i k)&&(!(gAt P ops k)||(List.range ops.size).all λi=>(!(JK ops i)||Qd ms i k||Qd ms k i||Nat.blt k i)&&(!(YD ops i)||!(Nat.blt i k)||Qd ms i k))) ||
  (QcW ops k&&(List.range ops.size).all λi=>(!(JK ops i)||Qd ms i k||Qd ms k i||Qkn P ops ms i k)&&(!(YD ops i)||!(Nat.blt i k)||Qd ms i k))
def XG (P:Program) (ops:Array Oper) (i:Nat) (o:Oper):R:=
 match o.op with
 | .store t x y=>match P.info? t with | some inf=>.stf inf.size x y (Gn ops (Qf ops.toList []) i) | none=>Ql P o.op
 | .call ⟨.value (.func f),args,_⟩=>bif isG P o then .callG f args.toList (Xh ops (Qf ops.toList []) i) else .callF f args.toList (Xh ops (Qf ops.toList []) i)
 | .call ⟨.builtin .append,_,_⟩=>(match Ql P o.op with | .app e size bytes x y=>.appF e size bytes x y (Xh ops (Qf ops.toList []) i) | _=>.callG 0 [] [.const (.bool false)])
 | _=>Ql P o.op
def Jn (P:Program) (ops:Array Oper) (f:Bool) (i:Nat) (o:Oper):R:=bif f then XG P ops i o else Ql P o.op
def QcX (n:Nat) (ops:Array Oper) (o:Oper):Option (Option (Nat×Bool)):=
 match o.guard with
 | none=>some none
 | some (j,want)=>match Xw ops j with
  | some t=>if t<n then some (some (t,want)) else none
  | none=>none
def W6 (P:Program) (n:Nat) (ops:Array Oper) (fl:Nat->Bool):List Oper->Nat->Option (List PO)
 | [],_=>some []
 | o::l,i=>if Xn P n o then
   match QcX n ops o,W6 P n ops fl l (i+1) with
   | some g,some pl=>some (⟨o.dst,Jn P ops (fl i) i o,g,fl i⟩::pl)
   | _,_=>none
  else none
def Zd (P:Program) (op:Op):Bool:=match op with
 | .convert src _ _=>(match P.underlying src with | some (.slice _) | some (.pointer _) | some .unsafePointer=>true | _=>false)
 | .range t _=>(match P.underlying t with | some (.map _ _)=>true | _=>false)
 | _=>false
def J0:Nat:=1000000
def sq:PC->PC->PC
 | .skip,y=>y
 | x,.skip=>x
 | x,y=>.seq x y
def WL:PC->Nat->Option PC
 | .seq a b,l=>match WL a l with
  | some r=>some (sq r b)
  | none=>WL b l
 | .label l',l=>bif Nat.beq l' l then some .skip else none
 | _,_=>none
def WR:PC->List Nat
 | .seq a b=>WR a++WR b
 | .label l=>[l]
 | _=>[]
def Qaq (b:PC):PC:=
 match WR b with
 | []=>b
 | [l]=>match WL b l with
  | some r=>.scope b l r
  | none=>.bad
 | _=>.bad
def comp (P:Program) (n:Nat):Code->Option PC
 | .skip=>some .skip
 | .label l=>some (.label l)
 | .ret=>some .ret
 | .exit id=>some (bif Nat.blt id J0 then .exit id else .bad)
 | .goto l=>some (.goto l)
 | .region _ ops false=>some (match W6 P n ops (λ_=>false) ops.toList 0 with | some l=>.ops l | none=>.bad)
 | .region _ ops true=>some (if P.follows .mixedOrders&&Xf ops (QA ops)&&QdY P ops (Qf ops.toList [])&&ops.all (λo=>!(Zd P o.op)) then(match W6 P n ops (QC ops (Qf ops.toList [])) ops.toList 0 with | some l=>.ops l | none=>.bad) else .bad)
 | .seq a b=>match comp P n a,comp P n b with
  | some x,some y=>some (sq x y)
  | _,_=>none
 | .cond c a b=>if XO P n c then(match comp P n a,comp P n b with | some x,some y=>some (.cond c x y) | _,_=>none) else none
 | .block id b=>(comp P n b).map λx=>bif Nat.blt id J0 then .block id x else .bad
 | .loop b=>(comp P n b).map .loop
 | .scope b=>(comp P n b).map Qaq
 | .rangeFunc g ps a b=>if XO P n g then(match comp P n a,comp P n b with | some x,some y=>some (.rangeF g ps.toList x y) | _,_=>none) else none
 | _=>some .bad
/-! ### What it does -/
structure Kp where
 ret:Env->Qa->Prop
 ext:Nat->Env->Qa->Prop
def onS (o:Option (Value×Qa)) (k:Value->Qa->Prop):Prop:=∃v H',o=some (v,H')∧k v H'
def Qa.Wf (H:Qa):Prop:=∀id,H.next<=id->H.get id=none
theorem Qa.Wf.lt {H:Qa} (h:H.Wf) {id:Nat} {b:Blk} (hg:H.get id=some b):id<H.next:=by
 rcases Nq id H.next with h1 | h1
 ·exact h1
 ·rw[h id h1]at hg;cases hg
theorem Qa.Wf.push {H:Qa} (h:H.Wf) (b:Blk):(H.push b).Wf:=λid hid=>by
 simp only[Wi]at hid;rw[Qg,Le (by omega)];exact h id (by omega)
theorem Qa.Wf.set {H:Qa} (h:H.Wf) {i:Nat} {b0:Blk} (hg:H.get i=some b0) (b:Blk):(H.set i b).Wf:=λid hid=>by
 have:=h.lt hg;simp only[QaI]at hid;rw[Wa,Le (by omega)];exact h id hid
theorem Qa.Wf.kill {H:Qa} (h:H.Wf) (i:Nat):(H.kill i).Wf:=λid hid=>by
 simp only[QfP]at hid;rw[WW];split
 ·rfl
 ·exact h id hid
def Qm (P:Program) (f:FuncId) (args:List Value) (H:Qa) (k:Value->Qa->Prop):Prop:=H.Wf->∃v H',Wk P f args H v H'∧H.next<=H'.next∧H'.Wf∧k v H'
def YQ (P:Program) (l:Nat) (args:List Value) (H:Qa) (k:Value->Qa->Prop):Prop:=H.Wf->∃v H',Vq P l args H v H'∧H.next<=H'.next∧H'.Wf∧k v H'
def ZX:Value->Value->Prop
 | .pointer (some a),.pointer (some b)=>b.block≠a.block
 | _,_=>True
def Ko (n:Nat):Value->Prop
 | .pointer (some a)=>a.block<n
 | .slice (some a) _ _=>a.block<n
 | _=>False
def Qk3 (H H':Qa):Value->Prop
 | .pointer (some a)=>H'.get a.block=H.get a.block
 | .slice (some a) _ _=>H'.get a.block=H.get a.block
 | _=>True
def EqB (H H':Qa):Prop:=∀id,id<H.next->H'.get id=H.get id
def pr (P:Program) (r:R) (s:Bool) (A:Env) (H:Qa) (k:Value->Qa->Prop):Prop:=
 match r with
 | .call f args=>Qm P f (args.map (ev A)) H λv H'=>(s=true->∀id,H'.get id=H.get id)∧k v H'
 | .callv c args=>match ev A c with
  | .func (.func f) xs ys=>Qm P f (xs.toList++args.map (ev A)++ys.toList) H λv H'=>(s=true->∀id,H'.get id=H.get id)∧k v H'
  | .func (.yield l) ⟨[]⟩ ⟨[]⟩=>YQ P l (args.map (ev A)) H λv H'=>(s=true->∀id,H'.get id=H.get id)∧k v H'
  | _=>False
 | .callF f args os=>(∀z∈os,Ko H.next (ev A z))∧Qm P f (args.map (ev A)) H λv H'=>EqB H H'∧k v H'
 | .callG f args os=>(∀z∈os,Ko H.next (ev A z))∧Qm P f (args.map (ev A)) H λv H'=>(∀z∈os,Qk3 H H' (ev A z))∧k v H'
 | .appF e size bytes x y os=>(∀z∈os,Ko H.next (ev A z))∧onS (rop P (.app e size bytes x y) A H) λv H'=>EqB H H'∧k v H'
 | .stf size x y os=>onS (rop P (.stf size x y os) A H) λv H'=>(∀z∈os,ZX (ev A x) (ev A z))∧k v H'
 | r=>onS (rop P r A H) λv H'=>(s=true->Qx H.next 6 v=true)∧k v H'
def pg (g:Option (Nat×Bool)) (A:Env) (yes no:Prop):Prop:=
 match g with
 | none=>yes
 | some (t,w)=>match A t with
  | .bool b=>if b=w then yes else no
  | .tuple _=>no
  | _=>False
def Xi (P:Program):List PO->(Env->Qa->Prop)->Env->Qa->Prop
 | [],k,A,H=>k A H
 | o::l,k,A,H=>pg o.g A (pr P o.r o.s A H λv H'=>Xi P l k (Q6 A o.d v) H') (Xi P l k (Q6 A o.d undef) H)
def jmK (l:Nat) (I:Nat->Env->Qa->Prop) (m:Nat) (e:Nat->Env->Qa->Prop) (j:Nat) (A:Env) (H:Qa):Prop:=if j=J0+l then ∃m',m'<m∧I m' A H else e j A H
def Qk4 (st:Option Code) (ks:Kp) (k:Env->Qa->Prop) (A:Env) (H:Qa):Prop:=match st with
 | none=>k A H
 | some .ret=>ks.ret A H
 | some (.exit j)=>Nat.blt j J0=true∧ks.ext j A H
 | _=>False
def Qlk (L:Option Code->Blk) (l:Nat) (nx:Nat) (Q:Value->Qa->Prop):Kp:=⟨λ_ H2=>nx<=H2.next∧Q (.bool false) (H2.set l (L (some .ret))),λj _ H2=>Nat.blt j J0=true∧nx<=H2.next∧Q (.bool false) (H2.set l (L (some (.exit j))))⟩
def Qll (L:Option Code->Blk) (l:Nat) (nx:Nat) (Q:Value->Qa->Prop):Env->Qa->Prop:=λ_ H2=>nx<=H2.next∧Q (.bool true) (H2.set l (L none))
def QiL:Kp:=⟨λ_ _=>False,λ_ _ _=>False⟩
def Qs (P:Program):PC->Kp->(Env->Qa->Prop)->Env->Qa->Prop
 | .skip,_,k,A,H=>k A H
 | .ops l,_,k,A,H=>Xi P l k A H
 | .seq a b,ks,k,A,H=>Qs P a ks (Qs P b ks k) A H
 | .cond c a b,ks,k,A,H=>match ev A c with
  | .bool t=>(t=true->Qs P a ks k A H)∧(t=false->Qs P b ks k A H)
  | _=>False
 | .block id b,ks,k,A,H=>Qs P b ⟨ks.ret,λj=>if j=id then k else ks.ext j⟩ k A H
 | .loop b,ks,k,A,H=>∃I:Nat->Env->Qa->Prop,(∃m,I m A H)∧∀m A' H',I m A' H'->Qs P b ks (λA'' H''=>∃m',m'<m∧I m' A'' H'') A' H'
 | .exit id,ks,_,A,H=>ks.ext id A H
 | .ret,ks,_,A,H=>ks.ret A H
 | .label _,_,k,A,H=>k A H
 | .goto l,ks,_,A,H=>ks.ext (J0+l) A H
 | .scope b l r,ks,k,A,H=>∃I:Nat->Env->Qa->Prop,(∃m,Qs P b ⟨ks.ret,jmK l I m ks.ext⟩ k A H)∧∀m A' H',I m A' H'->Qs P r ⟨ks.ret,jmK l I m ks.ext⟩ k A' H'
 | .rangeF g ps a b,ks,k,A,H=>match ev A g with
  | .func (.func f) xs ys=>∀L:Option Code->Blk,
    (∀ (l:Nat) (args:List Value) (H0:Qa) (Q:Value->Qa->Prop),H0.get l=some (L none)->args.length=ps.length->Qs P a QiL (λA1 H1=>Qs P b (Qlk L l H0.next Q) (Qll L l H0.next Q) A1 H1) (QdC A ps args) (H0.kill l)->YQ P l args H0 Q)->
    entered P f=true∧Qm P f (xs.toList++[.func (.yield H.next) #[] #[]]++ys.toList) (H.push (L none)) λ_ H2=>∃st,H2.get H.next=some (L st)∧Qk4 st ks k A (H2.kill H.next)
  | _=>False
 | .bad,_,_,_,_=>False
/-! ### Soundness -/
section
variable {P:Program} {n:Nat}
theorem QeL:WP P Ws:=⟨λf args H v H' h=>(by cases h),λf args H v H' h=>(by cases h),λf args H v H' h=>(by cases h)⟩
theorem QeM {H H':Qa} {r:Option Value} {c:Cls} {v:Value} (h:Q3 H r=some (c,v,H')):c=.pure∧H'=H:=by
 obtain⟨_,h1,h2⟩:=QM h;exact⟨h1,h2⟩
theorem QF {α:Type} {b:Bool} {x:Option α} {y:α} (h:(bif b then x else none)=some y):x=some y:=by cases b<;>simp_all
theorem Jo {e:TypeId} {inf:TypeInfo} {s x:Value} {H H':Qa} {v:Value} (h:Zp e inf s x H=some (v,H')):H.next<=H'.next∧(H.Wf->H'.Wf):=by
  unfold Zp at h
  repeat' (split at h)
  all_goals first
    | (cases h;done)
    | (simp only[Lt,LB]at h;obtain⟨_,rfl⟩:=h;refine⟨by simp,λhw=>?_⟩
       first
         | exact hw
         | exact hw.push _
         | exact(hw.kill _).push _
         | exact hw.set (by assumption) _)
theorem Zv {k:TypeId} {m ix v:Value} {H H':Qa} (h:Qa1 P k m ix v H=some H'):H.next<=H'.next∧(H.Wf->H'.Wf):=by
 unfold Qa1 at h;split at h
 ·split at h
  ·rename_i hg;have h:=QF h;split at h
   ·cases h;exact⟨by simp,λhw=>hw.set hg _⟩
   ·cases h;exact⟨by simp,λhw=>hw.set hg _⟩
   ·cases h
  ·cases h
 ·cases h
structure Syn (P:Program) (o:Oper) (H H':Qa) (c:Cls):Prop where
 gen:QK c=true->QjW o=true∨Zd P o.op=true
 load:c=.load->G5 o=true
 alloc:∀b,c=.alloc b->QcT o=true
 next:H.next<=H'.next
 wf:H.Wf->H'.Wf
theorem QiM {o:Oper} {A:Env} {H H':Qa} {c:Cls} {v:Value} (h:aop P Ws o A H=some (c,v,H')):Syn P o H H' c:=by
  obtain⟨dst,op,ty,pos,af,g⟩:=o;have hs:∀ {u:Value},some (Cls.pure,u,H)=some (c,v,H')->Syn P ⟨dst,op,ty,pos,af,g⟩ H H' c:=λh=>by
    simp only[Lt,LB]at h;obtain⟨rfl,_,rfl⟩:=h;exact⟨λh=>(by cases h),λh=>(by cases h),λb h=>(by cases h),Lb _,id⟩
  have hp:∀ {r:Option Value},Q3 H r=some (c,v,H')->Syn P ⟨dst,op,ty,pos,af,g⟩ H H' c:=λ{r} h=>by
    obtain⟨rfl,rfl⟩:=QeM h;exact⟨λh=>(by cases h),λh=>(by cases h),λb h=>(by cases h),Lb _,id⟩
  have ha:∀ {b:Blk} {u:Value},QcT ⟨dst,op,ty,pos,af,g⟩=true->some (Cls.alloc b,u,H.push b)=some (c,v,H')->Syn P ⟨dst,op,ty,pos,af,g⟩ H H' c:=λhl h=>by
    simp only[Lt,LB]at h;obtain⟨rfl,_,rfl⟩:=h;exact⟨λh=>(by cases h),λh=>(by cases h),λb _=>hl,by simp,λhw=>hw.push _⟩
  unfold aop at h;split at h
  case h_1 hop=>exact hs h
  case h_2 hop=>exact hs h
  case h_3 hop=>
    unfold VW at h;split at h
    · exact hs h
    · cases h
  case h_4 hop=>exact hs (QF h)
  case h_5 hop=>exact hp h
  case h_6 hop=>exact hp h
  case h_7 hop=>
    unfold Zr at h;simp only at hop;split at h
    · split at h
      · split at h
        · exact ha (by subst hop;rfl) (QF h)
        · cases h
      · cases h
    · rename_i hu hd ex
      split at h
      · split at h
        · simp only[Lt,LB]at h;obtain⟨rfl,_,rfl⟩:=h
          exact⟨λ_=>.inr (by subst hop;simp only[Zd,hu]),λh=>(by cases h),λb h=>(by cases h),Lb _,id⟩
        · cases h
      · cases h
    · rename_i hu hd ex
      split at h
      · split at h
        · simp only[Lt,LB]at h;obtain⟨rfl,_,rfl⟩:=h
          exact⟨λ_=>.inr (by subst hop;simp only[Zd,hu]),λh=>(by cases h),λb h=>(by cases h),Lb _,id⟩
        · cases h
      · cases h
    · rename_i hu hd ex
      split at h
      · split at h
        · simp only[Lt,LB]at h;obtain⟨rfl,_,rfl⟩:=h
          exact⟨λ_=>.inr (by subst hop;simp only[Zd,hu]),λh=>(by cases h),λb h=>(by cases h),Lb _,id⟩
        · cases h
      · cases h
    · exact hp h
  case h_8 hop=>
    unfold Wz at h;split at h
    · cases h
    · exact hs h
    · cases h
  case h_9 hop=>exact hs (QF h)
  case h_10 hop=>
    unfold KD at h
    repeat' (split at h)
    all_goals first | exact hp h | cases h
  case h_11 hop=>
    unfold WJ at h
    repeat' (split at h)
    all_goals first
      | (cases h;done)
      | (revert h;cases hz:Nat.beq _ 0<;>intro h<;>first | exact hs h | cases h)
  case h_12 hop=>
    unfold WK at h
    repeat' (split at h)
    all_goals first | exact hs h | cases h
  case h_13 hop=>
    unfold KE at h
    repeat' (split at h)
    all_goals first | exact hs h | exact hp h | cases h
  case h_14 hop=>
    unfold Zs at h;split at h
    · exact hp h
    · cases h
  case h_15 hop=>exact hp h
  case h_16 hop=>
    unfold KF at h
    repeat' (split at h)
    all_goals first | (cases h;done) | exact hp (QF h)
  case h_17 hop=>
    simp only at hop;unfold Xr at h;split at h
    · split at h
      · split at h
        · have h:=QF h
          split at h
          · exact ha (by subst hop;rfl) h
          · cases h
        · cases h
      · cases h
    · cases h
  case h_18 hop=>
    simp only at hop;unfold KG at h;split at h
    · split at h
      · exact ha (by subst hop;rfl) (QF h)
      · cases h
    · cases h
  case h_19 hop=>simp only at hop;unfold Qga at h;exact ha (by subst hop;rfl) h
  case h_20 hop=>
    simp only at hop;unfold XS at h
    repeat' (split at h)
    all_goals first | (cases h;done) | exact ha (by subst hop;rfl) h
  case h_21 hop=>
    unfold KH at h
    repeat' (split at h)
    all_goals first | exact hs h | exact hp h | cases h
  case h_22 hop=>
    simp only at hop;unfold Ga at h
    repeat' (split at h)
    all_goals first
      | (cases h;done)
      | (simp only[Lt,LB]at h
         obtain⟨rfl,_,rfl⟩:=h;exact⟨λh=>(by cases h),λ_=>(by subst hop;rfl),λb h=>(by cases h),Lb _,id⟩)
  case h_23 hop=>
    simp only at hop;unfold Jd at h;split at h
    · split at h
      · rename_i H1 hst
        simp only[Lt,LB]at h;obtain⟨rfl,_,rfl⟩:=h;have hst2:H.next<=H1.next∧(H.Wf->H1.Wf):=by
          unfold ZM at hst;split at hst
          · rename_i hg
            split at hst
            · cases hst;exact⟨by simp,λhw=>hw.set hg _⟩
            · cases hst
          · cases hst
        exact⟨λ_=>.inl (by subst hop;rfl),λh=>(by cases h),λb h=>(by cases h),hst2.1,hst2.2⟩
      · cases h
    · cases h
  case h_24 cl hop=>
    simp only at hop;unfold ZU at h;split at h
    · split at h
      · split at h
        · exact hs h
        · cases h
      · split at h
        · exact hs (QF h)
        · cases h
      · split at h
        · split at h
          · exact hs h
          · cases h
        · cases h
      · split at h
        · split at h
          · exact hs h
          · cases h
        · cases h
      · split at h
        · split at h
          · split at h
            · have h:=QF h
              simp only[Lx,LB]at h;obtain⟨⟨u,H1⟩,h1,rfl,rfl,rfl⟩:=h;exact⟨λ_=>.inl (by subst hop;rfl),λh=>(by cases h),λb h=>(by cases h),(Jo h1).1,(Jo h1).2⟩
            · cases h
          · cases h
        · cases h
      · split at h
        · split at h
          · simp only[Lx,LB]at h
            obtain⟨⟨u,H1⟩,h1,rfl,rfl,rfl⟩:=h;have hn:H.next<=H1.next∧(H.Wf->H1.Wf):=by
              unfold QdG at h1
              repeat' (split at h1)
              all_goals first
                | (cases h1;done)
                | (simp only[Lt,LB]at h1;obtain⟨_,rfl⟩:=h1;exact⟨by simp,λhw=>by first | exact hw | exact hw.set (by assumption) _⟩)
            exact⟨λ_=>.inl (by subst hop;rfl),λh=>(by cases h),λb h=>(by cases h),hn.1,hn.2⟩
          · cases h
        · cases h
      · split at h
        · exact hs h
        · split at h
          · exact hs h
          · cases h
        · cases h
      · split at h
        · simp only[Lt,LB]at h;obtain⟨rfl,_,rfl⟩:=h
          exact⟨λ_=>.inl (by subst hop;rfl),λh=>(by cases h),λb h=>(by cases h),Lb _,id⟩
        · split at h
          · rename_i hg
            split at h
            · split at h
              · simp only[Lt,LB]at h;obtain⟨rfl,_,rfl⟩:=h
                exact⟨λ_=>.inl (by subst hop;rfl),λh=>(by cases h),λb h=>(by cases h),by simp,λhw=>hw.set hg _⟩
              · cases h
            · cases h
          · cases h
        · cases h
      · cases h
    · split at h
      · split at h
        · simp[Ws]at h
        · cases h
      · cases h
    · simp[Ws]at h
    · split at h
      · simp[Ws]at h
      · have h:=QF h;simp[Ws]at h
      · cases h
  case h_25 hop=>simp only at hop;exact ha (by subst hop;rfl) h
  case h_26 hop=>
    simp only at hop;unfold Je at h;split at h
    · simp only[Lx,LB]at h
      obtain⟨u,h1,rfl,rfl,rfl⟩:=h;exact⟨λ_=>.inl (by subst hop;rfl),λh=>(by cases h),λb h=>(by cases h),Lb _,id⟩
    · cases h
  case h_27 hop=>
    simp only at hop;unfold Gd at h;split at h
    · simp only[Lx,LB]at h
      obtain⟨H1,h1,rfl,rfl,rfl⟩:=h;exact⟨λ_=>.inl (by subst hop;rfl),λh=>(by cases h),λb h=>(by cases h),(Zv h1).1,(Zv h1).2⟩
    · cases h
  case h_28 hop=>
    simp only at hop;unfold Gd at h;split at h
    · simp only[Lx,LB]at h
      obtain⟨H1,h1,rfl,rfl,rfl⟩:=h;exact⟨λ_=>.inl (by subst hop;rfl),λh=>(by cases h),λb h=>(by cases h),(Zv h1).1,(Zv h1).2⟩
    · cases h
  case h_29 hop=>
    simp only at hop;unfold VX at h;split at h
    · exact ha (by subst hop;rfl) h
    · rename_i ht ex
      simp only[Lt,LB]at h;obtain⟨rfl,_,rfl⟩:=h;exact⟨λ_=>.inr (by subst hop;simp only[Zd,ht]),λh=>(by cases h),λb h=>(by cases h),by simp,λhw=>hw.push _⟩
    · rename_i ht ex
      split at h
      · simp only[Lt,LB]at h
        obtain⟨rfl,_,rfl⟩:=h;exact⟨λ_=>.inr (by subst hop;simp only[Zd,ht]),λh=>(by cases h),λb h=>(by cases h),by simp,λhw=>hw.push _⟩
      · cases h
    · cases h
  case h_30 hop=>
    simp only at hop;simp only[Lx,LB]at h;obtain⟨⟨u,H1⟩,h1,rfl,rfl,rfl⟩:=h;have hn:H.next<=H1.next∧(H.Wf->H1.Wf):=by
      unfold QdF at h1;split at h1
      · have h1:=QF h1
        split at h1
        · rename_i hg
          split at h1
          · simp only[Lt,LB]at h1;obtain⟨_,rfl⟩:=h1;exact⟨by simp,λhw=>hw.set hg _⟩
          · simp only[Lt,LB]at h1;obtain⟨_,rfl⟩:=h1;exact⟨by simp,λhw=>hw⟩
        · cases h1
      · cases h1
    exact⟨λ_=>.inl (by subst hop;rfl),λh=>(by cases h),λb h=>(by cases h),hn.1,hn.2⟩
  case h_31 hop=>
    simp only at hop;simp only[Lx,LB]at h;obtain⟨⟨u,H1⟩,h1,rfl,rfl,rfl⟩:=h;have hn:H.next<=H1.next∧(H.Wf->H1.Wf):=by
      unfold VV at h1;split at h1
      · have h1:=QF h1
        split at h1
        · simp only[Lt,LB]at h1;obtain⟨_,rfl⟩:=h1;exact⟨by simp,λhw=>hw⟩
        · rename_i hg
          split at h1
          · have h1:=QF h1
            split at h1
            · simp only[Lt,LB]at h1;obtain⟨_,rfl⟩:=h1;exact⟨by simp,λhw=>hw⟩
            · split at h1
              · have h1:=QF h1
                simp only[Lt,LB]at h1;obtain⟨_,rfl⟩:=h1;exact⟨by simp,λhw=>hw.set hg _⟩
              · cases h1
            · cases h1
          · cases h1
        · cases h1
      · cases h1
    exact⟨λ_=>.inl (by subst hop;rfl),λh=>(by cases h),λb h=>(by cases h),hn.1,hn.2⟩
  case h_32 hop=>
    simp only at hop;simp only[Lx,LB]at h;obtain⟨u,h1,rfl,rfl,rfl⟩:=h;exact⟨λ_=>.inl (by subst hop;rfl),λh=>(by cases h),λb h=>(by cases h),Lb _,λhw=>hw⟩
  case h_33=>cases h
end
section
variable {P:Program} {n:Nat}
theorem VD {ops:Array Oper} {o:Oper} {g:Option (Nat×Bool)} {A:Env} {yes no:Prop} (hc:QcX n ops o=some g) (h:pg g A yes no):
  (QN n ops A o=some true∧yes)∨(QN n ops A o=some false∧no):=by
 unfold QcX at hc;unfold QN;split at hc
 ·rename_i hg;cases hc;exact .inl ⟨by rw[hg],h⟩
 ·rename_i j want hg;rw[hg];split at hc
  ·rename_i t ht;split at hc
   ·rename_i hlt;cases hc;have h':(match A t with | .bool b=>if b=want then yes else no | .tuple _=>no | _=>False):=h;simp only[ht,hlt,N3];split at h'
    ·rename_i b hb;split at h'
     ·rename_i e;exact .inl ⟨by simp[hb,e],h'⟩
     ·rename_i e;exact .inr ⟨by simp[hb,e],h'⟩
    ·rename_i hb;exact .inr ⟨by simp[hb],h'⟩
    ·exact h'.elim
   ·cases hc
  ·cases hc
theorem Qar {op:Op} {f:FuncId} {args:List Operand} (h:Ql P op=.call f args):∃a ts,op=.call ⟨.value (.func f),a,ts⟩∧args=a.toList:=by
 unfold Ql at h
 repeat' (split at h)
 all_goals first
  | (cases h;done)
  | (cases h;exact⟨_,_,rfl,rfl⟩)
theorem G6 {op:Op} {c:Operand} {args:List Operand} (h:Ql P op=.callv c args):∃a ts,op=.call ⟨.value c,a,ts⟩∧args=a.toList:=by
 unfold Ql at h
 repeat' (split at h)
 all_goals first
  | (cases h;done)
  | (cases h;exact⟨_,_,rfl,rfl⟩)
theorem Qbl {op:Op} {size:Nat} {x y:Operand} {os:List Operand} (h:Ql P op=.stf size x y os):False:=by
 unfold Ql at h
 repeat' (split at h)
 all_goals cases h
theorem G7 {op:Op} {f:FuncId} {args os:List Operand} (h:Ql P op=.callF f args os):False:=by
 unfold Ql at h
 repeat' (split at h)
 all_goals cases h
theorem G8 {op:Op} {f:FuncId} {args os:List Operand} (h:Ql P op=.callG f args os):False:=by
 unfold Ql at h
 repeat' (split at h)
 all_goals cases h
theorem Qas {op:Op} {e size bytes:Nat} {x y:Operand} {os:List Operand} (h:Ql P op=.appF e size bytes x y os):False:=by
 unfold Ql at h
 repeat' (split at h)
 all_goals cases h
def InB (v:Value) (b:Nat):Prop:=(∃a:Addr,v=.pointer (some a)∧a.block=b)∨∃ (a:Addr) (n c:Nat),v=.slice (some a) n c∧a.block=b
theorem InB.uniq {v:Value} {b b':Nat} (h:InB v b) (h':InB v b'):b=b':=by
 rcases h with⟨a,rfl,rfl⟩ | ⟨a,n,c,rfl,rfl⟩<;>rcases h' with⟨a',e,rfl⟩ | ⟨a',n',c',e,rfl⟩<;>cases e<;>rfl
def FA (o:Oper) (A:Env) (v:Value):Prop:=∀b,Gq o=some b->∀n,InB v n->InB (A b) n
theorem FA.none {o:Oper} {A:Env} {v:Value} (h:Gq o=none):FA o A v:=λb h'=>by rw[h]at h';cases h'
theorem Qko {o:Oper} {A:Env} {H H':Qa} {c:Cls} {v:Value} (h:aop P Ws o A H=some (c,v,H')):FA o A v:=by
 obtain⟨dst,op,ty,pos,af,g⟩:=o;intro b hf n hv;unfold Gq at hf;split at hf
 ·rename_i t b' f hop;simp only at hop;subst hop;cases hf;have h:WJ P Ws A H t (.tmp b) f=some (c,v,H'):=h;unfold WJ at h;split at h
  ·rename_i fs a _ ha;split at h
   ·split at h
    ·rename_i inf _;cases hz:Nat.beq inf.size 0 with
     | true=>rw[hz]at h;cases h
     | false=>
      rw[hz]at h;simp only[Ls,Lt,LB]at h;have ha:A b=.pointer (some a):=ha;obtain⟨_,rfl,_⟩:=h;rcases hv with⟨a',e,rfl⟩ | ⟨a',n',c',e,rfl⟩
      ·cases e;exact .inl ⟨a,ha,rfl⟩
      ·cases e
    ·cases h
   ·cases h
  ·cases h
 ·rename_i t b' ix hop;simp only at hop;subst hop;cases hf;have h:WK P Ws A H t (.tmp b) ix=some (c,v,H'):=h;unfold WK at h;split at h
  ·split at h
   ·rename_i e a len cap _ ha;have ha:A b=.slice (some a) len cap:=ha;split at h
    ·split at h
     ·simp only[Lt,LB]at h;obtain⟨_,rfl,_⟩:=h;rcases hv with⟨a',e,rfl⟩ | ⟨a',n',c',e,rfl⟩
      ·cases e;exact .inr ⟨a,_,_,ha,rfl⟩
      ·cases e
     ·cases h
    ·cases h
   ·rename_i len e a _ ha;have ha:A b=.pointer (some a):=ha;split at h
    ·split at h
     ·simp only[Lt,LB]at h;obtain⟨_,rfl,_⟩:=h;rcases hv with⟨a',e,rfl⟩ | ⟨a',n',c',e,rfl⟩
      ·cases e;exact .inl ⟨a,ha,rfl⟩
      ·cases e
     ·cases h
    ·cases h
   ·cases h
  ·cases h
 ·rename_i b' hop;simp only at hop;subst hop;cases hf;have h:some (Cls.pure,ev A (.tmp b),H)=some (c,v,H'):=h;cases h;exact hv
 ·rename_i b' hop;simp only at hop;subst hop;cases hf;have h:some (Cls.pure,ev A (.tmp b),H)=some (c,v,H'):=h;cases h;exact hv
 ·rename_i b' hop;simp only at hop;subst hop;cases hf;have h:XD P Ws A H (.tmp b)=some (c,v,H'):=h;unfold XD at h;cases hn:Yq (ev A (.tmp b)) with
  | false=>rw[hn]at h;cases h
  | true=>
   rw[hn]at h;cases h;exact hv
 ·cases hf
theorem KP {o:Oper} {s:Bool} {A:Env} {H:Qa} {k:Value->Qa->Prop} (hw:H.Wf) (h:pr P (Ql P o.op) s A H k):
  ∃c v H',J4 P o A H v H' c∧Syn P o H H' c∧(s=true->Zu o=true->∀id,H'.get id=H.get id)∧(s=true->G5 o=true->Qx H.next 6 v=true)∧FA o A v∧k v H':=by
 obtain⟨dst,op,ty,pos,af,g⟩:=o;have other:onS (rop P (Ql P op) A H) (λv H'=>(s=true->Qx H.next 6 v=true)∧k v H')->
   ∃c v H',J4 P ⟨dst,op,ty,pos,af,g⟩ A H v H' c∧Syn P ⟨dst,op,ty,pos,af,g⟩ H H' c∧(s=true->Zu ⟨dst,op,ty,pos,af,g⟩=true->∀id,H'.get id=H.get id)∧(s=true->G5 ⟨dst,op,ty,pos,af,g⟩=true->Qx H.next 6 v=true)∧FA ⟨dst,op,ty,pos,af,g⟩ A v∧k v H':=fun⟨v,H',hr,hs,hk⟩=>by
  obtain⟨c,ha⟩:=QcS hr;have ha:aop P Ws ⟨dst,op,ty,pos,af,g⟩ A H=some (c,v,H'):=ha;refine⟨c,v,H',Xx QeL ha,QiM ha,λ_ hc=>?_,λh _=>hs h,Qko ha,hk⟩;unfold Zu at hc;split at hc
  ·rename_i f a ts hop;simp only at hop;subst hop;unfold aop at ha;simp only[ZU]at ha;split at ha
   ·rename_i he;cases he
   ·rename_i he;cases he
   ·simp[Ws]at ha
   ·split at ha
    ·simp[Ws]at ha
    ·have ha:=QF ha;simp[Ws]at ha
    ·cases ha
  ·cases hc
 simp only[pr]at h;split at h
 ·rename_i f args hr;obtain⟨a,ts,hop,rfl⟩:=Qar hr;subst hop;obtain⟨v,H',hc,hn,hwf,hs,hk⟩:=h hw;refine⟨.gen,v,H',KB (by simpa using hc),⟨λ_=>.inl rfl,λh=>(by cases h),λb h=>(by cases h),hn,λ_=>hwf⟩,λh _=>hs h,λ_ h=>(by cases h),.none rfl,hk⟩
 ·rename_i c args hr;obtain⟨a,ts,hop,rfl⟩:=G6 hr;subst hop;split at h
  ·rename_i f xs ys hv;obtain⟨v,H',hc,hn,hwf,hs,hk⟩:=h hw;refine⟨.gen,v,H',QaS hv (by simpa using hc),⟨λ_=>.inl rfl,λh=>(by cases h),λb h=>(by cases h),hn,λ_=>hwf⟩,λh _=>hs h,λ_ h=>(by cases h),.none rfl,hk⟩
  ·rename_i l hv;obtain⟨v,H',hc,hn,hwf,hs,hk⟩:=h hw;refine⟨.gen,v,H',QaZ hv (by simpa using hc),⟨λ_=>.inl rfl,λh=>(by cases h),λb h=>(by cases h),hn,λ_=>hwf⟩,λh _=>hs h,λ_ h=>(by cases h),.none rfl,hk⟩
  ·exact h.elim
 ·rename_i hr;exact(G7 hr).elim
 ·rename_i hr;exact(G8 hr).elim
 ·rename_i hr;exact(Qas hr).elim
 ·rename_i hr;exact(Qbl hr).elim
 ·exact other h
def Low (P:Program) (o:Oper) (os:List Operand) (A:Env) (H H':Qa):Prop:=ZF o=true->∀z∈os,∃b:Nat,InB (ev A z) b∧b<H.next∧(isG P o=true->H'.get b=H.get b)
def Sep (o:Oper) (os:List Operand) (A:Env) (H H':Qa):Prop:=QcV o=true->∃a:Nat,(∀id,id≠a->H'.get id=H.get id)∧∀z∈os,∀b:Addr,ev A z=.pointer (some b)->b.block≠a
theorem Qbm {ops:Array Oper} {i:Nat} {o:Oper} {s:Bool} {A:Env} {H:Qa} {k:Value->Qa->Prop} (hw:H.Wf) (h:pr P (Jn P ops s i o) s A H k):
  ∃c v H',J4 P o A H v H' c∧Syn P o H H' c∧(s=true->QeK o=true->isG P o=false->EqB H H')∧(s=true->G5 o=true->Qx H.next 6 v=true)∧(s=true->Sep o (Gn ops (Qf ops.toList []) i) A H H')∧(s=true->Low P o (Xh ops (Qf ops.toList []) i) A H H')∧FA o A v∧k v H':=by
 cases s with
 | false=>
  obtain⟨c,v,H',h1,h2,h3,h4,hfa,h5⟩:=KP hw h;exact⟨c,v,H',h1,h2,λh=>(by cases h),h4,λh=>(by cases h),λh=>(by cases h),hfa,h5⟩
 | true=>
  have h:pr P (XG P ops i o) true A H k:=h;have plainly:QcV o=false->ZF o=false->XG P ops i o=Ql P o.op->∃c v H',J4 P o A H v H' c∧Syn P o H H' c∧(true=true->QeK o=true->isG P o=false->EqB H H')∧(true=true->G5 o=true->Qx H.next 6 v=true)∧(true=true->Sep o (Gn ops (Qf ops.toList []) i) A H H')∧(true=true->Low P o (Xh ops (Qf ops.toList []) i) A H H')∧FA o A v∧k v H':=λhns hnd e=>by
   rw[e]at h;obtain⟨c,v,H',h1,h2,h3,h4,hfa,h5⟩:=KP hw h;exact⟨c,v,H',h1,h2,λhh hc _ id _=>h3 hh (by
    unfold QeK QcU at hc;unfold ZF at hnd;cases hcf:Zu o with
    | true=>rfl
    | false=>
     rw[hcf,Nt]at hc;split at hc
     ·rename_i hop;rw[hop]at hnd;cases hnd
     ·cases hc) id,h4,λ_ hs=>(by rw[hns]at hs;cases hs),λ_ hs=>(by rw[hnd]at hs;cases hs),hfa,h5⟩
  cases hst:QcV o with
  | false=>
   cases hdi:ZF o with
   | false=>
    refine plainly hst hdi ?_;unfold XG;unfold QcV at hst;unfold ZF at hdi;split
    ·rename_i t x y hop;rw[hop]at hst;cases hst
    ·rename_i hop;rw[hop]at hdi;cases hdi
    ·rename_i hop;rw[hop]at hdi;cases hdi
    ·rfl
   | true=>
    obtain⟨dst,op,ty,pos,af,g⟩:=o;unfold ZF at hdi;split at hdi
    ·rename_i f a ts hop;simp only at hop;subst hop;have hres:XG P ops i ⟨dst,.call ⟨.value (.func f),a,ts⟩,ty,pos,af,g⟩=bif isG P ⟨dst,.call ⟨.value (.func f),a,ts⟩,ty,pos,af,g⟩ then .callG f a.toList (Xh ops (Qf ops.toList []) i) else .callF f a.toList (Xh ops (Qf ops.toList []) i):=rfl
     rw[hres]at h;cases hG:isG P ⟨dst,.call ⟨.value (.func f),a,ts⟩,ty,pos,af,g⟩ with
     | false=>
      rw[hG]at h;obtain⟨hlow,hq⟩:=h;obtain⟨v,H',hc,hn,hwf,hs,hk⟩:=hq hw;refine⟨.gen,v,H',KB (by simpa using hc),⟨λ_=>.inl rfl,λh=>(by cases h),λb h=>(by cases h),hn,λ_=>hwf⟩,λ_ _ _=>hs,λ_ h=>(by cases h),λ_ h=>(by cases h),λ_ _ z hz=>?_,.none rfl,hk⟩;have:=hlow z hz;unfold Ko at this;split at this
      ·rename_i b hb;exact⟨_,.inl ⟨b,hb,rfl⟩,this,λh=>absurd (hG.symm.trans h) (by decide)⟩
      ·rename_i b n c hb;exact⟨_,.inr ⟨b,n,c,hb,rfl⟩,this,λh=>absurd (hG.symm.trans h) (by decide)⟩
      ·exact this.elim
     | true=>
      rw[hG]at h;obtain⟨hlow,hq⟩:=h;obtain⟨v,H',hc,hn,hwf,hs,hk⟩:=hq hw;refine⟨.gen,v,H',KB (by simpa using hc),⟨λ_=>.inl rfl,λh=>(by cases h),λb h=>(by cases h),hn,λ_=>hwf⟩,λ_ _ h=>(by cases h),λ_ h=>(by cases h),λ_ h=>(by cases h),λ_ _ z hz=>?_,.none rfl,hk⟩;have h1:=hlow z hz;have h2:=hs z hz;unfold Ko at h1;split at h1
      ·rename_i b hb;rw[hb]at h2;exact⟨_,.inl ⟨b,hb,rfl⟩,h1,λ_=>h2⟩
      ·rename_i b n c hb;rw[hb]at h2;exact⟨_,.inr ⟨b,n,c,hb,rfl⟩,h1,λ_=>h2⟩
      ·exact h1.elim
    ·rename_i a ts hop;simp only at hop;subst hop;have hres:XG P ops i ⟨dst,.call ⟨.builtin .append,a,ts⟩,ty,pos,af,g⟩=(match Ql P (.call ⟨.builtin .append,a,ts⟩) with | .app e size bytes x y=>.appF e size bytes x y (Xh ops (Qf ops.toList []) i) | _=>.callG 0 [] [.const (.bool false)]):=rfl;rw[hres]at h;split at h
     ·rename_i e size bytes x y hr1;obtain⟨hlow,v,H',hr,hs,hk⟩:=h;obtain⟨c,v1,H1,h1,h2,h3,h4,hfa,h5⟩:=KP (s:=false) (k:=λv' H1=>v'=v∧H1=H') hw (o:=⟨dst,.call ⟨.builtin .append,a,ts⟩,ty,pos,af,g⟩) (by
       show pr P (Ql P (.call ⟨.builtin .append,a,ts⟩)) false A H _;rw[hr1];exact⟨v,H',hr,λh=>(by cases h),rfl,rfl⟩)
      obtain⟨rfl,rfl⟩:=h5;refine⟨c,v1,H1,h1,h2,λ_ _ _=>hs,λ_ hl=>(by cases hl),λ_ hss=>(by cases hss),λ_ _ z hz=>?_,hfa,hk⟩;have:=hlow z hz;unfold Ko at this;split at this
      ·rename_i b hb;exact⟨_,.inl ⟨b,hb,rfl⟩,this,λh=>(by cases h)⟩
      ·rename_i b n c hb;exact⟨_,.inr ⟨b,n,c,hb,rfl⟩,this,λh=>(by cases h)⟩
      ·exact this.elim
     ·exact(h.1 _ (Sa.2 rfl)).elim
    ·cases hdi
  | true=>
   unfold QcV at hst;split at hst
   ·rename_i t x y hop;unfold XG at h;rw[hop]at h;simp only at h;cases hin:P.info? t with
    | none=>
     rw[hin]at h;have e:Ql P (.store t x y)=.gen (.store t x y):=by simp[Ql,hin]
     simp only at h;rw[e]at h;obtain⟨v,H',hr,hs,hk⟩:=h;simp only[rop,aop,Jd,ZM,hin]at hr;split at hr
     ·rename_i hh;repeat' (split at hh)
      all_goals (first | (cases hh;done) | (rename_i h9;cases h9))
     ·cases hr
    | some inf=>
     rw[hin]at h;obtain⟨v,H',hr,hs,hk⟩:=h;have e:Ql P o.op=.st inf.size x y:=by rw[hop];simp[Ql,hin]
     obtain⟨c,v1,H1,h1,h2,h3,h4,hfa,h5⟩:=KP (s:=false) (k:=λv' H1=>v'=v∧H1=H') hw (o:=o) (by
      rw[e];exact⟨v,H',hr,λh=>(by cases h),rfl,rfl⟩)
     obtain⟨rfl,rfl⟩:=h5;refine⟨c,v1,H1,h1,h2,λ_ hc _=>?_,λ_ hl=>?_,λ_ _=>?_,λ_ hd=>?_,hfa,hk⟩
     ·unfold QeK Zu QcU at hc;rw[hop]at hc;cases hc
     ·unfold G5 at hl;rw[hop]at hl;cases hl
     ·simp only[rop]at hr;split at hr
      ·rename_i a ha;split at hr
       ·rename_i c' e' hg;split at hr
        ·simp only[Lt,LB]at hr;obtain⟨_,rfl⟩:=hr;refine⟨a.block,λid hid=>by rw[Wa,Le hid],λz hz=>?_⟩;have hap:=hs z hz;rw[ha]at hap;intro b1 hb1;rw[hb1]at hap;exact hap
        ·cases hr
       ·cases hr
      ·cases hr
     ·unfold ZF at hd;rw[hop]at hd;cases hd
   ·cases hst
theorem ZY {ops:Array Oper} {fl:Nat->Bool}:∀ (l:List Oper) (i:Nat) (pl:List PO) (k:Env->Qa->Prop) (A:Env) (H:Qa),H.Wf->W6 P n ops fl l i=some pl->Xi P pl k A H->
  ∃A1 H1,H1.Wf∧k A1 H1∧X0 P n ops l (λe A' H'=>e=.normal∧A'=A1∧H'=H1) A H
 | [],i,pl,k,A,H,hwf,hc,h=>by
  simp only[W6,Lt]at hc;subst hc;exact⟨A,H,hwf,h,QaL ⟨rfl,rfl,rfl⟩⟩
 | o::l,i,pl,k,A,H,hwf,hc,h=>by
  unfold W6 at hc;split at hc
  ·rename_i hok;split at hc
   ·rename_i g pl1 hg hpl;cases hc;have h:pg g A (pr P (Jn P ops (fl i) i o) (fl i) A H λv H'=>Xi P pl1 k (Q6 A o.dst v) H') (Xi P pl1 k (Q6 A o.dst undef) H):=h;rcases VD hg h with⟨hw,hy⟩ | ⟨hw,hn⟩
    ·obtain⟨c,v,H',h1,h2,h3,h4,_,_,_,h5⟩:=Qbm hwf hy;obtain⟨A1,H1,hw1,hk,ha⟩:=ZY l (i+1) pl1 k _ _ (h2.wf hwf) hpl h5;refine⟨A1,H1,hw1,hk,?_⟩;cases hgd:o.guard with
     | none=>exact Vj hgd h1.does hok ha
     | some jw=>
      obtain⟨j,w⟩:=jw;exact XT hgd hw (λ_=>⟨v,H',h1.does,ha⟩) (λhh=>by cases hh) hok
    ·obtain⟨A1,H1,hw1,hk,ha⟩:=ZY l (i+1) pl1 k _ _ hwf hpl hn;refine⟨A1,H1,hw1,hk,?_⟩;cases hgd:o.guard with
     | none=>simp[QN,hgd]at hw
     | some jw=>
      obtain⟨j,w⟩:=jw;exact XT hgd hw (λhh=>by cases hh) (λ_=>ha) hok
   ·cases hc
  ·cases hc
structure StR (P:Program) (n:Nat) (ops:Array Oper) (fl:Nat->Bool) (i:Nat) (o:Oper) (s:Stp) (t':Env) (H':Qa):Prop where
 ok:Xn P n o=true
 wf:s.H.Wf
 env:t'=Q6 s.t o.dst s.v
 next:s.H.next<=H'.next
 run:(QN n ops s.t o=some true∧J4 P o s.t s.H s.v H' s.c∧Syn P o s.H H' s.c∧(fl i=true->QeK o=true->isG P o=false->EqB s.H H')∧(fl i=true->G5 o=true->Qx s.H.next 6 s.v=true)∧(fl i=true->Sep o (Gn ops (Qf ops.toList []) i) s.t s.H H')∧(fl i=true->Low P o (Xh ops (Qf ops.toList []) i) s.t s.H H')∧FA o s.t s.v) ∨
  (QN n ops s.t o=some false∧s.c=.pure∧s.v=undef∧H'=s.H)
def Ze (l:List Stp) (t:Env) (i:Nat):Env:=match l[i]? with | some s=>s.t | none=>t
theorem Gs {ops:Array Oper} {fl:Nat->Bool}:∀ (l:List Oper) (i:Nat) (pl:List PO) (k:Env->Qa->Prop) (A:Env) (H:Qa),H.Wf->W6 P n ops fl l i=some pl->Xi P pl k A H->
  ∃tr A1 H1,H1.Wf∧k A1 H1∧tr.length=l.length∧Ze tr A1 0=A∧QB tr H1 0=H∧∀ (j:Nat) o s,l[j]? = some o->tr[j]? = some s->StR P n ops fl (i+j) o s (Ze tr A1 (j+1)) (QB tr H1 (j+1))
 | [],i,pl,k,A,H,hwf,hc,h=>by
  simp only[W6,Lt]at hc;subst hc;exact⟨[],A,H,hwf,h,rfl,rfl,rfl,λj o s h=>by simp at h⟩
 | o::l,i,pl,k,A,H,hwf,hc,h=>by
  unfold W6 at hc;split at hc
  ·rename_i hok;split at hc
   ·rename_i g pl1 hg hpl;cases hc;have h:pg g A (pr P (Jn P ops (fl i) i o) (fl i) A H λv H'=>Xi P pl1 k (Q6 A o.dst v) H') (Xi P pl1 k (Q6 A o.dst undef) H):=h;have step:∀ (s:Stp) (t':Env) (H':Qa),s.t=A->s.H=H->H'.Wf->Xi P pl1 k t' H'->StR P n ops fl i o s t' H'->
      ∃tr A1 H1,H1.Wf∧k A1 H1∧tr.length=(o::l).length∧Ze tr A1 0=A∧QB tr H1 0=H∧∀ (j:Nat) o' s,(o::l)[j]? = some o'->tr[j]? = some s->StR P n ops fl (i+j) o' s (Ze tr A1 (j+1)) (QB tr H1 (j+1)):=by
     intro s t' H' e1 e2 hw' hp hst;obtain⟨tr,A1,H1,hw1,hk,hl,ht,hh,hs⟩:=Gs l (i+1) pl1 k t' H' hw' hpl hp;refine⟨s::tr,A1,H1,hw1,hk,by simp[hl],by simp[Ze,e1],by simp[QB,e2],λj o' s' hj hs'=>?_⟩;cases j with
     | zero=>
      simp only[Bp,Lt]at hj hs';subst hj;subst hs';have h1:Ze (s::tr) A1 (0+1)=t':=by rw[<- ht];simp[Ze]
      have h2:QB (s::tr) H1 (0+1)=H':=by rw[<- hh];simp[QB]
      rw[h1,h2];exact hst
     | succ j=>
      have:=hs j o' s' (by simpa using hj) (by simpa using hs');rw[show i+(j+1)=i+1+j by omega];simpa[Ze,QB] using this
    rcases VD hg h with⟨hw,hy⟩ | ⟨hw,hn⟩
    ·obtain⟨c,v,H',h1,h2,h3,h4,h6,h7,hfa,h5⟩:=Qbm hwf hy;exact step ⟨A,H,c,v⟩ _ H' rfl rfl (h2.wf hwf) h5 ⟨hok,hwf,rfl,h2.next,.inl ⟨hw,h1,h2,h3,h4,h6,h7,hfa⟩⟩
    ·exact step ⟨A,H,.pure,undef⟩ _ H rfl rfl hwf hn ⟨hok,hwf,rfl,Lb _,.inr ⟨hw,rfl,rfl,rfl⟩⟩
   ·cases hc
  ·cases hc
theorem W1 {t:TypeId} {a:Addr} {H1 H2:Qa} (h:H1.get a.block=H2.get a.block):QZ P t a H1=QZ P t a H2:=by
 unfold QZ;rw[h]
theorem Gt (ops:Array Oper) (k e:Nat):∀ (d cur:Nat),WQ ops k (e+d) cur=match WQ ops (k+e) d cur with | some c=>WQ ops k e c | none=>none
 | 0,cur=>rfl
 | d+1,cur=>by
  show(match ops[k+(e+d)]? with | some o=>(match Qbk o cur with | some c=>WQ ops k (e+d) c | none=>none) | none=>none)=(match (match ops[k+e+d]? with | some o=>(match Qbk o cur with | some c=>WQ ops (k+e) d c | none=>none) | none=>none) with | some c=>WQ ops k e c | none=>none);rw[show k+(e+d)=k+e+d by omega];cases ops[k+e+d]? with
  | none=>rfl
  | some o=>
   simp only;cases Qbk o cur with
   | none=>rfl
   | some c=>exact Gt ops k e d c
theorem QcY {ops:Array Oper} {k i j tm bs:Nat} (h:WQ ops k (i - k) tm=some bs) (h1:k<=j) (h2:j<=i):∃c,WQ ops j (i - j) tm=some c:=by
 have:=Gt ops k (j - k) (i - j) tm;rw[show j - k+(i - j)=i - k by omega,h,show k+(j - k)=j by omega]at this;cases hc:WQ ops j (i - j) tm with
 | none=>rw[hc]at this;cases this
 | some c=>exact⟨c,rfl⟩
theorem QcZ {id:Nat} {ops:Array Oper} {pl:List PO} {k:Env->Qa->Prop} {A:Env} {H:Qa} (hwf:H.Wf) (hm:P.follows .mixedOrders=true) (hrare:∀o∈ops,Zd P o.op=false) (hd:Xf ops (QA ops)=true) (hck:QdY P ops (Qf ops.toList [])=true)
  (hc:W6 P n ops (QC ops (Qf ops.toList [])) ops.toList 0=some pl) (h:Xi P pl k A H):
  ∃A1 H1,H1.Wf∧k A1 H1∧AWp P n (.region id ops true) (λe A' H'=>e=.normal∧A'=A1∧H'=H1) A H:=by
 obtain⟨tr,A1,H1,hw1,hk,hl,hA,hH,hs⟩:=Gs ops.toList 0 pl k A H hwf hc h;refine⟨A1,H1,hw1,hk,?_⟩;have hlen:tr.length=ops.size:=by simpa using hl
 let As:Nat->Env:=Ze tr A1
 let Hs:Nat->Qa:=QB tr H1
 let vs:Nat->Value:=λi=>match tr[i]? with | some s=>s.v | none=>undef
 let cls:Nat->Cls:=λi=>match tr[i]? with | some s=>s.c | none=>.pure
 have hat:∀ (i:Nat) o,ops[i]? = some o->∃s,tr[i]? = some s∧StR P n ops (QC ops (Qf ops.toList [])) i o s (As (i+1)) (Hs (i+1))∧As i=s.t∧Hs i=s.H∧vs i=s.v∧cls i=s.c:=λi o ho=>by
  have hlt:i<tr.length:=by rw[hlen];exact(Nj.1 ho).1
  have hi:=La hlt;refine⟨tr[i],hi,by have:=hs i o tr[i] (by simpa using ho) hi;rwa [LP]at this,?_,?_,?_,?_⟩<;>simp only[As,Hs,vs,cls,Ze,QB,hi]
 have hops:∀i,i<ops.size->∃o,ops[i]? = some o:=λi hi=>⟨ops[i],Ng hi⟩;have hgen:∀i,i<ops.size->QK (cls i)=true->QA ops i=true:=λi hi hg=>by
  obtain⟨o,ho⟩:=hops i hi;obtain⟨s,hsi,hst,_,_,_,e4⟩:=hat i o ho;rw[e4]at hg;simp only[QA,ho];rcases hst.run with⟨_,_,hsyn,_⟩ | ⟨_,hc0,_⟩
  ·rcases hsyn.gen hg with h | h
   ·exact h
   ·have:=hrare o (BB ho);rw[h]at this;cases this
  ·rw[hc0]at hg;cases hg
 have hchk:∀k',k'<ops.size->QA ops k'=true->QC ops (Qf ops.toList []) k'=true->(Xg ops k'=true∧(∀i,i<ops.size->JK ops i=true->Qd (Qf ops.toList []) i k'=false->Qd (Qf ops.toList []) k' i=false->quiet P ops (Qf ops.toList []) i k'=true)∧(gAt P ops k'=true->∀i,i<ops.size->(JK ops i=true->Qd (Qf ops.toList []) i k'=false->Qd (Qf ops.toList []) k' i=false->k'<i)∧(YD ops i=true->i<k'->Qd (Qf ops.toList []) i k'=true))) ∨
   (QcW ops k'=true∧∀i,i<ops.size->(JK ops i=true->Qd (Qf ops.toList []) i k'=false->Qd (Qf ops.toList []) k' i=false->Qkn P ops (Qf ops.toList []) i k'=true)∧(YD ops i=true->i<k'->Qd (Qf ops.toList []) i k'=true)):=λk' hk' hg hf=>by
  have:=Li.1 hck k' (LU.2 hk');simp only[hg,hf,L8,Nt,Nw,Lm,Li,LU]at this;rcases this with this | this
  ·refine .inl ⟨this.1.1,λi hi h1 h2 h3=>?_,λhg i hi=>⟨λh1 h2 h3=>?_,λh1 h2=>?_⟩⟩
   ·have:=this.1.2 i hi;simpa[h1,h2,h3] using this
   ·have h9:=this.2;simp only[hg,L8,LV,false_or]at h9;have:=(h9 i hi).1;simpa[h1,h2,h3] using this
   ·have h9:=this.2;simp only[hg,L8,LV,false_or]at h9;have:=(h9 i hi).2;have b:Nat.blt i k'=true:=by rw[B5];exact h2
    simpa[h1,b] using this
  ·refine .inr ⟨this.1,λi hi=>⟨λh1 h2 h3=>?_,λh1 h2=>?_⟩⟩
   ·have:=(this.2 i hi).1;simpa[h1,h2,h3] using this
   ·have h3:=(this.2 i hi).2;have b:Nat.blt i k'=true:=by rw[B5];exact h2
    simpa[h1,b] using h3
 have hnx:∀j,j<ops.size->(Hs j).next<=(Hs (j+1)).next:=λj hj=>by
  obtain⟨o,ho⟩:=hops j hj;obtain⟨s,hsi,hst,e1,e2,e3,e4⟩:=hat j o ho;rw[e2];exact hst.next
 have hnxs:∀d a,a+d<=ops.size->(Hs a).next<=(Hs (a+d)).next:=λd=>by
  induction d with
  | zero=>exact λa _=>Lb _
  | succ d ih=>exact λa h=>N8 (ih a (by omega)) (hnx (a+d) (by omega))
 have hcallsame:∀k',k'<ops.size->Xg ops k'=true->QC ops (Qf ops.toList []) k'=true->gAt P ops k'=false->EqB (Hs k') (Hs (k'+1)):=λk' hk' hcf hf hng=>by
  obtain⟨o,ho⟩:=hops k' hk';obtain⟨s,hsi,hst,e1,e2,e3,e4⟩:=hat k' o ho;simp only[Xg,ho]at hcf;simp only[gAt,ho]at hng;rw[e2];rcases hst.run with⟨_,_,_,h3,_⟩ | ⟨_,_,_,h4⟩
  ·exact h3 hf hcf hng
  ·rw[h4];exact λ_ _=>rfl
 have hkeep:∀j,j<ops.size->(QA ops j=false∨(QC ops (Qf ops.toList []) j=true∧Xg ops j=true∧gAt P ops j=false))->EqB (Hs j) (Hs (j+1)):=λj hj hg=>by
  obtain⟨o,ho⟩:=hops j hj;obtain⟨s,hsi,hst,e1,e2,e3,e4⟩:=hat j o ho;rcases hst.run with⟨_,hcl,hsyn,_⟩ | ⟨_,_,_,h4⟩
  ·cases hsc:s.c with
   | pure=>rw[hsc]at hcl;rw[e2,hcl.1];exact λ_ _=>rfl
   | load=>rw[hsc]at hcl;rw[e2,hcl.1];exact λ_ _=>rfl
   | alloc b=>
    rw[hsc]at hcl;rw[e2,hcl.1];exact λid hid=>by rw[Qg,Le (by omega)]
   | gen=>
    have hsg:QA ops j=true:=hgen j hj (by rw[e4,hsc];rfl);rcases hg with hg | hg
    ·rw[hg]at hsg;cases hsg
    ·exact hcallsame j hj hg.2.1 hg.1 hg.2.2
  ·rw[e2,h4];exact λ_ _=>rfl
 have hkeeps:∀d a,a+d<=ops.size->(∀j,a<=j->j<a+d->QA ops j=false∨(QC ops (Qf ops.toList []) j=true∧Xg ops j=true∧gAt P ops j=false))->EqB (Hs a) (Hs (a+d)):=λd=>by
  induction d with
  | zero=>exact λa _ _ _ _=>rfl
  | succ d ih=>
   intro a h hj id hid;have h1:=ih a (by omega) (λj h1 h2=>hj j h1 (by omega)) id hid;have h2:=hkeep (a+d) (by omega) (hj (a+d) (by omega) (by omega)) id (N5 hid (hnxs d a (by omega)));rw[show a+(d+1)=a+d+1 by omega,h2,h1]
 have F:Wd P n ops ops.size As Hs vs cls:=by
  refine⟨λi o ho=>?_,λi hi=>?_,λi o ho=>?_,λi o ho _=>?_,Y6 hgen hd,λi h h'=>absurd h' (by omega)⟩
  ·obtain⟨s,hsi,hst,e1,e2,e3,e4⟩:=hat i o ho;rw[e1,e3,hst.env]
  ·obtain⟨o,ho⟩:=hops i hi;obtain⟨s,hsi,hst,e1,e2,e3,e4⟩:=hat i o ho;rw[e2];exact hst.next
  ·obtain⟨s,hsi,hst,e1,e2,e3,e4⟩:=hat i o ho;exact hst.ok
  ·obtain⟨s,hsi,hst,e1,e2,e3,e4⟩:=hat i o ho;have hi:i<ops.size:=(Nj.1 ho).1;unfold VQ;rw[e1,e2,e3,e4];rcases hst.run with⟨hw,hcl,hsyn,hf1,hf2,_,_⟩ | ⟨hw,hc0,hv0,hH0⟩
   ·right;refine⟨hw,?_⟩;cases hsc:s.c with
    | pure=>rw[hsc]at hcl;exact hcl
    | gen=>rw[hsc]at hcl;exact hcl
    | alloc b=>
     rw[hsc]at hcl;refine⟨hcl.1,hcl.2,λk' hk1 hik hgk ho'=>?_⟩;have hsg:=hgen k' hk1 hgk;have hal:YD ops i=true:=by simp only[YD,ho];exact hsyn.alloc b hsc
     have hfl:QC ops (Qf ops.toList []) k'=true:=by
      unfold QC;simp only[hsg,LJ,Nw];left;rw[Bh];exact⟨i,LU.2 hi,by simp[hal,hik,ho']⟩
     rcases hchk k' hk1 hsg hfl with hch | hch
     ·have hng:gAt P ops k'=false:=by
       cases hgk':gAt P ops k' with
       | false=>rfl
       | true=>rw[(hch.2.2 hgk' i hi).2 hal hik]at ho';cases ho'
      rw[hcallsame k' hk1 hch.1 hfl hng];have h9:=hnxs (k' - (i+1)) (i+1) (by omega);rw[show i+1+(k' - (i+1))=k' by omega,hcl.1,Wi]at h9;omega
     ·rw[(hch.2 i hi).2 hal hik]at ho';cases ho'
    | load=>
     rw[hsc]at hcl;obtain⟨h1,tt,x,a,hop,ex,hl'⟩:=hcl;refine⟨h1,tt,x,a,hop,ex,hl',λk' hk1 hgk o1 o2=>?_⟩;have hsg:=hgen k' hk1 hgk;have hld:JK ops i=true:=by simp only[JK,ho];exact hsyn.load hsc
     have hfl:QC ops (Qf ops.toList []) k'=true:=by
      unfold QC;simp only[hsg,LJ,Nw];left;rw[Bh];exact⟨i,LU.2 hi,by simp[hld,o1,o2]⟩
     have hfi:QC ops (Qf ops.toList []) i=true:=by
      unfold QC;simp only[Nw];right;simp only[hld,LJ];rw[Bh];exact⟨k',LU.2 hk1,by simp[hsg,o1,o2]⟩
     have hload:o.op=.load tt x:=hop;have hbel:Qx s.H.next 6 s.v=true:=hf2 hfi (by unfold G5;rw[hload]);rcases hchk k' hk1 hsg hfl with hch | hch
     ·have hq:=hch.2.1 i hi hld o1 o2;have hb0:a.block<(Hs i).next:=by
       rw[e2];unfold QZ at hl';split at hl'
       ·rename_i hg;exact hst.wf.lt hg
       ·cases hl'
      unfold quiet at hq;simp only[Nw,Lm,Li,LU]at hq;have hget:(Hs k').get a.block=(Hs i).get a.block∧(Hs (k'+1)).get a.block=(Hs k').get a.block:=by
       rcases hq with⟨hlt,hq⟩ | ⟨⟨⟨hlt,hdir⟩,hsm⟩,hq⟩
       ·have hlt:i<k':=by simpa using hlt
        have hng:gAt P ops k'=false:=by
         cases hgk':gAt P ops k' with
         | false=>rfl
         | true=>have:=(hch.2.2 hgk' i hi).1 hld o1 o2;omega
        have hgi:QA ops i=false:=by
         simp only[JK,ho]at hld;simp only[QA,ho];unfold G5 at hld;split at hld
         ·rename_i hop';simp only[QjW,hop']
         ·cases hld
        have h8:=hkeeps (k' - i) i (by omega) (λj h1 h2=>?_)
        ·rw[show i+(k' - i)=k' by omega]at h8;have h9:=hnxs (k' - i) i (by omega);rw[show i+(k' - i)=k' by omega]at h9;exact⟨h8 _ hb0,hcallsame k' hk1 hch.1 hfl hng a.block (by omega)⟩
        ·rcases Nq i j with h3 | h3
         ·have h4:=hq j (by omega);have h5:Nat.ble j i=false:=by
           cases hb:Nat.ble j i with
           | false=>rfl
           | true=>rw[BL]at hb;omega
          rw[h5]at h4;rcases h4 with h4 | h4 | h4
          ·cases h4
          ·exact .inl (by simpa using h4)
          ·exact .inr ⟨h4.1.1,h4.1.2,by simpa using h4.2⟩
         ·rw[show j=i by omega];exact .inl hgi
       ·have hlt:k'<i:=by simpa using hlt
        obtain⟨bs,hbs⟩:=D9.1 hsm;have hall:∀j,k'<=j->j<i->(QA ops j=false∨(QC ops (Qf ops.toList []) j=true∧Xg ops j=true∧(gAt P ops j=false∨Zc (Qf ops.toList []) i j=true))):=λj h1 h2=>by
         have h4:=hq j h2;have h5:Nat.blt j k'=false:=by
          cases hb:Nat.blt j k' with
          | false=>rfl
          | true=>rw[B5]at hb;omega
         rw[h5]at h4;rcases h4 with h4 | h4 | h4
         ·cases h4
         ·exact .inl (by simpa using h4)
         ·refine .inr ⟨h4.1.1,h4.1.2,?_⟩;rcases h4.2 with h6 | h6
          ·exact .inl (by simpa using h6)
          ·exact .inr h6
        obtain⟨ok,hok⟩:=hops k' hk1;obtain⟨sk,hsk,hstk,f1,f2,f3,f4⟩:=hat k' ok hok;have hback:∀ (k0 bs d cur:Nat),k0+d<=i->WQ ops k0 d cur=some bs->InB (As (k0+d) cur) a.block->InB (As k0 bs) a.block:=λk0 bs d=>by
         induction d with
         | zero=>intro cur _ hb hv;cases hb;exact hv
         | succ d ih=>
          intro cur hd hb hv;obtain⟨oj,hoj⟩:=hops (k0+d) (by omega);obtain⟨sj,hsj,hstj,g1,g2,g3,g4⟩:=hat (k0+d) oj hoj;simp only[WQ,hoj]at hb;split at hb
          ·rename_i c hc;refine ih c (by omega) hb ?_;rw[show k0+(d+1)=k0+d+1 by omega,hstj.env,<- g1]at hv;unfold Qbk at hc;cases hdst:oj.dst with
           | none=>
            rw[hdst]at hc hv;have hc:some cur=some c:=hc;cases hc;exact hv
           | some q=>
            rw[hdst]at hc hv;have hv:InB (upd (As (k0+d)) q sj.v cur) a.block:=hv
            by_cases hqc:q=cur
            ·subst hqc;rw[YV]at hv;have hc:Gq oj=some c:=by simpa using hc
             rcases hstj.run with⟨_,_,_,_,_,_,_,hfa⟩ | ⟨_,_,_,hu⟩
             ·have:=hfa c hc _ hv;rw[g1];exact this
             ·exfalso;have hu:sj.v=undef:=by first | exact hu.1 | exact hu | (rename_i hu2;exact hu2)
              rw[hu]at hv;rcases hv with⟨_,e,_⟩ | ⟨_,_,_,e,_⟩<;>cases e
            ·rw[Xd _ _ (λh=>hqc h.symm)]at hv;have hc:some cur=some c:=by have e:(q==cur)=false:=beq_false_of_ne hqc;simpa[e] using hc
             cases hc;exact hv
          ·cases hb
        obtain⟨tm,htm⟩:∃tm,Kd ops i=some tm:=by
         unfold JL at hbs;cases htm:Kd ops i with
         | none=>rw[htm]at hbs;cases hbs
         | some tm=>exact⟨tm,rfl⟩
        have hx:x=.tmp tm:=by
         unfold Kd at htm;rw[ho]at htm;simp only[hload]at htm;split at htm
         ·rename_i hh;cases hh;cases htm;rfl
         ·cases htm
        have ex':As i tm=.pointer (some a):=by rw[hx]at ex;rw[e1];exact ex
        have hbk0:WQ ops k' (i - k') tm=some bs:=by
         unfold JL at hbs;rw[htm]at hbs;exact hbs
        have hmid:∀j,k'<=j->j<=i->∃c,JL ops j i=some c∧InB (As j c) a.block:=λj h1 h2=>by
         obtain⟨c,hc⟩:=QcY hbk0 h1 h2;refine⟨c,by unfold JL;rw[htm];exact hc,?_⟩;refine hback j c (i - j) tm (by omega) hc ?_;rw[show j+(i - j)=i by omega,ex'];exact .inl ⟨a,rfl,rfl⟩
        have hpt:InB (As k' bs) a.block:=by
         obtain⟨c,hc1,hc2⟩:=hmid k' (Lb _) (by omega);rw[hbs]at hc1;cases hc1;exact hc2
        have hbk:a.block<(Hs k').next:=by
         have hlow:∀z∈Xh ops (Qf ops.toList []) k',∃b:Nat,InB (ev sk.t z) b∧b<sk.H.next:=by
          rcases hstk.run with⟨_,_,_,_,_,_,h9,_⟩ | ⟨_,h9,_⟩
          ·intro z hz;obtain⟨b,h1,h2,_⟩:=h9 hfl (by simpa only[QjD,hok] using hdir) z hz;exact⟨b,h1,h2⟩
          ·rw[f4,h9]at hgk;cases hgk
         obtain⟨b,hb1,hb2⟩:=hlow (.tmp bs) (by
          unfold Xh;rw[List.mem_filterMap];have b1:Nat.blt k' i=true:=by simpa using hlt
          exact⟨i,LU.2 hi,by simp[b1,hld,Zc,o1,o2,hbs]⟩)
         have hb1:InB (sk.t bs) b:=hb1;rw[<- f1]at hb1;rw[f2,hpt.uniq hb1];exact hb2
        have hstep:∀j,k'<=j->j<i->a.block<(Hs j).next->(Hs (j+1)).get a.block=(Hs j).get a.block:=λj h1 h2 hbl=>by
         rcases hall j h1 h2 with h4 | ⟨h4,h5,h6⟩
         ·exact hkeep j (by omega) (.inl h4) _ hbl
         ·cases hgj:gAt P ops j with
          | false=>exact hkeep j (by omega) (.inr ⟨h4,h5,hgj⟩) _ hbl
          | true=>
           have h6:Zc (Qf ops.toList []) i j=true:=by
            rcases h6 with h6 | h6
            ·rw[hgj]at h6;cases h6
            ·exact h6
           obtain⟨oj,hoj⟩:=hops j (by omega);obtain⟨sj,hsj,hstj,g1,g2,g3,g4⟩:=hat j oj hoj;have hGj:isG P oj=true:=by simpa only[gAt,hoj] using hgj
           have hdj:ZF oj=true:=by
            unfold isG at hGj;unfold ZF;split at hGj
            ·first | rfl | (rename_i hopj;rw[hopj])
            ·cases hGj
           obtain⟨c,hc1,hc2⟩:=hmid j h1 (by omega);rw[g2];rcases hstj.run with⟨_,_,_,_,_,_,h9,_⟩ | ⟨_,_,_,h9⟩
           ·obtain⟨b,hb1,hb2,hb3⟩:=h9 h4 hdj (.tmp c) (by
             unfold Xh;rw[List.mem_filterMap];have b1:Nat.blt j i=true:=by simpa using h2
             have u2:Zc (Qf ops.toList []) i j=true:=h6;exact⟨i,LU.2 hi,by simp[b1,hld,u2,hc1]⟩)
            have hb1:InB (sj.t c) b:=hb1;rw[<- g1]at hb1;rw[hc2.uniq hb1];exact hb3 hGj
           ·rw[h9]
        have hmany:∀d,k'+d<=i->(Hs (k'+d)).get a.block=(Hs k').get a.block∧a.block<(Hs (k'+d)).next:=λd=>by
         induction d with
         | zero=>exact λ_=>⟨rfl,hbk⟩
         | succ d ih=>
          intro hd;obtain⟨i1,i2⟩:=ih (by omega);have hn1:=hnx (k'+d) (by omega);refine⟨?_,?_⟩
          ·rw[show k'+(d+1)=k'+d+1 by omega,hstep (k'+d) (by omega) (by omega) i2,i1]
          ·rw[show k'+(d+1)=k'+d+1 by omega];omega
        have h8:=(hmany (i - k') (by omega)).1;rw[show k'+(i - k')=i by omega]at h8;exact⟨h8.symm,hstep k' (Lb _) hlt hbk⟩
      exact⟨by rw[W1 hget.1,e2];exact hl',by rw[W1 hget.2,W1 hget.1,e2];exact hl',hbel⟩
     ·have hcalm:=(hch.2 i hi).1 hld o1 o2;unfold Qkn at hcalm;simp only[Lm,Li,LU]at hcalm;obtain⟨⟨hlt,hsm⟩,hall⟩:=hcalm;have hlt:i<k':=by simpa using hlt
      obtain⟨tm,htm⟩:=D9.1 hsm;have hx:x=.tmp tm:=by
       unfold Kd at htm;rw[ho]at htm;simp only[hload]at htm;split at htm
       ·rename_i hh;cases hh;cases htm;rfl
       ·cases htm
      subst hx;have hstep:∀j,i<=j->j<ops.size->As j tm=.pointer (some a)->(QA ops j=false∨(Xg ops j=true∧QC ops (Qf ops.toList []) j=true∧gAt P ops j=false)∨(i<j∧QcW ops j=true∧QC ops (Qf ops.toList []) j=true∧Zc (Qf ops.toList []) i j=true))->a.block<(Hs j).next->(Hs (j+1)).get a.block=(Hs j).get a.block:=λj hij hj hA hg hbl=>by
       obtain⟨oj,hoj⟩:=hops j hj;obtain⟨sj,hsj,hstj,f1,f2,f3,f4⟩:=hat j oj hoj;rw[f2]at hbl ⊢;rcases hstj.run with⟨_,hcl,hsyn,_,_,hsep,_⟩ | ⟨_,_,_,h4⟩
       ·cases hsc:sj.c with
        | pure=>rw[hsc]at hcl;rw[hcl.1]
        | load=>rw[hsc]at hcl;rw[hcl.1]
        | alloc b=>rw[hsc]at hcl;rw[hcl.1,Qg,Le (by omega)]
        | gen=>
         have hsg:QA ops j=true:=hgen j hj (by rw[f4,hsc];rfl);rcases hg with hg | hg | ⟨hij2,hg1,hg2,hg3⟩
         ·rw[hg]at hsg;cases hsg
         ·rw[<- f2];rw[<- f2]at hbl;exact hcallsame j hj hg.1 hg.2.1 hg.2.2 _ hbl
         ·simp only[QcW,hoj]at hg1;obtain⟨a',hk1',hk2'⟩:=hsep hg2 hg1;have hb2:=hk2' (.tmp tm) (by
           unfold Gn;rw[List.mem_filterMap];exact⟨i,LU.2 hij2,by simp[hld,hg3,htm]⟩) a (by show sj.t tm=_;rw[<- f1];exact hA)
          exact hk1' _ hb2
       ·rw[h4]
      have hb0:a.block<(Hs i).next:=by
       rw[e2];unfold QZ at hl';split at hl'
       ·rename_i hg;exact hst.wf.lt hg
       ·cases hl'
      have hA0:As i tm=.pointer (some a):=by rw[e1];exact ex
      have hall2:∀j,i<=j->j<k'->(∀oj,ops[j]? = some oj->oj.dst≠some tm)∧(QA ops j=false∨(Xg ops j=true∧QC ops (Qf ops.toList []) j=true∧gAt P ops j=false)∨(i<j∧QcW ops j=true∧QC ops (Qf ops.toList []) j=true∧Zc (Qf ops.toList []) i j=true)):=λj hij hjk=>by
       have:=hall j hjk;have b1:Nat.blt j i=false:=by
        cases hb:Nat.blt j i with
        | false=>rfl
        | true=>rw[B5]at hb;omega
       simp only[b1,Nw,Lm,htm,Lr,LV,false_or]at this;refine⟨λoj hoj hd=>?_,?_⟩
       ·have h9:=this.1;rw[hoj]at h9;simp[hd]at h9
       ·rcases this.2 with(h | h) | h
        ·exact .inl h
        ·exact .inr (.inl ⟨h.1.1,h.1.2,h.2⟩)
        ·refine .inr (.inr ⟨?_,h.1.1,h.1.2,h.2⟩);rcases Nq i j with h' | h'
         ·exact h'
         ·have e:j=i:=by omega
          subst e;have h7:=h.1.1;unfold QcW QcV at h7;rw[ho]at h7;simp only[hload]at h7;cases h7
      have hrun:∀d,i+d<=k'->As (i+d) tm=.pointer (some a)∧(Hs (i+d)).get a.block=(Hs i).get a.block∧a.block<(Hs (i+d)).next:=by
       intro d
       induction d with
       | zero=>exact λ_=>⟨hA0,rfl,hb0⟩
       | succ d ih=>
        intro hd;obtain⟨i1,i2,i3⟩:=ih (by omega);have hj:i+d<ops.size:=by omega
        obtain⟨oj,hoj⟩:=hops (i+d) hj;obtain⟨sj,hsj,hstj,f1,f2,f3,f4⟩:=hat (i+d) oj hoj;obtain⟨g1,g2⟩:=hall2 (i+d) (by omega) (by omega);refine⟨?_,?_,?_⟩
        ·rw[show i+(d+1)=i+d+1 by omega,hstj.env,<- f1,<- i1];cases hdst:oj.dst with
         | none=>rfl
         | some q=>exact Xd _ _ (λh=>g1 oj hoj (by rw[hdst,h]))
        ·rw[show i+(d+1)=i+d+1 by omega,hstep (i+d) (by omega) hj i1 g2 i3,i2]
        ·rw[show i+(d+1)=i+d+1 by omega];have:=hstj.next;rw[<- f2]at this;omega
      obtain⟨r1,r2,r3⟩:=hrun (k' - i) (by omega);rw[show i+(k' - i)=k' by omega]at r1 r2 r3;have hlast:=hstep k' (by omega) hk1 r1 (.inr (.inr ⟨hlt,hch.1,hfl,by unfold Zc;rw[o1,o2];rfl⟩)) r3;exact⟨by rw[W1 r2,e2];exact hl',by rw[W1 hlast,W1 r2,e2];exact hl',hbel⟩
   ·left;exact⟨hw,hv0,hH0,hc0⟩
 have hend:As ops.size=A1∧Hs ops.size=H1:=by
  have:tr[ops.size]? = none:=N7 (by omega);simp only[As,Hs,Ze,QB,this,RU]
 have hAs0:As 0=A:=hA;have hHs0:Hs 0=H:=hH;have:=QaX (id:=id) (Q:=λe A' H'=>e=.normal∧A'=A1∧H'=H1) hm F ⟨rfl,hend.1,hend.2⟩;rwa [hAs0,hHs0]at this
def Fp (ks:Kp) (k:Env->Qa->Prop):Ex->Env->Qa->Prop
 | .normal,A,H=>k A H
 | .ret,A,H=>ks.ret A H
 | .exit j,A,H=>j<J0∧ks.ext j A H
 | .goto l,A,H=>ks.ext (J0+l) A H
 | _,_,_=>False
def Qat (ex:Ex) (A1:Env) (H1:Qa):Ex->Env->Qa->Prop:=λe A H=>e=ex∧A=A1∧H=H1
theorem QiN (x y:PC) (ks:Kp) (k:Env->Qa->Prop) (A:Env) (H:Qa):Qs P (sq x y) ks k A H=Qs P x ks (Qs P y ks k) A H:=by
 unfold sq;split<;>rfl
theorem Qgw (x y:PC) (l:Nat) (hx:x=.skip->True):WL (sq x y) l=match WL x l with | some r=>some (sq r y) | none=>WL y l:=by
 unfold sq;split
 ·simp[WL]
 ·rename_i hne;cases hf:WL x l with
  | none=>simp[WL]
  | some r=>
   cases r<;>rfl
 ·rfl
theorem JM:∀ (c:Code) (pc:PC),comp P n c=some pc->∀l,(∀rest,findLabel c l=some rest->∃pr,WL pc l=some pr∧comp P n rest=some pr)∧(findLabel c l=none->WL pc l=none):=by
 intro c
 induction c with
 | seq a b iha ihb=>
  intro pc h l;simp only[comp]at h;split at h
  ·rename_i x y hx hy;simp only[Lt]at h;subst h;obtain⟨a1,a2⟩:=iha x hx l;obtain⟨b1,b2⟩:=ihb y hy l;rw[Qgw x y l (λ_=>trivial)];cases hf:findLabel a l with
   | some r=>
    obtain⟨pr,h1,h2⟩:=a1 r hf;rw[h1];refine⟨λrest hr=>?_,λhn=>?_⟩
    ·simp only[findLabel,hf,Lt]at hr;subst hr;exact⟨_,rfl,by simp only[comp,h2,hy]⟩
    ·simp only[findLabel,hf]at hn;cases hn
   | none=>
    rw[a2 hf];simp only[findLabel,hf];exact⟨b1,b2⟩
  ·cases h
 | label l'=>
  intro pc h l;simp only[comp,Lt]at h;subst h;refine⟨λrest hr=>?_,λhn=>?_⟩
  ·simp only[findLabel]at hr;split at hr
   ·rename_i he;have he:l'=l:=by simpa using he
    subst he;cases hr;exact⟨.skip,by simp[WL],rfl⟩
   ·cases hr
  ·simp only[findLabel]at hn;split at hn
   ·cases hn
   ·rename_i he;have he:¬l'=l:=by simpa using he
    simp[WL,QV,he]
 | scope b ih=>
  intro pc h l;refine⟨λrest hr=>(by cases hr),λ_=>?_⟩;simp only[comp,Lx]at h;obtain⟨pb,hb,rfl⟩:=h;unfold Qaq;split
  ·rename_i hl;exact nolab pb hl l
  ·split
   ·rfl
   ·rfl
  ·rfl
 | region id ops draw=>
  intro pc h l;refine⟨λrest hr=>(by cases hr),λ_=>?_⟩;cases draw
  ·simp only[comp,Lt]at h;subst h;split<;>rfl
  ·simp only[comp,Lt]at h;subst h;split
   ·split<;>rfl
   ·rfl
 | cond x a b iha ihb=>
  intro pc h l;refine⟨λrest hr=>(by cases hr),λ_=>?_⟩;simp only[comp]at h;split at h
  ·split at h
   ·cases h;rfl
   ·cases h
  ·cases h
 | block id b ih=>
  intro pc h l;refine⟨λrest hr=>(by cases hr),λ_=>?_⟩;simp only[comp,Lx]at h;obtain⟨pb,hb,rfl⟩:=h;cases Nat.blt id J0<;>rfl
 | loop b ih=>
  intro pc h l;refine⟨λrest hr=>(by cases hr),λ_=>?_⟩;simp only[comp,Lx]at h;obtain⟨pb,hb,rfl⟩:=h;rfl
 | rangeFunc g ps a b iha ihb=>
  intro pc h l;refine⟨λrest hr=>(by cases hr),λ_=>?_⟩;simp only[comp]at h;split at h
  ·split at h
   ·cases h;rfl
   ·cases h
  ·cases h
 | exit id=>
  intro pc h l;refine⟨λrest hr=>(by cases hr),λ_=>?_⟩;simp only[comp,Lt]at h;subst h;cases Nat.blt id J0<;>rfl
 | _=>
  intro pc h l;refine⟨λrest hr=>(by cases hr),λ_=>?_⟩;cases h;rfl
 where
 nolab:∀ (pc:PC),WR pc=[]->∀l,WL pc l=none
  | .seq a b,h,l=>by
   simp only[WR,List.append_eq_nil_iff]at h;simp only[WL,nolab a h.1 l,nolab b h.2 l]
  | .label l',h,l=>by simp[WR]at h
  | .skip,h,l=>rfl
  | .ops _,h,l=>rfl
  | .cond _ _ _,h,l=>rfl
  | .block _ _,h,l=>rfl
  | .loop _,h,l=>rfl
  | .exit _,h,l=>rfl
  | .ret,h,l=>rfl
  | .goto _,h,l=>rfl
  | .scope _ _ _,h,l=>rfl
  | .rangeF _ _ _ _,h,l=>rfl
  | .bad,h,l=>rfl
theorem Xs:∀ (pc:PC) (l:Nat) (r:PC),WL pc l=some r->l∈WR pc
 | .seq a b,l,r,h=>by
  simp only[WL]at h;simp only[WR,LI];cases hf:WL a l with
  | some q=>exact .inl (Xs a l q hf)
  | none=>rw[hf]at h;exact .inr (Xs b l r h)
 | .label l',l,r,h=>by
  simp only[WL]at h;cases hb:Nat.beq l' l with
  | true=>simp[WR,LA hb]
  | false=>rw[hb]at h;cases h
 | .skip,l,r,h=>by cases h
 | .ops _,l,r,h=>by cases h
 | .cond _ _ _,l,r,h=>by cases h
 | .block _ _,l,r,h=>by cases h
 | .loop _,l,r,h=>by cases h
 | .exit _,l,r,h=>by cases h
 | .ret,l,r,h=>by cases h
 | .goto _,l,r,h=>by cases h
 | .scope _ _ _,l,r,h=>by cases h
 | .rangeF _ _ _ _,l,r,h=>by cases h
 | .bad,l,r,h=>by cases h
def Snd (P:Program) (n:Nat) (c:Code) (pc:PC):Prop:=∀ (ks:Kp) (k:Env->Qa->Prop) (A:Env) (H:Qa),H.Wf->Qs P pc ks k A H->∃ex A1 H1,H1.Wf∧Fp ks k ex A1 H1∧AWp P n c (Qat ex A1 H1) A H
theorem QdZ {a b:Code} {x y:PC} (ha:Snd P n a x) (hb:Snd P n b y):Snd P n (.seq a b) (sq x y):=by
 intro ks k A H hwf h;rw[QiN]at h;obtain⟨ex,A1,H1,hw1,hf,ha⟩:=ha ks _ A H hwf h;cases ex with
 | normal=>
  obtain⟨ex2,A2,H2,hw2,hf2,ha2⟩:=hb ks k A1 H1 hw1 hf;refine⟨ex2,A2,H2,hw2,hf2,Z3 (ha.mono ?_)⟩;rintro e A' H' ⟨rfl,rfl,rfl⟩;exact ha2
 | ret=>exact⟨.ret,A1,H1,hw1,hf,Z3 (ha.mono (by rintro e A' H' ⟨rfl,rfl,rfl⟩;exact⟨rfl,rfl,rfl⟩))⟩
 | exit j=>exact⟨.exit j,A1,H1,hw1,hf,Z3 (ha.mono (by rintro e A' H' ⟨rfl,rfl,rfl⟩;exact⟨rfl,rfl,rfl⟩))⟩
 | goto j=>exact⟨.goto j,A1,H1,hw1,hf,Z3 (ha.mono (by rintro e A' H' ⟨rfl,rfl,rfl⟩;exact⟨rfl,rfl,rfl⟩))⟩
 | panic v=>exact hf.elim
def Qlm (P:Program) (n:Nat) (c:Code) (pc:PC):Prop:=Snd P n c pc∧∀l rest,findLabel c l=some rest->∃pr,WL pc l=some pr∧comp P n rest=some pr∧Snd P n rest pr
theorem Qau:∀ (c:Code) (pc:PC),comp P n c=some pc->Qlm P n c pc:=by
 intro c
 induction c with
 | skip=>intro pc hc;cases hc;exact⟨λks k A H hwf h=>⟨.normal,A,H,hwf,h,KS ⟨rfl,rfl,rfl⟩⟩,λl rest h=>by cases h⟩
 | label l=>
  intro pc hc;cases hc;refine⟨λks k A H hwf h=>⟨.normal,A,H,hwf,h,Vi ⟨rfl,rfl,rfl⟩⟩,λl' rest h=>?_⟩;obtain⟨pr,h1,h2⟩:=(JM (P:=P) (n:=n) (.label l) (.label l) rfl l').1 rest h;refine⟨pr,h1,h2,?_⟩;simp only[findLabel]at h;split at h
  ·cases h;cases h2;exact λks k A H hwf h=>⟨.normal,A,H,hwf,h,KS ⟨rfl,rfl,rfl⟩⟩
  ·cases h
 | ret=>intro pc hc;cases hc;exact⟨λks k A H hwf h=>⟨.ret,A,H,hwf,h,Qdz ⟨rfl,rfl,rfl⟩⟩,λl rest h=>by cases h⟩
 | exit id=>
  intro pc hc;simp only[comp,Lt]at hc;subst hc;refine⟨λks k A H hwf h=>?_,λl rest h=>by cases h⟩;cases hb:Nat.blt id J0 with
  | true=>
   rw[hb]at h;exact⟨.exit id,A,H,hwf,⟨by simpa using hb,h⟩,QaJ ⟨rfl,rfl,rfl⟩⟩
  | false=>rw[hb]at h;exact h.elim
 | goto l=>intro pc hc;cases hc;exact⟨λks k A H hwf h=>⟨.goto l,A,H,hwf,h,QaK ⟨rfl,rfl,rfl⟩⟩,λl rest h=>by cases h⟩
 | refuse s=>intro pc hc;cases hc;exact⟨λks k A H hwf h=>h.elim,λl rest h=>by cases h⟩
 | rangeFunc g ps a b iha ihb=>
  intro pc hc;refine⟨λks k A H hwf h=>?_,λl rest h=>by cases h⟩;simp only[comp]at hc;split at hc
  ·rename_i hok;split at hc
   ·rename_i pa pb ha hb;cases hc;simp only[Qs]at h;split at h
    ·rename_i f xs ys hg;obtain⟨hen,hcq⟩:=h (λst=>Blk.loop A n ps a b st) (λl args H0 Q hl hlen hp hwf0=>by
      have hlt:l<H0.next:=hwf0.lt hl;obtain⟨ex,A1,H1,hw1,hf1,haw⟩:=(iha pa ha).1 _ _ _ _ (hwf0.kill l) hp;cases ex with
      | ret=>exact hf1.elim
      | exit j=>exact hf1.2.elim
      | goto j=>exact hf1.elim
      | panic v=>exact hf1.elim
      | normal=>
       obtain⟨ex,A2,H2,hw2,hf2,hbw⟩:=(ihb pb hb).1 _ _ _ _ hw1 hf1;have hlen:args.length=ps.size:=by simpa using hlen
       have hwset:∀b,H0.next<=H2.next->(H2.set l b).Wf:=λb hn id hid=>by
        simp only[QaI]at hid;rw[Wa,Le (by omega)];exact hw2 id hid
       have mk:∀v H',K6 l (Blk.loop A n ps a b) v H' ex A2 H2->Vq P l args H0 v H':=λv H' hre=>
        J1 hl hlen (haw.mono (by
         rintro e A' H' ⟨rfl,rfl,rfl⟩;exact hbw.mono (by rintro e A' H' ⟨rfl,rfl,rfl⟩;exact hre)))
       cases ex with
       | normal=>exact⟨_,_,mk _ _ ⟨rfl,Q5.refl _⟩,by simpa using hf2.1,hwset _ hf2.1,hf2.2⟩
       | ret=>exact⟨_,_,mk _ _ ⟨rfl,Q5.refl _⟩,by simpa using hf2.1,hwset _ hf2.1,hf2.2⟩
       | exit j=>exact⟨_,_,mk _ _ ⟨rfl,Q5.refl _⟩,by simpa using hf2.2.2.1,hwset _ hf2.2.2.1,hf2.2.2.2⟩
       | goto j=>exact absurd hf2.1 (by simp)
       | panic v=>exact hf2.elim)
     obtain⟨v,H2,hd,hnx,hwf2,st,hl,hj⟩:=hcq (hwf.push _);have hwk:(H2.kill H.next).Wf:=hwf2.kill _;have mk:∀e,Qf2 (Qat e A (H2.kill H.next)) A (H2.kill H.next) st->AWp P n (.rangeFunc g ps a b) (Qat e A (H2.kill H.next)) A H:=λe hq=>ZB hok hg hen hd hl hq;unfold Qk4 at hj;split at hj
     ·exact⟨.normal,A,_,hwk,hj,mk _ ⟨rfl,rfl,rfl⟩⟩
     ·exact⟨.ret,A,_,hwk,hj,mk _ ⟨rfl,rfl,rfl⟩⟩
     ·rename_i j;exact⟨.exit j,A,_,hwk,⟨by simpa using hj.1,hj.2⟩,mk _ ⟨rfl,rfl,rfl⟩⟩
     ·exact hj.elim
    ·exact h.elim
   ·cases hc
  ·cases hc
 | region id ops draw=>
  intro pc hc;refine⟨λks k A H hwf h=>?_,λl rest h=>by cases h⟩;cases draw with
  | false=>
   simp only[comp,Lt]at hc;subst hc;split at h
   ·rename_i pl hpl;obtain⟨A1,H1,hw1,hk,ha⟩:=ZY ops.toList 0 pl k A H hwf hpl h;exact⟨.normal,A1,H1,hw1,hk,(by
     have hw:AWp P n (.region id ops.toList.toArray false) (Qat .normal A1 H1) A H:=KU (l:=ops.toList) (by
      have ha:X0 P n ops ops.toList (Qat .normal A1 H1) A H:=ha;simpa using ha)
     simpa using hw)⟩
   ·exact h.elim
  | true=>
   simp only[comp,Lt]at hc;subst hc;split at h
   ·rename_i hcond;simp only[Lm]at hcond;split at h
    ·rename_i pl hpl;obtain⟨A1,H1,hw1,hk,ha⟩:=QcZ (id:=id) hwf hcond.1.1.1 (λo ho=>by simpa using B1.1 hcond.2 o ho) hcond.1.1.2 hcond.1.2 hpl h;exact⟨.normal,A1,H1,hw1,hk,ha⟩
    ·exact h.elim
   ·exact h.elim
 | seq a b iha ihb=>
  intro pc hc;have hc0:=hc;simp only[comp]at hc;split at hc
  ·rename_i x y hx hy;simp only[Lt]at hc;subst hc;obtain⟨a1,a2⟩:=iha x hx;obtain⟨b1,b2⟩:=ihb y hy;refine⟨QdZ a1 b1,λl rest h=>?_⟩;obtain⟨pr,h1,h2⟩:=(JM _ _ hc0 l).1 rest h;refine⟨pr,h1,h2,?_⟩;cases hf:findLabel a l with
   | some r=>
    simp only[findLabel,hf,Lt]at h;subst h;obtain⟨p1,q1,q2,q3⟩:=a2 l r hf;simp only[comp,q2,hy,Lt]at h2;subst h2;exact QdZ q3 b1
   | none=>
    simp only[findLabel,hf]at h;obtain⟨p1,q1,q2,q3⟩:=b2 l rest h;rw[h2]at q2;cases q2;exact q3
  ·cases hc
 | cond x a b iha ihb=>
  intro pc hc;refine⟨λks k A H hwf h=>?_,λl rest h=>by cases h⟩;simp only[comp]at hc;split at hc
  ·rename_i hok;split at hc
   ·rename_i pa pb ha hb;cases hc;simp only[Qs]at h;split at h
    ·rename_i t ht;cases t with
     | true=>
      obtain⟨ex,A1,H1,hw1,hf,hw⟩:=(iha pa ha).1 ks k A H hwf (h.1 rfl);exact⟨ex,A1,H1,hw1,hf,Z4 (t:=true) hok ht hw⟩
     | false=>
      obtain⟨ex,A1,H1,hw1,hf,hw⟩:=(ihb pb hb).1 ks k A H hwf (h.2 rfl);exact⟨ex,A1,H1,hw1,hf,Z4 (t:=false) hok ht hw⟩
    ·exact h.elim
   ·cases hc
  ·cases hc
 | block id b ih=>
  intro pc hc;refine⟨λks k A H hwf h=>?_,λl rest h=>by cases h⟩;simp only[comp,Lx]at hc;obtain⟨pb,hb,rfl⟩:=hc;cases hlt:Nat.blt id J0 with
  | false=>rw[hlt]at h;exact h.elim
  | true=>
   rw[hlt]at h;have hlt:id<J0:=by simpa using hlt
   obtain⟨ex,A1,H1,hw1,hf,hw⟩:=(ih pb hb).1 _ k A H hwf h;cases ex with
   | normal=>exact⟨.normal,A1,H1,hw1,hf,Xv (hw.mono (by rintro e A' H' ⟨rfl,rfl,rfl⟩;exact⟨rfl,rfl,rfl⟩))⟩
   | ret=>exact⟨.ret,A1,H1,hw1,hf,Xv (hw.mono (by rintro e A' H' ⟨rfl,rfl,rfl⟩;exact⟨rfl,rfl,rfl⟩))⟩
   | exit j=>
    simp only[Fp]at hf
    by_cases hj:j=id
    ·rw[Lc hj]at hf;exact⟨.normal,A1,H1,hw1,hf.2,Xv (hw.mono (by rintro e A' H' ⟨rfl,rfl,rfl⟩;simp only[Z5,Lc hj];exact⟨rfl,rfl,rfl⟩))⟩
    ·rw[Le hj]at hf;exact⟨.exit j,A1,H1,hw1,hf,Xv (hw.mono (by rintro e A' H' ⟨rfl,rfl,rfl⟩;simp only[Z5,Le hj];exact⟨rfl,rfl,rfl⟩))⟩
   | goto j=>
    simp only[Fp]at hf;rw[Le (by omega)]at hf;exact⟨.goto j,A1,H1,hw1,hf,Xv (hw.mono (by rintro e A' H' ⟨rfl,rfl,rfl⟩;exact⟨rfl,rfl,rfl⟩))⟩
   | panic v=>exact hf.elim
 | loop b ih=>
  intro pc hc;refine⟨λks k A H hwf h=>?_,λl rest h=>by cases h⟩;simp only[comp,Lx]at hc;obtain⟨pb,hb,rfl⟩:=hc;obtain⟨I,⟨m,hm⟩,hround⟩:=h;have key:∀m A H,H.Wf->I m A H->∃ex A1 H1,H1.Wf∧Fp ks k ex A1 H1∧Y5 P n b (Qat ex A1 H1) A H:=by
   intro m
   induction m using Nat.strongRecOn with
   | _ m ihm=>
    intro A H hwf hI;obtain⟨ex,A1,H1,hw1,hf,hw⟩:=(ih pb hb).1 ks _ A H hwf (hround m A H hI);cases ex with
    | normal=>
     obtain⟨m',hlt,hI'⟩:=hf;obtain⟨ex2,A2,H2,hw2,hf2,hl2⟩:=ihm m' hlt A1 H1 hw1 hI';exact⟨ex2,A2,H2,hw2,hf2,Yd (hw.mono (by rintro e A' H' ⟨rfl,rfl,rfl⟩;exact hl2))⟩
    | ret=>exact⟨.ret,A1,H1,hw1,hf,Yd (hw.mono (by rintro e A' H' ⟨rfl,rfl,rfl⟩;exact⟨rfl,rfl,rfl⟩))⟩
    | exit j=>exact⟨.exit j,A1,H1,hw1,hf,Yd (hw.mono (by rintro e A' H' ⟨rfl,rfl,rfl⟩;exact⟨rfl,rfl,rfl⟩))⟩
    | goto j=>exact⟨.goto j,A1,H1,hw1,hf,Yd (hw.mono (by rintro e A' H' ⟨rfl,rfl,rfl⟩;exact⟨rfl,rfl,rfl⟩))⟩
    | panic v=>exact hf.elim
  obtain⟨ex,A1,H1,hw1,hf,hw⟩:=key m A H hwf hm;exact⟨ex,A1,H1,hw1,hf,JZ hw⟩
 | scope b ih=>
  intro pc hc;refine⟨λks k A H hwf h=>?_,λl rest h=>by cases h⟩;simp only[comp,Lx]at hc;obtain⟨pb,hb,rfl⟩:=hc;have hsnd:=ih pb hb;have plain:(∀l,findLabel b l=none)->Qs P pb ks k A H->∃ex A1 H1,H1.Wf∧Fp ks k ex A1 H1∧AWp P n (.scope b) (Qat ex A1 H1) A H:=λhno h=>by
   obtain⟨ex,A1,H1,hw1,hf,hw⟩:=hsnd.1 ks k A H hwf h;refine⟨ex,A1,H1,hw1,hf,Yv (WC (hw.mono ?_))⟩;rintro e A' H' ⟨rfl,rfl,rfl⟩;cases e with
   | goto j=>simp only[Qez,hno j];exact⟨rfl,rfl,rfl⟩
   | _=>exact⟨rfl,rfl,rfl⟩
  unfold Qaq at h;split at h
  ·rename_i hl;refine plain (λl=>?_) h;cases hf:findLabel b l with
   | none=>rfl
   | some r=>
    obtain⟨pr,h1,_⟩:=hsnd.2 l r hf;have:=Xs _ _ _ h1;rw[hl]at this;cases this
  ·rename_i l hl;split at h
   ·rename_i r hr;obtain⟨I,⟨m,hm⟩,hround⟩:=h;obtain⟨rest,hrest⟩:∃rest,findLabel b l=some rest:=by
     cases hf:findLabel b l with
     | none=>rw[(JM b pb hb l).2 hf]at hr;cases hr
     | some rest=>exact⟨rest,rfl⟩
    obtain⟨pr,q1,q2,q3⟩:=hsnd.2 l rest hrest;rw[hr]at q1;cases q1;have hother:∀j,j≠l->findLabel b j=none:=λj hj=>by
     cases hf:findLabel b j with
     | none=>rfl
     | some r2=>
      obtain⟨pr2,h1,_⟩:=hsnd.2 j r2 hf;have:=Xs _ _ _ h1;rw[hl,Sa]at this;exact absurd this hj
    have key:∀m (c:Code) (pcc:PC),Snd P n c pcc->∀A H,H.Wf->Qs P pcc ⟨ks.ret,jmK l I m ks.ext⟩ k A H->∃ex A1 H1,H1.Wf∧Fp ks k ex A1 H1∧XQ P n b c (Qat ex A1 H1) A H:=by
     intro m
     induction m using Nat.strongRecOn with
     | _ m ihm=>
      intro c pcc hsc A H hwf hx;obtain⟨ex,A1,H1,hw1,hf,hw⟩:=hsc _ k A H hwf hx;cases ex with
      | normal=>exact⟨.normal,A1,H1,hw1,hf,WC (hw.mono (by rintro e A' H' ⟨rfl,rfl,rfl⟩;exact⟨rfl,rfl,rfl⟩))⟩
      | ret=>exact⟨.ret,A1,H1,hw1,hf,WC (hw.mono (by rintro e A' H' ⟨rfl,rfl,rfl⟩;exact⟨rfl,rfl,rfl⟩))⟩
      | exit j=>
       simp only[Fp,jmK]at hf;rw[Le (by omega)]at hf;exact⟨.exit j,A1,H1,hw1,hf,WC (hw.mono (by rintro e A' H' ⟨rfl,rfl,rfl⟩;exact⟨rfl,rfl,rfl⟩))⟩
      | goto j=>
       simp only[Fp,jmK]at hf
       by_cases hj:j=l
       ·subst hj;rw[Lc rfl]at hf;obtain⟨m',hlt,hI⟩:=hf;obtain⟨ex2,A2,H2,hw2,hf2,hs2⟩:=ihm m' hlt rest r q3 A1 H1 hw1 (hround m' A1 H1 hI);refine⟨ex2,A2,H2,hw2,hf2,WC (hw.mono ?_)⟩;rintro e A' H' ⟨rfl,rfl,rfl⟩;simp only[Qez,hrest];exact hs2
       ·rw[Le (by omega)]at hf;refine⟨.goto j,A1,H1,hw1,hf,WC (hw.mono ?_)⟩;rintro e A' H' ⟨rfl,rfl,rfl⟩;simp only[Qez,hother j hj];exact⟨rfl,rfl,rfl⟩
      | panic v=>exact hf.elim
    obtain⟨ex,A1,H1,hw1,hf,hw⟩:=key m b pb hsnd.1 A H hwf hm;exact⟨ex,A1,H1,hw1,hf,Yv hw⟩
   ·exact h.elim
  ·exact h.elim
theorem Qbn (c:Code) (pc:PC) (ks:Kp) (k:Env->Qa->Prop) (A:Env) (H:Qa) (hwf:H.Wf) (hc:comp P n c=some pc) (h:Qs P pc ks k A H):
  ∃ex A1 H1,H1.Wf∧Fp ks k ex A1 H1∧AWp P n c (Qat ex A1 H1) A H:=(Qau c pc hc).1 ks k A H hwf h
def Qgx (P:Program) (fn:Func) (k:Value->Qa->Prop):Env->Qa->Prop:=λA H=>∃v,X1 P fn.ntmps fn.results A H=some v∧∃H2,Q5 H2 H∧(H.Wf->H2.Wf)∧k v H2
theorem Gv {f:FuncId} {fn:Func} {pc:PC} {args:List Value} {H:Qa} {k:Value->Qa->Prop} (hf:P.funcs[f]? = some fn) (hcb:fn.body.bind (comp P fn.ntmps)=some pc) (he:entered P f=true) (hl:args.length<=fn.ntmps)
  (h:H.Wf->Qs P pc ⟨Qgx P fn λv H'=>H.next<=H'.next∧k v H',λ_ _ _=>False⟩ (Qgx P fn λv H'=>H.next<=H'.next∧k v H') (W9 args) H):Qm P f args H k:=by
 obtain⟨c,hb,hc⟩:=BY.1 hcb;intro hwf;obtain⟨ex,A1,H1,hw1,hfp,hw⟩:=Qbn c pc _ _ (W9 args) H hwf hc (h hwf);have en:args.length+(fn.ntmps - args.length)=fn.ntmps:=by omega
 have main:Qgx P fn (λv H'=>H.next<=H'.next∧k v H') A1 H1->(ex=.normal∨ex=.ret)->∃v H',Wk P f args H v H'∧H.next<=H'.next∧H'.Wf∧k v H':=fun⟨v,hv,H2,hle,hw2,hn,hk⟩ hex=>by
  refine⟨v,H2,.inl ⟨he,ZQ hf hb ?_⟩,hn,hw2 hw1,hk⟩;rw[en];refine hw.mono ?_;rintro e A' H' ⟨rfl,rfl,rfl⟩;rcases hex with rfl | rfl
  ·exact⟨v,rfl,hv,hle⟩
  ·exact⟨v,rfl,hv,hle⟩
 cases ex with
 | normal=>exact main hfp (.inl rfl)
 | ret=>exact main hfp (.inr rfl)
 | exit j=>exact hfp.2.elim
 | goto j=>exact hfp.elim
 | panic v=>exact hfp.elim
theorem YQ.mono {l:Nat} {args:List Value} {H:Qa} {k k':Value->Qa->Prop} (h:YQ P l args H k) (hk:∀v H',k v H'->k' v H'):YQ P l args H k':=by
 intro hw;obtain⟨v,H',h1,h2,h3,h4⟩:=h hw;exact⟨v,H',h1,h2,h3,hk v H' h4⟩
theorem YQ.then {l:Nat} {args:List Value} {H:Qa} {k k':Value->Qa->Prop} (h:YQ P l args H k) (hk:∀v H',H.next<=H'.next->k v H'->k' v H'):YQ P l args H k':=by
 intro hw;obtain⟨v,H',h1,h2,h3,h4⟩:=h hw;exact⟨v,H',h1,h2,h3,hk v H' h2 h4⟩
theorem Qm.mono {f:FuncId} {args:List Value} {H:Qa} {k k':Value->Qa->Prop} (h:Qm P f args H k) (hk:∀v H',k v H'->k' v H'):Qm P f args H k':=by
 intro hw;obtain⟨v,H',h1,h2,h3,h4⟩:=h hw;exact⟨v,H',h1,h2,h3,hk v H' h4⟩
theorem Qm.then {f:FuncId} {args:List Value} {H:Qa} {k k':Value->Qa->Prop} (h:Qm P f args H k) (hk:∀v H',H.next<=H'.next->k v H'->k' v H'):Qm P f args H k':=by
 intro hw;obtain⟨v,H',h1,h2,h3,h4⟩:=h hw;exact⟨v,H',h1,h2,h3,hk v H' h2 h4⟩
end
def Qa.up (H:Qa) (m:Nat):Qa:=⟨m,H.tr⟩
theorem Qbo (H:Qa) (m id:Nat):(H.up m).get id=H.get id:=Nu rfl rfl
@[simp] theorem G9 (H:Qa) (m:Nat):(H.up m).next=m:=Nu rfl rfl
@[simp] theorem Qa.up_up (H:Qa) (m m':Nat):(H.up m).up m'=H.up m':=rfl
theorem Q5.up {H H1:Qa} {m:Nat} (hm:H1.next<=m) (h:∀id b,H.get id=some b->H1.get id=some b):Q5 (H.up m) H1:=⟨hm,h⟩
abbrev t (n:Nat):Operand:=.tmp n
def U:Env:=λ_=>undef
theorem Qbp (A:Env) (d:Nat) (v:Value):upd A d v d=v:=YV A d v
theorem Qd0 (A:Env) (d n:Nat) (v:Value):upd A d v n=bif n==d then v else A n:=by
 by_cases h:n=d
 ·subst h;simp
 ·have e:(n==d)=false:=beq_false_of_ne h;rw[Xd A v h,e];rfl
theorem Qk5 (A:Env) (n:Nat):ev A (t n)=A n:=Nu rfl rfl
theorem Qbq (A:Env) (v:Value):ev A (.const v)=v:=Nu rfl rfl
theorem QeN (A:Env) (g:Nat):ev A (.global g)=.pointer (some ⟨g,0,none⟩):=Nu rfl rfl
theorem QiO (A:Env) (f:Nat):ev A (.func f)=.func (.func f) #[] #[]:=Nu rfl rfl
theorem VE (A:Env) (d:Nat) (v:Value):Q6 A (some d) v=upd A d v:=Nu rfl rfl
theorem VF (A:Env) (v:Value):Q6 A none v=A:=Nu rfl rfl
theorem Qln:W9 []=U:=by funext n;simp[W9,U]
theorem Qlo (a:Value):W9 [a]=upd U 0 a:=by
 funext n;rcases n with _ | n<;>rfl
theorem Qlp (a b:Value):W9 [a,b]=upd (upd U 0 a) 1 b:=by
 funext n;rcases n with _ | _ | n<;>rfl
theorem Qlq (a b c:Value):W9 [a,b,c]=upd (upd (upd U 0 a) 1 b) 2 c:=by
 funext n;rcases n with _ | _ | _ | n<;>rfl
section
variable {k:Value->Qa->Prop} {v:Value} {H H':Qa}
theorem Qi:onS (some (v,H')) k=k v H':=by
 apply propext;constructor
 ·rintro⟨v1,H1,h,hk⟩;cases h;exact hk
 ·exact λh=>⟨_,_,rfl,h⟩
theorem Gw:onS none k=False:=by
 apply propext;constructor
 ·rintro⟨v1,H1,h,hk⟩;cases h
 ·exact λh=>h.elim
theorem Jp {c:Prop} [Decidable c] {a:Option (Value×Qa)}:onS (if c then a else none) k=(c∧onS a k):=by
 by_cases h:c
 ·simp[h]
 ·simp[h,Gw]
theorem Zf {r:Option Value}:onS (Zb H r) k=∃v,r=some v∧k v H:=by
 cases r with
 | none=>simp[Zb,Gw]
 | some u=>simp[Zb,Qi]
end
/-! ### Code -/
section
variable {P:Program}
def Gx (P:Program) (l:List PO) (k:Env->Qa->Prop) (A:Env) (d:Option Nat) (v:Value) (H:Qa):Prop:=Xi P l k (Q6 A d v) H
theorem Qc0 (l:List PO) (k:Env->Qa->Prop) (A:Env) (d:Nat) (v:Value) (H:Qa):Gx P l k A (some d) v H=Xi P l k (upd A d v) H:=Nu rfl rfl
theorem Qc1 (l:List PO) (k:Env->Qa->Prop) (A:Env) (v:Value) (H:Qa):Gx P l k A none v H=Xi P l k A H:=Nu rfl rfl
def gB (b:Bool) (P:Program) (r:R) (s:Bool) (l:List PO) (k:Env->Qa->Prop) (A:Env) (d:Option Nat) (H:Qa):Prop:=
 (b=true->pr P r s A H (Gx P l k A d))∧(b=false->Xi P l k (Q6 A d undef) H)
def gV (v:Value) (w:Bool) (P:Program) (r:R) (s:Bool) (l:List PO) (k:Env->Qa->Prop) (A:Env) (d:Option Nat) (H:Qa):Prop:=
 match v with
 | .bool b=>gB (b==w) P r s l k A d H
 | .tuple _=>Xi P l k (Q6 A d undef) H
 | _=>False
theorem QiP (r:R) (s:Bool) (l:List PO) (k:Env->Qa->Prop) (A:Env) (d:Option Nat) (H:Qa):gB true P r s l k A d H=pr P r s A H (Gx P l k A d):=by simp[gB]
theorem Qgy (r:R) (s:Bool) (l:List PO) (k:Env->Qa->Prop) (A:Env) (d:Option Nat) (H:Qa):gB false P r s l k A d H=Xi P l k (Q6 A d undef) H:=by simp[gB]
theorem QiQ (b w:Bool) (r:R) (s:Bool) (l:List PO) (k:Env->Qa->Prop) (A:Env) (d:Option Nat) (H:Qa):gV (.bool b) w P r s l k A d H=gB (b==w) P r s l k A d H:=Nu rfl rfl
theorem Qgz (w:Bool) (r:R) (s:Bool) (l:List PO) (k:Env->Qa->Prop) (A:Env) (d:Option Nat) (H:Qa):gV undef w P r s l k A d H=Xi P l k (Q6 A d undef) H:=Nu rfl rfl
theorem bt (b:Bool):(b==true)=b:=by cases b<;>rfl
theorem bf (b:Bool):(b==false)=!b:=by cases b<;>rfl
theorem QgA (k:Env->Qa->Prop) (A:Env) (H:Qa):Xi P [] k A H=k A H:=Nu rfl rfl
theorem QeO (d:Option Nat) (r:R) (s:Bool) (l:List PO) (k:Env->Qa->Prop) (A:Env) (H:Qa):Xi P (⟨d,r,none,s⟩::l) k A H=pr P r s A H (Gx P l k A d):=Nu rfl rfl
theorem Qc2 (d:Option Nat) (r:R) (n:Nat) (w s:Bool) (l:List PO) (k:Env->Qa->Prop) (A:Env) (H:Qa):Xi P (⟨d,r,some (n,w),s⟩::l) k A H=gV (A n) w P r s l k A d H:=by
 show pg (some (n,w)) A (pr P r s A H (Gx P l k A d)) (Xi P l k (Q6 A d undef) H)=_;show(match A n with | .bool b=>if b=w then pr P r s A H (Gx P l k A d) else Xi P l k (Q6 A d undef) H | .tuple _=>Xi P l k (Q6 A d undef) H | _=>False)=_;unfold gV;cases A n<;>try rfl
 rename_i b;cases b<;>cases w<;>simp[gB]
theorem Qc3 (ks:Kp) (k:Env->Qa->Prop) (A:Env) (H:Qa):Qs P .skip ks k A H=k A H:=Nu rfl rfl
theorem QeP (ks:Kp) (k:Env->Qa->Prop) (A:Env) (H:Qa):Qs P .ret ks k A H=ks.ret A H:=Nu rfl rfl
theorem Qc4 (id:Nat) (ks:Kp) (k:Env->Qa->Prop) (A:Env) (H:Qa):Qs P (.exit id) ks k A H=ks.ext id A H:=Nu rfl rfl
theorem QeQ (l:List PO) (ks:Kp) (k:Env->Qa->Prop) (A:Env) (H:Qa):Qs P (.ops l) ks k A H=Xi P l k A H:=Nu rfl rfl
theorem QeR (a b:PC) (ks:Kp) (k:Env->Qa->Prop) (A:Env) (H:Qa):Qs P (.seq a b) ks k A H=Qs P a ks (Qs P b ks k) A H:=Nu rfl rfl
theorem Qbr (l:Nat) (ks:Kp) (k:Env->Qa->Prop) (A:Env) (H:Qa):Qs P (.label l) ks k A H=k A H:=Nu rfl rfl
theorem Qc5 (l:Nat) (ks:Kp) (k:Env->Qa->Prop) (A:Env) (H:Qa):Qs P (.goto l) ks k A H=ks.ext (J0+l) A H:=Nu rfl rfl
def exK (id:Nat) (k:Env->Qa->Prop) (e:Nat->Env->Qa->Prop) (j:Nat):Env->Qa->Prop:=if j=id then k else e j
theorem QgB (id:Nat) (k:Env->Qa->Prop) (e:Nat->Env->Qa->Prop) (A:Env) (H:Qa):exK id k e id A H=k A H:=by simp[exK]
theorem QeS (id j:Nat) (k:Env->Qa->Prop) (e:Nat->Env->Qa->Prop) (A:Env) (H:Qa) (h:j≠id):exK id k e j A H=e j A H:=by simp[exK,h]
def QgC:Nat->Env->Qa->Prop:=λ_ _ _=>False
theorem Qbs (id:Nat) (b:PC) (ks:Kp) (k:Env->Qa->Prop) (A:Env) (H:Qa):Qs P (.block id b) ks k A H=Qs P b ⟨ks.ret,exK id k ks.ext⟩ k A H:=Nu rfl rfl
theorem Qkp (r:Env->Qa->Prop) (e:Nat->Env->Qa->Prop):(Kp.mk r e).ret=r:=Nu rfl rfl
theorem Qkq (r:Env->Qa->Prop) (e:Nat->Env->Qa->Prop):(Kp.mk r e).ext=e:=Nu rfl rfl
def cB (b:Bool) (P:Program) (x y:PC) (ks:Kp) (k:Env->Qa->Prop) (A:Env) (H:Qa):Prop:=(b=true->Qs P x ks k A H)∧(b=false->Qs P y ks k A H)
def cV (v:Value) (P:Program) (x y:PC) (ks:Kp) (k:Env->Qa->Prop) (A:Env) (H:Qa):Prop:=match v with
 | .bool b=>cB b P x y ks k A H
 | _=>False
theorem Qc6 (c:Operand) (x y:PC) (ks:Kp) (k:Env->Qa->Prop) (A:Env) (H:Qa):Qs P (.cond c x y) ks k A H=cV (ev A c) P x y ks k A H:=Nu rfl rfl
theorem QiR (b:Bool) (x y:PC) (ks:Kp) (k:Env->Qa->Prop) (A:Env) (H:Qa):cV (.bool b) P x y ks k A H=cB b P x y ks k A H:=Nu rfl rfl
theorem QiS (x y:PC) (ks:Kp) (k:Env->Qa->Prop) (A:Env) (H:Qa):cB true P x y ks k A H=Qs P x ks k A H:=by simp[cB]
theorem QgD (x y:PC) (ks:Kp) (k:Env->Qa->Prop) (A:Env) (H:Qa):cB false P x y ks k A H=Qs P y ks k A H:=by simp[cB]
/-! ### Operations -/
variable {k:Value->Qa->Prop} {A:Env} {H:Qa}
def flK (H:Qa) (k:Value->Qa->Prop) (v:Value) (H':Qa):Prop:=Qx H.next 6 v=true∧k v H'
theorem QeT (H:Qa) (k:Value->Qa->Prop) (v:Value) (H':Qa):flK H k v H'=(Qx H.next 6 v=true∧k v H'):=Nu rfl rfl
def stK (H:Qa) (k:Value->Qa->Prop) (v:Value) (H':Qa):Prop:=(∀id,H'.get id=H.get id)∧k v H'
theorem QeU (H:Qa) (k:Value->Qa->Prop) (v:Value) (H':Qa):stK H k v H'=((∀id,H'.get id=H.get id)∧k v H'):=Nu rfl rfl
theorem Qy (r:Option (Value×Qa)):onS r (λv H'=>(false=true->Qx H.next 6 v=true)∧k v H')=onS r k:=by
 congr 1;funext v H';simp
theorem QiT (r:Option (Value×Qa)):onS r (λv H'=>(true=true->Qx H.next 6 v=true)∧k v H')=onS r (flK H k):=by
 congr 1;funext v H';simp[flK]
theorem QiU (f:FuncId) (l:List Operand):pr P (.call f l) false A H k=Qm P f (l.map (ev A)) H k:=by
 show Qm P f (l.map (ev A)) H (λv H'=>(false=true->∀id,H'.get id=H.get id)∧k v H')=_;congr 1;funext v H';simp
theorem Qc7 (f:FuncId) (l:List Operand):pr P (.call f l) true A H k=Qm P f (l.map (ev A)) H (stK H k):=by
 show Qm P f (l.map (ev A)) H (λv H'=>(true=true->∀id,H'.get id=H.get id)∧k v H')=_;congr 1;funext v H';simp[stK]
def kpK (H:Qa) (k:Value->Qa->Prop) (v:Value) (H':Qa):Prop:=EqB H H'∧k v H'
theorem QeV (H:Qa) (k:Value->Qa->Prop) (v:Value) (H':Qa):kpK H k v H'=(EqB H H'∧k v H'):=Nu rfl rfl
def Qc8 (n:Nat):List Value->Prop
 | []=>True
 | v::l=>Ko n v∧Qc8 n l
theorem QgE (n:Nat):Qc8 n []=True:=Nu rfl rfl
theorem QeW (n:Nat) (v:Value) (l:List Value):Qc8 n (v::l)=(Ko n v∧Qc8 n l):=Nu rfl rfl
theorem QgF (n b o:Nat):Ko n (.pointer (some ⟨b,o,none⟩))=(b<n):=Nu rfl rfl
theorem Qc9 (n b o l c:Nat):Ko n (.slice (some ⟨b,o,none⟩) l c)=(b<n):=Nu rfl rfl
theorem Qbt (n:Nat) (f:Operand->Value):∀l:List Operand,(∀z∈l,Ko n (f z))↔Qc8 n (l.map f)
 | []=>⟨λ_=>trivial,λ_ _ h=>by cases h⟩
 | x::l=>by
  have ih:=Qbt n f l;simp only[LK,forall_eq_or_imp,NZ,Qc8,ih]
theorem QgG (f:FuncId) (l os:List Operand) (s:Bool):pr P (.callF f l os) s A H k=(Qc8 H.next (os.map (ev A))∧Qm P f (l.map (ev A)) H (kpK H k)):=by
 show((∀z∈os,Ko H.next (ev A z))∧Qm P f (l.map (ev A)) H λv H'=>EqB H H'∧k v H')=_;rw[Qbt];rfl
def cvK (v:Value) (P:Program) (l:List Value) (H:Qa) (k:Value->Qa->Prop):Prop:=match v with
 | .func (.func f) xs ys=>Qm P f (xs.toList++l++ys.toList) H k
 | .func (.yield y) ⟨[]⟩ ⟨[]⟩=>YQ P y l H k
 | _=>False
theorem QgH (c:Operand) (l:List Operand):pr P (.callv c l) false A H k=cvK (ev A c) P (l.map (ev A)) H k:=by
 show(match ev A c with | .func (.func f) xs ys=>Qm P f (xs.toList++l.map (ev A)++ys.toList) H (λv H'=>(false=true->∀id,H'.get id=H.get id)∧k v H') | .func (.yield y) ⟨[]⟩ ⟨[]⟩=>YQ P y (l.map (ev A)) H (λv H'=>(false=true->∀id,H'.get id=H.get id)∧k v H') | _=>False)=_;unfold cvK;split<;>first | rfl | skip
 all_goals (congr 1;funext v H';simp)
theorem Qk6 (x:Operand):pr P (.mv x) false A H k=k (ev A x) H:=(Qy _).trans Qi
def QjE (c x y:Value) (H:Qa) (k:Value->Qa->Prop):Prop:=onS (match c with | .bool b=>some (bif b then x else y,H) | _=>none) k
theorem QiV (c x y:Operand):pr P (.pick c x y) false A H k=QjE (ev A c) (ev A x) (ev A y) H k:=Qy _
theorem Qda (b:Bool) (x y:Value):QjE (.bool b) x y H k=k (bif b then x else y) H:=Qi
def W2 (op:BinOp) (x y:Value) (H:Qa) (k:Value->Qa->Prop):Prop:=∃v,W0 op x y=some v∧k v H
theorem Qkr (op:BinOp) (x y:Operand):pr P (.bin op x y) false A H k=W2 op (ev A x) (ev A y) H k:=(Qy _).trans Zf
theorem QG {op:BinOp} {x y v:Value} (h:W0 op x y=some v):W2 op x y H k=k v H:=by
 apply propext;constructor
 ·rintro⟨u,h1,h2⟩;rw[h]at h1;cases h1;exact h2
 ·exact λhk=>⟨v,h,hk⟩
theorem QiW (ik:IntKind) (a b:Int):W2 .add (.int ik a) (.int ik b) H k=k (.int ik (ik.wrap (a+b))) H:=QG (by simp[W0,QX])
theorem QiX (ik:IntKind) (a b:Int):W2 .sub (.int ik a) (.int ik b) H k=k (.int ik (ik.wrap (a - b))) H:=QG (by simp[W0,QX])
theorem QiY (ik:IntKind) (a b:Int):W2 .mul (.int ik a) (.int ik b) H k=k (.int ik (ik.wrap (a * b))) H:=QG (by simp[W0,QX])
theorem QiZ (ik:IntKind) (a b:Int):W2 .and (.int ik a) (.int ik b) H k=k (.int ik (ik.wrap (BitVec.ofInt ik.bits a &&& BitVec.ofInt ik.bits b).toNat)) H:=QG (by simp[W0,QX])
theorem Qks (ik:IntKind) (a b:Int):W2 .or (.int ik a) (.int ik b) H k=k (.int ik (ik.wrap (BitVec.ofInt ik.bits a ||| BitVec.ofInt ik.bits b).toNat)) H:=QG (by simp[W0,QX])
theorem Qi0 (ik:IntKind) (a b:Int):W2 .xor (.int ik a) (.int ik b) H k=k (.int ik (ik.wrap (BitVec.ofInt ik.bits a ^^^ BitVec.ofInt ik.bits b).toNat)) H:=QG (by simp[W0,QX])
theorem Qdb (ik:IntKind) (a b:Int):W2 .andNot (.int ik a) (.int ik b) H k=k (.int ik (ik.wrap (BitVec.ofInt ik.bits a &&& ~~~BitVec.ofInt ik.bits b).toNat)) H:=QG (by simp[W0,QX])
theorem Qi1 (ik:IntKind) (a b:Int):W2 .eql (.int ik a) (.int ik b) H k=k (.bool (a==b)) H:=QG (by simp[W0,QX])
theorem Qi2 (ik:IntKind) (a b:Int):W2 .neq (.int ik a) (.int ik b) H k=k (.bool (!(a==b))) H:=QG (by simp[W0,QX,bne])
theorem Qi3 (ik:IntKind) (a b:Int):W2 .lss (.int ik a) (.int ik b) H k=k (.bool (decide (a<b))) H:=QG (by simp[W0,QX])
theorem Qi4 (ik:IntKind) (a b:Int):W2 .leq (.int ik a) (.int ik b) H k=k (.bool (decide (a<=b))) H:=QG (by simp[W0,QX])
theorem Qi5 (ik:IntKind) (a b:Int):W2 .gtr (.int ik a) (.int ik b) H k=k (.bool (decide (b<a))) H:=QG (by simp[W0,QX])
theorem Qi6 (ik:IntKind) (a b:Int):W2 .geq (.int ik a) (.int ik b) H k=k (.bool (decide (b<=a))) H:=QG (by simp[W0,QX])
theorem Qi7 (ik:IntKind) (a b:Int):W2 .rem (.int ik a) (.int ik b) H k=(b≠0∧k (.int ik (a.tmod b)) H):=by
 unfold W2;by_cases h:b=0<;>simp[W0,QX,h]
theorem Qi8 (ik:IntKind) (a b:Int):W2 .quo (.int ik a) (.int ik b) H k=(b≠0∧k (.int ik (ik.wrap (a.tdiv b))) H):=by
 unfold W2;by_cases h:b=0<;>simp[W0,QX,h]
theorem Qi9 (ik ik':IntKind) (a b:Int):W2 .shl (.int ik a) (.int ik' b) H k=(0<=b∧k (.int ik (ik.wrap (a * 2 ^ (min b.toNat ik.bits)))) H):=by
 unfold W2;by_cases h:b<0
 ·simp[W0,W8,h];omega
 ·simp[W0,W8,h];intro _;omega
theorem Qja (ik ik':IntKind) (a b:Int):W2 .shr (.int ik a) (.int ik' b) H k=(0<=b∧k (.int ik (a.fdiv (2 ^ (min b.toNat ik.bits)))) H):=by
 unfold W2;by_cases h:b<0
 ·simp[W0,W8,h];omega
 ·simp[W0,W8,h];intro _;omega
theorem Qjb (a b:ByteArray):W2 .eql (.string a) (.string b) H k=k (.bool (bl a==bl b)) H:=QG (by simp[W0,ZN])
theorem Qjc (a b:ByteArray):W2 .neq (.string a) (.string b) H k=k (.bool (!(bl a==bl b))) H:=QG (by simp[W0,ZN])
theorem QgI (a b:ByteArray):W2 .add (.string a) (.string b) H k=((bl a).length+(bl b).length<=9223372036854775807∧k (.string (mkS (bl a++bl b))) H):=by
 unfold W2;by_cases h:(bl a).length+(bl b).length<=9223372036854775807<;>simp[W0,ZN,h]
def Qkt (ne:Bool) (x y:Value) (H:Qa) (k:Value->Qa->Prop):Prop:=onS (match x,y with | .bool a,.bool b=>some (.bool (bif ne then !(a==b) else a==b),H) | _,_=>none) k
theorem Qku (ne:Bool) (x y:Operand):pr P (.beq ne x y) false A H k=Qkt ne (ev A x) (ev A y) H k:=Qy _
theorem Qjd (a b:Bool):Qkt false (.bool a) (.bool b) H k=k (.bool (a==b)) H:=Qi
theorem Qje (a b:Bool):Qkt true (.bool a) (.bool b) H k=k (.bool (!(a==b))) H:=Qi
def Qlr (ne:Bool) (ks:List Sk) (x y:Value) (H:Qa) (k:Value->Qa->Prop):Prop:=onS (match x,y with
 | .agg xs,.agg ys=>match YC ks xs ys 0 with | some b=>some (.bool (bif ne then !b else b),H) | none=>none
 | _,_=>none) k
theorem Qkv (ne:Bool) (ks:List Sk) (x y:Operand):pr P (.eqs ne ks x y) false A H k=Qlr ne ks (ev A x) (ev A y) H k:=Qy _
def Qk7 (x:Value) (H:Qa) (k:Value->Qa->Prop):Prop:=onS (match x with | .bool b=>some (.bool !b,H) | _=>none) k
theorem Qkw (x:Operand):pr P (.not x) false A H k=Qk7 (ev A x) H k:=Qy _
theorem QeX (b:Bool):Qk7 (.bool b) H k=k (.bool !b) H:=Qi
def QgJ (ik:IntKind) (x:Value) (H:Qa) (k:Value->Qa->Prop):Prop:=onS (match x with | .int _ m=>some (.int ik (ik.wrap m),H) | _=>none) k
theorem QgK (ik:IntKind) (x:Operand):pr P (.toInt ik x) false A H k=QgJ ik (ev A x) H k:=Qy _
theorem Qdc (ik ik':IntKind) (m:Int):QgJ ik (.int ik' m) H k=k (.int ik (ik.wrap m)) H:=Qi
theorem Qjf (ty:TypeId) (x:Operand):pr P (.mkIf ty x) false A H k=k (.iface ty (ev A x)) H:=(Qy _).trans Qi
def Qkx (agg:Bool) (off size:Nat) (x:Value) (H:Qa) (k:Value->Qa->Prop):Prop:=onS (match x with
 | .agg cs=>Zb H (bif agg then some (.agg (cs.extract off (off+size))) else cs[off]?)
 | _=>none) k
theorem Qky (agg:Bool) (off size:Nat) (x:Operand):pr P (.fld agg off size x) false A H k=Qkx agg off size (ev A x) H k:=Qy _
theorem QeY (off size:Nat) (l:List Value):Qkx false off size (.agg l.toArray) H k=∃v,l[off]? = some v∧k v H:=by
 show onS (Zb H l.toArray[off]?) k=_;rw[Zf];simp
theorem QgL (off size:Nat) (l:List Value):Qkx true off size (.agg l.toArray) H k=k (.agg ((l.drop off).take size).toArray) H:=by
 show onS (Zb H (some (.agg (l.toArray.extract off (off+size))))) k=_;rw[Zf];simp
def QjF (off:Nat) (x:Value) (H:Qa) (k:Value->Qa->Prop):Prop:=onS (match x with | .pointer (some a)=>some (.pointer (some ⟨a.block,a.off+off,none⟩),H) | _=>none) k
theorem Qjg (off:Nat) (x:Operand):pr P (.fldA off x) false A H k=QjF off (ev A x) H k:=Qy _
theorem QeZ (off b o:Nat):QjF off (.pointer (some ⟨b,o,none⟩)) H k=k (.pointer (some ⟨b,o+off,none⟩)) H:=Qi
def Qk8 (size:Nat) (x ix:Value) (H:Qa) (k:Value->Qa->Prop):Prop:=onS (match ix,x with
 | .int _ m,.slice (some a) len _=>if 0<=m∧m<len then some (.pointer (some ⟨a.block,a.off+m.toNat * size,none⟩),H) else none
 | _,_=>none) k
theorem Qjh (size:Nat) (x ix:Operand):pr P (.idxS size x ix) false A H k=Qk8 size (ev A x) (ev A ix) H k:=Qy _
theorem Qdd (size:Nat) (ik:IntKind) (m:Int) (b o len cap:Nat):Qk8 size (.slice (some ⟨b,o,none⟩) len cap) (.int ik m) H k=((0<=m∧m<len)∧k (.pointer (some ⟨b,o+m.toNat * size,none⟩)) H):=by
 show onS (if 0<=m∧m<len then some (.pointer (some ⟨b,o+m.toNat * size,none⟩),H) else none) k=_;rw[Jp,Qi]
def Qk9 (x ix:Value) (H:Qa) (k:Value->Qa->Prop):Prop:=onS (match ix,x with
 | .int _ m,.string s=>if 0<=m then(match (bl s)[m.toNat]? with | some b=>some (.int .u8 b.toNat,H) | none=>none) else none
 | _,_=>none) k
theorem Qkz (x ix:Operand):pr P (.chr x ix) false A H k=Qk9 (ev A x) (ev A ix) H k:=Qy _
theorem QgM (ik:IntKind) (m:Int) (s:ByteArray):Qk9 (.string s) (.int ik m) H k=(0<=m∧∃b,(bl s)[m.toNat]? = some b∧k (.int .u8 b.toNat) H):=by
 show onS (if 0<=m then(match (bl s)[m.toNat]? with | some b=>some (.int .u8 b.toNat,H) | none=>none) else none) k=_;rw[Jp];congr 1;cases hb:(bl s)[m.toNat]? with
 | some b=>simp[Qi]
 | none=>simp[Gw]
def Qji (x:Value) (i:Nat) (H:Qa) (k:Value->Qa->Prop):Prop:=onS (match x with | .tuple vs=>Zb H vs[i]? | _=>none) k
theorem QkA (x:Operand) (i:Nat):pr P (.ext x i) false A H k=Qji (ev A x) i H k:=Qy _
theorem QkB (a:Value) (l:List Value):Qji (.tuple (a::l).toArray) 0 H k=k a H:=Qi
theorem QkC (a b:Value) (l:List Value):Qji (.tuple (a::b::l).toArray) 1 H k=k b H:=Qi
theorem QkD (a b c:Value) (l:List Value):Qji (.tuple (a::b::c::l).toArray) 2 H k=k c H:=Qi
def Gy (ty:TypeId) (z:Value) (ok:Bool) (x:Value) (H:Qa) (k:Value->Qa->Prop):Prop:=onS (match x with
 | .nilIface=>bif ok then some (.tuple #[z,.bool false],H) else none
 | .iface u v=>if u=ty then some (bif ok then .tuple #[v,.bool true] else v,H) else(bif ok then some (.tuple #[z,.bool false],H) else none)
 | _=>none) k
theorem Qjj (ty:TypeId) (z:Value) (ok:Bool) (x:Operand):pr P (.asrt ty z ok x) false A H k=Gy ty z ok (ev A x) H k:=Qy _
theorem Qe0 (ty:TypeId) (z v:Value):Gy ty z true (.iface ty v) H k=k (.tuple #[v,.bool true]) H:=by simp[Gy,Qi]
theorem QgN (ty u:TypeId) (z v:Value) (h:u≠ty):Gy ty z true (.iface u v) H k=k (.tuple #[z,.bool false]) H:=by simp[Gy,h,Qi]
theorem Qde (ty:TypeId) (z v:Value):Gy ty z false (.iface ty v) H k=k v H:=by simp[Gy,Qi]
def QgO (r:Option (List Value)) (H:Qa) (k:Value->Qa->Prop):Prop:=onS (match r with | some r=>some (.agg r.toArray,H) | none=>none) k
theorem QgP (z:List Value) (parts:List (Nat×Nat×Operand)):pr P (.build z parts) false A H k=QgO (Ka (ev A) z parts) H k:=Qy _
theorem Qbu (l:List Value):QgO (some l) H k=k (.agg l.toArray) H:=Qi
theorem Qe1 (f:Operand->Value) (cells:List Value):Ka f cells []=some cells:=Nu rfl rfl
theorem Qdf (f:Operand->Value) (cells:List Value) (off size:Nat) (x:Operand) (rest:List (Nat×Nat×Operand)):Ka f cells ((off,size,x)::rest)=if(f x).cells.toList.length=size∧off+size<=cells.length then Ka f (splice cells off (f x).cells.toList) rest else none:=Nu rfl rfl
def Qd1 (e len:Nat) (r:Option (List Value)) (H:Qa) (k:Value->Qa->Prop):Prop:=onS (match r with | some r=>some (.slice (some ⟨H.next,0,none⟩) len len,H.push (.cells r e false)) | none=>none) k
def Qd2 (size:Nat) (cells:List Value) (parts:List (Nat×Value)):Option (List Value):=XP (λi=>some (i * size,size)) cells parts
def evP (A:Env) (p:Nat×Operand):Nat×Value:=(p.1,ev A p.2)
theorem QkE (A:Env) (i:Nat) (x:Operand):evP A (i,x)=(i,ev A x):=Nu rfl rfl
theorem Qe2 (e size len:Nat) (z:List Value) (parts:List (Nat×Operand)):pr P (.bslice e size len z parts) false A H k=Qd1 e len (Qd2 size z (parts.map (evP A))) H k:=Qy _
theorem Qav (e len:Nat) (l:List Value):Qd1 e len (some l) H k=k (.slice (some ⟨H.next,0,none⟩) len len) (H.push (.cells l e false)):=Qi
theorem Qe3 (size:Nat) (cells:List Value):Qd2 size cells []=some cells:=Nu rfl rfl
theorem Qdg (size:Nat) (cells:List Value) (i:Nat) (v:Value) (rest:List (Nat×Value)):Qd2 size cells ((i,v)::rest)=if v.cells.toList.length=size∧i * size+size<=cells.length then Qd2 size (splice cells (i * size) v.cells.toList) rest else none:=Nu rfl rfl
theorem QgQ (e:TypeId) (z:List Value):pr P (.alloc e z) false A H k=k (.pointer (some ⟨H.next,0,none⟩)) (H.push (.cells z e false)):=(Qy _).trans Qi
theorem QkF (e:TypeId) (x:Operand):pr P (.box e x) false A H k=k (.pointer (some ⟨H.next,0,none⟩)) (H.push (.cells (ev A x).cells.toList e false)):=(Qy _).trans Qi
def QjG (e size bytes:Nat) (z:List Value) (x y:Value) (H:Qa) (k:Value->Qa->Prop):Prop:=onS (match x,y with
 | .int .i64 l,.int .i64 c=>if 0<=l∧l<=c∧(bytes:Int) * c<=281474976710656∧c<=9223372036854775807 then
   some (.slice (some ⟨H.next,0,none⟩) l.toNat c.toNat,H.push (.cells (Q0 z.toArray (c.toNat * size)) e false)) else none
 | _,_=>none) k
theorem Qjk (e size bytes:Nat) (z:List Value) (x y:Operand):pr P (.mkSl e size bytes z x y) false A H k=QjG e size bytes z (ev A x) (ev A y) H k:=Qy _
theorem Qe4 (e size bytes:Nat) (z:List Value) (l c:Int):QjG e size bytes z (.int .i64 l) (.int .i64 c) H k=((0<=l∧l<=c∧(bytes:Int) * c<=281474976710656∧c<=9223372036854775807)∧k (.slice (some ⟨H.next,0,none⟩) l.toNat c.toNat) (H.push (.cells (Q0 z.toArray (c.toNat * size)) e false))):=by
 show onS (if 0<=l∧l<=c∧(bytes:Int) * c<=281474976710656∧c<=9223372036854775807 then some (.slice (some ⟨H.next,0,none⟩) l.toNat c.toNat,H.push (.cells (Q0 z.toArray (c.toNat * size)) e false)) else none) k=_;rw[Jp,Qi]
def slK (size:Nat) (x:Value) (lo hi:Option (Option Int)) (H:Qa) (k:Value->Qa->Prop):Prop:=onS (match lo,hi with
 | some l,some h=>Zb H (Zo size x l h none)
 | _,_=>none) k
theorem QgR (size:Nat) (x:Value) (l h:Option Int):slK size x (some l) (some h) H k=∃v,Zo size x l h none=some v∧k v H:=Zf
theorem QkG (size:Nat) (x:Operand) (lo hi:Option Operand):pr P (.slS size x lo hi) false A H k=slK size (ev A x) (VB (ev A) lo) (VB (ev A) hi) H k:=Qy _
theorem Qdh (f:Operand->Value):VB f none=some none:=Nu rfl rfl
theorem Qdi (f:Operand->Value) (x:Operand):VB f (some x)=match f x with | .int _ m=>some (some m) | _=>none:=Nu rfl rfl
def ldB (agg:Bool) (size off:Nat) (b:Option Blk) (H:Qa) (k:Value->Qa->Prop):Prop:=onS (match b with
 | some (.cells c _ _)=>bif agg then(if off+size<=c.length then some (.agg ((c.drop off).take size).toArray,H) else none) else Zb H c[off]?
 | _=>none) k
def ldK (agg:Bool) (size:Nat) (x:Value) (H:Qa) (k:Value->Qa->Prop):Prop:=onS (match x with
 | .pointer (some a)=>match H.get a.block with
  | some (.cells c _ _)=>bif agg then(if a.off+size<=c.length then some (.agg ((c.drop a.off).take size).toArray,H) else none) else Zb H c[a.off]?
  | _=>none
 | _=>none) k
theorem Qla (agg:Bool) (size:Nat) (x:Operand):pr P (.ld agg size x) false A H k=ldK agg size (ev A x) H k:=Qy _
theorem QgS (agg:Bool) (size:Nat) (x:Operand):pr P (.ld agg size x) true A H k=ldK agg size (ev A x) H (flK H k):=QiT _
theorem Qjl (agg:Bool) (size b o:Nat):ldK agg size (.pointer (some ⟨b,o,none⟩)) H k=ldB agg size o (H.get b) H k:=Nu rfl rfl
theorem QgT (size off:Nat) (c:List Value) (e:TypeId) (ro:Bool):ldB false size off (some (.cells c e ro)) H k=∃v,c[off]? = some v∧k v H:=Zf
theorem Qjm (size off:Nat) (c:List Value) (e:TypeId) (ro:Bool):ldB true size off (some (.cells c e ro)) H k=(off+size<=c.length∧k (.agg ((c.drop off).take size).toArray) H):=by
 show onS (if off+size<=c.length then some (.agg ((c.drop off).take size).toArray,H) else none) k=_;rw[Jp,Qi]
def Qlb (size:Nat) (a:Addr) (y:Value) (b:Option Blk) (H:Qa) (k:Value->Qa->Prop):Prop:=onS (match b with
 | some (.cells c e false)=>if y.cells.toList.length=size∧a.off+y.cells.toList.length<=c.length∧y.cells.toList.all (·.oneCell')=true then some (undef,H.set a.block (.cells (splice c a.off y.cells.toList) e false)) else none
 | _=>none) k
def QkH (size:Nat) (x y:Value) (H:Qa) (k:Value->Qa->Prop):Prop:=onS (match x with
 | .pointer (some a)=>match H.get a.block with
  | some (.cells c e false)=>if y.cells.toList.length=size∧a.off+y.cells.toList.length<=c.length∧y.cells.toList.all (·.oneCell')=true then some (undef,H.set a.block (.cells (splice c a.off y.cells.toList) e false)) else none
  | _=>none
 | _=>none) k
theorem Qlc (size:Nat) (x y:Operand):pr P (.st size x y) false A H k=QkH size (ev A x) (ev A y) H k:=Qy _
theorem QgU (size b o:Nat) (y:Value):QkH size (.pointer (some ⟨b,o,none⟩)) y H k=Qlb size ⟨b,o,none⟩ y (H.get b) H k:=Nu rfl rfl
theorem Qdj (size b o:Nat) (y:Value) (c:List Value) (e:TypeId):Qlb size ⟨b,o,none⟩ y (some (.cells c e false)) H k=((y.cells.toList.length=size∧o+y.cells.toList.length<=c.length∧y.cells.toList.all (·.oneCell')=true)∧k undef (H.set b (.cells (splice c o y.cells.toList) e false))):=by
 show onS (if y.cells.toList.length=size∧o+y.cells.toList.length<=c.length∧y.cells.toList.all (·.oneCell')=true then some (undef,H.set b (.cells (splice c o y.cells.toList) e false)) else none) k=_;rw[Jp,Qi]
def apL:List Value->Value->Prop
 | [],_=>True
 | z::l,x=>ZX x z∧apL l x
def apK (os:List Value) (x:Value) (k:Value->Qa->Prop) (v:Value) (H':Qa):Prop:=apL os x∧k v H'
theorem VG (os:List Value) (x:Value) (k:Value->Qa->Prop) (v:Value) (H':Qa):apK os x k v H'=(apL os x∧k v H'):=Nu rfl rfl
theorem Qjn (x:Value):apL [] x=True:=Nu rfl rfl
theorem QgV (z x:Value) (l:List Value):apL (z::l) x=(ZX x z∧apL l x):=Nu rfl rfl
theorem Qdk (b o b' o':Nat):ZX (.pointer (some ⟨b,o,none⟩)) (.pointer (some ⟨b',o',none⟩))=(b'≠b):=Nu rfl rfl
theorem Qaw (b o:Nat):ZX (.pointer (some ⟨b,o,none⟩)) undef=True:=Nu rfl rfl
theorem Qjo (os:List Operand) (x:Value):apL (os.map (ev A)) x=∀z∈os,ZX x (ev A z):=by
 induction os with
 | nil=>simp[apL]
 | cons z l ih=>simp[apL,ih]
theorem QkI (size:Nat) (x y:Operand) (os:List Operand) (s:Bool):pr P (.stf size x y os) s A H k=QkH size (ev A x) (ev A y) H (apK (os.map (ev A)) (ev A x) k):=by
 show onS (rop P (.st size x y) A H) (λv H'=>(∀z∈os,ZX (ev A x) (ev A z))∧k v H')=onS (rop P (.st size x y) A H) _;congr 1;funext v H';rw[VG,Qjo]
def QjH (x:Value) (H:Qa) (k:Value->Qa->Prop):Prop:=onS (match x with | .slice _ m _=>some (.int .i64 (m:Int),H) | _=>none) k
theorem Qjp (x:Operand):pr P (.lenS x) false A H k=QjH (ev A x) H k:=Qy _
theorem Qbv (a:Option Addr) (len cap:Nat):QjH (.slice a len cap) H k=k (.int .i64 (len:Int)) H:=Qi
def QjI (x:Value) (H:Qa) (k:Value->Qa->Prop):Prop:=onS (match x with | .string s=>some (.int .i64 ((bl s).length:Int),H) | _=>none) k
theorem Qjq (x:Operand):pr P (.lenT x) false A H k=QjI (ev A x) H k:=Qy _
theorem Qe5 (s:ByteArray):QjI (.string s) H k=k (.int .i64 ((bl s).length:Int)) H:=Qi
def Qdl (e size bytes:Nat) (s x:Value) (H:Qa) (k:Value->Qa->Prop):Prop:=onS (YB e size bytes s x H) k
theorem QkJ (e size bytes:Nat) (x y:Operand):pr P (.app e size bytes x y) false A H k=Qdl e size bytes (ev A x) (ev A y) H k:=Qy _
theorem Jq (f:FuncId) (l:List Operand):pr P (.gen (.makeFunc (.func f) #[] l.toArray)) false A H k=k (.func (.func f) #[] (l.map (ev A)).toArray) H:=by
 have e:rop P (.gen (.makeFunc (.func f) #[] l.toArray)) A H=some (.func (.func f) #[] (l.map (ev A)).toArray,H):=by simp[rop,aop,ZT,XM]
 refine(Qy _).trans ?_;rw[e,Qi]
def Qld (v:Value) (H:Qa) (k:Value->Qa->Prop):Prop:=onS (bif Yq v then some (v,H) else none) k
theorem QkK (x:Operand):pr P (.gen (.nilCheck x)) false A H k=Qld (ev A x) H k:=by
 have e:rop P (.gen (.nilCheck x)) A H=(bif Yq (ev A x) then some (ev A x,H) else none):=by
  simp only[rop,aop,XD];cases Yq (ev A x)<;>rfl
 refine(Qy _).trans ?_;rw[e];rfl
theorem QgW (a:Addr):Qld (.pointer (some a)) H k=k (.pointer (some a)) H:=Qi
theorem Ke (ty:TypeId):pr P (.gen (.makeMap ty none)) false A H k=k (.map (some H.next)) (H.push (.map [])):=by
 have e:rop P (.gen (.makeMap ty none)) A H=some (.map (some H.next),H.push (.map [])):=by simp[rop,aop]
 refine(Qy _).trans ?_;rw[e,Qi]
theorem Qe6 {ty kt e:TypeId} {td:TypeDesc} {inf:TypeInfo} {z:Value} {x ix:Operand} {m:Nat} (h1:P.underlying ty=some (.map kt e)) (h2:P.underlying kt=some td) (h3:P.info? e=some inf) (h4:inf.zero=some z) (hz:Wp z=true) (hx:ev A x=.map (some m)) (hk:XR td (ev A ix)=true) (hm:H.get m=some (.map [])):
  pr P (.gen (.lookup ty x ix true)) false A H k=k (.tuple #[z,.bool false]) H:=by
 have e:rop P (.gen (.lookup ty x ix true)) A H=some (.tuple #[z,.bool false],H):=by simp[rop,aop,Je,h1,QdD,h2,h3,h4,hz,hx,hk,hm,K9]
 refine(Qy _).trans ?_;rw[e,Qi]
theorem QgX {ty kt e:TypeId} {td:TypeDesc} {x ix y:Operand} {m:Nat} (h1:P.underlying ty=some (.map kt e)) (h2:P.underlying kt=some td) (hx:ev A x=.map (some m)) (hk:XR td (ev A ix)=true) (hm:H.get m=some (.map [])):
  pr P (.gen (.mapUpdate ty x ix y)) false A H k=k undef (H.set m (.map [(ev A ix,ev A y)])):=by
 have e:rop P (.gen (.mapUpdate ty x ix y)) A H=some (undef,H.set m (.map [(ev A ix,ev A y)])):=by simp[rop,aop,Gd,h1,Qa1,h2,hx,hk,hm,K9]
 refine(Qy _).trans ?_;rw[e,Qi]
end
theorem Qbw {e size bytes m len b o cap:Nat} (h0:o=0) {news c:List Value} {x:Value} {H:Qa} (hx:JA size x H=some (m,news)) (h1:news.all (·.oneCell')=true) (hm:m≠0) (hb:H.get b=some (.cells c e false))
  (hlen:o+len * size=c.length) (hsum:(len+m) * bytes<=140737488355328) (hmax:len+m<=9223372036854775807) (hcap:UNK<=cap):
  YB e size bytes (.slice (some ⟨b,o,none⟩) len cap) x H=some (.slice (some ⟨H.next,0,none⟩) (len+m) (UNK+size),(H.kill b).push (.cells (c.drop o++news) e false)):=by
 simp only[YB,hx,h1,N3,hm,LN,hb];rw[Lc ⟨by omega,hmax,hsum⟩,Lc hcap,Lc ⟨trivial,trivial,h0,hlen⟩]
theorem Qbx {e size bytes m:Nat} {news:List Value} {x:Value} {H:Qa} (hx:JA size x H=some (m,news)) (h1:news.all (·.oneCell')=true) (hm:m≠0) (hsum:m * bytes<=140737488355328) (hmax:m<=9223372036854775807):
  YB e size bytes (.slice none 0 0) x H=some (.slice (some ⟨H.next,0,none⟩) m (UNK+size),H.push (.cells news e false)):=by
 simp only[YB,hx,h1,N3,hm,LN];rw[Lc ⟨hmax,hsum⟩]
/-! ### QjU of functions -/
def Ret (H0:Qa) (k:Value->Qa->Prop) (v:Value) (H:Qa):Prop:=∃H2,Q5 H2 H∧(H.Wf->H2.Wf)∧H0.next<=H2.next∧k v H2
theorem Ret.mk {H0 H:Qa} {k:Value->Qa->Prop} {v:Value} (hn:H0.next<=H.next) (h:k v H):Ret H0 k v H:=⟨H,.refl H,id,hn,h⟩
theorem Qa.Wf.up {H:Qa} (h:H.Wf) {m:Nat} (hm:H.next<=m):(H.up m).Wf:=λid hid=>h id (N8 hm hid)
theorem Ret.up {H0 H:Qa} {k:Value->Qa->Prop} {v:Value} (hw:H0.Wf) (hn:H0.next<=H.next) (hg:∀id,id<H0.next->H.get id=H0.get id) (h:k v (H0.up H.next)):Ret H0 k v H:=
 ⟨H0.up H.next,Q5.up (Lb _) (λid b hb=>by rw[hg id (hw.lt hb)];exact hb),λ_=>hw.up hn,hn,h⟩
def Rt (P:Program) (fn:Func) (H0:Qa) (k:Value->Qa->Prop):Env->Qa->Prop:=Qgx P fn λv H'=>H0.next<=H'.next∧k v H'
section
variable {P:Program} {fn:Func} {H0:Qa} {k:Value->Qa->Prop} {A:Env} {H:Qa}
theorem Qls {r:Nat} (hr:fn.results=#[.tmp r]) (hn:Nat.blt r fn.ntmps=true):Rt P fn H0 k A H=Ret H0 k (A r) H:=by
 have:r<fn.ntmps:=by simpa using hn
 simp[Rt,Qgx,Ret,X1,hr,WH,this]
def ldR (agg:Bool) (size:Nat) (p:Value) (H:Qa) (k:Value->Prop):Prop:=match p with
 | .pointer (some a)=>(match H.get a.block with
  | some (.cells c _ _)=>bif agg then(a.off+size<=c.length∧k (.agg ((c.drop a.off).take size).toArray)) else ∃v,c[a.off]? = some v∧k v
  | _=>False)
 | _=>False
def QkL (agg:Bool) (size off:Nat) (b:Option Blk) (k:Value->Prop):Prop:=match b with
 | some (.cells c _ _)=>bif agg then(off+size<=c.length∧k (.agg ((c.drop off).take size).toArray)) else ∃v,c[off]? = some v∧k v
 | _=>False
theorem Qjr (agg:Bool) (size b o:Nat) (k:Value->Prop):ldR agg size (.pointer (some ⟨b,o,none⟩)) H k=QkL agg size o (H.get b) k:=Nu rfl rfl
theorem QgY (size o:Nat) (k:Value->Prop) (c:List Value) (e:TypeId) (ro:Bool):QkL true size o (some (.cells c e ro)) k=(o+size<=c.length∧k (.agg ((c.drop o).take size).toArray)):=Nu rfl rfl
theorem Qe7 (size o:Nat) (k:Value->Prop) (c:List Value) (e:TypeId) (ro:Bool):QkL false size o (some (.cells c e ro)) k=∃v,c[o]? = some v∧k v:=Nu rfl rfl
end
theorem KQ {P:Program} {f:FuncId} {fn:Func} {pc:PC} {args:List Value} {H:Qa} {k:Value->Qa->Prop} {A:Env} (hf:P.funcs[f]? = some fn) (hc:fn.body.bind (comp P fn.ntmps)=some pc) (he:entered P f=true) (hl:Nat.ble args.length fn.ntmps=true) (hA:W9 args=A)
  (h:H.Wf->Qs P pc ⟨Rt P fn H k,QgC⟩ (Rt P fn H k) A H):Qm P f args H k:=Gv hf hc he (by simpa using hl) (by rw[hA];exact h)
theorem Qdm (l:List Value):(Value.agg l.toArray).cells.toList=l:=Nu rfl rfl
theorem Qdn (ik:IntKind) (n:Int):(Value.int ik n).cells.toList=[.int ik n]:=Nu rfl rfl
theorem Qby (b:Bool):(Value.bool b).cells.toList=[.bool b]:=Nu rfl rfl
theorem Qax (a:Option Addr) (l c:Nat):(Value.slice a l c).cells.toList=[.slice a l c]:=Nu rfl rfl
theorem Qay (ty:TypeId) (v:Value):(Value.iface ty v).cells.toList=[.iface ty v]:=Nu rfl rfl
theorem Qbz (ik:IntKind) (n:Int):(Value.int ik n).oneCell'=true:=Nu rfl rfl
theorem Qaz (b:Bool):(Value.bool b).oneCell'=true:=Nu rfl rfl
theorem Va (a:Option Addr) (l c:Nat):(Value.slice a l c).oneCell'=true:=Nu rfl rfl
theorem Vb (ty:TypeId) (v:Value):(Value.iface ty v).oneCell'=true:=Nu rfl rfl
section
variable {P:Program}
theorem Yk {b:Bool} {x y:PC} {ks:Kp} {k:Env->Qa->Prop} {A:Env} {H:Qa} (h1:b=true->cB true P x y ks k A H) (h2:b=false->cB false P x y ks k A H):cB b P x y ks k A H:=by
 cases b
 ·exact h2 rfl
 ·exact h1 rfl
end
/-! ### Loops -/
section
variable {P:Program}
def Qle (I:Nat->Env->Qa->Prop) (m:Nat) (A:Env) (H:Qa):Prop:=∃m',m'<m∧I m' A H
theorem XH {b:PC} {ks:Kp} {k:Env->Qa->Prop} {A:Env} {H:Qa} (I:Nat->Env->Qa->Prop) (m:Nat) (h0:I m A H) (h:∀m A' H',I m A' H'->Qs P b ks (Qle I m) A' H'):Qs P (.loop b) ks k A H:=
 ⟨I,⟨m,h0⟩,h⟩
/-! Loops over functions. -/
structure Ext (H H':Qa):Prop where
 next:H.next<=H'.next
 get:∀id,id<H.next->H'.get id=H.get id
theorem Ext.refl (H:Qa):Ext H H:=⟨Lb _,λ_ _=>Nu rfl rfl⟩
theorem Ext.trans {a b c:Qa} (h:Ext a b) (h':Ext b c):Ext a c:=⟨N8 h.next h'.next,λid hid=>by rw[h'.get id (N5 hid h.next),h.get id hid]⟩
theorem Ext.push {H H':Qa} (h:Ext H H') (b:Blk):Ext H (H'.push b):=⟨N8 h.next (by simp),λid hid=>by
 have:=h.next;rw[Qg,Le (by omega)];exact h.get id hid⟩
theorem Ext.up {H H':Qa} (h:Ext H H') {m:Nat} (hm:H'.next<=m):Ext H (H'.up m):=⟨N8 h.next hm,λid hid=>by rw[Qbo];exact h.get id hid⟩
theorem Ext.set {H H':Qa} (h:Ext H H') {i:Nat} (hi:H.next<=i) (b:Blk):Ext H (H'.set i b):=⟨h.next,λid hid=>by
 rw[Wa,Le (by omega)];exact h.get id hid⟩
theorem Ext.kill {H H':Qa} (h:Ext H H') {i:Nat} (hi:H.next<=i):Ext H (H'.kill i):=⟨h.next,λid hid=>by
 rw[WW,Le (by omega)];exact h.get id hid⟩
theorem Ret.ext {H0 H:Qa} {k:Value->Qa->Prop} {v:Value} (hw:H0.Wf) (he:Ext H0 H) (h:k v (H0.up H.next)):Ret H0 k v H:=.up hw he.next he.get h
end
/-! ### Appending -/
theorem Qd3 {size m b o cap:Nat} {c:List Value} {e:TypeId} {ro:Bool} {H:Qa} (hb:H.get b=some (.cells c e ro)) (hm:m≠0) (hc:o+m * size<=c.length):JA size (.slice (some ⟨b,o,none⟩) m cap) H=some (m,(c.drop o).take (m * size)):=by
 simp only[JA,hm,LN,hb];rw[Lc hc]
theorem QbA {e size bytes m len b o cap:Nat} (h0:o=0) {news c:List Value} {x:Value} {H:Qa} {k:Value->Qa->Prop} (hx:JA size x H=some (m,news)) (h1:news.all (·.oneCell')=true) (hm:m≠0) (hb:H.get b=some (.cells c e false))
  (hlen:o+len * size=c.length) (hsum:(len+m) * bytes<=140737488355328) (hmax:len+m<=9223372036854775807) (hcap:UNK<=cap)
  (h:k (.slice (some ⟨H.next,0,none⟩) (len+m) (UNK+size)) ((H.kill b).push (.cells (c.drop o++news) e false))):Qdl e size bytes (.slice (some ⟨b,o,none⟩) len cap) x H k:=by
 unfold Qdl;rw[Qbw h0 hx h1 hm hb hlen hsum hmax hcap,Qi];exact h
theorem QbB {e size bytes m:Nat} {news:List Value} {x:Value} {H:Qa} {k:Value->Qa->Prop} (hx:JA size x H=some (m,news)) (h1:news.all (·.oneCell')=true) (hm:m≠0) (hsum:m * bytes<=140737488355328) (hmax:m<=9223372036854775807)
  (h:k (.slice (some ⟨H.next,0,none⟩) m (UNK+size)) (H.push (.cells news e false))):Qdl e size bytes (.slice none 0 0) x H k:=by
 unfold Qdl;rw[Qbx hx h1 hm hsum hmax,Qi];exact h
theorem Qm.thenW {P:Program} {f:FuncId} {args:List Value} {H:Qa} {k k':Value->Qa->Prop} (h:Qm P f args H k) (hk:∀v H',H.next<=H'.next->H'.Wf->k v H'->k' v H'):Qm P f args H k':=by
 intro hw;obtain⟨v,H',h1,h2,h3,h4⟩:=h hw;exact⟨v,H',h1,h2,h3,hk v H' h2 h3 h4⟩
/-! ### Rules, together -/
abbrev sxA:=And.intro @Qc3 (And.intro @Qbr (And.intro @Qc5 (And.intro @QeP (And.intro @Qc4 (And.intro @QeQ (And.intro @QeR (And.intro @Qbs (And.intro @Qkp (And.intro @Qkq (And.intro @QgB (And.intro @QeS (And.intro @Qc6 (And.intro @QiR (And.intro @QiS (And.intro @QgD (And.intro @QgA (And.intro @QeO (And.intro @Qc2 (And.intro @Qc0 (And.intro @Qc1 (And.intro @QiQ (And.intro @Qgz (And.intro @QiP (And.intro @Qgy (And.intro @bt (And.intro @bf (And.intro @Qbp (And.intro @Qd0 (And.intro @VE (And.intro @VF (And.intro @Qk5 (And.intro @Qbq (And.intro @QeN (And.intro @QiO (And.intro @Qk6 (And.intro @QiV (And.intro @Qda (And.intro @Qkr (And.intro @QiW (And.intro @QiX (And.intro @QiY (And.intro @QiZ (And.intro @Qks (And.intro @Qi0 (And.intro @Qdb (And.intro @Qi1 (And.intro @Qi2 (And.intro @Qi3 (And.intro @Qi4 (And.intro @Qi5 (And.intro @Qi6 (And.intro @Qi7 (And.intro @Qi8 (And.intro @Qi9 (And.intro @Qja (And.intro @Qjb (And.intro @Qjc (And.intro @QgI (And.intro @Qku (And.intro @Qjd (And.intro @Qje (And.intro @Qkv (And.intro @Qkw (And.intro @QeX (And.intro @QgK (And.intro @Qdc (And.intro @Qjf (And.intro @Qky (And.intro @QeY (And.intro @QgL (And.intro @Qjg (And.intro @QeZ (And.intro @Qjh (And.intro @Qdd (And.intro @Qkz (And.intro @QgM (And.intro @QkA (And.intro @QkB (And.intro @QkC (And.intro @QkD (And.intro @Qjj (And.intro @Qe0 (And.intro @QgN (And.intro @Qde (And.intro @QgP (And.intro @Qbu (And.intro @Qe1 (And.intro @Qe2 (And.intro @Qav (And.intro @Qe3 (And.intro @QkE (And.intro @QgQ (And.intro @QkF (And.intro @Qjk (And.intro @Qe4 (And.intro @QkG (And.intro @QgR (And.intro @Qdh (And.intro @Qdi (And.intro @Qla (And.intro @QgS (And.intro @Qjl (And.intro @QgT (And.intro @Qjm (And.intro @Qlc (And.intro @QkI (And.intro @VG (And.intro @Qjn (And.intro @QgV (And.intro @Qdk (And.intro @Qaw (And.intro @QgU (And.intro @Qdj (And.intro @Qjp (And.intro @Qbv (And.intro @Qjq (And.intro @Qe5 (And.intro @QkJ (And.intro @QiU (And.intro @QgH (And.intro @Qc7 (And.intro @QgG (And.intro @QkK (And.intro @QgW (And.intro @Ke (And.intro @Jq (And.intro @QeV (And.intro @QgE (And.intro @QeW (And.intro @QgF (And.intro @Qc9 (And.intro @QeT (And.intro @QeU (And.intro @Qjr (And.intro @QgY (@Qe7))))))))))))))))))))))))))))))))))))))))))))))))))))))))))))))))))))))))))))))))))))))))))))))))))))))))))))))))))))))))))))))))))))))))
abbrev mxA:=And.intro @Qdm (And.intro @Qdn (And.intro @Qby (And.intro @Qax (And.intro @Qay (And.intro @Qbz (And.intro @Qaz (And.intro @Va (And.intro @Vb (And.intro @Qdf (And.intro @Qdg (And.intro @Qg (And.intro @Wi (And.intro @Wa (And.intro @QaI (And.intro @Qbo (And.intro @G9 (And.intro @LP (And.intro @N9 (And.intro @Bz (And.intro @Hr (And.intro @Dd (And.intro @De (And.intro @Nat.succ_ne_self (And.intro @Bj (And.intro @NH (And.intro @BH (@Fx)))))))))))))))))))))))))))
abbrev uxA:=And.intro @Qbp (And.intro @Qd0 (And.intro @VE (And.intro @VF (And.intro @Qk5 (@Qbq)))))
abbrev sxB:=And.intro @NZ.{0,0} (And.intro @Bq.{0,0} (And.intro @Da.{1} (And.intro not_false_eq_true (And.intro BE (And.intro @Lq.{1} (And.intro @Ls.{1} (And.intro L8 (And.intro LM @Bool.not_not))))))))
abbrev uxB:=And.intro @Lq.{1} @Ls.{1}
abbrev mxB:=And.intro @N3.{1} (And.intro @LN.{1} (And.intro @Bg.{0} (And.intro @Bp.{0} (And.intro @Lt.{0} (And.intro @Dg.{1} (And.intro @BN.{1} (And.intro @Lo.{0} (And.intro @L9.{0} (And.intro @Bv.{0} (And.intro @BI.{0} (And.intro @Lw.{0} (And.intro @List.drop_succ_cons.{0} (And.intro @List.take_succ_cons.{0} (And.intro @Rb.{0} (And.intro @Nm.{0} (And.intro @LH.{0} (And.intro @Na.{0} (And.intro @List.take_nil.{0} @List.drop_nil.{0}))))))))))))))))))
theorem Qe8 (c:List Value) (p:Nat) (vs:List Value):splice c p vs=c.take p++(vs++c.drop (p+vs.length)):=rfl
abbrev QO:=And.intro sxA (And.intro sxB (And.intro mxA (And.intro mxB @Qe8)))
abbrev Qlt:=And.intro uxA uxB
/-! ### The code's text, short -/
abbrev Ow (d:Nat) (r:R):PO:=⟨some d,r,none,false⟩
abbrev Om (d:Nat) (x:Operand):PO:=⟨some d,.mv x,none,false⟩
abbrev Ov (r:R):PO:=⟨none,r,none,false⟩
abbrev Og (d:Nat) (r:R) (a:Nat) (b:Bool):PO:=⟨some d,r,some (a,b),false⟩
abbrev On (d:Nat) (x:Operand) (a:Nat) (b:Bool):PO:=⟨some d,.mv x,some (a,b),false⟩
abbrev Ci (n:Int):Operand:=.const (.int .i64 n)
abbrev In0 (P:Program) (f:FuncId) (fn:Func) (pc:PC):Prop:=∀ {H:Qa} {k:Value->Qa->Prop},(H.Wf->Qs P pc ⟨Rt P fn H k,QgC⟩ (Rt P fn H k) (U) H)->Qm P f [] H k
theorem in0 {P:Program} {f:FuncId} {fn:Func} {pc:PC} (hf:P.funcs[f]? = some fn) (hc:fn.body.bind (comp P fn.ntmps)=some pc) (he:entered P f=true) (hl:Nat.ble 0 fn.ntmps=true):In0 P f fn pc:=λh=>KQ hf hc he hl Qln h
abbrev In1 (P:Program) (f:FuncId) (fn:Func) (pc:PC):Prop:=∀ {a0:Value} {H:Qa} {k:Value->Qa->Prop},(H.Wf->Qs P pc ⟨Rt P fn H k,QgC⟩ (Rt P fn H k) (upd U 0 a0) H)->Qm P f [a0] H k
theorem in1 {P:Program} {f:FuncId} {fn:Func} {pc:PC} (hf:P.funcs[f]? = some fn) (hc:fn.body.bind (comp P fn.ntmps)=some pc) (he:entered P f=true) (hl:Nat.ble 1 fn.ntmps=true):In1 P f fn pc:=λh=>KQ hf hc he hl (Qlo _) h
abbrev In2 (P:Program) (f:FuncId) (fn:Func) (pc:PC):Prop:=∀ {a0 a1:Value} {H:Qa} {k:Value->Qa->Prop},(H.Wf->Qs P pc ⟨Rt P fn H k,QgC⟩ (Rt P fn H k) (upd (upd U 0 a0) 1 a1) H)->Qm P f [a0,a1] H k
theorem in2 {P:Program} {f:FuncId} {fn:Func} {pc:PC} (hf:P.funcs[f]? = some fn) (hc:fn.body.bind (comp P fn.ntmps)=some pc) (he:entered P f=true) (hl:Nat.ble 2 fn.ntmps=true):In2 P f fn pc:=λh=>KQ hf hc he hl (Qlp _ _) h
abbrev In3 (P:Program) (f:FuncId) (fn:Func) (pc:PC):Prop:=∀ {a0 a1 a2:Value} {H:Qa} {k:Value->Qa->Prop},(H.Wf->Qs P pc ⟨Rt P fn H k,QgC⟩ (Rt P fn H k) (upd (upd (upd U 0 a0) 1 a1) 2 a2) H)->Qm P f [a0,a1,a2] H k
theorem in3 {P:Program} {f:FuncId} {fn:Func} {pc:PC} (hf:P.funcs[f]? = some fn) (hc:fn.body.bind (comp P fn.ntmps)=some pc) (he:entered P f=true) (hl:Nat.ble 3 fn.ntmps=true):In3 P f fn pc:=λh=>KQ hf hc he hl (Qlq _ _ _) h
/-! #### Still shorter -/
abbrev Oa (d x:Nat):PO:=Om d (t x)
abbrev Ob (d n x:Nat):PO:=Ow d (.fldA n (t x))
abbrev Oc (d s x:Nat):PO:=Ow d (.ld false s (t x))
abbrev Od (d s x:Nat):PO:=Ow d (.ld true s (t x))
abbrev Oe (d:Nat) (o:BinOp) (x:Nat) (c:Int):PO:=Ow d (.bin o (t x) (Ci c))
abbrev Gp (d:Nat) (o:BinOp) (x y:Nat):PO:=Ow d (.bin o (t x) (t y))
abbrev Oj (d x y:Nat):PO:=Ow d (.pick (t x) (t y) (.const (.bool false)))
abbrev Gk (d x y:Nat):PO:=Ow d (.pick (t x) (.const (.bool true)) (t y))
abbrev Ol (d:Nat) (b:Bool):PO:=Om d (.const (.bool b))
abbrev Oi (d:Nat) (c:Int):PO:=Om d (Ci c)
abbrev Oz (d:Nat):PO:=Om d (.const (.slice none 0 0))
abbrev Gu (s x y:Nat):PO:=Ov (.st s (t x) (t y))
abbrev Ox (d s x y:Nat):PO:=Ow d (.idxS s (t x) (t y))
abbrev Oy (d s x:Nat) (c:Int):PO:=Ow d (.idxS s (t x) (Ci c))
abbrev Ou (d x:Nat):PO:=Ow d (.lenS (t x))
abbrev Ot (d x n:Nat):PO:=Ow d (.ext (t x) n)
abbrev Oh (d x:Nat):PO:=Ow d (.not (t x))
abbrev Gr (d:Nat) (T:TypeId) (x:Nat):PO:=Ow d (.box T (t x))
abbrev Oq (d x:Nat):PO:=Ow d (.gen (.nilCheck (t x)))
abbrev Oo (d x a:Nat) (b:Bool):PO:=On d (t x) a b
abbrev Gb (d n x a:Nat) (b:Bool):PO:=Og d (.fldA n (t x)) a b
abbrev Gc (d s x a:Nat) (b:Bool):PO:=Og d (.ld false s (t x)) a b
abbrev Ge (d:Nat) (o:BinOp) (x:Nat) (c:Int) (a:Nat) (b:Bool):PO:=Og d (.bin o (t x) (Ci c)) a b
abbrev Gf (d:Nat) (o:BinOp) (x y a:Nat) (b:Bool):PO:=Og d (.bin o (t x) (t y)) a b
abbrev So (l:List PO) (b:PC):PC:=.seq (.ops l) b
abbrev Sr (l:List PO):PC:=.seq (.ops l) .ret
abbrev Sc (x:Nat) (a b:PC):PC:=.cond (t x) a b
theorem jn0 {P:Program} {f:FuncId} {fn:Func} {pc:PC} (hf:P.funcs[f]? = some fn) (h:(fn.body.bind (comp P fn.ntmps),entered P f,Nat.ble 0 fn.ntmps)=(some pc,true,true)):In0 P f fn pc:=in0 hf (congrArg (·.1) h) (congrArg (·.2.1) h) (congrArg (·.2.2) h)
theorem jn1 {P:Program} {f:FuncId} {fn:Func} {pc:PC} (hf:P.funcs[f]? = some fn) (h:(fn.body.bind (comp P fn.ntmps),entered P f,Nat.ble 1 fn.ntmps)=(some pc,true,true)):In1 P f fn pc:=in1 hf (congrArg (·.1) h) (congrArg (·.2.1) h) (congrArg (·.2.2) h)
theorem jn2 {P:Program} {f:FuncId} {fn:Func} {pc:PC} (hf:P.funcs[f]? = some fn) (h:(fn.body.bind (comp P fn.ntmps),entered P f,Nat.ble 2 fn.ntmps)=(some pc,true,true)):In2 P f fn pc:=in2 hf (congrArg (·.1) h) (congrArg (·.2.1) h) (congrArg (·.2.2) h)
theorem jn3 {P:Program} {f:FuncId} {fn:Func} {pc:PC} (hf:P.funcs[f]? = some fn) (h:(fn.body.bind (comp P fn.ntmps),entered P f,Nat.ble 3 fn.ntmps)=(some pc,true,true)):In3 P f fn pc:=in3 hf (congrArg (·.1) h) (congrArg (·.2.1) h) (congrArg (·.2.2) h)
theorem ZZ {P:Program} {fn:Func} {H0 H:Qa} {k:Value->Qa->Prop} {A:Env} {r:Nat} (h:(fn.results,Nat.blt r fn.ntmps)=(#[.tmp r],true)):Rt P fn H0 k A H=Ret H0 k (A r) H:=Qls (congrArg (·.1) h) (congrArg (·.2) h)
/-! ### Functions' codes, short -/
abbrev Ca (d:Nat) (f:FuncId) (x:Nat):PO:=Ow d (.call f [t x])
abbrev Cb (d:Nat) (f:FuncId) (x y:Nat):PO:=Ow d (.call f [t x,t y])
abbrev Cc (d:Nat) (f:FuncId) (x y z:Nat):PO:=Ow d (.call f [t x,t y,t z])
abbrev Cd (d:Nat) (e:TypeId) (l:List Value):PO:=Ow d (.alloc e l)
/-! ### Rules and rewriting steps, short -/
/-! ### Macros -/
variable {A B C D E F G I J K L M N O R S T U V W X Y P Q:Prop}
end Go.Ab
namespace Go.Ab
open Go.RowKit
section
variable {P:Program} {ρ:Ren} {H:Qa} {w:World}
def VH (H:Qa):Prop:=∀id b,H.get id=some b->b.ro=true
theorem VH.push (h:VH H) (c:List Value) (e:TypeId):VH (H.push (.cells c e true)):=λid b hb=>by
 rw[Qg]at hb;split at hb
 ·cases hb;rfl
 ·exact h id b hb
theorem VH.up (h:VH H) (m:Nat):VH (H.up m):=λid b hb=>h id b (by rw[Qbo]at hb;exact hb)
end
variable {P:Program}
def QaD (M n:Nat) (ρ:Ren) (inf:Nat->QT):Ren:=λid=>if id<M then ρ id else if id<M+n then some (inf (id - M)) else none
def Pic (P:Program) (M:Nat) (H1:Qa) (v u:Value) (rs:List Row):Prop:=
 ∀ρ1 w v',Sim P ρ1 H1 w->V ρ1 v v'->∃ (src:Nat->Nat) (inf:Nat->QT),
  (∀k,k<rs.length->M<=src k∧∃i,ρ1 (src k)=some i∧(inf k).at_=i.at_)∧
  V (QaD M rs.length ρ1 inf) u v'∧∀k r,rs[k]? = some r->Qq P (QaD M rs.length ρ1 inf) (inf k) w (.cells r.c r.e true)
theorem QbG {P:Program} {f:FuncId} {args args2:List Value} {v u:Value} {B H1:Qa} {τ:Nat->Nat} (hd:Xo P f args B (.ret v) H1) (hg:P.globals.size<=B.next) (hτ:∀g,g<P.globals.size->τ g=g)
  {rs:List Row} (hp:Pic P B.next H1 v u rs) (hu:okD 6 u=true) (hrs:∀r∈rs,r.ro=true∧r.c.all (okD 6)=true) (H:Qa)
  (hB:∀id b,B.get id=some b->∃c e c2 e2 ro,b=.cells c e true∧H.get (τ id)=some (.cells c2 e2 ro)∧c.length=c2.length∧∀ (j:Nat) x y,c[j]? = some x->c2[j]? = some y->Zw τ B.next x y)
  (ha:Wv (mtV (WE τ B.next) 6) args2 args=true):
  Xo P f args2 H (.ret (shW (shM τ B.next H.next) 6 u)) (QY (shM τ B.next H.next) rs H):=by
 intro ρ w args' hs hargs;have hbk:=λa b i=>Gi (ρ:=ρ) (τ:=τ) (n:=B.next) (a:=a) (b:=b) (i:=i);obtain⟨hal,hav⟩:=Yi ha;have hargs':VL (back ρ τ B.next) args args':=⟨by rw[<- hal];exact hargs.1,λj x x' e e'=>by
  have hj:j<args2.length:=by have:=(Lk.1 e).1;omega
  exact QdP hbk 6 (hav j args2[j] x (La hj) e) (hargs.2 j _ x' (La hj) e')⟩
 have hnro:∀id b,B.get id=some b->b.ro=true:=λid b h=>by obtain⟨c,e,c2,e2,ro,rfl,_⟩:=hB id b h;rfl
 have hsim:Sim P (back ρ τ B.next) B w:=by
  refine⟨λid j h=>(Xy h).1,λid b i hb hi=>?_,λid1 id2 b1 b2 i1 i2 h1 h2 h3 h4 h5=>?_,λg hgl=>?_⟩
  ·obtain⟨c,e,c2,e2,ro,rfl,hh,hc,hx⟩:=hB id b hb;have hr:=hs.live _ _ i hh (Xy hi).2;refine⟨hr.lt,λj u hj=>?_⟩;have hj2:j<c2.length:=by have:=(Lk.1 hj).1;omega
   obtain⟨u',h1,h2⟩:=hr.cellAt (La hj2);exact⟨u',h1,hx j u c2[j] hj (La hj2) ρ u' h2⟩
  ·rw[hnro id1 b1 h1]at h5;cases h5
  ·obtain⟨j,hj,e⟩:=hs.glob g hgl;refine⟨j,?_,e⟩;unfold back;rw[Lc (by omega),hτ g hgl];exact hj
 refine(hd _ w args' hsim hargs').mono ?_;rintro e w' ⟨ρ1,ho,hst,hs1⟩;cases e with
 | returned v'=>
  have hsame:∀b,b<w.heap.size->w'.heap[b]? = w.heap[b]? := λb hb=>hst.frame b hb (λid i bl _ h2 h3=>by rw[hnro id bl h2]at h3;cases h3);have hnew:∀id i,ρ1 id=some i->B.next<=id->w.heap.size<=i.at_.block:=λid i h hid=>by
   have hn:back ρ τ B.next id=none:=by unfold back;rw[Le (by omega)]
   rcases(hst.fresh id i h hn).2 with h | ⟨id0,i0,b0,_,_,h3,h4⟩
   ·exact h
   ·rw[hnro id0 b0 h3]at h4;cases h4
  obtain⟨src,inf,hsrc,hpv,hpr⟩:=hp ρ1 w' v' hs1 ho;generalize hM:B.next=M at *;have hsh:∀id,shM τ M H.next id=if id<M then τ id else H.next+(id - M):=λid=>by
   unfold shM;rw[XV];by_cases h:id<M<;>simp[h]
  let ρc:Ren:=QaD M rs.length ρ1 inf
  let ρ':Ren:=λid=>if id<H.next then ρ id else ρc (M+(id - H.next))
  have hmap:∀b i,ρc b=some i->ρ' (shM τ M H.next b)=some i:=λb i h=>by
   rw[hsh]
   by_cases hb:b<M
   ·simp only[hb,N3,ρ'];simp only[ρc,QaD,hb,N3]at h;cases hk:back ρ τ M b with
    | none=>
     have:=(hst.fresh b i h hk).1;omega
    | some i0=>
     have:=hst.mono b i0 hk;rw[h]at this;cases this;have h2:=(Xy hk).2;rw[Lc (hs.dom _ _ h2)];exact h2
   ·simp only[hb,LN,ρ'];rw[Le (by omega),show M+(H.next+(b - M) - H.next)=b by omega];exact h
  have hval:∀ {y z:Value},okD 6 y=true->V ρc y z->V ρ' (shW (shM τ M H.next) 6 y) z:=λh2 h3=>QjB hmap 6 h3 h2;have hsub:Sub ρ ρ':=λid i h=>by
   simp only[ρ'];rw[Lc (hs.dom id i h)];exact h
  have hget:∀id,(QY (shM τ M H.next) rs H).get id=if H.next<=id∧id<H.next+rs.length then(rs[id - H.next]?).map (Row.blkW (shM τ M H.next)) else H.get id:=λid=>Xz rs H id
  have hnext:(QY (shM τ M H.next) rs H).next=H.next+rs.length:=XF rs H;have hhigh:∀id i,ρ' id=some i->H.next<=id->id - H.next<rs.length∧i=inf (id - H.next):=λid i hi hid=>by
   simp only[ρ']at hi;rw[Le (by omega)]at hi;simp only[ρc,QaD]at hi;rw[Le (by omega)]at hi
   by_cases hl:M+(id - H.next)<M+rs.length
   ·rw[Lc hl,show M+(id - H.next) - M=id - H.next by omega]at hi;cases hi;exact⟨by omega,rfl⟩
   ·rw[Le hl]at hi;cases hi
  have hlow:∀id i,ρ' id=some i->id<H.next->ρ id=some i:=λid i hi hid=>by
   simp only[ρ']at hi;rwa [Lc hid]at hi
  have hgl:∀id,id<H.next->(QY (shM τ M H.next) rs H).get id=H.get id:=λid hid=>by rw[hget,Le (by omega)]
  have hinf:∀k,k<rs.length->w.heap.size<=(inf k).at_.block:=λk hk=>by
   obtain⟨h1,i,h2,h3⟩:=hsrc k hk;rw[h3];exact hnew _ i h2 h1
  refine⟨ρ',?_,⟨hsub,by rw[hnext];omega,λid i h h'=>?_,λid i b b' h h1 h2 h3=>?_,λid i h h'=>?_,hst.os,hst.tape,hst.output,hst.size,λb hb _=>hsame b hb⟩,
   ⟨λid i h=>?_,λid b i hb hi=>?_,λid1 id2 b1 b2 i1 i2 h1 h2 h3 h4 h5 h6=>?_,λg hg=>?_⟩⟩
  ·exact hval hu hpv
  ·rw[hgl id (hs.dom id i h)];exact h'
  ·rw[hgl id (hs.dom id i h),h1]at h3;cases h3;exact h2
  ·have hid:H.next<=id:=by
    rcases Nq id H.next with hlt | hge
    ·rw[hlow id i h hlt]at h';cases h'
    ·exact hge
   obtain⟨hk,rfl⟩:=hhigh id i h hid;exact⟨hid,.inl (hinf _ hk)⟩
  ·rw[hnext];rcases Nq id H.next with hlt | hge
   ·omega
   ·have:=(hhigh id i h hge).1;omega
  ·rcases Nq id H.next with hlt | hge
   ·rw[hgl id hlt]at hb;have hr:=hs.live id b i hb (hlow id i hi hlt);exact hr.mono hsub (hsame _ hr.lt)
   ·obtain⟨hk,rfl⟩:=hhigh id i hi hge;have hrk:=La hk;rw[hget,Lc ⟨hge,by omega⟩,hrk]at hb;cases hb;obtain⟨ro1,ok1⟩:=hrs _ (Nb hk);have hb1:=hpr _ _ hrk;unfold Row.blkW;rw[ro1];refine hb1.turn (by simp) λj x y z hx hy hz=>?_;simp only[LD,Lx]at hy;obtain⟨y0,hy0,rfl⟩:=hy;rw[hx]at hy0;cases hy0;exact hval (Li.1 ok1 x (Ln hx)) hz
  ·have old:∀id b i,id<H.next->(QY (shM τ M H.next) rs H).get id=some b->ρ' id=some i->i.at_.block<w.heap.size:=λid b i hlt hb hi=>by
    rw[hgl id hlt]at hb;exact(hs.live id b i hb (hlow id i hi hlt)).lt
   rcases Nq id1 H.next with l1 | l1
   ·rcases Nq id2 H.next with l2 | l2
    ·rw[hgl id1 l1]at h1;rw[hgl id2 l2]at h2;exact hs.sep id1 id2 b1 b2 i1 i2 h1 h2 (hlow id1 i1 h3 l1) (hlow id2 i2 h4 l2) h5 h6
    ·have a1:=old id1 b1 i1 l1 h1 h3;obtain⟨hk,rfl⟩:=hhigh id2 i2 h4 l2;have a2:=hinf _ hk;omega
   ·obtain⟨hk,rfl⟩:=hhigh id1 i1 h3 l1;rw[hget,Lc ⟨l1,by omega⟩,La hk]at h1;cases h1;have:=(hrs _ (Nb hk)).1;unfold Row.blkW Blk.ro at h5;simp only[this]at h5;cases h5
  ·obtain⟨j,hj,e⟩:=hs.glob g hg;exact⟨j,hsub _ _ hj,e⟩
 | _=>exact ho.elim
end Go.Ab
