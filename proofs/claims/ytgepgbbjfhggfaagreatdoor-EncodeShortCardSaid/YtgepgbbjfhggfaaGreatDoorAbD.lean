/- Code made of resolved operations, and what it does, as a proposition. -/
import Derived.Test.YtgepgbbjfhggfaaGreatDoorAbC
import Derived.Test.YtgepgbbjfhggfaaGreatDoorAbB
set_option linter.unusedVariables false
set_option linter.unusedSimpArgs false
noncomputable section
namespace Go.Ab
structure PO where
 d:Option Nat
 r:R
 g:Option (Nat×Bool)
 s:Bool
inductive PC where
 | skip
 | ops (l:List PO)
 | seq (a b:PC)
 | cond (c:Operand) (a b:PC)
 | block (id:Nat) (b:PC)
 | loop (b:PC)
 | exit (id:Nat)
 | ret
 | label (l:Nat)
 | goto (l:Nat)
 | scope (b:PC) (l:Nat) (r:PC)
 | rangeF (g:Operand) (ps:List Nat) (a b:PC)
 | bad
/-! ### Resolving code -/
def QrT (o:Oper):Bool:=match o.op with | .load .. => true | _=>false
def Qu7 (o:Oper):Bool:=match o.op with | .alloc .. | .box .. | .makeSlice .. | .buildSlice .. | .convert .. | .makeMap .. | .range .. => true | _=>false
def Qlk (o:Oper):Bool:=match o.op with | .call ⟨.value _,_,_⟩=>true | _=>false
def QyN (o:Oper):Bool:=match o.op with | .call ⟨.builtin .append,_,_⟩=>true | _=>false
def QBx (o:Oper):Bool:=Qlk o||QyN o
def Qpj (ops:Array Oper)(i:Nat):Bool:=match ops[i]? with | some o=>QrT o | none=>false
def QhP (ops:Array Oper)(i:Nat):Bool:=match ops[i]? with | some o=>Qu7 o | none=>false
def Qdo (ops:Array Oper)(i:Nat):Bool:=match ops[i]? with | some o=>QBx o | none=>false
def XG (ops:Array Oper)(ms:List Nat)(k:Nat):Bool:=
 (Yi ops k&&(List.range ops.size).any λi=>(Qpj ops i&&!(QK ms i k)&&!(QK ms k i))||(QhP ops i&&Nat.blt i k&&!(QK ms i k))) ||
 (Qpj ops k&&(List.range ops.size).any λi=>Yi ops i&&!(QK ms i k)&&!(QK ms k i))
def QyO (o:Oper):Bool:=match o.op with | .store .. => true | _=>false
def QyP (ops:Array Oper)(i:Nat):Bool:=match ops[i]? with | some o=>QyO o | none=>false
def Qgx (ms:List Nat)(i k:Nat):Bool:=!(QK ms i k)&&!(QK ms k i)
def Qqo (ops:Array Oper)(i:Nat):Option Nat:=match ops[i]? with | some o=>(match o.op with | .load _ (.tmp t)=>some t | _=>none) | none=>none
def QrU (ops:Array Oper)(ms:List Nat)(k:Nat):List Operand:=(List.range k).filterMap λi=>bif Qpj ops i&&Qgx ms i k then(Qqo ops i).map .tmp else none
def QGL:List String:=["(*linotype/print.text).next"]
def isG (P:Program)(o:Oper):Bool:=match o.op with
 | .call ⟨.value (.func f),_,_⟩=>(match P.funcs[f]? with | some fn=>QGL.any λn=>fn.name==n | none=>false)
 | _=>false
def gAt (P:Program)(ops:Array Oper)(i:Nat):Bool:=match ops[i]? with | some o=>isG P o | none=>false
def QGM (P:Program)(ops:Array Oper)(ms:List Nat)(i k:Nat):Bool:=
 Nat.blt i k&&(Qqo ops i).isSome&&(List.range k).all λj=>Nat.blt j i||((match ops[j]? with | some o=>!(o.dst==Qqo ops i) | none=>true)&&(!(Yi ops j)||(Qdo ops j&&XG ops ms j&&!(gAt P ops j))||(QyP ops j&&XG ops ms j&&Qgx ms i j)))
def QlX (o:Oper):Bool:=match o.op with | .call ⟨.value (.func _),_,_⟩=>true | .call ⟨.builtin .append,_,_⟩=>true | _=>false
def QGm (ops:Array Oper)(i:Nat):Bool:=match ops[i]? with | some o=>QlX o | none=>false
def QrV (o:Oper):Option Nat:=match o.op with
 | .fieldAddr _ (.tmp b) _=>some b
 | .indexAddr _ (.tmp b) _=>some b
 | .move (.tmp b)=>some b
 | .assign (.tmp b)=>some b
 | .nilCheck (.tmp b)=>some b
 | _=>none
def QwR (o:Oper)(cur:Nat):Option Nat:=bif o.dst==some cur then QrV o else some cur
def QaB (ops:Array Oper)(k:Nat):Nat->Nat->Option Nat
 | 0,cur=>some cur
 | d+1,cur=>match ops[k+d]? with
  | some o=>(match QwR o cur with | some c=>QaB ops k d c | none=>none)
  | none=>none
def Qpk (ops:Array Oper)(k i:Nat):Option Nat:=match Qqo ops i with
 | none=>none
 | some t=>QaB ops k (i - k) t
def Qdp (ops:Array Oper)(ms:List Nat)(k:Nat):List Operand:=(List.range ops.size).filterMap λi=>bif Nat.blt k i&&(Qpj ops i&&Qgx ms i k) then(Qpk ops k i).map .tmp else none
def quiet (P:Program)(ops:Array Oper)(ms:List Nat)(i k:Nat):Bool:=
 (Nat.blt i k&&(List.range k).all λj=>Nat.ble j i||(!(Yi ops j)||(XG ops ms j&&Qdo ops j&&!(gAt P ops j)))) ||
 (Nat.blt k i&&QGm ops k&&(Qpk ops k i).isSome&&(List.range i).all λj=>Nat.blt j k||(!(Yi ops j)||(XG ops ms j&&Qdo ops j&&(!(gAt P ops j)||Qgx ms i j))))
def QAv (P:Program)(ops:Array Oper)(ms:List Nat):Bool:=
 (List.range ops.size).all λk=>!(Yi ops k)||!(XG ops ms k)||(Qdo ops k&&((List.range ops.size).all λi=>!(Qpj ops i)||QK ms i k||QK ms k i||quiet P ops ms i k)&&(!(gAt P ops k)||(List.range ops.size).all λi=>(!(Qpj ops i)||QK ms i k||QK ms k i||Nat.blt k i)&&(!(QhP ops i)||!(Nat.blt i k)||QK ms i k))) ||
  (QyP ops k&&(List.range ops.size).all λi=>(!(Qpj ops i)||QK ms i k||QK ms k i||QGM P ops ms i k)&&(!(QhP ops i)||!(Nat.blt i k)||QK ms i k))
def Qel (P:Program)(ops:Array Oper)(i:Nat)(o:Oper):R:=
 match o.op with
 | .store t x y=>match P.info? t with | some inf=>.stf inf.size x y (QrU ops (QV ops.toList []) i) | none=>Wl P o.op
 | .call ⟨.value (.func f),args,_⟩=>bif isG P o then .callG f args.toList (Qdp ops (QV ops.toList []) i) else .callF f args.toList (Qdp ops (QV ops.toList []) i)
 | .call ⟨.builtin .append,_,_⟩=>(match Wl P o.op with | .app e size bytes x y=>.appF e size bytes x y (Qdp ops (QV ops.toList []) i) | _=>.callG 0 [] [.const (.bool false)])
 | _=>Wl P o.op
def Qj0 (P:Program)(ops:Array Oper)(f:Bool)(i:Nat)(o:Oper):R:=bif f then Qel P ops i o else Wl P o.op
def QyQ (n:Nat)(ops:Array Oper)(o:Oper):Option (Option (Nat×Bool)):=
 match o.guard with
 | none=>some none
 | some (j,want)=>match Qcp ops j with
  | some t=>if t<n then some (some (t,want)) else none
  | none=>none
def QcM (P:Program)(n:Nat)(ops:Array Oper)(fl:Nat->Bool):List Oper->Nat->Option (List PO)
 | [],_=>some []
 | o::l,i=>if Qje P n o then
   match QyQ n ops o,QcM P n ops fl l (i+1) with
   | some g,some pl=>some (⟨o.dst,Qj0 P ops (fl i) i o,g,fl i⟩::pl)
   | _,_=>none
  else none
def Qu8 (P:Program)(op:Op):Bool:=match op with
 | .convert src _ _=>(match P.underlying src with | some (.slice _) | some (.pointer _) | some .unsafePointer=>true | _=>false)
 | .range t _=>(match P.underlying t with | some (.map _ _)=>true | _=>false)
 | _=>false
def J0:Nat:=1000000
def sq:PC->PC->PC
 | .skip,y=>y
 | x,.skip=>x
 | x,y=>.seq x y
def V0:PC->Nat->Option PC
 | .seq a b,l=>match V0 a l with
  | some r=>some (sq r b)
  | none=>V0 b l
 | .label l',l=>bif Nat.beq l' l then some .skip else none
 | _,_=>none
def QaC:PC->List Nat
 | .seq a b=>QaC a++QaC b
 | .label l=>[l]
 | _=>[]
def Qrr (b:PC):PC:=
 match QaC b with
 | []=>b
 | [l]=>match V0 b l with
  | some r=>.scope b l r
  | none=>.bad
 | _=>.bad
def comp (P:Program)(n:Nat):Code->Option PC
 | .skip=>some .skip
 | .label l=>some (.label l)
 | .ret=>some .ret
 | .exit id=>some (bif Nat.blt id J0 then .exit id else .bad)
 | .goto l=>some (.goto l)
 | .region _ ops false=>some (match QcM P n ops (λ_=>false) ops.toList 0 with | some l=>.ops l | none=>.bad)
 | .region _ ops true=>some (if P.follows .mixedOrders&&Qf3 ops (Yi ops)&&QAv P ops (QV ops.toList [])&&ops.all (λo=>!(Qu8 P o.op)) then(match QcM P n ops (XG ops (QV ops.toList [])) ops.toList 0 with | some l=>.ops l | none=>.bad) else .bad)
 | .seq a b=>match comp P n a,comp P n b with
  | some x,some y=>some (sq x y)
  | _,_=>none
 | .cond c a b=>if Qe9 P n c then(match comp P n a,comp P n b with | some x,some y=>some (.cond c x y) | _,_=>none) else none
 | .block id b=>(comp P n b).map λx=>bif Nat.blt id J0 then .block id x else .bad
 | .loop b=>(comp P n b).map .loop
 | .scope b=>(comp P n b).map Qrr
 | .rangeFunc g ps a b=>if Qe9 P n g then(match comp P n a,comp P n b with | some x,some y=>some (.rangeF g ps.toList x y) | _,_=>none) else none
 | _=>some .bad
/-! ### What it does -/
structure Kp where
 ret:Env->Qa->Prop
 ext:Nat->Env->Qa->Prop
def onS (o:Option (Value×Qa))(k:Value->Qa->Prop):Prop:=∃v H',o=some (v,H')∧k v H'
def Qa.Wf (H:Qa):Prop:=∀id,H.next<=id->H.get id=none
theorem Qa.Wf.lt {H:Qa}(h:H.Wf){id:Nat}{b:Blk}(hg:H.get id=some b):id<H.next:=by
 rcases Nq id H.next with h1 | h1
 ·exact h1
 ·rw[h id h1]at hg;cases hg
theorem Qa.Wf.push {H:Qa}(h:H.Wf)(b:Blk):(H.push b).Wf:=λid hid=>by
 simp only[Qc]at hid;rw[Qd,Le (by omega)];exact h id (by omega)
theorem Qa.Wf.set {H:Qa}(h:H.Wf){i:Nat}{b0:Blk}(hg:H.get i=some b0)(b:Blk):(H.set i b).Wf:=λid hid=>by
 have:=h.lt hg;simp only[Qt]at hid;rw[Qq,Le (by omega)];exact h id hid
theorem Qa.Wf.kill {H:Qa}(h:H.Wf)(i:Nat):(H.kill i).Wf:=λid hid=>by
 simp only[Qdm]at hid;rw[WS];split
 ·rfl
 ·exact h id hid
def Qe (P:Program)(f:FuncId)(args:List Value)(H:Qa)(k:Value->Qa->Prop):Prop:=H.Wf->∃v H',GQ P f args H v H'∧H.next<=H'.next∧H'.Wf∧k v H'
def YQ (P:Program)(l:Nat)(args:List Value)(H:Qa)(k:Value->Qa->Prop):Prop:=H.Wf->∃v H',Qug P l args H v H'∧H.next<=H'.next∧H'.Wf∧k v H'
def QmA:Value->Value->Prop
 | .pointer (some a),.pointer (some b)=>b.block≠a.block
 | _,_=>True
def Qpl (n:Nat):Value->Prop
 | .pointer (some a)=>a.block<n
 | .slice (some a) _ _=>a.block<n
 | _=>False
def QIh (H H':Qa):Value->Prop
 | .pointer (some a)=>H'.get a.block=H.get a.block
 | .slice (some a) _ _=>H'.get a.block=H.get a.block
 | _=>True
def EqB (H H':Qa):Prop:=∀id,id<H.next->H'.get id=H.get id
def pr (P:Program)(r:R)(s:Bool)(A:Env)(H:Qa)(k:Value->Qa->Prop):Prop:=
 match r with
 | .call f args=>Qe P f (args.map (ev A)) H λv H'=>(s=true->∀id,H'.get id=H.get id)∧k v H'
 | .callv c args=>match ev A c with
  | .func (.func f) xs ys=>Qe P f (xs.toList++args.map (ev A)++ys.toList) H λv H'=>(s=true->∀id,H'.get id=H.get id)∧k v H'
  | .func (.yield l) ⟨[]⟩ ⟨[]⟩=>YQ P l (args.map (ev A)) H λv H'=>(s=true->∀id,H'.get id=H.get id)∧k v H'
  | _=>False
 | .callF f args os=>(∀z∈os,Qpl H.next (ev A z))∧Qe P f (args.map (ev A)) H λv H'=>EqB H H'∧k v H'
 | .callG f args os=>(∀z∈os,Qpl H.next (ev A z))∧Qe P f (args.map (ev A)) H λv H'=>(∀z∈os,QIh H H' (ev A z))∧k v H'
 | .appF e size bytes x y os=>(∀z∈os,Qpl H.next (ev A z))∧onS (rop P (.app e size bytes x y) A H) λv H'=>EqB H H'∧k v H'
 | .stf size x y os=>onS (rop P (.stf size x y os) A H) λv H'=>(∀z∈os,QmA (ev A x) (ev A z))∧k v H'
 | r=>onS (rop P r A H) λv H'=>(s=true->Qh H.next 6 v=true)∧k v H'
def pg (g:Option (Nat×Bool))(A:Env)(yes no:Prop):Prop:=
 match g with
 | none=>yes
 | some (t,w)=>match A t with
  | .bool b=>if b=w then yes else no
  | .tuple _=>no
  | _=>False
def Qdq (P:Program):List PO->(Env->Qa->Prop)->Env->Qa->Prop
 | [],k,A,H=>k A H
 | o::l,k,A,H=>pg o.g A (pr P o.r o.s A H λv H'=>Qdq P l k (GF A o.d v) H') (Qdq P l k (GF A o.d undef) H)
def jmK (l:Nat)(I:Nat->Env->Qa->Prop)(m:Nat)(e:Nat->Env->Qa->Prop)(j:Nat)(A:Env)(H:Qa):Prop:=if j=J0+l then ∃m',m'<m∧I m' A H else e j A H
def QCO (st:Option Code)(ks:Kp)(k:Env->Qa->Prop)(A:Env)(H:Qa):Prop:=match st with
 | none=>k A H
 | some .ret=>ks.ret A H
 | some (.exit j)=>Nat.blt j J0=true∧ks.ext j A H
 | _=>False
def QIi (L:Option Code->Blk)(l:Nat)(nx:Nat)(Q:Value->Qa->Prop):Kp:=⟨λ_ H2=>nx<=H2.next∧Q (.bool false) (H2.set l (L (some .ret))),λj _ H2=>Nat.blt j J0=true∧nx<=H2.next∧Q (.bool false) (H2.set l (L (some (.exit j))))⟩
def QGN (L:Option Code->Blk)(l:Nat)(nx:Nat)(Q:Value->Qa->Prop):Env->Qa->Prop:=λ_ H2=>nx<=H2.next∧Q (.bool true) (H2.set l (L none))
def QAw:Kp:=⟨λ_ _=>False,λ_ _ _=>False⟩
def Qm (P:Program):PC->Kp->(Env->Qa->Prop)->Env->Qa->Prop
 | .skip,_,k,A,H=>k A H
 | .ops l,_,k,A,H=>Qdq P l k A H
 | .seq a b,ks,k,A,H=>Qm P a ks (Qm P b ks k) A H
 | .cond c a b,ks,k,A,H=>match ev A c with
  | .bool t=>(t=true->Qm P a ks k A H)∧(t=false->Qm P b ks k A H)
  | _=>False
 | .block id b,ks,k,A,H=>Qm P b ⟨ks.ret,λj=>if j=id then k else ks.ext j⟩ k A H
 | .loop b,ks,k,A,H=>∃I:Nat->Env->Qa->Prop,(∃m,I m A H)∧∀m A' H',I m A' H'->Qm P b ks (λA'' H''=>∃m',m'<m∧I m' A'' H'') A' H'
 | .exit id,ks,_,A,H=>ks.ext id A H
 | .ret,ks,_,A,H=>ks.ret A H
 | .label _,_,k,A,H=>k A H
 | .goto l,ks,_,A,H=>ks.ext (J0+l) A H
 | .scope b l r,ks,k,A,H=>∃I:Nat->Env->Qa->Prop,(∃m,Qm P b ⟨ks.ret,jmK l I m ks.ext⟩ k A H)∧∀m A' H',I m A' H'->Qm P r ⟨ks.ret,jmK l I m ks.ext⟩ k A' H'
 | .rangeF g ps a b,ks,k,A,H=>match ev A g with
  | .func (.func f) xs ys=>∀L:Option Code->Blk,
    (∀ (l:Nat) (args:List Value) (H0:Qa) (Q:Value->Qa->Prop),H0.get l=some (L none)->args.length=ps.length->Qm P a QAw (λA1 H1=>Qm P b (QIi L l H0.next Q) (QGN L l H0.next Q) A1 H1) (Qqf A ps args) (H0.kill l)->YQ P l args H0 Q)->
    entered P f=true∧Qe P f (xs.toList++[.func (.yield H.next) #[] #[]]++ys.toList) (H.push (L none)) λ_ H2=>∃st,H2.get H.next=some (L st)∧QCO st ks k A (H2.kill H.next)
  | _=>False
 | .bad,_,_,_,_=>False
/-! ### Soundness -/
section
variable {P:Program} {n:Nat}
theorem QBy:QhN P GH:=⟨λf args H v H' h=>(by cases h),λf args H v H' h=>(by cases h)⟩
theorem QBz {H H':Qa}{r:Option Value}{c:Cls}{v:Value}(h:Ji H r=some (c,v,H')):c=.pure∧H'=H:=by
 obtain⟨_,h1,h2⟩:=ZS h;exact⟨h1,h2⟩
theorem Zx {α:Type}{b:Bool}{x:Option α}{y:α}(h:(bif b then x else none)=some y):x=some y:=by cases b<;>simp_all
theorem QnH {e:TypeId}{inf:TypeInfo}{s x:Value}{H H':Qa}{v:Value}(h:Qli e inf s x H=some (v,H')):H.next<=H'.next∧(H.Wf->H'.Wf):=by
  unfold Qli at h
  repeat' (split at h)
  all_goals first
    | (cases h;done)
    | (simp only[Lt,LB]at h;obtain⟨_,rfl⟩:=h;refine⟨by simp,λhw=>?_⟩
       first
         | exact hw
         | exact hw.push _
         | exact(hw.kill _).push _
         | exact hw.set (by assumption) _)
theorem Qll {k:TypeId}{m ix v:Value}{H H':Qa}(h:QwO P k m ix v H=some H'):H.next<=H'.next∧(H.Wf->H'.Wf):=by
 unfold QwO at h;split at h
 ·split at h
  ·rename_i hg;have h:=Zx h;split at h
   ·cases h;exact⟨by simp,λhw=>hw.set hg _⟩
   ·cases h;exact⟨by simp,λhw=>hw.set hg _⟩
   ·cases h
  ·cases h
 ·cases h
structure Syn (P:Program) (o:Oper) (H H':Qa) (c:Cls):Prop where
 gen:Zf c=true->QEs o=true∨Qu8 P o.op=true
 load:c=.load->QrT o=true
 alloc:∀b,c=.alloc b->Qu7 o=true
 next:H.next<=H'.next
 wf:H.Wf->H'.Wf
theorem QEv {o:Oper}{A:Env}{H H':Qa}{c:Cls}{v:Value}(h:aop P GH o A H=some (c,v,H')):Syn P o H H' c:=by
  obtain⟨dst,op,ty,pos,af,g⟩:=o;have hs:∀ {u:Value},some (Cls.pure,u,H)=some (c,v,H')->Syn P ⟨dst,op,ty,pos,af,g⟩ H H' c:=λh=>by
    simp only[Lt,LB]at h;obtain⟨rfl,_,rfl⟩:=h;exact⟨λh=>(by cases h),λh=>(by cases h),λb h=>(by cases h),Lb _,id⟩
  have hp:∀ {r:Option Value},Ji H r=some (c,v,H')->Syn P ⟨dst,op,ty,pos,af,g⟩ H H' c:=λ{r} h=>by
    obtain⟨rfl,rfl⟩:=QBz h;exact⟨λh=>(by cases h),λh=>(by cases h),λb h=>(by cases h),Lb _,id⟩
  have ha:∀ {b:Blk} {u:Value},Qu7 ⟨dst,op,ty,pos,af,g⟩=true->some (Cls.alloc b,u,H.push b)=some (c,v,H')->Syn P ⟨dst,op,ty,pos,af,g⟩ H H' c:=λhl h=>by
    simp only[Lt,LB]at h;obtain⟨rfl,_,rfl⟩:=h;exact⟨λh=>(by cases h),λh=>(by cases h),λb _=>hl,by simp,λhw=>hw.push _⟩
  unfold aop at h;split at h
  case h_1 hop=>exact hs h
  case h_2 hop=>exact hs h
  case h_3 hop=>
    unfold Qu3 at h;split at h
    · exact hs h
    · cases h
  case h_4 hop=>exact hs (Zx h)
  case h_5 hop=>exact hp h
  case h_6 hop=>exact hp h
  case h_7 hop=>
    unfold Qgu at h;simp only at hop;split at h
    · split at h
      · split at h
        · exact ha (by subst hop;rfl) (Zx h)
        · cases h
      · cases h
    · rename_i hu hd ex
      split at h
      · split at h
        · simp only[Lt,LB]at h;obtain⟨rfl,_,rfl⟩:=h
          exact⟨λ_=>.inr (by subst hop;simp only[Qu8,hu]),λh=>(by cases h),λb h=>(by cases h),Lb _,id⟩
        · cases h
      · cases h
    · exact hp h
  case h_8 hop=>
    unfold VF at h;split at h
    · cases h
    · exact hs h
    · cases h
  case h_9 hop=>exact hs (Zx h)
  case h_10 hop=>
    unfold Qrl at h
    repeat' (split at h)
    all_goals first | exact hp h | cases h
  case h_11 hop=>
    unfold VY at h
    repeat' (split at h)
    all_goals first
      | (cases h;done)
      | (revert h;cases hz:Nat.beq _ 0<;>intro h<;>first | exact hs h | cases h)
  case h_12 hop=>
    unfold VZ at h
    repeat' (split at h)
    all_goals first | exact hs h | cases h
  case h_13 hop=>
    unfold Qrm at h
    repeat' (split at h)
    all_goals first | exact hs h | exact hp h | cases h
  case h_14 hop=>
    unfold Qlj at h;split at h
    · exact hp h
    · cases h
  case h_15 hop=>
    unfold Qrn at h
    repeat' (split at h)
    all_goals first | (cases h;done) | exact hp (Zx h)
  case h_16 hop=>
    simp only at hop;unfold Qd1 at h;split at h
    · split at h
      · split at h
        · have h:=Zx h
          split at h
          · exact ha (by subst hop;rfl) h
          · cases h
        · cases h
      · cases h
    · cases h
  case h_17 hop=>
    simp only at hop;unfold Qro at h;split at h
    · split at h
      · exact ha (by subst hop;rfl) (Zx h)
      · cases h
    · cases h
  case h_18 hop=>simp only at hop;unfold QCM at h;exact ha (by subst hop;rfl) h
  case h_19 hop=>
    simp only at hop;unfold Qff at h
    repeat' (split at h)
    all_goals first | (cases h;done) | exact ha (by subst hop;rfl) h
  case h_20 hop=>
    unfold QnB at h
    repeat' (split at h)
    all_goals first | exact hs h | exact hp h | cases h
  case h_21 hop=>
    simp only at hop;unfold QrR at h
    repeat' (split at h)
    all_goals first
      | (cases h;done)
      | (simp only[Lt,LB]at h
         obtain⟨rfl,_,rfl⟩:=h;exact⟨λh=>(by cases h),λ_=>(by subst hop;rfl),λb h=>(by cases h),Lb _,id⟩)
  case h_22 hop=>
    simp only at hop;unfold QnC at h;split at h
    · split at h
      · rename_i H1 hst
        simp only[Lt,LB]at h;obtain⟨rfl,_,rfl⟩:=h;have hst2:H.next<=H1.next∧(H.Wf->H1.Wf):=by
          unfold Qms at hst;split at hst
          · rename_i hg
            split at hst
            · cases hst;exact⟨by simp,λhw=>hw.set hg _⟩
            · cases hst
          · cases hst
        exact⟨λ_=>.inl (by subst hop;rfl),λh=>(by cases h),λb h=>(by cases h),hst2.1,hst2.2⟩
      · cases h
    · cases h
  case h_23 cl hop=>
    simp only at hop;unfold Qmz at h;split at h
    · split at h
      · split at h
        · exact hs h
        · cases h
      · split at h
        · exact hs (Zx h)
        · cases h
      · split at h
        · split at h
          · exact hs h
          · cases h
        · cases h
      · split at h
        · split at h
          · exact hs h
          · cases h
        · cases h
      · split at h
        · split at h
          · split at h
            · have h:=Zx h
              simp only[Lx,LB]at h;obtain⟨⟨u,H1⟩,h1,rfl,rfl,rfl⟩:=h;exact⟨λ_=>.inl (by subst hop;rfl),λh=>(by cases h),λb h=>(by cases h),(QnH h1).1,(QnH h1).2⟩
            · cases h
          · cases h
        · cases h
      · split at h
        · split at h
          · simp only[Lx,LB]at h
            obtain⟨⟨u,H1⟩,h1,rfl,rfl,rfl⟩:=h;have hn:H.next<=H1.next∧(H.Wf->H1.Wf):=by
              unfold QAs at h1
              repeat' (split at h1)
              all_goals first
                | (cases h1;done)
                | (simp only[Lt,LB]at h1;obtain⟨_,rfl⟩:=h1;exact⟨by simp,λhw=>by first | exact hw | exact hw.set (by assumption) _⟩)
            exact⟨λ_=>.inl (by subst hop;rfl),λh=>(by cases h),λb h=>(by cases h),hn.1,hn.2⟩
          · cases h
        · cases h
      · cases h
    · split at h
      · split at h
        · simp[GH]at h
        · cases h
      · cases h
    · simp[GH]at h
    · split at h
      · simp[GH]at h
      · have h:=Zx h;simp[GH]at h
      · cases h
  case h_24 hop=>simp only at hop;exact ha (by subst hop;rfl) h
  case h_25 hop=>
    simp only at hop;unfold QnD at h;split at h
    · simp only[Lx,LB]at h
      obtain⟨u,h1,rfl,rfl,rfl⟩:=h;exact⟨λ_=>.inl (by subst hop;rfl),λh=>(by cases h),λb h=>(by cases h),Lb _,id⟩
    · cases h
  case h_26 hop=>
    simp only at hop;unfold QrS at h;split at h
    · simp only[Lx,LB]at h
      obtain⟨H1,h1,rfl,rfl,rfl⟩:=h;exact⟨λ_=>.inl (by subst hop;rfl),λh=>(by cases h),λb h=>(by cases h),(Qll h1).1,(Qll h1).2⟩
    · cases h
  case h_27 hop=>
    simp only at hop;unfold QrS at h;split at h
    · simp only[Lx,LB]at h
      obtain⟨H1,h1,rfl,rfl,rfl⟩:=h;exact⟨λ_=>.inl (by subst hop;rfl),λh=>(by cases h),λb h=>(by cases h),(Qll h1).1,(Qll h1).2⟩
    · cases h
  case h_28 hop=>
    simp only at hop;unfold Qu5 at h;split at h
    · exact ha (by subst hop;rfl) h
    · cases h
  case h_29 hop=>
    simp only at hop;simp only[Lx,LB]at h;obtain⟨⟨u,H1⟩,h1,rfl,rfl,rfl⟩:=h;have hn:H.next<=H1.next∧(H.Wf->H1.Wf):=by
      unfold QAr at h1;split at h1
      · have h1:=Zx h1
        split at h1
        · rename_i hg
          split at h1
          · simp only[Lt,LB]at h1;obtain⟨_,rfl⟩:=h1;exact⟨by simp,λhw=>hw.set hg _⟩
          · simp only[Lt,LB]at h1;obtain⟨_,rfl⟩:=h1;exact⟨by simp,λhw=>hw⟩
        · cases h1
      · cases h1
    exact⟨λ_=>.inl (by subst hop;rfl),λh=>(by cases h),λb h=>(by cases h),hn.1,hn.2⟩
  case h_30=>cases h
end
section
variable {P:Program} {n:Nat}
theorem Qun {ops:Array Oper}{o:Oper}{g:Option (Nat×Bool)}{A:Env}{yes no:Prop}(hc:QyQ n ops o=some g)(h:pg g A yes no):
  (ZE n ops A o=some true∧yes)∨(ZE n ops A o=some false∧no):=by
 unfold QyQ at hc;unfold ZE;split at hc
 ·rename_i hg;cases hc;exact .inl ⟨by rw[hg],h⟩
 ·rename_i j want hg;rw[hg];split at hc
  ·rename_i t ht;split at hc
   ·rename_i hlt;cases hc;have h':(match A t with | .bool b=>if b=want then yes else no | .tuple _=>no | _=>False):=h;simp only[ht,hlt,N3];split at h'
    ·rename_i b hb;split at h'
     ·rename_i e;exact .inl ⟨by simp[hb,e],h'⟩
     ·rename_i e;exact .inr ⟨by simp[hb,e],h'⟩
    ·rename_i hb;exact .inr ⟨by simp[hb],h'⟩
    ·exact h'.elim
   ·cases hc
  ·cases hc
theorem Qvc {op:Op}{f:FuncId}{args:List Operand}(h:Wl P op=.call f args):∃a ts,op=.call ⟨.value (.func f),a,ts⟩∧args=a.toList:=by
 unfold Wl at h
 repeat' (split at h)
 all_goals first
  | (cases h;done)
  | (cases h;exact⟨_,_,rfl,rfl⟩)
theorem Qtn {op:Op}{c:Operand}{args:List Operand}(h:Wl P op=.callv c args):∃a ts,op=.call ⟨.value c,a,ts⟩∧args=a.toList:=by
 unfold Wl at h
 repeat' (split at h)
 all_goals first
  | (cases h;done)
  | (cases h;exact⟨_,_,rfl,rfl⟩)
theorem QwU {op:Op}{size:Nat}{x y:Operand}{os:List Operand}(h:Wl P op=.stf size x y os):False:=by
 unfold Wl at h
 repeat' (split at h)
 all_goals cases h
theorem Qto {op:Op}{f:FuncId}{args os:List Operand}(h:Wl P op=.callF f args os):False:=by
 unfold Wl at h
 repeat' (split at h)
 all_goals cases h
theorem Qtp {op:Op}{f:FuncId}{args os:List Operand}(h:Wl P op=.callG f args os):False:=by
 unfold Wl at h
 repeat' (split at h)
 all_goals cases h
theorem Qvd {op:Op}{e size bytes:Nat}{x y:Operand}{os:List Operand}(h:Wl P op=.appF e size bytes x y os):False:=by
 unfold Wl at h
 repeat' (split at h)
 all_goals cases h
def InB (v:Value)(b:Nat):Prop:=(∃a:Addr,v=.pointer (some a)∧a.block=b)∨∃ (a:Addr) (n c:Nat),v=.slice (some a) n c∧a.block=b
theorem InB.uniq {v:Value}{b b':Nat}(h:InB v b)(h':InB v b'):b=b':=by
 rcases h with⟨a,rfl,rfl⟩ | ⟨a,n,c,rfl,rfl⟩<;>rcases h' with⟨a',e,rfl⟩ | ⟨a',n',c',e,rfl⟩<;>cases e<;>rfl
def FA (o:Oper)(A:Env)(v:Value):Prop:=∀b,QrV o=some b->∀n,InB v n->InB (A b) n
theorem FA.none {o:Oper}{A:Env}{v:Value}(h:QrV o=none):FA o A v:=λb h'=>by rw[h]at h';cases h'
theorem QGT {o:Oper}{A:Env}{H H':Qa}{c:Cls}{v:Value}(h:aop P GH o A H=some (c,v,H')):FA o A v:=by
 obtain⟨dst,op,ty,pos,af,g⟩:=o;intro b hf n hv;unfold QrV at hf;split at hf
 ·rename_i t b' f hop;simp only at hop;subst hop;cases hf;have h:VY P GH A H t (.tmp b) f=some (c,v,H'):=h;unfold VY at h;split at h
  ·rename_i fs a _ ha;split at h
   ·split at h
    ·rename_i inf _;cases hz:Nat.beq inf.size 0 with
     | true=>rw[hz]at h;cases h
     | false=>
      rw[hz]at h;simp only[Ls,Lt,LB]at h;have ha:A b=.pointer (some a):=ha;obtain⟨_,rfl,_⟩:=h;rcases hv with⟨a',e,rfl⟩ | ⟨a',n',c',e,rfl⟩
      ·cases e;exact .inl ⟨a,ha,rfl⟩
      ·cases e
    ·cases h
   ·cases h
  ·cases h
 ·rename_i t b' ix hop;simp only at hop;subst hop;cases hf;have h:VZ P GH A H t (.tmp b) ix=some (c,v,H'):=h;unfold VZ at h;split at h
  ·split at h
   ·rename_i e a len cap _ ha;have ha:A b=.slice (some a) len cap:=ha;split at h
    ·split at h
     ·simp only[Lt,LB]at h;obtain⟨_,rfl,_⟩:=h;rcases hv with⟨a',e,rfl⟩ | ⟨a',n',c',e,rfl⟩
      ·cases e;exact .inr ⟨a,_,_,ha,rfl⟩
      ·cases e
     ·cases h
    ·cases h
   ·rename_i len e a _ ha;have ha:A b=.pointer (some a):=ha;split at h
    ·split at h
     ·simp only[Lt,LB]at h;obtain⟨_,rfl,_⟩:=h;rcases hv with⟨a',e,rfl⟩ | ⟨a',n',c',e,rfl⟩
      ·cases e;exact .inl ⟨a,ha,rfl⟩
      ·cases e
     ·cases h
    ·cases h
   ·cases h
  ·cases h
 ·rename_i b' hop;simp only at hop;subst hop;cases hf;have h:some (Cls.pure,ev A (.tmp b),H)=some (c,v,H'):=h;cases h;exact hv
 ·rename_i b' hop;simp only at hop;subst hop;cases hf;have h:some (Cls.pure,ev A (.tmp b),H)=some (c,v,H'):=h;cases h;exact hv
 ·rename_i b' hop;simp only at hop;subst hop;cases hf;have h:Qek P GH A H (.tmp b)=some (c,v,H'):=h;unfold Qek at h;cases hn:QhF (ev A (.tmp b)) with
  | false=>rw[hn]at h;cases h
  | true=>
   rw[hn]at h;cases h;exact hv
 ·cases hf
theorem Qrs {o:Oper}{s:Bool}{A:Env}{H:Qa}{k:Value->Qa->Prop}(hw:H.Wf)(h:pr P (Wl P o.op) s A H k):
  ∃c v H',Qqi P o A H v H' c∧Syn P o H H' c∧(s=true->Qlk o=true->∀id,H'.get id=H.get id)∧(s=true->QrT o=true->Qh H.next 6 v=true)∧FA o A v∧k v H':=by
 obtain⟨dst,op,ty,pos,af,g⟩:=o;have other:onS (rop P (Wl P op) A H) (λv H'=>(s=true->Qh H.next 6 v=true)∧k v H')->
   ∃c v H',Qqi P ⟨dst,op,ty,pos,af,g⟩ A H v H' c∧Syn P ⟨dst,op,ty,pos,af,g⟩ H H' c∧(s=true->Qlk ⟨dst,op,ty,pos,af,g⟩=true->∀id,H'.get id=H.get id)∧(s=true->QrT ⟨dst,op,ty,pos,af,g⟩=true->Qh H.next 6 v=true)∧FA ⟨dst,op,ty,pos,af,g⟩ A v∧k v H':=fun⟨v,H',hr,hs,hk⟩=>by
  obtain⟨c,ha⟩:=QyM hr;have ha:aop P GH ⟨dst,op,ty,pos,af,g⟩ A H=some (c,v,H'):=ha;refine⟨c,v,H',Qph QBy ha,QEv ha,λ_ hc=>?_,λh _=>hs h,QGT ha,hk⟩;unfold Qlk at hc;split at hc
  ·rename_i f a ts hop;simp only at hop;subst hop;unfold aop at ha;simp only[Qmz]at ha;split at ha
   ·rename_i he;cases he
   ·rename_i he;cases he
   ·simp[GH]at ha
   ·split at ha
    ·simp[GH]at ha
    ·have ha:=Zx ha;simp[GH]at ha
    ·cases ha
  ·cases hc
 simp only[pr]at h;split at h
 ·rename_i f args hr;obtain⟨a,ts,hop,rfl⟩:=Qvc hr;subst hop;obtain⟨v,H',hc,hn,hwf,hs,hk⟩:=h hw;refine⟨.gen,v,H',Qrk (by simpa using hc),⟨λ_=>.inl rfl,λh=>(by cases h),λb h=>(by cases h),hn,λ_=>hwf⟩,λh _=>hs h,λ_ h=>(by cases h),.none rfl,hk⟩
 ·rename_i c args hr;obtain⟨a,ts,hop,rfl⟩:=Qtn hr;subst hop;split at h
  ·rename_i f xs ys hv;obtain⟨v,H',hc,hn,hwf,hs,hk⟩:=h hw;refine⟨.gen,v,H',QwH hv (by simpa using hc),⟨λ_=>.inl rfl,λh=>(by cases h),λb h=>(by cases h),hn,λ_=>hwf⟩,λh _=>hs h,λ_ h=>(by cases h),.none rfl,hk⟩
  ·rename_i l hv;obtain⟨v,H',hc,hn,hwf,hs,hk⟩:=h hw;refine⟨.gen,v,H',QwN hv (by simpa using hc),⟨λ_=>.inl rfl,λh=>(by cases h),λb h=>(by cases h),hn,λ_=>hwf⟩,λh _=>hs h,λ_ h=>(by cases h),.none rfl,hk⟩
  ·exact h.elim
 ·rename_i hr;exact(Qto hr).elim
 ·rename_i hr;exact(Qtp hr).elim
 ·rename_i hr;exact(Qvd hr).elim
 ·rename_i hr;exact(QwU hr).elim
 ·exact other h
def Low (P:Program)(o:Oper)(os:List Operand)(A:Env)(H H':Qa):Prop:=QlX o=true->∀z∈os,∃b:Nat,InB (ev A z) b∧b<H.next∧(isG P o=true->H'.get b=H.get b)
def Sep (o:Oper)(os:List Operand)(A:Env)(H H':Qa):Prop:=QyO o=true->∃a:Nat,(∀id,id≠a->H'.get id=H.get id)∧∀z∈os,∀b:Addr,ev A z=.pointer (some b)->b.block≠a
theorem QwV {ops:Array Oper}{i:Nat}{o:Oper}{s:Bool}{A:Env}{H:Qa}{k:Value->Qa->Prop}(hw:H.Wf)(h:pr P (Qj0 P ops s i o) s A H k):
  ∃c v H',Qqi P o A H v H' c∧Syn P o H H' c∧(s=true->QBx o=true->isG P o=false->EqB H H')∧(s=true->QrT o=true->Qh H.next 6 v=true)∧(s=true->Sep o (QrU ops (QV ops.toList []) i) A H H')∧(s=true->Low P o (Qdp ops (QV ops.toList []) i) A H H')∧FA o A v∧k v H':=by
 cases s with
 | false=>
  obtain⟨c,v,H',h1,h2,h3,h4,hfa,h5⟩:=Qrs hw h;exact⟨c,v,H',h1,h2,λh=>(by cases h),h4,λh=>(by cases h),λh=>(by cases h),hfa,h5⟩
 | true=>
  have h:pr P (Qel P ops i o) true A H k:=h;have plainly:QyO o=false->QlX o=false->Qel P ops i o=Wl P o.op->∃c v H',Qqi P o A H v H' c∧Syn P o H H' c∧(true=true->QBx o=true->isG P o=false->EqB H H')∧(true=true->QrT o=true->Qh H.next 6 v=true)∧(true=true->Sep o (QrU ops (QV ops.toList []) i) A H H')∧(true=true->Low P o (Qdp ops (QV ops.toList []) i) A H H')∧FA o A v∧k v H':=λhns hnd e=>by
   rw[e]at h;obtain⟨c,v,H',h1,h2,h3,h4,hfa,h5⟩:=Qrs hw h;exact⟨c,v,H',h1,h2,λhh hc _ id _=>h3 hh (by
    unfold QBx QyN at hc;unfold QlX at hnd;cases hcf:Qlk o with
    | true=>rfl
    | false=>
     rw[hcf,Nt]at hc;split at hc
     ·rename_i hop;rw[hop]at hnd;cases hnd
     ·cases hc) id,h4,λ_ hs=>(by rw[hns]at hs;cases hs),λ_ hs=>(by rw[hnd]at hs;cases hs),hfa,h5⟩
  cases hst:QyO o with
  | false=>
   cases hdi:QlX o with
   | false=>
    refine plainly hst hdi ?_;unfold Qel;unfold QyO at hst;unfold QlX at hdi;split
    ·rename_i t x y hop;rw[hop]at hst;cases hst
    ·rename_i hop;rw[hop]at hdi;cases hdi
    ·rename_i hop;rw[hop]at hdi;cases hdi
    ·rfl
   | true=>
    obtain⟨dst,op,ty,pos,af,g⟩:=o;unfold QlX at hdi;split at hdi
    ·rename_i f a ts hop;simp only at hop;subst hop;have hres:Qel P ops i ⟨dst,.call ⟨.value (.func f),a,ts⟩,ty,pos,af,g⟩=bif isG P ⟨dst,.call ⟨.value (.func f),a,ts⟩,ty,pos,af,g⟩ then .callG f a.toList (Qdp ops (QV ops.toList []) i) else .callF f a.toList (Qdp ops (QV ops.toList []) i):=rfl
     rw[hres]at h;cases hG:isG P ⟨dst,.call ⟨.value (.func f),a,ts⟩,ty,pos,af,g⟩ with
     | false=>
      rw[hG]at h;obtain⟨hlow,hq⟩:=h;obtain⟨v,H',hc,hn,hwf,hs,hk⟩:=hq hw;refine⟨.gen,v,H',Qrk (by simpa using hc),⟨λ_=>.inl rfl,λh=>(by cases h),λb h=>(by cases h),hn,λ_=>hwf⟩,λ_ _ _=>hs,λ_ h=>(by cases h),λ_ h=>(by cases h),λ_ _ z hz=>?_,.none rfl,hk⟩;have:=hlow z hz;unfold Qpl at this;split at this
      ·rename_i b hb;exact⟨_,.inl ⟨b,hb,rfl⟩,this,λh=>absurd (hG.symm.trans h) (by decide)⟩
      ·rename_i b n c hb;exact⟨_,.inr ⟨b,n,c,hb,rfl⟩,this,λh=>absurd (hG.symm.trans h) (by decide)⟩
      ·exact this.elim
     | true=>
      rw[hG]at h;obtain⟨hlow,hq⟩:=h;obtain⟨v,H',hc,hn,hwf,hs,hk⟩:=hq hw;refine⟨.gen,v,H',Qrk (by simpa using hc),⟨λ_=>.inl rfl,λh=>(by cases h),λb h=>(by cases h),hn,λ_=>hwf⟩,λ_ _ h=>(by cases h),λ_ h=>(by cases h),λ_ h=>(by cases h),λ_ _ z hz=>?_,.none rfl,hk⟩;have h1:=hlow z hz;have h2:=hs z hz;unfold Qpl at h1;split at h1
      ·rename_i b hb;rw[hb]at h2;exact⟨_,.inl ⟨b,hb,rfl⟩,h1,λ_=>h2⟩
      ·rename_i b n c hb;rw[hb]at h2;exact⟨_,.inr ⟨b,n,c,hb,rfl⟩,h1,λ_=>h2⟩
      ·exact h1.elim
    ·rename_i a ts hop;simp only at hop;subst hop;have hres:Qel P ops i ⟨dst,.call ⟨.builtin .append,a,ts⟩,ty,pos,af,g⟩=(match Wl P (.call ⟨.builtin .append,a,ts⟩) with | .app e size bytes x y=>.appF e size bytes x y (Qdp ops (QV ops.toList []) i) | _=>.callG 0 [] [.const (.bool false)]):=rfl;rw[hres]at h;split at h
     ·rename_i e size bytes x y hr1;obtain⟨hlow,v,H',hr,hs,hk⟩:=h;obtain⟨c,v1,H1,h1,h2,h3,h4,hfa,h5⟩:=Qrs (s:=false) (k:=λv' H1=>v'=v∧H1=H') hw (o:=⟨dst,.call ⟨.builtin .append,a,ts⟩,ty,pos,af,g⟩) (by
       show pr P (Wl P (.call ⟨.builtin .append,a,ts⟩)) false A H _;rw[hr1];exact⟨v,H',hr,λh=>(by cases h),rfl,rfl⟩)
      obtain⟨rfl,rfl⟩:=h5;refine⟨c,v1,H1,h1,h2,λ_ _ _=>hs,λ_ hl=>(by cases hl),λ_ hss=>(by cases hss),λ_ _ z hz=>?_,hfa,hk⟩;have:=hlow z hz;unfold Qpl at this;split at this
      ·rename_i b hb;exact⟨_,.inl ⟨b,hb,rfl⟩,this,λh=>(by cases h)⟩
      ·rename_i b n c hb;exact⟨_,.inr ⟨b,n,c,hb,rfl⟩,this,λh=>(by cases h)⟩
      ·exact this.elim
     ·exact(h.1 _ (Sa.2 rfl)).elim
    ·cases hdi
  | true=>
   unfold QyO at hst;split at hst
   ·rename_i t x y hop;unfold Qel at h;rw[hop]at h;simp only at h;cases hin:P.info? t with
    | none=>
     rw[hin]at h;have e:Wl P (.store t x y)=.gen (.store t x y):=by simp[Wl,hin]
     simp only at h;rw[e]at h;obtain⟨v,H',hr,hs,hk⟩:=h;simp only[rop,aop,QnC,Qms,hin]at hr;split at hr
     ·rename_i hh;repeat' (split at hh)
      all_goals (first | (cases hh;done) | (rename_i h9;cases h9))
     ·cases hr
    | some inf=>
     rw[hin]at h;obtain⟨v,H',hr,hs,hk⟩:=h;have e:Wl P o.op=.st inf.size x y:=by rw[hop];simp[Wl,hin]
     obtain⟨c,v1,H1,h1,h2,h3,h4,hfa,h5⟩:=Qrs (s:=false) (k:=λv' H1=>v'=v∧H1=H') hw (o:=o) (by
      rw[e];exact⟨v,H',hr,λh=>(by cases h),rfl,rfl⟩)
     obtain⟨rfl,rfl⟩:=h5;refine⟨c,v1,H1,h1,h2,λ_ hc _=>?_,λ_ hl=>?_,λ_ _=>?_,λ_ hd=>?_,hfa,hk⟩
     ·unfold QBx Qlk QyN at hc;rw[hop]at hc;cases hc
     ·unfold QrT at hl;rw[hop]at hl;cases hl
     ·simp only[rop]at hr;split at hr
      ·rename_i a ha;split at hr
       ·rename_i c' e' hg;split at hr
        ·simp only[Lt,LB]at hr;obtain⟨_,rfl⟩:=hr;refine⟨a.block,λid hid=>by rw[Qq,Le hid],λz hz=>?_⟩;have hap:=hs z hz;rw[ha]at hap;intro b1 hb1;rw[hb1]at hap;exact hap
        ·cases hr
       ·cases hr
      ·cases hr
     ·unfold QlX at hd;rw[hop]at hd;cases hd
   ·cases hst
theorem QmD {ops:Array Oper}{fl:Nat->Bool}:∀ (l:List Oper) (i:Nat) (pl:List PO) (k:Env->Qa->Prop) (A:Env) (H:Qa),H.Wf->QcM P n ops fl l i=some pl->Qdq P pl k A H->
  ∃A1 H1,H1.Wf∧k A1 H1∧Qmq P n ops l (λe A' H'=>e=.normal∧A'=A1∧H'=H1) A H
 | [],i,pl,k,A,H,hwf,hc,h=>by
  simp only[QcM,Lt]at hc;subst hc;exact⟨A,H,hwf,h,QwA ⟨rfl,rfl,rfl⟩⟩
 | o::l,i,pl,k,A,H,hwf,hc,h=>by
  unfold QcM at hc;split at hc
  ·rename_i hok;split at hc
   ·rename_i g pl1 hg hpl;cases hc;have h:pg g A (pr P (Qj0 P ops (fl i) i o) (fl i) A H λv H'=>Qdq P pl1 k (GF A o.dst v) H') (Qdq P pl1 k (GF A o.dst undef) H):=h;rcases Qun hg h with⟨hw,hy⟩ | ⟨hw,hn⟩
    ·obtain⟨c,v,H',h1,h2,h3,h4,_,_,_,h5⟩:=QwV hwf hy;obtain⟨A1,H1,hw1,hk,ha⟩:=QmD l (i+1) pl1 k _ _ (h2.wf hwf) hpl h5;refine⟨A1,H1,hw1,hk,?_⟩;cases hgd:o.guard with
     | none=>exact Qt9 hgd h1.does hok ha
     | some jw=>
      obtain⟨j,w⟩:=jw;exact Qfh hgd hw (λ_=>⟨v,H',h1.does,ha⟩) (λhh=>by cases hh) hok
    ·obtain⟨A1,H1,hw1,hk,ha⟩:=QmD l (i+1) pl1 k _ _ hwf hpl hn;refine⟨A1,H1,hw1,hk,?_⟩;cases hgd:o.guard with
     | none=>simp[ZE,hgd]at hw
     | some jw=>
      obtain⟨j,w⟩:=jw;exact Qfh hgd hw (λhh=>by cases hh) (λ_=>ha) hok
   ·cases hc
  ·cases hc
structure StR (P:Program) (n:Nat) (ops:Array Oper) (fl:Nat->Bool) (i:Nat) (o:Oper) (s:Stp) (t':Env) (H':Qa):Prop where
 ok:Qje P n o=true
 wf:s.H.Wf
 env:t'=GF s.t o.dst s.v
 next:s.H.next<=H'.next
 run:(ZE n ops s.t o=some true∧Qqi P o s.t s.H s.v H' s.c∧Syn P o s.H H' s.c∧(fl i=true->QBx o=true->isG P o=false->EqB s.H H')∧(fl i=true->QrT o=true->Qh s.H.next 6 s.v=true)∧(fl i=true->Sep o (QrU ops (QV ops.toList []) i) s.t s.H H')∧(fl i=true->Low P o (Qdp ops (QV ops.toList []) i) s.t s.H H')∧FA o s.t s.v) ∨
  (ZE n ops s.t o=some false∧s.c=.pure∧s.v=undef∧H'=s.H)
def Qj2 (l:List Stp)(t:Env)(i:Nat):Env:=match l[i]? with | some s=>s.t | none=>t
theorem QrW {ops:Array Oper}{fl:Nat->Bool}:∀ (l:List Oper) (i:Nat) (pl:List PO) (k:Env->Qa->Prop) (A:Env) (H:Qa),H.Wf->QcM P n ops fl l i=some pl->Qdq P pl k A H->
  ∃tr A1 H1,H1.Wf∧k A1 H1∧tr.length=l.length∧Qj2 tr A1 0=A∧Yj tr H1 0=H∧∀ (j:Nat) o s,l[j]? = some o->tr[j]? = some s->StR P n ops fl (i+j) o s (Qj2 tr A1 (j+1)) (Yj tr H1 (j+1))
 | [],i,pl,k,A,H,hwf,hc,h=>by
  simp only[QcM,Lt]at hc;subst hc;exact⟨[],A,H,hwf,h,rfl,rfl,rfl,λj o s h=>by simp at h⟩
 | o::l,i,pl,k,A,H,hwf,hc,h=>by
  unfold QcM at hc;split at hc
  ·rename_i hok;split at hc
   ·rename_i g pl1 hg hpl;cases hc;have h:pg g A (pr P (Qj0 P ops (fl i) i o) (fl i) A H λv H'=>Qdq P pl1 k (GF A o.dst v) H') (Qdq P pl1 k (GF A o.dst undef) H):=h;have step:∀ (s:Stp) (t':Env) (H':Qa),s.t=A->s.H=H->H'.Wf->Qdq P pl1 k t' H'->StR P n ops fl i o s t' H'->
      ∃tr A1 H1,H1.Wf∧k A1 H1∧tr.length=(o::l).length∧Qj2 tr A1 0=A∧Yj tr H1 0=H∧∀ (j:Nat) o' s,(o::l)[j]? = some o'->tr[j]? = some s->StR P n ops fl (i+j) o' s (Qj2 tr A1 (j+1)) (Yj tr H1 (j+1)):=by
     intro s t' H' e1 e2 hw' hp hst;obtain⟨tr,A1,H1,hw1,hk,hl,ht,hh,hs⟩:=QrW l (i+1) pl1 k t' H' hw' hpl hp;refine⟨s::tr,A1,H1,hw1,hk,by simp[hl],by simp[Qj2,e1],by simp[Yj,e2],λj o' s' hj hs'=>?_⟩;cases j with
     | zero=>
      simp only[Bp,Lt]at hj hs';subst hj;subst hs';have h1:Qj2 (s::tr) A1 (0+1)=t':=by rw[<- ht];simp[Qj2]
      have h2:Yj (s::tr) H1 (0+1)=H':=by rw[<- hh];simp[Yj]
      rw[h1,h2];exact hst
     | succ j=>
      have:=hs j o' s' (by simpa using hj) (by simpa using hs');rw[show i+(j+1)=i+1+j by omega];simpa[Qj2,Yj] using this
    rcases Qun hg h with⟨hw,hy⟩ | ⟨hw,hn⟩
    ·obtain⟨c,v,H',h1,h2,h3,h4,h6,h7,hfa,h5⟩:=QwV hwf hy;exact step ⟨A,H,c,v⟩ _ H' rfl rfl (h2.wf hwf) h5 ⟨hok,hwf,rfl,h2.next,.inl ⟨hw,h1,h2,h3,h4,h6,h7,hfa⟩⟩
    ·exact step ⟨A,H,.pure,undef⟩ _ H rfl rfl hwf hn ⟨hok,hwf,rfl,Lb _,.inr ⟨hw,rfl,rfl,rfl⟩⟩
   ·cases hc
  ·cases hc
theorem Qcv {t:TypeId}{a:Addr}{H1 H2:Qa}(h:H1.get a.block=H2.get a.block):ZC P t a H1=ZC P t a H2:=by
 unfold ZC;rw[h]
theorem QrX (ops:Array Oper)(k e:Nat):∀ (d cur:Nat),QaB ops k (e+d) cur=match QaB ops (k+e) d cur with | some c=>QaB ops k e c | none=>none
 | 0,cur=>rfl
 | d+1,cur=>by
  show(match ops[k+(e+d)]? with | some o=>(match QwR o cur with | some c=>QaB ops k (e+d) c | none=>none) | none=>none)=(match (match ops[k+e+d]? with | some o=>(match QwR o cur with | some c=>QaB ops (k+e) d c | none=>none) | none=>none) with | some c=>QaB ops k e c | none=>none);rw[show k+(e+d)=k+e+d by omega];cases ops[k+e+d]? with
  | none=>rfl
  | some o=>
   simp only;cases QwR o cur with
   | none=>rfl
   | some c=>exact QrX ops k e d c
theorem QyZ {ops:Array Oper}{k i j tm bs:Nat}(h:QaB ops k (i - k) tm=some bs)(h1:k<=j)(h2:j<=i):∃c,QaB ops j (i - j) tm=some c:=by
 have:=QrX ops k (j - k) (i - j) tm;rw[show j - k+(i - j)=i - k by omega,h,show k+(j - k)=j by omega]at this;cases hc:QaB ops j (i - j) tm with
 | none=>rw[hc]at this;cases this
 | some c=>exact⟨c,rfl⟩
theorem Qy0 {id:Nat}{ops:Array Oper}{pl:List PO}{k:Env->Qa->Prop}{A:Env}{H:Qa}(hwf:H.Wf)(hm:P.follows .mixedOrders=true)(hrare:∀o∈ops,Qu8 P o.op=false)(hd:Qf3 ops (Yi ops)=true)(hck:QAv P ops (QV ops.toList [])=true)
  (hc:QcM P n ops (XG ops (QV ops.toList [])) ops.toList 0=some pl) (h:Qdq P pl k A H):
  ∃A1 H1,H1.Wf∧k A1 H1∧AWp P n (.region id ops true) (λe A' H'=>e=.normal∧A'=A1∧H'=H1) A H:=by
 obtain⟨tr,A1,H1,hw1,hk,hl,hA,hH,hs⟩:=QrW ops.toList 0 pl k A H hwf hc h;refine⟨A1,H1,hw1,hk,?_⟩;have hlen:tr.length=ops.size:=by simpa using hl
 let As:Nat->Env:=Qj2 tr A1
 let Hs:Nat->Qa:=Yj tr H1
 let vs:Nat->Value:=λi=>match tr[i]? with | some s=>s.v | none=>undef
 let cls:Nat->Cls:=λi=>match tr[i]? with | some s=>s.c | none=>.pure
 have hat:∀ (i:Nat) o,ops[i]? = some o->∃s,tr[i]? = some s∧StR P n ops (XG ops (QV ops.toList [])) i o s (As (i+1)) (Hs (i+1))∧As i=s.t∧Hs i=s.H∧vs i=s.v∧cls i=s.c:=λi o ho=>by
  have hlt:i<tr.length:=by rw[hlen];exact(Nj.1 ho).1
  have hi:=La hlt;refine⟨tr[i],hi,by have:=hs i o tr[i] (by simpa using ho) hi;rwa [LP]at this,?_,?_,?_,?_⟩<;>simp only[As,Hs,vs,cls,Qj2,Yj,hi]
 have hops:∀i,i<ops.size->∃o,ops[i]? = some o:=λi hi=>⟨ops[i],Ng hi⟩;have hgen:∀i,i<ops.size->Zf (cls i)=true->Yi ops i=true:=λi hi hg=>by
  obtain⟨o,ho⟩:=hops i hi;obtain⟨s,hsi,hst,_,_,_,e4⟩:=hat i o ho;rw[e4]at hg;simp only[Yi,ho];rcases hst.run with⟨_,_,hsyn,_⟩ | ⟨_,hc0,_⟩
  ·rcases hsyn.gen hg with h | h
   ·exact h
   ·have:=hrare o (BB ho);rw[h]at this;cases this
  ·rw[hc0]at hg;cases hg
 have hchk:∀k',k'<ops.size->Yi ops k'=true->XG ops (QV ops.toList []) k'=true->(Qdo ops k'=true∧(∀i,i<ops.size->Qpj ops i=true->QK (QV ops.toList []) i k'=false->QK (QV ops.toList []) k' i=false->quiet P ops (QV ops.toList []) i k'=true)∧(gAt P ops k'=true->∀i,i<ops.size->(Qpj ops i=true->QK (QV ops.toList []) i k'=false->QK (QV ops.toList []) k' i=false->k'<i)∧(QhP ops i=true->i<k'->QK (QV ops.toList []) i k'=true))) ∨
   (QyP ops k'=true∧∀i,i<ops.size->(Qpj ops i=true->QK (QV ops.toList []) i k'=false->QK (QV ops.toList []) k' i=false->QGM P ops (QV ops.toList []) i k'=true)∧(QhP ops i=true->i<k'->QK (QV ops.toList []) i k'=true)):=λk' hk' hg hf=>by
  have:=Li.1 hck k' (LU.2 hk');simp only[hg,hf,L8,Nt,Nw,Lm,Li,LU]at this;rcases this with this | this
  ·refine .inl ⟨this.1.1,λi hi h1 h2 h3=>?_,λhg i hi=>⟨λh1 h2 h3=>?_,λh1 h2=>?_⟩⟩
   ·have:=this.1.2 i hi;simpa[h1,h2,h3] using this
   ·have h9:=this.2;simp only[hg,L8,LV,false_or]at h9;have:=(h9 i hi).1;simpa[h1,h2,h3] using this
   ·have h9:=this.2;simp only[hg,L8,LV,false_or]at h9;have:=(h9 i hi).2;have b:Nat.blt i k'=true:=by rw[B5];exact h2
    simpa[h1,b] using this
  ·refine .inr ⟨this.1,λi hi=>⟨λh1 h2 h3=>?_,λh1 h2=>?_⟩⟩
   ·have:=(this.2 i hi).1;simpa[h1,h2,h3] using this
   ·have h3:=(this.2 i hi).2;have b:Nat.blt i k'=true:=by rw[B5];exact h2
    simpa[h1,b] using h3
 have hnx:∀j,j<ops.size->(Hs j).next<=(Hs (j+1)).next:=λj hj=>by
  obtain⟨o,ho⟩:=hops j hj;obtain⟨s,hsi,hst,e1,e2,e3,e4⟩:=hat j o ho;rw[e2];exact hst.next
 have hnxs:∀d a,a+d<=ops.size->(Hs a).next<=(Hs (a+d)).next:=λd=>by
  induction d with
  | zero=>exact λa _=>Lb _
  | succ d ih=>exact λa h=>N8 (ih a (by omega)) (hnx (a+d) (by omega))
 have hcallsame:∀k',k'<ops.size->Qdo ops k'=true->XG ops (QV ops.toList []) k'=true->gAt P ops k'=false->EqB (Hs k') (Hs (k'+1)):=λk' hk' hcf hf hng=>by
  obtain⟨o,ho⟩:=hops k' hk';obtain⟨s,hsi,hst,e1,e2,e3,e4⟩:=hat k' o ho;simp only[Qdo,ho]at hcf;simp only[gAt,ho]at hng;rw[e2];rcases hst.run with⟨_,_,_,h3,_⟩ | ⟨_,_,_,h4⟩
  ·exact h3 hf hcf hng
  ·rw[h4];exact λ_ _=>rfl
 have hkeep:∀j,j<ops.size->(Yi ops j=false∨(XG ops (QV ops.toList []) j=true∧Qdo ops j=true∧gAt P ops j=false))->EqB (Hs j) (Hs (j+1)):=λj hj hg=>by
  obtain⟨o,ho⟩:=hops j hj;obtain⟨s,hsi,hst,e1,e2,e3,e4⟩:=hat j o ho;rcases hst.run with⟨_,hcl,hsyn,_⟩ | ⟨_,_,_,h4⟩
  ·cases hsc:s.c with
   | pure=>rw[hsc]at hcl;rw[e2,hcl.1];exact λ_ _=>rfl
   | load=>rw[hsc]at hcl;rw[e2,hcl.1];exact λ_ _=>rfl
   | alloc b=>
    rw[hsc]at hcl;rw[e2,hcl.1];exact λid hid=>by rw[Qd,Le (by omega)]
   | gen=>
    have hsg:Yi ops j=true:=hgen j hj (by rw[e4,hsc];rfl);rcases hg with hg | hg
    ·rw[hg]at hsg;cases hsg
    ·exact hcallsame j hj hg.2.1 hg.1 hg.2.2
  ·rw[e2,h4];exact λ_ _=>rfl
 have hkeeps:∀d a,a+d<=ops.size->(∀j,a<=j->j<a+d->Yi ops j=false∨(XG ops (QV ops.toList []) j=true∧Qdo ops j=true∧gAt P ops j=false))->EqB (Hs a) (Hs (a+d)):=λd=>by
  induction d with
  | zero=>exact λa _ _ _ _=>rfl
  | succ d ih=>
   intro a h hj id hid;have h1:=ih a (by omega) (λj h1 h2=>hj j h1 (by omega)) id hid;have h2:=hkeep (a+d) (by omega) (hj (a+d) (by omega) (by omega)) id (N5 hid (hnxs d a (by omega)));rw[show a+(d+1)=a+d+1 by omega,h2,h1]
 have F:KB P n ops As Hs vs cls:=by
  refine⟨λi o ho=>?_,λi hi=>?_,λi o ho=>?_,λi o ho=>?_,Qqk hgen hd⟩
  ·obtain⟨s,hsi,hst,e1,e2,e3,e4⟩:=hat i o ho;rw[e1,e3,hst.env]
  ·obtain⟨o,ho⟩:=hops i hi;obtain⟨s,hsi,hst,e1,e2,e3,e4⟩:=hat i o ho;rw[e2];exact hst.next
  ·obtain⟨s,hsi,hst,e1,e2,e3,e4⟩:=hat i o ho;exact hst.ok
  ·obtain⟨s,hsi,hst,e1,e2,e3,e4⟩:=hat i o ho;have hi:i<ops.size:=(Nj.1 ho).1;unfold QyF;rw[e1,e2,e3,e4];rcases hst.run with⟨hw,hcl,hsyn,hf1,hf2,_,_⟩ | ⟨hw,hc0,hv0,hH0⟩
   ·right;refine⟨hw,?_⟩;cases hsc:s.c with
    | pure=>rw[hsc]at hcl;exact hcl
    | gen=>rw[hsc]at hcl;exact hcl
    | alloc b=>
     rw[hsc]at hcl;refine⟨hcl.1,hcl.2,λk' hk1 hik hgk ho'=>?_⟩;have hsg:=hgen k' hk1 hgk;have hal:QhP ops i=true:=by simp only[QhP,ho];exact hsyn.alloc b hsc
     have hfl:XG ops (QV ops.toList []) k'=true:=by
      unfold XG;simp only[hsg,LJ,Nw];left;rw[Bh];exact⟨i,LU.2 hi,by simp[hal,hik,ho']⟩
     rcases hchk k' hk1 hsg hfl with hch | hch
     ·have hng:gAt P ops k'=false:=by
       cases hgk':gAt P ops k' with
       | false=>rfl
       | true=>rw[(hch.2.2 hgk' i hi).2 hal hik]at ho';cases ho'
      rw[hcallsame k' hk1 hch.1 hfl hng];have h9:=hnxs (k' - (i+1)) (i+1) (by omega);rw[show i+1+(k' - (i+1))=k' by omega,hcl.1,Qc]at h9;omega
     ·rw[(hch.2 i hi).2 hal hik]at ho';cases ho'
    | load=>
     rw[hsc]at hcl;obtain⟨h1,tt,x,a,hop,ex,hl'⟩:=hcl;refine⟨h1,tt,x,a,hop,ex,hl',λk' hk1 hgk o1 o2=>?_⟩;have hsg:=hgen k' hk1 hgk;have hld:Qpj ops i=true:=by simp only[Qpj,ho];exact hsyn.load hsc
     have hfl:XG ops (QV ops.toList []) k'=true:=by
      unfold XG;simp only[hsg,LJ,Nw];left;rw[Bh];exact⟨i,LU.2 hi,by simp[hld,o1,o2]⟩
     have hfi:XG ops (QV ops.toList []) i=true:=by
      unfold XG;simp only[Nw];right;simp only[hld,LJ];rw[Bh];exact⟨k',LU.2 hk1,by simp[hsg,o1,o2]⟩
     have hload:o.op=.load tt x:=hop;have hbel:Qh s.H.next 6 s.v=true:=hf2 hfi (by unfold QrT;rw[hload]);rcases hchk k' hk1 hsg hfl with hch | hch
     ·have hq:=hch.2.1 i hi hld o1 o2;have hb0:a.block<(Hs i).next:=by
       rw[e2];unfold ZC at hl';split at hl'
       ·rename_i hg;exact hst.wf.lt hg
       ·cases hl'
      unfold quiet at hq;simp only[Nw,Lm,Li,LU]at hq;have hget:(Hs k').get a.block=(Hs i).get a.block∧(Hs (k'+1)).get a.block=(Hs k').get a.block:=by
       rcases hq with⟨hlt,hq⟩ | ⟨⟨⟨hlt,hdir⟩,hsm⟩,hq⟩
       ·have hlt:i<k':=by simpa using hlt
        have hng:gAt P ops k'=false:=by
         cases hgk':gAt P ops k' with
         | false=>rfl
         | true=>have:=(hch.2.2 hgk' i hi).1 hld o1 o2;omega
        have hgi:Yi ops i=false:=by
         simp only[Qpj,ho]at hld;simp only[Yi,ho];unfold QrT at hld;split at hld
         ·rename_i hop';simp only[QEs,hop']
         ·cases hld
        have h8:=hkeeps (k' - i) i (by omega) (λj h1 h2=>?_)
        ·rw[show i+(k' - i)=k' by omega]at h8;have h9:=hnxs (k' - i) i (by omega);rw[show i+(k' - i)=k' by omega]at h9;exact⟨h8 _ hb0,hcallsame k' hk1 hch.1 hfl hng a.block (by omega)⟩
        ·rcases Nq i j with h3 | h3
         ·have h4:=hq j (by omega);have h5:Nat.ble j i=false:=by
           cases hb:Nat.ble j i with
           | false=>rfl
           | true=>rw[BL]at hb;omega
          rw[h5]at h4;rcases h4 with h4 | h4 | h4
          ·cases h4
          ·exact .inl (by simpa using h4)
          ·exact .inr ⟨h4.1.1,h4.1.2,by simpa using h4.2⟩
         ·rw[show j=i by omega];exact .inl hgi
       ·have hlt:k'<i:=by simpa using hlt
        obtain⟨bs,hbs⟩:=D9.1 hsm;have hall:∀j,k'<=j->j<i->(Yi ops j=false∨(XG ops (QV ops.toList []) j=true∧Qdo ops j=true∧(gAt P ops j=false∨Qgx (QV ops.toList []) i j=true))):=λj h1 h2=>by
         have h4:=hq j h2;have h5:Nat.blt j k'=false:=by
          cases hb:Nat.blt j k' with
          | false=>rfl
          | true=>rw[B5]at hb;omega
         rw[h5]at h4;rcases h4 with h4 | h4 | h4
         ·cases h4
         ·exact .inl (by simpa using h4)
         ·refine .inr ⟨h4.1.1,h4.1.2,?_⟩;rcases h4.2 with h6 | h6
          ·exact .inl (by simpa using h6)
          ·exact .inr h6
        obtain⟨ok,hok⟩:=hops k' hk1;obtain⟨sk,hsk,hstk,f1,f2,f3,f4⟩:=hat k' ok hok;have hback:∀ (k0 bs d cur:Nat),k0+d<=i->QaB ops k0 d cur=some bs->InB (As (k0+d) cur) a.block->InB (As k0 bs) a.block:=λk0 bs d=>by
         induction d with
         | zero=>intro cur _ hb hv;cases hb;exact hv
         | succ d ih=>
          intro cur hd hb hv;obtain⟨oj,hoj⟩:=hops (k0+d) (by omega);obtain⟨sj,hsj,hstj,g1,g2,g3,g4⟩:=hat (k0+d) oj hoj;simp only[QaB,hoj]at hb;split at hb
          ·rename_i c hc;refine ih c (by omega) hb ?_;rw[show k0+(d+1)=k0+d+1 by omega,hstj.env,<- g1]at hv;unfold QwR at hc;cases hdst:oj.dst with
           | none=>
            rw[hdst]at hc hv;have hc:some cur=some c:=hc;cases hc;exact hv
           | some q=>
            rw[hdst]at hc hv;have hv:InB (upd (As (k0+d)) q sj.v cur) a.block:=hv
            by_cases hqc:q=cur
            ·subst hqc;rw[QjQ]at hv;have hc:QrV oj=some c:=by simpa using hc
             rcases hstj.run with⟨_,_,_,_,_,_,_,hfa⟩ | ⟨_,_,_,hu⟩
             ·have:=hfa c hc _ hv;rw[g1];exact this
             ·exfalso;have hu:sj.v=undef:=by first | exact hu.1 | exact hu | (rename_i hu2;exact hu2)
              rw[hu]at hv;rcases hv with⟨_,e,_⟩ | ⟨_,_,_,e,_⟩<;>cases e
            ·rw[QhE _ _ (λh=>hqc h.symm)]at hv;have hc:some cur=some c:=by have e:(q==cur)=false:=beq_false_of_ne hqc;simpa[e] using hc
             cases hc;exact hv
          ·cases hb
        obtain⟨tm,htm⟩:∃tm,Qqo ops i=some tm:=by
         unfold Qpk at hbs;cases htm:Qqo ops i with
         | none=>rw[htm]at hbs;cases hbs
         | some tm=>exact⟨tm,rfl⟩
        have hx:x=.tmp tm:=by
         unfold Qqo at htm;rw[ho]at htm;simp only[hload]at htm;split at htm
         ·rename_i hh;cases hh;cases htm;rfl
         ·cases htm
        have ex':As i tm=.pointer (some a):=by rw[hx]at ex;rw[e1];exact ex
        have hbk0:QaB ops k' (i - k') tm=some bs:=by
         unfold Qpk at hbs;rw[htm]at hbs;exact hbs
        have hmid:∀j,k'<=j->j<=i->∃c,Qpk ops j i=some c∧InB (As j c) a.block:=λj h1 h2=>by
         obtain⟨c,hc⟩:=QyZ hbk0 h1 h2;refine⟨c,by unfold Qpk;rw[htm];exact hc,?_⟩;refine hback j c (i - j) tm (by omega) hc ?_;rw[show j+(i - j)=i by omega,ex'];exact .inl ⟨a,rfl,rfl⟩
        have hpt:InB (As k' bs) a.block:=by
         obtain⟨c,hc1,hc2⟩:=hmid k' (Lb _) (by omega);rw[hbs]at hc1;cases hc1;exact hc2
        have hbk:a.block<(Hs k').next:=by
         have hlow:∀z∈Qdp ops (QV ops.toList []) k',∃b:Nat,InB (ev sk.t z) b∧b<sk.H.next:=by
          rcases hstk.run with⟨_,_,_,_,_,_,h9,_⟩ | ⟨_,h9,_⟩
          ·intro z hz;obtain⟨b,h1,h2,_⟩:=h9 hfl (by simpa only[QGm,hok] using hdir) z hz;exact⟨b,h1,h2⟩
          ·rw[f4,h9]at hgk;cases hgk
         obtain⟨b,hb1,hb2⟩:=hlow (.tmp bs) (by
          unfold Qdp;rw[List.mem_filterMap];have b1:Nat.blt k' i=true:=by simpa using hlt
          exact⟨i,LU.2 hi,by simp[b1,hld,Qgx,o1,o2,hbs]⟩)
         have hb1:InB (sk.t bs) b:=hb1;rw[<- f1]at hb1;rw[f2,hpt.uniq hb1];exact hb2
        have hstep:∀j,k'<=j->j<i->a.block<(Hs j).next->(Hs (j+1)).get a.block=(Hs j).get a.block:=λj h1 h2 hbl=>by
         rcases hall j h1 h2 with h4 | ⟨h4,h5,h6⟩
         ·exact hkeep j (by omega) (.inl h4) _ hbl
         ·cases hgj:gAt P ops j with
          | false=>exact hkeep j (by omega) (.inr ⟨h4,h5,hgj⟩) _ hbl
          | true=>
           have h6:Qgx (QV ops.toList []) i j=true:=by
            rcases h6 with h6 | h6
            ·rw[hgj]at h6;cases h6
            ·exact h6
           obtain⟨oj,hoj⟩:=hops j (by omega);obtain⟨sj,hsj,hstj,g1,g2,g3,g4⟩:=hat j oj hoj;have hGj:isG P oj=true:=by simpa only[gAt,hoj] using hgj
           have hdj:QlX oj=true:=by
            unfold isG at hGj;unfold QlX;split at hGj
            ·first | rfl | (rename_i hopj;rw[hopj])
            ·cases hGj
           obtain⟨c,hc1,hc2⟩:=hmid j h1 (by omega);rw[g2];rcases hstj.run with⟨_,_,_,_,_,_,h9,_⟩ | ⟨_,_,_,h9⟩
           ·obtain⟨b,hb1,hb2,hb3⟩:=h9 h4 hdj (.tmp c) (by
             unfold Qdp;rw[List.mem_filterMap];have b1:Nat.blt j i=true:=by simpa using h2
             have u2:Qgx (QV ops.toList []) i j=true:=h6;exact⟨i,LU.2 hi,by simp[b1,hld,u2,hc1]⟩)
            have hb1:InB (sj.t c) b:=hb1;rw[<- g1]at hb1;rw[hc2.uniq hb1];exact hb3 hGj
           ·rw[h9]
        have hmany:∀d,k'+d<=i->(Hs (k'+d)).get a.block=(Hs k').get a.block∧a.block<(Hs (k'+d)).next:=λd=>by
         induction d with
         | zero=>exact λ_=>⟨rfl,hbk⟩
         | succ d ih=>
          intro hd;obtain⟨i1,i2⟩:=ih (by omega);have hn1:=hnx (k'+d) (by omega);refine⟨?_,?_⟩
          ·rw[show k'+(d+1)=k'+d+1 by omega,hstep (k'+d) (by omega) (by omega) i2,i1]
          ·rw[show k'+(d+1)=k'+d+1 by omega];omega
        have h8:=(hmany (i - k') (by omega)).1;rw[show k'+(i - k')=i by omega]at h8;exact⟨h8.symm,hstep k' (Lb _) hlt hbk⟩
      exact⟨by rw[Qcv hget.1,e2];exact hl',by rw[Qcv hget.2,Qcv hget.1,e2];exact hl',hbel⟩
     ·have hcalm:=(hch.2 i hi).1 hld o1 o2;unfold QGM at hcalm;simp only[Lm,Li,LU]at hcalm;obtain⟨⟨hlt,hsm⟩,hall⟩:=hcalm;have hlt:i<k':=by simpa using hlt
      obtain⟨tm,htm⟩:=D9.1 hsm;have hx:x=.tmp tm:=by
       unfold Qqo at htm;rw[ho]at htm;simp only[hload]at htm;split at htm
       ·rename_i hh;cases hh;cases htm;rfl
       ·cases htm
      subst hx;have hstep:∀j,i<=j->j<ops.size->As j tm=.pointer (some a)->(Yi ops j=false∨(Qdo ops j=true∧XG ops (QV ops.toList []) j=true∧gAt P ops j=false)∨(i<j∧QyP ops j=true∧XG ops (QV ops.toList []) j=true∧Qgx (QV ops.toList []) i j=true))->a.block<(Hs j).next->(Hs (j+1)).get a.block=(Hs j).get a.block:=λj hij hj hA hg hbl=>by
       obtain⟨oj,hoj⟩:=hops j hj;obtain⟨sj,hsj,hstj,f1,f2,f3,f4⟩:=hat j oj hoj;rw[f2]at hbl ⊢;rcases hstj.run with⟨_,hcl,hsyn,_,_,hsep,_⟩ | ⟨_,_,_,h4⟩
       ·cases hsc:sj.c with
        | pure=>rw[hsc]at hcl;rw[hcl.1]
        | load=>rw[hsc]at hcl;rw[hcl.1]
        | alloc b=>rw[hsc]at hcl;rw[hcl.1,Qd,Le (by omega)]
        | gen=>
         have hsg:Yi ops j=true:=hgen j hj (by rw[f4,hsc];rfl);rcases hg with hg | hg | ⟨hij2,hg1,hg2,hg3⟩
         ·rw[hg]at hsg;cases hsg
         ·rw[<- f2];rw[<- f2]at hbl;exact hcallsame j hj hg.1 hg.2.1 hg.2.2 _ hbl
         ·simp only[QyP,hoj]at hg1;obtain⟨a',hk1',hk2'⟩:=hsep hg2 hg1;have hb2:=hk2' (.tmp tm) (by
           unfold QrU;rw[List.mem_filterMap];exact⟨i,LU.2 hij2,by simp[hld,hg3,htm]⟩) a (by show sj.t tm=_;rw[<- f1];exact hA)
          exact hk1' _ hb2
       ·rw[h4]
      have hb0:a.block<(Hs i).next:=by
       rw[e2];unfold ZC at hl';split at hl'
       ·rename_i hg;exact hst.wf.lt hg
       ·cases hl'
      have hA0:As i tm=.pointer (some a):=by rw[e1];exact ex
      have hall2:∀j,i<=j->j<k'->(∀oj,ops[j]? = some oj->oj.dst≠some tm)∧(Yi ops j=false∨(Qdo ops j=true∧XG ops (QV ops.toList []) j=true∧gAt P ops j=false)∨(i<j∧QyP ops j=true∧XG ops (QV ops.toList []) j=true∧Qgx (QV ops.toList []) i j=true)):=λj hij hjk=>by
       have:=hall j hjk;have b1:Nat.blt j i=false:=by
        cases hb:Nat.blt j i with
        | false=>rfl
        | true=>rw[B5]at hb;omega
       simp only[b1,Nw,Lm,htm,Lr,LV,false_or]at this;refine⟨λoj hoj hd=>?_,?_⟩
       ·have h9:=this.1;rw[hoj]at h9;simp[hd]at h9
       ·rcases this.2 with(h | h) | h
        ·exact .inl h
        ·exact .inr (.inl ⟨h.1.1,h.1.2,h.2⟩)
        ·refine .inr (.inr ⟨?_,h.1.1,h.1.2,h.2⟩);rcases Nq i j with h' | h'
         ·exact h'
         ·have e:j=i:=by omega
          subst e;have h7:=h.1.1;unfold QyP QyO at h7;rw[ho]at h7;simp only[hload]at h7;cases h7
      have hrun:∀d,i+d<=k'->As (i+d) tm=.pointer (some a)∧(Hs (i+d)).get a.block=(Hs i).get a.block∧a.block<(Hs (i+d)).next:=by
       intro d
       induction d with
       | zero=>exact λ_=>⟨hA0,rfl,hb0⟩
       | succ d ih=>
        intro hd;obtain⟨i1,i2,i3⟩:=ih (by omega);have hj:i+d<ops.size:=by omega
        obtain⟨oj,hoj⟩:=hops (i+d) hj;obtain⟨sj,hsj,hstj,f1,f2,f3,f4⟩:=hat (i+d) oj hoj;obtain⟨g1,g2⟩:=hall2 (i+d) (by omega) (by omega);refine⟨?_,?_,?_⟩
        ·rw[show i+(d+1)=i+d+1 by omega,hstj.env,<- f1,<- i1];cases hdst:oj.dst with
         | none=>rfl
         | some q=>exact QhE _ _ (λh=>g1 oj hoj (by rw[hdst,h]))
        ·rw[show i+(d+1)=i+d+1 by omega,hstep (i+d) (by omega) hj i1 g2 i3,i2]
        ·rw[show i+(d+1)=i+d+1 by omega];have:=hstj.next;rw[<- f2]at this;omega
      obtain⟨r1,r2,r3⟩:=hrun (k' - i) (by omega);rw[show i+(k' - i)=k' by omega]at r1 r2 r3;have hlast:=hstep k' (by omega) hk1 r1 (.inr (.inr ⟨hlt,hch.1,hfl,by unfold Qgx;rw[o1,o2];rfl⟩)) r3;exact⟨by rw[Qcv r2,e2];exact hl',by rw[Qcv hlast,Qcv r2,e2];exact hl',hbel⟩
   ·left;exact⟨hw,hv0,hH0,hc0⟩
 have hend:As ops.size=A1∧Hs ops.size=H1:=by
  have:tr[ops.size]? = none:=N7 (by omega);simp only[As,Hs,Qj2,Yj,this,RU]
 have hAs0:As 0=A:=hA;have hHs0:Hs 0=H:=hH;have:=QwL (id:=id) (Q:=λe A' H'=>e=.normal∧A'=A1∧H'=H1) hm F ⟨rfl,hend.1,hend.2⟩;rwa [hAs0,hHs0]at this
def Fp (ks:Kp)(k:Env->Qa->Prop):Ex->Env->Qa->Prop
 | .normal,A,H=>k A H
 | .ret,A,H=>ks.ret A H
 | .exit j,A,H=>j<J0∧ks.ext j A H
 | .goto l,A,H=>ks.ext (J0+l) A H
 | _,_,_=>False
def Qve (ex:Ex)(A1:Env)(H1:Qa):Ex->Env->Qa->Prop:=λe A H=>e=ex∧A=A1∧H=H1
theorem QEA (x y:PC)(ks:Kp)(k:Env->Qa->Prop)(A:Env)(H:Qa):Qm P (sq x y) ks k A H=Qm P x ks (Qm P y ks k) A H:=by
 unfold sq;split<;>rfl
theorem QCT (x y:PC)(l:Nat)(hx:x=.skip->True):V0 (sq x y) l=match V0 x l with | some r=>some (sq r y) | none=>V0 y l:=by
 unfold sq;split
 ·simp[V0]
 ·rename_i hne;cases hf:V0 x l with
  | none=>simp[V0]
  | some r=>
   cases r<;>rfl
 ·rfl
theorem Qpn:∀ (c:Code) (pc:PC),comp P n c=some pc->∀l,(∀rest,findLabel c l=some rest->∃pr,V0 pc l=some pr∧comp P n rest=some pr)∧(findLabel c l=none->V0 pc l=none):=by
 intro c
 induction c with
 | seq a b iha ihb=>
  intro pc h l;simp only[comp]at h;split at h
  ·rename_i x y hx hy;simp only[Lt]at h;subst h;obtain⟨a1,a2⟩:=iha x hx l;obtain⟨b1,b2⟩:=ihb y hy l;rw[QCT x y l (λ_=>trivial)];cases hf:findLabel a l with
   | some r=>
    obtain⟨pr,h1,h2⟩:=a1 r hf;rw[h1];refine⟨λrest hr=>?_,λhn=>?_⟩
    ·simp only[findLabel,hf,Lt]at hr;subst hr;exact⟨_,rfl,by simp only[comp,h2,hy]⟩
    ·simp only[findLabel,hf]at hn;cases hn
   | none=>
    rw[a2 hf];simp only[findLabel,hf];exact⟨b1,b2⟩
  ·cases h
 | label l'=>
  intro pc h l;simp only[comp,Lt]at h;subst h;refine⟨λrest hr=>?_,λhn=>?_⟩
  ·simp only[findLabel]at hr;split at hr
   ·rename_i he;have he:l'=l:=by simpa using he
    subst he;cases hr;exact⟨.skip,by simp[V0],rfl⟩
   ·cases hr
  ·simp only[findLabel]at hn;split at hn
   ·cases hn
   ·rename_i he;have he:¬l'=l:=by simpa using he
    simp[V0,Kh,he]
 | scope b ih=>
  intro pc h l;refine⟨λrest hr=>(by cases hr),λ_=>?_⟩;simp only[comp,Lx]at h;obtain⟨pb,hb,rfl⟩:=h;unfold Qrr;split
  ·rename_i hl;exact nolab pb hl l
  ·split
   ·rfl
   ·rfl
  ·rfl
 | region id ops draw=>
  intro pc h l;refine⟨λrest hr=>(by cases hr),λ_=>?_⟩;cases draw
  ·simp only[comp,Lt]at h;subst h;split<;>rfl
  ·simp only[comp,Lt]at h;subst h;split
   ·split<;>rfl
   ·rfl
 | cond x a b iha ihb=>
  intro pc h l;refine⟨λrest hr=>(by cases hr),λ_=>?_⟩;simp only[comp]at h;split at h
  ·split at h
   ·cases h;rfl
   ·cases h
  ·cases h
 | block id b ih=>
  intro pc h l;refine⟨λrest hr=>(by cases hr),λ_=>?_⟩;simp only[comp,Lx]at h;obtain⟨pb,hb,rfl⟩:=h;cases Nat.blt id J0<;>rfl
 | loop b ih=>
  intro pc h l;refine⟨λrest hr=>(by cases hr),λ_=>?_⟩;simp only[comp,Lx]at h;obtain⟨pb,hb,rfl⟩:=h;rfl
 | rangeFunc g ps a b iha ihb=>
  intro pc h l;refine⟨λrest hr=>(by cases hr),λ_=>?_⟩;simp only[comp]at h;split at h
  ·split at h
   ·cases h;rfl
   ·cases h
  ·cases h
 | exit id=>
  intro pc h l;refine⟨λrest hr=>(by cases hr),λ_=>?_⟩;simp only[comp,Lt]at h;subst h;cases Nat.blt id J0<;>rfl
 | _=>
  intro pc h l;refine⟨λrest hr=>(by cases hr),λ_=>?_⟩;cases h;rfl
 where
 nolab:∀ (pc:PC),QaC pc=[]->∀l,V0 pc l=none
  | .seq a b,h,l=>by
   simp only[QaC,List.append_eq_nil_iff]at h;simp only[V0,nolab a h.1 l,nolab b h.2 l]
  | .label l',h,l=>by simp[QaC]at h
  | .skip,h,l=>rfl
  | .ops _,h,l=>rfl
  | .cond _ _ _,h,l=>rfl
  | .block _ _,h,l=>rfl
  | .loop _,h,l=>rfl
  | .exit _,h,l=>rfl
  | .ret,h,l=>rfl
  | .goto _,h,l=>rfl
  | .scope _ _ _,h,l=>rfl
  | .rangeF _ _ _ _,h,l=>rfl
  | .bad,h,l=>rfl
theorem Qd3:∀ (pc:PC) (l:Nat) (r:PC),V0 pc l=some r->l∈QaC pc
 | .seq a b,l,r,h=>by
  simp only[V0]at h;simp only[QaC,LI];cases hf:V0 a l with
  | some q=>exact .inl (Qd3 a l q hf)
  | none=>rw[hf]at h;exact .inr (Qd3 b l r h)
 | .label l',l,r,h=>by
  simp only[V0]at h;cases hb:Nat.beq l' l with
  | true=>simp[QaC,LA hb]
  | false=>rw[hb]at h;cases h
 | .skip,l,r,h=>by cases h
 | .ops _,l,r,h=>by cases h
 | .cond _ _ _,l,r,h=>by cases h
 | .block _ _,l,r,h=>by cases h
 | .loop _,l,r,h=>by cases h
 | .exit _,l,r,h=>by cases h
 | .ret,l,r,h=>by cases h
 | .goto _,l,r,h=>by cases h
 | .scope _ _ _,l,r,h=>by cases h
 | .rangeF _ _ _ _,l,r,h=>by cases h
 | .bad,l,r,h=>by cases h
def Snd (P:Program)(n:Nat)(c:Code)(pc:PC):Prop:=∀ (ks:Kp) (k:Env->Qa->Prop) (A:Env) (H:Qa),H.Wf->Qm P pc ks k A H->∃ex A1 H1,H1.Wf∧Fp ks k ex A1 H1∧AWp P n c (Qve ex A1 H1) A H
theorem QAz {a b:Code}{x y:PC}(ha:Snd P n a x)(hb:Snd P n b y):Snd P n (.seq a b) (sq x y):=by
 intro ks k A H hwf h;rw[QEA]at h;obtain⟨ex,A1,H1,hw1,hf,ha⟩:=ha ks _ A H hwf h;cases ex with
 | normal=>
  obtain⟨ex2,A2,H2,hw2,hf2,ha2⟩:=hb ks k A1 H1 hw1 hf;refine⟨ex2,A2,H2,hw2,hf2,Qnt (ha.mono ?_)⟩;rintro e A' H' ⟨rfl,rfl,rfl⟩;exact ha2
 | ret=>exact⟨.ret,A1,H1,hw1,hf,Qnt (ha.mono (by rintro e A' H' ⟨rfl,rfl,rfl⟩;exact⟨rfl,rfl,rfl⟩))⟩
 | exit j=>exact⟨.exit j,A1,H1,hw1,hf,Qnt (ha.mono (by rintro e A' H' ⟨rfl,rfl,rfl⟩;exact⟨rfl,rfl,rfl⟩))⟩
 | goto j=>exact⟨.goto j,A1,H1,hw1,hf,Qnt (ha.mono (by rintro e A' H' ⟨rfl,rfl,rfl⟩;exact⟨rfl,rfl,rfl⟩))⟩
 | panic v=>exact hf.elim
def QJy (P:Program)(n:Nat)(c:Code)(pc:PC):Prop:=Snd P n c pc∧∀l rest,findLabel c l=some rest->∃pr,V0 pc l=some pr∧comp P n rest=some pr∧Snd P n rest pr
theorem Qvf:∀ (c:Code) (pc:PC),comp P n c=some pc->QJy P n c pc:=by
 intro c
 induction c with
 | skip=>intro pc hc;cases hc;exact⟨λks k A H hwf h=>⟨.normal,A,H,hwf,h,Qrz ⟨rfl,rfl,rfl⟩⟩,λl rest h=>by cases h⟩
 | label l=>
  intro pc hc;cases hc;refine⟨λks k A H hwf h=>⟨.normal,A,H,hwf,h,Qt8 ⟨rfl,rfl,rfl⟩⟩,λl' rest h=>?_⟩;obtain⟨pr,h1,h2⟩:=(Qpn (P:=P) (n:=n) (.label l) (.label l) rfl l').1 rest h;refine⟨pr,h1,h2,?_⟩;simp only[findLabel]at h;split at h
  ·cases h;cases h2;exact λks k A H hwf h=>⟨.normal,A,H,hwf,h,Qrz ⟨rfl,rfl,rfl⟩⟩
  ·cases h
 | ret=>intro pc hc;cases hc;exact⟨λks k A H hwf h=>⟨.ret,A,H,hwf,h,QAm ⟨rfl,rfl,rfl⟩⟩,λl rest h=>by cases h⟩
 | exit id=>
  intro pc hc;simp only[comp,Lt]at hc;subst hc;refine⟨λks k A H hwf h=>?_,λl rest h=>by cases h⟩;cases hb:Nat.blt id J0 with
  | true=>
   rw[hb]at h;exact⟨.exit id,A,H,hwf,⟨by simpa using hb,h⟩,Qwy ⟨rfl,rfl,rfl⟩⟩
  | false=>rw[hb]at h;exact h.elim
 | goto l=>intro pc hc;cases hc;exact⟨λks k A H hwf h=>⟨.goto l,A,H,hwf,h,Qwz ⟨rfl,rfl,rfl⟩⟩,λl rest h=>by cases h⟩
 | refuse s=>intro pc hc;cases hc;exact⟨λks k A H hwf h=>h.elim,λl rest h=>by cases h⟩
 | rangeFunc g ps a b iha ihb=>
  intro pc hc;refine⟨λks k A H hwf h=>?_,λl rest h=>by cases h⟩;simp only[comp]at hc;split at hc
  ·rename_i hok;split at hc
   ·rename_i pa pb ha hb;cases hc;simp only[Qm]at h;split at h
    ·rename_i f xs ys hg;obtain⟨hen,hcq⟩:=h (λst=>Blk.loop A n ps a b st) (λl args H0 Q hl hlen hp hwf0=>by
      have hlt:l<H0.next:=hwf0.lt hl;obtain⟨ex,A1,H1,hw1,hf1,haw⟩:=(iha pa ha).1 _ _ _ _ (hwf0.kill l) hp;cases ex with
      | ret=>exact hf1.elim
      | exit j=>exact hf1.2.elim
      | goto j=>exact hf1.elim
      | panic v=>exact hf1.elim
      | normal=>
       obtain⟨ex,A2,H2,hw2,hf2,hbw⟩:=(ihb pb hb).1 _ _ _ _ hw1 hf1;have hlen:args.length=ps.size:=by simpa using hlen
       have hwset:∀b,H0.next<=H2.next->(H2.set l b).Wf:=λb hn id hid=>by
        simp only[Qt]at hid;rw[Qq,Le (by omega)];exact hw2 id hid
       have mk:∀v H',QrO l (Blk.loop A n ps a b) v H' ex A2 H2->Qug P l args H0 v H':=λv H' hre=>
        Qqg hl hlen (haw.mono (by
         rintro e A' H' ⟨rfl,rfl,rfl⟩;exact hbw.mono (by rintro e A' H' ⟨rfl,rfl,rfl⟩;exact hre)))
       cases ex with
       | normal=>exact⟨_,_,mk _ _ ⟨rfl,GE.refl _⟩,by simpa using hf2.1,hwset _ hf2.1,hf2.2⟩
       | ret=>exact⟨_,_,mk _ _ ⟨rfl,GE.refl _⟩,by simpa using hf2.1,hwset _ hf2.1,hf2.2⟩
       | exit j=>exact⟨_,_,mk _ _ ⟨rfl,GE.refl _⟩,by simpa using hf2.2.2.1,hwset _ hf2.2.2.1,hf2.2.2.2⟩
       | goto j=>exact absurd hf2.1 (by simp)
       | panic v=>exact hf2.elim)
     obtain⟨v,H2,hd,hnx,hwf2,st,hl,hj⟩:=hcq (hwf.push _);have hwk:(H2.kill H.next).Wf:=hwf2.kill _;have mk:∀e,QCH (Qve e A (H2.kill H.next)) A (H2.kill H.next) st->AWp P n (.rangeFunc g ps a b) (Qve e A (H2.kill H.next)) A H:=λe hq=>QlV hok hg hen hd hl hq;unfold QCO at hj;split at hj
     ·exact⟨.normal,A,_,hwk,hj,mk _ ⟨rfl,rfl,rfl⟩⟩
     ·exact⟨.ret,A,_,hwk,hj,mk _ ⟨rfl,rfl,rfl⟩⟩
     ·rename_i j;exact⟨.exit j,A,_,hwk,⟨by simpa using hj.1,hj.2⟩,mk _ ⟨rfl,rfl,rfl⟩⟩
     ·exact hj.elim
    ·exact h.elim
   ·cases hc
  ·cases hc
 | region id ops draw=>
  intro pc hc;refine⟨λks k A H hwf h=>?_,λl rest h=>by cases h⟩;cases draw with
  | false=>
   simp only[comp,Lt]at hc;subst hc;split at h
   ·rename_i pl hpl;obtain⟨A1,H1,hw1,hk,ha⟩:=QmD ops.toList 0 pl k A H hwf hpl h;exact⟨.normal,A1,H1,hw1,hk,(by
     have hw:AWp P n (.region id ops.toList.toArray false) (Qve .normal A1 H1) A H:=QrA (l:=ops.toList) (by
      have ha:Qmq P n ops ops.toList (Qve .normal A1 H1) A H:=ha;simpa using ha)
     simpa using hw)⟩
   ·exact h.elim
  | true=>
   simp only[comp,Lt]at hc;subst hc;split at h
   ·rename_i hcond;simp only[Lm]at hcond;split at h
    ·rename_i pl hpl;obtain⟨A1,H1,hw1,hk,ha⟩:=Qy0 (id:=id) hwf hcond.1.1.1 (λo ho=>by simpa using B1.1 hcond.2 o ho) hcond.1.1.2 hcond.1.2 hpl h;exact⟨.normal,A1,H1,hw1,hk,ha⟩
    ·exact h.elim
   ·exact h.elim
 | seq a b iha ihb=>
  intro pc hc;have hc0:=hc;simp only[comp]at hc;split at hc
  ·rename_i x y hx hy;simp only[Lt]at hc;subst hc;obtain⟨a1,a2⟩:=iha x hx;obtain⟨b1,b2⟩:=ihb y hy;refine⟨QAz a1 b1,λl rest h=>?_⟩;obtain⟨pr,h1,h2⟩:=(Qpn _ _ hc0 l).1 rest h;refine⟨pr,h1,h2,?_⟩;cases hf:findLabel a l with
   | some r=>
    simp only[findLabel,hf,Lt]at h;subst h;obtain⟨p1,q1,q2,q3⟩:=a2 l r hf;simp only[comp,q2,hy,Lt]at h2;subst h2;exact QAz q3 b1
   | none=>
    simp only[findLabel,hf]at h;obtain⟨p1,q1,q2,q3⟩:=b2 l rest h;rw[h2]at q2;cases q2;exact q3
  ·cases hc
 | cond x a b iha ihb=>
  intro pc hc;refine⟨λks k A H hwf h=>?_,λl rest h=>by cases h⟩;simp only[comp]at hc;split at hc
  ·rename_i hok;split at hc
   ·rename_i pa pb ha hb;cases hc;simp only[Qm]at h;split at h
    ·rename_i t ht;cases t with
     | true=>
      obtain⟨ex,A1,H1,hw1,hf,hw⟩:=(iha pa ha).1 ks k A H hwf (h.1 rfl);exact⟨ex,A1,H1,hw1,hf,Qnu (t:=true) hok ht hw⟩
     | false=>
      obtain⟨ex,A1,H1,hw1,hf,hw⟩:=(ihb pb hb).1 ks k A H hwf (h.2 rfl);exact⟨ex,A1,H1,hw1,hf,Qnu (t:=false) hok ht hw⟩
    ·exact h.elim
   ·cases hc
  ·cases hc
 | block id b ih=>
  intro pc hc;refine⟨λks k A H hwf h=>?_,λl rest h=>by cases h⟩;simp only[comp,Lx]at hc;obtain⟨pb,hb,rfl⟩:=hc;cases hlt:Nat.blt id J0 with
  | false=>rw[hlt]at h;exact h.elim
  | true=>
   rw[hlt]at h;have hlt:id<J0:=by simpa using hlt
   obtain⟨ex,A1,H1,hw1,hf,hw⟩:=(ih pb hb).1 _ k A H hwf h;cases ex with
   | normal=>exact⟨.normal,A1,H1,hw1,hf,Qec (hw.mono (by rintro e A' H' ⟨rfl,rfl,rfl⟩;exact⟨rfl,rfl,rfl⟩))⟩
   | ret=>exact⟨.ret,A1,H1,hw1,hf,Qec (hw.mono (by rintro e A' H' ⟨rfl,rfl,rfl⟩;exact⟨rfl,rfl,rfl⟩))⟩
   | exit j=>
    simp only[Fp]at hf
    by_cases hj:j=id
    ·rw[Lc hj]at hf;exact⟨.normal,A1,H1,hw1,hf.2,Qec (hw.mono (by rintro e A' H' ⟨rfl,rfl,rfl⟩;simp only[Qnv,Lc hj];exact⟨rfl,rfl,rfl⟩))⟩
    ·rw[Le hj]at hf;exact⟨.exit j,A1,H1,hw1,hf,Qec (hw.mono (by rintro e A' H' ⟨rfl,rfl,rfl⟩;simp only[Qnv,Le hj];exact⟨rfl,rfl,rfl⟩))⟩
   | goto j=>
    simp only[Fp]at hf;rw[Le (by omega)]at hf;exact⟨.goto j,A1,H1,hw1,hf,Qec (hw.mono (by rintro e A' H' ⟨rfl,rfl,rfl⟩;exact⟨rfl,rfl,rfl⟩))⟩
   | panic v=>exact hf.elim
 | loop b ih=>
  intro pc hc;refine⟨λks k A H hwf h=>?_,λl rest h=>by cases h⟩;simp only[comp,Lx]at hc;obtain⟨pb,hb,rfl⟩:=hc;obtain⟨I,⟨m,hm⟩,hround⟩:=h;have key:∀m A H,H.Wf->I m A H->∃ex A1 H1,H1.Wf∧Fp ks k ex A1 H1∧QjY P n b (Qve ex A1 H1) A H:=by
   intro m
   induction m using Nat.strongRecOn with
   | _ m ihm=>
    intro A H hwf hI;obtain⟨ex,A1,H1,hw1,hf,hw⟩:=(ih pb hb).1 ks _ A H hwf (hround m A H hI);cases ex with
    | normal=>
     obtain⟨m',hlt,hI'⟩:=hf;obtain⟨ex2,A2,H2,hw2,hf2,hl2⟩:=ihm m' hlt A1 H1 hw1 hI';exact⟨ex2,A2,H2,hw2,hf2,Qgr (hw.mono (by rintro e A' H' ⟨rfl,rfl,rfl⟩;exact hl2))⟩
    | ret=>exact⟨.ret,A1,H1,hw1,hf,Qgr (hw.mono (by rintro e A' H' ⟨rfl,rfl,rfl⟩;exact⟨rfl,rfl,rfl⟩))⟩
    | exit j=>exact⟨.exit j,A1,H1,hw1,hf,Qgr (hw.mono (by rintro e A' H' ⟨rfl,rfl,rfl⟩;exact⟨rfl,rfl,rfl⟩))⟩
    | goto j=>exact⟨.goto j,A1,H1,hw1,hf,Qgr (hw.mono (by rintro e A' H' ⟨rfl,rfl,rfl⟩;exact⟨rfl,rfl,rfl⟩))⟩
    | panic v=>exact hf.elim
  obtain⟨ex,A1,H1,hw1,hf,hw⟩:=key m A H hwf hm;exact⟨ex,A1,H1,hw1,hf,Qqe hw⟩
 | scope b ih=>
  intro pc hc;refine⟨λks k A H hwf h=>?_,λl rest h=>by cases h⟩;simp only[comp,Lx]at hc;obtain⟨pb,hb,rfl⟩:=hc;have hsnd:=ih pb hb;have plain:(∀l,findLabel b l=none)->Qm P pb ks k A H->∃ex A1 H1,H1.Wf∧Fp ks k ex A1 H1∧AWp P n (.scope b) (Qve ex A1 H1) A H:=λhno h=>by
   obtain⟨ex,A1,H1,hw1,hf,hw⟩:=hsnd.1 ks k A H hwf h;refine⟨ex,A1,H1,hw1,hf,QhK (VM (hw.mono ?_))⟩;rintro e A' H' ⟨rfl,rfl,rfl⟩;cases e with
   | goto j=>simp only[QBn,hno j];exact⟨rfl,rfl,rfl⟩
   | _=>exact⟨rfl,rfl,rfl⟩
  unfold Qrr at h;split at h
  ·rename_i hl;refine plain (λl=>?_) h;cases hf:findLabel b l with
   | none=>rfl
   | some r=>
    obtain⟨pr,h1,_⟩:=hsnd.2 l r hf;have:=Qd3 _ _ _ h1;rw[hl]at this;cases this
  ·rename_i l hl;split at h
   ·rename_i r hr;obtain⟨I,⟨m,hm⟩,hround⟩:=h;obtain⟨rest,hrest⟩:∃rest,findLabel b l=some rest:=by
     cases hf:findLabel b l with
     | none=>rw[(Qpn b pb hb l).2 hf]at hr;cases hr
     | some rest=>exact⟨rest,rfl⟩
    obtain⟨pr,q1,q2,q3⟩:=hsnd.2 l rest hrest;rw[hr]at q1;cases q1;have hother:∀j,j≠l->findLabel b j=none:=λj hj=>by
     cases hf:findLabel b j with
     | none=>rfl
     | some r2=>
      obtain⟨pr2,h1,_⟩:=hsnd.2 j r2 hf;have:=Qd3 _ _ _ h1;rw[hl,Sa]at this;exact absurd this hj
    have key:∀m (c:Code) (pcc:PC),Snd P n c pcc->∀A H,H.Wf->Qm P pcc ⟨ks.ret,jmK l I m ks.ext⟩ k A H->∃ex A1 H1,H1.Wf∧Fp ks k ex A1 H1∧Qfc P n b c (Qve ex A1 H1) A H:=by
     intro m
     induction m using Nat.strongRecOn with
     | _ m ihm=>
      intro c pcc hsc A H hwf hx;obtain⟨ex,A1,H1,hw1,hf,hw⟩:=hsc _ k A H hwf hx;cases ex with
      | normal=>exact⟨.normal,A1,H1,hw1,hf,VM (hw.mono (by rintro e A' H' ⟨rfl,rfl,rfl⟩;exact⟨rfl,rfl,rfl⟩))⟩
      | ret=>exact⟨.ret,A1,H1,hw1,hf,VM (hw.mono (by rintro e A' H' ⟨rfl,rfl,rfl⟩;exact⟨rfl,rfl,rfl⟩))⟩
      | exit j=>
       simp only[Fp,jmK]at hf;rw[Le (by omega)]at hf;exact⟨.exit j,A1,H1,hw1,hf,VM (hw.mono (by rintro e A' H' ⟨rfl,rfl,rfl⟩;exact⟨rfl,rfl,rfl⟩))⟩
      | goto j=>
       simp only[Fp,jmK]at hf
       by_cases hj:j=l
       ·subst hj;rw[Lc rfl]at hf;obtain⟨m',hlt,hI⟩:=hf;obtain⟨ex2,A2,H2,hw2,hf2,hs2⟩:=ihm m' hlt rest r q3 A1 H1 hw1 (hround m' A1 H1 hI);refine⟨ex2,A2,H2,hw2,hf2,VM (hw.mono ?_)⟩;rintro e A' H' ⟨rfl,rfl,rfl⟩;simp only[QBn,hrest];exact hs2
       ·rw[Le (by omega)]at hf;refine⟨.goto j,A1,H1,hw1,hf,VM (hw.mono ?_)⟩;rintro e A' H' ⟨rfl,rfl,rfl⟩;simp only[QBn,hother j hj];exact⟨rfl,rfl,rfl⟩
      | panic v=>exact hf.elim
    obtain⟨ex,A1,H1,hw1,hf,hw⟩:=key m b pb hsnd.1 A H hwf hm;exact⟨ex,A1,H1,hw1,hf,QhK hw⟩
   ·exact h.elim
  ·exact h.elim
theorem QwW (c:Code)(pc:PC)(ks:Kp)(k:Env->Qa->Prop)(A:Env)(H:Qa)(hwf:H.Wf)(hc:comp P n c=some pc)(h:Qm P pc ks k A H):
  ∃ex A1 H1,H1.Wf∧Fp ks k ex A1 H1∧AWp P n c (Qve ex A1 H1) A H:=(Qvf c pc hc).1 ks k A H hwf h
def Qvg (P:Program)(fn:Func)(k:Value->Qa->Prop):Env->Qa->Prop:=λA H=>∃v,Qmv P fn.ntmps fn.results A H=some v∧∃H2,GE H2 H∧(H.Wf->H2.Wf)∧k v H2
theorem QrY {f:FuncId}{fn:Func}{pc:PC}{args:List Value}{H:Qa}{k:Value->Qa->Prop}(hf:P.funcs[f]? = some fn)(hcb:fn.body.bind (comp P fn.ntmps)=some pc)(he:entered P f=true)(hl:args.length<=fn.ntmps)
  (h:H.Wf->Qm P pc ⟨Qvg P fn λv H'=>H.next<=H'.next∧k v H',λ_ _ _=>False⟩ (Qvg P fn λv H'=>H.next<=H'.next∧k v H') (QdH args) H):Qe P f args H k:=by
 obtain⟨c,hb,hc⟩:=BY.1 hcb;intro hwf;obtain⟨ex,A1,H1,hw1,hfp,hw⟩:=QwW c pc _ _ (QdH args) H hwf hc (h hwf);have en:args.length+(fn.ntmps - args.length)=fn.ntmps:=by omega
 have main:Qvg P fn (λv H'=>H.next<=H'.next∧k v H') A1 H1->(ex=.normal∨ex=.ret)->∃v H',GQ P f args H v H'∧H.next<=H'.next∧H'.Wf∧k v H':=fun⟨v,hv,H2,hle,hw2,hn,hk⟩ hex=>by
  refine⟨v,H2,.inl ⟨he,QrI hf hb ?_⟩,hn,hw2 hw1,hk⟩;rw[en];refine hw.mono ?_;rintro e A' H' ⟨rfl,rfl,rfl⟩;rcases hex with rfl | rfl
  ·exact⟨v,rfl,hv,hle⟩
  ·exact⟨v,rfl,hv,hle⟩
 cases ex with
 | normal=>exact main hfp (.inl rfl)
 | ret=>exact main hfp (.inr rfl)
 | exit j=>exact hfp.2.elim
 | goto j=>exact hfp.elim
 | panic v=>exact hfp.elim
theorem YQ.mono {l:Nat}{args:List Value}{H:Qa}{k k':Value->Qa->Prop}(h:YQ P l args H k)(hk:∀v H',k v H'->k' v H'):YQ P l args H k':=by
 intro hw;obtain⟨v,H',h1,h2,h3,h4⟩:=h hw;exact⟨v,H',h1,h2,h3,hk v H' h4⟩
theorem YQ.then {l:Nat}{args:List Value}{H:Qa}{k k':Value->Qa->Prop}(h:YQ P l args H k)(hk:∀v H',H.next<=H'.next->k v H'->k' v H'):YQ P l args H k':=by
 intro hw;obtain⟨v,H',h1,h2,h3,h4⟩:=h hw;exact⟨v,H',h1,h2,h3,hk v H' h2 h4⟩
theorem Qe.mono {f:FuncId}{args:List Value}{H:Qa}{k k':Value->Qa->Prop}(h:Qe P f args H k)(hk:∀v H',k v H'->k' v H'):Qe P f args H k':=by
 intro hw;obtain⟨v,H',h1,h2,h3,h4⟩:=h hw;exact⟨v,H',h1,h2,h3,hk v H' h4⟩
theorem Qe.then {f:FuncId}{args:List Value}{H:Qa}{k k':Value->Qa->Prop}(h:Qe P f args H k)(hk:∀v H',H.next<=H'.next->k v H'->k' v H'):Qe P f args H k':=by
 intro hw;obtain⟨v,H',h1,h2,h3,h4⟩:=h hw;exact⟨v,H',h1,h2,h3,hk v H' h2 h4⟩
theorem Qtq {f:FuncId}{args:List Value}{H:Qa}{v:Value}(he:entered P f=true)(h:Qgq P f args H (.ret v) H):Qe P f args H λu H'=>u=v∧H'=H:=
 λhw=>⟨v,H,.inl ⟨he,h⟩,Lb _,hw,rfl,rfl⟩
end
def Qa.up (H:Qa)(m:Nat):Qa:=⟨m,H.tr⟩
theorem Y0 (H:Qa)(m id:Nat):(H.up m).get id=H.get id:=Nu rfl rfl
@[simp] theorem Ql (H:Qa) (m:Nat):(H.up m).next=m:=Nu rfl rfl
@[simp] theorem Qa.up_up (H:Qa) (m m':Nat):(H.up m).up m'=H.up m':=rfl
theorem GE.up {H H1:Qa}{m:Nat}(hm:H1.next<=m)(h:∀id b,H.get id=some b->H1.get id=some b):GE (H.up m) H1:=⟨hm,h⟩
abbrev t (n:Nat):Operand:=.tmp n
def U:Env:=λ_=>undef
theorem J5 (A:Env)(d:Nat)(v:Value):upd A d v d=v:=QjQ A d v
theorem VG (A:Env)(d n:Nat)(v:Value):upd A d v n=bif n==d then v else A n:=by
 by_cases h:n=d
 ·subst h;simp
 ·have e:(n==d)=false:=beq_false_of_ne h;rw[QhE A v h,e];rfl
theorem QqW (A:Env)(n:Nat):ev A (t n)=A n:=Nu rfl rfl
theorem QwX (A:Env)(v:Value):ev A (.const v)=v:=Nu rfl rfl
theorem QBC (A:Env)(g:Nat):ev A (.global g)=.pointer (some ⟨g,0,none⟩):=Nu rfl rfl
theorem QEB (A:Env)(f:Nat):ev A (.func f)=.func (.func f) #[] #[]:=Nu rfl rfl
theorem YJ (A:Env)(d:Nat)(v:Value):GF A (some d) v=upd A d v:=Nu rfl rfl
theorem Qgy (A:Env)(v:Value):GF A none v=A:=Nu rfl rfl
theorem QJz:QdH []=U:=by funext n;simp[QdH,U]
theorem QJA (a:Value):QdH [a]=upd U 0 a:=by
 funext n;rcases n with _ | n<;>rfl
theorem QJB (a b:Value):QdH [a,b]=upd (upd U 0 a) 1 b:=by
 funext n;rcases n with _ | _ | n<;>rfl
theorem QJC (a b c:Value):QdH [a,b,c]=upd (upd (upd U 0 a) 1 b) 2 c:=by
 funext n;rcases n with _ | _ | _ | n<;>rfl
theorem QJD (a b c d:Value):QdH [a,b,c,d]=upd (upd (upd (upd U 0 a) 1 b) 2 c) 3 d:=by
 funext n;rcases n with _ | _ | _ | _ | n<;>rfl
theorem QJE (a b c d e:Value):QdH [a,b,c,d,e]=upd (upd (upd (upd (upd U 0 a) 1 b) 2 c) 3 d) 4 e:=by
 funext n;rcases n with _ | _ | _ | _ | _ | n<;>rfl
theorem QJF (a b c d e f g:Value):QdH [a,b,c,d,e,f,g]=upd (upd (upd (upd (upd (upd (upd U 0 a) 1 b) 2 c) 3 d) 4 e) 5 f) 6 g:=by
 funext n;rcases n with _ | _ | _ | _ | _ | _ | _ | n<;>rfl
section
variable {k:Value->Qa->Prop} {v:Value} {H H':Qa}
theorem QM:onS (some (v,H')) k=k v H':=by
 apply propext;constructor
 ·rintro⟨v1,H1,h,hk⟩;cases h;exact hk
 ·exact λh=>⟨_,_,rfl,h⟩
theorem QrZ:onS none k=False:=by
 apply propext;constructor
 ·rintro⟨v1,H1,h,hk⟩;cases h
 ·exact λh=>h.elim
theorem QnI {c:Prop}[Decidable c]{a:Option (Value×Qa)}:onS (if c then a else none) k=(c∧onS a k):=by
 by_cases h:c
 ·simp[h]
 ·simp[h,QrZ]
theorem Qj3 {r:Option Value}:onS (QjZ H r) k=∃v,r=some v∧k v H:=by
 cases r with
 | none=>simp[QjZ,QrZ]
 | some u=>simp[QjZ,QM]
end
/-! ### Code -/
section
variable {P:Program}
def QnJ (P:Program)(l:List PO)(k:Env->Qa->Prop)(A:Env)(d:Option Nat)(v:Value)(H:Qa):Prop:=Qdq P l k (GF A d v) H
theorem Yk (l:List PO)(k:Env->Qa->Prop)(A:Env)(d:Nat)(v:Value)(H:Qa):QnJ P l k A (some d) v H=Qdq P l k (upd A d v) H:=Nu rfl rfl
theorem JH (l:List PO)(k:Env->Qa->Prop)(A:Env)(v:Value)(H:Qa):QnJ P l k A none v H=Qdq P l k A H:=Nu rfl rfl
def gB (b:Bool)(P:Program)(r:R)(s:Bool)(l:List PO)(k:Env->Qa->Prop)(A:Env)(d:Option Nat)(H:Qa):Prop:=
 (b=true->pr P r s A H (QnJ P l k A d))∧(b=false->Qdq P l k (GF A d undef) H)
def gV (v:Value)(w:Bool)(P:Program)(r:R)(s:Bool)(l:List PO)(k:Env->Qa->Prop)(A:Env)(d:Option Nat)(H:Qa):Prop:=
 match v with
 | .bool b=>gB (b==w) P r s l k A d H
 | .tuple _=>Qdq P l k (GF A d undef) H
 | _=>False
theorem QEC (r:R)(s:Bool)(l:List PO)(k:Env->Qa->Prop)(A:Env)(d:Option Nat)(H:Qa):gB true P r s l k A d H=pr P r s A H (QnJ P l k A d):=by simp[gB]
theorem QCU (r:R)(s:Bool)(l:List PO)(k:Env->Qa->Prop)(A:Env)(d:Option Nat)(H:Qa):gB false P r s l k A d H=Qdq P l k (GF A d undef) H:=by simp[gB]
theorem QED (b w:Bool)(r:R)(s:Bool)(l:List PO)(k:Env->Qa->Prop)(A:Env)(d:Option Nat)(H:Qa):gV (.bool b) w P r s l k A d H=gB (b==w) P r s l k A d H:=Nu rfl rfl
theorem QCV (w:Bool)(r:R)(s:Bool)(l:List PO)(k:Env->Qa->Prop)(A:Env)(d:Option Nat)(H:Qa):gV undef w P r s l k A d H=Qdq P l k (GF A d undef) H:=Nu rfl rfl
theorem bt (b:Bool):(b==true)=b:=by cases b<;>rfl
theorem bf (b:Bool):(b==false)=!b:=by cases b<;>rfl
theorem J6 (k:Env->Qa->Prop)(A:Env)(H:Qa):Qdq P [] k A H=k A H:=Nu rfl rfl
theorem Zb (d:Option Nat)(r:R)(s:Bool)(l:List PO)(k:Env->Qa->Prop)(A:Env)(H:Qa):Qdq P (⟨d,r,none,s⟩::l) k A H=pr P r s A H (QnJ P l k A d):=Nu rfl rfl
theorem Qy1 (d:Option Nat)(r:R)(n:Nat)(w s:Bool)(l:List PO)(k:Env->Qa->Prop)(A:Env)(H:Qa):Qdq P (⟨d,r,some (n,w),s⟩::l) k A H=gV (A n) w P r s l k A d H:=by
 show pg (some (n,w)) A (pr P r s A H (QnJ P l k A d)) (Qdq P l k (GF A d undef) H)=_;show(match A n with | .bool b=>if b=w then pr P r s A H (QnJ P l k A d) else Qdq P l k (GF A d undef) H | .tuple _=>Qdq P l k (GF A d undef) H | _=>False)=_;unfold gV;cases A n<;>try rfl
 rename_i b;cases b<;>cases w<;>simp[gB]
theorem QhQ (ks:Kp)(k:Env->Qa->Prop)(A:Env)(H:Qa):Qm P .skip ks k A H=k A H:=Nu rfl rfl
theorem QBD (ks:Kp)(k:Env->Qa->Prop)(A:Env)(H:Qa):Qm P .ret ks k A H=ks.ret A H:=Nu rfl rfl
theorem Qy2 (id:Nat)(ks:Kp)(k:Env->Qa->Prop)(A:Env)(H:Qa):Qm P (.exit id) ks k A H=ks.ext id A H:=Nu rfl rfl
theorem Quo (l:List PO)(ks:Kp)(k:Env->Qa->Prop)(A:Env)(H:Qa):Qm P (.ops l) ks k A H=Qdq P l k A H:=Nu rfl rfl
theorem V1 (a b:PC)(ks:Kp)(k:Env->Qa->Prop)(A:Env)(H:Qa):Qm P (.seq a b) ks k A H=Qm P a ks (Qm P b ks k) A H:=Nu rfl rfl
theorem Qqq (l:Nat)(ks:Kp)(k:Env->Qa->Prop)(A:Env)(H:Qa):Qm P (.label l) ks k A H=k A H:=Nu rfl rfl
theorem Qy3 (l:Nat)(ks:Kp)(k:Env->Qa->Prop)(A:Env)(H:Qa):Qm P (.goto l) ks k A H=ks.ext (J0+l) A H:=Nu rfl rfl
theorem QwY {b r:PC}{l:Nat}{ks:Kp}{k:Env->Qa->Prop}{A:Env}{H:Qa}(I:Nat->Env->Qa->Prop)(m:Nat)(h0:Qm P b ⟨ks.ret,jmK l I m ks.ext⟩ k A H)(h:∀m A' H',I m A' H'->Qm P r ⟨ks.ret,jmK l I m ks.ext⟩ k A' H'):Qm P (.scope b l r) ks k A H:=
 ⟨I,⟨m,h0⟩,h⟩
def exK (id:Nat)(k:Env->Qa->Prop)(e:Nat->Env->Qa->Prop)(j:Nat):Env->Qa->Prop:=if j=id then k else e j
theorem QCW (id:Nat)(k:Env->Qa->Prop)(e:Nat->Env->Qa->Prop)(A:Env)(H:Qa):exK id k e id A H=k A H:=by simp[exK]
theorem QBE (id j:Nat)(k:Env->Qa->Prop)(e:Nat->Env->Qa->Prop)(A:Env)(H:Qa)(h:j≠id):exK id k e j A H=e j A H:=by simp[exK,h]
def WJ:Nat->Env->Qa->Prop:=λ_ _ _=>False
theorem Qfi (id:Nat)(b:PC)(ks:Kp)(k:Env->Qa->Prop)(A:Env)(H:Qa):Qm P (.block id b) ks k A H=Qm P b ⟨ks.ret,exK id k ks.ext⟩ k A H:=Nu rfl rfl
theorem QGU (r:Env->Qa->Prop)(e:Nat->Env->Qa->Prop):(Kp.mk r e).ret=r:=Nu rfl rfl
theorem QGV (r:Env->Qa->Prop)(e:Nat->Env->Qa->Prop):(Kp.mk r e).ext=e:=Nu rfl rfl
def cB (b:Bool)(P:Program)(x y:PC)(ks:Kp)(k:Env->Qa->Prop)(A:Env)(H:Qa):Prop:=(b=true->Qm P x ks k A H)∧(b=false->Qm P y ks k A H)
def cV (v:Value)(P:Program)(x y:PC)(ks:Kp)(k:Env->Qa->Prop)(A:Env)(H:Qa):Prop:=match v with
 | .bool b=>cB b P x y ks k A H
 | _=>False
theorem KE (c:Operand)(x y:PC)(ks:Kp)(k:Env->Qa->Prop)(A:Env)(H:Qa):Qm P (.cond c x y) ks k A H=cV (ev A c) P x y ks k A H:=Nu rfl rfl
theorem Qfj (b:Bool)(x y:PC)(ks:Kp)(k:Env->Qa->Prop)(A:Env)(H:Qa):cV (.bool b) P x y ks k A H=cB b P x y ks k A H:=Nu rfl rfl
theorem QnK (x y:PC)(ks:Kp)(k:Env->Qa->Prop)(A:Env)(H:Qa):cB true P x y ks k A H=Qm P x ks k A H:=by simp[cB]
theorem Qem (x y:PC)(ks:Kp)(k:Env->Qa->Prop)(A:Env)(H:Qa):cB false P x y ks k A H=Qm P y ks k A H:=by simp[cB]
/-! ### Operations -/
variable {k:Value->Qa->Prop} {A:Env} {H:Qa}
def flK (H:Qa)(k:Value->Qa->Prop)(v:Value)(H':Qa):Prop:=Qh H.next 6 v=true∧k v H'
theorem QBF (H:Qa)(k:Value->Qa->Prop)(v:Value)(H':Qa):flK H k v H'=(Qh H.next 6 v=true∧k v H'):=Nu rfl rfl
def stK (H:Qa)(k:Value->Qa->Prop)(v:Value)(H':Qa):Prop:=(∀id,H'.get id=H.get id)∧k v H'
theorem QBG (H:Qa)(k:Value->Qa->Prop)(v:Value)(H':Qa):stK H k v H'=((∀id,H'.get id=H.get id)∧k v H'):=Nu rfl rfl
theorem W2 (r:Option (Value×Qa)):onS r (λv H'=>(false=true->Qh H.next 6 v=true)∧k v H')=onS r k:=by
 congr 1;funext v H';simp
theorem QEE (r:Option (Value×Qa)):onS r (λv H'=>(true=true->Qh H.next 6 v=true)∧k v H')=onS r (flK H k):=by
 congr 1;funext v H';simp[flK]
theorem QEF (f:FuncId)(l:List Operand):pr P (.call f l) false A H k=Qe P f (l.map (ev A)) H k:=by
 show Qe P f (l.map (ev A)) H (λv H'=>(false=true->∀id,H'.get id=H.get id)∧k v H')=_;congr 1;funext v H';simp
theorem Qy4 (f:FuncId)(l:List Operand):pr P (.call f l) true A H k=Qe P f (l.map (ev A)) H (stK H k):=by
 show Qe P f (l.map (ev A)) H (λv H'=>(true=true->∀id,H'.get id=H.get id)∧k v H')=_;congr 1;funext v H';simp[stK]
def kpK (H:Qa)(k:Value->Qa->Prop)(v:Value)(H':Qa):Prop:=EqB H H'∧k v H'
theorem QBH (H:Qa)(k:Value->Qa->Prop)(v:Value)(H':Qa):kpK H k v H'=(EqB H H'∧k v H'):=Nu rfl rfl
def QwZ (n:Nat):List Value->Prop
 | []=>True
 | v::l=>Qpl n v∧QwZ n l
theorem QCX (n:Nat):QwZ n []=True:=Nu rfl rfl
theorem QBI (n:Nat)(v:Value)(l:List Value):QwZ n (v::l)=(Qpl n v∧QwZ n l):=Nu rfl rfl
theorem QCY (n b o:Nat):Qpl n (.pointer (some ⟨b,o,none⟩))=(b<n):=Nu rfl rfl
theorem Qy5 (n b o l c:Nat):Qpl n (.slice (some ⟨b,o,none⟩) l c)=(b<n):=Nu rfl rfl
theorem Qr0 (n:Nat)(f:Operand->Value):∀l:List Operand,(∀z∈l,Qpl n (f z))↔QwZ n (l.map f)
 | []=>⟨λ_=>trivial,λ_ _ h=>by cases h⟩
 | x::l=>by
  have ih:=Qr0 n f l;simp only[LK,forall_eq_or_imp,NZ,QwZ,ih]
theorem QCZ (f:FuncId)(l os:List Operand)(s:Bool):pr P (.callF f l os) s A H k=(QwZ H.next (os.map (ev A))∧Qe P f (l.map (ev A)) H (kpK H k)):=by
 show((∀z∈os,Qpl H.next (ev A z))∧Qe P f (l.map (ev A)) H λv H'=>EqB H H'∧k v H')=_;rw[Qr0];rfl
def cvK (v:Value)(P:Program)(l:List Value)(H:Qa)(k:Value->Qa->Prop):Prop:=match v with
 | .func (.func f) xs ys=>Qe P f (xs.toList++l++ys.toList) H k
 | .func (.yield y) ⟨[]⟩ ⟨[]⟩=>YQ P y l H k
 | _=>False
theorem Qed (y:Nat)(l:List Value):cvK (.func (.yield y) #[] #[]) P l H k=YQ P y l H k:=Nu rfl rfl
theorem QcW (f:FuncId)(xs ys l:List Value):cvK (.func (.func f) xs.toArray ys.toArray) P l H k=Qe P f (xs++l++ys) H k:=Nu rfl rfl
theorem QC0 (c:Operand)(l:List Operand):pr P (.callv c l) false A H k=cvK (ev A c) P (l.map (ev A)) H k:=by
 show(match ev A c with | .func (.func f) xs ys=>Qe P f (xs.toList++l.map (ev A)++ys.toList) H (λv H'=>(false=true->∀id,H'.get id=H.get id)∧k v H') | .func (.yield y) ⟨[]⟩ ⟨[]⟩=>YQ P y (l.map (ev A)) H (λv H'=>(false=true->∀id,H'.get id=H.get id)∧k v H') | _=>False)=_;unfold cvK;split<;>first | rfl | skip
 all_goals (congr 1;funext v H';simp)
theorem Qj4 (x:Operand):pr P (.mv x) false A H k=k (ev A x) H:=(W2 _).trans QM
def QGn (c x y:Value)(H:Qa)(k:Value->Qa->Prop):Prop:=onS (match c with | .bool b=>some (bif b then x else y,H) | _=>none) k
theorem Qlm (c x y:Operand):pr P (.pick c x y) false A H k=QGn (ev A c) (ev A x) (ev A y) H k:=W2 _
theorem Qcw (b:Bool)(x y:Value):QGn (.bool b) x y H k=k (bif b then x else y) H:=QM
def VO (op:BinOp)(x y:Value)(H:Qa)(k:Value->Qa->Prop):Prop:=∃v,VN op x y=some v∧k v H
theorem QGW (op:BinOp)(x y:Operand):pr P (.bin op x y) false A H k=VO op (ev A x) (ev A y) H k:=(W2 _).trans Qj3
theorem WT {op:BinOp}{x y v:Value}(h:VN op x y=some v):VO op x y H k=k v H:=by
 apply propext;constructor
 ·rintro⟨u,h1,h2⟩;rw[h]at h1;cases h1;exact h2
 ·exact λhk=>⟨v,h,hk⟩
theorem QEG (ik:IntKind)(a b:Int):VO .add (.int ik a) (.int ik b) H k=k (.int ik (ik.wrap (a+b))) H:=WT (by simp[VN,Jh])
theorem QEH (ik:IntKind)(a b:Int):VO .sub (.int ik a) (.int ik b) H k=k (.int ik (ik.wrap (a - b))) H:=WT (by simp[VN,Jh])
theorem QEI (ik:IntKind)(a b:Int):VO .mul (.int ik a) (.int ik b) H k=k (.int ik (ik.wrap (a * b))) H:=WT (by simp[VN,Jh])
theorem QEJ (ik:IntKind)(a b:Int):VO .and (.int ik a) (.int ik b) H k=k (.int ik (ik.wrap (BitVec.ofInt ik.bits a &&& BitVec.ofInt ik.bits b).toNat)) H:=WT (by simp[VN,Jh])
theorem QGX (ik:IntKind)(a b:Int):VO .or (.int ik a) (.int ik b) H k=k (.int ik (ik.wrap (BitVec.ofInt ik.bits a ||| BitVec.ofInt ik.bits b).toNat)) H:=WT (by simp[VN,Jh])
theorem QEK (ik:IntKind)(a b:Int):VO .xor (.int ik a) (.int ik b) H k=k (.int ik (ik.wrap (BitVec.ofInt ik.bits a ^^^ BitVec.ofInt ik.bits b).toNat)) H:=WT (by simp[VN,Jh])
theorem Qy6 (ik:IntKind)(a b:Int):VO .andNot (.int ik a) (.int ik b) H k=k (.int ik (ik.wrap (BitVec.ofInt ik.bits a &&& ~~~BitVec.ofInt ik.bits b).toNat)) H:=WT (by simp[VN,Jh])
theorem QEL (ik:IntKind)(a b:Int):VO .eql (.int ik a) (.int ik b) H k=k (.bool (a==b)) H:=WT (by simp[VN,Jh])
theorem QEM (ik:IntKind)(a b:Int):VO .neq (.int ik a) (.int ik b) H k=k (.bool (!(a==b))) H:=WT (by simp[VN,Jh,bne])
theorem QEN (ik:IntKind)(a b:Int):VO .lss (.int ik a) (.int ik b) H k=k (.bool (decide (a<b))) H:=WT (by simp[VN,Jh])
theorem QEO (ik:IntKind)(a b:Int):VO .leq (.int ik a) (.int ik b) H k=k (.bool (decide (a<=b))) H:=WT (by simp[VN,Jh])
theorem QEP (ik:IntKind)(a b:Int):VO .gtr (.int ik a) (.int ik b) H k=k (.bool (decide (b<a))) H:=WT (by simp[VN,Jh])
theorem QEQ (ik:IntKind)(a b:Int):VO .geq (.int ik a) (.int ik b) H k=k (.bool (decide (b<=a))) H:=WT (by simp[VN,Jh])
theorem QER (ik:IntKind)(a b:Int):VO .rem (.int ik a) (.int ik b) H k=(b≠0∧k (.int ik (a.tmod b)) H):=by
 unfold VO;by_cases h:b=0<;>simp[VN,Jh,h]
theorem QES (ik:IntKind)(a b:Int):VO .quo (.int ik a) (.int ik b) H k=(b≠0∧k (.int ik (ik.wrap (a.tdiv b))) H):=by
 unfold VO;by_cases h:b=0<;>simp[VN,Jh,h]
theorem QET (ik ik':IntKind)(a b:Int):VO .shl (.int ik a) (.int ik' b) H k=(0<=b∧k (.int ik (ik.wrap (a * 2 ^ (min b.toNat ik.bits)))) H):=by
 unfold VO;by_cases h:b<0
 ·simp[VN,QcR,h];omega
 ·simp[VN,QcR,h];intro _;omega
theorem QEU (ik ik':IntKind)(a b:Int):VO .shr (.int ik a) (.int ik' b) H k=(0<=b∧k (.int ik (a.fdiv (2 ^ (min b.toNat ik.bits)))) H):=by
 unfold VO;by_cases h:b<0
 ·simp[VN,QcR,h];omega
 ·simp[VN,QcR,h];intro _;omega
theorem QEV (a b:ByteArray):VO .eql (.string a) (.string b) H k=k (.bool (bl a==bl b)) H:=WT (by simp[VN,Qei])
theorem QEW (a b:ByteArray):VO .neq (.string a) (.string b) H k=k (.bool (!(bl a==bl b))) H:=WT (by simp[VN,Qei])
theorem QC1 (a b:ByteArray):VO .add (.string a) (.string b) H k=((bl a).length+(bl b).length<=9223372036854775807∧k (.string (mkS (bl a++bl b))) H):=by
 unfold VO;by_cases h:(bl a).length+(bl b).length<=9223372036854775807<;>simp[VN,Qei,h]
def QGY (ne:Bool)(x y:Value)(H:Qa)(k:Value->Qa->Prop):Prop:=onS (match x,y with | .bool a,.bool b=>some (.bool (bif ne then !(a==b) else a==b),H) | _,_=>none) k
theorem QGZ (ne:Bool)(x y:Operand):pr P (.beq ne x y) false A H k=QGY ne (ev A x) (ev A y) H k:=W2 _
theorem QEX (a b:Bool):QGY false (.bool a) (.bool b) H k=k (.bool (a==b)) H:=QM
theorem QEY (a b:Bool):QGY true (.bool a) (.bool b) H k=k (.bool (!(a==b))) H:=QM
def QEZ (ne:Bool)(ks:List Sk)(x y:Value)(H:Qa)(k:Value->Qa->Prop):Prop:=onS (match x,y with
 | .agg xs,.agg ys=>match Qd2 ks xs ys 0 with | some b=>some (.bool (bif ne then !b else b),H) | none=>none
 | _,_=>none) k
theorem QG0 (ne:Bool)(ks:List Sk)(x y:Operand):pr P (.eqs ne ks x y) false A H k=QEZ ne ks (ev A x) (ev A y) H k:=W2 _
theorem QBJ {ne:Bool}{ks:List Sk}{xs ys:Array Value}{b:Bool}(h:Qd2 ks xs ys 0=some b):QEZ ne ks (.agg xs) (.agg ys) H k=k (.bool (bif ne then !b else b)) H:=by
 simp only[QEZ,h,QM]
def QIm (x:Value)(H:Qa)(k:Value->Qa->Prop):Prop:=onS (match x with | .bool b=>some (.bool !b,H) | _=>none) k
theorem QG1 (x:Operand):pr P (.not x) false A H k=QIm (ev A x) H k:=W2 _
theorem QBK (b:Bool):QIm (.bool b) H k=k (.bool !b) H:=QM
def QC2 (ik:IntKind)(x:Value)(H:Qa)(k:Value->Qa->Prop):Prop:=onS (match x with | .int _ m=>some (.int ik (ik.wrap m),H) | _=>none) k
theorem QC3 (ik:IntKind)(x:Operand):pr P (.toInt ik x) false A H k=QC2 ik (ev A x) H k:=W2 _
theorem Qy7 (ik ik':IntKind)(m:Int):QC2 ik (.int ik' m) H k=k (.int ik (ik.wrap m)) H:=QM
theorem QE0 (ty:TypeId)(x:Operand):pr P (.mkIf ty x) false A H k=k (.iface ty (ev A x)) H:=(W2 _).trans QM
def QG2 (agg:Bool)(off size:Nat)(x:Value)(H:Qa)(k:Value->Qa->Prop):Prop:=onS (match x with
 | .agg cs=>QjZ H (bif agg then some (.agg (cs.extract off (off+size))) else cs[off]?)
 | _=>none) k
theorem QG3 (agg:Bool)(off size:Nat)(x:Operand):pr P (.fld agg off size x) false A H k=QG2 agg off size (ev A x) H k:=W2 _
theorem QBL (off size:Nat)(l:List Value):QG2 false off size (.agg l.toArray) H k=∃v,l[off]? = some v∧k v H:=by
 show onS (QjZ H l.toArray[off]?) k=_;rw[Qj3];simp
theorem QC4 (off size:Nat)(l:List Value):QG2 true off size (.agg l.toArray) H k=k (.agg ((l.drop off).take size).toArray) H:=by
 show onS (QjZ H (some (.agg (l.toArray.extract off (off+size))))) k=_;rw[Qj3];simp
def QGo (off:Nat)(x:Value)(H:Qa)(k:Value->Qa->Prop):Prop:=onS (match x with | .pointer (some a)=>some (.pointer (some ⟨a.block,a.off+off,none⟩),H) | _=>none) k
theorem Qrt (off:Nat)(x:Operand):pr P (.fldA off x) false A H k=QGo off (ev A x) H k:=W2 _
theorem Qln (off b o:Nat):QGo off (.pointer (some ⟨b,o,none⟩)) H k=k (.pointer (some ⟨b,o+off,none⟩)) H:=QM
def QIn (size:Nat)(x ix:Value)(H:Qa)(k:Value->Qa->Prop):Prop:=onS (match ix,x with
 | .int _ m,.slice (some a) len _=>if 0<=m∧m<len then some (.pointer (some ⟨a.block,a.off+m.toNat * size,none⟩),H) else none
 | _,_=>none) k
theorem QE1 (size:Nat)(x ix:Operand):pr P (.idxS size x ix) false A H k=QIn size (ev A x) (ev A ix) H k:=W2 _
theorem Qy8 (size:Nat)(ik:IntKind)(m:Int)(b o len cap:Nat):QIn size (.slice (some ⟨b,o,none⟩) len cap) (.int ik m) H k=((0<=m∧m<len)∧k (.pointer (some ⟨b,o+m.toNat * size,none⟩)) H):=by
 show onS (if 0<=m∧m<len then some (.pointer (some ⟨b,o+m.toNat * size,none⟩),H) else none) k=_;rw[QnI,QM]
def QIo (x ix:Value)(H:Qa)(k:Value->Qa->Prop):Prop:=onS (match ix,x with
 | .int _ m,.string s=>if 0<=m then(match (bl s)[m.toNat]? with | some b=>some (.int .u8 b.toNat,H) | none=>none) else none
 | _,_=>none) k
theorem QG4 (x ix:Operand):pr P (.chr x ix) false A H k=QIo (ev A x) (ev A ix) H k:=W2 _
theorem QC5 (ik:IntKind)(m:Int)(s:ByteArray):QIo (.string s) (.int ik m) H k=(0<=m∧∃b,(bl s)[m.toNat]? = some b∧k (.int .u8 b.toNat) H):=by
 show onS (if 0<=m then(match (bl s)[m.toNat]? with | some b=>some (.int .u8 b.toNat,H) | none=>none) else none) k=_;rw[QnI];congr 1;cases hb:(bl s)[m.toNat]? with
 | some b=>simp[QM]
 | none=>simp[QrZ]
def QE2 (x:Value)(i:Nat)(H:Qa)(k:Value->Qa->Prop):Prop:=onS (match x with | .tuple vs=>QjZ H vs[i]? | _=>none) k
theorem QC6 (x:Operand)(i:Nat):pr P (.ext x i) false A H k=QE2 (ev A x) i H k:=W2 _
theorem QC7 (a:Value)(l:List Value):QE2 (.tuple (a::l).toArray) 0 H k=k a H:=QM
theorem QC8 (a b:Value)(l:List Value):QE2 (.tuple (a::b::l).toArray) 1 H k=k b H:=QM
theorem QG5 (a b c:Value)(l:List Value):QE2 (.tuple (a::b::c::l).toArray) 2 H k=k c H:=QM
def QC9 (r:Option (List Value))(H:Qa)(k:Value->Qa->Prop):Prop:=onS (match r with | some r=>some (.agg r.toArray,H) | none=>none) k
theorem QDa (z:List Value)(parts:List (Nat×Nat×Operand)):pr P (.build z parts) false A H k=QC9 (Qql (ev A) z parts) H k:=W2 _
theorem Qw0 (l:List Value):QC9 (some l) H k=k (.agg l.toArray) H:=QM
theorem QBM (f:Operand->Value)(cells:List Value):Qql f cells []=some cells:=Nu rfl rfl
theorem Qr1 (f:Operand->Value)(cells:List Value)(off size:Nat)(x:Operand)(rest:List (Nat×Nat×Operand)):Qql f cells ((off,size,x)::rest)=if(f x).cells.toList.length=size∧off+size<=cells.length then Qql f (splice cells off (f x).cells.toList) rest else none:=Nu rfl rfl
def QAA (e len:Nat)(r:Option (List Value))(H:Qa)(k:Value->Qa->Prop):Prop:=onS (match r with | some r=>some (.slice (some ⟨H.next,0,none⟩) len len,H.push (.cells r e false)) | none=>none) k
def Qw1 (size:Nat)(cells:List Value)(parts:List (Nat×Value)):Option (List Value):=Qfb (λi=>some (i * size,size)) cells parts
def evP (A:Env)(p:Nat×Operand):Nat×Value:=(p.1,ev A p.2)
theorem QDb (A:Env)(i:Nat)(x:Operand):evP A (i,x)=(i,ev A x):=Nu rfl rfl
theorem Qup (e size len:Nat)(z:List Value)(parts:List (Nat×Operand)):pr P (.bslice e size len z parts) false A H k=QAA e len (Qw1 size z (parts.map (evP A))) H k:=W2 _
theorem QnL (e len:Nat)(l:List Value):QAA e len (some l) H k=k (.slice (some ⟨H.next,0,none⟩) len len) (H.push (.cells l e false)):=QM
theorem QBN (size:Nat)(cells:List Value):Qw1 size cells []=some cells:=Nu rfl rfl
theorem Qr2 (size:Nat)(cells:List Value)(i:Nat)(v:Value)(rest:List (Nat×Value)):Qw1 size cells ((i,v)::rest)=if v.cells.toList.length=size∧i * size+size<=cells.length then Qw1 size (splice cells (i * size) v.cells.toList) rest else none:=Nu rfl rfl
theorem QDc (e:TypeId)(z:List Value):pr P (.alloc e z) false A H k=k (.pointer (some ⟨H.next,0,none⟩)) (H.push (.cells z e false)):=(W2 _).trans QM
theorem QG6 (e:TypeId)(x:Operand):pr P (.box e x) false A H k=k (.pointer (some ⟨H.next,0,none⟩)) (H.push (.cells (ev A x).cells.toList e false)):=(W2 _).trans QM
def QGp (e size bytes:Nat)(z:List Value)(x y:Value)(H:Qa)(k:Value->Qa->Prop):Prop:=onS (match x,y with
 | .int .i64 l,.int .i64 c=>if 0<=l∧l<=c∧(bytes:Int) * c<=281474976710656∧c<=9223372036854775807 then
   some (.slice (some ⟨H.next,0,none⟩) l.toNat c.toNat,H.push (.cells (Ze z.toArray (c.toNat * size)) e false)) else none
 | _,_=>none) k
theorem QE3 (e size bytes:Nat)(z:List Value)(x y:Operand):pr P (.mkSl e size bytes z x y) false A H k=QGp e size bytes z (ev A x) (ev A y) H k:=W2 _
theorem QBO (e size bytes:Nat)(z:List Value)(l c:Int):QGp e size bytes z (.int .i64 l) (.int .i64 c) H k=((0<=l∧l<=c∧(bytes:Int) * c<=281474976710656∧c<=9223372036854775807)∧k (.slice (some ⟨H.next,0,none⟩) l.toNat c.toNat) (H.push (.cells (Ze z.toArray (c.toNat * size)) e false))):=by
 show onS (if 0<=l∧l<=c∧(bytes:Int) * c<=281474976710656∧c<=9223372036854775807 then some (.slice (some ⟨H.next,0,none⟩) l.toNat c.toNat,H.push (.cells (Ze z.toArray (c.toNat * size)) e false)) else none) k=_;rw[QnI,QM]
def slK (size:Nat)(x:Value)(lo hi:Option (Option Int))(H:Qa)(k:Value->Qa->Prop):Prop:=onS (match lo,hi with
 | some l,some h=>QjZ H (Qaz size x l h none)
 | _,_=>none) k
theorem QDd (size:Nat)(x:Value)(l h:Option Int):slK size x (some l) (some h) H k=∃v,Qaz size x l h none=some v∧k v H:=Qj3
theorem QG7 (size:Nat)(x:Operand)(lo hi:Option Operand):pr P (.slS size x lo hi) false A H k=slK size (ev A x) (Quk (ev A) lo) (Quk (ev A) hi) H k:=W2 _
theorem Qy9 (f:Operand->Value):Quk f none=some none:=Nu rfl rfl
theorem Qza (f:Operand->Value)(x:Operand):Quk f (some x)=match f x with | .int _ m=>some (some m) | _=>none:=Nu rfl rfl
def ldB (agg:Bool)(size off:Nat)(b:Option Blk)(H:Qa)(k:Value->Qa->Prop):Prop:=onS (match b with
 | some (.cells c _ _)=>bif agg then(if off+size<=c.length then some (.agg ((c.drop off).take size).toArray,H) else none) else QjZ H c[off]?
 | _=>none) k
def ldK (agg:Bool)(size:Nat)(x:Value)(H:Qa)(k:Value->Qa->Prop):Prop:=onS (match x with
 | .pointer (some a)=>match H.get a.block with
  | some (.cells c _ _)=>bif agg then(if a.off+size<=c.length then some (.agg ((c.drop a.off).take size).toArray,H) else none) else QjZ H c[a.off]?
  | _=>none
 | _=>none) k
theorem QGq (agg:Bool)(size:Nat)(x:Operand):pr P (.ld agg size x) false A H k=ldK agg size (ev A x) H k:=W2 _
theorem QDe (agg:Bool)(size:Nat)(x:Operand):pr P (.ld agg size x) true A H k=ldK agg size (ev A x) H (flK H k):=QEE _
theorem QAB (agg:Bool)(size b o:Nat):ldK agg size (.pointer (some ⟨b,o,none⟩)) H k=ldB agg size o (H.get b) H k:=Nu rfl rfl
theorem Qw2 (size off:Nat)(c:List Value)(e:TypeId)(ro:Bool):ldB false size off (some (.cells c e ro)) H k=∃v,c[off]? = some v∧k v H:=Qj3
theorem QAC (size off:Nat)(c:List Value)(e:TypeId)(ro:Bool):ldB true size off (some (.cells c e ro)) H k=(off+size<=c.length∧k (.agg ((c.drop off).take size).toArray) H):=by
 show onS (if off+size<=c.length then some (.agg ((c.drop off).take size).toArray,H) else none) k=_;rw[QnI,QM]
def QIp (size:Nat)(a:Addr)(y:Value)(b:Option Blk)(H:Qa)(k:Value->Qa->Prop):Prop:=onS (match b with
 | some (.cells c e false)=>if y.cells.toList.length=size∧a.off+y.cells.toList.length<=c.length∧y.cells.toList.all (·.oneCell')=true then some (undef,H.set a.block (.cells (splice c a.off y.cells.toList) e false)) else none
 | _=>none) k
def QG8 (size:Nat)(x y:Value)(H:Qa)(k:Value->Qa->Prop):Prop:=onS (match x with
 | .pointer (some a)=>match H.get a.block with
  | some (.cells c e false)=>if y.cells.toList.length=size∧a.off+y.cells.toList.length<=c.length∧y.cells.toList.all (·.oneCell')=true then some (undef,H.set a.block (.cells (splice c a.off y.cells.toList) e false)) else none
  | _=>none
 | _=>none) k
theorem QAD (size:Nat)(x y:Operand):pr P (.st size x y) false A H k=QG8 size (ev A x) (ev A y) H k:=W2 _
theorem Qr3 (size b o:Nat)(y:Value):QG8 size (.pointer (some ⟨b,o,none⟩)) y H k=QIp size ⟨b,o,none⟩ y (H.get b) H k:=Nu rfl rfl
theorem QmE (size b o:Nat)(y:Value)(c:List Value)(e:TypeId):QIp size ⟨b,o,none⟩ y (some (.cells c e false)) H k=((y.cells.toList.length=size∧o+y.cells.toList.length<=c.length∧y.cells.toList.all (·.oneCell')=true)∧k undef (H.set b (.cells (splice c o y.cells.toList) e false))):=by
 show onS (if y.cells.toList.length=size∧o+y.cells.toList.length<=c.length∧y.cells.toList.all (·.oneCell')=true then some (undef,H.set b (.cells (splice c o y.cells.toList) e false)) else none) k=_;rw[QnI,QM]
def apL:List Value->Value->Prop
 | [],_=>True
 | z::l,x=>QmA x z∧apL l x
def apK (os:List Value)(x:Value)(k:Value->Qa->Prop)(v:Value)(H':Qa):Prop:=apL os x∧k v H'
theorem Quq (os:List Value)(x:Value)(k:Value->Qa->Prop)(v:Value)(H':Qa):apK os x k v H'=(apL os x∧k v H'):=Nu rfl rfl
theorem QE4 (x:Value):apL [] x=True:=Nu rfl rfl
theorem QDf (z x:Value)(l:List Value):apL (z::l) x=(QmA x z∧apL l x):=Nu rfl rfl
theorem Qzb (b o b' o':Nat):QmA (.pointer (some ⟨b,o,none⟩)) (.pointer (some ⟨b',o',none⟩))=(b'≠b):=Nu rfl rfl
theorem Qvh (b o:Nat):QmA (.pointer (some ⟨b,o,none⟩)) undef=True:=Nu rfl rfl
theorem QE5 (os:List Operand)(x:Value):apL (os.map (ev A)) x=∀z∈os,QmA x (ev A z):=by
 induction os with
 | nil=>simp[apL]
 | cons z l ih=>simp[apL,ih]
theorem QG9 (size:Nat)(x y:Operand)(os:List Operand)(s:Bool):pr P (.stf size x y os) s A H k=QG8 size (ev A x) (ev A y) H (apK (os.map (ev A)) (ev A x) k):=by
 show onS (rop P (.st size x y) A H) (λv H'=>(∀z∈os,QmA (ev A x) (ev A z))∧k v H')=onS (rop P (.st size x y) A H) _;congr 1;funext v H';rw[Quq,QE5]
def QGr (x:Value)(H:Qa)(k:Value->Qa->Prop):Prop:=onS (match x with | .slice _ m _=>some (.int .i64 (m:Int),H) | _=>none) k
theorem QE6 (x:Operand):pr P (.lenS x) false A H k=QGr (ev A x) H k:=W2 _
theorem Wj (a:Option Addr)(len cap:Nat):QGr (.slice a len cap) H k=k (.int .i64 (len:Int)) H:=QM
def QGs (x:Value)(H:Qa)(k:Value->Qa->Prop):Prop:=onS (match x with | .string s=>some (.int .i64 ((bl s).length:Int),H) | _=>none) k
theorem QE7 (x:Operand):pr P (.lenT x) false A H k=QGs (ev A x) H k:=W2 _
theorem QBP (s:ByteArray):QGs (.string s) H k=k (.int .i64 ((bl s).length:Int)) H:=QM
def Qdr (e size bytes:Nat)(s x:Value)(H:Qa)(k:Value->Qa->Prop):Prop:=onS (ZF e size bytes s x H) k
theorem QDg (e size bytes:Nat)(x y:Operand):pr P (.app e size bytes x y) false A H k=Qdr e size bytes (ev A x) (ev A y) H k:=W2 _
theorem QE8 (e size bytes:Nat)(x y:Operand)(os:List Operand)(s:Bool):pr P (.appF e size bytes x y os) s A H k=(QwZ H.next (os.map (ev A))∧Qdr e size bytes (ev A x) (ev A y) H (kpK H k)):=by
 show((∀z∈os,Qpl H.next (ev A z))∧onS (rop P (.app e size bytes x y) A H) λv H'=>EqB H H'∧k v H')=_;rw[Qr0];rfl
def QIq (P:Program)(o:Op)(A:Env)(H:Qa)(k:Value->Qa->Prop):Prop:=onS (rop P (.gen o) A H) k
theorem QnM (f:FuncId)(l:List Operand):pr P (.gen (.makeFunc (.func f) #[] l.toArray)) false A H k=k (.func (.func f) #[] (l.map (ev A)).toArray) H:=by
 have e:rop P (.gen (.makeFunc (.func f) #[] l.toArray)) A H=some (.func (.func f) #[] (l.map (ev A)).toArray,H):=by simp[rop,aop,Qmy,QdZ]
 refine(W2 _).trans ?_;rw[e,QM]
def QIr (v:Value)(H:Qa)(k:Value->Qa->Prop):Prop:=onS (bif QhF v then some (v,H) else none) k
theorem QHa (x:Operand):pr P (.gen (.nilCheck x)) false A H k=QIr (ev A x) H k:=by
 have e:rop P (.gen (.nilCheck x)) A H=(bif QhF (ev A x) then some (ev A x,H) else none):=by
  simp only[rop,aop,Qek];cases QhF (ev A x)<;>rfl
 refine(W2 _).trans ?_;rw[e];rfl
theorem QDh (a:Addr):QIr (.pointer (some a)) H k=k (.pointer (some a)) H:=QM
theorem QJ7 {x y:Operand}{ts:Array TypeId}{ik:IntKind}{a b:Int}(hx:ev A x=.int ik a)(hy:ev A y=.int ik b):pr P (.gen (.call ⟨.builtin .max,#[x,y],ts⟩)) false A H k=k (.int ik (if b>a then b else a)) H:=by
 have e:rop P (.gen (.call ⟨.builtin .max,#[x,y],ts⟩)) A H=some (.int ik (if b>a then b else a),H):=by simp[rop,aop,Qmz,hx,hy]
 refine(W2 _).trans ?_;rw[e,QM]
theorem Qw3 (ty:TypeId):pr P (.gen (.makeMap ty none)) false A H k=k (.map (some H.next)) (H.push (.map [])):=by
 have e:rop P (.gen (.makeMap ty none)) A H=some (.map (some H.next),H.push (.map [])):=by simp[rop,aop]
 refine(W2 _).trans ?_;rw[e,QM]
def Qvi (n:Int):List (Value×Value)->Nat->Option (Option (Nat×Value))
 | [],_=>some none
 | (.int .i64 a,b)::l,i=>if n=a then some (some (i,b)) else Qvi n l (i+1)
 | _,_=>none
theorem QmF (n:Int):∀ (es:List (Value×Value)) (i:Nat) r,Qvi n es i=some r->QrQ (.int .i64) (.int .i64 n) es i=some r
 | [],i,r,h=>h
 | (a,b)::l,i,r,h=>by
  cases a with
  | int ik z=>
   cases ik with
   | i64=>
    have g:(if n=z then some (some (i,b)) else Qvi n l (i+1))=some r:=h;unfold QrQ;simp only[Qfd,Lq,Instr.sameNow,N3]
    by_cases hn:n=z
    ·rw[Lc hn]at g;subst hn;have hb:(n==n)=true:=by simp
     simp only[hb];exact g
    ·rw[Le hn]at g;have:(n==z)=false:=by simp[hn]
     simp only[this];exact QmF n _ _ r g
   | _=>exact absurd h (by simp[Qvi])
  | _=>exact absurd h (by simp[Qvi])
theorem QnN {ty kt e:TypeId}{x ix y:Operand}{m:Nat}{n:Int}{es:List (Value×Value)}(h1:P.underlying ty=some (.map kt e))(h2:P.underlying kt=some (.int .i64))(hx:ev A x=.map (some m))(hk:ev A ix=.int .i64 n)(hm:H.get m=some (.map es))(hp:Qvi n es 0=some none):
  pr P (.gen (.insert ty x ix y)) false A H k=k undef (H.set m (.map (es++[(.int .i64 n,ev A y)]))):=by
 have hf:=QmF n es 0 _ hp;have e:rop P (.gen (.insert ty x ix y)) A H=some (undef,H.set m (.map (es++[(.int .i64 n,ev A y)]))):=by simp[rop,aop,QrS,h1,QwO,h2,hx,hk,hm,hf,Qfd]
 refine(W2 _).trans ?_;rw[e,QM]
def Qw4 (z:Value):Option (Nat×Value)->Value
 | none=>.tuple #[z,.bool false]
 | some (_,v)=>.tuple #[v,.bool true]
theorem QBQ {ty kt e:TypeId}{inf:TypeInfo}{z:Value}{x ix:Operand}{m:Nat}{n:Int}{es:List (Value×Value)}{r:Option (Nat×Value)}(h1:P.underlying ty=some (.map kt e))(h2:P.underlying kt=some (.int .i64))(h3:P.info? e=some inf)(h4:inf.zero=some z)(hz:ZB z=true)(hx:ev A x=.map (some m))(hk:ev A ix=.int .i64 n)(hm:H.get m=some (.map es))(hp:Qvi n es 0=some r):
  pr P (.gen (.lookup ty x ix true)) false A H k=k (Qw4 z r) H:=by
 have hf:=QmF n es 0 _ hp;have e:rop P (.gen (.lookup ty x ix true)) A H=some (Qw4 z r,H):=by
  cases r<;>simp[Qw4,rop,aop,QnD,h1,QAp,h2,h3,h4,hz,hx,hk,hm,hf,Qfd]
 refine(W2 _).trans ?_;rw[e,QM]
theorem QHb (o:Op):pr P (.gen o) false A H k=QIq P o A H k:=W2 _
end
theorem Qvj {e size bytes m len b o cap:Nat}{news c:List Value}{x:Value}{H:Qa}{ro:Bool}{e':TypeId}(hx:J4 size x H=some (m,news))(h1:news.all (·.oneCell')=true)(hm:m≠0)(hb:H.get b=some (.cells c e' ro))
  (hlen:o+len * size<=c.length) (hsum:(len+m) * bytes<=140737488355328) (hmax:len+m<=9223372036854775807) (hcap:cap<UNK) (hfull:¬len+m<=cap):
  ZF e size bytes (.slice (some ⟨b,o,none⟩) len cap) x H=some (.slice (some ⟨H.next,0,none⟩) (len+m) (UNK+size),H.push (.cells ((c.drop o).take (len * size)++news) e false)):=by
 simp only[ZF,hx,h1,N3,hm,LN,hb];rw[Lc ⟨hlen,hmax,hsum⟩,Le (by omega),Le hfull]
theorem Qw5 {e size bytes m len b o cap:Nat}(h0:o=0){news c:List Value}{x:Value}{H:Qa}(hx:J4 size x H=some (m,news))(h1:news.all (·.oneCell')=true)(hm:m≠0)(hb:H.get b=some (.cells c e false))
  (hlen:o+len * size=c.length) (hsum:(len+m) * bytes<=140737488355328) (hmax:len+m<=9223372036854775807) (hcap:UNK<=cap):
  ZF e size bytes (.slice (some ⟨b,o,none⟩) len cap) x H=some (.slice (some ⟨H.next,0,none⟩) (len+m) (UNK+size),(H.kill b).push (.cells (c.drop o++news) e false)):=by
 simp only[ZF,hx,h1,N3,hm,LN,hb];rw[Lc ⟨by omega,hmax,hsum⟩,Lc hcap,Lc ⟨trivial,trivial,h0,hlen⟩]
theorem Qw6 {e size bytes m:Nat}{news:List Value}{x:Value}{H:Qa}(hx:J4 size x H=some (m,news))(h1:news.all (·.oneCell')=true)(hm:m≠0)(hsum:m * bytes<=140737488355328)(hmax:m<=9223372036854775807):
  ZF e size bytes (.slice none 0 0) x H=some (.slice (some ⟨H.next,0,none⟩) m (UNK+size),H.push (.cells news e false)):=by
 simp only[ZF,hx,h1,N3,hm,LN];rw[Lc ⟨hmax,hsum⟩]
/-! ### QGJ of functions -/
def Ret (H0:Qa)(k:Value->Qa->Prop)(v:Value)(H:Qa):Prop:=∃H2,GE H2 H∧(H.Wf->H2.Wf)∧H0.next<=H2.next∧k v H2
theorem Ret.mk {H0 H:Qa}{k:Value->Qa->Prop}{v:Value}(hn:H0.next<=H.next)(h:k v H):Ret H0 k v H:=⟨H,.refl H,id,hn,h⟩
theorem Qa.Wf.up {H:Qa}(h:H.Wf){m:Nat}(hm:H.next<=m):(H.up m).Wf:=λid hid=>h id (N8 hm hid)
theorem Ret.up {H0 H:Qa}{k:Value->Qa->Prop}{v:Value}(hw:H0.Wf)(hn:H0.next<=H.next)(hg:∀id,id<H0.next->H.get id=H0.get id)(h:k v (H0.up H.next)):Ret H0 k v H:=
 ⟨H0.up H.next,GE.up (Lb _) (λid b hb=>by rw[hg id (hw.lt hb)];exact hb),λ_=>hw.up hn,hn,h⟩
def Rt (P:Program)(fn:Func)(H0:Qa)(k:Value->Qa->Prop):Env->Qa->Prop:=Qvg P fn λv H'=>H0.next<=H'.next∧k v H'
section
variable {P:Program} {fn:Func} {H0:Qa} {k:Value->Qa->Prop} {A:Env} {H:Qa}
theorem QJG (hr:fn.results=#[]):Rt P fn H0 k A H=Ret H0 k (.tuple #[]) H:=by
 simp[Rt,Qvg,Ret,Qmv,hr]
theorem QJH {r:Nat}(hr:fn.results=#[.tmp r])(hn:Nat.blt r fn.ntmps=true):Rt P fn H0 k A H=Ret H0 k (A r) H:=by
 have:r<fn.ntmps:=by simpa using hn
 simp[Rt,Qvg,Ret,Qmv,hr,QcT,this]
theorem QJI {r s:Nat}(hr:fn.results=#[.tmp r,.tmp s])(hn:(Nat.blt r fn.ntmps&&Nat.blt s fn.ntmps)=true):Rt P fn H0 k A H=Ret H0 k (.tuple #[A r,A s]) H:=by
 have:r<fn.ntmps∧s<fn.ntmps:=by simpa using hn
 simp[Rt,Qvg,Ret,Qmv,hr,QcT,this]
def ldR (agg:Bool)(size:Nat)(p:Value)(H:Qa)(k:Value->Prop):Prop:=match p with
 | .pointer (some a)=>(match H.get a.block with
  | some (.cells c _ _)=>bif agg then(a.off+size<=c.length∧k (.agg ((c.drop a.off).take size).toArray)) else ∃v,c[a.off]? = some v∧k v
  | _=>False)
 | _=>False
def QHc (agg:Bool)(size off:Nat)(b:Option Blk)(k:Value->Prop):Prop:=match b with
 | some (.cells c _ _)=>bif agg then(off+size<=c.length∧k (.agg ((c.drop off).take size).toArray)) else ∃v,c[off]? = some v∧k v
 | _=>False
theorem QE9 (agg:Bool)(size b o:Nat)(k:Value->Prop):ldR agg size (.pointer (some ⟨b,o,none⟩)) H k=QHc agg size o (H.get b) k:=Nu rfl rfl
theorem QDi (size o:Nat)(k:Value->Prop)(c:List Value)(e:TypeId)(ro:Bool):QHc true size o (some (.cells c e ro)) k=(o+size<=c.length∧k (.agg ((c.drop o).take size).toArray)):=Nu rfl rfl
theorem QBR (size o:Nat)(k:Value->Prop)(c:List Value)(e:TypeId)(ro:Bool):QHc false size o (some (.cells c e ro)) k=∃v,c[o]? = some v∧k v:=Nu rfl rfl
def Qzc (P:Program)(ty:TypeId)(p:Value)(H:Qa):Option Value:=match p with | .pointer (some ad)=>ZC P ty ad H | _=>none
theorem Qr4 (n a:Nat)(ty:TypeId):QcT P n A H (.cell a ty)=if a<n then Qzc P ty (A a) H else none:=Nu rfl rfl
theorem Qur {ty:TypeId}{d:TypeDesc}{inf:TypeInfo}{p:Value}{q:Value->Prop}(hd:P.underlying ty=some d)(hi:P.info? ty=some inf):
  (∃v,Qzc P ty p H=some v∧q v)↔ldR (GG d) inf.size p H q:=by
 unfold ldR Qzc;split
 ·rename_i a;have e:ZC P ty a H=match H.get a.block with
   | some (.cells c _ _)=>if GG d then(if a.off+inf.size<=c.length then some (.agg ((c.drop a.off).take inf.size).toArray) else none) else c[a.off]?
   | _=>none:=by
   simp only[ZC,hd,hi];cases H.get a.block with
   | none=>rfl
   | some b=>cases b<;>rfl
  rw[e];cases hg:H.get a.block with
  | none=>simp
  | some b=>
   cases b with
   | cells c e ro=>
    cases hag:GG d with
    | true=>by_cases hle:a.off+inf.size<=c.length<;>simp[hle]
    | false=>simp
   | map es=>simp
   | iter s pos=>simp
   | miter a b c d=>simp
   | loop A n ps as bd st=>simp
 ·simp
def Qus (P:Program)(ty:TypeId)(agg:Bool)(size:Nat):Bool:=match P.underlying ty,P.info? ty with
 | some d,some inf=>(GG d==agg)&&Nat.beq inf.size size
 | _,_=>false
theorem Qr5 {ty:TypeId}{agg:Bool}{size:Nat}(h:Qus P ty agg size=true):∃d inf,P.underlying ty=some d∧P.info? ty=some inf∧GG d=agg∧inf.size=size:=by
 unfold Qus at h;split at h
 ·rename_i d inf hd hi;simp only[Lm,L0,Kh,Lv]at h;exact⟨d,inf,hd,hi,h.1,h.2⟩
 ·cases h
theorem QJJ {a ty size:Nat}{agg:Bool}(hr:fn.results=#[.cell a ty])(hn:Nat.blt a fn.ntmps=true)(ht:Qus P ty agg size=true):Rt P fn H0 k A H=ldR agg size (A a) H λv=>Ret H0 k v H:=by
 have hn:a<fn.ntmps:=by simpa using hn
 obtain⟨d,inf,hd,hi,rfl,rfl⟩:=Qr5 ht;apply propext;rw[<- Qur hd hi];simp only[Rt,Qvg,Ret,Qmv,hr,Qr4,hn,N3]
theorem QIs {a ty size:Nat}{agg:Bool}{r:Nat}(hr:fn.results=#[.cell a ty,.tmp r])(hn:(Nat.blt a fn.ntmps&&Nat.blt r fn.ntmps)=true)(ht:Qus P ty agg size=true):Rt P fn H0 k A H=ldR agg size (A a) H λv=>Ret H0 k (.tuple #[v,A r]) H:=by
 have hn:a<fn.ntmps∧r<fn.ntmps:=by simpa using hn
 obtain⟨d,inf,hd,hi,rfl,rfl⟩:=Qr5 ht;apply propext;rw[<- Qur hd hi];have e1:QcT P fn.ntmps A H (.tmp r)=some (A r):=by simp[QcT,hn.2]
 simp only[Rt,Qvg,Ret,Qmv,hr,Qr4,e1,hn.1,N3,Ra,FO,Rx,BV,R8];constructor
 ·rintro⟨v,hv,h⟩;simp only[Lx,BY,Lt]at hv;obtain⟨l,⟨w,hw,rfl⟩,rfl⟩:=hv;exact⟨w,hw,h⟩
 ·rintro⟨v,hv,h⟩;refine⟨_,?_,h⟩;simp[hv]
end
theorem QhR {P:Program}{f:FuncId}{fn:Func}{pc:PC}{args:List Value}{H:Qa}{k:Value->Qa->Prop}{A:Env}(hf:P.funcs[f]? = some fn)(hc:fn.body.bind (comp P fn.ntmps)=some pc)(he:entered P f=true)(hl:Nat.ble args.length fn.ntmps=true)(hA:QdH args=A)
  (h:H.Wf->Qm P pc ⟨Rt P fn H k,WJ⟩ (Rt P fn H k) A H):Qe P f args H k:=QrY hf hc he (by simpa using hl) (by rw[hA];exact h)
theorem Qr6 (l:List Value):(Value.agg l.toArray).cells.toList=l:=Nu rfl rfl
theorem QmG (ik:IntKind)(n:Int):(Value.int ik n).cells.toList=[.int ik n]:=Nu rfl rfl
theorem Qqr (b:Bool):(Value.bool b).cells.toList=[.bool b]:=Nu rfl rfl
theorem QnO (a:Option Addr)(l c:Nat):(Value.slice a l c).cells.toList=[.slice a l c]:=Nu rfl rfl
theorem QnP (ty:TypeId)(v:Value):(Value.iface ty v).cells.toList=[.iface ty v]:=Nu rfl rfl
theorem Qqs (ik:IntKind)(n:Int):(Value.int ik n).oneCell'=true:=Nu rfl rfl
theorem QnQ (b:Bool):(Value.bool b).oneCell'=true:=Nu rfl rfl
theorem QlY (a:Option Addr)(l c:Nat):(Value.slice a l c).oneCell'=true:=Nu rfl rfl
theorem QlZ (ty:TypeId)(v:Value):(Value.iface ty v).oneCell'=true:=Nu rfl rfl
section
variable {P:Program}
theorem Qp {b:Bool}{r:R}{s:Bool}{l:List PO}{k:Env->Qa->Prop}{A:Env}{d:Option Nat}{H:Qa}(h1:b=true->gB true P r s l k A d H)(h2:b=false->gB false P r s l k A d H):gB b P r s l k A d H:=by
 cases b
 ·exact h2 rfl
 ·exact h1 rfl
theorem Qf {b:Bool}{x y:PC}{ks:Kp}{k:Env->Qa->Prop}{A:Env}{H:Qa}(h1:b=true->cB true P x y ks k A H)(h2:b=false->cB false P x y ks k A H):cB b P x y ks k A H:=by
 cases b
 ·exact h2 rfl
 ·exact h1 rfl
end
/-! ### Loops -/
section
variable {P:Program}
def Qqt (I:Nat->Env->Qa->Prop)(m:Nat)(A:Env)(H:Qa):Prop:=∃m',m'<m∧I m' A H
theorem Qo {b:PC}{ks:Kp}{k:Env->Qa->Prop}{A:Env}{H:Qa}(I:Nat->Env->Qa->Prop)(m:Nat)(h0:I m A H)(h:∀m A' H',I m A' H'->Qm P b ks (Qqt I m) A' H'):Qm P (.loop b) ks k A H:=
 ⟨I,⟨m,h0⟩,h⟩
/-! Loops over functions. -/
def YR (P:Program)(L:Option Code->Blk)(ps:List Nat)(a b:PC)(A:Env):Prop:=∀ (l:Nat) (args:List Value) (H0:Qa) (Q:Value->Qa->Prop),H0.get l=some (L none)->args.length=ps.length->Qm P a QAw (λA1 H1=>Qm P b (QIi L l H0.next Q) (QGN L l H0.next Q) A1 H1) (Qqf A ps args) (H0.kill l)->YQ P l args H0 Q
def rgK (v:Value)(P:Program)(ps:List Nat)(a b:PC)(ks:Kp)(k:Env->Qa->Prop)(A:Env)(H:Qa):Prop:=match v with
 | .func (.func f) xs ys=>∀L:Option Code->Blk,YR P L ps a b A->entered P f=true∧Qe P f (xs.toList++[.func (.yield H.next) #[] #[]]++ys.toList) (H.push (L none)) λ_ H2=>∃st,H2.get H.next=some (L st)∧QCO st ks k A (H2.kill H.next)
 | _=>False
theorem QhS (g:Operand)(ps:List Nat)(a b:PC)(ks:Kp)(k:Env->Qa->Prop)(A:Env)(H:Qa):Qm P (.rangeF g ps a b) ks k A H=rgK (ev A g) P ps a b ks k A H:=by
 show(match ev A g with | .func (.func f) xs ys=>_ | _=>False)=_;unfold rgK;split<;>rfl
theorem Qr7 (f:FuncId)(xs ys:List Value)(ps:List Nat)(a b:PC)(ks:Kp)(k:Env->Qa->Prop)(A:Env)(H:Qa):rgK (.func (.func f) xs.toArray ys.toArray) P ps a b ks k A H=∀L:Option Code->Blk,YR P L ps a b A->entered P f=true∧Qe P f (xs++[.func (.yield H.next) #[] #[]]++ys) (H.push (L none)) λ_ H2=>∃st,H2.get H.next=some (L st)∧QCO st ks k A (H2.kill H.next):=Nu rfl rfl
theorem Qpo (ks:Kp)(k:Env->Qa->Prop)(A:Env)(H:Qa):QCO none ks k A H=k A H:=Nu rfl rfl
theorem QmH (L:Option Code->Blk)(l nx:Nat)(Q:Value->Qa->Prop)(A:Env)(H:Qa):QGN L l nx Q A H=(nx<=H.next∧Q (.bool true) (H.set l (L none))):=Nu rfl rfl
theorem Qpp (A:Env)(l:List Value):Qqf A [] l=A:=Nu rfl rfl
theorem QmI (A:Env)(p:Nat)(ps:List Nat)(v:Value)(l:List Value):Qqf A (p::ps) (v::l)=Qqf (upd A p v) ps l:=Nu rfl rfl
structure Ext (H H':Qa):Prop where
 next:H.next<=H'.next
 get:∀id,id<H.next->H'.get id=H.get id
theorem Ext.eqB {H H':Qa}(h:Ext H H'):EqB H H':=λid hid=>h.get id hid
theorem Ext.refl (H:Qa):Ext H H:=⟨Lb _,λ_ _=>Nu rfl rfl⟩
theorem Ext.trans {a b c:Qa}(h:Ext a b)(h':Ext b c):Ext a c:=⟨N8 h.next h'.next,λid hid=>by rw[h'.get id (N5 hid h.next),h.get id hid]⟩
theorem Ext.push {H H':Qa}(h:Ext H H')(b:Blk):Ext H (H'.push b):=⟨N8 h.next (by simp),λid hid=>by
 have:=h.next;rw[Qd,Le (by omega)];exact h.get id hid⟩
theorem Ext.up {H H':Qa}(h:Ext H H'){m:Nat}(hm:H'.next<=m):Ext H (H'.up m):=⟨N8 h.next hm,λid hid=>by rw[Y0];exact h.get id hid⟩
theorem Ext.set {H H':Qa}(h:Ext H H'){i:Nat}(hi:H.next<=i)(b:Blk):Ext H (H'.set i b):=⟨h.next,λid hid=>by
 rw[Qq,Le (by omega)];exact h.get id hid⟩
theorem Ext.kill {H H':Qa}(h:Ext H H'){i:Nat}(hi:H.next<=i):Ext H (H'.kill i):=⟨h.next,λid hid=>by
 rw[WS,Le (by omega)];exact h.get id hid⟩
theorem Ret.ext {H0 H:Qa}{k:Value->Qa->Prop}{v:Value}(hw:H0.Wf)(he:Ext H0 H)(h:k v (H0.up H.next)):Ret H0 k v H:=.up hw he.next he.get h
end
/-! ### Appending -/
theorem JI {size m b o cap:Nat}{c:List Value}{e:TypeId}{ro:Bool}{H:Qa}(hb:H.get b=some (.cells c e ro))(hm:m≠0)(hc:o+m * size<=c.length):J4 size (.slice (some ⟨b,o,none⟩) m cap) H=some (m,(c.drop o).take (m * size)):=by
 simp only[J4,hm,LN,hb];rw[Lc hc]
theorem QnR {b cap:Nat}{v:Value}{e:TypeId}{ro:Bool}{H:Qa}(hb:H.get b=some (.cells [v] e ro)):J4 1 (.slice (some ⟨b,0,none⟩) 1 cap) H=some (1,[v]):=JI hb (by decide) (by simp)
theorem QnS {e size bytes m len b o cap:Nat}(h0:o=0){news c:List Value}{x:Value}{H:Qa}{k:Value->Qa->Prop}(hx:J4 size x H=some (m,news))(h1:news.all (·.oneCell')=true)(hm:m≠0)(hb:H.get b=some (.cells c e false))
  (hlen:o+len * size=c.length) (hsum:(len+m) * bytes<=140737488355328) (hmax:len+m<=9223372036854775807) (hcap:UNK<=cap)
  (h:k (.slice (some ⟨H.next,0,none⟩) (len+m) (UNK+size)) ((H.kill b).push (.cells (c.drop o++news) e false))):Qdr e size bytes (.slice (some ⟨b,o,none⟩) len cap) x H k:=by
 unfold Qdr;rw[Qw5 h0 hx h1 hm hb hlen hsum hmax hcap,QM];exact h
theorem Qlo {e size bytes m len b o cap:Nat}{news c:List Value}{x:Value}{H:Qa}{ro:Bool}{e':TypeId}{k:Value->Qa->Prop}(hx:J4 size x H=some (m,news))(h1:news.all (·.oneCell')=true)(hm:m≠0)(hb:H.get b=some (.cells c e' ro))
  (hlen:o+len * size<=c.length) (hsum:(len+m) * bytes<=140737488355328) (hmax:len+m<=9223372036854775807) (hcap:cap<UNK) (hfull:¬len+m<=cap)
  (h:k (.slice (some ⟨H.next,0,none⟩) (len+m) (UNK+size)) (H.push (.cells ((c.drop o).take (len * size)++news) e false))):Qdr e size bytes (.slice (some ⟨b,o,none⟩) len cap) x H k:=by
 unfold Qdr;rw[Qvj hx h1 hm hb hlen hsum hmax hcap hfull,QM];exact h
theorem QnT {e size bytes m:Nat}{news:List Value}{x:Value}{H:Qa}{k:Value->Qa->Prop}(hx:J4 size x H=some (m,news))(h1:news.all (·.oneCell')=true)(hm:m≠0)(hsum:m * bytes<=140737488355328)(hmax:m<=9223372036854775807)
  (h:k (.slice (some ⟨H.next,0,none⟩) m (UNK+size)) (H.push (.cells news e false))):Qdr e size bytes (.slice none 0 0) x H k:=by
 unfold Qdr;rw[Qw6 hx h1 hm hsum hmax,QM];exact h
theorem Qe.thenW {P:Program}{f:FuncId}{args:List Value}{H:Qa}{k k':Value->Qa->Prop}(h:Qe P f args H k)(hk:∀v H',H.next<=H'.next->H'.Wf->k v H'->k' v H'):Qe P f args H k':=by
 intro hw;obtain⟨v,H',h1,h2,h3,h4⟩:=h hw;exact⟨v,H',h1,h2,h3,hk v H' h2 h3 h4⟩
theorem Qqu {H:Qa}{b:Blk}{m:Nat}(h:m=H.next):(H.push b).get m=some b:=by rw[Qd,Lc h]
theorem Qqv {H:Qa}{b:Blk}{m:Nat}(h:¬m=H.next):(H.push b).get m=H.get m:=by rw[Qd,Le h]
theorem Qzd {H:Qa}{b:Blk}{i m:Nat}(h:m=i):(H.set i b).get m=some b:=by rw[Qq,Lc h]
theorem Qze {H:Qa}{b:Blk}{i m:Nat}(h:¬m=i):(H.set i b).get m=H.get m:=by rw[Qq,Le h]
/-! ### Rules, together -/
theorem QHd (l:List UInt8):ByteArray.mk (Array.mk l)=mkS l:=Nu rfl rfl
abbrev sxA:=And.intro @QHd (And.intro @QhQ (And.intro @Qqq (And.intro @Qy3 (And.intro @QBD (And.intro @Qy2 (And.intro @Quo (And.intro @V1 (And.intro @Qfi (And.intro @QGU (And.intro @QGV (And.intro @QCW (And.intro @QBE (And.intro @KE (And.intro @Qfj (And.intro @QnK (And.intro @Qem (And.intro @J6 (And.intro @Zb (And.intro @Qy1 (And.intro @Yk (And.intro @JH (And.intro @QED (And.intro @QCV (And.intro @QEC (And.intro @QCU (And.intro @bt (And.intro @bf (And.intro @J5 (And.intro @VG (And.intro @YJ (And.intro @Qgy (And.intro @QqW (And.intro @QwX (And.intro @QBC (And.intro @QEB (And.intro @Qj4 (And.intro @Qlm (And.intro @Qcw (And.intro @QGW (And.intro @QEG (And.intro @QEH (And.intro @QEI (And.intro @QEJ (And.intro @QGX (And.intro @QEK (And.intro @Qy6 (And.intro @QEL (And.intro @QEM (And.intro @QEN (And.intro @QEO (And.intro @QEP (And.intro @QEQ (And.intro @QER (And.intro @QES (And.intro @QET (And.intro @QEU (And.intro @QEV (And.intro @QEW (And.intro @QC1 (And.intro @QGZ (And.intro @QEX (And.intro @QEY (And.intro @QG0 (And.intro @QG1 (And.intro @QBK (And.intro @QC3 (And.intro @Qy7 (And.intro @QE0 (And.intro @QG3 (And.intro @QBL (And.intro @QC4 (And.intro @Qrt (And.intro @Qln (And.intro @QE1 (And.intro @Qy8 (And.intro @QG4 (And.intro @QC5 (And.intro @QC6 (And.intro @QC7 (And.intro @QC8 (And.intro @QG5 (And.intro @QDa (And.intro @Qw0 (And.intro @QBM (And.intro @Qup (And.intro @QnL (And.intro @QBN (And.intro @QDb (And.intro @QDc (And.intro @QG6 (And.intro @QE3 (And.intro @QBO (And.intro @QG7 (And.intro @QDd (And.intro @Qy9 (And.intro @Qza (And.intro @QGq (And.intro @QDe (And.intro @QAB (And.intro @Qw2 (And.intro @QAC (And.intro @QAD (And.intro @QG9 (And.intro @Quq (And.intro @QE4 (And.intro @QDf (And.intro @Qzb (And.intro @Qvh (And.intro @Qr3 (And.intro @QmE (And.intro @QE6 (And.intro @Wj (And.intro @QE7 (And.intro @QBP (And.intro @QDg (And.intro @QEF (And.intro @QC0 (And.intro @Qy4 (And.intro @QCZ (And.intro @QHa (And.intro @QDh (And.intro @Qw3 (And.intro @QnM (And.intro @QBH (And.intro @QCX (And.intro @QBI (And.intro @QCY (And.intro @Qy5 (And.intro @QBF (And.intro @QBG (And.intro @QE9 (And.intro @QDi @QBR))))))))))))))))))))))))))))))))))))))))))))))))))))))))))))))))))))))))))))))))))))))))))))))))))))))))))))))))))))))))))))))))))))
abbrev mxA:=And.intro @Qr6 (And.intro @QmG (And.intro @Qqr (And.intro @QnO (And.intro @QnP (And.intro @Qqs (And.intro @QnQ (And.intro @QlY (And.intro @QlZ (And.intro @Qr1 (And.intro @Qr2 (And.intro @Qd (And.intro @Qc (And.intro @Qq (And.intro @Qt (And.intro @Y0 (And.intro @Ql (And.intro @LP (And.intro @N9 (And.intro @Bz (And.intro @Hr (And.intro @Dd (And.intro @De (And.intro @Nat.succ_ne_self (And.intro @Bj (And.intro @NH (And.intro @BH (@Fx)))))))))))))))))))))))))))
abbrev mxD:=And.intro @Qr6 (And.intro @QmG (And.intro @Qqr (And.intro @QnO (And.intro @QnP (And.intro @Qqs (And.intro @QnQ (And.intro @QlY (And.intro @QlZ (And.intro @Qr1 (And.intro @Qr2 (And.intro @Qc (And.intro @Qt (And.intro @Y0 (And.intro @Ql (And.intro @LP (And.intro @N9 (And.intro @Bz (And.intro @Hr (And.intro @Dd (And.intro @De (And.intro @Nat.succ_ne_self (And.intro @Bj (And.intro @NH (And.intro @BH (And.intro @Fx (And.intro @Qqu (And.intro @Qqv (And.intro @Qzd (@Qze)))))))))))))))))))))))))))))
abbrev uxA:=And.intro @J5 (And.intro @VG (And.intro @YJ (And.intro @Qgy (And.intro @QqW (@QwX)))))
abbrev sxB:=And.intro @NZ.{0,0} (And.intro @Bq.{0,0} (And.intro @Da.{1} (And.intro not_false_eq_true (And.intro BE (And.intro @Lq.{1} (And.intro @Ls.{1} (And.intro L8 (And.intro LM @Bool.not_not))))))))
abbrev uxB:=And.intro @Lq.{1} @Ls.{1}
abbrev mxB:=And.intro @N3.{1} (And.intro @LN.{1} (And.intro @Bg.{0} (And.intro @Bp.{0} (And.intro @Lt.{0} (And.intro @Dg.{1} (And.intro @BN.{1} (And.intro @Lo.{0} (And.intro @L9.{0} (And.intro @Bv.{0} (And.intro @BI.{0} (And.intro @Lw.{0} (And.intro @List.drop_succ_cons.{0} (And.intro @List.take_succ_cons.{0} (And.intro @Rb.{0} (And.intro @Nm.{0} (And.intro @LH.{0} (And.intro @Na.{0} (And.intro @List.take_nil.{0} @List.drop_nil.{0}))))))))))))))))))
theorem Qpq (c:List Value)(p:Nat)(vs:List Value):splice c p vs=c.take p++(vs++c.drop (p+vs.length)):=rfl
abbrev hnP:=And.intro @Qc (And.intro @Qt @Ql)
abbrev Qb:=And.intro sxA (And.intro sxB (And.intro mxA (And.intro mxB @Qpq)))
abbrev Qk:=And.intro sxA (And.intro sxB (And.intro mxD (And.intro mxB @Qpq)))
abbrev KG:=And.intro sxA sxB
abbrev Qr8:=And.intro mxD (And.intro mxB @Qpq)
abbrev Qg:=And.intro uxA uxB
/-! ### The code's text, short -/
abbrev Ow (d:Nat)(r:R):PO:=⟨some d,r,none,false⟩
abbrev Om (d:Nat)(x:Operand):PO:=⟨some d,.mv x,none,false⟩
abbrev Ov (r:R):PO:=⟨none,r,none,false⟩
abbrev Og (d:Nat)(r:R)(a:Nat)(b:Bool):PO:=⟨some d,r,some (a,b),false⟩
abbrev Ci (n:Int):Operand:=.const (.int .i64 n)
abbrev In0 (P:Program)(f:FuncId)(fn:Func)(pc:PC):Prop:=∀ {H:Qa} {k:Value->Qa->Prop},(H.Wf->Qm P pc ⟨Rt P fn H k,WJ⟩ (Rt P fn H k) (U) H)->Qe P f [] H k
theorem in0 {P:Program}{f:FuncId}{fn:Func}{pc:PC}(hf:P.funcs[f]? = some fn)(hc:fn.body.bind (comp P fn.ntmps)=some pc)(he:entered P f=true)(hl:Nat.ble 0 fn.ntmps=true):In0 P f fn pc:=λh=>QhR hf hc he hl QJz h
abbrev In1 (P:Program)(f:FuncId)(fn:Func)(pc:PC):Prop:=∀ {a0:Value} {H:Qa} {k:Value->Qa->Prop},(H.Wf->Qm P pc ⟨Rt P fn H k,WJ⟩ (Rt P fn H k) (upd U 0 a0) H)->Qe P f [a0] H k
theorem in1 {P:Program}{f:FuncId}{fn:Func}{pc:PC}(hf:P.funcs[f]? = some fn)(hc:fn.body.bind (comp P fn.ntmps)=some pc)(he:entered P f=true)(hl:Nat.ble 1 fn.ntmps=true):In1 P f fn pc:=λh=>QhR hf hc he hl (QJA _) h
abbrev In2 (P:Program)(f:FuncId)(fn:Func)(pc:PC):Prop:=∀ {a0 a1:Value} {H:Qa} {k:Value->Qa->Prop},(H.Wf->Qm P pc ⟨Rt P fn H k,WJ⟩ (Rt P fn H k) (upd (upd U 0 a0) 1 a1) H)->Qe P f [a0,a1] H k
theorem in2 {P:Program}{f:FuncId}{fn:Func}{pc:PC}(hf:P.funcs[f]? = some fn)(hc:fn.body.bind (comp P fn.ntmps)=some pc)(he:entered P f=true)(hl:Nat.ble 2 fn.ntmps=true):In2 P f fn pc:=λh=>QhR hf hc he hl (QJB _ _) h
abbrev In3 (P:Program)(f:FuncId)(fn:Func)(pc:PC):Prop:=∀ {a0 a1 a2:Value} {H:Qa} {k:Value->Qa->Prop},(H.Wf->Qm P pc ⟨Rt P fn H k,WJ⟩ (Rt P fn H k) (upd (upd (upd U 0 a0) 1 a1) 2 a2) H)->Qe P f [a0,a1,a2] H k
theorem in3 {P:Program}{f:FuncId}{fn:Func}{pc:PC}(hf:P.funcs[f]? = some fn)(hc:fn.body.bind (comp P fn.ntmps)=some pc)(he:entered P f=true)(hl:Nat.ble 3 fn.ntmps=true):In3 P f fn pc:=λh=>QhR hf hc he hl (QJC _ _ _) h
abbrev In4 (P:Program)(f:FuncId)(fn:Func)(pc:PC):Prop:=∀ {a0 a1 a2 a3:Value} {H:Qa} {k:Value->Qa->Prop},(H.Wf->Qm P pc ⟨Rt P fn H k,WJ⟩ (Rt P fn H k) (upd (upd (upd (upd U 0 a0) 1 a1) 2 a2) 3 a3) H)->Qe P f [a0,a1,a2,a3] H k
theorem in4 {P:Program}{f:FuncId}{fn:Func}{pc:PC}(hf:P.funcs[f]? = some fn)(hc:fn.body.bind (comp P fn.ntmps)=some pc)(he:entered P f=true)(hl:Nat.ble 4 fn.ntmps=true):In4 P f fn pc:=λh=>QhR hf hc he hl (QJD _ _ _ _) h
abbrev In5 (P:Program)(f:FuncId)(fn:Func)(pc:PC):Prop:=∀ {a0 a1 a2 a3 a4:Value} {H:Qa} {k:Value->Qa->Prop},(H.Wf->Qm P pc ⟨Rt P fn H k,WJ⟩ (Rt P fn H k) (upd (upd (upd (upd (upd U 0 a0) 1 a1) 2 a2) 3 a3) 4 a4) H)->Qe P f [a0,a1,a2,a3,a4] H k
theorem in5 {P:Program}{f:FuncId}{fn:Func}{pc:PC}(hf:P.funcs[f]? = some fn)(hc:fn.body.bind (comp P fn.ntmps)=some pc)(he:entered P f=true)(hl:Nat.ble 5 fn.ntmps=true):In5 P f fn pc:=λh=>QhR hf hc he hl (QJE _ _ _ _ _) h
abbrev In7 (P:Program)(f:FuncId)(fn:Func)(pc:PC):Prop:=∀ {a0 a1 a2 a3 a4 a5 a6:Value} {H:Qa} {k:Value->Qa->Prop},(H.Wf->Qm P pc ⟨Rt P fn H k,WJ⟩ (Rt P fn H k) (upd (upd (upd (upd (upd (upd (upd U 0 a0) 1 a1) 2 a2) 3 a3) 4 a4) 5 a5) 6 a6) H)->Qe P f [a0,a1,a2,a3,a4,a5,a6] H k
theorem in7 {P:Program}{f:FuncId}{fn:Func}{pc:PC}(hf:P.funcs[f]? = some fn)(hc:fn.body.bind (comp P fn.ntmps)=some pc)(he:entered P f=true)(hl:Nat.ble 7 fn.ntmps=true):In7 P f fn pc:=λh=>QhR hf hc he hl (QJF _ _ _ _ _ _ _) h
/-! #### Still shorter -/
theorem jn0 {P:Program}{f:FuncId}{fn:Func}{pc:PC}(hf:P.funcs[f]? = some fn)(h:(fn.body.bind (comp P fn.ntmps),entered P f,Nat.ble 0 fn.ntmps)=(some pc,true,true)):In0 P f fn pc:=in0 hf (congrArg (·.1) h) (congrArg (·.2.1) h) (congrArg (·.2.2) h)
theorem jn1 {P:Program}{f:FuncId}{fn:Func}{pc:PC}(hf:P.funcs[f]? = some fn)(h:(fn.body.bind (comp P fn.ntmps),entered P f,Nat.ble 1 fn.ntmps)=(some pc,true,true)):In1 P f fn pc:=in1 hf (congrArg (·.1) h) (congrArg (·.2.1) h) (congrArg (·.2.2) h)
theorem jn2 {P:Program}{f:FuncId}{fn:Func}{pc:PC}(hf:P.funcs[f]? = some fn)(h:(fn.body.bind (comp P fn.ntmps),entered P f,Nat.ble 2 fn.ntmps)=(some pc,true,true)):In2 P f fn pc:=in2 hf (congrArg (·.1) h) (congrArg (·.2.1) h) (congrArg (·.2.2) h)
theorem jn3 {P:Program}{f:FuncId}{fn:Func}{pc:PC}(hf:P.funcs[f]? = some fn)(h:(fn.body.bind (comp P fn.ntmps),entered P f,Nat.ble 3 fn.ntmps)=(some pc,true,true)):In3 P f fn pc:=in3 hf (congrArg (·.1) h) (congrArg (·.2.1) h) (congrArg (·.2.2) h)
theorem jn4 {P:Program}{f:FuncId}{fn:Func}{pc:PC}(hf:P.funcs[f]? = some fn)(h:(fn.body.bind (comp P fn.ntmps),entered P f,Nat.ble 4 fn.ntmps)=(some pc,true,true)):In4 P f fn pc:=in4 hf (congrArg (·.1) h) (congrArg (·.2.1) h) (congrArg (·.2.2) h)
theorem jn5 {P:Program}{f:FuncId}{fn:Func}{pc:PC}(hf:P.funcs[f]? = some fn)(h:(fn.body.bind (comp P fn.ntmps),entered P f,Nat.ble 5 fn.ntmps)=(some pc,true,true)):In5 P f fn pc:=in5 hf (congrArg (·.1) h) (congrArg (·.2.1) h) (congrArg (·.2.2) h)
/-! ### Functions' codes, short -/
/-! ### Rules and rewriting steps, short -/
theorem nD {α:Type}(l:List α):l.drop 0=l:=Lw
theorem nB (a:Int):(a==a)=true:=LO a
theorem nC {α:Type}(a:α)(l m:List α):(a::l)++m=a::(l++m):=Nm
/-! ### Macros -/
variable {A B C D E F G I J K L M N O R S T U V W X Y P Q:Prop}
def cMo (P:Program)(ops:Array Oper)(fl:Nat->Bool):List Oper->Nat->List PO
 | [],_=>[]
 | o::l,i=>⟨o.dst,Qj0 P ops (fl i) i o,(match o.guard with | none=>none | some (j,w)=>match Qcp ops j with | some t=>some (t,w) | none=>none),fl i⟩::cMo P ops fl l (i+1)
def ixs (p:Oper->Bool):List Oper->Nat->List Nat
 | [],_=>[]
 | o::l,i=>bif p o then i::ixs p l (i+1) else ixs p l (i+1)
def flF (ms S L A:List Nat)(k:Nat):Bool:=(S.elem k&&(L.any (λi=>Qgx ms i k)||A.any λi=>Nat.blt i k&&!(QK ms i k)))||(L.elem k&&S.any λi=>Qgx ms i k)
def flG (ops:List Oper):Nat->Bool:=flF (QV ops []) (ixs QEs ops 0) (ixs QrT ops 0) (ixs Qu7 ops 0)
def cM (P:Program):Code->PC
 | .skip=>.skip
 | .label l=>.label l
 | .ret=>.ret
 | .exit id=>.exit id
 | .goto l=>.goto l
 | .region _ ops d=>.ops (cMo P ops (bif d then flG ops.toList else λ_=>false) ops.toList 0)
 | .seq a b=>sq (cM P a) (cM P b)
 | .cond c a b=>.cond c (cM P a) (cM P b)
 | .block id b=>.block id (cM P b)
 | .loop b=>.loop (cM P b)
 | .scope b=>Qrr (cM P b)
 | .rangeFunc g ps a b=>.rangeF g ps.toList (cM P a) (cM P b)
 | _=>.bad
def cF (P:Program)(F:Func):PC:=cM P (F.body.getD .ret)
def szP:PC->Nat
 | .scope b _ r=>szP b+szP r
 | .ops l=>1+l.length / 3
 | .seq a b=>szP a+szP b
 | .cond _ a b=>1+szP a+szP b
 | .block _ b=>szP b
 | .loop b=>1+szP b
 | .rangeF _ _ a b=>1+szP a+szP b
 | _=>0
def isO:PC->Bool
 | .ops _=>true
 | _=>false
def cN (N:Nat->PC)(j:Nat)(r:PC×List PC×Nat):PC×List PC×Nat:=(N j,r.1::r.2.1,j+1)
def cu (N:Nat->PC):PC->List PC->Nat->PC×List PC×Nat
 | .seq a b,l,j=>(λq=>(λp=>(.seq p.1 q.1,p.2)) (cu N a q.2.1 q.2.2)) (bif Nat.ble 5 (szP b)&&!isO a then cN N j (cu N b l 0) else cu N b l j)
 | .cond t a b,l,j=>(λp=>(λq=>(.cond t p.1 q.1,q.2)) (bif Nat.ble 5 (szP b) then cN N p.2.2 (cu N b p.2.1 0) else cu N b p.2.1 p.2.2)) (bif Nat.ble 5 (szP a) then cN N j (cu N a l 0) else cu N a l j)
 | .block i b,l,j=>(λq=>(.block i q.1,q.2)) (cu N b l j)
 | .loop b,l,j=>(λq=>(.loop q.1,q.2)) (cN N j (cu N b l 0))
 | .rangeF g ps a b,l,j=>(λq=>(.rangeF g ps a q.1,q.2)) (cN N j (cu N b l 0))
 | .scope b n r,l,j=>(λp=>(λq=>(.scope q.1 n p.1,q.2)) (cN N p.2.2 (cu N b p.2.1 0))) (cN N j (cu N r l 0))
 | c,l,j=>(c,l,j)
def cL (P:Program)(F:Func)(N:Nat->PC):List PC:=(λr=>r.1::r.2.1) (cu N (cF P F) [] 0)
def cA (i:Nat)(l:(Nat->PC)->List PC)(N:Nat->PC):PC:=match (l N)[i]? with | some c=>c | none=>.bad
abbrev e0 (a:PC){x:PC}(h:a=x):PC:=x
abbrev eL (g:(Nat->PC)->List PC){x:(Nat->PC)->List PC}(h:∀N,g N=x N):(Nat->PC)->List PC:=x
abbrev e1 (i:Nat)(l:(Nat->PC)->List PC){x:PC->PC}(h:∀a,cA i l (λ_=>a)=x a):PC->PC:=x
abbrev e2 (i:Nat)(l:(Nat->PC)->List PC){x:PC->PC->PC}(h:∀a b,cA i l (λn=>bif Nat.beq n 0 then a else b)=x a b):PC->PC->PC:=x
abbrev e3 (i:Nat)(l:(Nat->PC)->List PC){x:PC->PC->PC->PC}(h:∀a b c,cA i l (λn=>bif Nat.beq n 0 then a else bif Nat.beq n 1 then b else c)=x a b c):PC->PC->PC->PC:=x
abbrev e4 (i:Nat)(l:(Nat->PC)->List PC){x:PC->PC->PC->PC->PC}(h:∀a b c d,cA i l (λn=>bif Nat.beq n 0 then a else bif Nat.beq n 1 then b else bif Nat.beq n 2 then c else d)=x a b c d):PC->PC->PC->PC->PC:=x
section
variable (P:Program) (fn:Func)
theorem rs0 (hr:fn.results=#[])(H0 H:Qa)(k:Value->Qa->Prop)(A:Env):Rt P fn H0 k A H=Ret H0 k (.tuple #[]) H:=QJG hr
theorem rs1 (r:Nat)(hr:fn.results=#[.tmp r])(hn:Nat.blt r fn.ntmps=true)(H0 H:Qa)(k:Value->Qa->Prop)(A:Env):Rt P fn H0 k A H=Ret H0 k (A r) H:=QJH hr hn
theorem rs2 (r s:Nat)(hr:fn.results=#[.tmp r,.tmp s])(hn:(Nat.blt r fn.ntmps&&Nat.blt s fn.ntmps)=true)(H0 H:Qa)(k:Value->Qa->Prop)(A:Env):Rt P fn H0 k A H=Ret H0 k (.tuple #[A r,A s]) H:=QJI hr hn
theorem Qvk (agg:Bool)(size a ty:Nat)(hr:fn.results=#[.cell a ty])(hn:Nat.blt a fn.ntmps=true)(ht:Qus P ty agg size=true)(H0 H:Qa)(k:Value->Qa->Prop)(A:Env):Rt P fn H0 k A H=ldR agg size (A a) H λv=>Ret H0 k v H:=QJJ hr hn ht
theorem Qut (agg:Bool)(size a ty r:Nat)(hr:fn.results=#[.cell a ty,.tmp r])(hn:(Nat.blt a fn.ntmps&&Nat.blt r fn.ntmps)=true)(ht:Qus P ty agg size=true)(H0 H:Qa)(k:Value->Qa->Prop)(A:Env):Rt P fn H0 k A H=ldR agg size (A a) H λv=>Ret H0 k (.tuple #[v,A r]) H:=QIs hr hn ht
end
section
variable (pc:PC) {P:Program} {f:FuncId} {fn:Func}
theorem ko0 (hf:P.funcs[f]? = some fn)(h:(fn.body.bind (comp P fn.ntmps),entered P f,Nat.ble 0 fn.ntmps)=(some pc,true,true)):In0 P f fn pc:=jn0 hf h
theorem ko1 (hf:P.funcs[f]? = some fn)(h:(fn.body.bind (comp P fn.ntmps),entered P f,Nat.ble 1 fn.ntmps)=(some pc,true,true)):In1 P f fn pc:=jn1 hf h
theorem ko2 (hf:P.funcs[f]? = some fn)(h:(fn.body.bind (comp P fn.ntmps),entered P f,Nat.ble 2 fn.ntmps)=(some pc,true,true)):In2 P f fn pc:=jn2 hf h
theorem ko3 (hf:P.funcs[f]? = some fn)(h:(fn.body.bind (comp P fn.ntmps),entered P f,Nat.ble 3 fn.ntmps)=(some pc,true,true)):In3 P f fn pc:=jn3 hf h
theorem ko4 (hf:P.funcs[f]? = some fn)(h:(fn.body.bind (comp P fn.ntmps),entered P f,Nat.ble 4 fn.ntmps)=(some pc,true,true)):In4 P f fn pc:=jn4 hf h
theorem ko5 (hf:P.funcs[f]? = some fn)(h:(fn.body.bind (comp P fn.ntmps),entered P f,Nat.ble 5 fn.ntmps)=(some pc,true,true)):In5 P f fn pc:=jn5 hf h
theorem ko7 (hf:P.funcs[f]? = some fn)(h:(fn.body.bind (comp P fn.ntmps),entered P f,Nat.ble 7 fn.ntmps)=(some pc,true,true)):In7 P f fn pc:=in7 hf (congrArg (·.1) h) (congrArg (·.2.1) h) (congrArg (·.2.2) h)
end
end Go.Ab
namespace Go.Ab
open Go.RowKit
section
variable {P:Program} {ρ:Ren} {H:Qa} {w:World}
def QgP (H:Qa):Prop:=∀id b,H.get id=some b->b.ro=true
theorem Sim.addRo (hs:Sim P ρ H w)(hro:QgP H){c:List Value}(e:TypeId){a:Addr}(hlt:a.block<w.heap.size)(hc:∀ (j:Nat) v,c[j]? = some v->∃v',w.cell? (a.add j)=some v'∧V ρ v v'):
  Sim P (ext ρ H.next ⟨a,0,0⟩) (H.push (.cells c e true)) w:=by
 have hn:=hs.none_next;have hsub:=Qfa ⟨a,0,0⟩ hn;refine⟨λid j h=>?_,λid bl j h h'=>?_,λid1 id2 b1 b2 i1 i2 h1 h2 h3 h4 h5 h6=>?_,λg hg=>?_⟩
 ·by_cases ee:id=H.next
  ·subst ee;simp
  ·rw[Jg ρ _ ee]at h;have:=hs.dom _ _ h;simp;omega
 ·by_cases ee:id=H.next
  ·subst ee;rw[W9]at h';cases h';rw[Qd,Lc rfl]at h;cases h;exact⟨hlt,λj v hj=>by obtain⟨v',x1,x2⟩:=hc j v hj;exact⟨v',x1,x2.mono hsub⟩⟩
  ·rw[Jg ρ _ ee]at h';rw[Qd,Le ee]at h;exact(hs.live id bl j h h').mono hsub rfl
 ·have:b1.ro=true:=by
   by_cases ee:id1=H.next
   ·subst ee;rw[Qd,Lc rfl]at h1;cases h1;rfl
   ·rw[Qd,Le ee]at h1;exact hro _ _ h1
  rw[this]at h5;cases h5
 ·obtain⟨j,hj,ee⟩:=hs.glob g hg;exact⟨j,hsub _ _ hj,ee⟩
theorem Sim.addDead (hs:Sim P ρ H w)(hw:H.Wf)(a:Addr):Sim P (ext ρ H.next ⟨a,0,0⟩) (H.up (H.next+1)) w:=by
 have hn:=hs.none_next;have hsub:=Qfa ⟨a,0,0⟩ hn;refine⟨λid j h=>?_,λid bl j h h'=>?_,λid1 id2 b1 b2 i1 i2 h1 h2 h3 h4 h5 h6=>?_,λg hg=>?_⟩
 ·by_cases ee:id=H.next
  ·subst ee;simp
  ·rw[Jg ρ _ ee]at h;have:=hs.dom _ _ h;simp;omega
 ·rw[Y0]at h;have:=hw.lt h;rw[Jg ρ _ (by omega)]at h';exact(hs.live id bl j h h').mono hsub rfl
 ·rw[Y0]at h1 h2;have:=hw.lt h1;have:=hw.lt h2;rw[Jg ρ _ (by omega)]at h3 h4;exact hs.sep id1 id2 b1 b2 i1 i2 h1 h2 h3 h4 h5 h6
 ·obtain⟨j,hj,ee⟩:=hs.glob g hg;exact⟨j,hsub _ _ hj,ee⟩
theorem QgP.push (h:QgP H)(c:List Value)(e:TypeId):QgP (H.push (.cells c e true)):=λid b hb=>by
 rw[Qd]at hb;split at hb
 ·cases hb;rfl
 ·exact h id b hb
theorem QgP.up (h:QgP H)(m:Nat):QgP (H.up m):=λid b hb=>h id b (by rw[Y0]at hb;exact hb)
theorem V.sliceIn {id len cap:Nat}{a:Addr}(hi:ρ id=some ⟨a,0,0⟩)(hl:len<=cap)(hc:cap<UNK):V ρ (.slice (some ⟨id,0,none⟩) len cap) (.slice (some a) len cap):=
 .slice id 0 len cap cap ⟨a,0,0⟩ a hi (.inl (by rw[show(⟨a,0,0⟩:Kg).at_=a from rfl];unfold Addr.add;rw[Lc rfl])) hl hc (λh=>by omega) (λ_=>rfl)
theorem calls_of_callQ {f:FuncId}{args args':List Value}{X:Value->Qa->Prop}(h:Qe P f args H λu H'=>u=.bool true∧X u H')(hw:H.Wf)(he:entered P f=true)(hs:Sim P ρ H w)(ha:VL ρ args args')(hro:QgP H):
  Calls P f args'.toArray w λe w'=>e=.returned (.bool true)∧Below w.heap.size w w':=by
 obtain⟨v,H',hc,_,_,rfl,_⟩:=h hw;exact Qtx (hc.does he) hs ha rfl hro
theorem QBT {base:Nat}{a:Addr}{n:Nat}{cs:List Value}(h:w.cells? base a n=some cs):cs.length=n∧∀i,i<n->w.cell? (a.add i)=cs[i]? := by
 unfold World.cells? at h;split at h
 ·have hl:=Qp9.mapM_length h;refine⟨by simpa using hl,λi hi=>?_⟩;have key:∀ (l:List Nat) (cs:List Value),l.mapM (λi=>w.cell? (a.add i))=some cs->∀ (j:Nat) x,l[j]? = some x->w.cell? (a.add x)=cs[j]? := by
   intro l
   induction l with
   | nil=>intro cs h j x hx;simp at hx
   | cons y l ih=>
    intro cs h j x hx;simp only[Ra,BV,BY,Rx,Lt]at h;obtain⟨v,hv,vs,hvs,rfl⟩:=h;cases j with
    | zero=>simp at hx;subst hx;simpa using hv
    | succ j=>simpa using ih vs hvs j x (by simpa using hx)
  exact key _ _ h i i (by simp[hi])
 ·cases h
end
variable {P:Program}
variable {P:Program} {A:Env} {H:Qa} {k:Value->Qa->Prop}
theorem Qzj {o:Op}{v:Value}{H':Qa}(e:rop P (.gen o) A H=some (v,H')):pr P (.gen o) false A H k=k v H':=by
 refine(W2 _).trans ?_;rw[e,QM]
/-! ### Texts -/
section
variable {ty:TypeId} {x lo hi:Operand} {s:ByteArray} {l h:Nat} {ik ik':IntKind}
theorem QFd (a b:ByteArray):VO .lss (.string a) (.string b) H k=k (.bool (Op.bytesLess (bl a) (bl b))) H:=WT (by simp[VN,Qei])
theorem QFe (a b:ByteArray):VO .leq (.string a) (.string b) H k=k (.bool (Op.bytesLess (bl a) (bl b)||bl a==bl b)) H:=WT (by simp[VN,Qei])
theorem QFf (a b:ByteArray):VO .gtr (.string a) (.string b) H k=k (.bool !(Op.bytesLess (bl a) (bl b)||bl a==bl b)) H:=WT (by simp[VN,Qei])
theorem QFg (a b:ByteArray):VO .geq (.string a) (.string b) H k=k (.bool !(Op.bytesLess (bl a) (bl b))) H:=WT (by simp[VN,Qei])
end
/-! ### Arrays in memory -/
/-! ### Nil, and places held against each other -/
def Qvt (P:Program)(t:TypeId):Bool:=match P.underlying t with | some (.slice _)=>true | _=>false
theorem Qlq {t t':TypeId}{x:Operand}{a:Option Addr}{n c:Nat}(ht:Qvt P t=true)(hx:ev A x=.slice a n c):
  pr P (.gen (.binOp .eql t x (.const (.slice none 0 0)) t')) false A H k=k (.bool a.isNone) H:=by
 have hc:ev A (.const (.slice none 0 0))=.slice none 0 0:=rfl;unfold Qvt at ht;split at ht
 ·rename_i h1;exact Qzj (by cases a<;>simp[rop,aop,Qfe,Qu2,Qqc,Ji,hx,hc,h1,aeq,QjW,Qcs,JF,Qmw,Qu0])
 ·cases ht
/-! ### Numbers -/
theorem Qsj {t:TypeId}{x:Operand}{ik:IntKind}{n:Int}(hx:ev A x=.int ik n):pr P (.gen (.unOp .neg t x)) false A H k=k (.int ik (ik.wrap (-n))) H:=
 Qzj (by simp[rop,aop,Qu4,hx,Ji,QrC])
/-! ### Pointers without a type -/
/-! ### Entries of the model -/
/-! ### Cells -/
theorem Qtz (s:ByteArray):(Value.string s).cells.toList=[.string s]:=Nu rfl rfl
theorem Qzk (a:Option Addr):(Value.pointer a).cells.toList=[.pointer a]:=Nu rfl rfl
theorem Qsk (s:ByteArray):(Value.string s).oneCell'=true:=Nu rfl rfl
theorem Qxh (a:Option Addr):(Value.pointer a).oneCell'=true:=Nu rfl rfl
abbrev syA:=And.intro @Qtz (And.intro @Qzk (And.intro @Qsk (And.intro @Qxh (And.intro @QFd (And.intro @QFe (And.intro @QFf (And.intro @QFg (And.intro @Qyz @QrB))))))))
end Go.Ab
