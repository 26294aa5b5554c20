import Derived.Test.YtopkfjiipdjbmaaGreatDoorAbC
import Derived.Test.YtopkfjiipdjbmaaGreatDoorAbB
set_option linter.defProp false
set_option linter.unusedVariables false
set_option linter.unusedSimpArgs false
noncomputable section
namespace Go.Ab
structure PO where
 d:Option Nat
 r:R
 g:Option (Nat×Bool)
 s:Bool
inductive PC where
 | skip
 | ops (l:List PO)
 | seq (a b:PC)
 | cond (c:Operand) (a b:PC)
 | block (id:Nat) (b:PC)
 | loop (b:PC)
 | exit (id:Nat)
 | ret
 | label (l:Nat)
 | goto (l:Nat)
 | scope (b:PC) (l:Nat) (r:PC)
 | rangeF (g:Operand) (ps:List Nat) (a b:PC)
 | bad
/-! ### Resolving code -/
def Qq8 (o:Oper):Bool:=match o.op with | .load .. => true | _=>false
def QuY (o:Oper):Bool:=match o.op with | .alloc .. | .box .. | .makeSlice .. | .buildSlice .. | .convert .. | .makeMap .. | .range .. => true | _=>false
def QjF (o:Oper):Bool:=match o.op with | .call ⟨.value _,_,_⟩=>true | _=>false
def Qzc (o:Oper):Bool:=match o.op with | .call ⟨.builtin .append,_,_⟩=>true | _=>false
def QCj (o:Oper):Bool:=QjF o||Qzc o
def QnZ (ops:Array Oper)(i:Nat):Bool:=match ops[i]? with | some o=>Qq8 o | none=>false
def Qgn (ops:Array Oper)(i:Nat):Bool:=match ops[i]? with | some o=>QuY o | none=>false
def QaQ (ops:Array Oper)(i:Nat):Bool:=match ops[i]? with | some o=>QCj o | none=>false
def WN (ops:Array Oper)(ms:List Nat)(k:Nat):Bool:=
 (W2 ops k&&(List.range ops.size).any λi=>(QnZ ops i&&!(QG ms i k)&&!(QG ms k i))||(Qgn ops i&&Nat.blt i k&&!(QG ms i k))) ||
 (QnZ ops k&&(List.range ops.size).any λi=>W2 ops i&&!(QG ms i k)&&!(QG ms k i))
def Qzd (o:Oper):Bool:=match o.op with | .store .. => true | _=>false
def Qze (ops:Array Oper)(i:Nat):Bool:=match ops[i]? with | some o=>Qzd o | none=>false
def Qe0 (ms:List Nat)(i k:Nat):Bool:=!(QG ms i k)&&!(QG ms k i)
def Qpi (ops:Array Oper)(i:Nat):Option Nat:=match ops[i]? with | some o=>(match o.op with | .load _ (.tmp t)=>some t | _=>none) | none=>none
def Qq9 (ops:Array Oper)(ms:List Nat)(k:Nat):List Operand:=(List.range k).filterMap λi=>bif QnZ ops i&&Qe0 ms i k then(Qpi ops i).map .tmp else none
def QIU:List String:=["(*linotype/print.text).next"]
def isG (P:Program)(o:Oper):Bool:=match o.op with
 | .call ⟨.value (.func f),_,_⟩=>(match P.funcs[f]? with | some fn=>QIU.any λn=>fn.name==n | none=>false)
 | _=>false
def gAt (P:Program)(ops:Array Oper)(i:Nat):Bool:=match ops[i]? with | some o=>isG P o | none=>false
def QIV (P:Program)(ops:Array Oper)(ms:List Nat)(i k:Nat):Bool:=
 Nat.blt i k&&(Qpi ops i).isSome&&(List.range k).all λj=>Nat.blt j i||((match ops[j]? with | some o=>!(o.dst==Qpi ops i) | none=>true)&&(!(W2 ops j)||(QaQ ops j&&WN ops ms j&&!(gAt P ops j))||(Qze ops j&&WN ops ms j&&Qe0 ms i j)))
def Qke (o:Oper):Bool:=match o.op with | .call ⟨.value (.func _),_,_⟩=>true | .call ⟨.builtin .append,_,_⟩=>true | _=>false
def QIv (ops:Array Oper)(i:Nat):Bool:=match ops[i]? with | some o=>Qke o | none=>false
def Qra (o:Oper):Option Nat:=match o.op with
 | .fieldAddr _ (.tmp b) _=>some b
 | .indexAddr _ (.tmp b) _=>some b
 | .move (.tmp b)=>some b
 | .assign (.tmp b)=>some b
 | .nilCheck (.tmp b)=>some b
 | _=>none
def QwS (o:Oper)(aa:Nat):Option Nat:=bif o.dst==some aa then Qra o else some aa
def GQ (ops:Array Oper)(k:Nat):Nat->Nat->Option Nat
 | 0,cur=>some cur
 | d+1,cur=>match ops[k+d]? with
  | some o=>(match QwS o cur with | some c=>GQ ops k d c | none=>none)
  | none=>none
def Qn0 (ops:Array Oper)(k i:Nat):Option Nat:=match Qpi ops i with
 | none=>none
 | some t=>GQ ops k (i - k) t
def QaR (ops:Array Oper)(ms:List Nat)(k:Nat):List Operand:=(List.range ops.size).filterMap λi=>bif Nat.blt k i&&(QnZ ops i&&Qe0 ms i k) then(Qn0 ops k i).map .tmp else none
def quiet (P:Program)(ops:Array Oper)(ms:List Nat)(i k:Nat):Bool:=
 (Nat.blt i k&&(List.range k).all λj=>Nat.ble j i||(!(W2 ops j)||(WN ops ms j&&QaQ ops j&&!(gAt P ops j)))) ||
 (Nat.blt k i&&QIv ops k&&(Qn0 ops k i).isSome&&(List.range i).all λj=>Nat.blt j k||(!(W2 ops j)||(WN ops ms j&&QaQ ops j&&(!(gAt P ops j)||Qe0 ms i j))))
def QAX (P:Program)(ops:Array Oper)(ms:List Nat):Bool:=
 (List.range ops.size).all λk=>!(W2 ops k)||!(WN ops ms k)||(QaQ ops k&&((List.range ops.size).all λi=>!(QnZ ops i)||QG ms i k||QG ms k i||quiet P ops ms i k)&&(!(gAt P ops k)||(List.range ops.size).all λi=>(!(QnZ ops i)||QG ms i k||QG ms k i||Nat.blt k i)&&(!(Qgn ops i)||!(Nat.blt i k)||QG ms i k))) ||
  (Qze ops k&&(List.range ops.size).all λi=>(!(QnZ ops i)||QG ms i k||QG ms k i||QIV P ops ms i k)&&(!(Qgn ops i)||!(Nat.blt i k)||QG ms i k))
def Qci (P:Program)(ops:Array Oper)(i:Nat)(o:Oper):R:=
 match o.op with
 | .store t x y=>match P.info? t with | some aa=>.stf aa.size x y (Qq9 ops (QK ops.toList []) i) | none=>Q9 P o.op
 | .call ⟨.value (.func f),args,_⟩=>bif isG P o then .callG f args.toList (QaR ops (QK ops.toList []) i) else .callF f args.toList (QaR ops (QK ops.toList []) i)
 | .call ⟨.builtin .append,_,_⟩=>(match Q9 P o.op with | .app e size bytes x y=>.appF e size bytes x y (QaR ops (QK ops.toList []) i) | _=>.callG 0 [] [.const (.bool false)])
 | _=>Q9 P o.op
def Qii (P:Program)(ops:Array Oper)(f:Bool)(i:Nat)(o:Oper):R:=bif f then Qci P ops i o else Q9 P o.op
def Qzf (n:Nat)(ops:Array Oper)(o:Oper):Option (Option (Nat×Bool)):=
 match o.guard with
 | none=>some none
 | some (j,want)=>match VZ ops j with
  | some t=>if t<n then some (some (t,want)) else none
  | none=>none
def Qar (P:Program)(n:Nat)(ops:Array Oper)(fl:Nat->Bool):List Oper->Nat->Option (List PO)
 | [],_=>some []
 | o::l,i=>if QhO P n o then
   match Qzf n ops o,Qar P n ops fl l (i+1) with
   | some g,some pl=>some (⟨o.dst,Qii P ops (fl i) i o,g,fl i⟩::pl)
   | _,_=>none
  else none
def Qn1 (P:Program)(op:Op):Bool:=match op with
 | .convert src _ _=>(match P.underlying src with | some (.slice _) | some (.pointer _) | some .unsafePointer=>true | _=>false)
 | .range t _=>(match P.underlying t with | some (.map _ _)=>true | _=>false)
 | _=>false
def J0:Nat:=1000000
def sq:PC->PC->PC
 | .skip,y=>y
 | x,.skip=>x
 | x,y=>.seq x y
def Gh:PC->Nat->Option PC
 | .seq a b,l=>match Gh a l with
  | some r=>some (sq r b)
  | none=>Gh b l
 | .label l',l=>bif Nat.beq l' l then some .skip else none
 | _,_=>none
def GR:PC->List Nat
 | .seq a b=>GR a++GR b
 | .label l=>[l]
 | _=>[]
def QqF (b:PC):PC:=
 match GR b with
 | []=>b
 | [l]=>match Gh b l with
  | some r=>.scope b l r
  | none=>.bad
 | _=>.bad
def comp (P:Program)(n:Nat):Code->Option PC
 | .skip=>some .skip
 | .label l=>some (.label l)
 | .ret=>some .ret
 | .exit id=>some (bif Nat.blt id J0 then .exit id else .bad)
 | .goto l=>some (.goto l)
 | .region _ ops false=>some (match Qar P n ops (λ_=>false) ops.toList 0 with | some l=>.ops l | none=>.bad)
 | .region _ ops true=>some (if P.follows .mixedOrders&&QeA ops (W2 ops)&&QAX P ops (QK ops.toList [])&&ops.all (λo=>!(Qn1 P o.op)) then(match Qar P n ops (WN ops (QK ops.toList [])) ops.toList 0 with | some l=>.ops l | none=>.bad) else .bad)
 | .seq a b=>match comp P n a,comp P n b with
  | some x,some y=>some (sq x y)
  | _,_=>none
 | .cond c a b=>if QdG P n c then(match comp P n a,comp P n b with | some x,some y=>some (.cond c x y) | _,_=>none) else none
 | .block id b=>(comp P n b).map λx=>bif Nat.blt id J0 then .block id x else .bad
 | .loop b=>(comp P n b).map .loop
 | .scope b=>(comp P n b).map QqF
 | .rangeFunc g aa a b=>if QdG P n g then(match comp P n a,comp P n b with | some x,some y=>some (.rangeF g aa.toList x y) | _,_=>none) else none
 | _=>some .bad
/-! ### What it does -/
structure Kp where
 ret:Env->Qa->Prop
 ext:Nat->Env->Qa->Prop
def onS (o:Option (Value×Qa))(k:Value->Qa->Prop):Prop:=∃v H',o=some (v,H')∧k v H'
def Qa.Wf (H:Qa):Prop:=∀id,H.y<=id->H.get id=none
def Qa.Wf.lt {H:Qa}(h:H.Wf){id:Nat}{b:Blk}(ab:H.get id=some b):id<H.y:=by
 rcases Nq id H.y with aa | aa;·exact aa
 rw[h id aa]at ab;cases ab
def Qa.Wf.push {H:Qa}(h:H.Wf)(b:Blk):(H.push b).Wf:=λid aa=>by
 simp only[Qd]at aa;rw[Qc,Le (by omega)];exact h id (by omega)
def Qa.Wf.set {H:Qa}(h:H.Wf){i:Nat}{b0:Blk}(ab:H.get i=some b0)(b:Blk):(H.set i b).Wf:=λid aa=>by
 have:=h.lt ab;simp only[Qo]at aa;rw[Qh,Le (by omega)];exact h id aa
def Qa.Wf.kill {H:Qa}(h:H.Wf)(i:Nat):(H.kill i).Wf:=λid aa=>by
 simp only[QaN]at aa;rw[Q0];split;·rfl
 exact h id aa
def Qe (P:Program)(f:FuncId)(args:List Value)(H:Qa)(k:Value->Qa->Prop):Prop:=H.Wf->∃v H',Kd P f args H v H'∧H.y<=H'.y∧H'.Wf∧k v H'
def YQ (P:Program)(l:Nat)(args:List Value)(H:Qa)(k:Value->Qa->Prop):Prop:=H.Wf->∃v H',Qt6 P l args H v H'∧H.y<=H'.y∧H'.Wf∧k v H'
def Qlh:Value->Value->Prop
 | .pointer (some a),.pointer (some b)=>b.block≠a.block
 | _,_=>True
def Qn2 (n:Nat):Value->Prop
 | .pointer (some a)=>a.block<n
 | .slice (some a) _ _=>a.block<n
 | _=>False
def Qrb (H H':Qa):Value->Prop
 | .pointer (some a)=>H'.get a.block=H.get a.block
 | .slice (some a) _ _=>H'.get a.block=H.get a.block
 | _=>True
def EqB (H H':Qa):Prop:=∀id,id<H.y->H'.get id=H.get id
def pr (P:Program)(r:R)(s:Bool)(A:Env)(H:Qa)(k:Value->Qa->Prop):Prop:=
 match r with
 | .call f args=>Qe P f (args.map (ev A)) H λv H'=>(s=true->∀id,H'.get id=H.get id)∧k v H'
 | .callv c args=>match ev A c with
  | .func (.func f) xs ys=>Qe P f (xs.toList++args.map (ev A)++ys.toList) H λv H'=>(s=true->∀id,H'.get id=H.get id)∧k v H'
  | .func (.yield l) ⟨[]⟩ ⟨[]⟩=>YQ P l (args.map (ev A)) H λv H'=>(s=true->∀id,H'.get id=H.get id)∧k v H'
  | _=>False
 | .callF f args os=>(∀z∈os,Qn2 H.y (ev A z))∧Qe P f (args.map (ev A)) H λv H'=>EqB H H'∧k v H'
 | .callG f args os=>(∀z∈os,Qn2 H.y (ev A z))∧Qe P f (args.map (ev A)) H λv H'=>(∀z∈os,Qrb H H' (ev A z))∧k v H'
 | .appF e size bytes x y os=>(∀z∈os,Qn2 H.y (ev A z))∧onS (rop P (.app e size bytes x y) A H) λv H'=>EqB H H'∧k v H'
 | .stf size x y os=>onS (rop P (.stf size x y os) A H) λv H'=>(∀z∈os,Qlh (ev A x) (ev A z))∧k v H'
 | r=>onS (rop P r A H) λv H'=>(s=true->Qj H.y 6 v=true)∧k v H'
def pg (g:Option (Nat×Bool))(A:Env)(ab aa:Prop):Prop:=
 match g with
 | none=>ab
 | some (t,w)=>match A t with
  | .bool b=>if b=w then ab else aa
  | .tuple _=>aa
  | _=>False
def QaS (P:Program):List PO->(Env->Qa->Prop)->Env->Qa->Prop
 | [],k,A,H=>k A H
 | o::l,k,A,H=>pg o.g A (pr P o.r o.s A H λv H'=>QaS P l k (J5 A o.d v) H') (QaS P l k (J5 A o.d undef) H)
def jmK (l:Nat)(I:Nat->Env->Qa->Prop)(m:Nat)(e:Nat->Env->Qa->Prop)(j:Nat)(A:Env)(H:Qa):Prop:=if j=J0+l then ∃aa,aa<m∧I aa A H else e j A H
def Qzg (st:Option Code)(ks:Kp)(k:Env->Qa->Prop)(A:Env)(H:Qa):Prop:=match st with
 | none=>k A H
 | some .ret=>ks.ret A H
 | some (.exit j)=>Nat.blt j J0=true∧ks.ext j A H
 | _=>False
def QDV (L:Option Code->Blk)(l:Nat)(aa:Nat)(Q:Value->Qa->Prop):Kp:=⟨λ_ H2=>aa<=H2.y∧Q (.bool false) (H2.set l (L (some .ret))),λj _ H2=>Nat.blt j J0=true∧aa<=H2.y∧Q (.bool false) (H2.set l (L (some (.exit j))))⟩
def QGf (L:Option Code->Blk)(l:Nat)(aa:Nat)(Q:Value->Qa->Prop):Env->Qa->Prop:=λ_ H2=>aa<=H2.y∧Q (.bool true) (H2.set l (L none))
def QAY:Kp:=⟨λ_ _=>False,λ_ _ _=>False⟩
def Qk (P:Program):PC->Kp->(Env->Qa->Prop)->Env->Qa->Prop
 | .skip,_,k,A,H=>k A H
 | .ops l,_,k,A,H=>QaS P l k A H
 | .seq a b,ks,k,A,H=>Qk P a ks (Qk P b ks k) A H
 | .cond c a b,ks,k,A,H=>match ev A c with
  | .bool t=>(t=true->Qk P a ks k A H)∧(t=false->Qk P b ks k A H)
  | _=>False
 | .block id b,ks,k,A,H=>Qk P b ⟨ks.ret,λj=>if j=id then k else ks.ext j⟩ k A H
 | .loop b,ks,k,A,H=>∃I:Nat->Env->Qa->Prop,(∃m,I m A H)∧∀m A' H',I m A' H'->Qk P b ks (λA'' H''=>∃aa,aa<m∧I aa A'' H'') A' H'
 | .exit id,ks,_,A,H=>ks.ext id A H
 | .ret,ks,_,A,H=>ks.ret A H
 | .label _,_,k,A,H=>k A H
 | .goto l,ks,_,A,H=>ks.ext (J0+l) A H
 | .scope b l r,ks,k,A,H=>∃I:Nat->Env->Qa->Prop,(∃m,Qk P b ⟨ks.ret,jmK l I m ks.ext⟩ k A H)∧∀m A' H',I m A' H'->Qk P r ⟨ks.ret,jmK l I m ks.ext⟩ k A' H'
 | .rangeF g ps a b,ks,k,A,H=>match ev A g with
  | .func (.func f) xs ys=>∀L:Option Code->Blk,
    (∀ (l:Nat) (args:List Value) (H0:Qa) (Q:Value->Qa->Prop),H0.get l=some (L none)->args.length=ps.length->Qk P a QAY (λA1 H1=>Qk P b (QDV L l H0.y Q) (QGf L l H0.y Q) A1 H1) (Qo7 A ps args) (H0.kill l)->YQ P l args H0 Q)->
    entered P f=true∧Qe P f (xs.toList++[.func (.yield H.y) #[] #[]]++ys.toList) (H.push (L none)) λ_ H2=>∃st,H2.get H.y=some (L st)∧Qzg st ks k A (H2.kill H.y)
  | _=>False
 | .bad,_,_,_,_=>False
/-! ### Soundness -/
section
variable {P:Program} {n:Nat}
def QCk:Qgl P J7:=⟨λf args H v H' h=>(by cases h),λf args H v H' h=>(by cases h)⟩
def QCl {H H':Qa}{r:Option Value}{c:Cls}{v:Value}(h:X9 H r=some (c,v,H')):c=.pure∧H'=H:=by
 obtain⟨_,aa,ab⟩:=Yv h;exact⟨aa,ab⟩
def X0 {α:Type}{b:Bool}{x:Option α}{y:α}(h:(bif b then x else none)=some y):x=some y:=by cases b<;>simp_all
def Qmf {e:TypeId}{ab:TypeInfo}{s x:Value}{H H':Qa}{v:Value}(h:QjC e ab s x H=some (v,H')):H.y<=H'.y∧(H.Wf->H'.Wf):=by
  unfold QjC at h
  repeat' (split at h)
  all_goals first
    | (cases h;done)
    | (simp only[Lt,LB]at h;obtain⟨_,rfl⟩:=h;refine⟨by simp,λaa=>?_⟩
       first
         | exact aa
         | exact aa.push _
         | exact(aa.kill _).push _
         | exact aa.set (by assumption) _)
def QjG {k:TypeId}{m ac v:Value}{H H':Qa}(h:QuT P k m ac v H=some H'):H.y<=H'.y∧(H.Wf->H'.Wf):=by
 unfold QuT at h;split at h
 ·split at h
  ·rename_i ab;have h:=X0 h;split at h;·cases h;exact⟨by simp,λaa=>aa.set ab _⟩
   ·cases h;exact⟨by simp,λaa=>aa.set ab _⟩
   cases h
  cases h
 cases h
structure Syn (P:Program) (o:Oper) (H H':Qa) (c:Cls):Prop where
 gen:XH c=true->QGc o=true∨Qn1 P o.op=true
 load:c=.load->Qq8 o=true
 alloc:∀b,c=.alloc b->QuY o=true
 y:H.y<=H'.y
 wf:H.Wf->H'.Wf
def QGg {o:Oper}{A:Env}{H H':Qa}{c:Cls}{v:Value}(h:aop P J7 o A H=some (c,v,H')):Syn P o H H' c:=by
  obtain⟨ak,op,ty,pos,af,g⟩:=o;have ab:∀ {u:Value},some (Cls.pure,u,H)=some (c,v,H')->Syn P ⟨ak,op,ty,pos,af,g⟩ H H' c:=λh=>by
    simp only[Lt,LB]at h;obtain⟨rfl,_,rfl⟩:=h;exact⟨λh=>(by cases h),λh=>(by cases h),λb h=>(by cases h),Lb _,id⟩
  have ad:∀ {r:Option Value},X9 H r=some (c,v,H')->Syn P ⟨ak,op,ty,pos,af,g⟩ H H' c:=λ{r} h=>by
    obtain⟨rfl,rfl⟩:=QCl h;exact⟨λh=>(by cases h),λh=>(by cases h),λb h=>(by cases h),Lb _,id⟩
  have ae:∀ {b:Blk} {u:Value},QuY ⟨ak,op,ty,pos,af,g⟩=true->some (Cls.alloc b,u,H.push b)=some (c,v,H')->Syn P ⟨ak,op,ty,pos,af,g⟩ H H' c:=λao h=>by
    simp only[Lt,LB]at h;obtain⟨rfl,_,rfl⟩:=h;exact⟨λh=>(by cases h),λh=>(by cases h),λb _=>ao,by simp,λac=>ac.push _⟩
  unfold aop at h;split at h
  case h_1 hop=>exact ab h
  case h_2 hop=>exact ab h
  case h_3 hop=>
    unfold QuV at h;split at h;· exact ab h
    · cases h
  case h_4 hop=>exact ab (X0 h)
  case h_5 hop=>exact ad h
  case h_6 hop=>exact ad h
  case h_7 hop=>
    unfold V3 at h;simp only at hop;split at h
    · split at h
      · split at h
        · exact ae (by subst hop;rfl) (X0 h)
        · cases h
      · cases h
    · rename_i aj am al
      split at h
      · split at h
        · simp only[Lt,LB]at h;obtain⟨rfl,_,rfl⟩:=h
          exact⟨λ_=>.inr (by subst hop;simp only[Qn1,aj]),λh=>(by cases h),λb h=>(by cases h),Lb _,id⟩
        · cases h
      · cases h
    · rename_i aj am al
      split at h
      · split at h
        · simp only[Lt,LB]at h;obtain⟨rfl,_,rfl⟩:=h
          exact⟨λ_=>.inr (by subst hop;simp only[Qn1,aj]),λh=>(by cases h),λb h=>(by cases h),Lb _,id⟩
        · cases h
      · cases h
    · rename_i aj am al
      split at h
      · split at h
        · simp only[Lt,LB]at h;obtain⟨rfl,_,rfl⟩:=h
          exact⟨λ_=>.inr (by subst hop;simp only[Qn1,aj]),λh=>(by cases h),λb h=>(by cases h),Lb _,id⟩
        · cases h
      · cases h
    · exact ad h
  case h_8 hop=>
    unfold KL at h;split at h;· cases h
    · exact ab h
    · cases h
  case h_9 hop=>exact ab (X0 h)
  case h_10 hop=>
    unfold Qqz at h
    repeat' (split at h)
    all_goals first | exact ad h | cases h
  case h_11 hop=>
    unfold Gg at h
    repeat' (split at h)
    all_goals first
      | (cases h;done)
      | (revert h;cases ap:Nat.beq _ 0<;>intro h<;>first | exact ab h | cases h)
  case h_12 hop=>
    unfold YY at h
    repeat' (split at h)
    all_goals first | exact ab h | cases h
  case h_13 hop=>
    unfold Qmb at h
    repeat' (split at h)
    all_goals first | exact ab h | exact ad h | cases h
  case h_14 hop=>
    unfold QjD at h;split at h;· exact ad h
    · cases h
  case h_15 hop=>
    unfold QqA at h
    repeat' (split at h)
    all_goals first | (cases h;done) | exact ad (X0 h)
  case h_16 hop=>
    simp only at hop;unfold QbW at h;split at h
    · split at h
      · split at h
        · have h:=X0 h
          split at h;· exact ae (by subst hop;rfl) h
          · cases h
        · cases h
      · cases h
    · cases h
  case h_17 hop=>
    simp only at hop;unfold QqB at h;split at h
    · split at h
      · exact ae (by subst hop;rfl) (X0 h)
      · cases h
    · cases h
  case h_18 hop=>simp only at hop;unfold QDS at h;exact ae (by subst hop;rfl) h
  case h_19 hop=>
    simp only at hop;unfold QdJ at h
    repeat' (split at h)
    all_goals first | (cases h;done) | exact ae (by subst hop;rfl) h
  case h_20 hop=>
    unfold Qgk at h
    repeat' (split at h)
    all_goals first | exact ab h | exact ad h | cases h
  case h_21 hop=>
    simp only at hop;unfold Qq7 at h
    repeat' (split at h)
    all_goals first
      | (cases h;done)
      | (simp only[Lt,LB]at h
         obtain⟨rfl,_,rfl⟩:=h;exact⟨λh=>(by cases h),λ_=>(by subst hop;rfl),λb h=>(by cases h),Lb _,id⟩)
  case h_22 hop=>
    simp only at hop;unfold Qmc at h;split at h
    · split at h
      · rename_i H1 ag
        simp only[Lt,LB]at h;obtain⟨rfl,_,rfl⟩:=h;have an:H.y<=H1.y∧(H.Wf->H1.Wf):=by
          unfold Qlc at ag;split at ag
          · rename_i ah
            split at ag;· cases ag;exact⟨by simp,λac=>ac.set ah _⟩
            · cases ag
          · cases ag
        exact⟨λ_=>.inl (by subst hop;rfl),λh=>(by cases h),λb h=>(by cases h),an.1,an.2⟩
      · cases h
    · cases h
  case h_23 cl hop=>
    simp only at hop;unfold QaP at h;split at h
    · split at h
      · split at h
        · exact ab h
        · cases h
      · split at h
        · exact ab (X0 h)
        · cases h
      · split at h
        · split at h
          · exact ab h
          · cases h
        · cases h
      · split at h
        · split at h
          · exact ab h
          · cases h
        · cases h
      · split at h
        · split at h
          · split at h
            · have h:=X0 h
              simp only[Lx,LB]at h;obtain⟨⟨u,H1⟩,aa,rfl,rfl,rfl⟩:=h;exact⟨λ_=>.inl (by subst hop;rfl),λh=>(by cases h),λb h=>(by cases h),(Qmf aa).1,(Qmf aa).2⟩
            · cases h
          · cases h
        · cases h
      · split at h
        · split at h
          · simp only[Lx,LB]at h
            obtain⟨⟨u,H1⟩,aa,rfl,rfl,rfl⟩:=h;have ai:H.y<=H1.y∧(H.Wf->H1.Wf):=by
              unfold QAU at aa
              repeat' (split at aa)
              all_goals first
                | (cases aa;done)
                | (simp only[Lt,LB]at aa;obtain⟨_,rfl⟩:=aa;exact⟨by simp,λac=>by first | exact ac | exact ac.set (by assumption) _⟩)
            exact⟨λ_=>.inl (by subst hop;rfl),λh=>(by cases h),λb h=>(by cases h),ai.1,ai.2⟩
          · cases h
        · cases h
      · split at h
        · exact ab h
        · split at h
          · exact ab h
          · cases h
        · cases h
      · split at h
        · simp only[Lt,LB]at h;obtain⟨rfl,_,rfl⟩:=h
          exact⟨λ_=>.inl (by subst hop;rfl),λh=>(by cases h),λb h=>(by cases h),Lb _,id⟩
        · split at h
          · rename_i ah
            split at h
            · split at h
              · simp only[Lt,LB]at h;obtain⟨rfl,_,rfl⟩:=h
                exact⟨λ_=>.inl (by subst hop;rfl),λh=>(by cases h),λb h=>(by cases h),by simp,λac=>ac.set ah _⟩
              · cases h
            · cases h
          · cases h
        · cases h
      · cases h
    · split at h
      · split at h
        · simp[J7]at h
        · cases h
      · cases h
    · simp[J7]at h
    · split at h
      · simp[J7]at h
      · have h:=X0 h;simp[J7]at h
      · cases h
  case h_24 hop=>simp only at hop;exact ae (by subst hop;rfl) h
  case h_25 hop=>
    simp only at hop;unfold Qig at h;split at h
    · simp only[Lx,LB]at h
      obtain⟨u,aa,rfl,rfl,rfl⟩:=h;exact⟨λ_=>.inl (by subst hop;rfl),λh=>(by cases h),λb h=>(by cases h),Lb _,id⟩
    · cases h
  case h_26 hop=>
    simp only at hop;unfold Qpb at h;split at h
    · simp only[Lx,LB]at h
      obtain⟨H1,aa,rfl,rfl,rfl⟩:=h;exact⟨λ_=>.inl (by subst hop;rfl),λh=>(by cases h),λb h=>(by cases h),(QjG aa).1,(QjG aa).2⟩
    · cases h
  case h_27 hop=>
    simp only at hop;unfold Qpb at h;split at h
    · simp only[Lx,LB]at h
      obtain⟨H1,aa,rfl,rfl,rfl⟩:=h;exact⟨λ_=>.inl (by subst hop;rfl),λh=>(by cases h),λb h=>(by cases h),(QjG aa).1,(QjG aa).2⟩
    · cases h
  case h_28 hop=>
    simp only at hop;unfold QqC at h;split at h;· exact ae (by subst hop;rfl) h
    · cases h
  case h_29 hop=>
    simp only at hop;simp only[Lx,LB]at h;obtain⟨⟨u,H1⟩,aa,rfl,rfl,rfl⟩:=h;have ai:H.y<=H1.y∧(H.Wf->H1.Wf):=by
      unfold Qt8 at aa;split at aa
      · have aa:=X0 aa
        split at aa
        · rename_i ah
          split at aa;· simp only[Lt,LB]at aa;obtain⟨_,rfl⟩:=aa;exact⟨by simp,λac=>ac.set ah _⟩
          · simp only[Lt,LB]at aa;obtain⟨_,rfl⟩:=aa;exact⟨by simp,λac=>ac⟩
        · cases aa
      · cases aa
    exact⟨λ_=>.inl (by subst hop;rfl),λh=>(by cases h),λb h=>(by cases h),ai.1,ai.2⟩
  case h_30=>cases h
end
section
variable {P:Program} {n:Nat}
def Quf {ops:Array Oper}{o:Oper}{g:Option (Nat×Bool)}{A:Env}{ae ac:Prop}(aa:Qzf n ops o=some g)(h:pg g A ae ac):
  (X8 n ops A o=some true∧ae)∨(X8 n ops A o=some false∧ac):=by
 unfold Qzf at aa;unfold X8;split at aa;·rename_i ad;cases aa;exact .inl ⟨by rw[ad],h⟩
 rename_i j ai ad;rw[ad];split at aa
 ·rename_i t ah;split at aa
  ·rename_i ag;cases aa;have h':(match A t with | .bool b=>if b=ai then ae else ac | .tuple _=>ac | _=>False):=h;simp only[ah,ag,N3];split at h'
   ·rename_i b ab;split at h';·rename_i e;exact .inl ⟨by simp[ab,e],h'⟩
    rename_i e;exact .inr ⟨by simp[ab,e],h'⟩
   ·rename_i ab;exact .inr ⟨by simp[ab],h'⟩
   exact h'.elim
  cases aa
 cases aa
def Qu2 {op:Op}{f:FuncId}{args:List Operand}(h:Q9 P op=.call f args):∃a aa,op=.call ⟨.value (.func f),a,aa⟩∧args=a.toList:=by
 unfold Q9 at h
 repeat' (split at h)
 all_goals first
  | (cases h;done)
  | (cases h;exact⟨_,_,rfl,rfl⟩)
def Qs3 {op:Op}{c:Operand}{args:List Operand}(h:Q9 P op=.callv c args):∃a aa,op=.call ⟨.value c,a,aa⟩∧args=a.toList:=by
 unfold Q9 at h
 repeat' (split at h)
 all_goals first
  | (cases h;done)
  | (cases h;exact⟨_,_,rfl,rfl⟩)
def QwV {op:Op}{size:Nat}{x y:Operand}{os:List Operand}(h:Q9 P op=.stf size x y os):False:=by
 unfold Q9 at h
 repeat' (split at h)
 all_goals cases h
def Qs4 {op:Op}{f:FuncId}{args os:List Operand}(h:Q9 P op=.callF f args os):False:=by
 unfold Q9 at h
 repeat' (split at h)
 all_goals cases h
def Qs5 {op:Op}{f:FuncId}{args os:List Operand}(h:Q9 P op=.callG f args os):False:=by
 unfold Q9 at h
 repeat' (split at h)
 all_goals cases h
def Qu3 {op:Op}{e size bytes:Nat}{x y:Operand}{os:List Operand}(h:Q9 P op=.appF e size bytes x y os):False:=by
 unfold Q9 at h
 repeat' (split at h)
 all_goals cases h
def InB (v:Value)(b:Nat):Prop:=(∃a:Addr,v=.pointer (some a)∧a.block=b)∨∃ (a:Addr) (n c:Nat),v=.slice (some a) n c∧a.block=b
def InB.uniq {v:Value}{b b':Nat}(h:InB v b)(h':InB v b'):b=b':=by
 rcases h with⟨a,rfl,rfl⟩ | ⟨a,n,c,rfl,rfl⟩<;>rcases h' with⟨aa,e,rfl⟩ | ⟨aa,ab,c',e,rfl⟩<;>cases e<;>rfl
def FA (o:Oper)(A:Env)(v:Value):Prop:=∀b,Qra o=some b->∀n,InB v n->InB (A b) n
def FA.none {o:Oper}{A:Env}{v:Value}(h:Qra o=none):FA o A v:=λb h'=>by rw[h]at h';cases h'
def QI1 {o:Oper}{A:Env}{H H':Qa}{c:Cls}{v:Value}(h:aop P J7 o A H=some (c,v,H')):FA o A v:=by
 obtain⟨al,op,ty,pos,af,g⟩:=o;intro b ac n ad;unfold Qra at ac;split at ac
 ·rename_i t b' f aa;simp only at aa;subst aa;cases ac;have h:Gg P J7 A H t (.tmp b) f=some (c,v,H'):=h;unfold Gg at h;split at h
  ·rename_i am a _ ab;split at h
   ·split at h
    ·rename_i aj _;cases ah:Nat.beq aj.size 0 with
     | true=>rw[ah]at h;cases h
     | false=>
      rw[ah]at h;simp only[Ls,Lt,LB]at h;have ab:A b=.pointer (some a):=ab;obtain⟨_,rfl,_⟩:=h;rcases ad with⟨ae,e,rfl⟩ | ⟨ae,ai,c',e,rfl⟩;·cases e;exact .inl ⟨a,ab,rfl⟩
      cases e
    cases h
   cases h
  cases h
 ·rename_i t b' ak aa;simp only at aa;subst aa;cases ac;have h:YY P J7 A H t (.tmp b) ak=some (c,v,H'):=h;unfold YY at h;split at h
  ·split at h
   ·rename_i e a len cap _ ab;have ab:A b=.slice (some a) len cap:=ab;split at h
    ·split at h
     ·simp only[Lt,LB]at h;obtain⟨_,rfl,_⟩:=h;rcases ad with⟨ae,e,rfl⟩ | ⟨ae,ai,c',e,rfl⟩;·cases e;exact .inr ⟨a,_,_,ab,rfl⟩
      cases e
     cases h
    cases h
   ·rename_i len e a _ ab;have ab:A b=.pointer (some a):=ab;split at h
    ·split at h
     ·simp only[Lt,LB]at h;obtain⟨_,rfl,_⟩:=h;rcases ad with⟨ae,e,rfl⟩ | ⟨ae,ai,c',e,rfl⟩;·cases e;exact .inl ⟨a,ab,rfl⟩
      cases e
     cases h
    cases h
   cases h
  cases h
 ·rename_i b' aa;simp only at aa;subst aa;cases ac;have h:some (Cls.pure,ev A (.tmp b),H)=some (c,v,H'):=h;cases h;exact ad
 ·rename_i b' aa;simp only at aa;subst aa;cases ac;have h:some (Cls.pure,ev A (.tmp b),H)=some (c,v,H'):=h;cases h;exact ad
 ·rename_i b' aa;simp only at aa;subst aa;cases ac;have h:Qcg P J7 A H (.tmp b)=some (c,v,H'):=h;unfold Qcg at h;cases ag:Qgd (ev A (.tmp b)) with
  | false=>rw[ag]at h;cases h
  | true=>
   rw[ag]at h;cases h;exact ad
 cases ac
def QqG {o:Oper}{s:Bool}{A:Env}{H:Qa}{k:Value->Qa->Prop}(am:H.Wf)(h:pr P (Q9 P o.op) s A H k):
  ∃c v H',Qpc P o A H v H' c∧Syn P o H H' c∧(s=true->QjF o=true->∀id,H'.get id=H.get id)∧(s=true->Qq8 o=true->Qj H.y 6 v=true)∧FA o A v∧k v H':=by
 obtain⟨ag,op,ty,pos,af,g⟩:=o;have other:onS (rop P (Q9 P op) A H) (λv H'=>(s=true->Qj H.y 6 v=true)∧k v H')->
   ∃c v H',Qpc P ⟨ag,op,ty,pos,af,g⟩ A H v H' c∧Syn P ⟨ag,op,ty,pos,af,g⟩ H H' c∧(s=true->QjF ⟨ag,op,ty,pos,af,g⟩=true->∀id,H'.get id=H.get id)∧(s=true->Qq8 ⟨ag,op,ty,pos,af,g⟩=true->Qj H.y 6 v=true)∧FA ⟨ag,op,ty,pos,af,g⟩ A v∧k v H':=fun⟨v,H',ab,ae,ad⟩=>by
  obtain⟨c,aa⟩:=Qzb ab;have aa:aop P J7 ⟨ag,op,ty,pos,af,g⟩ A H=some (c,v,H'):=aa;refine⟨c,v,H',QnX QCk aa,QGg aa,λ_ ac=>?_,λh _=>ae h,QI1 aa,ad⟩;unfold QjF at ac;split at ac
  ·rename_i f a an ah;simp only at ah;subst ah;unfold aop at aa;simp only[QaP]at aa;split at aa;·rename_i ak;cases ak
   ·rename_i ak;cases ak
   ·simp[J7]at aa
   split at aa;·simp[J7]at aa
   ·have aa:=X0 aa;simp[J7]at aa
   cases aa
  cases ac
 simp only[pr]at h;split at h;·rename_i f args ab;obtain⟨a,an,ah,rfl⟩:=Qu2 ab;subst ah;obtain⟨v,H',ac,ai,aj,ae,ad⟩:=h am;refine⟨.gen,v,H',Qqy (by simpa using ac),⟨λ_=>.inl rfl,λh=>(by cases h),λb h=>(by cases h),ai,λ_=>aj⟩,λh _=>ae h,λ_ h=>(by cases h),.none rfl,ad⟩
 ·rename_i c args ab;obtain⟨a,an,ah,rfl⟩:=Qs3 ab;subst ah;split at h;·rename_i f xs ao al;obtain⟨v,H',ac,ai,aj,ae,ad⟩:=h am;refine⟨.gen,v,H',QwG al (by simpa using ac),⟨λ_=>.inl rfl,λh=>(by cases h),λb h=>(by cases h),ai,λ_=>aj⟩,λh _=>ae h,λ_ h=>(by cases h),.none rfl,ad⟩
  ·rename_i l al;obtain⟨v,H',ac,ai,aj,ae,ad⟩:=h am;refine⟨.gen,v,H',QwN al (by simpa using ac),⟨λ_=>.inl rfl,λh=>(by cases h),λb h=>(by cases h),ai,λ_=>aj⟩,λh _=>ae h,λ_ h=>(by cases h),.none rfl,ad⟩
  exact h.elim
 ·rename_i ab;exact(Qs4 ab).elim
 ·rename_i ab;exact(Qs5 ab).elim
 ·rename_i ab;exact(Qu3 ab).elim
 ·rename_i ab;exact(QwV ab).elim
 exact other h
def Low (P:Program)(o:Oper)(os:List Operand)(A:Env)(H H':Qa):Prop:=Qke o=true->∀z∈os,∃b:Nat,InB (ev A z) b∧b<H.y∧(isG P o=true->H'.get b=H.get b)
def Sep (o:Oper)(os:List Operand)(A:Env)(H H':Qa):Prop:=Qzd o=true->∃a:Nat,(∀id,id≠a->H'.get id=H.get id)∧∀z∈os,∀b:Addr,ev A z=.pointer (some b)->b.block≠a
def QwW {ops:Array Oper}{i:Nat}{o:Oper}{s:Bool}{A:Env}{H:Qa}{k:Value->Qa->Prop}(ap:H.Wf)(h:pr P (Qii P ops s i o) s A H k):
  ∃c v H',Qpc P o A H v H' c∧Syn P o H H' c∧(s=true->QCj o=true->isG P o=false->EqB H H')∧(s=true->Qq8 o=true->Qj H.y 6 v=true)∧(s=true->Sep o (Qq9 ops (QK ops.toList []) i) A H H')∧(s=true->Low P o (QaR ops (QK ops.toList []) i) A H H')∧FA o A v∧k v H':=by
 cases s with
 | false=>
  obtain⟨c,v,H',ad,ag,ay,ar,an,am⟩:=QqG ap h;exact⟨c,v,H',ad,ag,λh=>(by cases h),ar,λh=>(by cases h),λh=>(by cases h),an,am⟩
 | true=>
  have h:pr P (Qci P ops i o) true A H k:=h;have aT:Qzd o=false->Qke o=false->Qci P ops i o=Q9 P o.op->∃c v H',Qpc P o A H v H' c∧Syn P o H H' c∧(true=true->QCj o=true->isG P o=false->EqB H H')∧(true=true->Qq8 o=true->Qj H.y 6 v=true)∧(true=true->Sep o (Qq9 ops (QK ops.toList []) i) A H H')∧(true=true->Low P o (QaR ops (QK ops.toList []) i) A H H')∧FA o A v∧k v H':=λaP aB e=>by
   rw[e]at h;obtain⟨c,v,H',ad,ag,ay,ar,an,am⟩:=QqG ap h;exact⟨c,v,H',ad,ag,λaA ah _ id _=>ay aA (by
    unfold QCj Qzc at ah;unfold Qke at aB;cases aN:QjF o with
    | true=>rfl
    | false=>
     rw[aN,Nt]at ah;split at ah;·rename_i aa;rw[aa]at aB;cases aB
     cases ah) id,ar,λ_ ac=>(by rw[aP]at ac;cases ac),λ_ ac=>(by rw[aB]at ac;cases ac),an,am⟩
  cases ao:Qzd o with
  | false=>
   cases ai:Qke o with
   | false=>
    refine aT ao ai ?_;unfold Qci;unfold Qzd at ao;unfold Qke at ai;split;·rename_i t x y aa;rw[aa]at ao;cases ao
    ·rename_i aa;rw[aa]at ai;cases ai
    ·rename_i aa;rw[aa]at ai;cases ai
    rfl
   | true=>
    obtain⟨aq,op,ty,pos,af,g⟩:=o;unfold Qke at ai;split at ai
    ·rename_i f a al aa;simp only at aa;subst aa;have aG:Qci P ops i ⟨aq,.call ⟨.value (.func f),a,al⟩,ty,pos,af,g⟩=bif isG P ⟨aq,.call ⟨.value (.func f),a,al⟩,ty,pos,af,g⟩ then .callG f a.toList (QaR ops (QK ops.toList []) i) else .callF f a.toList (QaR ops (QK ops.toList []) i):=rfl
     rw[aG]at h;cases az:isG P ⟨aq,.call ⟨.value (.func f),a,al⟩,ty,pos,af,g⟩ with
     | false=>
      rw[az]at h;obtain⟨ax,aF⟩:=h;obtain⟨v,H',ah,aE,aH,ac,aj⟩:=aF ap;refine⟨.gen,v,H',Qqy (by simpa using ah),⟨λ_=>.inl rfl,λh=>(by cases h),λb h=>(by cases h),aE,λ_=>aH⟩,λ_ _ _=>ac,λ_ h=>(by cases h),λ_ h=>(by cases h),λ_ _ z ak=>?_,.none rfl,aj⟩;have:=ax z ak;unfold Qn2 at this;split at this;·rename_i b ae;exact⟨_,.inl ⟨b,ae,rfl⟩,this,λh=>absurd (az.symm.trans h) (by decide)⟩
      ·rename_i b n c ae;exact⟨_,.inr ⟨b,n,c,ae,rfl⟩,this,λh=>absurd (az.symm.trans h) (by decide)⟩
      exact this.elim
     | true=>
      rw[az]at h;obtain⟨ax,aF⟩:=h;obtain⟨v,H',ah,aE,aH,ac,aj⟩:=aF ap;refine⟨.gen,v,H',Qqy (by simpa using ah),⟨λ_=>.inl rfl,λh=>(by cases h),λb h=>(by cases h),aE,λ_=>aH⟩,λ_ _ h=>(by cases h),λ_ h=>(by cases h),λ_ h=>(by cases h),λ_ _ z ak=>?_,.none rfl,aj⟩;have ad:=ax z ak;have ag:=ac z ak;unfold Qn2 at ad;split at ad;·rename_i b ae;rw[ae]at ag;exact⟨_,.inl ⟨b,ae,rfl⟩,ad,λ_=>ag⟩
      ·rename_i b n c ae;rw[ae]at ag;exact⟨_,.inr ⟨b,n,c,ae,rfl⟩,ad,λ_=>ag⟩
      exact ad.elim
    ·rename_i a al aa;simp only at aa;subst aa;have aG:Qci P ops i ⟨aq,.call ⟨.builtin .append,a,al⟩,ty,pos,af,g⟩=(match Q9 P (.call ⟨.builtin .append,a,al⟩) with | .app e size bytes x y=>.appF e size bytes x y (QaR ops (QK ops.toList []) i) | _=>.callG 0 [] [.const (.bool false)]):=rfl;rw[aG]at h;split at h
     ·rename_i e size bytes x y aQ;obtain⟨ax,v,H',ab,ac,aj⟩:=h;obtain⟨c,aJ,H1,ad,ag,ay,ar,an,am⟩:=QqG (s:=false) (k:=λaI H1=>aI=v∧H1=H') ap (o:=⟨aq,.call ⟨.builtin .append,a,al⟩,ty,pos,af,g⟩) (by
       show pr P (Q9 P (.call ⟨.builtin .append,a,al⟩)) false A H _;rw[aQ];exact⟨v,H',ab,λh=>(by cases h),rfl,rfl⟩)
      obtain⟨rfl,rfl⟩:=am;refine⟨c,aJ,H1,ad,ag,λ_ _ _=>ac,λ_ av=>(by cases av),λ_ aR=>(by cases aR),λ_ _ z ak=>?_,an,aj⟩;have:=ax z ak;unfold Qn2 at this;split at this;·rename_i b ae;exact⟨_,.inl ⟨b,ae,rfl⟩,this,λh=>(by cases h)⟩
      ·rename_i b n c ae;exact⟨_,.inr ⟨b,n,c,ae,rfl⟩,this,λh=>(by cases h)⟩
      exact this.elim
     exact(h.1 _ (Sa.2 rfl)).elim
    cases ai
  | true=>
   unfold Qzd at ao;split at ao
   ·rename_i t x y aa;unfold Qci at h;rw[aa]at h;simp only at h;cases au:P.info? t with
    | none=>
     rw[au]at h;have e:Q9 P (.store t x y)=.gen (.store t x y):=by simp[Q9,au]
     simp only at h;rw[e]at h;obtain⟨v,H',ab,ac,aj⟩:=h;simp only[rop,aop,Qmc,Qlc,au]at ab;split at ab
     ·rename_i aA;repeat' (split at aA)
      all_goals (first | (cases aA;done) | (rename_i aK;cases aK))
     cases ab
    | some aS=>
     rw[au]at h;obtain⟨v,H',ab,ac,aj⟩:=h;have e:Q9 P o.op=.st aS.size x y:=by rw[aa];simp[Q9,au]
     obtain⟨c,aJ,H1,ad,ag,ay,ar,an,am⟩:=QqG (s:=false) (k:=λaI H1=>aI=v∧H1=H') ap (o:=o) (by
      rw[e];exact⟨v,H',ab,λh=>(by cases h),rfl,rfl⟩)
     obtain⟨rfl,rfl⟩:=am;refine⟨c,aJ,H1,ad,ag,λ_ ah _=>?_,λ_ av=>?_,λ_ _=>?_,λ_ aD=>?_,an,aj⟩;·unfold QCj QjF Qzc at ah;rw[aa]at ah;cases ah
     ·unfold Qq8 at av;rw[aa]at av;cases av
     ·simp only[rop]at ab;split at ab
      ·rename_i a aL;split at ab
       ·rename_i c' e' aU;split at ab;·simp only[Lt,LB]at ab;obtain⟨_,rfl⟩:=ab;refine⟨a.block,λid aO=>by rw[Qh,Le aO],λz ak=>?_⟩;have aC:=ac z ak;rw[aL]at aC;intro b1 aM;rw[aM]at aC;exact aC
        cases ab
       cases ab
      cases ab
     unfold Qke at aD;rw[aa]at aD;cases aD
   cases ao
def Qlk {ops:Array Oper}{fl:Nat->Bool}:∀ (l:List Oper) (i:Nat) (ad:List PO) (k:Env->Qa->Prop) (A:Env) (H:Qa),H.Wf->Qar P n ops fl l i=some ad->QaS P ad k A H->
  ∃A1 H1,H1.Wf∧k A1 H1∧Qla P n ops l (λe A' H'=>e=.normal∧A'=A1∧H'=H1) A H
 | [],i,ad,k,A,H,hwf,hc,h=>by
  simp only[Qar,Lt]at hc;subst hc;exact⟨A,H,hwf,h,Qwz ⟨rfl,rfl,rfl⟩⟩
 | o::l,i,ad,k,A,H,hwf,hc,h=>by
  unfold Qar at hc;split at hc
  ·rename_i ai;split at hc
   ·rename_i g ae ap am;cases hc;have h:pg g A (pr P (Qii P ops (fl i) i o) (fl i) A H λv H'=>QaS P ae k (J5 A o.dst v) H') (QaS P ae k (J5 A o.dst undef) H):=h;rcases Quf ap h with⟨ac,ar⟩ | ⟨ac,aq⟩
    ·obtain⟨c,v,H',al,an,au,av,_,_,_,ao⟩:=QwW hwf ar;obtain⟨A1,H1,aj,ah,ab⟩:=Qlk l (i+1) ae k _ _ (an.wf hwf) am ao;refine⟨A1,H1,aj,ah,?_⟩;cases aa:o.guard with
     | none=>exact QtZ aa al.does ai ab
     | some ak=>
      obtain⟨j,w⟩:=ak;exact QdK aa ac (λ_=>⟨v,H',al.does,ab⟩) (λag=>by cases ag) ai
    obtain⟨A1,H1,aj,ah,ab⟩:=Qlk l (i+1) ae k _ _ hwf am aq;refine⟨A1,H1,aj,ah,?_⟩;cases aa:o.guard with
    | none=>simp[X8,aa]at ac
    | some ak=>
     obtain⟨j,w⟩:=ak;exact QdK aa ac (λag=>by cases ag) (λ_=>ab) ai
   cases hc
  cases hc
structure StR (P:Program) (n:Nat) (ops:Array Oper) (fl:Nat->Bool) (i:Nat) (o:Oper) (s:Stp) (t':Env) (H':Qa):Prop where
 ok:QhO P n o=true
 wf:s.H.Wf
 env:t'=J5 s.t o.dst s.v
 y:s.H.y<=H'.y
 run:(X8 n ops s.t o=some true∧Qpc P o s.t s.H s.v H' s.c∧Syn P o s.H H' s.c∧(fl i=true->QCj o=true->isG P o=false->EqB s.H H')∧(fl i=true->Qq8 o=true->Qj s.H.y 6 s.v=true)∧(fl i=true->Sep o (Qq9 ops (QK ops.toList []) i) s.t s.H H')∧(fl i=true->Low P o (QaR ops (QK ops.toList []) i) s.t s.H H')∧FA o s.t s.v) ∨
  (X8 n ops s.t o=some false∧s.c=.pure∧s.v=undef∧H'=s.H)
def Qik (l:List Stp)(t:Env)(i:Nat):Env:=match l[i]? with | some s=>s.t | none=>t
def Qrc {ops:Array Oper}{fl:Nat->Bool}:∀ (l:List Oper) (i:Nat) (ac:List PO) (k:Env->Qa->Prop) (A:Env) (H:Qa),H.Wf->Qar P n ops fl l i=some ac->QaS P ac k A H->
  ∃tr A1 H1,H1.Wf∧k A1 H1∧tr.length=l.length∧Qik tr A1 0=A∧W3 tr H1 0=H∧∀ (j:Nat) o s,l[j]? = some o->tr[j]? = some s->StR P n ops fl (i+j) o s (Qik tr A1 (j+1)) (W3 tr H1 (j+1))
 | [],i,ac,k,A,H,hwf,hc,h=>by
  simp only[Qar,Lt]at hc;subst hc;exact⟨[],A,H,hwf,h,rfl,rfl,rfl,λj o s h=>by simp at h⟩
 | o::l,i,ac,k,A,H,hwf,hc,h=>by
  unfold Qar at hc;split at hc
  ·rename_i aj;split at hc
   ·rename_i g ad aq az;cases hc;have h:pg g A (pr P (Qii P ops (fl i) i o) (fl i) A H λv H'=>QaS P ad k (J5 A o.dst v) H') (QaS P ad k (J5 A o.dst undef) H):=h;have step:∀ (s:Stp) (ab:Env) (H':Qa),s.t=A->s.H=H->H'.Wf->QaS P ad k ab H'->StR P n ops fl i o s ab H'->
      ∃tr A1 H1,H1.Wf∧k A1 H1∧tr.length=(o::l).length∧Qik tr A1 0=A∧W3 tr H1 0=H∧∀ (j:Nat) o' s,(o::l)[j]? = some o'->tr[j]? = some s->StR P n ops fl (i+j) o' s (Qik tr A1 (j+1)) (W3 tr H1 (j+1)):=by
     intro s ab H' e1 e2 aD ay aB;obtain⟨tr,A1,H1,aE,au,av,aC,ar,aA⟩:=Qrc l (i+1) ad k ab H' aD az ay;refine⟨s::tr,A1,H1,aE,au,by simp[av],by simp[Qik,e1],by simp[W3,e2],λj o' aG ag ah=>?_⟩;cases j with
     | zero=>
      simp only[Bp,Lt]at ag ah;subst ag;subst ah;have ae:Qik (s::tr) A1 (0+1)=ab:=by rw[<- aC];simp[Qik]
      have aa:W3 (s::tr) H1 (0+1)=H':=by rw[<- ar];simp[W3]
      rw[ae,aa];exact aB
     | succ j=>
      have:=aA j o' aG (by simpa using ag) (by simpa using ah);rw[show i+(j+1)=i+1+j by omega];simpa[Qik,W3] using this
    rcases Quf aq h with⟨ai,aF⟩ | ⟨ai,ax⟩;·obtain⟨c,v,H',ae,aa,ak,al,an,ao,ap,am⟩:=QwW hwf aF;exact step ⟨A,H,c,v⟩ _ H' rfl rfl (aa.wf hwf) am ⟨aj,hwf,rfl,aa.y,.inl ⟨ai,ae,aa,ak,al,an,ao,ap⟩⟩
    exact step ⟨A,H,.pure,undef⟩ _ H rfl rfl hwf ax ⟨aj,hwf,rfl,Lb _,.inr ⟨ai,rfl,rfl,rfl⟩⟩
   cases hc
  cases hc
def V4 {t:TypeId}{a:Addr}{H1 H2:Qa}(h:H1.get a.block=H2.get a.block):X5 P t a H1=X5 P t a H2:=by
 unfold X5;rw[h]
def Qrd (ops:Array Oper)(k e:Nat):∀ (d aa:Nat),GQ ops k (e+d) aa=match GQ ops (k+e) d aa with | some c=>GQ ops k e c | none=>none
 | 0,aa=>rfl
 | d+1,aa=>by
  show(match ops[k+(e+d)]? with | some o=>(match QwS o aa with | some c=>GQ ops k (e+d) c | none=>none) | none=>none)=(match (match ops[k+e+d]? with | some o=>(match QwS o aa with | some c=>GQ ops (k+e) d c | none=>none) | none=>none) with | some c=>GQ ops k e c | none=>none);rw[show k+(e+d)=k+e+d by omega];cases ops[k+e+d]? with
  | none=>rfl
  | some o=>
   simp only;cases QwS o aa with
   | none=>rfl
   | some c=>exact Qrd ops k e d c
def Qzp {ops:Array Oper}{k i j aa bs:Nat}(h:GQ ops k (i - k) aa=some bs)(ac:k<=j)(ad:j<=i):∃c,GQ ops j (i - j) aa=some c:=by
 have:=Qrd ops k (j - k) (i - j) aa;rw[show j - k+(i - j)=i - k by omega,h,show k+(j - k)=j by omega]at this;cases ab:GQ ops j (i - j) aa with
 | none=>rw[ab]at this;cases this
 | some c=>exact⟨c,rfl⟩
def Qzq {id:Nat}{ops:Array Oper}{bM:List PO}{k:Env->Qa->Prop}{A:Env}{H:Qa}(cU:H.Wf)(cD:P.follows .mixedOrders=true)(cJ:∀o∈ops,Qn1 P o.op=false)(aS:QeA ops (W2 ops)=true)(cl:QAX P ops (QK ops.toList [])=true)
  (ak:Qar P n ops (WN ops (QK ops.toList [])) ops.toList 0=some bM) (h:QaS P bM k A H):
  ∃A1 H1,H1.Wf∧k A1 H1∧AWp P n (.region id ops true) (λe A' H'=>e=.normal∧A'=A1∧H'=H1) A H:=by
 obtain⟨tr,A1,H1,cT,cz,c7,bw,cd,cO⟩:=Qrc ops.toList 0 bM k A H cU ak h;refine⟨A1,H1,cT,cz,?_⟩;have c9:tr.length=ops.size:=by simpa using c7
 let As:Nat->Env:=Qik tr A1
 let Hs:Nat->Qa:=W3 tr H1
 let vs:Nat->Value:=λi=>match tr[i]? with | some s=>s.v | none=>undef
 let bd:Nat->Cls:=λi=>match tr[i]? with | some s=>s.c | none=>.pure
 have ar:∀ (i:Nat) o,ops[i]? = some o->∃s,tr[i]? = some s∧StR P n ops (WN ops (QK ops.toList [])) i o s (As (i+1)) (Hs (i+1))∧As i=s.t∧Hs i=s.H∧vs i=s.v∧bd i=s.c:=λi o ac=>by
  have au:i<tr.length:=by rw[c9];exact(Nj.1 ac).1
  have hi:=La au;refine⟨tr[i],hi,by have:=cO i o tr[i] (by simpa using ac) hi;rwa [LP]at this,?_,?_,?_,?_⟩<;>simp only[As,Hs,vs,bd,Qik,W3,hi]
 have aF:∀i,i<ops.size->∃o,ops[i]? = some o:=λi hi=>⟨ops[i],Ng hi⟩;have aY:∀i,i<ops.size->XH (bd i)=true->W2 ops i=true:=λi hi ad=>by
  obtain⟨o,ac⟩:=aF i hi;obtain⟨s,aQ,al,_,_,_,e4⟩:=ar i o ac;rw[e4]at ad;simp only[W2,ac];rcases al.run with⟨_,_,aU,_⟩ | ⟨_,b3,_⟩
  ·rcases aU.gen ad with h | h;·exact h
   have:=cJ o (BB ac);rw[h]at this;cases this
  rw[b3]at ad;cases ad
 have bS:∀aa,aa<ops.size->W2 ops aa=true->WN ops (QK ops.toList []) aa=true->(QaQ ops aa=true∧(∀i,i<ops.size->QnZ ops i=true->QG (QK ops.toList []) i aa=false->QG (QK ops.toList []) aa i=false->quiet P ops (QK ops.toList []) i aa=true)∧(gAt P ops aa=true->∀i,i<ops.size->(QnZ ops i=true->QG (QK ops.toList []) i aa=false->QG (QK ops.toList []) aa i=false->aa<i)∧(Qgn ops i=true->i<aa->QG (QK ops.toList []) i aa=true))) ∨
   (Qze ops aa=true∧∀i,i<ops.size->(QnZ ops i=true->QG (QK ops.toList []) i aa=false->QG (QK ops.toList []) aa i=false->QIV P ops (QK ops.toList []) i aa=true)∧(Qgn ops i=true->i<aa->QG (QK ops.toList []) i aa=true)):=λaa bE ad b6=>by
  have:=Li.1 cl aa (LU.2 bE);simp only[ad,b6,L8,Nt,Nw,Lm,Li,LU]at this;rcases this with this | this
  ·refine .inl ⟨this.1.1,λi hi ae ah aB=>?_,λad i hi=>⟨λae ah aB=>?_,λae ah=>?_⟩⟩;·have:=this.1.2 i hi;simpa[ae,ah,aB] using this
   ·have ai:=this.2;simp only[ad,L8,LV,false_or]at ai;have:=(ai i hi).1;simpa[ae,ah,aB] using this
   have ai:=this.2;simp only[ad,L8,LV,false_or]at ai;have:=(ai i hi).2;have b:Nat.blt i aa=true:=by rw[B5];exact ah
   simpa[ae,b] using this
  refine .inr ⟨this.1,λi hi=>⟨λae ah aB=>?_,λae ah=>?_⟩⟩;·have:=(this.2 i hi).1;simpa[ae,ah,aB] using this
  have aB:=(this.2 i hi).2;have b:Nat.blt i aa=true:=by rw[B5];exact ah
  simpa[ae,b] using aB
 have bW:∀j,j<ops.size->(Hs j).y<=(Hs (j+1)).y:=λj ap=>by
  obtain⟨o,ac⟩:=aF j ap;obtain⟨s,aQ,al,e1,e2,e3,e4⟩:=ar j o ac;rw[e2];exact al.y
 have bG:∀d a,a+d<=ops.size->(Hs a).y<=(Hs (a+d)).y:=λd=>by
  induction d with
  | zero=>exact λa _=>Lb _
  | succ d aK=>exact λa h=>N8 (aK a (by omega)) (bW (a+d) (by omega))
 have bo:∀aa,aa<ops.size->QaQ ops aa=true->WN ops (QK ops.toList []) aa=true->gAt P ops aa=false->EqB (Hs aa) (Hs (aa+1)):=λaa bE bR b6 aT=>by
  obtain⟨o,ac⟩:=aF aa bE;obtain⟨s,aQ,al,e1,e2,e3,e4⟩:=ar aa o ac;simp only[QaQ,ac]at bR;simp only[gAt,ac]at aT;rw[e2];rcases al.run with⟨_,_,_,aB,_⟩ | ⟨_,_,_,ab⟩;·exact aB b6 bR aT
  rw[ab];exact λ_ _=>rfl
 have bF:∀j,j<ops.size->(W2 ops j=false∨(WN ops (QK ops.toList []) j=true∧QaQ ops j=true∧gAt P ops j=false))->EqB (Hs j) (Hs (j+1)):=λj ap ad=>by
  obtain⟨o,ac⟩:=aF j ap;obtain⟨s,aQ,al,e1,e2,e3,e4⟩:=ar j o ac;rcases al.run with⟨_,ag,aU,_⟩ | ⟨_,_,_,ab⟩
  ·cases an:s.c with
   | pure=>rw[an]at ag;rw[e2,ag.1];exact λ_ _=>rfl
   | load=>rw[an]at ag;rw[e2,ag.1];exact λ_ _=>rfl
   | alloc b=>
    rw[an]at ag;rw[e2,ag.1];exact λid bC=>by rw[Qc,Le (by omega)]
   | gen=>
    have aA:W2 ops j=true:=aY j ap (by rw[e4,an];rfl);rcases ad with ad | ad;·rw[ad]at aA;cases aA
    exact bo j ap ad.2.1 ad.1 ad.2.2
  rw[e2,ab];exact λ_ _=>rfl
 have c6:∀d a,a+d<=ops.size->(∀j,a<=j->j<a+d->W2 ops j=false∨(WN ops (QK ops.toList []) j=true∧QaQ ops j=true∧gAt P ops j=false))->EqB (Hs a) (Hs (a+d)):=λd=>by
  induction d with
  | zero=>exact λa _ _ _ _=>rfl
  | succ d aK=>
   intro a h ap id bC;have ae:=aK a (by omega) (λj ae ah=>ap j ae (by omega)) id bC;have ah:=bF (a+d) (by omega) (ap (a+d) (by omega) (by omega)) id (N5 bC (bG d a (by omega)));rw[show a+(d+1)=a+d+1 by omega,ah,ae]
 have F:ZW P n ops As Hs vs bd:=by
  refine⟨λi o ac=>?_,λi hi=>?_,λi o ac=>?_,λi o ac=>?_,Qpe aY aS⟩;·obtain⟨s,aQ,al,e1,e2,e3,e4⟩:=ar i o ac;rw[e1,e3,al.env]
  ·obtain⟨o,ac⟩:=aF i hi;obtain⟨s,aQ,al,e1,e2,e3,e4⟩:=ar i o ac;rw[e2];exact al.y
  ·obtain⟨s,aQ,al,e1,e2,e3,e4⟩:=ar i o ac;exact al.ok
  obtain⟨s,aQ,al,e1,e2,e3,e4⟩:=ar i o ac;have hi:i<ops.size:=(Nj.1 ac).1;unfold Qy3;rw[e1,e2,e3,e4];rcases al.run with⟨bK,ag,aU,da,co,_,_⟩ | ⟨bK,b3,cS,ce⟩
  ·right;refine⟨bK,?_⟩;cases an:s.c with
   | pure=>rw[an]at ag;exact ag
   | gen=>rw[an]at ag;exact ag
   | alloc b=>
    rw[an]at ag;refine⟨ag.1,ag.2,λaa aE bD aZ ba=>?_⟩;have aA:=aY aa aE aZ;have bx:Qgn ops i=true:=by simp only[Qgn,ac];exact aU.alloc b an
    have aO:WN ops (QK ops.toList []) aa=true:=by
     unfold WN;simp only[aA,LJ,Nw];left;rw[Bh];exact⟨i,LU.2 hi,by simp[bx,bD,ba]⟩
    rcases bS aa aE aA aO with aC | aC
    ·have aT:gAt P ops aa=false:=by
      cases b9:gAt P ops aa with
      | false=>rfl
      | true=>rw[(aC.2.2 b9 i hi).2 bx bD]at ba;cases ba
     rw[bo aa aE aC.1 aO aT];have ai:=bG (aa - (i+1)) (i+1) (by omega);rw[show i+1+(aa - (i+1))=aa by omega,ag.1,Qd]at ai;omega
    rw[(aC.2 i hi).2 bx bD]at ba;cases ba
   | load=>
    rw[an]at ag;obtain⟨ae,bZ,x,a,bY,bg,aD⟩:=ag;refine⟨ae,bZ,x,a,bY,bg,aD,λaa aE aZ o1 o2=>?_⟩;have aA:=aY aa aE aZ;have az:QnZ ops i=true:=by simp only[QnZ,ac];exact aU.load an
    have aO:WN ops (QK ops.toList []) aa=true:=by
     unfold WN;simp only[aA,LJ,Nw];left;rw[Bh];exact⟨i,LU.2 hi,by simp[az,o1,o2]⟩
    have cq:WN ops (QK ops.toList []) i=true:=by
     unfold WN;simp only[Nw];right;simp only[az,LJ];rw[Bh];exact⟨aa,LU.2 aE,by simp[aA,o1,o2]⟩
    have bq:o.op=.load bZ x:=bY;have bP:Qj s.H.y 6 s.v=true:=co cq (by unfold Qq8;rw[bq]);rcases bS aa aE aA aO with aC | aC
    ·have aP:=aC.2.1 i hi az o1 o2;have b2:a.block<(Hs i).y:=by
      rw[e2];unfold X5 at aD;split at aD;·rename_i ad;exact al.wf.lt ad
      cases aD
     unfold quiet at aP;simp only[Nw,Lm,Li,LU]at aP;have b7:(Hs aa).get a.block=(Hs i).get a.block∧(Hs (aa+1)).get a.block=(Hs aa).get a.block:=by
      rcases aP with⟨au,aP⟩ | ⟨⟨⟨au,cm⟩,bJ⟩,aP⟩
      ·have au:i<aa:=by simpa using au
       have aT:gAt P ops aa=false:=by
        cases b9:gAt P ops aa with
        | false=>rfl
        | true=>have:=(aC.2.2 b9 i hi).1 az o1 o2;omega
       have cv:W2 ops i=false:=by
        simp only[QnZ,ac]at az;simp only[W2,ac];unfold Qq8 at az;split at az;·rename_i cG;simp only[QGc,cG]
        cases az
       have aX:=c6 (aa - i) i (by omega) (λj ae ah=>?_);·rw[show i+(aa - i)=aa by omega]at aX;have ai:=bG (aa - i) i (by omega);rw[show i+(aa - i)=aa by omega]at ai;exact⟨aX _ b2,bo aa aE aC.1 aO aT a.block (by omega)⟩
       rcases Nq i j with aB | aB
       ·have ab:=aP j (by omega);have aW:Nat.ble j i=false:=by
         cases ay:Nat.ble j i with
         | false=>rfl
         | true=>rw[BL]at ay;omega
        rw[aW]at ab;rcases ab with ab | ab | ab;·cases ab
        ·exact .inl (by simpa using ab)
        exact .inr ⟨ab.1.1,ab.1.2,by simpa using ab.2⟩
       rw[show j=i by omega];exact .inl cv
      have au:aa<i:=by simpa using au
      obtain⟨bs,aL⟩:=D9.1 bJ;have bz:∀j,aa<=j->j<i->(W2 ops j=false∨(WN ops (QK ops.toList []) j=true∧QaQ ops j=true∧(gAt P ops j=false∨Qe0 (QK ops.toList []) i j=true))):=λj ae ah=>by
       have ab:=aP j ah;have aW:Nat.blt j aa=false:=by
        cases ay:Nat.blt j aa with
        | false=>rfl
        | true=>rw[B5]at ay;omega
       rw[aW]at ab;rcases ab with ab | ab | ab;·cases ab
       ·exact .inl (by simpa using ab)
       refine .inr ⟨ab.1.1,ab.1.2,?_⟩;rcases ab.2 with ax | ax;·exact .inl (by simpa using ax)
       exact .inr ax
      obtain⟨ok,bX⟩:=aF aa aE;obtain⟨bN,dc,cQ,aV,aN,bO,bh⟩:=ar aa ok bX;have ci:∀ (aG bs d aH:Nat),aG+d<=i->GQ ops aG d aH=some bs->InB (As (aG+d) aH) a.block->InB (As aG bs) a.block:=λaG bs d=>by
       induction d with
       | zero=>intro aH _ ay aq;cases ay;exact aq
       | succ d aK=>
        intro aH aS ay aq;obtain⟨am,av⟩:=aF (aG+d) (by omega);obtain⟨aM,bI,aJ,g1,g2,g3,g4⟩:=ar (aG+d) am av;simp only[GQ,av]at ay;split at ay
        ·rename_i c ak;refine aK c (by omega) ay ?_;rw[show aG+(d+1)=aG+d+1 by omega,aJ.env,<- g1]at aq;unfold QwS at ak;cases bp:am.dst with
         | none=>
          rw[bp]at ak aq;have ak:some aH=some c:=ak;cases ak;exact aq
         | some q=>
          rw[bp]at ak aq;have aq:InB (upd (As (aG+d)) q aM.v aH) a.block:=aq
          by_cases bH:q=aH
          ·subst bH;rw[Qh6]at aq;have ak:Qra am=some c:=by simpa using ak
           rcases aJ.run with⟨_,_,_,_,_,_,_,cp⟩ | ⟨_,_,_,br⟩;·have:=cp c ak _ aq;rw[g1];exact this
           exfalso;have br:aM.v=undef:=by first | exact br.1 | exact br | (rename_i cR;exact cR)
           rw[br]at aq;rcases aq with⟨_,e,_⟩ | ⟨_,_,_,e,_⟩<;>cases e
          rw[Qgb _ _ (λh=>bH h.symm)]at aq;have ak:some aH=some c:=by have e:(q==aH)=false:=beq_false_of_ne bH;simpa[e] using ak
          cases ak;exact aq
        cases ay
      obtain⟨ao,aj⟩:∃ao,Qpi ops i=some ao:=by
       unfold Qn0 at aL;cases aj:Qpi ops i with
       | none=>rw[aj]at aL;cases aL
       | some ao=>exact⟨ao,rfl⟩
      have hx:x=.tmp ao:=by
       unfold Qpi at aj;rw[ac]at aj;simp only[bq]at aj;split at aj;·rename_i bA;cases bA;cases aj;rfl
       cases aj
      have ca:As i ao=.pointer (some a):=by rw[hx]at bg;rw[e1];exact bg
      have cj:GQ ops aa (i - aa) ao=some bs:=by
       unfold Qn0 at aL;rw[aj]at aL;exact aL
      have bV:∀j,aa<=j->j<=i->∃c,Qn0 ops j i=some c∧InB (As j c) a.block:=λj ae ah=>by
       obtain⟨c,ak⟩:=Qzp cj ae ah;refine⟨c,by unfold Qn0;rw[aj];exact ak,?_⟩;refine ci j c (i - j) ao (by omega) ak ?_;rw[show j+(i - j)=i by omega,ca];exact .inl ⟨a,rfl,rfl⟩
      have cI:InB (As aa bs) a.block:=by
       obtain⟨c,bn,b4⟩:=bV aa (Lb _) (by omega);rw[aL]at bn;cases bn;exact b4
      have bQ:a.block<(Hs aa).y:=by
       have cC:∀z∈QaR ops (QK ops.toList []) aa,∃b:Nat,InB (ev bN.t z) b∧b<bN.H.y:=by
        rcases cQ.run with⟨_,_,_,_,_,_,ai,_⟩ | ⟨_,ai,_⟩;·intro z cW;obtain⟨b,ae,ah,_⟩:=ai aO (by simpa only[QIv,bX] using cm) z cW;exact⟨b,ae,ah⟩
        rw[bh,ai]at aZ;cases aZ
       obtain⟨b,aI,bm⟩:=cC (.tmp bs) (by
        unfold QaR;rw[List.mem_filterMap];have b1:Nat.blt aa i=true:=by simpa using au
        exact⟨i,LU.2 hi,by simp[b1,az,Qe0,o1,o2,aL]⟩)
       have aI:InB (bN.t bs) b:=aI;rw[<- aV]at aI;rw[aN,cI.uniq aI];exact bm
      have bc:∀j,aa<=j->j<i->a.block<(Hs j).y->(Hs (j+1)).get a.block=(Hs j).get a.block:=λj ae ah aR=>by
       rcases bz j ae ah with ab | ⟨ab,aW,ax⟩;·exact bF j (by omega) (.inl ab) _ aR
       cases b8:gAt P ops j with
       | false=>exact bF j (by omega) (.inr ⟨ab,aW,b8⟩) _ aR
       | true=>
        have ax:Qe0 (QK ops.toList []) i j=true:=by
         rcases ax with ax | ax;·rw[b8]at ax;cases ax
         exact ax
        obtain⟨am,av⟩:=aF j (by omega);obtain⟨aM,bI,aJ,g1,g2,g3,g4⟩:=ar j am av;have bj:isG P am=true:=by simpa only[gAt,av] using b8
        have cn:Qke am=true:=by
         unfold isG at bj;unfold Qke;split at bj;·first | rfl | (rename_i cH;rw[cH])
         cases bj
        obtain⟨c,bn,b4⟩:=bV j ae (by omega);rw[g2];rcases aJ.run with⟨_,_,_,_,_,_,ai,_⟩ | ⟨_,_,_,ai⟩
        ·obtain⟨b,aI,bm,ch⟩:=ai ab cn (.tmp c) (by
          unfold QaR;rw[List.mem_filterMap];have b1:Nat.blt j i=true:=by simpa using ah
          have cY:Qe0 (QK ops.toList []) i j=true:=ax;exact⟨i,LU.2 hi,by simp[b1,az,cY,bn]⟩)
         have aI:InB (aM.t c) b:=aI;rw[<- g1]at aI;rw[b4.uniq aI];exact ch bj
        rw[ai]
      have cE:∀d,aa+d<=i->(Hs (aa+d)).get a.block=(Hs aa).get a.block∧a.block<(Hs (aa+d)).y:=λd=>by
       induction d with
       | zero=>exact λ_=>⟨rfl,bQ⟩
       | succ d aK=>
        intro aS;obtain⟨bu,bL⟩:=aK (by omega);have db:=bW (aa+d) (by omega);refine⟨?_,?_⟩;·rw[show aa+(d+1)=aa+d+1 by omega,bc (aa+d) (by omega) (by omega) bL,bu]
        rw[show aa+(d+1)=aa+d+1 by omega];omega
      have aX:=(cE (i - aa) (by omega)).1;rw[show aa+(i - aa)=i by omega]at aX;exact⟨aX.symm,bc aa (Lb _) au bQ⟩
     exact⟨by rw[V4 b7.1,e2];exact aD,by rw[V4 b7.2,V4 b7.1,e2];exact aD,bP⟩
    have b5:=(aC.2 i hi).1 az o1 o2;unfold QIV at b5;simp only[Lm,Li,LU]at b5;obtain⟨⟨au,bJ⟩,bz⟩:=b5;have au:i<aa:=by simpa using au
    obtain⟨ao,aj⟩:=D9.1 bJ;have hx:x=.tmp ao:=by
     unfold Qpi at aj;rw[ac]at aj;simp only[bq]at aj;split at aj;·rename_i bA;cases bA;cases aj;rfl
     cases aj
    subst hx;have bc:∀j,i<=j->j<ops.size->As j ao=.pointer (some a)->(W2 ops j=false∨(QaQ ops j=true∧WN ops (QK ops.toList []) j=true∧gAt P ops j=false)∨(i<j∧Qze ops j=true∧WN ops (QK ops.toList []) j=true∧Qe0 (QK ops.toList []) i j=true))->a.block<(Hs j).y->(Hs (j+1)).get a.block=(Hs j).get a.block:=λj cw ap bw ad aR=>by
     obtain⟨am,av⟩:=aF j ap;obtain⟨aM,bI,aJ,aV,aN,bO,bh⟩:=ar j am av;rw[aN]at aR ⊢;rcases aJ.run with⟨_,ag,aU,_,_,cP,_⟩ | ⟨_,_,_,ab⟩
     ·cases an:aM.c with
      | pure=>rw[an]at ag;rw[ag.1]
      | load=>rw[an]at ag;rw[ag.1]
      | alloc b=>rw[an]at ag;rw[ag.1,Qc,Le (by omega)]
      | gen=>
       have aA:W2 ops j=true:=aY j ap (by rw[bh,an];rfl);rcases ad with ad | ad | ⟨cx,bU,cr,ct⟩;·rw[ad]at aA;cases aA
       ·rw[<- aN];rw[<- aN]at aR;exact bo j ap ad.1 ad.2.1 ad.2.2 _ aR
       simp only[Qze,av]at bU;obtain⟨cZ,c4,c5⟩:=cP cr bU;have bm:=c5 (.tmp ao) (by
        unfold Qq9;rw[List.mem_filterMap];exact⟨i,LU.2 cx,by simp[az,ct,aj]⟩) a (by show aM.t ao=_;rw[<- aV];exact bw)
       exact c4 _ bm
     rw[ab]
    have b2:a.block<(Hs i).y:=by
     rw[e2];unfold X5 at aD;split at aD;·rename_i ad;exact al.wf.lt ad
     cases aD
    have cb:As i ao=.pointer (some a):=by rw[e1];exact bg
    have cg:∀j,i<=j->j<aa->(∀am,ops[j]? = some am->am.dst≠some ao)∧(W2 ops j=false∨(QaQ ops j=true∧WN ops (QK ops.toList []) j=true∧gAt P ops j=false)∨(i<j∧Qze ops j=true∧WN ops (QK ops.toList []) j=true∧Qe0 (QK ops.toList []) i j=true)):=λj cw cy=>by
     have:=bz j cy;have b1:Nat.blt j i=false:=by
      cases ay:Nat.blt j i with
      | false=>rfl
      | true=>rw[B5]at ay;omega
     simp only[b1,Nw,Lm,aj,Lr,LV,false_or]at this;refine⟨λam av aS=>?_,?_⟩;·have ai:=this.1;rw[av]at ai;simp[aS]at ai
     rcases this.2 with(h | h) | h;·exact .inl h
     ·exact .inr (.inl ⟨h.1.1,h.1.2,h.2⟩)
     refine .inr (.inr ⟨?_,h.1.1,h.1.2,h.2⟩);rcases Nq i j with h' | h';·exact h'
     have e:j=i:=by omega
     subst e;have bi:=h.1.1;unfold Qze Qzd at bi;rw[ac]at bi;simp only[bq]at bi;cases bi
    have cK:∀d,i+d<=aa->As (i+d) ao=.pointer (some a)∧(Hs (i+d)).get a.block=(Hs i).get a.block∧a.block<(Hs (i+d)).y:=by
     intro d
     induction d with
     | zero=>exact λ_=>⟨cb,rfl,b2⟩
     | succ d aK=>
      intro aS;obtain⟨bu,bL,cX⟩:=aK (by omega);have ap:i+d<ops.size:=by omega
      obtain⟨am,av⟩:=aF (i+d) ap;obtain⟨aM,bI,aJ,aV,aN,bO,bh⟩:=ar (i+d) am av;obtain⟨g1,g2⟩:=cg (i+d) (by omega) (by omega);refine⟨?_,?_,?_⟩
      ·rw[show i+(d+1)=i+d+1 by omega,aJ.env,<- aV,<- bu];cases bp:am.dst with
       | none=>rfl
       | some q=>exact Qgb _ _ (λh=>g1 am av (by rw[bp,h]))
      ·rw[show i+(d+1)=i+d+1 by omega,bc (i+d) (by omega) ap bu g2 cX,bL]
      rw[show i+(d+1)=i+d+1 by omega];have:=aJ.y;rw[<- aN]at this;omega
    obtain⟨r1,r2,r3⟩:=cK (aa - i) (by omega);rw[show i+(aa - i)=aa by omega]at r1 r2 r3;have c8:=bc aa (by omega) aE r1 (.inr (.inr ⟨au,aC.1,aO,by unfold Qe0;rw[o1,o2];rfl⟩)) r3;exact⟨by rw[V4 r2,e2];exact aD,by rw[V4 c8,V4 r2,e2];exact aD,bP⟩
  left;exact⟨bK,cS,ce,b3⟩
 have bT:As ops.size=A1∧Hs ops.size=H1:=by
  have:tr[ops.size]? = none:=N7 (by omega);simp only[As,Hs,Qik,W3,this,RU]
 have cc:As 0=A:=bw;have cf:Hs 0=H:=cd;have:=QwL (id:=id) (Q:=λe A' H'=>e=.normal∧A'=A1∧H'=H1) cD F ⟨rfl,bT.1,bT.2⟩;rwa [cc,cf]at this
def Fp (ks:Kp)(k:Env->Qa->Prop):Ex->Env->Qa->Prop
 | .normal,A,H=>k A H
 | .ret,A,H=>ks.ret A H
 | .exit j,A,H=>j<J0∧ks.ext j A H
 | .goto l,A,H=>ks.ext (J0+l) A H
 | _,_,_=>False
def Qu4 (aa:Ex)(A1:Env)(H1:Qa):Ex->Env->Qa->Prop:=λe A H=>e=aa∧A=A1∧H=H1
def QGl (x y:PC)(ks:Kp)(k:Env->Qa->Prop)(A:Env)(H:Qa):Qk P (sq x y) ks k A H=Qk P x ks (Qk P y ks k) A H:=by
 unfold sq;split<;>rfl
def QD0 (x y:PC)(l:Nat)(hx:x=.skip->True):Gh (sq x y) l=match Gh x l with | some r=>some (sq r y) | none=>Gh y l:=by
 unfold sq;split;·simp[Gh]
 ·rename_i ab;cases aa:Gh x l with
  | none=>simp[Gh]
  | some r=>
   cases r<;>rfl
 rfl
def Qn3:∀ (c:Code) (ab:PC),comp P n c=some ab->∀l,(∀ac,findLabel c l=some ac->∃pr,Gh ab l=some pr∧comp P n ac=some pr)∧(findLabel c l=none->Gh ab l=none):=by
 intro c
 induction c with
 | seq a b ah ai=>
  intro ab h l;simp only[comp]at h;split at h
  ·rename_i x y hx am;simp only[Lt]at h;subst h;obtain⟨a1,a2⟩:=ah x hx l;obtain⟨b1,ao⟩:=ai y am l;rw[QD0 x y l (λ_=>trivial)];cases ag:findLabel a l with
   | some r=>
    obtain⟨pr,aq,ar⟩:=a1 r ag;rw[aq];refine⟨λac aa=>?_,λae=>?_⟩;·simp only[findLabel,ag,Lt]at aa;subst aa;exact⟨_,rfl,by simp only[comp,ar,am]⟩
    simp only[findLabel,ag]at ae;cases ae
   | none=>
    rw[a2 ag];simp only[findLabel,ag];exact⟨b1,ao⟩
  cases h
 | label aj=>
  intro ab h l;simp only[comp,Lt]at h;subst h;refine⟨λac aa=>?_,λae=>?_⟩
  ·simp only[findLabel]at aa;split at aa
   ·rename_i ad;have ad:aj=l:=by simpa using ad
    subst ad;cases aa;exact⟨.skip,by simp[Gh],rfl⟩
   cases aa
  simp only[findLabel]at ae;split at ae;·cases ae
  rename_i ad;have ad:¬aj=l:=by simpa using ad
  simp[Gh,Zn,ad]
 | scope b an=>
  intro ab h l;refine⟨λac aa=>(by cases aa),λ_=>?_⟩;simp only[comp,Lx]at h;obtain⟨ak,al,rfl⟩:=h;unfold QqF;split;·rename_i au;exact nolab ak au l
  ·split;·rfl
   rfl
  rfl
 | region id ops ap=>
  intro ab h l;refine⟨λac aa=>(by cases aa),λ_=>?_⟩;cases ap;·simp only[comp,Lt]at h;subst h;split<;>rfl
  simp only[comp,Lt]at h;subst h;split;·split<;>rfl
  rfl
 | cond x a b ah ai=>
  intro ab h l;refine⟨λac aa=>(by cases aa),λ_=>?_⟩;simp only[comp]at h;split at h
  ·split at h;·cases h;rfl
   cases h
  cases h
 | block id b an=>
  intro ab h l;refine⟨λac aa=>(by cases aa),λ_=>?_⟩;simp only[comp,Lx]at h;obtain⟨ak,al,rfl⟩:=h;cases Nat.blt id J0<;>rfl
 | loop b an=>
  intro ab h l;refine⟨λac aa=>(by cases aa),λ_=>?_⟩;simp only[comp,Lx]at h;obtain⟨ak,al,rfl⟩:=h;rfl
 | rangeFunc g av a b ah ai=>
  intro ab h l;refine⟨λac aa=>(by cases aa),λ_=>?_⟩;simp only[comp]at h;split at h
  ·split at h;·cases h;rfl
   cases h
  cases h
 | exit id=>
  intro ab h l;refine⟨λac aa=>(by cases aa),λ_=>?_⟩;simp only[comp,Lt]at h;subst h;cases Nat.blt id J0<;>rfl
 | _=>
  intro ab h l;refine⟨λac aa=>(by cases aa),λ_=>?_⟩;cases h;rfl
 where
 nolab:∀ (ab:PC),GR ab=[]->∀l,Gh ab l=none
  | .seq a b,h,l=>by
   simp only[GR,List.append_eq_nil_iff]at h;simp only[Gh,nolab a h.1 l,nolab b h.2 l]
  | .label aj,h,l=>by simp[GR]at h
  | .skip,h,l=>rfl
  | .ops _,h,l=>rfl
  | .cond _ _ _,h,l=>rfl
  | .block _ _,h,l=>rfl
  | .loop _,h,l=>rfl
  | .exit _,h,l=>rfl
  | .ret,h,l=>rfl
  | .goto _,h,l=>rfl
  | .scope _ _ _,h,l=>rfl
  | .rangeF _ _ _ _,h,l=>rfl
  | .bad,h,l=>rfl
def QbY:∀ (ac:PC) (l:Nat) (r:PC),Gh ac l=some r->l∈GR ac
 | .seq a b,l,r,h=>by
  simp only[Gh]at h;simp only[GR,LI];cases ab:Gh a l with
  | some q=>exact .inl (QbY a l q ab)
  | none=>rw[ab]at h;exact .inr (QbY b l r h)
 | .label l',l,r,h=>by
  simp only[Gh]at h;cases aa:Nat.beq l' l with
  | true=>simp[GR,LA aa]
  | false=>rw[aa]at h;cases h
 | .skip,l,r,h=>by cases h
 | .ops _,l,r,h=>by cases h
 | .cond _ _ _,l,r,h=>by cases h
 | .block _ _,l,r,h=>by cases h
 | .loop _,l,r,h=>by cases h
 | .exit _,l,r,h=>by cases h
 | .ret,l,r,h=>by cases h
 | .goto _,l,r,h=>by cases h
 | .scope _ _ _,l,r,h=>by cases h
 | .rangeF _ _ _ _,l,r,h=>by cases h
 | .bad,l,r,h=>by cases h
def Snd (P:Program)(n:Nat)(c:Code)(ab:PC):Prop:=∀ (ks:Kp) (k:Env->Qa->Prop) (A:Env) (H:Qa),H.Wf->Qk P ab ks k A H->∃aa A1 H1,H1.Wf∧Fp ks k aa A1 H1∧AWp P n c (Qu4 aa A1 H1) A H
def QA1 {a b:Code}{x y:PC}(aa:Snd P n a x)(ah:Snd P n b y):Snd P n (.seq a b) (sq x y):=by
 intro ks k A H ak h;rw[QGl]at h;obtain⟨ad,A1,H1,ac,ab,aa⟩:=aa ks _ A H ak h;cases ad with
 | normal=>
  obtain⟨ae,A2,H2,aj,ai,ag⟩:=ah ks k A1 H1 ac ab;refine⟨ae,A2,H2,aj,ai,Ql2 (aa.mono ?_)⟩;rintro e A' H' ⟨rfl,rfl,rfl⟩;exact ag
 | ret=>exact⟨.ret,A1,H1,ac,ab,Ql2 (aa.mono (by rintro e A' H' ⟨rfl,rfl,rfl⟩;exact⟨rfl,rfl,rfl⟩))⟩
 | exit j=>exact⟨.exit j,A1,H1,ac,ab,Ql2 (aa.mono (by rintro e A' H' ⟨rfl,rfl,rfl⟩;exact⟨rfl,rfl,rfl⟩))⟩
 | goto j=>exact⟨.goto j,A1,H1,ac,ab,Ql2 (aa.mono (by rintro e A' H' ⟨rfl,rfl,rfl⟩;exact⟨rfl,rfl,rfl⟩))⟩
 | panic v=>exact ab.elim
def QL0 (P:Program)(n:Nat)(c:Code)(ab:PC):Prop:=Snd P n c ab∧∀l aa,findLabel c l=some aa->∃pr,Gh ab l=some pr∧comp P n aa=some pr∧Snd P n aa pr
def Qu5:∀ (c:Code) (ak:PC),comp P n c=some ak->QL0 P n c ak:=by
 intro c
 induction c with
 | skip=>intro ak ab;cases ab;exact⟨λks k A H ad h=>⟨.normal,A,H,ad,h,QqP ⟨rfl,rfl,rfl⟩⟩,λl ah h=>by cases h⟩
 | label l=>
  intro ak ab;cases ab;refine⟨λks k A H ad h=>⟨.normal,A,H,ad,h,QtY ⟨rfl,rfl,rfl⟩⟩,λb6 ah h=>?_⟩;obtain⟨pr,aq,ar⟩:=(Qn3 (P:=P) (n:=n) (.label l) (.label l) rfl b6).1 ah h;refine⟨pr,aq,ar,?_⟩;simp only[findLabel]at h;split at h;·cases h;cases ar;exact λks k A H ad h=>⟨.normal,A,H,ad,h,QqP ⟨rfl,rfl,rfl⟩⟩
  cases h
 | ret=>intro ak ab;cases ab;exact⟨λks k A H ad h=>⟨.ret,A,H,ad,h,QAQ ⟨rfl,rfl,rfl⟩⟩,λl ah h=>by cases h⟩
 | exit id=>
  intro ak ab;simp only[comp,Lt]at ab;subst ab;refine⟨λks k A H ad h=>?_,λl ah h=>by cases h⟩;cases al:Nat.blt id J0 with
  | true=>
   rw[al]at h;exact⟨.exit id,A,H,ad,⟨by simpa using al,h⟩,Qwx ⟨rfl,rfl,rfl⟩⟩
  | false=>rw[al]at h;exact h.elim
 | goto l=>intro ak ab;cases ab;exact⟨λks k A H ad h=>⟨.goto l,A,H,ad,h,Qwy ⟨rfl,rfl,rfl⟩⟩,λl ah h=>by cases h⟩
 | refuse s=>intro ak ab;cases ab;exact⟨λks k A H ad h=>h.elim,λl ah h=>by cases h⟩
 | rangeFunc g aG a b aA aB=>
  intro ak ab;refine⟨λks k A H ad h=>?_,λl ah h=>by cases h⟩;simp only[comp]at ab;split at ab
  ·rename_i aE;split at ab
   ·rename_i aT am an al;cases ab;simp only[Qk]at h;split at h
    ·rename_i f xs bA bp;obtain⟨bo,bm⟩:=h (λst=>Blk.loop A n aG a b st) (λl args H0 Q ap aL bx aY=>by
      have ao:l<H0.y:=aY.lt ap;obtain⟨ae,A1,H1,ac,av,bh⟩:=(aA aT an).1 _ _ _ _ (aY.kill l) bx;cases ae with
      | ret=>exact av.elim
      | exit j=>exact av.2.elim
      | goto j=>exact av.elim
      | panic v=>exact av.elim
      | normal=>
       obtain⟨ae,A2,H2,ay,aj,bi⟩:=(aB am al).1 _ _ _ _ ac av;have aL:args.length=aG.size:=by simpa using aL
       have aR:∀b,H0.y<=H2.y->(H2.set l b).Wf:=λb b7 id aV=>by
        simp only[Qo]at aV;rw[Qh,Le (by omega)];exact ay id aV
       have mk:∀v H',Qq4 l (Blk.loop A n aG a b) v H' ae A2 H2->Qt6 P l args H0 v H':=λv H' b2=>
        Qo8 ap aL (bh.mono (by
         rintro e A' H' ⟨rfl,rfl,rfl⟩;exact bi.mono (by rintro e A' H' ⟨rfl,rfl,rfl⟩;exact b2)))
       cases ae with
       | normal=>exact⟨_,_,mk _ _ ⟨rfl,J4.refl _⟩,by simpa using aj.1,aR _ aj.1,aj.2⟩
       | ret=>exact⟨_,_,mk _ _ ⟨rfl,J4.refl _⟩,by simpa using aj.1,aR _ aj.1,aj.2⟩
       | exit j=>exact⟨_,_,mk _ _ ⟨rfl,J4.refl _⟩,by simpa using aj.2.2.1,aR _ aj.2.2.1,aj.2.2.2⟩
       | goto j=>exact absurd aj.1 (by simp)
       | panic v=>exact aj.elim)
     obtain⟨v,H2,bn,b8,b5,st,ap,ai⟩:=bm (ad.push _);have aQ:(H2.kill H.y).Wf:=b5.kill _;have mk:∀e,QDN (Qu4 e A (H2.kill H.y)) A (H2.kill H.y) st->AWp P n (.rangeFunc g aG a b) (Qu4 e A (H2.kill H.y)) A H:=λe bz=>Qkc aE bp bo bn ap bz;unfold Qzg at ai;split at ai;·exact⟨.normal,A,_,aQ,ai,mk _ ⟨rfl,rfl,rfl⟩⟩
     ·exact⟨.ret,A,_,aQ,ai,mk _ ⟨rfl,rfl,rfl⟩⟩
     ·rename_i j;exact⟨.exit j,A,_,aQ,⟨by simpa using ai.1,ai.2⟩,mk _ ⟨rfl,rfl,rfl⟩⟩
     exact ai.elim
    exact h.elim
   cases ab
  cases ab
 | region id ops bd=>
  intro ak ab;refine⟨λks k A H ad h=>?_,λl ah h=>by cases h⟩;cases bd with
  | false=>
   simp only[comp,Lt]at ab;subst ab;split at h
   ·rename_i ba aN;obtain⟨A1,H1,ac,aK,an⟩:=Qlk ops.toList 0 ba k A H ad aN h;exact⟨.normal,A1,H1,ac,aK,(by
     have ag:AWp P n (.region id ops.toList.toArray false) (Qu4 .normal A1 H1) A H:=QqQ (l:=ops.toList) (by
      have an:Qla P n ops ops.toList (Qu4 .normal A1 H1) A H:=an;simpa using an)
     simpa using ag)⟩
   exact h.elim
  | true=>
   simp only[comp,Lt]at ab;subst ab;split at h
   ·rename_i au;simp only[Lm]at au;split at h;·rename_i ba aN;obtain⟨A1,H1,ac,aK,an⟩:=Qzq (id:=id) ad au.1.1.1 (λo bu=>by simpa using B1.1 au.2 o bu) au.1.1.2 au.1.2 aN h;exact⟨.normal,A1,H1,ac,aK,an⟩
    exact h.elim
   exact h.elim
 | seq a b aA aB=>
  intro ak ab;have bj:=ab;simp only[comp]at ab;split at ab
  ·rename_i x y hx aZ;simp only[Lt]at ab;subst ab;obtain⟨a1,a2⟩:=aA x hx;obtain⟨b1,bc⟩:=aB y aZ;refine⟨QA1 a1 b1,λl ah h=>?_⟩;obtain⟨pr,aq,ar⟩:=(Qn3 _ _ bj l).1 ah h;refine⟨pr,aq,ar,?_⟩;cases aa:findLabel a l with
   | some r=>
    simp only[findLabel,aa,Lt]at h;subst h;obtain⟨p1,aH,aC,aD⟩:=a2 l r aa;simp only[comp,aC,aZ,Lt]at ar;subst ar;exact QA1 aD b1
   | none=>
    simp only[findLabel,aa]at h;obtain⟨p1,aH,aC,aD⟩:=bc l ah h;rw[ar]at aC;cases aC;exact aD
  cases ab
 | cond x a b aA aB=>
  intro ak ab;refine⟨λks k A H ad h=>?_,λl ah h=>by cases h⟩;simp only[comp]at ab;split at ab
  ·rename_i aE;split at ab
   ·rename_i aT am an al;cases ab;simp only[Qk]at h;split at h
    ·rename_i t aX;cases t with
     | true=>
      obtain⟨ae,A1,H1,ac,aa,ag⟩:=(aA aT an).1 ks k A H ad (h.1 rfl);exact⟨ae,A1,H1,ac,aa,Ql3 (t:=true) aE aX ag⟩
     | false=>
      obtain⟨ae,A1,H1,ac,aa,ag⟩:=(aB am al).1 ks k A H ad (h.2 rfl);exact⟨ae,A1,H1,ac,aa,Ql3 (t:=false) aE aX ag⟩
    exact h.elim
   cases ab
  cases ab
 | block id b az=>
  intro ak ab;refine⟨λks k A H ad h=>?_,λl ah h=>by cases h⟩;simp only[comp,Lx]at ab;obtain⟨am,al,rfl⟩:=ab;cases ao:Nat.blt id J0 with
  | false=>rw[ao]at h;exact h.elim
  | true=>
   rw[ao]at h;have ao:id<J0:=by simpa using ao
   obtain⟨ae,A1,H1,ac,aa,ag⟩:=(az am al).1 _ k A H ad h;cases ae with
   | normal=>exact⟨.normal,A1,H1,ac,aa,Qb8 (ag.mono (by rintro e A' H' ⟨rfl,rfl,rfl⟩;exact⟨rfl,rfl,rfl⟩))⟩
   | ret=>exact⟨.ret,A1,H1,ac,aa,Qb8 (ag.mono (by rintro e A' H' ⟨rfl,rfl,rfl⟩;exact⟨rfl,rfl,rfl⟩))⟩
   | exit j=>
    simp only[Fp]at aa
    by_cases ai:j=id;·rw[Lc ai]at aa;exact⟨.normal,A1,H1,ac,aa.2,Qb8 (ag.mono (by rintro e A' H' ⟨rfl,rfl,rfl⟩;simp only[Ql4,Lc ai];exact⟨rfl,rfl,rfl⟩))⟩
    rw[Le ai]at aa;exact⟨.exit j,A1,H1,ac,aa,Qb8 (ag.mono (by rintro e A' H' ⟨rfl,rfl,rfl⟩;simp only[Ql4,Le ai];exact⟨rfl,rfl,rfl⟩))⟩
   | goto j=>
    simp only[Fp]at aa;rw[Le (by omega)]at aa;exact⟨.goto j,A1,H1,ac,aa,Qb8 (ag.mono (by rintro e A' H' ⟨rfl,rfl,rfl⟩;exact⟨rfl,rfl,rfl⟩))⟩
   | panic v=>exact aa.elim
 | loop b az=>
  intro ak ab;refine⟨λks k A H ad h=>?_,λl ah h=>by cases h⟩;simp only[comp,Lx]at ab;obtain⟨am,al,rfl⟩:=ab;obtain⟨I,⟨m,aM⟩,aP⟩:=h;have key:∀m A H,H.Wf->I m A H->∃ae A1 H1,H1.Wf∧Fp ks k ae A1 H1∧Qif P n b (Qu4 ae A1 H1) A H:=by
   intro m
   induction m using Nat.strongRecOn with
   | _ m aS=>
    intro A H ad aJ;obtain⟨ae,A1,H1,ac,aa,ag⟩:=(az am al).1 ks _ A H ad (aP m A H aJ);cases ae with
    | normal=>
     obtain⟨aF,ao,bg⟩:=aa;obtain⟨aI,A2,H2,ay,aj,bq⟩:=aS aF ao A1 H1 ac bg;exact⟨aI,A2,H2,ay,aj,QeW (ag.mono (by rintro e A' H' ⟨rfl,rfl,rfl⟩;exact bq))⟩
    | ret=>exact⟨.ret,A1,H1,ac,aa,QeW (ag.mono (by rintro e A' H' ⟨rfl,rfl,rfl⟩;exact⟨rfl,rfl,rfl⟩))⟩
    | exit j=>exact⟨.exit j,A1,H1,ac,aa,QeW (ag.mono (by rintro e A' H' ⟨rfl,rfl,rfl⟩;exact⟨rfl,rfl,rfl⟩))⟩
    | goto j=>exact⟨.goto j,A1,H1,ac,aa,QeW (ag.mono (by rintro e A' H' ⟨rfl,rfl,rfl⟩;exact⟨rfl,rfl,rfl⟩))⟩
    | panic v=>exact aa.elim
  obtain⟨ae,A1,H1,ac,aa,ag⟩:=key m A H ad aM;exact⟨ae,A1,H1,ac,aa,Qo6 ag⟩
 | scope b az=>
  intro ak ab;refine⟨λks k A H ad h=>?_,λl ah h=>by cases h⟩;simp only[comp,Lx]at ab;obtain⟨am,al,rfl⟩:=ab;have ax:=az am al;have plain:(∀l,findLabel b l=none)->Qk P am ks k A H->∃ae A1 H1,H1.Wf∧Fp ks k ae A1 H1∧AWp P n (.scope b) (Qu4 ae A1 H1) A H:=λbr h=>by
   obtain⟨ae,A1,H1,ac,aa,ag⟩:=ax.1 ks k A H ad h;refine⟨ae,A1,H1,ac,aa,Qgi (KX (ag.mono ?_))⟩;rintro e A' H' ⟨rfl,rfl,rfl⟩;cases e with
   | goto j=>simp only[QB9,br j];exact⟨rfl,rfl,rfl⟩
   | _=>exact⟨rfl,rfl,rfl⟩
  unfold QqF at h;split at h
  ·rename_i ap;refine plain (λl=>?_) h;cases aa:findLabel b l with
   | none=>rfl
   | some r=>
    obtain⟨pr,aq,_⟩:=ax.2 l r aa;have:=QbY _ _ _ aq;rw[ap]at this;cases this
  ·rename_i l ap;split at h
   ·rename_i r aO;obtain⟨I,⟨m,aM⟩,aP⟩:=h;obtain⟨ah,aW⟩:∃ah,findLabel b l=some ah:=by
     cases aa:findLabel b l with
     | none=>rw[(Qn3 b am al l).2 aa]at aO;cases aO
     | some ah=>exact⟨ah,rfl⟩
    obtain⟨pr,aH,aC,aD⟩:=ax.2 l ah aW;rw[aO]at aH;cases aH;have bw:∀j,j≠l->findLabel b j=none:=λj ai=>by
     cases aa:findLabel b j with
     | none=>rfl
     | some r2=>
      obtain⟨b9,aq,_⟩:=ax.2 j r2 aa;have:=QbY _ _ _ aq;rw[ap,Sa]at this;exact absurd this ai
    have key:∀m (c:Code) (aU:PC),Snd P n c aU->∀A H,H.Wf->Qk P aU ⟨ks.ret,jmK l I m ks.ext⟩ k A H->∃ae A1 H1,H1.Wf∧Fp ks k ae A1 H1∧QdI P n b c (Qu4 ae A1 H1) A H:=by
     intro m
     induction m using Nat.strongRecOn with
     | _ m aS=>
      intro c aU b4 A H ad hx;obtain⟨ae,A1,H1,ac,aa,ag⟩:=b4 _ k A H ad hx;cases ae with
      | normal=>exact⟨.normal,A1,H1,ac,aa,KX (ag.mono (by rintro e A' H' ⟨rfl,rfl,rfl⟩;exact⟨rfl,rfl,rfl⟩))⟩
      | ret=>exact⟨.ret,A1,H1,ac,aa,KX (ag.mono (by rintro e A' H' ⟨rfl,rfl,rfl⟩;exact⟨rfl,rfl,rfl⟩))⟩
      | exit j=>
       simp only[Fp,jmK]at aa;rw[Le (by omega)]at aa;exact⟨.exit j,A1,H1,ac,aa,KX (ag.mono (by rintro e A' H' ⟨rfl,rfl,rfl⟩;exact⟨rfl,rfl,rfl⟩))⟩
      | goto j=>
       simp only[Fp,jmK]at aa
       by_cases ai:j=l;·subst ai;rw[Lc rfl]at aa;obtain⟨aF,ao,aJ⟩:=aa;obtain⟨aI,A2,H2,ay,aj,b3⟩:=aS aF ao ah r aD A1 H1 ac (aP aF A1 H1 aJ);refine⟨aI,A2,H2,ay,aj,KX (ag.mono ?_)⟩;rintro e A' H' ⟨rfl,rfl,rfl⟩;simp only[QB9,aW];exact b3
       rw[Le (by omega)]at aa;refine⟨.goto j,A1,H1,ac,aa,KX (ag.mono ?_)⟩;rintro e A' H' ⟨rfl,rfl,rfl⟩;simp only[QB9,bw j ai];exact⟨rfl,rfl,rfl⟩
      | panic v=>exact aa.elim
    obtain⟨ae,A1,H1,ac,aa,ag⟩:=key m b am ax.1 A H ad aM;exact⟨ae,A1,H1,ac,aa,Qgi ag⟩
   exact h.elim
  exact h.elim
def QwX (c:Code)(aa:PC)(ks:Kp)(k:Env->Qa->Prop)(A:Env)(H:Qa)(ad:H.Wf)(ac:comp P n c=some aa)(h:Qk P aa ks k A H):
  ∃ab A1 H1,H1.Wf∧Fp ks k ab A1 H1∧AWp P n c (Qu4 ab A1 H1) A H:=(Qu5 c aa ac).1 ks k A H ad h
def QpV (P:Program)(fn:Func)(k:Value->Qa->Prop):Env->Qa->Prop:=λA H=>∃v,QhP P fn.ntmps fn.results A H=some v∧∃H2,J4 H2 H∧(H.Wf->H2.Wf)∧k v H2
def Qre {f:FuncId}{fn:Func}{ac:PC}{args:List Value}{H:Qa}{k:Value->Qa->Prop}(al:P.funcs[f]? = some fn)(aj:fn.body.bind (comp P fn.ntmps)=some ac)(ak:entered P f=true)(ao:args.length<=fn.ntmps)
  (h:H.Wf->Qk P ac ⟨QpV P fn λv H'=>H.y<=H'.y∧k v H',λ_ _ _=>False⟩ (QpV P fn λv H'=>H.y<=H'.y∧k v H') (Qcf args) H):Qe P f args H k:=by
 obtain⟨c,ah,ai⟩:=BY.1 aj;intro ad;obtain⟨ab,A1,H1,an,aa,am⟩:=QwX c ac _ _ (Qcf args) H ad ai (h ad);have ag:args.length+(fn.ntmps - args.length)=fn.ntmps:=by omega
 have ae:QpV P fn (λv H'=>H.y<=H'.y∧k v H') A1 H1->(ab=.normal∨ab=.ret)->∃v H',Kd P f args H v H'∧H.y<=H'.y∧H'.Wf∧k v H':=fun⟨v,hv,H2,hle,hw2,hn,hk⟩ hex=>by
  refine⟨v,H2,.inl ⟨ak,QqY al ah ?_⟩,hn,hw2 an,hk⟩;rw[ag];refine am.mono ?_;rintro e A' H' ⟨rfl,rfl,rfl⟩;rcases hex with rfl | rfl;·exact⟨v,rfl,hv,hle⟩
  exact⟨v,rfl,hv,hle⟩
 cases ab with
 | normal=>exact ae aa (.inl rfl)
 | ret=>exact ae aa (.inr rfl)
 | exit j=>exact aa.2.elim
 | goto j=>exact aa.elim
 | panic v=>exact aa.elim
def YQ.mono {l:Nat}{args:List Value}{H:Qa}{k aa:Value->Qa->Prop}(h:YQ P l args H k)(ag:∀v H',k v H'->aa v H'):YQ P l args H aa:=by
 intro ah;obtain⟨v,H',ab,ac,ad,ae⟩:=h ah;exact⟨v,H',ab,ac,ad,ag v H' ae⟩
def YQ.then {l:Nat}{args:List Value}{H:Qa}{k ab:Value->Qa->Prop}(h:YQ P l args H k)(ag:∀v H',H.y<=H'.y->k v H'->ab v H'):YQ P l args H ab:=by
 intro ah;obtain⟨v,H',ac,aa,ad,ae⟩:=h ah;exact⟨v,H',ac,aa,ad,ag v H' aa ae⟩
def Qe.mono {f:FuncId}{args:List Value}{H:Qa}{k aa:Value->Qa->Prop}(h:Qe P f args H k)(ag:∀v H',k v H'->aa v H'):Qe P f args H aa:=by
 intro ah;obtain⟨v,H',ab,ac,ad,ae⟩:=h ah;exact⟨v,H',ab,ac,ad,ag v H' ae⟩
def Qe.then {f:FuncId}{args:List Value}{H:Qa}{k ab:Value->Qa->Prop}(h:Qe P f args H k)(ag:∀v H',H.y<=H'.y->k v H'->ab v H'):Qe P f args H ab:=by
 intro ah;obtain⟨v,H',ac,aa,ad,ae⟩:=h ah;exact⟨v,H',ac,aa,ad,ag v H' aa ae⟩
def QeB {f:FuncId}{args:List Value}{H:Qa}{v:Value}(aa:entered P f=true)(h:Qce P f args H (.ret v) H):Qe P f args H λu H'=>u=v∧H'=H:=
 λab=>⟨v,H,.inl ⟨aa,h⟩,Lb _,ab,rfl,rfl⟩
end
def Qa.up (H:Qa)(m:Nat):Qa:=⟨m,H.tr⟩
def Xo (H:Qa)(m id:Nat):(H.up m).get id=H.get id:=Nu rfl rfl
@[simp] theorem Qw (H:Qa) (m:Nat):(H.up m).y=m:=Nu rfl rfl
@[simp] theorem Qa.up_up (H:Qa) (m m':Nat):(H.up m).up m'=H.up m':=rfl
def Qa.up_self (H:Qa):H.up H.y=H:=rfl
def J4.up {H H1:Qa}{m:Nat}(aa:H1.y<=m)(h:∀id b,H.get id=some b->H1.get id=some b):J4 (H.up m) H1:=⟨aa,h⟩
abbrev t (n:Nat):Operand:=.tmp n
def U:Env:=λ_=>undef
def QwY (A:Env)(d:Nat)(v:Value):upd A d v d=v:=Qh6 A d v
def QA2 (A:Env)(d n:Nat)(v:Value):upd A d v n=bif n==d then v else A n:=by
 by_cases h:n=d;·subst h;simp
 have e:(n==d)=false:=beq_false_of_ne h;rw[Qgb A v h,e];rfl
def QKT (A:Env)(n:Nat):ev A (t n)=A n:=Nu rfl rfl
def QwZ (A:Env)(v:Value):ev A (.const v)=v:=Nu rfl rfl
def QCo (A:Env)(g:Nat):ev A (.global g)=.pointer (some ⟨g,0,none⟩):=Nu rfl rfl
def QGm (A:Env)(f:Nat):ev A (.func f)=.func (.func f) #[] #[]:=Nu rfl rfl
def Gi (A:Env)(d:Nat)(v:Value):J5 A (some d) v=upd A d v:=Nu rfl rfl
def Qug (A:Env)(v:Value):J5 A none v=A:=Nu rfl rfl
def QL1:Qcf []=U:=by funext n;simp[Qcf,U]
def QL2 (a:Value):Qcf [a]=upd U 0 a:=by
 funext n;rcases n with _ | n<;>rfl
def QL3 (a b:Value):Qcf [a,b]=upd (upd U 0 a) 1 b:=by
 funext n;rcases n with _ | _ | n<;>rfl
def QL4 (a b c:Value):Qcf [a,b,c]=upd (upd (upd U 0 a) 1 b) 2 c:=by
 funext n;rcases n with _ | _ | _ | n<;>rfl
def QL5 (a b c d:Value):Qcf [a,b,c,d]=upd (upd (upd (upd U 0 a) 1 b) 2 c) 3 d:=by
 funext n;rcases n with _ | _ | _ | _ | n<;>rfl
def QL6 (a b c d e:Value):Qcf [a,b,c,d,e]=upd (upd (upd (upd (upd U 0 a) 1 b) 2 c) 3 d) 4 e:=by
 funext n;rcases n with _ | _ | _ | _ | _ | n<;>rfl
section
variable {k:Value->Qa->Prop} {v:Value} {H H':Qa}
def Qs:onS (some (v,H')) k=k v H':=by
 apply propext;constructor;·rintro⟨ab,H1,h,aa⟩;cases h;exact aa
 exact λh=>⟨_,_,rfl,h⟩
def Qrf:onS none k=False:=by
 apply propext;constructor;·rintro⟨ab,H1,h,aa⟩;cases h
 exact λh=>h.elim
def Qmg {c:Prop}[Decidable c]{a:Option (Value×Qa)}:onS (if c then a else none) k=(c∧onS a k):=by
 by_cases h:c;·simp[h]
 simp[h,Qrf]
def Qil {r:Option Value}:onS (Qih H r) k=∃v,r=some v∧k v H:=by
 cases r with
 | none=>simp[Qih,Qrf]
 | some u=>simp[Qih,Qs]
end
/-! ### Code -/
section
variable {P:Program}
def Qpk (P:Program)(l:List PO)(k:Env->Qa->Prop)(A:Env)(d:Option Nat)(v:Value)(H:Qa):Prop:=QaS P l k (J5 A d v) H
def KZ (l:List PO)(k:Env->Qa->Prop)(A:Env)(d:Nat)(v:Value)(H:Qa):Qpk P l k A (some d) v H=QaS P l k (upd A d v) H:=Nu rfl rfl
def Qzr (l:List PO)(k:Env->Qa->Prop)(A:Env)(v:Value)(H:Qa):Qpk P l k A none v H=QaS P l k A H:=Nu rfl rfl
def gB (b:Bool)(P:Program)(r:R)(s:Bool)(l:List PO)(k:Env->Qa->Prop)(A:Env)(d:Option Nat)(H:Qa):Prop:=
 (b=true->pr P r s A H (Qpk P l k A d))∧(b=false->QaS P l k (J5 A d undef) H)
def gV (v:Value)(w:Bool)(P:Program)(r:R)(s:Bool)(l:List PO)(k:Env->Qa->Prop)(A:Env)(d:Option Nat)(H:Qa):Prop:=
 match v with
 | .bool b=>gB (b==w) P r s l k A d H
 | .tuple _=>QaS P l k (J5 A d undef) H
 | _=>False
def QGn (r:R)(s:Bool)(l:List PO)(k:Env->Qa->Prop)(A:Env)(d:Option Nat)(H:Qa):gB true P r s l k A d H=pr P r s A H (Qpk P l k A d):=by simp[gB]
def QD1 (r:R)(s:Bool)(l:List PO)(k:Env->Qa->Prop)(A:Env)(d:Option Nat)(H:Qa):gB false P r s l k A d H=QaS P l k (J5 A d undef) H:=by simp[gB]
def QGo (b w:Bool)(r:R)(s:Bool)(l:List PO)(k:Env->Qa->Prop)(A:Env)(d:Option Nat)(H:Qa):gV (.bool b) w P r s l k A d H=gB (b==w) P r s l k A d H:=Nu rfl rfl
def QD2 (w:Bool)(r:R)(s:Bool)(l:List PO)(k:Env->Qa->Prop)(A:Env)(d:Option Nat)(H:Qa):gV undef w P r s l k A d H=QaS P l k (J5 A d undef) H:=Nu rfl rfl
def bt (b:Bool):(b==true)=b:=by cases b<;>rfl
def bf (b:Bool):(b==false)=!b:=by cases b<;>rfl
def Qcj (k:Env->Qa->Prop)(A:Env)(H:Qa):QaS P [] k A H=k A H:=Nu rfl rfl
def QjH (d:Option Nat)(r:R)(s:Bool)(l:List PO)(k:Env->Qa->Prop)(A:Env)(H:Qa):QaS P (⟨d,r,none,s⟩::l) k A H=pr P r s A H (Qpk P l k A d):=Nu rfl rfl
def Qzs (d:Option Nat)(r:R)(n:Nat)(w s:Bool)(l:List PO)(k:Env->Qa->Prop)(A:Env)(H:Qa):QaS P (⟨d,r,some (n,w),s⟩::l) k A H=gV (A n) w P r s l k A d H:=by
 show pg (some (n,w)) A (pr P r s A H (Qpk P l k A d)) (QaS P l k (J5 A d undef) H)=_;show(match A n with | .bool b=>if b=w then pr P r s A H (Qpk P l k A d) else QaS P l k (J5 A d undef) H | .tuple _=>QaS P l k (J5 A d undef) H | _=>False)=_;unfold gV;cases A n<;>try rfl
 rename_i b;cases b<;>cases w<;>simp[gB]
def Qll (ks:Kp)(k:Env->Qa->Prop)(A:Env)(H:Qa):Qk P .skip ks k A H=k A H:=Nu rfl rfl
def QCp (ks:Kp)(k:Env->Qa->Prop)(A:Env)(H:Qa):Qk P .ret ks k A H=ks.ret A H:=Nu rfl rfl
def Qzt (id:Nat)(ks:Kp)(k:Env->Qa->Prop)(A:Env)(H:Qa):Qk P (.exit id) ks k A H=ks.ext id A H:=Nu rfl rfl
def QCq (l:List PO)(ks:Kp)(k:Env->Qa->Prop)(A:Env)(H:Qa):Qk P (.ops l) ks k A H=QaS P l k A H:=Nu rfl rfl
def Gj (a b:PC)(ks:Kp)(k:Env->Qa->Prop)(A:Env)(H:Qa):Qk P (.seq a b) ks k A H=Qk P a ks (Qk P b ks k) A H:=Nu rfl rfl
def Qpl (l:Nat)(ks:Kp)(k:Env->Qa->Prop)(A:Env)(H:Qa):Qk P (.label l) ks k A H=k A H:=Nu rfl rfl
def Qzu (l:Nat)(ks:Kp)(k:Env->Qa->Prop)(A:Env)(H:Qa):Qk P (.goto l) ks k A H=ks.ext (J0+l) A H:=Nu rfl rfl
def Qpm {b r:PC}{l:Nat}{ks:Kp}{k:Env->Qa->Prop}{A:Env}{H:Qa}(I:Nat->Env->Qa->Prop)(m:Nat)(aa:Qk P b ⟨ks.ret,jmK l I m ks.ext⟩ k A H)(h:∀m A' H',I m A' H'->Qk P r ⟨ks.ret,jmK l I m ks.ext⟩ k A' H'):Qk P (.scope b l r) ks k A H:=
 ⟨I,⟨m,aa⟩,h⟩
def exK (id:Nat)(k:Env->Qa->Prop)(e:Nat->Env->Qa->Prop)(j:Nat):Env->Qa->Prop:=if j=id then k else e j
def QD4 (id:Nat)(k:Env->Qa->Prop)(e:Nat->Env->Qa->Prop)(A:Env)(H:Qa):exK id k e id A H=k A H:=by simp[exK]
def Qn4 (id j:Nat)(k:Env->Qa->Prop)(e:Nat->Env->Qa->Prop)(A:Env)(H:Qa)(h:j≠id):exK id k e j A H=e j A H:=by simp[exK,h]
def Xi:Nat->Env->Qa->Prop:=λ_ _ _=>False
def Qpn (id:Nat)(b:PC)(ks:Kp)(k:Env->Qa->Prop)(A:Env)(H:Qa):Qk P (.block id b) ks k A H=Qk P b ⟨ks.ret,exK id k ks.ext⟩ k A H:=Nu rfl rfl
def QI2 (r:Env->Qa->Prop)(e:Nat->Env->Qa->Prop):(Kp.mk r e).ret=r:=Nu rfl rfl
def QI3 (r:Env->Qa->Prop)(e:Nat->Env->Qa->Prop):(Kp.mk r e).ext=e:=Nu rfl rfl
def cB (b:Bool)(P:Program)(x y:PC)(ks:Kp)(k:Env->Qa->Prop)(A:Env)(H:Qa):Prop:=(b=true->Qk P x ks k A H)∧(b=false->Qk P y ks k A H)
def cV (v:Value)(P:Program)(x y:PC)(ks:Kp)(k:Env->Qa->Prop)(A:Env)(H:Qa):Prop:=match v with
 | .bool b=>cB b P x y ks k A H
 | _=>False
def Qzv (c:Operand)(x y:PC)(ks:Kp)(k:Env->Qa->Prop)(A:Env)(H:Qa):Qk P (.cond c x y) ks k A H=cV (ev A c) P x y ks k A H:=Nu rfl rfl
def QGp (b:Bool)(x y:PC)(ks:Kp)(k:Env->Qa->Prop)(A:Env)(H:Qa):cV (.bool b) P x y ks k A H=cB b P x y ks k A H:=Nu rfl rfl
def QA3 (x y:PC)(ks:Kp)(k:Env->Qa->Prop)(A:Env)(H:Qa):cB true P x y ks k A H=Qk P x ks k A H:=by simp[cB]
def Qrg (x y:PC)(ks:Kp)(k:Env->Qa->Prop)(A:Env)(H:Qa):cB false P x y ks k A H=Qk P y ks k A H:=by simp[cB]
/-! ### Operations -/
variable {k:Value->Qa->Prop} {A:Env} {H:Qa}
def flK (H:Qa)(k:Value->Qa->Prop)(v:Value)(H':Qa):Prop:=Qj H.y 6 v=true∧k v H'
def QCr (H:Qa)(k:Value->Qa->Prop)(v:Value)(H':Qa):flK H k v H'=(Qj H.y 6 v=true∧k v H'):=Nu rfl rfl
def stK (H:Qa)(k:Value->Qa->Prop)(v:Value)(H':Qa):Prop:=(∀id,H'.get id=H.get id)∧k v H'
def QCs (H:Qa)(k:Value->Qa->Prop)(v:Value)(H':Qa):stK H k v H'=((∀id,H'.get id=H.get id)∧k v H'):=Nu rfl rfl
def Q4 (r:Option (Value×Qa)):onS r (λv H'=>(false=true->Qj H.y 6 v=true)∧k v H')=onS r k:=by
 congr 1;funext v H';simp
def QGq (r:Option (Value×Qa)):onS r (λv H'=>(true=true->Qj H.y 6 v=true)∧k v H')=onS r (flK H k):=by
 congr 1;funext v H';simp[flK]
def QGr (f:FuncId)(l:List Operand):pr P (.call f l) false A H k=Qe P f (l.map (ev A)) H k:=by
 show Qe P f (l.map (ev A)) H (λv H'=>(false=true->∀id,H'.get id=H.get id)∧k v H')=_;congr 1;funext v H';simp
def Qzw (f:FuncId)(l:List Operand):pr P (.call f l) true A H k=Qe P f (l.map (ev A)) H (stK H k):=by
 show Qe P f (l.map (ev A)) H (λv H'=>(true=true->∀id,H'.get id=H.get id)∧k v H')=_;congr 1;funext v H';simp[stK]
def kpK (H:Qa)(k:Value->Qa->Prop)(v:Value)(H':Qa):Prop:=EqB H H'∧k v H'
def QCt (H:Qa)(k:Value->Qa->Prop)(v:Value)(H':Qa):kpK H k v H'=(EqB H H'∧k v H'):=Nu rfl rfl
def Qw0 (n:Nat):List Value->Prop
 | []=>True
 | v::l=>Qn2 n v∧Qw0 n l
def QD5 (n:Nat):Qw0 n []=True:=Nu rfl rfl
def QCu (n:Nat)(v:Value)(l:List Value):Qw0 n (v::l)=(Qn2 n v∧Qw0 n l):=Nu rfl rfl
def QD6 (n b o:Nat):Qn2 n (.pointer (some ⟨b,o,none⟩))=(b<n):=Nu rfl rfl
def Qzx (n b o l c:Nat):Qn2 n (.slice (some ⟨b,o,none⟩) l c)=(b<n):=Nu rfl rfl
def Qrh (n:Nat)(f:Operand->Value):∀l:List Operand,(∀z∈l,Qn2 n (f z))↔Qw0 n (l.map f)
 | []=>⟨λ_=>trivial,λ_ _ h=>by cases h⟩
 | x::l=>by
  have aa:=Qrh n f l;simp only[LK,forall_eq_or_imp,NZ,Qw0,aa]
def QD7 (f:FuncId)(l os:List Operand)(s:Bool):pr P (.callF f l os) s A H k=(Qw0 H.y (os.map (ev A))∧Qe P f (l.map (ev A)) H (kpK H k)):=by
 show((∀z∈os,Qn2 H.y (ev A z))∧Qe P f (l.map (ev A)) H λv H'=>EqB H H'∧k v H')=_;rw[Qrh];rfl
def Qpo (H H':Qa):List Value->Prop
 | []=>True
 | v::l=>Qrb H H' v∧Qpo H H' l
def QCv (H H':Qa):Qpo H H' []=True:=Nu rfl rfl
def Qzy (H H':Qa)(v:Value)(l:List Value):Qpo H H' (v::l)=(Qrb H H' v∧Qpo H H' l):=Nu rfl rfl
def QCw (H H':Qa)(b o:Nat):Qrb H H' (.pointer (some ⟨b,o,none⟩))=(H'.get b=H.get b):=Nu rfl rfl
def Quh (H H':Qa)(f:Operand->Value):∀l:List Operand,(∀z∈l,Qrb H H' (f z))↔Qpo H H' (l.map f)
 | []=>⟨λ_=>trivial,λ_ _ h=>by cases h⟩
 | x::l=>by
  have aa:=Quh H H' f l;simp only[LK,forall_eq_or_imp,NZ,Qpo,aa]
def kpG (H:Qa)(vs:List Value)(k:Value->Qa->Prop):Value->Qa->Prop:=λv H'=>Qpo H H' vs∧k v H'
def QCx (H:Qa)(vs:List Value)(k:Value->Qa->Prop)(v:Value)(H':Qa):kpG H vs k v H'=(Qpo H H' vs∧k v H'):=Nu rfl rfl
def QD8 (f:FuncId)(l os:List Operand)(s:Bool):pr P (.callG f l os) s A H k=(Qw0 H.y (os.map (ev A))∧Qe P f (l.map (ev A)) H (kpG H (os.map (ev A)) k)):=by
 show((∀z∈os,Qn2 H.y (ev A z))∧Qe P f (l.map (ev A)) H λv H'=>(∀z∈os,Qrb H H' (ev A z))∧k v H')=_;rw[Qrh];have e:(λv H'=>(∀z∈os,Qrb H H' (ev A z))∧k v H')=kpG H (os.map (ev A)) k:=by
  funext v H';unfold kpG;rw[Quh]
 rw[e]
abbrev cgA:=And.intro @QD8 (And.intro @QCx (And.intro @QCv (And.intro @Qzy @QCw)))
def cvK (v:Value)(P:Program)(l:List Value)(H:Qa)(k:Value->Qa->Prop):Prop:=match v with
 | .func (.func f) xs ys=>Qe P f (xs.toList++l++ys.toList) H k
 | .func (.yield y) ⟨[]⟩ ⟨[]⟩=>YQ P y l H k
 | _=>False
def Zz (y:Nat)(l:List Value):cvK (.func (.yield y) #[] #[]) P l H k=YQ P y l H k:=Nu rfl rfl
def QaA (f:FuncId)(xs aa l:List Value):cvK (.func (.func f) xs.toArray aa.toArray) P l H k=Qe P f (xs++l++aa) H k:=Nu rfl rfl
def QD9 (c:Operand)(l:List Operand):pr P (.callv c l) false A H k=cvK (ev A c) P (l.map (ev A)) H k:=by
 show(match ev A c with | .func (.func f) xs ys=>Qe P f (xs.toList++l.map (ev A)++ys.toList) H (λv H'=>(false=true->∀id,H'.get id=H.get id)∧k v H') | .func (.yield y) ⟨[]⟩ ⟨[]⟩=>YQ P y (l.map (ev A)) H (λv H'=>(false=true->∀id,H'.get id=H.get id)∧k v H') | _=>False)=_;unfold cvK;split<;>first | rfl | skip
 all_goals (congr 1;funext v H';simp)
def QA4 (x:Operand):pr P (.mv x) false A H k=k (ev A x) H:=(Q4 _).trans Qs
def QIw (c x y:Value)(H:Qa)(k:Value->Qa->Prop):Prop:=onS (match c with | .bool b=>some (bif b then x else y,H) | _=>none) k
def QGs (c x y:Operand):pr P (.pick c x y) false A H k=QIw (ev A c) (ev A x) (ev A y) H k:=Q4 _
def Qzz (b:Bool)(x y:Value):QIw (.bool b) x y H k=k (bif b then x else y) H:=Qs
def K1 (op:BinOp)(x y:Value)(H:Qa)(k:Value->Qa->Prop):Prop:=∃v,KY op x y=some v∧k v H
def QI4 (op:BinOp)(x y:Operand):pr P (.bin op x y) false A H k=K1 op (ev A x) (ev A y) H k:=(Q4 _).trans Qil
def Wq {op:BinOp}{x y v:Value}(h:KY op x y=some v):K1 op x y H k=k v H:=by
 apply propext;constructor;·rintro⟨u,aa,ab⟩;rw[h]at aa;cases aa;exact ab
 exact λac=>⟨v,h,ac⟩
def QGt (ik:IntKind)(a b:Int):K1 .add (.int ik a) (.int ik b) H k=k (.int ik (ik.wrap (a+b))) H:=Wq (by simp[KY,YK])
def QGu (ik:IntKind)(a b:Int):K1 .sub (.int ik a) (.int ik b) H k=k (.int ik (ik.wrap (a - b))) H:=Wq (by simp[KY,YK])
def QGv (ik:IntKind)(a b:Int):K1 .mul (.int ik a) (.int ik b) H k=k (.int ik (ik.wrap (a * b))) H:=Wq (by simp[KY,YK])
def QGw (ik:IntKind)(a b:Int):K1 .and (.int ik a) (.int ik b) H k=k (.int ik (ik.wrap (BitVec.ofInt ik.bits a &&& BitVec.ofInt ik.bits b).toNat)) H:=Wq (by simp[KY,YK])
def QI5 (ik:IntKind)(a b:Int):K1 .or (.int ik a) (.int ik b) H k=k (.int ik (ik.wrap (BitVec.ofInt ik.bits a ||| BitVec.ofInt ik.bits b).toNat)) H:=Wq (by simp[KY,YK])
def QGx (ik:IntKind)(a b:Int):K1 .xor (.int ik a) (.int ik b) H k=k (.int ik (ik.wrap (BitVec.ofInt ik.bits a ^^^ BitVec.ofInt ik.bits b).toNat)) H:=Wq (by simp[KY,YK])
def QzA (ik:IntKind)(a b:Int):K1 .andNot (.int ik a) (.int ik b) H k=k (.int ik (ik.wrap (BitVec.ofInt ik.bits a &&& ~~~BitVec.ofInt ik.bits b).toNat)) H:=Wq (by simp[KY,YK])
def QGy (ik:IntKind)(a b:Int):K1 .eql (.int ik a) (.int ik b) H k=k (.bool (a==b)) H:=Wq (by simp[KY,YK])
def QGz (ik:IntKind)(a b:Int):K1 .neq (.int ik a) (.int ik b) H k=k (.bool (!(a==b))) H:=Wq (by simp[KY,YK,bne])
def QGA (ik:IntKind)(a b:Int):K1 .lss (.int ik a) (.int ik b) H k=k (.bool (decide (a<b))) H:=Wq (by simp[KY,YK])
def QGB (ik:IntKind)(a b:Int):K1 .leq (.int ik a) (.int ik b) H k=k (.bool (decide (a<=b))) H:=Wq (by simp[KY,YK])
def QGC (ik:IntKind)(a b:Int):K1 .gtr (.int ik a) (.int ik b) H k=k (.bool (decide (b<a))) H:=Wq (by simp[KY,YK])
def QGD (ik:IntKind)(a b:Int):K1 .geq (.int ik a) (.int ik b) H k=k (.bool (decide (b<=a))) H:=Wq (by simp[KY,YK])
def QGE (ik:IntKind)(a b:Int):K1 .rem (.int ik a) (.int ik b) H k=(b≠0∧k (.int ik (a.tmod b)) H):=by
 unfold K1;by_cases h:b=0<;>simp[KY,YK,h]
def QGF (ik:IntKind)(a b:Int):K1 .quo (.int ik a) (.int ik b) H k=(b≠0∧k (.int ik (ik.wrap (a.tdiv b))) H):=by
 unfold K1;by_cases h:b=0<;>simp[KY,YK,h]
def QGG (ik aa:IntKind)(a b:Int):K1 .shl (.int ik a) (.int aa b) H k=(0<=b∧k (.int ik (ik.wrap (a * 2 ^ (min b.toNat ik.bits)))) H):=by
 unfold K1;by_cases h:b<0;·simp[KY,Qaw,h];omega
 simp[KY,Qaw,h];intro _;omega
def QGH (ik aa:IntKind)(a b:Int):K1 .shr (.int ik a) (.int aa b) H k=(0<=b∧k (.int ik (a.fdiv (2 ^ (min b.toNat ik.bits)))) H):=by
 unfold K1;by_cases h:b<0;·simp[KY,Qaw,h];omega
 simp[KY,Qaw,h];intro _;omega
def QGI (a b:ByteArray):K1 .eql (.string a) (.string b) H k=k (.bool (bl a==bl b)) H:=Wq (by simp[KY,Qcd])
def QGJ (a b:ByteArray):K1 .neq (.string a) (.string b) H k=k (.bool (!(bl a==bl b))) H:=Wq (by simp[KY,Qcd])
def QEa (a b:ByteArray):K1 .add (.string a) (.string b) H k=((bl a).length+(bl b).length<=9223372036854775807∧k (.string (mkS (bl a++bl b))) H):=by
 unfold K1;by_cases h:(bl a).length+(bl b).length<=9223372036854775807<;>simp[KY,Qcd,h]
def QI6 (ne:Bool)(x y:Value)(H:Qa)(k:Value->Qa->Prop):Prop:=onS (match x,y with | .bool a,.bool b=>some (.bool (bif ne then !(a==b) else a==b),H) | _,_=>none) k
def QI7 (ne:Bool)(x y:Operand):pr P (.beq ne x y) false A H k=QI6 ne (ev A x) (ev A y) H k:=Q4 _
def QGK (a b:Bool):QI6 false (.bool a) (.bool b) H k=k (.bool (a==b)) H:=Qs
def QGL (a b:Bool):QI6 true (.bool a) (.bool b) H k=k (.bool (!(a==b))) H:=Qs
def QGM (ne:Bool)(ks:List Sk)(x y:Value)(H:Qa)(k:Value->Qa->Prop):Prop:=onS (match x,y with
 | .agg xs,.agg ys=>match QbX ks xs ys 0 with | some b=>some (.bool (bif ne then !b else b),H) | none=>none
 | _,_=>none) k
def QI8 (ne:Bool)(ks:List Sk)(x y:Operand):pr P (.eqs ne ks x y) false A H k=QGM ne ks (ev A x) (ev A y) H k:=Q4 _
def QCy {ne:Bool}{ks:List Sk}{xs aa:Array Value}{b:Bool}(h:QbX ks xs aa 0=some b):QGM ne ks (.agg xs) (.agg aa) H k=k (.bool (bif ne then !b else b)) H:=by
 simp only[QGM,h,Qs]
def QKU (x:Value)(H:Qa)(k:Value->Qa->Prop):Prop:=onS (match x with | .bool b=>some (.bool !b,H) | _=>none) k
def QI9 (x:Operand):pr P (.not x) false A H k=QKU (ev A x) H k:=Q4 _
def QCz (b:Bool):QKU (.bool b) H k=k (.bool !b) H:=Qs
def QEb (ik:IntKind)(x:Value)(H:Qa)(k:Value->Qa->Prop):Prop:=onS (match x with | .int _ m=>some (.int ik (ik.wrap m),H) | _=>none) k
def QEc (ik:IntKind)(x:Operand):pr P (.toInt ik x) false A H k=QEb ik (ev A x) H k:=Q4 _
def QzB (ik aa:IntKind)(m:Int):QEb ik (.int aa m) H k=k (.int ik (ik.wrap m)) H:=Qs
def QGN (ty:TypeId)(x:Operand):pr P (.mkIf ty x) false A H k=k (.iface ty (ev A x)) H:=(Q4 _).trans Qs
def QJa (agg:Bool)(off size:Nat)(x:Value)(H:Qa)(k:Value->Qa->Prop):Prop:=onS (match x with
 | .agg cs=>Qih H (bif agg then some (.agg (cs.extract off (off+size))) else cs[off]?)
 | _=>none) k
def QJb (agg:Bool)(off size:Nat)(x:Operand):pr P (.fld agg off size x) false A H k=QJa agg off size (ev A x) H k:=Q4 _
def QCA (off size:Nat)(l:List Value):QJa false off size (.agg l.toArray) H k=∃v,l[off]? = some v∧k v H:=by
 show onS (Qih H l.toArray[off]?) k=_;rw[Qil];simp
def QEd (off size:Nat)(l:List Value):QJa true off size (.agg l.toArray) H k=k (.agg ((l.drop off).take size).toArray) H:=by
 show onS (Qih H (some (.agg (l.toArray.extract off (off+size))))) k=_;rw[Qil];simp
def QIx (off:Nat)(x:Value)(H:Qa)(k:Value->Qa->Prop):Prop:=onS (match x with | .pointer (some a)=>some (.pointer (some ⟨a.block,a.off+off,none⟩),H) | _=>none) k
def QGO (off:Nat)(x:Operand):pr P (.fldA off x) false A H k=QIx off (ev A x) H k:=Q4 _
def QCB (off b o:Nat):QIx off (.pointer (some ⟨b,o,none⟩)) H k=k (.pointer (some ⟨b,o+off,none⟩)) H:=Qs
def QKV (size:Nat)(x aa:Value)(H:Qa)(k:Value->Qa->Prop):Prop:=onS (match aa,x with
 | .int _ m,.slice (some a) len _=>if 0<=m∧m<len then some (.pointer (some ⟨a.block,a.off+m.toNat * size,none⟩),H) else none
 | _,_=>none) k
def QGP (size:Nat)(x aa:Operand):pr P (.idxS size x aa) false A H k=QKV size (ev A x) (ev A aa) H k:=Q4 _
def QzC (size:Nat)(ik:IntKind)(m:Int)(b o len cap:Nat):QKV size (.slice (some ⟨b,o,none⟩) len cap) (.int ik m) H k=((0<=m∧m<len)∧k (.pointer (some ⟨b,o+m.toNat * size,none⟩)) H):=by
 show onS (if 0<=m∧m<len then some (.pointer (some ⟨b,o+m.toNat * size,none⟩),H) else none) k=_;rw[Qmg,Qs]
def QKW (x aa:Value)(H:Qa)(k:Value->Qa->Prop):Prop:=onS (match aa,x with
 | .int _ m,.string s=>if 0<=m then(match (bl s)[m.toNat]? with | some b=>some (.int .u8 b.toNat,H) | none=>none) else none
 | _,_=>none) k
def QJc (x aa:Operand):pr P (.chr x aa) false A H k=QKW (ev A x) (ev A aa) H k:=Q4 _
def Qim (ik:IntKind)(m:Int)(s:ByteArray):QKW (.string s) (.int ik m) H k=(0<=m∧∃b,(bl s)[m.toNat]? = some b∧k (.int .u8 b.toNat) H):=by
 show onS (if 0<=m then(match (bl s)[m.toNat]? with | some b=>some (.int .u8 b.toNat,H) | none=>none) else none) k=_;rw[Qmg];congr 1;cases aa:(bl s)[m.toNat]? with
 | some b=>simp[Qs]
 | none=>simp[Qrf]
def QEe (x:Value)(i:Nat)(H:Qa)(k:Value->Qa->Prop):Prop:=onS (match x with | .tuple vs=>Qih H vs[i]? | _=>none) k
def QJd (x:Operand)(i:Nat):pr P (.ext x i) false A H k=QEe (ev A x) i H k:=Q4 _
def QJe (a:Value)(l:List Value):QEe (.tuple (a::l).toArray) 0 H k=k a H:=Qs
def QJf (a b:Value)(l:List Value):QEe (.tuple (a::b::l).toArray) 1 H k=k b H:=Qs
def QJg (a b c:Value)(l:List Value):QEe (.tuple (a::b::c::l).toArray) 2 H k=k c H:=Qs
def QzD (r:Option (List Value))(H:Qa)(k:Value->Qa->Prop):Prop:=onS (match r with | some r=>some (.agg r.toArray,H) | none=>none) k
def QEf (z:List Value)(aa:List (Nat×Nat×Operand)):pr P (.build z aa) false A H k=QzD (Qpf (ev A) z aa) H k:=Q4 _
def Qw1 (l:List Value):QzD (some l) H k=k (.agg l.toArray) H:=Qs
def QCC (f:Operand->Value)(cells:List Value):Qpf f cells []=some cells:=Nu rfl rfl
def Qri (f:Operand->Value)(cells:List Value)(off size:Nat)(x:Operand)(aa:List (Nat×Nat×Operand)):Qpf f cells ((off,size,x)::aa)=if(f x).cells.toList.length=size∧off+size<=cells.length then Qpf f (splice cells off (f x).cells.toList) aa else none:=Nu rfl rfl
def QA5 (e len:Nat)(r:Option (List Value))(H:Qa)(k:Value->Qa->Prop):Prop:=onS (match r with | some r=>some (.slice (some ⟨H.y,0,none⟩) len len,H.push (.cells r e false)) | none=>none) k
def QA6 (size:Nat)(cells:List Value)(aa:List (Nat×Value)):Option (List Value):=QdH (λi=>some (i * size,size)) cells aa
def evP (A:Env)(p:Nat×Operand):Nat×Value:=(p.1,ev A p.2)
def QJh (A:Env)(i:Nat)(x:Operand):evP A (i,x)=(i,ev A x):=Nu rfl rfl
def QCD (e size len:Nat)(z:List Value)(aa:List (Nat×Operand)):pr P (.bslice e size len z aa) false A H k=QA5 e len (QA6 size z (aa.map (evP A))) H k:=Q4 _
def Qu6 (e len:Nat)(l:List Value):QA5 e len (some l) H k=k (.slice (some ⟨H.y,0,none⟩) len len) (H.push (.cells l e false)):=Qs
def QCE (size:Nat)(cells:List Value):QA6 size cells []=some cells:=Nu rfl rfl
def Qrj (size:Nat)(cells:List Value)(i:Nat)(v:Value)(aa:List (Nat×Value)):QA6 size cells ((i,v)::aa)=if v.cells.toList.length=size∧i * size+size<=cells.length then QA6 size (splice cells (i * size) v.cells.toList) aa else none:=Nu rfl rfl
def QEg (e:TypeId)(z:List Value):pr P (.alloc e z) false A H k=k (.pointer (some ⟨H.y,0,none⟩)) (H.push (.cells z e false)):=(Q4 _).trans Qs
def QJi (e:TypeId)(x:Operand):pr P (.box e x) false A H k=k (.pointer (some ⟨H.y,0,none⟩)) (H.push (.cells (ev A x).cells.toList e false)):=(Q4 _).trans Qs
def QIy (e size bytes:Nat)(z:List Value)(x y:Value)(H:Qa)(k:Value->Qa->Prop):Prop:=onS (match x,y with
 | .int .i64 l,.int .i64 c=>if 0<=l∧l<=c∧(bytes:Int) * c<=281474976710656∧c<=9223372036854775807 then
   some (.slice (some ⟨H.y,0,none⟩) l.toNat c.toNat,H.push (.cells (XG z.toArray (c.toNat * size)) e false)) else none
 | _,_=>none) k
def QGQ (e size bytes:Nat)(z:List Value)(x y:Operand):pr P (.mkSl e size bytes z x y) false A H k=QIy e size bytes z (ev A x) (ev A y) H k:=Q4 _
def QCF (e size bytes:Nat)(z:List Value)(l c:Int):QIy e size bytes z (.int .i64 l) (.int .i64 c) H k=((0<=l∧l<=c∧(bytes:Int) * c<=281474976710656∧c<=9223372036854775807)∧k (.slice (some ⟨H.y,0,none⟩) l.toNat c.toNat) (H.push (.cells (XG z.toArray (c.toNat * size)) e false))):=by
 show onS (if 0<=l∧l<=c∧(bytes:Int) * c<=281474976710656∧c<=9223372036854775807 then some (.slice (some ⟨H.y,0,none⟩) l.toNat c.toNat,H.push (.cells (XG z.toArray (c.toNat * size)) e false)) else none) k=_;rw[Qmg,Qs]
def slK (size:Nat)(x:Value)(lo hi:Option (Option Int))(H:Qa)(k:Value->Qa->Prop):Prop:=onS (match lo,hi with
 | some l,some h=>Qih H (Y3 size x l h none)
 | _,_=>none) k
def QEh (size:Nat)(x:Value)(l h:Option Int):slK size x (some l) (some h) H k=∃v,Y3 size x l h none=some v∧k v H:=Qil
def QJj (size:Nat)(x:Operand)(lo hi:Option Operand):pr P (.slS size x lo hi) false A H k=slK size (ev A x) (Quc (ev A) lo) (Quc (ev A) hi) H k:=Q4 _
def QzE (f:Operand->Value):Quc f none=some none:=Nu rfl rfl
def QzF (f:Operand->Value)(x:Operand):Quc f (some x)=match f x with | .int _ m=>some (some m) | _=>none:=Nu rfl rfl
def ldB (agg:Bool)(size off:Nat)(b:Option Blk)(H:Qa)(k:Value->Qa->Prop):Prop:=onS (match b with
 | some (.cells c _ _)=>bif agg then(if off+size<=c.length then some (.agg ((c.drop off).take size).toArray,H) else none) else Qih H c[off]?
 | _=>none) k
def ldK (agg:Bool)(size:Nat)(x:Value)(H:Qa)(k:Value->Qa->Prop):Prop:=onS (match x with
 | .pointer (some a)=>match H.get a.block with
  | some (.cells c _ _)=>bif agg then(if a.off+size<=c.length then some (.agg ((c.drop a.off).take size).toArray,H) else none) else Qih H c[a.off]?
  | _=>none
 | _=>none) k
def QKX (agg:Bool)(size:Nat)(x:Operand):pr P (.ld agg size x) false A H k=ldK agg size (ev A x) H k:=Q4 _
def QEi (agg:Bool)(size:Nat)(x:Operand):pr P (.ld agg size x) true A H k=ldK agg size (ev A x) H (flK H k):=QGq _
def QGR (agg:Bool)(size b o:Nat):ldK agg size (.pointer (some ⟨b,o,none⟩)) H k=ldB agg size o (H.get b) H k:=Nu rfl rfl
def QEj (size off:Nat)(c:List Value)(e:TypeId)(ro:Bool):ldB false size off (some (.cells c e ro)) H k=∃v,c[off]? = some v∧k v H:=Qil
def QGS (size off:Nat)(c:List Value)(e:TypeId)(ro:Bool):ldB true size off (some (.cells c e ro)) H k=(off+size<=c.length∧k (.agg ((c.drop off).take size).toArray) H):=by
 show onS (if off+size<=c.length then some (.agg ((c.drop off).take size).toArray,H) else none) k=_;rw[Qmg,Qs]
def QKY (size:Nat)(a:Addr)(y:Value)(b:Option Blk)(H:Qa)(k:Value->Qa->Prop):Prop:=onS (match b with
 | some (.cells c e false)=>if y.cells.toList.length=size∧a.off+y.cells.toList.length<=c.length∧y.cells.toList.all (·.oneCell')=true then some (undef,H.set a.block (.cells (splice c a.off y.cells.toList) e false)) else none
 | _=>none) k
def QJk (size:Nat)(x y:Value)(H:Qa)(k:Value->Qa->Prop):Prop:=onS (match x with
 | .pointer (some a)=>match H.get a.block with
  | some (.cells c e false)=>if y.cells.toList.length=size∧a.off+y.cells.toList.length<=c.length∧y.cells.toList.all (·.oneCell')=true then some (undef,H.set a.block (.cells (splice c a.off y.cells.toList) e false)) else none
  | _=>none
 | _=>none) k
def QKZ (size:Nat)(x y:Operand):pr P (.st size x y) false A H k=QJk size (ev A x) (ev A y) H k:=Q4 _
def QEk (size b o:Nat)(y:Value):QJk size (.pointer (some ⟨b,o,none⟩)) y H k=QKY size ⟨b,o,none⟩ y (H.get b) H k:=Nu rfl rfl
def QzG (size b o:Nat)(y:Value)(c:List Value)(e:TypeId):QKY size ⟨b,o,none⟩ y (some (.cells c e false)) H k=((y.cells.toList.length=size∧o+y.cells.toList.length<=c.length∧y.cells.toList.all (·.oneCell')=true)∧k undef (H.set b (.cells (splice c o y.cells.toList) e false))):=by
 show onS (if y.cells.toList.length=size∧o+y.cells.toList.length<=c.length∧y.cells.toList.all (·.oneCell')=true then some (undef,H.set b (.cells (splice c o y.cells.toList) e false)) else none) k=_;rw[Qmg,Qs]
def apL:List Value->Value->Prop
 | [],_=>True
 | z::l,x=>Qlh x z∧apL l x
def apK (os:List Value)(x:Value)(k:Value->Qa->Prop)(v:Value)(H':Qa):Prop:=apL os x∧k v H'
def Qui (os:List Value)(x:Value)(k:Value->Qa->Prop)(v:Value)(H':Qa):apK os x k v H'=(apL os x∧k v H'):=Nu rfl rfl
def QGT (x:Value):apL [] x=True:=Nu rfl rfl
def QEl (z x:Value)(l:List Value):apL (z::l) x=(Qlh x z∧apL l x):=Nu rfl rfl
def QzH (b o b' o':Nat):Qlh (.pointer (some ⟨b,o,none⟩)) (.pointer (some ⟨b',o',none⟩))=(b'≠b):=Nu rfl rfl
def Qu7 (b o:Nat):Qlh (.pointer (some ⟨b,o,none⟩)) undef=True:=Nu rfl rfl
def QGU (os:List Operand)(x:Value):apL (os.map (ev A)) x=∀z∈os,Qlh x (ev A z):=by
 induction os with
 | nil=>simp[apL]
 | cons z l aa=>simp[apL,aa]
def QJl (size:Nat)(x y:Operand)(os:List Operand)(s:Bool):pr P (.stf size x y os) s A H k=QJk size (ev A x) (ev A y) H (apK (os.map (ev A)) (ev A x) k):=by
 show onS (rop P (.st size x y) A H) (λv H'=>(∀z∈os,Qlh (ev A x) (ev A z))∧k v H')=onS (rop P (.st size x y) A H) _;congr 1;funext v H';rw[Qui,QGU]
def QIz (x:Value)(H:Qa)(k:Value->Qa->Prop):Prop:=onS (match x with | .slice _ m _=>some (.int .i64 (m:Int),H) | _=>none) k
def QGV (x:Operand):pr P (.lenS x) false A H k=QIz (ev A x) H k:=Q4 _
def Qr (a:Option Addr)(len cap:Nat):QIz (.slice a len cap) H k=k (.int .i64 (len:Int)) H:=Qs
def QIA (x:Value)(H:Qa)(k:Value->Qa->Prop):Prop:=onS (match x with | .string s=>some (.int .i64 ((bl s).length:Int),H) | _=>none) k
def QGW (x:Operand):pr P (.lenT x) false A H k=QIA (ev A x) H k:=Q4 _
def Qb9 (s:ByteArray):QIA (.string s) H k=k (.int .i64 ((bl s).length:Int)) H:=Qs
def Qdv (e size bytes:Nat)(s x:Value)(H:Qa)(k:Value->Qa->Prop):Prop:=onS (Y7 e size bytes s x H) k
def QJm (e size bytes:Nat)(x y:Operand):pr P (.app e size bytes x y) false A H k=Qdv e size bytes (ev A x) (ev A y) H k:=Q4 _
def QK0 (P:Program)(o:Op)(A:Env)(H:Qa)(k:Value->Qa->Prop):Prop:=onS (rop P (.gen o) A H) k
def Qmh (f:FuncId)(l:List Operand):pr P (.gen (.makeFunc (.func f) #[] l.toArray)) false A H k=k (.func (.func f) #[] (l.map (ev A)).toArray) H:=by
 have e:rop P (.gen (.makeFunc (.func f) #[] l.toArray)) A H=some (.func (.func f) #[] (l.map (ev A)).toArray,H):=by simp[rop,aop,Qlg,QbT]
 refine(Q4 _).trans ?_;rw[e,Qs]
def QK1 (v:Value)(H:Qa)(k:Value->Qa->Prop):Prop:=onS (bif Qgd v then some (v,H) else none) k
def QJn (x:Operand):pr P (.gen (.nilCheck x)) false A H k=QK1 (ev A x) H k:=by
 have e:rop P (.gen (.nilCheck x)) A H=(bif Qgd (ev A x) then some (ev A x,H) else none):=by
  simp only[rop,aop,Qcg];cases Qgd (ev A x)<;>rfl
 refine(Q4 _).trans ?_;rw[e];rfl
def Kf (a:Addr):QK1 (.pointer (some a)) H k=k (.pointer (some a)) H:=Qs
def QGX {x y:Operand}{aa:Array TypeId}{ik:IntKind}{a b:Int}(hx:ev A x=.int ik a)(ab:ev A y=.int ik b):pr P (.gen (.call ⟨.builtin .max,#[x,y],aa⟩)) false A H k=k (.int ik (if b>a then b else a)) H:=by
 have e:rop P (.gen (.call ⟨.builtin .max,#[x,y],aa⟩)) A H=some (.int ik (if b>a then b else a),H):=by simp[rop,aop,QaP,hx,ab]
 refine(Q4 _).trans ?_;rw[e,Qs]
def Qpp (ty:TypeId):pr P (.gen (.makeMap ty none)) false A H k=k (.map (some H.y)) (H.push (.map [])):=by
 have e:rop P (.gen (.makeMap ty none)) A H=some (.map (some H.y),H.push (.map [])):=by simp[rop,aop]
 refine(Q4 _).trans ?_;rw[e,Qs]
def QCG {ty ac e:TypeId}{ad:TypeDesc}{ab:TypeInfo}{z:Value}{x aa:Operand}{m:Nat}(ae:P.underlying ty=some (.map ac e))(ag:P.underlying ac=some ad)(ah:P.info? e=some ab)(ai:ab.zero=some z)(al:Xq z=true)(hx:ev A x=.map (some m))(aj:Qax ad (ev A aa)=true)(ak:H.get m=some (.map [])):
  pr P (.gen (.lookup ty x aa true)) false A H k=k (.tuple #[z,.bool false]) H:=by
 have e:rop P (.gen (.lookup ty x aa true)) A H=some (.tuple #[z,.bool false],H):=by simp[rop,aop,Qig,ae,QwP,ag,ah,ai,al,hx,aj,ak,Qma]
 refine(Q4 _).trans ?_;rw[e,Qs]
def QEm {ty ab e:TypeId}{ac:TypeDesc}{x aa y:Operand}{m:Nat}(ad:P.underlying ty=some (.map ab e))(ae:P.underlying ab=some ac)(hx:ev A x=.map (some m))(ag:Qax ac (ev A aa)=true)(ah:H.get m=some (.map [])):
  pr P (.gen (.mapUpdate ty x aa y)) false A H k=k undef (H.set m (.map [(ev A aa,ev A y)])):=by
 have e:rop P (.gen (.mapUpdate ty x aa y)) A H=some (undef,H.set m (.map [(ev A aa,ev A y)])):=by simp[rop,aop,Qpb,ad,QuT,ae,hx,ag,ah,Qma]
 refine(Q4 _).trans ?_;rw[e,Qs]
def Qu8 (n:Int):List (Value×Value)->Nat->Option (Option (Nat×Value))
 | [],_=>some none
 | (.int .i64 a,b)::l,i=>if n=a then some (some (i,b)) else Qu8 n l (i+1)
 | _,_=>none
def Qlm (n:Int):∀ (es:List (Value×Value)) (i:Nat) r,Qu8 n es i=some r->Qma (.int .i64) (.int .i64 n) es i=some r
 | [],i,r,h=>h
 | (a,b)::l,i,r,h=>by
  cases a with
  | int ik z=>
   cases ik with
   | i64=>
    have g:(if n=z then some (some (i,b)) else Qu8 n l (i+1))=some r:=h;unfold Qma;simp only[Qax,Lq,Instr.sameNow,N3]
    by_cases aa:n=z
    ·rw[Lc aa]at g;subst aa;have ab:(n==n)=true:=by simp
     simp only[ab];exact g
    rw[Le aa]at g;have:(n==z)=false:=by simp[aa]
    simp only[this];exact Qlm n _ _ r g
   | _=>exact absurd h (by simp[Qu8])
  | _=>exact absurd h (by simp[Qu8])
def Qmi {ty ab e:TypeId}{x aa y:Operand}{m:Nat}{n:Int}{es:List (Value×Value)}(ac:P.underlying ty=some (.map ab e))(ad:P.underlying ab=some (.int .i64))(hx:ev A x=.map (some m))(ag:ev A aa=.int .i64 n)(ah:H.get m=some (.map es))(ai:Qu8 n es 0=some none):
  pr P (.gen (.insert ty x aa y)) false A H k=k undef (H.set m (.map (es++[(.int .i64 n,ev A y)]))):=by
 have ae:=Qlm n es 0 _ ai;have e:rop P (.gen (.insert ty x aa y)) A H=some (undef,H.set m (.map (es++[(.int .i64 n,ev A y)]))):=by simp[rop,aop,Qpb,ac,QuT,ad,hx,ag,ah,ae,Qax]
 refine(Q4 _).trans ?_;rw[e,Qs]
def Qw2 (z:Value):Option (Nat×Value)->Value
 | none=>.tuple #[z,.bool false]
 | some (_,v)=>.tuple #[v,.bool true]
def QCH {ty ac e:TypeId}{ab:TypeInfo}{z:Value}{x aa:Operand}{m:Nat}{n:Int}{es:List (Value×Value)}{r:Option (Nat×Value)}(ad:P.underlying ty=some (.map ac e))(ae:P.underlying ac=some (.int .i64))(ag:P.info? e=some ab)(ah:ab.zero=some z)(am:Xq z=true)(hx:ev A x=.map (some m))(aj:ev A aa=.int .i64 n)(ak:H.get m=some (.map es))(al:Qu8 n es 0=some r):
  pr P (.gen (.lookup ty x aa true)) false A H k=k (Qw2 z r) H:=by
 have ai:=Qlm n es 0 _ al;have e:rop P (.gen (.lookup ty x aa true)) A H=some (Qw2 z r,H):=by
  cases r<;>simp[Qw2,rop,aop,Qig,ad,QwP,ae,ag,ah,am,hx,aj,ak,ai,Qax]
 refine(Q4 _).trans ?_;rw[e,Qs]
def QJo (o:Op):pr P (.gen o) false A H k=QK0 P o A H k:=Q4 _
end
def Qu9 {e size bytes m len b o cap:Nat}{aa c:List Value}{x:Value}{H:Qa}{ro:Bool}{e':TypeId}(hx:YX size x H=some (m,aa))(ab:aa.all (·.oneCell')=true)(ag:m≠0)(ac:H.get b=some (.cells c e' ro))
  (ae:o+len * size<=c.length) (ai:(len+m) * bytes<=140737488355328) (ah:len+m<=9223372036854775807) (aj:cap<UNK) (ad:¬len+m<=cap):
  Y7 e size bytes (.slice (some ⟨b,o,none⟩) len cap) x H=some (.slice (some ⟨H.y,0,none⟩) (len+m) (UNK+size),H.push (.cells ((c.drop o).take (len * size)++aa) e false)):=by
 simp only[Y7,hx,ab,N3,ag,LN,ac];rw[Lc ⟨ae,ah,ai⟩,Le (by omega),Le ad]
def Qw3 {e size bytes m len b o cap:Nat}(ab:o=0){aa c:List Value}{x:Value}{H:Qa}(hx:YX size x H=some (m,aa))(ac:aa.all (·.oneCell')=true)(ah:m≠0)(ad:H.get b=some (.cells c e false))
  (ag:o+len * size=c.length) (aj:(len+m) * bytes<=140737488355328) (ai:len+m<=9223372036854775807) (ae:UNK<=cap):
  Y7 e size bytes (.slice (some ⟨b,o,none⟩) len cap) x H=some (.slice (some ⟨H.y,0,none⟩) (len+m) (UNK+size),(H.kill b).push (.cells (c.drop o++aa) e false)):=by
 simp only[Y7,hx,ac,N3,ah,LN,ad];rw[Lc ⟨by omega,ai,aj⟩,Lc ae,Lc ⟨trivial,trivial,ab,ag⟩]
def Qw4 {e size bytes m:Nat}{aa:List Value}{x:Value}{H:Qa}(hx:YX size x H=some (m,aa))(ab:aa.all (·.oneCell')=true)(ac:m≠0)(ae:m * bytes<=140737488355328)(ad:m<=9223372036854775807):
  Y7 e size bytes (.slice none 0 0) x H=some (.slice (some ⟨H.y,0,none⟩) m (UNK+size),H.push (.cells aa e false)):=by
 simp only[Y7,hx,ab,N3,ac,LN];rw[Lc ⟨ad,ae⟩]
/-! ### QIS of functions -/
def Ret (H0:Qa)(k:Value->Qa->Prop)(v:Value)(H:Qa):Prop:=∃H2,J4 H2 H∧(H.Wf->H2.Wf)∧H0.y<=H2.y∧k v H2
def Ret.mk {H0 H:Qa}{k:Value->Qa->Prop}{v:Value}(aa:H0.y<=H.y)(h:k v H):Ret H0 k v H:=⟨H,.refl H,id,aa,h⟩
def Qa.Wf.up {H:Qa}(h:H.Wf){m:Nat}(ab:H.y<=m):(H.up m).Wf:=λid aa=>h id (N8 ab aa)
def Ret.up {H0 H:Qa}{k:Value->Qa->Prop}{v:Value}(ac:H0.Wf)(ab:H0.y<=H.y)(ad:∀id,id<H0.y->H.get id=H0.get id)(h:k v (H0.up H.y)):Ret H0 k v H:=
 ⟨H0.up H.y,J4.up (Lb _) (λid b aa=>by rw[ad id (ac.lt aa)];exact aa),λ_=>ac.up ab,ab,h⟩
def Rt (P:Program)(fn:Func)(H0:Qa)(k:Value->Qa->Prop):Env->Qa->Prop:=QpV P fn λv H'=>H0.y<=H'.y∧k v H'
section
variable {P:Program} {fn:Func} {H0:Qa} {k:Value->Qa->Prop} {A:Env} {H:Qa}
def QL7 (aa:fn.results=#[]):Rt P fn H0 k A H=Ret H0 k (.tuple #[]) H:=by
 simp[Rt,QpV,Ret,QhP,aa]
def QL8 {r:Nat}(ab:fn.results=#[.tmp r])(aa:Nat.blt r fn.ntmps=true):Rt P fn H0 k A H=Ret H0 k (A r) H:=by
 have:r<fn.ntmps:=by simpa using aa
 simp[Rt,QpV,Ret,QhP,ab,ZV,this]
def QL9 {r s:Nat}(ab:fn.results=#[.tmp r,.tmp s])(aa:(Nat.blt r fn.ntmps&&Nat.blt s fn.ntmps)=true):Rt P fn H0 k A H=Ret H0 k (.tuple #[A r,A s]) H:=by
 have:r<fn.ntmps∧s<fn.ntmps:=by simpa using aa
 simp[Rt,QpV,Ret,QhP,ab,ZV,this]
def QMa {r s u:Nat}(ab:fn.results=#[.tmp r,.tmp s,.tmp u])(aa:(Nat.blt r fn.ntmps&&Nat.blt s fn.ntmps&&Nat.blt u fn.ntmps)=true):Rt P fn H0 k A H=Ret H0 k (.tuple #[A r,A s,A u]) H:=by
 have:(r<fn.ntmps∧s<fn.ntmps)∧u<fn.ntmps:=by simpa using aa
 simp[Rt,QpV,Ret,QhP,ab,ZV,this]
def ldR (agg:Bool)(size:Nat)(p:Value)(H:Qa)(k:Value->Prop):Prop:=match p with
 | .pointer (some a)=>(match H.get a.block with
  | some (.cells c _ _)=>bif agg then(a.off+size<=c.length∧k (.agg ((c.drop a.off).take size).toArray)) else ∃v,c[a.off]? = some v∧k v
  | _=>False)
 | _=>False
def QJp (agg:Bool)(size off:Nat)(b:Option Blk)(k:Value->Prop):Prop:=match b with
 | some (.cells c _ _)=>bif agg then(off+size<=c.length∧k (.agg ((c.drop off).take size).toArray)) else ∃v,c[off]? = some v∧k v
 | _=>False
def QGY (agg:Bool)(size b o:Nat)(k:Value->Prop):ldR agg size (.pointer (some ⟨b,o,none⟩)) H k=QJp agg size o (H.get b) k:=Nu rfl rfl
def QEn (size o:Nat)(k:Value->Prop)(c:List Value)(e:TypeId)(ro:Bool):QJp true size o (some (.cells c e ro)) k=(o+size<=c.length∧k (.agg ((c.drop o).take size).toArray)):=Nu rfl rfl
def QCI (size o:Nat)(k:Value->Prop)(c:List Value)(e:TypeId)(ro:Bool):QJp false size o (some (.cells c e ro)) k=∃v,c[o]? = some v∧k v:=Nu rfl rfl
def QzI (P:Program)(ty:TypeId)(p:Value)(H:Qa):Option Value:=match p with | .pointer (some ad)=>X5 P ty ad H | _=>none
def Qln (n a:Nat)(ty:TypeId):ZV P n A H (.cell a ty)=if a<n then QzI P ty (A a) H else none:=Nu rfl rfl
def Qn5 {ty:TypeId}{d:TypeDesc}{aa:TypeInfo}{p:Value}{q:Value->Prop}(ab:P.underlying ty=some d)(hi:P.info? ty=some aa):
  (∃v,QzI P ty p H=some v∧q v)↔ldR (J6 d) aa.size p H q:=by
 unfold ldR QzI;split
 ·rename_i a;have e:X5 P ty a H=match H.get a.block with
   | some (.cells c _ _)=>if J6 d then(if a.off+aa.size<=c.length then some (.agg ((c.drop a.off).take aa.size).toArray) else none) else c[a.off]?
   | _=>none:=by
   simp only[X5,ab,hi];cases H.get a.block with
   | none=>rfl
   | some b=>cases b<;>rfl
  rw[e];cases ah:H.get a.block with
  | none=>simp
  | some b=>
   cases b with
   | cells c e ro=>
    cases ag:J6 d with
    | true=>by_cases ac:a.off+aa.size<=c.length<;>simp[ac]
    | false=>simp
   | map es=>simp
   | iter s pos=>simp
   | miter a b c d=>simp
   | loop A n ai ad ae st=>simp
 simp
def Qrk (P:Program)(ty:TypeId)(agg:Bool)(size:Nat):Bool:=match P.underlying ty,P.info? ty with
 | some d,some inf=>(J6 d==agg)&&Nat.beq inf.size size
 | _,_=>false
def Qlo {ty:TypeId}{agg:Bool}{size:Nat}(h:Qrk P ty agg size=true):∃d aa,P.underlying ty=some d∧P.info? ty=some aa∧J6 d=agg∧aa.size=size:=by
 unfold Qrk at h;split at h;·rename_i d aa ab hi;simp only[Lm,L0,Zn,Lv]at h;exact⟨d,aa,ab,hi,h.1,h.2⟩
 cases h
def QMb {a ty size:Nat}{agg:Bool}(ac:fn.results=#[.cell a ty])(aa:Nat.blt a fn.ntmps=true)(ad:Qrk P ty agg size=true):Rt P fn H0 k A H=ldR agg size (A a) H λv=>Ret H0 k v H:=by
 have aa:a<fn.ntmps:=by simpa using aa
 obtain⟨d,ae,ab,hi,rfl,rfl⟩:=Qlo ad;apply propext;rw[<- Qn5 ab hi];simp only[Rt,QpV,Ret,QhP,ac,Qln,aa,N3]
def QK2 {a ty size:Nat}{agg:Bool}{r:Nat}(ad:fn.results=#[.cell a ty,.tmp r])(aa:(Nat.blt a fn.ntmps&&Nat.blt r fn.ntmps)=true)(ae:Qrk P ty agg size=true):Rt P fn H0 k A H=ldR agg size (A a) H λv=>Ret H0 k (.tuple #[v,A r]) H:=by
 have aa:a<fn.ntmps∧r<fn.ntmps:=by simpa using aa
 obtain⟨d,ah,ac,hi,rfl,rfl⟩:=Qlo ae;apply propext;rw[<- Qn5 ac hi];have e1:ZV P fn.ntmps A H (.tmp r)=some (A r):=by simp[ZV,aa.2]
 simp only[Rt,QpV,Ret,QhP,ad,Qln,e1,aa.1,N3,Ra,FO,Rx,BV,R8];constructor;·rintro⟨v,ab,h⟩;simp only[Lx,BY,Lt]at ab;obtain⟨l,⟨w,ag,rfl⟩,rfl⟩:=ab;exact⟨w,ag,h⟩
 rintro⟨v,ab,h⟩;refine⟨_,?_,h⟩;simp[ab]
def Qva {a ty size:Nat}{agg:Bool}{r q:Nat}(ad:fn.results=#[.cell a ty,.tmp r,.tmp q])(aa:(Nat.blt a fn.ntmps&&(Nat.blt r fn.ntmps&&Nat.blt q fn.ntmps))=true)(ae:Qrk P ty agg size=true):Rt P fn H0 k A H=ldR agg size (A a) H λv=>Ret H0 k (.tuple #[v,A r,A q]) H:=by
 have aa:a<fn.ntmps∧r<fn.ntmps∧q<fn.ntmps:=by simpa using aa
 obtain⟨d,ah,ac,hi,rfl,rfl⟩:=Qlo ae;apply propext;rw[<- Qn5 ac hi];have e1:ZV P fn.ntmps A H (.tmp r)=some (A r):=by simp[ZV,aa.2.1]
 have e2:ZV P fn.ntmps A H (.tmp q)=some (A q):=by simp[ZV,aa.2.2]
 simp only[Rt,QpV,Ret,QhP,ad,Qln,e1,e2,aa.1,N3,Ra,FO,Rx,BV,R8];constructor;·rintro⟨v,ab,h⟩;simp only[Lx,BY,Lt]at ab;obtain⟨l,⟨w,ag,rfl⟩,rfl⟩:=ab;exact⟨w,ag,h⟩
 rintro⟨v,ab,h⟩;refine⟨_,?_,h⟩;simp[ab]
end
def QjI {P:Program}{f:FuncId}{fn:Func}{aa:PC}{args:List Value}{H:Qa}{k:Value->Qa->Prop}{A:Env}(ae:P.funcs[f]? = some fn)(ac:fn.body.bind (comp P fn.ntmps)=some aa)(ad:entered P f=true)(ag:Nat.ble args.length fn.ntmps=true)(ab:Qcf args=A)
  (h:H.Wf->Qk P aa ⟨Rt P fn H k,Xi⟩ (Rt P fn H k) A H):Qe P f args H k:=Qre ae ac ad (by simpa using ag) (by rw[ab];exact h)
def Qrl (l:List Value):(Value.agg l.toArray).cells.toList=l:=Nu rfl rfl
def Qrm (ik:IntKind)(n:Int):(Value.int ik n).cells.toList=[.int ik n]:=Nu rfl rfl
def Qpq (b:Bool):(Value.bool b).cells.toList=[.bool b]:=Nu rfl rfl
def Qmj (a:Option Addr)(l c:Nat):(Value.slice a l c).cells.toList=[.slice a l c]:=Nu rfl rfl
def Qmk (ty:TypeId)(v:Value):(Value.iface ty v).cells.toList=[.iface ty v]:=Nu rfl rfl
def Qpr (ik:IntKind)(n:Int):(Value.int ik n).oneCell'=true:=Nu rfl rfl
def Qml (b:Bool):(Value.bool b).oneCell'=true:=Nu rfl rfl
def Qkf (a:Option Addr)(l c:Nat):(Value.slice a l c).oneCell'=true:=Nu rfl rfl
def Qkg (ty:TypeId)(v:Value):(Value.iface ty v).oneCell'=true:=Nu rfl rfl
section
variable {P:Program}
def Qz {b:Bool}{r:R}{s:Bool}{l:List PO}{k:Env->Qa->Prop}{A:Env}{d:Option Nat}{H:Qa}(aa:b=true->gB true P r s l k A d H)(ab:b=false->gB false P r s l k A d H):gB b P r s l k A d H:=by
 cases b;·exact ab rfl
 exact aa rfl
def Qg {b:Bool}{x y:PC}{ks:Kp}{k:Env->Qa->Prop}{A:Env}{H:Qa}(aa:b=true->cB true P x y ks k A H)(ab:b=false->cB false P x y ks k A H):cB b P x y ks k A H:=by
 cases b;·exact ab rfl
 exact aa rfl
end
/-! ### Loops -/
section
variable {P:Program}
def Quj (I:Nat->Env->Qa->Prop)(m:Nat)(A:Env)(H:Qa):Prop:=∃aa,aa<m∧I aa A H
def Qp {b:PC}{ks:Kp}{k:Env->Qa->Prop}{A:Env}{H:Qa}(I:Nat->Env->Qa->Prop)(m:Nat)(aa:I m A H)(h:∀m A' H',I m A' H'->Qk P b ks (Quj I m) A' H'):Qk P (.loop b) ks k A H:=
 ⟨I,⟨m,aa⟩,h⟩
/-! Loops over functions. -/
def YR (P:Program)(L:Option Code->Blk)(aa:List Nat)(a b:PC)(A:Env):Prop:=∀ (l:Nat) (args:List Value) (H0:Qa) (Q:Value->Qa->Prop),H0.get l=some (L none)->args.length=aa.length->Qk P a QAY (λA1 H1=>Qk P b (QDV L l H0.y Q) (QGf L l H0.y Q) A1 H1) (Qo7 A aa args) (H0.kill l)->YQ P l args H0 Q
def rgK (v:Value)(P:Program)(aa:List Nat)(a b:PC)(ks:Kp)(k:Env->Qa->Prop)(A:Env)(H:Qa):Prop:=match v with
 | .func (.func f) xs ys=>∀L:Option Code->Blk,YR P L aa a b A->entered P f=true∧Qe P f (xs.toList++[.func (.yield H.y) #[] #[]]++ys.toList) (H.push (L none)) λ_ H2=>∃st,H2.get H.y=some (L st)∧Qzg st ks k A (H2.kill H.y)
 | _=>False
def Ya (g:Operand)(aa:List Nat)(a b:PC)(ks:Kp)(k:Env->Qa->Prop)(A:Env)(H:Qa):Qk P (.rangeF g aa a b) ks k A H=rgK (ev A g) P aa a b ks k A H:=by
 show(match ev A g with | .func (.func f) xs ys=>_ | _=>False)=_;unfold rgK;split<;>rfl
def QaB (f:FuncId)(xs ab:List Value)(aa:List Nat)(a b:PC)(ks:Kp)(k:Env->Qa->Prop)(A:Env)(H:Qa):rgK (.func (.func f) xs.toArray ab.toArray) P aa a b ks k A H=∀L:Option Code->Blk,YR P L aa a b A->entered P f=true∧Qe P f (xs++[.func (.yield H.y) #[] #[]]++ab) (H.push (L none)) λ_ H2=>∃st,H2.get H.y=some (L st)∧Qzg st ks k A (H2.kill H.y):=Nu rfl rfl
def V5 (ks:Kp)(k:Env->Qa->Prop)(A:Env)(H:Qa):Qzg none ks k A H=k A H:=Nu rfl rfl
def Qw5 (ks:Kp)(k:Env->Qa->Prop)(A:Env)(H:Qa):Qzg (some .ret) ks k A H=ks.ret A H:=Nu rfl rfl
def QCJ (j:Nat)(ks:Kp)(k:Env->Qa->Prop)(A:Env)(H:Qa):Qzg (some (.exit j)) ks k A H=(Nat.blt j J0=true∧ks.ext j A H):=Nu rfl rfl
def Qw6 (L:Option Code->Blk)(l aa:Nat)(Q:Value->Qa->Prop)(A:Env)(H:Qa):(QDV L l aa Q).ret A H=(aa<=H.y∧Q (.bool false) (H.set l (L (some .ret)))):=Nu rfl rfl
def QEo (L:Option Code->Blk)(l aa:Nat)(Q:Value->Qa->Prop)(j:Nat)(A:Env)(H:Qa):(QDV L l aa Q).ext j A H=(Nat.blt j J0=true∧aa<=H.y∧Q (.bool false) (H.set l (L (some (.exit j))))):=Nu rfl rfl
def K2 (L:Option Code->Blk)(l aa:Nat)(Q:Value->Qa->Prop)(A:Env)(H:Qa):QGf L l aa Q A H=(aa<=H.y∧Q (.bool true) (H.set l (L none))):=Nu rfl rfl
def V6 (A:Env)(l:List Value):Qo7 A [] l=A:=Nu rfl rfl
def K3 (A:Env)(p:Nat)(aa:List Nat)(v:Value)(l:List Value):Qo7 A (p::aa) (v::l)=Qo7 (upd A p v) aa l:=Nu rfl rfl
abbrev rgA:=And.intro @Zz (And.intro @Ya (And.intro @QaB (And.intro @V5 (And.intro @Qw5 (And.intro @QCJ (And.intro @Qw6 (And.intro @QEo (And.intro @K2 (And.intro @V6 @K3)))))))))
structure Ext (H H':Qa):Prop where
 y:H.y<=H'.y
 get:∀id,id<H.y->H'.get id=H.get id
def Ext.eqB {H H':Qa}(h:Ext H H'):EqB H H':=λid aa=>h.get id aa
def Ext.refl (H:Qa):Ext H H:=⟨Lb _,λ_ _=>Nu rfl rfl⟩
def Ext.trans {a b c:Qa}(h:Ext a b)(h':Ext b c):Ext a c:=⟨N8 h.y h'.y,λid aa=>by rw[h'.get id (N5 aa h.y),h.get id aa]⟩
def Ext.push {H H':Qa}(h:Ext H H')(b:Blk):Ext H (H'.push b):=⟨N8 h.y (by simp),λid aa=>by
 have:=h.y;rw[Qc,Le (by omega)];exact h.get id aa⟩
def Ext.up {H H':Qa}(h:Ext H H'){m:Nat}(ab:H'.y<=m):Ext H (H'.up m):=⟨N8 h.y ab,λid aa=>by rw[Xo];exact h.get id aa⟩
def Ext.set {H H':Qa}(h:Ext H H'){i:Nat}(hi:H.y<=i)(b:Blk):Ext H (H'.set i b):=⟨h.y,λid aa=>by
 rw[Qh,Le (by omega)];exact h.get id aa⟩
def Ext.kill {H H':Qa}(h:Ext H H'){i:Nat}(hi:H.y<=i):Ext H (H'.kill i):=⟨h.y,λid aa=>by
 rw[Q0,Le (by omega)];exact h.get id aa⟩
def Ret.ext {H0 H:Qa}{k:Value->Qa->Prop}{v:Value}(ab:H0.Wf)(aa:Ext H0 H)(h:k v (H0.up H.y)):Ret H0 k v H:=.up ab aa.y aa.get h
end
/-! ### Appending -/
def KM {size m b o cap:Nat}{c:List Value}{e:TypeId}{ro:Bool}{H:Qa}(aa:H.get b=some (.cells c e ro))(ac:m≠0)(ab:o+m * size<=c.length):YX size (.slice (some ⟨b,o,none⟩) m cap) H=some (m,(c.drop o).take (m * size)):=by
 simp only[YX,ac,LN,aa];rw[Lc ab]
def Qw7 {b cap:Nat}{v:Value}{e:TypeId}{ro:Bool}{H:Qa}(aa:H.get b=some (.cells [v] e ro)):YX 1 (.slice (some ⟨b,0,none⟩) 1 cap) H=some (1,[v]):=KM aa (by decide) (by simp)
def Qin {e size bytes m len b o cap:Nat}(ab:o=0){aa c:List Value}{x:Value}{H:Qa}{k:Value->Qa->Prop}(hx:YX size x H=some (m,aa))(ac:aa.all (·.oneCell')=true)(ah:m≠0)(ad:H.get b=some (.cells c e false))
  (ag:o+len * size=c.length) (aj:(len+m) * bytes<=140737488355328) (ai:len+m<=9223372036854775807) (ae:UNK<=cap)
  (h:k (.slice (some ⟨H.y,0,none⟩) (len+m) (UNK+size)) ((H.kill b).push (.cells (c.drop o++aa) e false))):Qdv e size bytes (.slice (some ⟨b,o,none⟩) len cap) x H k:=by
 unfold Qdv;rw[Qw3 ab hx ac ah ad ag aj ai ae,Qs];exact h
def QjJ {e size bytes m len b o cap:Nat}{aa c:List Value}{x:Value}{H:Qa}{ro:Bool}{e':TypeId}{k:Value->Qa->Prop}(hx:YX size x H=some (m,aa))(ab:aa.all (·.oneCell')=true)(ah:m≠0)(ac:H.get b=some (.cells c e' ro))
  (ag:o+len * size<=c.length) (aj:(len+m) * bytes<=140737488355328) (ai:len+m<=9223372036854775807) (ad:cap<UNK) (ae:¬len+m<=cap)
  (h:k (.slice (some ⟨H.y,0,none⟩) (len+m) (UNK+size)) (H.push (.cells ((c.drop o).take (len * size)++aa) e false))):Qdv e size bytes (.slice (some ⟨b,o,none⟩) len cap) x H k:=by
 unfold Qdv;rw[Qu9 hx ab ah ac ag aj ai ad ae,Qs];exact h
def Qe2 {e size bytes m:Nat}{aa:List Value}{x:Value}{H:Qa}{k:Value->Qa->Prop}(hx:YX size x H=some (m,aa))(ab:aa.all (·.oneCell')=true)(ac:m≠0)(ae:m * bytes<=140737488355328)(ad:m<=9223372036854775807)
  (h:k (.slice (some ⟨H.y,0,none⟩) m (UNK+size)) (H.push (.cells aa e false))):Qdv e size bytes (.slice none 0 0) x H k:=by
 unfold Qdv;rw[Qw4 hx ab ac ae ad,Qs];exact h
def Qe.w {P:Program}{f:FuncId}{args:List Value}{H:Qa}{k ac:Value->Qa->Prop}(h:Qe P f args H k)(ag:∀v H',H.y<=H'.y->H'.Wf->k v H'->ac v H'):Qe P f args H ac:=by
 intro ah;obtain⟨v,H',ad,aa,ab,ae⟩:=h ah;exact⟨v,H',ad,aa,ab,ag v H' aa ab ae⟩
def Qio {H:Qa}{b:Blk}{m:Nat}(h:m=H.y):(H.push b).get m=some b:=by rw[Qc,Lc h]
def Qps {H:Qa}{b:Blk}{m:Nat}(h:¬m=H.y):(H.push b).get m=H.get m:=by rw[Qc,Le h]
def QzJ {H:Qa}{b:Blk}{i m:Nat}(h:m=i):(H.set i b).get m=some b:=by rw[Qh,Lc h]
def QzK {H:Qa}{b:Blk}{i m:Nat}(h:¬m=i):(H.set i b).get m=H.get m:=by rw[Qh,Le h]
/-! ### Rules, together -/
def QJq (l:List UInt8):ByteArray.mk (Array.mk l)=mkS l:=Nu rfl rfl
abbrev sxA:=And.intro @QJq (And.intro @Qll (And.intro @Qpl (And.intro @Qzu (And.intro @QCp (And.intro @Qzt (And.intro @QCq (And.intro @Gj (And.intro @Qpn (And.intro @QI2 (And.intro @QI3 (And.intro @QD4 (And.intro @Qn4 (And.intro @Qzv (And.intro @QGp (And.intro @QA3 (And.intro @Qrg (And.intro @Qcj (And.intro @QjH (And.intro @Qzs (And.intro @KZ (And.intro @Qzr (And.intro @QGo (And.intro @QD2 (And.intro @QGn (And.intro @QD1 (And.intro @bt (And.intro @bf (And.intro @QwY (And.intro @QA2 (And.intro @Gi (And.intro @Qug (And.intro @QKT (And.intro @QwZ (And.intro @QCo (And.intro @QGm (And.intro @QA4 (And.intro @QGs (And.intro @Qzz (And.intro @QI4 (And.intro @QGt (And.intro @QGu (And.intro @QGv (And.intro @QGw (And.intro @QI5 (And.intro @QGx (And.intro @QzA (And.intro @QGy (And.intro @QGz (And.intro @QGA (And.intro @QGB (And.intro @QGC (And.intro @QGD (And.intro @QGE (And.intro @QGF (And.intro @QGG (And.intro @QGH (And.intro @QGI (And.intro @QGJ (And.intro @QEa (And.intro @QI7 (And.intro @QGK (And.intro @QGL (And.intro @QI8 (And.intro @QI9 (And.intro @QCz (And.intro @QEc (And.intro @QzB (And.intro @QGN (And.intro @QJb (And.intro @QCA (And.intro @QEd (And.intro @QGO (And.intro @QCB (And.intro @QGP (And.intro @QzC (And.intro @QJc (And.intro @Qim (And.intro @QJd (And.intro @QJe (And.intro @QJf (And.intro @QJg (And.intro @QEf (And.intro @Qw1 (And.intro @QCC (And.intro @QCD (And.intro @Qu6 (And.intro @QCE (And.intro @QJh (And.intro @QEg (And.intro @QJi (And.intro @QGQ (And.intro @QCF (And.intro @QJj (And.intro @QEh (And.intro @QzE (And.intro @QzF (And.intro @QKX (And.intro @QEi (And.intro @QGR (And.intro @QEj (And.intro @QGS (And.intro @QKZ (And.intro @QJl (And.intro @Qui (And.intro @QGT (And.intro @QEl (And.intro @QzH (And.intro @Qu7 (And.intro @QEk (And.intro @QzG (And.intro @QGV (And.intro @Qr (And.intro @QGW (And.intro @Qb9 (And.intro @QJm (And.intro @QGr (And.intro @QD9 (And.intro @Qzw (And.intro @QD7 (And.intro @QJn (And.intro @Kf (And.intro @Qpp (And.intro @Qmh (And.intro @QCt (And.intro @QD5 (And.intro @QCu (And.intro @QD6 (And.intro @Qzx (And.intro @QCr (And.intro @QCs (And.intro @QGY (And.intro @QEn @QCI))))))))))))))))))))))))))))))))))))))))))))))))))))))))))))))))))))))))))))))))))))))))))))))))))))))))))))))))))))))))))))))))))))
abbrev mxA:=And.intro @Qrl (And.intro @Qrm (And.intro @Qpq (And.intro @Qmj (And.intro @Qmk (And.intro @Qpr (And.intro @Qml (And.intro @Qkf (And.intro @Qkg (And.intro @Qri (And.intro @Qrj (And.intro @Qc (And.intro @Qd (And.intro @Qh (And.intro @Qo (And.intro @Xo (And.intro @Qw (And.intro @LP (And.intro @N9 (And.intro @Bz (And.intro @Hr (And.intro @Dd (And.intro @De (And.intro @Nat.succ_ne_self (And.intro @Bj (And.intro @NH (And.intro @BH (@Fx)))))))))))))))))))))))))))
abbrev mxD:=And.intro @Qrl (And.intro @Qrm (And.intro @Qpq (And.intro @Qmj (And.intro @Qmk (And.intro @Qpr (And.intro @Qml (And.intro @Qkf (And.intro @Qkg (And.intro @Qri (And.intro @Qrj (And.intro @Qd (And.intro @Qo (And.intro @Xo (And.intro @Qw (And.intro @LP (And.intro @N9 (And.intro @Bz (And.intro @Hr (And.intro @Dd (And.intro @De (And.intro @Nat.succ_ne_self (And.intro @Bj (And.intro @NH (And.intro @BH (And.intro @Fx (And.intro @Qio (And.intro @Qps (And.intro @QzJ (@QzK)))))))))))))))))))))))))))))
abbrev uxA:=And.intro @QwY (And.intro @QA2 (And.intro @Gi (And.intro @Qug (And.intro @QKT (@QwZ)))))
abbrev sxB:=And.intro @NZ.{0,0} (And.intro @Bq.{0,0} (And.intro @Da.{1} (And.intro not_false_eq_true (And.intro BE (And.intro @Lq.{1} (And.intro @Ls.{1} (And.intro L8 (And.intro LM @Bool.not_not))))))))
abbrev uxB:=And.intro @Lq.{1} @Ls.{1}
abbrev mxB:=And.intro @N3.{1} (And.intro @LN.{1} (And.intro @Bg.{0} (And.intro @Bp.{0} (And.intro @Lt.{0} (And.intro @Dg.{1} (And.intro @BN.{1} (And.intro @Lo.{0} (And.intro @L9.{0} (And.intro @Bv.{0} (And.intro @BI.{0} (And.intro @Lw.{0} (And.intro @List.drop_succ_cons.{0} (And.intro @List.take_succ_cons.{0} (And.intro @Rb.{0} (And.intro @Nm.{0} (And.intro @LH.{0} (And.intro @Na.{0} (And.intro @List.take_nil.{0} @List.drop_nil.{0}))))))))))))))))))
def Qn6 (c:List Value)(p:Nat)(vs:List Value):splice c p vs=c.take p++(vs++c.drop (p+vs.length)):=rfl
abbrev hnP:=And.intro @Qd (And.intro @Qo @Qw)
abbrev Qb:=And.intro sxA (And.intro sxB (And.intro mxA (And.intro mxB @Qn6)))
abbrev QF:=And.intro sxA (And.intro sxB (And.intro mxD (And.intro mxB @Qn6)))
abbrev Wu:=And.intro sxA sxB
abbrev Qrn:=And.intro mxD (And.intro mxB @Qn6)
abbrev Qf:=And.intro uxA uxB
/-! ### The code's text, short -/
abbrev Ow (d:Nat)(r:R):PO:=⟨some d,r,none,false⟩
abbrev Om (d:Nat)(x:Operand):PO:=⟨some d,.mv x,none,false⟩
abbrev Ov (r:R):PO:=⟨none,r,none,false⟩
abbrev Ci (n:Int):Operand:=.const (.int .i64 n)
abbrev In0 (P:Program)(f:FuncId)(fn:Func)(aa:PC):Prop:=∀ {H:Qa} {k:Value->Qa->Prop},(H.Wf->Qk P aa ⟨Rt P fn H k,Xi⟩ (Rt P fn H k) (U) H)->Qe P f [] H k
def in0 {P:Program}{f:FuncId}{fn:Func}{aa:PC}(ad:P.funcs[f]? = some fn)(ab:fn.body.bind (comp P fn.ntmps)=some aa)(ac:entered P f=true)(ae:Nat.ble 0 fn.ntmps=true):In0 P f fn aa:=λh=>QjI ad ab ac ae QL1 h
abbrev In1 (P:Program)(f:FuncId)(fn:Func)(aa:PC):Prop:=∀ {a0:Value} {H:Qa} {k:Value->Qa->Prop},(H.Wf->Qk P aa ⟨Rt P fn H k,Xi⟩ (Rt P fn H k) (upd U 0 a0) H)->Qe P f [a0] H k
def in1 {P:Program}{f:FuncId}{fn:Func}{aa:PC}(ad:P.funcs[f]? = some fn)(ab:fn.body.bind (comp P fn.ntmps)=some aa)(ac:entered P f=true)(ae:Nat.ble 1 fn.ntmps=true):In1 P f fn aa:=λh=>QjI ad ab ac ae (QL2 _) h
abbrev In2 (P:Program)(f:FuncId)(fn:Func)(aa:PC):Prop:=∀ {a0 a1:Value} {H:Qa} {k:Value->Qa->Prop},(H.Wf->Qk P aa ⟨Rt P fn H k,Xi⟩ (Rt P fn H k) (upd (upd U 0 a0) 1 a1) H)->Qe P f [a0,a1] H k
def in2 {P:Program}{f:FuncId}{fn:Func}{aa:PC}(ad:P.funcs[f]? = some fn)(ab:fn.body.bind (comp P fn.ntmps)=some aa)(ac:entered P f=true)(ae:Nat.ble 2 fn.ntmps=true):In2 P f fn aa:=λh=>QjI ad ab ac ae (QL3 _ _) h
abbrev In3 (P:Program)(f:FuncId)(fn:Func)(aa:PC):Prop:=∀ {a0 a1 a2:Value} {H:Qa} {k:Value->Qa->Prop},(H.Wf->Qk P aa ⟨Rt P fn H k,Xi⟩ (Rt P fn H k) (upd (upd (upd U 0 a0) 1 a1) 2 a2) H)->Qe P f [a0,a1,a2] H k
def in3 {P:Program}{f:FuncId}{fn:Func}{aa:PC}(ad:P.funcs[f]? = some fn)(ab:fn.body.bind (comp P fn.ntmps)=some aa)(ac:entered P f=true)(ae:Nat.ble 3 fn.ntmps=true):In3 P f fn aa:=λh=>QjI ad ab ac ae (QL4 _ _ _) h
abbrev In4 (P:Program)(f:FuncId)(fn:Func)(aa:PC):Prop:=∀ {a0 a1 a2 a3:Value} {H:Qa} {k:Value->Qa->Prop},(H.Wf->Qk P aa ⟨Rt P fn H k,Xi⟩ (Rt P fn H k) (upd (upd (upd (upd U 0 a0) 1 a1) 2 a2) 3 a3) H)->Qe P f [a0,a1,a2,a3] H k
def in4 {P:Program}{f:FuncId}{fn:Func}{aa:PC}(ad:P.funcs[f]? = some fn)(ab:fn.body.bind (comp P fn.ntmps)=some aa)(ac:entered P f=true)(ae:Nat.ble 4 fn.ntmps=true):In4 P f fn aa:=λh=>QjI ad ab ac ae (QL5 _ _ _ _) h
abbrev In5 (P:Program)(f:FuncId)(fn:Func)(aa:PC):Prop:=∀ {a0 a1 a2 a3 a4:Value} {H:Qa} {k:Value->Qa->Prop},(H.Wf->Qk P aa ⟨Rt P fn H k,Xi⟩ (Rt P fn H k) (upd (upd (upd (upd (upd U 0 a0) 1 a1) 2 a2) 3 a3) 4 a4) H)->Qe P f [a0,a1,a2,a3,a4] H k
def in5 {P:Program}{f:FuncId}{fn:Func}{aa:PC}(ad:P.funcs[f]? = some fn)(ab:fn.body.bind (comp P fn.ntmps)=some aa)(ac:entered P f=true)(ae:Nat.ble 5 fn.ntmps=true):In5 P f fn aa:=λh=>QjI ad ab ac ae (QL6 _ _ _ _ _) h
/-! #### Still shorter -/
abbrev Oa (d x:Nat):PO:=Om d (t x)
abbrev Ob (d n x:Nat):PO:=Ow d (.fldA n (t x))
abbrev Oc (d s x:Nat):PO:=Ow d (.ld false s (t x))
abbrev Od (d s x:Nat):PO:=Ow d (.ld true s (t x))
abbrev Oe (d:Nat)(o:BinOp)(x:Nat)(c:Int):PO:=Ow d (.bin o (t x) (Ci c))
abbrev Gp (d:Nat)(o:BinOp)(x y:Nat):PO:=Ow d (.bin o (t x) (t y))
abbrev Ol (d:Nat)(b:Bool):PO:=Om d (.const (.bool b))
abbrev Oi (d:Nat)(c:Int):PO:=Om d (Ci c)
abbrev Gu (s x y:Nat):PO:=Ov (.st s (t x) (t y))
abbrev Ox (d s x y:Nat):PO:=Ow d (.idxS s (t x) (t y))
abbrev Ou (d x:Nat):PO:=Ow d (.lenS (t x))
abbrev Ot (d x n:Nat):PO:=Ow d (.ext (t x) n)
abbrev Gr (d:Nat)(T:TypeId)(x:Nat):PO:=Ow d (.box T (t x))
abbrev Oq (d x:Nat):PO:=Ow d (.gen (.nilCheck (t x)))
abbrev So (l:List PO)(b:PC):PC:=.seq (.ops l) b
abbrev Sr (l:List PO):PC:=.seq (.ops l) .ret
abbrev Sc (x:Nat)(a b:PC):PC:=.cond (t x) a b
def jn0 {P:Program}{f:FuncId}{fn:Func}{aa:PC}(ab:P.funcs[f]? = some fn)(h:(fn.body.bind (comp P fn.ntmps),entered P f,Nat.ble 0 fn.ntmps)=(some aa,true,true)):In0 P f fn aa:=in0 ab (congrArg (·.1) h) (congrArg (·.2.1) h) (congrArg (·.2.2) h)
def jn1 {P:Program}{f:FuncId}{fn:Func}{aa:PC}(ab:P.funcs[f]? = some fn)(h:(fn.body.bind (comp P fn.ntmps),entered P f,Nat.ble 1 fn.ntmps)=(some aa,true,true)):In1 P f fn aa:=in1 ab (congrArg (·.1) h) (congrArg (·.2.1) h) (congrArg (·.2.2) h)
def jn2 {P:Program}{f:FuncId}{fn:Func}{aa:PC}(ab:P.funcs[f]? = some fn)(h:(fn.body.bind (comp P fn.ntmps),entered P f,Nat.ble 2 fn.ntmps)=(some aa,true,true)):In2 P f fn aa:=in2 ab (congrArg (·.1) h) (congrArg (·.2.1) h) (congrArg (·.2.2) h)
def jn3 {P:Program}{f:FuncId}{fn:Func}{aa:PC}(ab:P.funcs[f]? = some fn)(h:(fn.body.bind (comp P fn.ntmps),entered P f,Nat.ble 3 fn.ntmps)=(some aa,true,true)):In3 P f fn aa:=in3 ab (congrArg (·.1) h) (congrArg (·.2.1) h) (congrArg (·.2.2) h)
def jn4 {P:Program}{f:FuncId}{fn:Func}{aa:PC}(ab:P.funcs[f]? = some fn)(h:(fn.body.bind (comp P fn.ntmps),entered P f,Nat.ble 4 fn.ntmps)=(some aa,true,true)):In4 P f fn aa:=in4 ab (congrArg (·.1) h) (congrArg (·.2.1) h) (congrArg (·.2.2) h)
def jn5 {P:Program}{f:FuncId}{fn:Func}{aa:PC}(ab:P.funcs[f]? = some fn)(h:(fn.body.bind (comp P fn.ntmps),entered P f,Nat.ble 5 fn.ntmps)=(some aa,true,true)):In5 P f fn aa:=in5 ab (congrArg (·.1) h) (congrArg (·.2.1) h) (congrArg (·.2.2) h)
/-! ### Values, short -/
abbrev _root_.Go.Value.Z (n:Int):Value:=.int .i64 n
abbrev _root_.Go.Value.P (b:Nat):Value:=.pointer (some ⟨b,0,none⟩)
abbrev _root_.Go.Ab.Blk.C (c:List Value)(e:TypeId):Blk:=.cells c e false
abbrev _root_.Go.Value.S (b n c:Nat):Value:=.slice (some ⟨b,0,none⟩) n c
/-! ### Functions' codes, short -/
abbrev Ca (d:Nat)(f:FuncId)(x:Nat):PO:=Ow d (.call f [t x])
abbrev Cb (d:Nat)(f:FuncId)(x y:Nat):PO:=Ow d (.call f [t x,t y])
abbrev Cc (d:Nat)(f:FuncId)(x y z:Nat):PO:=Ow d (.call f [t x,t y,t z])
abbrev Cd (d:Nat)(e:TypeId)(l:List Value):PO:=Ow d (.alloc e l)
abbrev Ze2:List Value:=[.int .i64 0,.int .i64 0]
abbrev QMc:List Value:=[.int .i64 0,.int .i64 0,.int .i64 0,.int .i64 0,.int .i64 0,.int .i64 0,.int .i64 0,.int .i64 0,.int .i64 0,.int .i64 0,.int .i64 0]
/-! ### Rules and rewriting steps, short -/
def nD {α:Type}(l:List α):l.drop 0=l:=Lw
def nB (a:Int):(a==a)=true:=LO a
def nO:(!false)=true:=rfl
def nA {α:Type}(l:List α):[]++l=l:=LH l
def nC {α:Type}(a:α)(l m:List α):(a::l)++m=a::(l++m):=Nm
/-! ### Macros -/
variable {A B C D E F G I J K L M N O R S T U V W X Y P Q:Prop}
def cMo (P:Program)(ops:Array Oper)(fl:Nat->Bool):List Oper->Nat->List PO
 | [],_=>[]
 | o::l,i=>⟨o.dst,Qii P ops (fl i) i o,(match o.guard with | none=>none | some (j,w)=>match VZ ops j with | some t=>some (t,w) | none=>none),fl i⟩::cMo P ops fl l (i+1)
def ixs (p:Oper->Bool):List Oper->Nat->List Nat
 | [],_=>[]
 | o::l,i=>bif p o then i::ixs p l (i+1) else ixs p l (i+1)
def flF (ms S L A:List Nat)(k:Nat):Bool:=(S.elem k&&(L.any (λi=>Qe0 ms i k)||A.any λi=>Nat.blt i k&&!(QG ms i k)))||(L.elem k&&S.any λi=>Qe0 ms i k)
def flG (ops:List Oper):Nat->Bool:=flF (QK ops []) (ixs QGc ops 0) (ixs Qq8 ops 0) (ixs QuY ops 0)
def cM (P:Program):Code->PC
 | .skip=>.skip
 | .label l=>.label l
 | .ret=>.ret
 | .exit id=>.exit id
 | .goto l=>.goto l
 | .region _ ops d=>.ops (cMo P ops (bif d then flG ops.toList else λ_=>false) ops.toList 0)
 | .seq a b=>sq (cM P a) (cM P b)
 | .cond c a b=>.cond c (cM P a) (cM P b)
 | .block id b=>.block id (cM P b)
 | .loop b=>.loop (cM P b)
 | .scope b=>QqF (cM P b)
 | .rangeFunc g aa a b=>.rangeF g aa.toList (cM P a) (cM P b)
 | _=>.bad
def cF (P:Program)(F:Func):PC:=cM P (F.body.getD .ret)
def szP:PC->Nat
 | .scope b _ r=>szP b+szP r
 | .ops l=>1+l.length / 3
 | .seq a b=>szP a+szP b
 | .cond _ a b=>1+szP a+szP b
 | .block _ b=>szP b
 | .loop b=>1+szP b
 | .rangeF _ _ a b=>1+szP a+szP b
 | _=>0
def isO:PC->Bool
 | .ops _=>true
 | _=>false
def cN (N:Nat->PC)(j:Nat)(r:PC×List PC×Nat):PC×List PC×Nat:=(N j,r.1::r.2.1,j+1)
def cu (N:Nat->PC):PC->List PC->Nat->PC×List PC×Nat
 | .seq a b,l,j=>(λq=>(λp=>(.seq p.1 q.1,p.2)) (cu N a q.2.1 q.2.2)) (bif Nat.ble 5 (szP b)&&!isO a then cN N j (cu N b l 0) else cu N b l j)
 | .cond t a b,l,j=>(λp=>(λq=>(.cond t p.1 q.1,q.2)) (bif Nat.ble 5 (szP b) then cN N p.2.2 (cu N b p.2.1 0) else cu N b p.2.1 p.2.2)) (bif Nat.ble 5 (szP a) then cN N j (cu N a l 0) else cu N a l j)
 | .block i b,l,j=>(λq=>(.block i q.1,q.2)) (cu N b l j)
 | .loop b,l,j=>(λq=>(.loop q.1,q.2)) (cN N j (cu N b l 0))
 | .rangeF g ps a b,l,j=>(λq=>(.rangeF g ps a q.1,q.2)) (cN N j (cu N b l 0))
 | .scope b n r,l,j=>(λp=>(λq=>(.scope q.1 n p.1,q.2)) (cN N p.2.2 (cu N b p.2.1 0))) (cN N j (cu N r l 0))
 | c,l,j=>(c,l,j)
def cL (P:Program)(F:Func)(N:Nat->PC):List PC:=(λr=>r.1::r.2.1) (cu N (cF P F) [] 0)
def cA (i:Nat)(l:(Nat->PC)->List PC)(N:Nat->PC):PC:=match (l N)[i]? with | some c=>c | none=>.bad
abbrev e0 (a:PC){x:PC}(h:a=x):PC:=x
abbrev eL (g:(Nat->PC)->List PC){x:(Nat->PC)->List PC}(h:∀N,g N=x N):(Nat->PC)->List PC:=x
abbrev e1 (i:Nat)(l:(Nat->PC)->List PC){x:PC->PC}(h:∀a,cA i l (λ_=>a)=x a):PC->PC:=x
abbrev e2 (i:Nat)(l:(Nat->PC)->List PC){x:PC->PC->PC}(h:∀a b,cA i l (λn=>bif Nat.beq n 0 then a else b)=x a b):PC->PC->PC:=x
abbrev e3 (i:Nat)(l:(Nat->PC)->List PC){x:PC->PC->PC->PC}(h:∀a b c,cA i l (λn=>bif Nat.beq n 0 then a else bif Nat.beq n 1 then b else c)=x a b c):PC->PC->PC->PC:=x
abbrev e4 (i:Nat)(l:(Nat->PC)->List PC){x:PC->PC->PC->PC->PC}(h:∀a b c d,cA i l (λn=>bif Nat.beq n 0 then a else bif Nat.beq n 1 then b else bif Nat.beq n 2 then c else d)=x a b c d):PC->PC->PC->PC->PC:=x
section
variable (P:Program) (fn:Func)
def rs0 (aa:fn.results=#[])(H0 H:Qa)(k:Value->Qa->Prop)(A:Env):Rt P fn H0 k A H=Ret H0 k (.tuple #[]) H:=QL7 aa
def rs1 (r:Nat)(ab:fn.results=#[.tmp r])(aa:Nat.blt r fn.ntmps=true)(H0 H:Qa)(k:Value->Qa->Prop)(A:Env):Rt P fn H0 k A H=Ret H0 k (A r) H:=QL8 ab aa
def rs2 (r s:Nat)(ab:fn.results=#[.tmp r,.tmp s])(aa:(Nat.blt r fn.ntmps&&Nat.blt s fn.ntmps)=true)(H0 H:Qa)(k:Value->Qa->Prop)(A:Env):Rt P fn H0 k A H=Ret H0 k (.tuple #[A r,A s]) H:=QL9 ab aa
def rs3 (r s u:Nat)(ab:fn.results=#[.tmp r,.tmp s,.tmp u])(aa:(Nat.blt r fn.ntmps&&Nat.blt s fn.ntmps&&Nat.blt u fn.ntmps)=true)(H0 H:Qa)(k:Value->Qa->Prop)(A:Env):Rt P fn H0 k A H=Ret H0 k (.tuple #[A r,A s,A u]) H:=QMa ab aa
def QzL (agg:Bool)(size a ty:Nat)(ab:fn.results=#[.cell a ty])(aa:Nat.blt a fn.ntmps=true)(ac:Qrk P ty agg size=true)(H0 H:Qa)(k:Value->Qa->Prop)(A:Env):Rt P fn H0 k A H=ldR agg size (A a) H λv=>Ret H0 k v H:=QMb ab aa ac
def Qw8 (agg:Bool)(size a ty r:Nat)(ab:fn.results=#[.cell a ty,.tmp r])(aa:(Nat.blt a fn.ntmps&&Nat.blt r fn.ntmps)=true)(ac:Qrk P ty agg size=true)(H0 H:Qa)(k:Value->Qa->Prop)(A:Env):Rt P fn H0 k A H=ldR agg size (A a) H λv=>Ret H0 k (.tuple #[v,A r]) H:=QK2 ab aa ac
end
section
variable (pc:PC) {P:Program} {f:FuncId} {fn:Func}
def ko0 (aa:P.funcs[f]? = some fn)(h:(fn.body.bind (comp P fn.ntmps),entered P f,Nat.ble 0 fn.ntmps)=(some pc,true,true)):In0 P f fn pc:=jn0 aa h
def ko1 (aa:P.funcs[f]? = some fn)(h:(fn.body.bind (comp P fn.ntmps),entered P f,Nat.ble 1 fn.ntmps)=(some pc,true,true)):In1 P f fn pc:=jn1 aa h
def ko2 (aa:P.funcs[f]? = some fn)(h:(fn.body.bind (comp P fn.ntmps),entered P f,Nat.ble 2 fn.ntmps)=(some pc,true,true)):In2 P f fn pc:=jn2 aa h
def ko3 (aa:P.funcs[f]? = some fn)(h:(fn.body.bind (comp P fn.ntmps),entered P f,Nat.ble 3 fn.ntmps)=(some pc,true,true)):In3 P f fn pc:=jn3 aa h
def ko4 (aa:P.funcs[f]? = some fn)(h:(fn.body.bind (comp P fn.ntmps),entered P f,Nat.ble 4 fn.ntmps)=(some pc,true,true)):In4 P f fn pc:=jn4 aa h
def ko5 (aa:P.funcs[f]? = some fn)(h:(fn.body.bind (comp P fn.ntmps),entered P f,Nat.ble 5 fn.ntmps)=(some pc,true,true)):In5 P f fn pc:=jn5 aa h
end
variable {P:Program} {A:Env} {H:Qa} {k:Value->Qa->Prop}
def K6 {o:Op}{v:Value}{H':Qa}(e:rop P (.gen o) A H=some (v,H')):pr P (.gen o) false A H k=k v H':=by
 refine(Q4 _).trans ?_;rw[e,Qs]
/-! ### Texts -/
section
variable {ty:TypeId} {x lo hi:Operand} {s:ByteArray} {l h:Nat} {ik ik':IntKind}
def QA7 (ac:P.underlying ty=some .string)(hx:ev A x=.string s)(lo hi:Option Operand)(l h:Nat)(ab:QS A lo=some (some (l:Int))∨(QS A lo=some none∧l=0))(aa:QS A hi=some (some (h:Int))∨(QS A hi=some none∧h=(bl s).length))(ad:l<=h)(ae:h<=(bl s).length):
  rop P (.gen (.slice ty x lo hi none)) A H=some (.string (mkS (((bl s).drop l).take (h - l))),H):=by
 rcases ab with ab | ⟨ab,rfl⟩<;>rcases aa with aa | ⟨aa,rfl⟩
 all_goals
  simp only[rop,aop,Qgk,ac,hx,ab,aa,NB,Br];rw[Lc (by omega)];simp
def QCK (ac:P.underlying ty=some .string)(hx:ev A x=.string s)(ab:ev A lo=.int ik l)(aa:l<=(bl s).length):
  pr P (.gen (.slice ty x (some lo) none none)) false A H k=k (.string (mkS ((bl s).drop l))) H:=by
 refine(K6 (QA7 ac hx _ _ l (bl s).length (.inl (by simp[QS,ab])) (.inr ⟨rfl,rfl⟩) aa (Lb _))).trans ?_;rw[LF (by rw[NT];exact Lb _)]
def QCL (ac:P.underlying ty=some .string)(hx:ev A x=.string s)(ab:ev A hi=.int ik h)(aa:h<=(bl s).length):
  pr P (.gen (.slice ty x none (some hi) none)) false A H k=k (.string (mkS ((bl s).take h))) H:=by
 refine(K6 (QA7 ac hx _ _ 0 h (.inr ⟨rfl,rfl⟩) (.inl (by simp[QS,ab])) (L7 _) aa)).trans ?_;rw[Lw,Nat.sub_zero]
def QGZ (a b:ByteArray):K1 .lss (.string a) (.string b) H k=k (.bool (Op.bytesLess (bl a) (bl b))) H:=Wq (by simp[KY,Qcd])
def QG0 (a b:ByteArray):K1 .leq (.string a) (.string b) H k=k (.bool (Op.bytesLess (bl a) (bl b)||bl a==bl b)) H:=Wq (by simp[KY,Qcd])
def QG1 (a b:ByteArray):K1 .gtr (.string a) (.string b) H k=k (.bool !(Op.bytesLess (bl a) (bl b)||bl a==bl b)) H:=Wq (by simp[KY,Qcd])
def QG2 (a b:ByteArray):K1 .geq (.string a) (.string b) H k=k (.bool !(Op.bytesLess (bl a) (bl b))) H:=Wq (by simp[KY,Qcd])
def QA8 (P:Program)(src aa:TypeId):Bool:=match P.underlying src,P.underlying aa with
 | some (.slice e),some .string=>(match P.underlying e with | some (.int .u8)=>true | _=>false)
 | _,_=>false
def Qfa {src ab:TypeId}{n c:Nat}{a:Option Addr}{vs:List Value}{bs:List UInt8}(aa:QA8 P src ab=true)(hx:ev A x=.slice a n c)(ad:WB 1 (.slice a n c) H=some vs)(ac:Y6 vs=some bs):
  pr P (.gen (.convert src ab x)) false A H k=k (.string (mkS bs)) H:=by
 unfold QA8 at aa;split at aa
 ·rename_i e ah ae;split at aa;·rename_i ag;exact K6 (by simp only[rop,aop,V3,ah,ae,hx,ag,ad,ac])
  cases aa
 cases aa
end
/-! ### Arrays in memory -/
def QA9 (P:Program)(ty:TypeId)(n size:Nat):Bool:=match P.underlying ty with
 | some (.array n' e)=>Nat.beq n' n&&(match P.info? e with | some aa=>Nat.beq aa.size size | none=>false)
 | _=>false
def Qrx {ty:TypeId}{n size:Nat}(h:QA9 P ty n size=true):∃e aa,P.underlying ty=some (.array n e)∧P.info? e=some aa∧aa.size=size:=by
 unfold QA9 at h;split at h
 ·rename_i ae e ad;simp only[Lm]at h;obtain⟨ac,ab⟩:=h;split at ab;·rename_i aa hi;rw[<- LA ac];exact⟨e,aa,ad,hi,LA ab⟩
  cases ab
 cases h
def Quk {ty:TypeId}{n size:Nat}{x aa:Operand}{b o i:Nat}{ik:IntKind}(ac:QA9 P ty n size=true)(hx:ev A x=.pointer (some ⟨b,o,none⟩))(hi:ev A aa=.int ik i)(h:i<n):
  pr P (.gen (.indexAddr ty x aa)) false A H k=k (.pointer (some ⟨b,o+i * size,none⟩)) H:=by
 obtain⟨e,ae,ad,ab,rfl⟩:=Qrx ac;exact K6 (by
  simp only[rop,aop,YY,hi,ad,hx,ab];rw[Lc (by omega),LG])
def QCM {ty:TypeId}{n size:Nat}{x:Operand}{lo hi:Option Operand}{b o l h:Nat}(ad:QA9 P ty n size=true)(hx:ev A x=.pointer (some ⟨b,o,none⟩))
  (ab:QS A lo=some (some (l:Int))∨(QS A lo=some none∧l=0)) (aa:QS A hi=some (some (h:Int))∨(QS A hi=some none∧h=n)) (ag:l<=h) (ah:h<=n) (ai:n<UNK):
  pr P (.gen (.slice ty x lo hi none)) false A H k=k (.slice (some ⟨b,o+l * size,none⟩) (h - l) (n - l)) H:=by
 obtain⟨e,aj,ae,ac,rfl⟩:=Qrx ad;exact K6 (by
  rcases ab with ab | ⟨ab,rfl⟩<;>rcases aa with aa | ⟨aa,rfl⟩
  all_goals
   simp only[rop,aop,Qgk,ae,hx,ac,ab,aa,NB,Br];rw[Lc (by omega)];simp)
/-! ### Nil, and places held against each other -/
def Qvd (P:Program)(t:TypeId):Bool:=match P.underlying t with | some (.slice _)=>true | _=>false
def QjK {t ad:TypeId}{x:Operand}{a:Option Addr}{n c:Nat}(aa:Qvd P t=true)(hx:ev A x=.slice a n c):
  pr P (.gen (.binOp .eql t x (.const (.slice none 0 0)) ad)) false A H k=k (.bool a.isNone) H:=by
 have ac:ev A (.const (.slice none 0 0))=.slice none 0 0:=rfl;unfold Qvd at aa;split at aa;·rename_i ab;exact K6 (by cases a<;>simp[rop,aop,QbV,Qs0,Ql8,X9,hx,ac,ab,aeq,Qic,GO,Y4,QjR,QsY])
 cases aa
def QBa (P:Program)(t:TypeId):Bool:=match P.underlying t with | some (.pointer e)=>(match P.info? e with | some aa=>Nat.blt 0 aa.size | none=>false) | _=>false
def Qry {t:TypeId}(h:QBa P t=true):∃e aa,P.underlying t=some (.pointer e)∧P.info? e=some aa∧¬aa.size=0:=by
 unfold QBa at h;split at h
 ·rename_i e ab;split at h
  ·rename_i aa hi;have:0<aa.size:=by simpa using h
   exact⟨e,aa,ab,hi,by omega⟩
  cases h
 cases h
def Qul {t ad:TypeId}{x:Operand}{a:Option Addr}(ac:QBa P t=true)(hx:ev A x=.pointer a):
  pr P (.gen (.binOp .eql t x (.const (.pointer none)) ad)) false A H k=k (.bool a.isNone) H:=by
 have ab:ev A (.const (.pointer none))=.pointer none:=rfl;obtain⟨e,ae,aa,_,_⟩:=Qry ac;exact K6 (by cases a<;>simp[rop,aop,QbV,Qs0,Ql8,X9,hx,ab,aa,aeq,Qic,GO,Y4,QjR,QsY])
def QCN {t ag:TypeId}{x y:Operand}{b o:Nat}(ad:QBa P t=true)(hx:ev A x=.pointer (some ⟨b,o,none⟩))(ae:ev A y=.pointer (some ⟨b,o,none⟩)):
  pr P (.gen (.binOp .neq t x y ag)) false A H k=k (.bool false) H:=by
 obtain⟨e,ah,aa,ab,ac⟩:=Qry ad;exact K6 (by simp[rop,aop,QbV,Qs0,Ql8,X9,hx,ae,aa,ab,ac,aeq,Qic,GO,Y4,QjR,QsY])
/-! ### Numbers -/
def QBb {x y:Operand}{ab:Array TypeId}{ik:IntKind}{a b:Int}(hx:ev A x=.int ik a)(aa:ev A y=.int ik b):pr P (.gen (.call ⟨.builtin .min,#[x,y],ab⟩)) false A H k=k (.int ik (if b<a then b else a)) H:=
 K6 (by simp[rop,aop,QaP,hx,aa])
def Qxa {t:TypeId}{x:Operand}{ik:IntKind}{n:Int}(hx:ev A x=.int ik n):pr P (.gen (.unOp .neg t x)) false A H k=k (.int ik (ik.wrap (-n))) H:=
 K6 (by simp[rop,aop,QuW,hx,X9,QqS])
/-! ### Pointers without a type -/
def QK3 (P:Program)(src aa:TypeId):Bool:=match P.underlying src,P.underlying aa with
 | some (.pointer t),some .unsafePointer=>(match P.info? t with | some j=>Nat.blt 0 j.size | none=>false)
 | _,_=>false
def QEp {src ab:TypeId}{x:Operand}{b o:Nat}{c:List Value}{e:TypeId}(aa:QK3 P src ab=true)(hx:ev A x=.pointer (some ⟨b,o,none⟩))(ae:H.get b=some (.cells c e false))(ah:o<c.length):
  pr P (.gen (.convert src ab x)) false A H k=k (.pointer (some ⟨b,o,none⟩)) H:=by
 unfold QK3 at aa;split at aa
 ·rename_i t ac ad;split at aa
  ·rename_i j ag;have:0<j.size:=by simpa using aa
   exact K6 (by
    simp only[rop,aop,V3,ac,ad,hx,ag,ae];rw[Lc ⟨by omega,ah⟩])
  cases aa
 cases aa
def QEq (P:Program)(src aa e:TypeId)(n o:Nat):Bool:=match P.underlying src,P.underlying aa with
 | some .unsafePointer,some (.pointer u)=>(match P.info? u with | some _=>liesAt P P.depth e (n / P.cellsOf e) o u 1 | none=>false)
 | _,_=>false
def QzM {src ab:TypeId}{x:Operand}{b o:Nat}{c:List Value}{e:TypeId}(aa:QEq P src ab e c.length o=true)(hx:ev A x=.pointer (some ⟨b,o,none⟩))(ae:H.get b=some (.cells c e false)):
  pr P (.gen (.convert src ab x)) false A H k=k (.pointer (some ⟨b,o,none⟩)) H:=by
 unfold QEq at aa;split at aa
 ·rename_i u ac ad;split at aa
  ·rename_i j ag;exact K6 (by
    simp only[rop,aop,V3,ac,ad,hx,ag,ae];rw[Lc aa])
  cases aa
 cases aa
def QzN {x:Operand}{aa:Array TypeId}{a:Option Addr}{n c:Nat}(hx:ev A x=.slice a n c)(h:a=none∨n≠0):pr P (.gen (.call ⟨.builtin .unsafeSliceData,#[x],aa⟩)) false A H k=k (.pointer a) H:=
 K6 (by cases a<;>simp_all [rop,aop,QaP])
def QIB (P:Program)(aa e:TypeId):Bool:=match P.underlying aa with | some (.pointer e')=>Nat.beq e' e&&Nat.beq (P.cellsOf e') 1 | _=>false
def QCO {x y:Operand}{ad t2 e:TypeId}{b:Nat}{c:List Value}{bs:List UInt8}(aa:QIB P ad e=true)(hx:ev A x=.pointer (some ⟨b,0,none⟩))(aj:ev A y=.int .i64 (c.length:Int))(ah:H.get b=some (.cells c e false))(ak:0<c.length)(al:c.length<=9223372036854775807)(ai:c.all QDT=true)(ag:Y6 c=some bs):
  pr P (.gen (.call ⟨.builtin .unsafeString,#[x,y],#[ad,t2]⟩)) false A H k=k (.string (mkS bs)) (H.set b (.cells c e true)):=by
 unfold QIB at aa;split at aa;·rename_i e' ae;simp only[Lm]at aa;obtain⟨ab,ac⟩:=aa;have ab:=LA ab;have ac:=LA ac;subst ab;refine K6 ?_;simp only[rop,aop,QaP,hx,aj,ae,ah,LG,Nr];rw[Lc ⟨trivial,trivial,ac,by omega,Lb _,by omega,ai⟩,ag]
 cases aa
/-! ### Entries of the model -/
def Qum {f:FuncId}{e:Xk}{args:List Value}{v:Value}(hx:IsExt P f e)(aa:e.val args=some v)(h:k v H):Qe P f args H k:=
 λab=>⟨v,H,.inr (QwH hx aa),Lb _,ab,h⟩
/-! ### Cells -/
def Qtb (s:ByteArray):(Value.string s).cells.toList=[.string s]:=Nu rfl rfl
def Qlr (a:Option Addr):(Value.pointer a).cells.toList=[.pointer a]:=Nu rfl rfl
def Qrz (s:ByteArray):(Value.string s).oneCell'=true:=Nu rfl rfl
def Qix (a:Option Addr):(Value.pointer a).oneCell'=true:=Nu rfl rfl
abbrev syA:=And.intro @Qtb (And.intro @Qlr (And.intro @Qrz (And.intro @Qix (And.intro @QGZ (And.intro @QG0 (And.intro @QG1 (And.intro @QG2 (And.intro @Xh @QqR))))))))
end Go.Ab
namespace Go.Ab
open Go.RowKit
section
variable {P:Program} {ρ:Ren} {H:Qa} {w:World}
def Qiy (H:Qa):Prop:=∀id b,H.get id=some b->b.ro=true
def Sim.addRo (ac:Sim P ρ H w)(am:Qiy H){c:List Value}(e:TypeId){a:Addr}(ak:a.block<w.heap.size)(ai:∀ (j:Nat) v,c[j]? = some v->∃ad,w.cell? (a.add j)=some ad∧V ρ v ad):
  Sim P (ext ρ H.y ⟨a,0,0⟩) (H.push (.cells c e true)) w:=by
 have al:=ac.none_next;have ag:=Qgc ⟨a,0,0⟩ al;refine⟨λid j h=>?_,λid bl j h h'=>?_,λan aA b1 aq ay az ab ar au av ah ax=>?_,λg aj=>?_⟩
 ·by_cases aa:id=H.y;·subst aa;simp
  rw[YJ ρ _ aa]at h;have:=ac.dom _ _ h;simp;omega
 ·by_cases aa:id=H.y;·subst aa;rw[Ww]at h';cases h';rw[Qc,Lc rfl]at h;cases h;exact⟨ak,λj v ae=>by obtain⟨ad,ao,ap⟩:=ai j v ae;exact⟨ad,ao,ap.mono ag⟩⟩
  rw[YJ ρ _ aa]at h';rw[Qc,Le aa]at h;exact(ac.live id bl j h h').mono ag rfl
 ·have:b1.ro=true:=by
   by_cases aa:an=H.y;·subst aa;rw[Qc,Lc rfl]at ab;cases ab;rfl
   rw[Qc,Le aa]at ab;exact am _ _ ab
  rw[this]at ah;cases ah
 obtain⟨j,ae,aa⟩:=ac.glob g aj;exact⟨j,ag _ _ ae,aa⟩
def Sim.addDead (aa:Sim P ρ H w)(ae:H.Wf)(a:Addr):Sim P (ext ρ H.y ⟨a,0,0⟩) (H.up (H.y+1)) w:=by
 have ao:=aa.none_next;have ai:=Qgc ⟨a,0,0⟩ ao;refine⟨λid j h=>?_,λid bl j h h'=>?_,λar au b1 aj ap aq ac ad ag ah ak al=>?_,λg am=>?_⟩
 ·by_cases ab:id=H.y;·subst ab;simp
  rw[YJ ρ _ ab]at h;have:=aa.dom _ _ h;simp;omega
 ·rw[Xo]at h;have:=ae.lt h;rw[YJ ρ _ (by omega)]at h';exact(aa.live id bl j h h').mono ai rfl
 ·rw[Xo]at ac ad;have:=ae.lt ac;have:=ae.lt ad;rw[YJ ρ _ (by omega)]at ag ah;exact aa.sep ar au b1 aj ap aq ac ad ag ah ak al
 obtain⟨j,an,ab⟩:=aa.glob g am;exact⟨j,ai _ _ an,ab⟩
def Qiy.push (h:Qiy H)(c:List Value)(e:TypeId):Qiy (H.push (.cells c e true)):=λid b aa=>by
 rw[Qc]at aa;split at aa;·cases aa;rfl
 exact h id b aa
def Qiy.up (h:Qiy H)(m:Nat):Qiy (H.up m):=λid b aa=>h id b (by rw[Xo]at aa;exact aa)
def V.sliceIn {id len cap:Nat}{a:Addr}(hi:ρ id=some ⟨a,0,0⟩)(ab:len<=cap)(aa:cap<UNK):V ρ (.slice (some ⟨id,0,none⟩) len cap) (.slice (some a) len cap):=
 .slice id 0 len cap cap ⟨a,0,0⟩ a hi (.inl (by rw[show(⟨a,0,0⟩:ZD).at_=a from rfl];unfold Addr.add;rw[Lc rfl])) ab aa (λh=>by omega) (λ_=>rfl)
def calls_of_callQ {f:FuncId}{args args':List Value}{X:Value->Qa->Prop}(h:Qe P f args H λu H'=>u=.bool true∧X u H')(ag:H.Wf)(ac:entered P f=true)(ae:Sim P ρ H w)(aa:VL ρ args args')(ad:Qiy H):
  Calls P f args'.toArray w λe w'=>e=.returned (.bool true)∧Below w.heap.size w w':=by
 obtain⟨v,H',ab,_,_,rfl,_⟩:=h ag;exact Qtc (ab.does ac) ae aa rfl ad
def QCQ {base:Nat}{a:Addr}{n:Nat}{cs:List Value}(h:w.cells? base a n=some cs):cs.length=n∧∀i,i<n->w.cell? (a.add i)=cs[i]? := by
 unfold World.cells? at h;split at h
 ·have aa:=Qo2.mapM_length h;refine⟨by simpa using aa,λi hi=>?_⟩;have key:∀ (l:List Nat) (cs:List Value),l.mapM (λi=>w.cell? (a.add i))=some cs->∀ (j:Nat) x,l[j]? = some x->w.cell? (a.add x)=cs[j]? := by
   intro l
   induction l with
   | nil=>intro cs h j x hx;simp at hx
   | cons y l ad=>
    intro cs h j x hx;simp only[Ra,BV,BY,Rx,Lt]at h;obtain⟨v,ab,vs,ac,rfl⟩:=h;cases j with
    | zero=>simp at hx;subst hx;simpa using ab
    | succ j=>simpa using ad vs ac j x (by simpa using hx)
  exact key _ _ h i i (by simp[hi])
 cases h
end
variable {P:Program}
def QCR {f:FuncId}{args args2:List Value}{v:Value}{B H1 H:Qa}{τ:Nat->Nat}(ap:Qce P f args B (.ret v) H1)(ak:plain v=true)(aE:P.globals.size<=B.y)(ax:∀g,g<P.globals.size->τ g=g)
  (hB:∀id b,B.get id=some b->∃c e c2 e2 ro,b=.cells c e true∧H.get (τ id)=some (.cells c2 e2 ro)∧c.length=c2.length∧∀ (j:Nat) x y,c[j]? = some x->c2[j]? = some y->Qgr τ B.y x y)
  (ar:args.length=args2.length) (an:∀ (j:Nat) x y,args[j]? = some x->args2[j]? = some y->Qgr τ B.y x y):Qce P f args2 H (.ret v) H:=by
 intro ρ w args' hs hargs;have ao:VL (QhV ρ τ B.y) args args':=⟨by rw[ar];exact hargs.1,λj x x' e e'=>by
  have aa:j<args2.length:=by have:=(Lk.1 e).1;omega
  exact an j x args2[j] e (La aa) ρ x' (hargs.2 j _ x' (La aa) e')⟩
 have au:Sim P (QhV ρ τ B.y) B w:=by
  refine⟨λid j h=>(Qfc h).1,λid b i ae hi=>?_,λay aI b1 aA aG aH ad ag aB aC am=>?_,λg ah=>?_⟩
  ·obtain⟨c,e,c2,e2,ro,rfl,aq,aD,hx⟩:=hB id b ae;have ac:=hs.live _ _ i aq (Qfc hi).2;refine⟨ac.lt,λj u aa=>?_⟩;have ai:j<c2.length:=by have:=(Lk.1 aa).1;omega
   obtain⟨al,ad,ag⟩:=ac.cellAt (La ai);exact⟨al,ad,hx j u c2[j] aa (La ai) ρ al ag⟩
  ·obtain⟨c,e,c2,e2,ro,rfl,_⟩:=hB ay b1 ad;cases am
  obtain⟨j,aa,e⟩:=hs.glob g ah;refine⟨j,?_,e⟩;unfold QhV;rw[Lc (by omega),ax g ah];exact aa
 refine(ap _ w args' au ao).mono ?_;rintro e w' ⟨ρ',aj,av,aF⟩;have ab:=av.below (λid b h=>by obtain⟨c,e,c2,e2,ro,rfl,_⟩:=hB id b h;rfl);refine⟨ρ,?_,⟨.refl ρ,Lb _,λ_ _ _ h=>h,λ_ _ b b' _ h ac h'=>(by rw[h]at h';cases h';exact ac),λid i h h'=>(by rw[h']at h;cases h),ab.os,ab.tape,ab.output,ab.size,λb ae _=>ab.block b ae⟩,
  ⟨hs.dom,λid b i h h'=>(hs.live id b i h h').mono (.refl ρ) (ab.block _ (hs.live id b i h h').lt),hs.sep,hs.glob⟩⟩
 cases e with
 | returned az=>
  have:az=v:=V.plain_eq aj ak;subst this;exact .same _ ak
 | _=>exact aj.elim
end Go.Ab
