/- Code made of resolved operations, and what it does, as a proposition. -/
import Derived.Test.YtmedjaegakinnaaGreatDoorAbC
import Derived.Test.YtmedjaegakinnaaGreatDoorAbB
set_option linter.defProp false
set_option linter.unusedVariables false
set_option linter.unusedSimpArgs false
noncomputable section
namespace Go.Ab
structure PO where
 d:Option Nat
 r:R
 g:Option (Nat×Bool)
 s:Bool
inductive PC where
 | skip
 | ops (l:List PO)
 | seq (a b:PC)
 | cond (c:Operand) (a b:PC)
 | block (id:Nat) (b:PC)
 | loop (b:PC)
 | exit (id:Nat)
 | ret
 | label (l:Nat)
 | goto (l:Nat)
 | scope (b:PC) (l:Nat) (r:PC)
 | rangeF (g:Operand) (ps:List Nat) (a b:PC)
 | bad
/-! ### Resolving code -/
def Qpc (o:Oper):Bool:=match o.op with | .load .. => true | _=>false
def QsY (o:Oper):Bool:=match o.op with | .alloc .. | .box .. | .makeSlice .. | .buildSlice .. | .convert .. | .makeMap .. | .range .. => true | _=>false
def QhD (o:Oper):Bool:=match o.op with | .call ⟨.value _,_,_⟩=>true | _=>false
def Qxd (o:Oper):Bool:=match o.op with | .call ⟨.builtin .append,_,_⟩=>true | _=>false
def QAo (o:Oper):Bool:=QhD o||Qxd o
def Ql4 (ops:Array Oper)(i:Nat):Bool:=match ops[i]? with | some o=>Qpc o | none=>false
def Qex (ops:Array Oper)(i:Nat):Bool:=match ops[i]? with | some o=>QsY o | none=>false
def VT (ops:Array Oper)(i:Nat):Bool:=match ops[i]? with | some o=>QAo o | none=>false
def WU (ops:Array Oper)(ms:List Nat)(k:Nat):Bool:=
 (Xc ops k&&(List.range ops.size).any λi=>(Ql4 ops i&&!(QF ms i k)&&!(QF ms k i))||(Qex ops i&&Nat.blt i k&&!(QF ms i k))) ||
 (Ql4 ops k&&(List.range ops.size).any λi=>Xc ops i&&!(QF ms i k)&&!(QF ms k i))
def Qxe (o:Oper):Bool:=match o.op with | .store .. => true | _=>false
def Qxf (ops:Array Oper)(i:Nat):Bool:=match ops[i]? with | some o=>Qxe o | none=>false
def Qdk (ms:List Nat)(i k:Nat):Bool:=!(QF ms i k)&&!(QF ms k i)
def Qnl (ops:Array Oper)(i:Nat):Option Nat:=match ops[i]? with | some o=>(match o.op with | .load _ (.tmp t)=>some t | _=>none) | none=>none
def Ql5 (ops:Array Oper)(ms:List Nat)(k:Nat):List Operand:=(List.range k).filterMap λi=>bif Ql4 ops i&&Qdk ms i k then(Qnl ops i).map .tmp else none
def QHv:List String:=["(*linotype/print.text).next"]
def isG (P:Program)(o:Oper):Bool:=match o.op with
 | .call ⟨.value (.func f),_,_⟩=>(match P.funcs[f]? with | some fn=>QHv.any λn=>fn.name==n | none=>false)
 | _=>false
def gAt (P:Program)(ops:Array Oper)(i:Nat):Bool:=match ops[i]? with | some o=>isG P o | none=>false
def QHw (P:Program)(ops:Array Oper)(ms:List Nat)(i k:Nat):Bool:=
 Nat.blt i k&&(Qnl ops i).isSome&&(List.range k).all λj=>Nat.blt j i||((match ops[j]? with | some o=>!(o.dst==Qnl ops i) | none=>true)&&(!(Xc ops j)||(VT ops j&&WU ops ms j&&!(gAt P ops j))||(Qxf ops j&&WU ops ms j&&Qdk ms i j)))
def Qib (o:Oper):Bool:=match o.op with | .call ⟨.value (.func _),_,_⟩=>true | .call ⟨.builtin .append,_,_⟩=>true | _=>false
def QG1 (ops:Array Oper)(i:Nat):Bool:=match ops[i]? with | some o=>Qib o | none=>false
def Qpd (o:Oper):Option Nat:=match o.op with
 | .fieldAddr _ (.tmp b) _=>some b
 | .indexAddr _ (.tmp b) _=>some b
 | .move (.tmp b)=>some b
 | .assign (.tmp b)=>some b
 | .nilCheck (.tmp b)=>some b
 | _=>none
def Qu4 (o:Oper)(q:Nat):Option Nat:=bif o.dst==some q then Qpd o else some q
def Ge (ops:Array Oper)(k:Nat):Nat->Nat->Option Nat
 | 0,cur=>some cur
 | d+1,cur=>match ops[k+d]? with
  | some o=>(match Qu4 o cur with | some c=>Ge ops k d c | none=>none)
  | none=>none
def Ql6 (ops:Array Oper)(k i:Nat):Option Nat:=match Qnl ops i with
 | none=>none
 | some t=>Ge ops k (i - k) t
def VU (ops:Array Oper)(ms:List Nat)(k:Nat):List Operand:=(List.range ops.size).filterMap λi=>bif Nat.blt k i&&(Ql4 ops i&&Qdk ms i k) then(Ql6 ops k i).map .tmp else none
def quiet (P:Program)(ops:Array Oper)(ms:List Nat)(i k:Nat):Bool:=
 (Nat.blt i k&&(List.range k).all λj=>Nat.ble j i||(!(Xc ops j)||(WU ops ms j&&VT ops j&&!(gAt P ops j)))) ||
 (Nat.blt k i&&QG1 ops k&&(Ql6 ops k i).isSome&&(List.range i).all λj=>Nat.blt j k||(!(Xc ops j)||(WU ops ms j&&VT ops j&&(!(gAt P ops j)||Qdk ms i j))))
def QyY (P:Program)(ops:Array Oper)(ms:List Nat):Bool:=
 (List.range ops.size).all λk=>!(Xc ops k)||!(WU ops ms k)||(VT ops k&&((List.range ops.size).all λi=>!(Ql4 ops i)||QF ms i k||QF ms k i||quiet P ops ms i k)&&(!(gAt P ops k)||(List.range ops.size).all λi=>(!(Ql4 ops i)||QF ms i k||QF ms k i||Nat.blt k i)&&(!(Qex ops i)||!(Nat.blt i k)||QF ms i k))) ||
  (Qxf ops k&&(List.range ops.size).all λi=>(!(Ql4 ops i)||QF ms i k||QF ms k i||QHw P ops ms i k)&&(!(Qex ops i)||!(Nat.blt i k)||QF ms i k))
def QaY (P:Program)(ops:Array Oper)(i:Nat)(o:Oper):R:=
 match o.op with
 | .store t x y=>match P.info? t with | some q=>.stf q.size x y (Ql5 ops (QL ops.toList []) i) | none=>Wk P o.op
 | .call ⟨.value (.func f),args,_⟩=>bif isG P o then .callG f args.toList (VU ops (QL ops.toList []) i) else .callF f args.toList (VU ops (QL ops.toList []) i)
 | .call ⟨.builtin .append,_,_⟩=>(match Wk P o.op with | .app e size bytes x y=>.appF e size bytes x y (VU ops (QL ops.toList []) i) | _=>.callG 0 [] [.const (.bool false)])
 | _=>Wk P o.op
def Qgm (P:Program)(ops:Array Oper)(f:Bool)(i:Nat)(o:Oper):R:=bif f then QaY P ops i o else Wk P o.op
def Qxg (n:Nat)(ops:Array Oper)(o:Oper):Option (Option (Nat×Bool)):=
 match o.guard with
 | none=>some none
 | some (j,want)=>match G5 ops j with
  | some t=>if t<n then some (some (t,want)) else none
  | none=>none
def Vr (P:Program)(n:Nat)(ops:Array Oper)(q:Nat->Bool):List Oper->Nat->Option (List PO)
 | [],_=>some []
 | o::l,i=>if QfV P n o then
   match Qxg n ops o,Vr P n ops q l (i+1) with
   | some g,some pl=>some (⟨o.dst,Qgm P ops (q i) i o,g,q i⟩::pl)
   | _,_=>none
  else none
def Ql7 (P:Program)(op:Op):Bool:=match op with
 | .convert src _ _=>(match P.underlying src with | some (.slice _) | some (.pointer _) | some .unsafePointer=>true | _=>false)
 | .range t _=>(match P.underlying t with | some (.map _ _)=>true | _=>false)
 | _=>false
def J0:Nat:=1000000
def sq:PC->PC->PC
 | .skip,y=>y
 | x,.skip=>x
 | x,y=>.seq x y
def KS:PC->Nat->Option PC
 | .seq a b,l=>match KS a l with
  | some r=>some (sq r b)
  | none=>KS b l
 | .label l',l=>bif Nat.beq l' l then some .skip else none
 | _,_=>none
def Gf:PC->List Nat
 | .seq a b=>Gf a++Gf b
 | .label l=>[l]
 | _=>[]
def QoB (b:PC):PC:=
 match Gf b with
 | []=>b
 | [l]=>match KS b l with
  | some r=>.scope b l r
  | none=>.bad
 | _=>.bad
def comp (P:Program)(n:Nat):Code->Option PC
 | .skip=>some .skip
 | .label l=>some (.label l)
 | .ret=>some .ret
 | .exit id=>some (bif Nat.blt id J0 then .exit id else .bad)
 | .goto l=>some (.goto l)
 | .region _ ops false=>some (match Vr P n ops (λ_=>false) ops.toList 0 with | some l=>.ops l | none=>.bad)
 | .region _ ops true=>some (if P.follows .mixedOrders&&QcY ops (Xc ops)&&QyY P ops (QL ops.toList [])&&ops.all (λo=>!(Ql7 P o.op)) then(match Vr P n ops (WU ops (QL ops.toList [])) ops.toList 0 with | some l=>.ops l | none=>.bad) else .bad)
 | .seq a b=>match comp P n a,comp P n b with
  | some x,some y=>some (sq x y)
  | _,_=>none
 | .cond c a b=>if Qb8 P n c then(match comp P n a,comp P n b with | some x,some y=>some (.cond c x y) | _,_=>none) else none
 | .block id b=>(comp P n b).map λx=>bif Nat.blt id J0 then .block id x else .bad
 | .loop b=>(comp P n b).map .loop
 | .scope b=>(comp P n b).map QoB
 | .rangeFunc g q a b=>if Qb8 P n g then(match comp P n a,comp P n b with | some x,some y=>some (.rangeF g q.toList x y) | _,_=>none) else none
 | _=>some .bad
/-! ### What it does -/
structure Kp where
 ret:Env->Qa->Prop
 ext:Nat->Env->Qa->Prop
def onS (o:Option (Value×Qa))(k:Value->Qa->Prop):Prop:=∃v H',o=some (v,H')∧k v H'
def Qa.Wf (H:Qa):Prop:=∀id,H.y<=id->H.get id=none
def Qa.Wf.lt {H:Qa}(h:H.Wf){id:Nat}{b:Blk}(aa:H.get id=some b):id<H.y:=by
 rcases Nq id H.y with q | q;·exact q
 rw[h id q]at aa;cases aa
def Qa.Wf.push {H:Qa}(h:H.Wf)(b:Blk):(H.push b).Wf:=λid q=>by
 simp only[Qf]at q;rw[Qc,Le (by omega)];exact h id (by omega)
def Qa.Wf.set {H:Qa}(h:H.Wf){i:Nat}{b0:Blk}(aa:H.get i=some b0)(b:Blk):(H.set i b).Wf:=λid q=>by
 have:=h.lt aa;simp only[QR]at q;rw[Qj,Le (by omega)];exact h id q
def Qa.Wf.kill {H:Qa}(h:H.Wf)(i:Nat):(H.kill i).Wf:=λid q=>by
 simp only[QiY]at q;rw[WE];split;·rfl
 exact h id q
def Qe (P:Program)(f:FuncId)(args:List Value)(H:Qa)(k:Value->Qa->Prop):Prop:=H.Wf->∃v H',J2 P f args H v H'∧H.y<=H'.y∧H'.Wf∧k v H'
def YQ (P:Program)(l:Nat)(args:List Value)(H:Qa)(k:Value->Qa->Prop):Prop:=H.Wf->∃v H',Qr5 P l args H v H'∧H.y<=H'.y∧H'.Wf∧k v H'
def Qi7:Value->Value->Prop
 | .pointer (some a),.pointer (some b)=>b.block≠a.block
 | _,_=>True
def QnW (n:Nat):Value->Prop
 | .pointer (some a)=>a.block<n
 | .slice (some a) _ _=>a.block<n
 | _=>False
def QJH (H H':Qa):Value->Prop
 | .pointer (some a)=>H'.get a.block=H.get a.block
 | .slice (some a) _ _=>H'.get a.block=H.get a.block
 | _=>True
def EqB (H H':Qa):Prop:=∀id,id<H.y->H'.get id=H.get id
def pr (P:Program)(r:R)(s:Bool)(A:Env)(H:Qa)(k:Value->Qa->Prop):Prop:=
 match r with
 | .call f args=>Qe P f (args.map (ev A)) H λv H'=>(s=true->∀id,H'.get id=H.get id)∧k v H'
 | .callv c args=>match ev A c with
  | .func (.func f) xs ys=>Qe P f (xs.toList++args.map (ev A)++ys.toList) H λv H'=>(s=true->∀id,H'.get id=H.get id)∧k v H'
  | .func (.yield l) ⟨[]⟩ ⟨[]⟩=>YQ P l (args.map (ev A)) H λv H'=>(s=true->∀id,H'.get id=H.get id)∧k v H'
  | _=>False
 | .callF f args os=>(∀z∈os,QnW H.y (ev A z))∧Qe P f (args.map (ev A)) H λv H'=>EqB H H'∧k v H'
 | .callG f args os=>(∀z∈os,QnW H.y (ev A z))∧Qe P f (args.map (ev A)) H λv H'=>(∀z∈os,QJH H H' (ev A z))∧k v H'
 | .appF e size bytes x y os=>(∀z∈os,QnW H.y (ev A z))∧onS (rop P (.app e size bytes x y) A H) λv H'=>EqB H H'∧k v H'
 | .stf size x y os=>onS (rop P (.stf size x y os) A H) λv H'=>(∀z∈os,Qi7 (ev A x) (ev A z))∧k v H'
 | r=>onS (rop P r A H) λv H'=>(s=true->Qp H.y 6 v=true)∧k v H'
def pg (g:Option (Nat×Bool))(A:Env)(q no:Prop):Prop:=
 match g with
 | none=>q
 | some (t,w)=>match A t with
  | .bool b=>if b=w then q else no
  | .tuple _=>no
  | _=>False
def VV (P:Program):List PO->(Env->Qa->Prop)->Env->Qa->Prop
 | [],k,A,H=>k A H
 | o::l,k,A,H=>pg o.g A (pr P o.r o.s A H λv H'=>VV P l k (JQ A o.d v) H') (VV P l k (JQ A o.d undef) H)
def jmK (l:Nat)(I:Nat->Env->Qa->Prop)(m:Nat)(e:Nat->Env->Qa->Prop)(j:Nat)(A:Env)(H:Qa):Prop:=if j=J0+l then ∃q,q<m∧I q A H else e j A H
def QBV (st:Option Code)(ks:Kp)(k:Env->Qa->Prop)(A:Env)(H:Qa):Prop:=match st with
 | none=>k A H
 | some .ret=>ks.ret A H
 | some (.exit j)=>Nat.blt j J0=true∧ks.ext j A H
 | _=>False
def QJI (L:Option Code->Blk)(l:Nat)(q:Nat)(Q:Value->Qa->Prop):Kp:=⟨λ_ H2=>q<=H2.y∧Q (.bool false) (H2.set l (L (some .ret))),λj _ H2=>Nat.blt j J0=true∧q<=H2.y∧Q (.bool false) (H2.set l (L (some (.exit j))))⟩
def QHx (L:Option Code->Blk)(l:Nat)(q:Nat)(Q:Value->Qa->Prop):Env->Qa->Prop:=λ_ H2=>q<=H2.y∧Q (.bool true) (H2.set l (L none))
def QyZ:Kp:=⟨λ_ _=>False,λ_ _ _=>False⟩
def Qm (P:Program):PC->Kp->(Env->Qa->Prop)->Env->Qa->Prop
 | .skip,_,k,A,H=>k A H
 | .ops l,_,k,A,H=>VV P l k A H
 | .seq a b,ks,k,A,H=>Qm P a ks (Qm P b ks k) A H
 | .cond c a b,ks,k,A,H=>match ev A c with
  | .bool t=>(t=true->Qm P a ks k A H)∧(t=false->Qm P b ks k A H)
  | _=>False
 | .block id b,ks,k,A,H=>Qm P b ⟨ks.ret,λj=>if j=id then k else ks.ext j⟩ k A H
 | .loop b,ks,k,A,H=>∃I:Nat->Env->Qa->Prop,(∃m,I m A H)∧∀m A' H',I m A' H'->Qm P b ks (λA'' H''=>∃q,q<m∧I q A'' H'') A' H'
 | .exit id,ks,_,A,H=>ks.ext id A H
 | .ret,ks,_,A,H=>ks.ret A H
 | .label _,_,k,A,H=>k A H
 | .goto l,ks,_,A,H=>ks.ext (J0+l) A H
 | .scope b l r,ks,k,A,H=>∃I:Nat->Env->Qa->Prop,(∃m,Qm P b ⟨ks.ret,jmK l I m ks.ext⟩ k A H)∧∀m A' H',I m A' H'->Qm P r ⟨ks.ret,jmK l I m ks.ext⟩ k A' H'
 | .rangeF g ps a b,ks,k,A,H=>match ev A g with
  | .func (.func f) xs ys=>∀L:Option Code->Blk,
    (∀ (l:Nat) (args:List Value) (H0:Qa) (Q:Value->Qa->Prop),H0.get l=some (L none)->args.length=ps.length->Qm P a QyZ (λA1 H1=>Qm P b (QJI L l H0.y Q) (QHx L l H0.y Q) A1 H1) (Qna A ps args) (H0.kill l)->YQ P l args H0 Q)->
    entered P f=true∧Qe P f (xs.toList++[.func (.yield H.y) #[] #[]]++ys.toList) (H.push (L none)) λ_ H2=>∃st,H2.get H.y=some (L st)∧QBV st ks k A (H2.kill H.y)
  | _=>False
 | .bad,_,_,_,_=>False
/-! ### Soundness -/
section
variable {P:Program} {n:Nat}
def QAp:Qev P JS:=⟨λf args H v H' h=>(by cases h),λf args H v H' h=>(by cases h)⟩
def QAq {H H':Qa}{r:Option Value}{c:Cls}{v:Value}(h:Zk H r=some (c,v,H')):c=.pure∧H'=H:=by
 obtain⟨_,q,aa⟩:=Yt h;exact⟨q,aa⟩
def Yc {α:Type}{b:Bool}{x:Option α}{y:α}(h:(bif b then x else none)=some y):x=some y:=by cases b<;>simp_all
def Qke {e:TypeId}{aa:TypeInfo}{s x:Value}{H H':Qa}{v:Value}(h:QhB e aa s x H=some (v,H')):H.y<=H'.y∧(H.Wf->H'.Wf):=by
  unfold QhB at h
  repeat' (split at h)
  all_goals first
    | (cases h;done)
    | (simp only[Lt,LB]at h;obtain⟨_,rfl⟩:=h;refine⟨by simp,λq=>?_⟩
       first
         | exact q
         | exact q.push _
         | exact(q.kill _).push _
         | exact q.set (by assumption) _)
def QhE {k:TypeId}{m ab v:Value}{H H':Qa}(h:QsU P k m ab v H=some H'):H.y<=H'.y∧(H.Wf->H'.Wf):=by
 unfold QsU at h;split at h
 ·split at h
  ·rename_i aa;have h:=Yc h;split at h;·cases h;exact⟨by simp,λq=>q.set aa _⟩
   ·cases h;exact⟨by simp,λq=>q.set aa _⟩
   cases h
  cases h
 cases h
structure Syn (P:Program) (o:Oper) (H H':Qa) (c:Cls):Prop where
 gen:XW c=true->QEz o=true∨Ql7 P o.op=true
 load:c=.load->Qpc o=true
 alloc:∀b,c=.alloc b->QsY o=true
 y:H.y<=H'.y
 wf:H.Wf->H'.Wf
def QEC {o:Oper}{A:Env}{H H':Qa}{c:Cls}{v:Value}(h:aop P JS o A H=some (c,v,H')):Syn P o H H' c:=by
  obtain⟨aj,op,ty,pos,af,g⟩:=o;have aa:∀ {u:Value},some (Cls.pure,u,H)=some (c,v,H')->Syn P ⟨aj,op,ty,pos,af,g⟩ H H' c:=λh=>by
    simp only[Lt,LB]at h;obtain⟨rfl,_,rfl⟩:=h;exact⟨λh=>(by cases h),λh=>(by cases h),λb h=>(by cases h),Lb _,id⟩
  have ac:∀ {r:Option Value},Zk H r=some (c,v,H')->Syn P ⟨aj,op,ty,pos,af,g⟩ H H' c:=λ{r} h=>by
    obtain⟨rfl,rfl⟩:=QAq h;exact⟨λh=>(by cases h),λh=>(by cases h),λb h=>(by cases h),Lb _,id⟩
  have ad:∀ {b:Blk} {u:Value},QsY ⟨aj,op,ty,pos,af,g⟩=true->some (Cls.alloc b,u,H.push b)=some (c,v,H')->Syn P ⟨aj,op,ty,pos,af,g⟩ H H' c:=λao h=>by
    simp only[Lt,LB]at h;obtain⟨rfl,_,rfl⟩:=h;exact⟨λh=>(by cases h),λh=>(by cases h),λb _=>ao,by simp,λab=>ab.push _⟩
  unfold aop at h;split at h
  case h_1 hop=>exact aa h
  case h_2 hop=>exact aa h
  case h_3 hop=>
    unfold QsW at h;split at h;· exact aa h
    · cases h
  case h_4 hop=>exact aa (Yc h)
  case h_5 hop=>exact ac h
  case h_6 hop=>exact ac h
  case h_7 hop=>
    unfold Qdh at h;simp only at hop;split at h
    · split at h
      · split at h
        · exact ad (by subst hop;rfl) (Yc h)
        · cases h
      · cases h
    · rename_i ai am ak
      split at h
      · split at h
        · simp only[Lt,LB]at h;obtain⟨rfl,_,rfl⟩:=h
          exact⟨λ_=>.inr (by subst hop;simp only[Ql7,ai]),λh=>(by cases h),λb h=>(by cases h),Lb _,id⟩
        · cases h
      · cases h
    · rename_i ai am ak
      split at h
      · split at h
        · simp only[Lt,LB]at h;obtain⟨rfl,_,rfl⟩:=h
          exact⟨λ_=>.inr (by subst hop;simp only[Ql7,ai]),λh=>(by cases h),λb h=>(by cases h),Lb _,id⟩
        · cases h
      · cases h
    · rename_i ai am ak
      split at h
      · split at h
        · simp only[Lt,LB]at h;obtain⟨rfl,_,rfl⟩:=h
          exact⟨λ_=>.inr (by subst hop;simp only[Ql7,ai]),λh=>(by cases h),λb h=>(by cases h),Lb _,id⟩
        · cases h
      · cases h
    · exact ac h
  case h_8 hop=>
    unfold Ky at h;split at h;· cases h
    · exact aa h
    · cases h
  case h_9 hop=>exact aa (Yc h)
  case h_10 hop=>
    unfold Qov at h
    repeat' (split at h)
    all_goals first | exact ac h | cases h
  case h_11 hop=>
    unfold KR at h
    repeat' (split at h)
    all_goals first
      | (cases h;done)
      | (revert h;cases ap:Nat.beq _ 0<;>intro h<;>first | exact aa h | cases h)
  case h_12 hop=>
    unfold ZV at h
    repeat' (split at h)
    all_goals first | exact aa h | cases h
  case h_13 hop=>
    unfold Qj8 at h
    repeat' (split at h)
    all_goals first | exact aa h | exact ac h | cases h
  case h_14 hop=>
    unfold QhC at h;split at h;· exact ac h
    · cases h
  case h_15 hop=>
    unfold Qow at h
    repeat' (split at h)
    all_goals first | (cases h;done) | exact ac (Yc h)
  case h_16 hop=>
    simp only at hop;unfold QaF at h;split at h
    · split at h
      · split at h
        · have h:=Yc h
          split at h;· exact ad (by subst hop;rfl) h
          · cases h
        · cases h
      · cases h
    · cases h
  case h_17 hop=>
    simp only at hop;unfold Qox at h;split at h
    · split at h
      · exact ad (by subst hop;rfl) (Yc h)
      · cases h
    · cases h
  case h_18 hop=>simp only at hop;unfold QBT at h;exact ad (by subst hop;rfl) h
  case h_19 hop=>
    simp only at hop;unfold Qcc at h
    repeat' (split at h)
    all_goals first | (cases h;done) | exact ad (by subst hop;rfl) h
  case h_20 hop=>
    unfold Qj9 at h
    repeat' (split at h)
    all_goals first | exact aa h | exact ac h | cases h
  case h_21 hop=>
    simp only at hop;unfold Qpb at h
    repeat' (split at h)
    all_goals first
      | (cases h;done)
      | (simp only[Lt,LB]at h
         obtain⟨rfl,_,rfl⟩:=h;exact⟨λh=>(by cases h),λ_=>(by subst hop;rfl),λb h=>(by cases h),Lb _,id⟩)
  case h_22 hop=>
    simp only at hop;unfold Qka at h;split at h
    · split at h
      · rename_i H1 ae
        simp only[Lt,LB]at h;obtain⟨rfl,_,rfl⟩:=h;have an:H.y<=H1.y∧(H.Wf->H1.Wf):=by
          unfold Qi1 at ae;split at ae
          · rename_i ag
            split at ae;· cases ae;exact⟨by simp,λab=>ab.set ag _⟩
            · cases ae
          · cases ae
        exact⟨λ_=>.inl (by subst hop;rfl),λh=>(by cases h),λb h=>(by cases h),an.1,an.2⟩
      · cases h
    · cases h
  case h_23 cl hop=>
    simp only at hop;unfold Qgj at h;split at h
    · split at h
      · split at h
        · exact aa h
        · cases h
      · split at h
        · exact aa (Yc h)
        · cases h
      · split at h
        · split at h
          · exact aa h
          · cases h
        · cases h
      · split at h
        · split at h
          · exact aa h
          · cases h
        · cases h
      · split at h
        · split at h
          · split at h
            · have h:=Yc h
              simp only[Lx,LB]at h;obtain⟨⟨u,H1⟩,q,rfl,rfl,rfl⟩:=h;exact⟨λ_=>.inl (by subst hop;rfl),λh=>(by cases h),λb h=>(by cases h),(Qke q).1,(Qke q).2⟩
            · cases h
          · cases h
        · cases h
      · split at h
        · split at h
          · simp only[Lx,LB]at h
            obtain⟨⟨u,H1⟩,q,rfl,rfl,rfl⟩:=h;have ah:H.y<=H1.y∧(H.Wf->H1.Wf):=by
              unfold QyV at q
              repeat' (split at q)
              all_goals first
                | (cases q;done)
                | (simp only[Lt,LB]at q;obtain⟨_,rfl⟩:=q;exact⟨by simp,λab=>by first | exact ab | exact ab.set (by assumption) _⟩)
            exact⟨λ_=>.inl (by subst hop;rfl),λh=>(by cases h),λb h=>(by cases h),ah.1,ah.2⟩
          · cases h
        · cases h
      · split at h
        · exact aa h
        · split at h
          · exact aa h
          · cases h
        · cases h
      · split at h
        · simp only[Lt,LB]at h;obtain⟨rfl,_,rfl⟩:=h
          exact⟨λ_=>.inl (by subst hop;rfl),λh=>(by cases h),λb h=>(by cases h),Lb _,id⟩
        · split at h
          · rename_i ag
            split at h
            · split at h
              · simp only[Lt,LB]at h;obtain⟨rfl,_,rfl⟩:=h
                exact⟨λ_=>.inl (by subst hop;rfl),λh=>(by cases h),λb h=>(by cases h),by simp,λab=>ab.set ag _⟩
              · cases h
            · cases h
          · cases h
        · cases h
      · cases h
    · split at h
      · split at h
        · simp[JS]at h
        · cases h
      · cases h
    · simp[JS]at h
    · split at h
      · simp[JS]at h
      · have h:=Yc h;simp[JS]at h
      · cases h
  case h_24 hop=>simp only at hop;exact ad (by subst hop;rfl) h
  case h_25 hop=>
    simp only at hop;unfold Qgk at h;split at h
    · simp only[Lx,LB]at h
      obtain⟨u,q,rfl,rfl,rfl⟩:=h;exact⟨λ_=>.inl (by subst hop;rfl),λh=>(by cases h),λb h=>(by cases h),Lb _,id⟩
    · cases h
  case h_26 hop=>
    simp only at hop;unfold Qne at h;split at h
    · simp only[Lx,LB]at h
      obtain⟨H1,q,rfl,rfl,rfl⟩:=h;exact⟨λ_=>.inl (by subst hop;rfl),λh=>(by cases h),λb h=>(by cases h),(QhE q).1,(QhE q).2⟩
    · cases h
  case h_27 hop=>
    simp only at hop;unfold Qne at h;split at h
    · simp only[Lx,LB]at h
      obtain⟨H1,q,rfl,rfl,rfl⟩:=h;exact⟨λ_=>.inl (by subst hop;rfl),λh=>(by cases h),λb h=>(by cases h),(QhE q).1,(QhE q).2⟩
    · cases h
  case h_28 hop=>
    simp only at hop;unfold Qoy at h;split at h;· exact ad (by subst hop;rfl) h
    · cases h
  case h_29 hop=>
    simp only at hop;simp only[Lx,LB]at h;obtain⟨⟨u,H1⟩,q,rfl,rfl,rfl⟩:=h;have ah:H.y<=H1.y∧(H.Wf->H1.Wf):=by
      unfold Qr7 at q;split at q
      · have q:=Yc q
        split at q
        · rename_i ag
          split at q;· simp only[Lt,LB]at q;obtain⟨_,rfl⟩:=q;exact⟨by simp,λab=>ab.set ag _⟩
          · simp only[Lt,LB]at q;obtain⟨_,rfl⟩:=q;exact⟨by simp,λab=>ab⟩
        · cases q
      · cases q
    exact⟨λ_=>.inl (by subst hop;rfl),λh=>(by cases h),λb h=>(by cases h),ah.1,ah.2⟩
  case h_30=>cases h
end
section
variable {P:Program} {n:Nat}
def Qse {ops:Array Oper}{o:Oper}{g:Option (Nat×Bool)}{A:Env}{ac no:Prop}(q:Qxg n ops o=some g)(h:pg g A ac no):
  (Yj n ops A o=some true∧ac)∨(Yj n ops A o=some false∧no):=by
 unfold Qxg at q;unfold Yj;split at q;·rename_i ab;cases q;exact .inl ⟨by rw[ab],h⟩
 rename_i j ag ab;rw[ab];split at q
 ·rename_i t ae;split at q
  ·rename_i ad;cases q;have h':(match A t with | .bool b=>if b=ag then ac else no | .tuple _=>no | _=>False):=h;simp only[ae,ad,N3];split at h'
   ·rename_i b aa;split at h';·rename_i e;exact .inl ⟨by simp[aa,e],h'⟩
    rename_i e;exact .inr ⟨by simp[aa,e],h'⟩
   ·rename_i aa;exact .inr ⟨by simp[aa],h'⟩
   exact h'.elim
  cases q
 cases q
def Qs2 {op:Op}{f:FuncId}{args:List Operand}(h:Wk P op=.call f args):∃a q,op=.call ⟨.value (.func f),a,q⟩∧args=a.toList:=by
 unfold Wk at h
 repeat' (split at h)
 all_goals first
  | (cases h;done)
  | (cases h;exact⟨_,_,rfl,rfl⟩)
def Qq3 {op:Op}{c:Operand}{args:List Operand}(h:Wk P op=.callv c args):∃a q,op=.call ⟨.value c,a,q⟩∧args=a.toList:=by
 unfold Wk at h
 repeat' (split at h)
 all_goals first
  | (cases h;done)
  | (cases h;exact⟨_,_,rfl,rfl⟩)
def Qu7 {op:Op}{size:Nat}{x y:Operand}{os:List Operand}(h:Wk P op=.stf size x y os):False:=by
 unfold Wk at h
 repeat' (split at h)
 all_goals cases h
def Qq4 {op:Op}{f:FuncId}{args os:List Operand}(h:Wk P op=.callF f args os):False:=by
 unfold Wk at h
 repeat' (split at h)
 all_goals cases h
def Qq5 {op:Op}{f:FuncId}{args os:List Operand}(h:Wk P op=.callG f args os):False:=by
 unfold Wk at h
 repeat' (split at h)
 all_goals cases h
def Qs3 {op:Op}{e size bytes:Nat}{x y:Operand}{os:List Operand}(h:Wk P op=.appF e size bytes x y os):False:=by
 unfold Wk at h
 repeat' (split at h)
 all_goals cases h
def InB (v:Value)(b:Nat):Prop:=(∃a:Addr,v=.pointer (some a)∧a.block=b)∨∃ (a:Addr) (n c:Nat),v=.slice (some a) n c∧a.block=b
def InB.uniq {v:Value}{b b':Nat}(h:InB v b)(h':InB v b'):b=b':=by
 rcases h with⟨a,rfl,rfl⟩ | ⟨a,n,c,rfl,rfl⟩<;>rcases h' with⟨q,e,rfl⟩ | ⟨q,aa,c',e,rfl⟩<;>cases e<;>rfl
def FA (o:Oper)(A:Env)(v:Value):Prop:=∀b,Qpd o=some b->∀n,InB v n->InB (A b) n
def FA.none {o:Oper}{A:Env}{v:Value}(h:Qpd o=none):FA o A v:=λb h'=>by rw[h]at h';cases h'
def QHD {o:Oper}{A:Env}{H H':Qa}{c:Cls}{v:Value}(h:aop P JS o A H=some (c,v,H')):FA o A v:=by
 obtain⟨ak,op,ty,pos,af,g⟩:=o;intro b ab n ac;unfold Qpd at ab;split at ab
 ·rename_i t b' f q;simp only at q;subst q;cases ab;have h:KR P JS A H t (.tmp b) f=some (c,v,H'):=h;unfold KR at h;split at h
  ·rename_i am a _ aa;split at h
   ·split at h
    ·rename_i ai _;cases ag:Nat.beq ai.size 0 with
     | true=>rw[ag]at h;cases h
     | false=>
      rw[ag]at h;simp only[Ls,Lt,LB]at h;have aa:A b=.pointer (some a):=aa;obtain⟨_,rfl,_⟩:=h;rcases ac with⟨ad,e,rfl⟩ | ⟨ad,ah,c',e,rfl⟩;·cases e;exact .inl ⟨a,aa,rfl⟩
      cases e
    cases h
   cases h
  cases h
 ·rename_i t b' aj q;simp only at q;subst q;cases ab;have h:ZV P JS A H t (.tmp b) aj=some (c,v,H'):=h;unfold ZV at h;split at h
  ·split at h
   ·rename_i e a len cap _ aa;have aa:A b=.slice (some a) len cap:=aa;split at h
    ·split at h
     ·simp only[Lt,LB]at h;obtain⟨_,rfl,_⟩:=h;rcases ac with⟨ad,e,rfl⟩ | ⟨ad,ah,c',e,rfl⟩;·cases e;exact .inr ⟨a,_,_,aa,rfl⟩
      cases e
     cases h
    cases h
   ·rename_i len e a _ aa;have aa:A b=.pointer (some a):=aa;split at h
    ·split at h
     ·simp only[Lt,LB]at h;obtain⟨_,rfl,_⟩:=h;rcases ac with⟨ad,e,rfl⟩ | ⟨ad,ah,c',e,rfl⟩;·cases e;exact .inl ⟨a,aa,rfl⟩
      cases e
     cases h
    cases h
   cases h
  cases h
 ·rename_i b' q;simp only at q;subst q;cases ab;have h:some (Cls.pure,ev A (.tmp b),H)=some (c,v,H'):=h;cases h;exact ac
 ·rename_i b' q;simp only at q;subst q;cases ab;have h:some (Cls.pure,ev A (.tmp b),H)=some (c,v,H'):=h;cases h;exact ac
 ·rename_i b' q;simp only at q;subst q;cases ab;have h:QaX P JS A H (.tmp b)=some (c,v,H'):=h;unfold QaX at h;cases ae:Qen (ev A (.tmp b)) with
  | false=>rw[ae]at h;cases h
  | true=>
   rw[ae]at h;cases h;exact ac
 cases ab
def QoC {o:Oper}{s:Bool}{A:Env}{H:Qa}{k:Value->Qa->Prop}(am:H.Wf)(h:pr P (Wk P o.op) s A H k):
  ∃c v H',Qnf P o A H v H' c∧Syn P o H H' c∧(s=true->QhD o=true->∀id,H'.get id=H.get id)∧(s=true->Qpc o=true->Qp H.y 6 v=true)∧FA o A v∧k v H':=by
 obtain⟨ae,op,ty,pos,af,g⟩:=o;have other:onS (rop P (Wk P op) A H) (λv H'=>(s=true->Qp H.y 6 v=true)∧k v H')->
   ∃c v H',Qnf P ⟨ae,op,ty,pos,af,g⟩ A H v H' c∧Syn P ⟨ae,op,ty,pos,af,g⟩ H H' c∧(s=true->QhD ⟨ae,op,ty,pos,af,g⟩=true->∀id,H'.get id=H.get id)∧(s=true->Qpc ⟨ae,op,ty,pos,af,g⟩=true->Qp H.y 6 v=true)∧FA ⟨ae,op,ty,pos,af,g⟩ A v∧k v H':=fun⟨v,H',aa,ad,ac⟩=>by
  obtain⟨c,q⟩:=Qxc aa;have q:aop P JS ⟨ae,op,ty,pos,af,g⟩ A H=some (c,v,H'):=q;refine⟨c,v,H',Ql2 QAp q,QEC q,λ_ ab=>?_,λh _=>ad h,QHD q,ac⟩;unfold QhD at ab;split at ab
  ·rename_i f a an ag;simp only at ag;subst ag;unfold aop at q;simp only[Qgj]at q;split at q;·rename_i aj;cases aj
   ·rename_i aj;cases aj
   ·simp[JS]at q
   split at q;·simp[JS]at q
   ·have q:=Yc q;simp[JS]at q
   cases q
  cases ab
 simp only[pr]at h;split at h;·rename_i f args aa;obtain⟨a,an,ag,rfl⟩:=Qs2 aa;subst ag;obtain⟨v,H',ab,ah,ai,ad,ac⟩:=h am;refine⟨.gen,v,H',Qou (by simpa using ab),⟨λ_=>.inl rfl,λh=>(by cases h),λb h=>(by cases h),ah,λ_=>ai⟩,λh _=>ad h,λ_ h=>(by cases h),.none rfl,ac⟩
 ·rename_i c args aa;obtain⟨a,an,ag,rfl⟩:=Qq3 aa;subst ag;split at h;·rename_i f xs ys ak;obtain⟨v,H',ab,ah,ai,ad,ac⟩:=h am;refine⟨.gen,v,H',QuR ak (by simpa using ab),⟨λ_=>.inl rfl,λh=>(by cases h),λb h=>(by cases h),ah,λ_=>ai⟩,λh _=>ad h,λ_ h=>(by cases h),.none rfl,ac⟩
  ·rename_i l ak;obtain⟨v,H',ab,ah,ai,ad,ac⟩:=h am;refine⟨.gen,v,H',QuY ak (by simpa using ab),⟨λ_=>.inl rfl,λh=>(by cases h),λb h=>(by cases h),ah,λ_=>ai⟩,λh _=>ad h,λ_ h=>(by cases h),.none rfl,ac⟩
  exact h.elim
 ·rename_i aa;exact(Qq4 aa).elim
 ·rename_i aa;exact(Qq5 aa).elim
 ·rename_i aa;exact(Qs3 aa).elim
 ·rename_i aa;exact(Qu7 aa).elim
 exact other h
def Low (P:Program)(o:Oper)(os:List Operand)(A:Env)(H H':Qa):Prop:=Qib o=true->∀z∈os,∃b:Nat,InB (ev A z) b∧b<H.y∧(isG P o=true->H'.get b=H.get b)
def Sep (o:Oper)(os:List Operand)(A:Env)(H H':Qa):Prop:=Qxe o=true->∃a:Nat,(∀id,id≠a->H'.get id=H.get id)∧∀z∈os,∀b:Addr,ev A z=.pointer (some b)->b.block≠a
def Qu8 {ops:Array Oper}{i:Nat}{o:Oper}{s:Bool}{A:Env}{H:Qa}{k:Value->Qa->Prop}(ap:H.Wf)(h:pr P (Qgm P ops s i o) s A H k):
  ∃c v H',Qnf P o A H v H' c∧Syn P o H H' c∧(s=true->QAo o=true->isG P o=false->EqB H H')∧(s=true->Qpc o=true->Qp H.y 6 v=true)∧(s=true->Sep o (Ql5 ops (QL ops.toList []) i) A H H')∧(s=true->Low P o (VU ops (QL ops.toList []) i) A H H')∧FA o A v∧k v H':=by
 cases s with
 | false=>
  obtain⟨c,v,H',ac,ae,ax,ar,an,am⟩:=QoC ap h;exact⟨c,v,H',ac,ae,λh=>(by cases h),ar,λh=>(by cases h),λh=>(by cases h),an,am⟩
 | true=>
  have h:pr P (QaY P ops i o) true A H k:=h;have aS:Qxe o=false->Qib o=false->QaY P ops i o=Wk P o.op->∃c v H',Qnf P o A H v H' c∧Syn P o H H' c∧(true=true->QAo o=true->isG P o=false->EqB H H')∧(true=true->Qpc o=true->Qp H.y 6 v=true)∧(true=true->Sep o (Ql5 ops (QL ops.toList []) i) A H H')∧(true=true->Low P o (VU ops (QL ops.toList []) i) A H H')∧FA o A v∧k v H':=λaO aA e=>by
   rw[e]at h;obtain⟨c,v,H',ac,ae,ax,ar,an,am⟩:=QoC ap h;exact⟨c,v,H',ac,ae,λaz ag _ id _=>ax az (by
    unfold QAo Qxd at ag;unfold Qib at aA;cases aM:QhD o with
    | true=>rfl
    | false=>
     rw[aM,Nt]at ag;split at ag;·rename_i q;rw[q]at aA;cases aA
     cases ag) id,ar,λ_ ab=>(by rw[aO]at ab;cases ab),λ_ ab=>(by rw[aA]at ab;cases ab),an,am⟩
  cases ao:Qxe o with
  | false=>
   cases ah:Qib o with
   | false=>
    refine aS ao ah ?_;unfold QaY;unfold Qxe at ao;unfold Qib at ah;split;·rename_i t x y q;rw[q]at ao;cases ao
    ·rename_i q;rw[q]at ah;cases ah
    ·rename_i q;rw[q]at ah;cases ah
    rfl
   | true=>
    obtain⟨aq,op,ty,pos,af,g⟩:=o;unfold Qib at ah;split at ah
    ·rename_i f a ak q;simp only at q;subst q;have aF:QaY P ops i ⟨aq,.call ⟨.value (.func f),a,ak⟩,ty,pos,af,g⟩=bif isG P ⟨aq,.call ⟨.value (.func f),a,ak⟩,ty,pos,af,g⟩ then .callG f a.toList (VU ops (QL ops.toList []) i) else .callF f a.toList (VU ops (QL ops.toList []) i):=rfl
     rw[aF]at h;cases ay:isG P ⟨aq,.call ⟨.value (.func f),a,ak⟩,ty,pos,af,g⟩ with
     | false=>
      rw[ay]at h;obtain⟨aw,aE⟩:=h;obtain⟨v,H',ag,aD,aG,ab,ai⟩:=aE ap;refine⟨.gen,v,H',Qou (by simpa using ag),⟨λ_=>.inl rfl,λh=>(by cases h),λb h=>(by cases h),aD,λ_=>aG⟩,λ_ _ _=>ab,λ_ h=>(by cases h),λ_ h=>(by cases h),λ_ _ z aj=>?_,.none rfl,ai⟩;have:=aw z aj;unfold QnW at this;split at this;·rename_i b ad;exact⟨_,.inl ⟨b,ad,rfl⟩,this,λh=>absurd (ay.symm.trans h) (by decide)⟩
      ·rename_i b n c ad;exact⟨_,.inr ⟨b,n,c,ad,rfl⟩,this,λh=>absurd (ay.symm.trans h) (by decide)⟩
      exact this.elim
     | true=>
      rw[ay]at h;obtain⟨aw,aE⟩:=h;obtain⟨v,H',ag,aD,aG,ab,ai⟩:=aE ap;refine⟨.gen,v,H',Qou (by simpa using ag),⟨λ_=>.inl rfl,λh=>(by cases h),λb h=>(by cases h),aD,λ_=>aG⟩,λ_ _ h=>(by cases h),λ_ h=>(by cases h),λ_ h=>(by cases h),λ_ _ z aj=>?_,.none rfl,ai⟩;have ac:=aw z aj;have ae:=ab z aj;unfold QnW at ac;split at ac;·rename_i b ad;rw[ad]at ae;exact⟨_,.inl ⟨b,ad,rfl⟩,ac,λ_=>ae⟩
      ·rename_i b n c ad;rw[ad]at ae;exact⟨_,.inr ⟨b,n,c,ad,rfl⟩,ac,λ_=>ae⟩
      exact ac.elim
    ·rename_i a ak q;simp only at q;subst q;have aF:QaY P ops i ⟨aq,.call ⟨.builtin .append,a,ak⟩,ty,pos,af,g⟩=(match Wk P (.call ⟨.builtin .append,a,ak⟩) with | .app e size bytes x y=>.appF e size bytes x y (VU ops (QL ops.toList []) i) | _=>.callG 0 [] [.const (.bool false)]):=rfl;rw[aF]at h;split at h
     ·rename_i e size bytes x y aP;obtain⟨aw,v,H',aa,ab,ai⟩:=h;obtain⟨c,aI,H1,ac,ae,ax,ar,an,am⟩:=QoC (s:=false) (k:=λaH H1=>aH=v∧H1=H') ap (o:=⟨aq,.call ⟨.builtin .append,a,ak⟩,ty,pos,af,g⟩) (by
       show pr P (Wk P (.call ⟨.builtin .append,a,ak⟩)) false A H _;rw[aP];exact⟨v,H',aa,λh=>(by cases h),rfl,rfl⟩)
      obtain⟨rfl,rfl⟩:=am;refine⟨c,aI,H1,ac,ae,λ_ _ _=>ab,λ_ av=>(by cases av),λ_ aQ=>(by cases aQ),λ_ _ z aj=>?_,an,ai⟩;have:=aw z aj;unfold QnW at this;split at this;·rename_i b ad;exact⟨_,.inl ⟨b,ad,rfl⟩,this,λh=>(by cases h)⟩
      ·rename_i b n c ad;exact⟨_,.inr ⟨b,n,c,ad,rfl⟩,this,λh=>(by cases h)⟩
      exact this.elim
     exact(h.1 _ (Sa.2 rfl)).elim
    cases ah
  | true=>
   unfold Qxe at ao;split at ao
   ·rename_i t x y q;unfold QaY at h;rw[q]at h;simp only at h;cases au:P.info? t with
    | none=>
     rw[au]at h;have e:Wk P (.store t x y)=.gen (.store t x y):=by simp[Wk,au]
     simp only at h;rw[e]at h;obtain⟨v,H',aa,ab,ai⟩:=h;simp only[rop,aop,Qka,Qi1,au]at aa;split at aa
     ·rename_i az;repeat' (split at az)
      all_goals (first | (cases az;done) | (rename_i aJ;cases aJ))
     cases aa
    | some aR=>
     rw[au]at h;obtain⟨v,H',aa,ab,ai⟩:=h;have e:Wk P o.op=.st aR.size x y:=by rw[q];simp[Wk,au]
     obtain⟨c,aI,H1,ac,ae,ax,ar,an,am⟩:=QoC (s:=false) (k:=λaH H1=>aH=v∧H1=H') ap (o:=o) (by
      rw[e];exact⟨v,H',aa,λh=>(by cases h),rfl,rfl⟩)
     obtain⟨rfl,rfl⟩:=am;refine⟨c,aI,H1,ac,ae,λ_ ag _=>?_,λ_ av=>?_,λ_ _=>?_,λ_ aC=>?_,an,ai⟩;·unfold QAo QhD Qxd at ag;rw[q]at ag;cases ag
     ·unfold Qpc at av;rw[q]at av;cases av
     ·simp only[rop]at aa;split at aa
      ·rename_i a aK;split at aa
       ·rename_i c' e' aT;split at aa;·simp only[Lt,LB]at aa;obtain⟨_,rfl⟩:=aa;refine⟨a.block,λid aN=>by rw[Qj,Le aN],λz aj=>?_⟩;have aB:=ab z aj;rw[aK]at aB;intro b1 aL;rw[aL]at aB;exact aB
        cases aa
       cases aa
      cases aa
     unfold Qib at aC;rw[q]at aC;cases aC
   cases ao
def Qja {ops:Array Oper}{ad:Nat->Bool}:∀ (l:List Oper) (i:Nat) (pl:List PO) (k:Env->Qa->Prop) (A:Env) (H:Qa),H.Wf->Vr P n ops ad l i=some pl->VV P pl k A H->
  ∃A1 H1,H1.Wf∧k A1 H1∧QiZ P n ops l (λe A' H'=>e=.normal∧A'=A1∧H'=H1) A H
 | [],i,pl,k,A,H,hwf,hc,h=>by
  simp only[Vr,Lt]at hc;subst hc;exact⟨A,H,hwf,h,QuK ⟨rfl,rfl,rfl⟩⟩
 | o::l,i,pl,k,A,H,hwf,hc,h=>by
  unfold Vr at hc;split at hc
  ·rename_i ah;split at hc
   ·rename_i g ac ap am;cases hc;have h:pg g A (pr P (Qgm P ops (ad i) i o) (ad i) A H λv H'=>VV P ac k (JQ A o.dst v) H') (VV P ac k (JQ A o.dst undef) H):=h;rcases Qse ap h with⟨ab,ar⟩ | ⟨ab,aq⟩
    ·obtain⟨c,v,H',ak,an,au,av,_,_,_,ao⟩:=Qu8 hwf ar;obtain⟨A1,H1,ai,ag,aa⟩:=Qja l (i+1) ac k _ _ (an.wf hwf) am ao;refine⟨A1,H1,ai,ag,?_⟩;cases q:o.guard with
     | none=>exact QrX q ak.does ah aa
     | some aj=>
      obtain⟨j,w⟩:=aj;exact Qce q ab (λ_=>⟨v,H',ak.does,aa⟩) (λae=>by cases ae) ah
    obtain⟨A1,H1,ai,ag,aa⟩:=Qja l (i+1) ac k _ _ hwf am aq;refine⟨A1,H1,ai,ag,?_⟩;cases q:o.guard with
    | none=>simp[Yj,q]at ab
    | some aj=>
     obtain⟨j,w⟩:=aj;exact Qce q ab (λae=>by cases ae) (λ_=>aa) ah
   cases hc
  cases hc
structure StR (P:Program) (n:Nat) (ops:Array Oper) (fl:Nat->Bool) (i:Nat) (o:Oper) (s:Stp) (t':Env) (H':Qa):Prop where
 ok:QfV P n o=true
 wf:s.H.Wf
 env:t'=JQ s.t o.dst s.v
 y:s.H.y<=H'.y
 run:(Yj n ops s.t o=some true∧Qnf P o s.t s.H s.v H' s.c∧Syn P o s.H H' s.c∧(fl i=true->QAo o=true->isG P o=false->EqB s.H H')∧(fl i=true->Qpc o=true->Qp s.H.y 6 s.v=true)∧(fl i=true->Sep o (Ql5 ops (QL ops.toList []) i) s.t s.H H')∧(fl i=true->Low P o (VU ops (QL ops.toList []) i) s.t s.H H')∧FA o s.t s.v) ∨
  (Yj n ops s.t o=some false∧s.c=.pure∧s.v=undef∧H'=s.H)
def Qgo (l:List Stp)(t:Env)(i:Nat):Env:=match l[i]? with | some s=>s.t | none=>t
def Qpe {ops:Array Oper}{q:Nat->Bool}:∀ (l:List Oper) (i:Nat) (pl:List PO) (k:Env->Qa->Prop) (A:Env) (H:Qa),H.Wf->Vr P n ops q l i=some pl->VV P pl k A H->
  ∃tr A1 H1,H1.Wf∧k A1 H1∧tr.length=l.length∧Qgo tr A1 0=A∧Xd tr H1 0=H∧∀ (j:Nat) o s,l[j]? = some o->tr[j]? = some s->StR P n ops q (i+j) o s (Qgo tr A1 (j+1)) (Xd tr H1 (j+1))
 | [],i,pl,k,A,H,hwf,hc,h=>by
  simp only[Vr,Lt]at hc;subst hc;exact⟨[],A,H,hwf,h,rfl,rfl,rfl,λj o s h=>by simp at h⟩
 | o::l,i,pl,k,A,H,hwf,hc,h=>by
  unfold Vr at hc;split at hc
  ·rename_i ai;split at hc
   ·rename_i g ac aq ay;cases hc;have h:pg g A (pr P (Qgm P ops (q i) i o) (q i) A H λv H'=>VV P ac k (JQ A o.dst v) H') (VV P ac k (JQ A o.dst undef) H):=h;have step:∀ (s:Stp) (ab:Env) (H':Qa),s.t=A->s.H=H->H'.Wf->VV P ac k ab H'->StR P n ops q i o s ab H'->
      ∃tr A1 H1,H1.Wf∧k A1 H1∧tr.length=(o::l).length∧Qgo tr A1 0=A∧Xd tr H1 0=H∧∀ (j:Nat) o' s,(o::l)[j]? = some o'->tr[j]? = some s->StR P n ops q (i+j) o' s (Qgo tr A1 (j+1)) (Xd tr H1 (j+1)):=by
     intro s ab H' e1 e2 aC ax aA;obtain⟨tr,A1,H1,aD,au,av,aB,ar,az⟩:=Qpe l (i+1) ac k ab H' aC ay ax;refine⟨s::tr,A1,H1,aD,au,by simp[av],by simp[Qgo,e1],by simp[Xd,e2],λj o' aF ae ag=>?_⟩;cases j with
     | zero=>
      simp only[Bp,Lt]at ae ag;subst ae;subst ag;have ad:Qgo (s::tr) A1 (0+1)=ab:=by rw[<- aB];simp[Qgo]
      have aa:Xd (s::tr) H1 (0+1)=H':=by rw[<- ar];simp[Xd]
      rw[ad,aa];exact aA
     | succ j=>
      have:=az j o' aF (by simpa using ae) (by simpa using ag);rw[show i+(j+1)=i+1+j by omega];simpa[Qgo,Xd] using this
    rcases Qse aq h with⟨ah,aE⟩ | ⟨ah,aw⟩;·obtain⟨c,v,H',ad,aa,aj,ak,an,ao,ap,am⟩:=Qu8 hwf aE;exact step ⟨A,H,c,v⟩ _ H' rfl rfl (aa.wf hwf) am ⟨ai,hwf,rfl,aa.y,.inl ⟨ah,ad,aa,aj,ak,an,ao,ap⟩⟩
    exact step ⟨A,H,.pure,undef⟩ _ H rfl rfl hwf aw ⟨ai,hwf,rfl,Lb _,.inr ⟨ah,rfl,rfl,rfl⟩⟩
   cases hc
  cases hc
def Va {t:TypeId}{a:Addr}{H1 H2:Qa}(h:H1.get a.block=H2.get a.block):Yg P t a H1=Yg P t a H2:=by
 unfold Yg;rw[h]
def Qpf (ops:Array Oper)(k e:Nat):∀ (d q:Nat),Ge ops k (e+d) q=match Ge ops (k+e) d q with | some c=>Ge ops k e c | none=>none
 | 0,q=>rfl
 | d+1,q=>by
  show(match ops[k+(e+d)]? with | some o=>(match Qu4 o q with | some c=>Ge ops k (e+d) c | none=>none) | none=>none)=(match (match ops[k+e+d]? with | some o=>(match Qu4 o q with | some c=>Ge ops (k+e) d c | none=>none) | none=>none) with | some c=>Ge ops k e c | none=>none);rw[show k+(e+d)=k+e+d by omega];cases ops[k+e+d]? with
  | none=>rfl
  | some o=>
   simp only;cases Qu4 o q with
   | none=>rfl
   | some c=>exact Qpf ops k e d c
def Qxp {ops:Array Oper}{k i j q bs:Nat}(h:Ge ops k (i - k) q=some bs)(ab:k<=j)(ac:j<=i):∃c,Ge ops j (i - j) q=some c:=by
 have:=Qpf ops k (j - k) (i - j) q;rw[show j - k+(i - j)=i - k by omega,h,show k+(j - k)=j by omega]at this;cases aa:Ge ops j (i - j) q with
 | none=>rw[aa]at this;cases this
 | some c=>exact⟨c,rfl⟩
def Qxq {id:Nat}{ops:Array Oper}{pl:List PO}{k:Env->Qa->Prop}{A:Env}{H:Qa}(cZ:H.Wf)(cH:P.follows .mixedOrders=true)(cP:∀o∈ops,Ql7 P o.op=false)(aS:QcY ops (Xc ops)=true)(cr:QyY P ops (QL ops.toList [])=true)
  (ak:Vr P n ops (WU ops (QL ops.toList [])) ops.toList 0=some pl) (h:VV P pl k A H):
  ∃A1 H1,H1.Wf∧k A1 H1∧AWp P n (.region id ops true) (λe A' H'=>e=.normal∧A'=A1∧H'=H1) A H:=by
 obtain⟨tr,A1,H1,cY,c6,cC,bw,ci,cS⟩:=Qpe ops.toList 0 pl k A H cZ ak h;refine⟨A1,H1,cY,c6,?_⟩;have cE:tr.length=ops.size:=by simpa using cC
 let As:Nat->Env:=Qgo tr A1
 let Hs:Nat->Qa:=Xd tr H1
 let bR:Nat->Value:=λi=>match tr[i]? with | some s=>s.v | none=>undef
 let bd:Nat->Cls:=λi=>match tr[i]? with | some s=>s.c | none=>.pure
 have au:∀ (i:Nat) o,ops[i]? = some o->∃s,tr[i]? = some s∧StR P n ops (WU ops (QL ops.toList [])) i o s (As (i+1)) (Hs (i+1))∧As i=s.t∧Hs i=s.H∧bR i=s.v∧bd i=s.c:=λi o ac=>by
  have av:i<tr.length:=by rw[cE];exact(Nj.1 ac).1
  have hi:=La av;refine⟨tr[i],hi,by have:=cS i o tr[i] (by simpa using ac) hi;rwa [LP]at this,?_,?_,?_,?_⟩<;>simp only[As,Hs,bR,bd,Qgo,Xd,hi]
 have aF:∀i,i<ops.size->∃o,ops[i]? = some o:=λi hi=>⟨ops[i],Ng hi⟩;have aY:∀i,i<ops.size->XW (bd i)=true->Xc ops i=true:=λi hi ad=>by
  obtain⟨o,ac⟩:=aF i hi;obtain⟨s,aQ,am,_,_,_,e4⟩:=au i o ac;rw[e4]at ad;simp only[Xc,ac];rcases am.run with⟨_,_,aU,_⟩ | ⟨_,b8,_⟩
  ·rcases aU.gen ad with h | h;·exact h
   have:=cP o (BB ac);rw[h]at this;cases this
  rw[b8]at ad;cases ad
 have bW:∀aa,aa<ops.size->Xc ops aa=true->WU ops (QL ops.toList []) aa=true->(VT ops aa=true∧(∀i,i<ops.size->Ql4 ops i=true->QF (QL ops.toList []) i aa=false->QF (QL ops.toList []) aa i=false->quiet P ops (QL ops.toList []) i aa=true)∧(gAt P ops aa=true->∀i,i<ops.size->(Ql4 ops i=true->QF (QL ops.toList []) i aa=false->QF (QL ops.toList []) aa i=false->aa<i)∧(Qex ops i=true->i<aa->QF (QL ops.toList []) i aa=true))) ∨
   (Qxf ops aa=true∧∀i,i<ops.size->(Ql4 ops i=true->QF (QL ops.toList []) i aa=false->QF (QL ops.toList []) aa i=false->QHw P ops (QL ops.toList []) i aa=true)∧(Qex ops i=true->i<aa->QF (QL ops.toList []) i aa=true)):=λaa bI ad bB=>by
  have:=Li.1 cr aa (LU.2 bI);simp only[ad,bB,L8,Nt,Nw,Lm,Li,LU]at this;rcases this with this | this
  ·refine .inl ⟨this.1.1,λi hi ae ah aB=>?_,λad i hi=>⟨λae ah aB=>?_,λae ah=>?_⟩⟩;·have:=this.1.2 i hi;simpa[ae,ah,aB] using this
   ·have ai:=this.2;simp only[ad,L8,LV,false_or]at ai;have:=(ai i hi).1;simpa[ae,ah,aB] using this
   have ai:=this.2;simp only[ad,L8,LV,false_or]at ai;have:=(ai i hi).2;have b:Nat.blt i aa=true:=by rw[B5];exact ah
   simpa[ae,b] using this
  refine .inr ⟨this.1,λi hi=>⟨λae ah aB=>?_,λae ah=>?_⟩⟩;·have:=(this.2 i hi).1;simpa[ae,ah,aB] using this
  have aB:=(this.2 i hi).2;have b:Nat.blt i aa=true:=by rw[B5];exact ah
  simpa[ae,b] using aB
 have ca:∀j,j<ops.size->(Hs j).y<=(Hs (j+1)).y:=λj aq=>by
  obtain⟨o,ac⟩:=aF j aq;obtain⟨s,aQ,am,e1,e2,e3,e4⟩:=au j o ac;rw[e2];exact am.y
 have bK:∀d a,a+d<=ops.size->(Hs a).y<=(Hs (a+d)).y:=λd=>by
  induction d with
  | zero=>exact λa _=>Lb _
  | succ d aK=>exact λa h=>N8 (aK a (by omega)) (ca (a+d) (by omega))
 have bo:∀aa,aa<ops.size->VT ops aa=true->WU ops (QL ops.toList []) aa=true->gAt P ops aa=false->EqB (Hs aa) (Hs (aa+1)):=λaa bI bV bB aT=>by
  obtain⟨o,ac⟩:=aF aa bI;obtain⟨s,aQ,am,e1,e2,e3,e4⟩:=au aa o ac;simp only[VT,ac]at bV;simp only[gAt,ac]at aT;rw[e2];rcases am.run with⟨_,_,_,aB,_⟩ | ⟨_,_,_,ab⟩;·exact aB bB bV aT
  rw[ab];exact λ_ _=>rfl
 have bJ:∀j,j<ops.size->(Xc ops j=false∨(WU ops (QL ops.toList []) j=true∧VT ops j=true∧gAt P ops j=false))->EqB (Hs j) (Hs (j+1)):=λj aq ad=>by
  obtain⟨o,ac⟩:=aF j aq;obtain⟨s,aQ,am,e1,e2,e3,e4⟩:=au j o ac;rcases am.run with⟨_,ag,aU,_⟩ | ⟨_,_,_,ab⟩
  ·cases ao:s.c with
   | pure=>rw[ao]at ag;rw[e2,ag.1];exact λ_ _=>rfl
   | load=>rw[ao]at ag;rw[e2,ag.1];exact λ_ _=>rfl
   | alloc b=>
    rw[ao]at ag;rw[e2,ag.1];exact λid bG=>by rw[Qc,Le (by omega)]
   | gen=>
    have aA:Xc ops j=true:=aY j aq (by rw[e4,ao];rfl);rcases ad with ad | ad;·rw[ad]at aA;cases aA
    exact bo j aq ad.2.1 ad.1 ad.2.2
  rw[e2,ab];exact λ_ _=>rfl
 have c9:∀d a,a+d<=ops.size->(∀j,a<=j->j<a+d->Xc ops j=false∨(WU ops (QL ops.toList []) j=true∧VT ops j=true∧gAt P ops j=false))->EqB (Hs a) (Hs (a+d)):=λd=>by
  induction d with
  | zero=>exact λa _ _ _ _=>rfl
  | succ d aK=>
   intro a h aq id bG;have ae:=aK a (by omega) (λj ae ah=>aq j ae (by omega)) id bG;have ah:=bJ (a+d) (by omega) (aq (a+d) (by omega) (by omega)) id (N5 bG (bK d a (by omega)));rw[show a+(d+1)=a+d+1 by omega,ah,ae]
 have F:ZU P n ops As Hs bR bd:=by
  refine⟨λi o ac=>?_,λi hi=>?_,λi o ac=>?_,λi o ac=>?_,Qnh aY aS⟩;·obtain⟨s,aQ,am,e1,e2,e3,e4⟩:=au i o ac;rw[e1,e3,am.env]
  ·obtain⟨o,ac⟩:=aF i hi;obtain⟨s,aQ,am,e1,e2,e3,e4⟩:=au i o ac;rw[e2];exact am.y
  ·obtain⟨s,aQ,am,e1,e2,e3,e4⟩:=au i o ac;exact am.ok
  obtain⟨s,aQ,am,e1,e2,e3,e4⟩:=au i o ac;have hi:i<ops.size:=(Nj.1 ac).1;unfold Qw3;rw[e1,e2,e3,e4];rcases am.run with⟨bO,ag,aU,de,cw,_,_⟩ | ⟨bO,b8,cX,cj⟩
  ·right;refine⟨bO,?_⟩;cases ao:s.c with
   | pure=>rw[ao]at ag;exact ag
   | gen=>rw[ao]at ag;exact ag
   | alloc b=>
    rw[ao]at ag;refine⟨ag.1,ag.2,λaa aE bH aZ ba=>?_⟩;have aA:=aY aa aE aZ;have bx:Qex ops i=true:=by simp only[Qex,ac];exact aU.alloc b ao
    have aO:WU ops (QL ops.toList []) aa=true:=by
     unfold WU;simp only[aA,LJ,Nw];left;rw[Bh];exact⟨i,LU.2 hi,by simp[bx,bH,ba]⟩
    rcases bW aa aE aA aO with aC | aC
    ·have aT:gAt P ops aa=false:=by
      cases bE:gAt P ops aa with
      | false=>rfl
      | true=>rw[(aC.2.2 bE i hi).2 bx bH]at ba;cases ba
     rw[bo aa aE aC.1 aO aT];have ai:=bK (aa - (i+1)) (i+1) (by omega);rw[show i+1+(aa - (i+1))=aa by omega,ag.1,Qf]at ai;omega
    rw[(aC.2 i hi).2 bx bH]at ba;cases ba
   | load=>
    rw[ao]at ag;obtain⟨ae,ce,x,a,cc,bg,aD⟩:=ag;refine⟨ae,ce,x,a,cc,bg,aD,λaa aE aZ o1 o2=>?_⟩;have aA:=aY aa aE aZ;have az:Ql4 ops i=true:=by simp only[Ql4,ac];exact aU.load ao
    have aO:WU ops (QL ops.toList []) aa=true:=by
     unfold WU;simp only[aA,LJ,Nw];left;rw[Bh];exact⟨i,LU.2 hi,by simp[az,o1,o2]⟩
    have cy:WU ops (QL ops.toList []) i=true:=by
     unfold WU;simp only[Nw];right;simp only[az,LJ];rw[Bh];exact⟨aa,LU.2 aE,by simp[aA,o1,o2]⟩
    have bq:o.op=.load ce x:=cc;have bT:Qp s.H.y 6 s.v=true:=cw cy (by unfold Qpc;rw[bq]);rcases bW aa aE aA aO with aC | aC
    ·have aP:=aC.2.1 i hi az o1 o2;have b7:a.block<(Hs i).y:=by
      rw[e2];unfold Yg at aD;split at aD;·rename_i ad;exact am.wf.lt ad
      cases aD
     unfold quiet at aP;simp only[Nw,Lm,Li,LU]at aP;have bC:(Hs aa).get a.block=(Hs i).get a.block∧(Hs (aa+1)).get a.block=(Hs aa).get a.block:=by
      rcases aP with⟨av,aP⟩ | ⟨⟨⟨av,ct⟩,bN⟩,aP⟩
      ·have av:i<aa:=by simpa using av
       have aT:gAt P ops aa=false:=by
        cases bE:gAt P ops aa with
        | false=>rfl
        | true=>have:=(aC.2.2 bE i hi).1 az o1 o2;omega
       have c2:Xc ops i=false:=by
        simp only[Ql4,ac]at az;simp only[Xc,ac];unfold Qpc at az;split at az;·rename_i cJ;simp only[QEz,cJ]
        cases az
       have aX:=c9 (aa - i) i (by omega) (λj ae ah=>?_);·rw[show i+(aa - i)=aa by omega]at aX;have ai:=bK (aa - i) i (by omega);rw[show i+(aa - i)=aa by omega]at ai;exact⟨aX _ b7,bo aa aE aC.1 aO aT a.block (by omega)⟩
       rcases Nq i j with aB | aB
       ·have ab:=aP j (by omega);have aW:Nat.ble j i=false:=by
         cases ay:Nat.ble j i with
         | false=>rfl
         | true=>rw[BL]at ay;omega
        rw[aW]at ab;rcases ab with ab | ab | ab;·cases ab
        ·exact .inl (by simpa using ab)
        exact .inr ⟨ab.1.1,ab.1.2,by simpa using ab.2⟩
       rw[show j=i by omega];exact .inl c2
      have av:aa<i:=by simpa using av
      obtain⟨bs,aL⟩:=D9.1 bN;have bz:∀j,aa<=j->j<i->(Xc ops j=false∨(WU ops (QL ops.toList []) j=true∧VT ops j=true∧(gAt P ops j=false∨Qdk (QL ops.toList []) i j=true))):=λj ae ah=>by
       have ab:=aP j ah;have aW:Nat.blt j aa=false:=by
        cases ay:Nat.blt j aa with
        | false=>rfl
        | true=>rw[B5]at ay;omega
       rw[aW]at ab;rcases ab with ab | ab | ab;·cases ab
       ·exact .inl (by simpa using ab)
       refine .inr ⟨ab.1.1,ab.1.2,?_⟩;rcases ab.2 with ax | ax;·exact .inl (by simpa using ax)
       exact .inr ax
      obtain⟨ok,cb⟩:=aF aa aE;obtain⟨bQ,dh,cU,aV,aN,bS,bh⟩:=au aa ok cb;have cp:∀ (aG bs d aH:Nat),aG+d<=i->Ge ops aG d aH=some bs->InB (As (aG+d) aH) a.block->InB (As aG bs) a.block:=λaG bs d=>by
       induction d with
       | zero=>intro aH _ ay ar;cases ay;exact ar
       | succ d aK=>
        intro aH aS ay ar;obtain⟨an,aw⟩:=aF (aG+d) (by omega);obtain⟨aM,bM,aJ,g1,g2,g3,g4⟩:=au (aG+d) an aw;simp only[Ge,aw]at ay;split at ay
        ·rename_i c ak;refine aK c (by omega) ay ?_;rw[show aG+(d+1)=aG+d+1 by omega,aJ.env,<- g1]at ar;unfold Qu4 at ak;cases bp:an.dst with
         | none=>
          rw[bp]at ak ar;have ak:some aH=some c:=ak;cases ak;exact ar
         | some q=>
          rw[bp]at ak ar;have ar:InB (upd (As (aG+d)) q aM.v aH) a.block:=ar
          by_cases bL:q=aH
          ·subst bL;rw[Qgb]at ar;have ak:Qpd an=some c:=by simpa using ak
           rcases aJ.run with⟨_,_,_,_,_,_,_,cx⟩ | ⟨_,_,_,br⟩;·have:=cx c ak _ ar;rw[g1];exact this
           exfalso;have br:aM.v=undef:=by first | exact br.1 | exact br | (rename_i cW;exact cW)
           rw[br]at ar;rcases ar with⟨_,e,_⟩ | ⟨_,_,_,e,_⟩<;>cases e
          rw[Qem _ _ (λh=>bL h.symm)]at ar;have ak:some aH=some c:=by have e:(q==aH)=false:=beq_false_of_ne bL;simpa[e] using ak
          cases ak;exact ar
        cases ay
      obtain⟨ap,aj⟩:∃ap,Qnl ops i=some ap:=by
       unfold Ql6 at aL;cases aj:Qnl ops i with
       | none=>rw[aj]at aL;cases aL
       | some ap=>exact⟨ap,rfl⟩
      have hx:x=.tmp ap:=by
       unfold Qnl at aj;rw[ac]at aj;simp only[bq]at aj;split at aj;·rename_i bF;cases bF;cases aj;rfl
       cases aj
      have cf:As i ap=.pointer (some a):=by rw[hx]at bg;rw[e1];exact bg
      have cq:Ge ops aa (i - aa) ap=some bs:=by
       unfold Ql6 at aL;rw[aj]at aL;exact aL
      have bZ:∀j,aa<=j->j<=i->∃c,Ql6 ops j i=some c∧InB (As j c) a.block:=λj ae ah=>by
       obtain⟨c,ak⟩:=Qxp cq ae ah;refine⟨c,by unfold Ql6;rw[aj];exact ak,?_⟩;refine cp j c (i - j) ap (by omega) ak ?_;rw[show j+(i - j)=i by omega,cf];exact .inl ⟨a,rfl,rfl⟩
      have cO:InB (As aa bs) a.block:=by
       obtain⟨c,bn,b9⟩:=bZ aa (Lb _) (by omega);rw[aL]at bn;cases bn;exact b9
      have bU:a.block<(Hs aa).y:=by
       have cG:∀z∈VU ops (QL ops.toList []) aa,∃b:Nat,InB (ev bQ.t z) b∧b<bQ.H.y:=by
        rcases cU.run with⟨_,_,_,_,_,_,ai,_⟩ | ⟨_,ai,_⟩;·intro z da;obtain⟨b,ae,ah,_⟩:=ai aO (by simpa only[QG1,cb] using ct) z da;exact⟨b,ae,ah⟩
        rw[bh,ai]at aZ;cases aZ
       obtain⟨b,aI,bm⟩:=cG (.tmp bs) (by
        unfold VU;rw[List.mem_filterMap];have b1:Nat.blt aa i=true:=by simpa using av
        exact⟨i,LU.2 hi,by simp[b1,az,Qdk,o1,o2,aL]⟩)
       have aI:InB (bQ.t bs) b:=aI;rw[<- aV]at aI;rw[aN,cO.uniq aI];exact bm
      have bc:∀j,aa<=j->j<i->a.block<(Hs j).y->(Hs (j+1)).get a.block=(Hs j).get a.block:=λj ae ah aR=>by
       rcases bz j ae ah with ab | ⟨ab,aW,ax⟩;·exact bJ j (by omega) (.inl ab) _ aR
       cases bD:gAt P ops j with
       | false=>exact bJ j (by omega) (.inr ⟨ab,aW,bD⟩) _ aR
       | true=>
        have ax:Qdk (QL ops.toList []) i j=true:=by
         rcases ax with ax | ax;·rw[bD]at ax;cases ax
         exact ax
        obtain⟨an,aw⟩:=aF j (by omega);obtain⟨aM,bM,aJ,g1,g2,g3,g4⟩:=au j an aw;have bj:isG P an=true:=by simpa only[gAt,aw] using bD
        have cv:Qib an=true:=by
         unfold isG at bj;unfold Qib;split at bj;·first | rfl | (rename_i cK;rw[cK])
         cases bj
        obtain⟨c,bn,b9⟩:=bZ j ae (by omega);rw[g2];rcases aJ.run with⟨_,_,_,_,_,_,ai,_⟩ | ⟨_,_,_,ai⟩
        ·obtain⟨b,aI,bm,co⟩:=ai ab cv (.tmp c) (by
          unfold VU;rw[List.mem_filterMap];have b1:Nat.blt j i=true:=by simpa using ah
          have dc:Qdk (QL ops.toList []) i j=true:=ax;exact⟨i,LU.2 hi,by simp[b1,az,dc,bn]⟩)
         have aI:InB (aM.t c) b:=aI;rw[<- g1]at aI;rw[b9.uniq aI];exact co bj
        rw[ai]
      have cI:∀d,aa+d<=i->(Hs (aa+d)).get a.block=(Hs aa).get a.block∧a.block<(Hs (aa+d)).y:=λd=>by
       induction d with
       | zero=>exact λ_=>⟨rfl,bU⟩
       | succ d aK=>
        intro aS;obtain⟨bu,bP⟩:=aK (by omega);have df:=ca (aa+d) (by omega);refine⟨?_,?_⟩;·rw[show aa+(d+1)=aa+d+1 by omega,bc (aa+d) (by omega) (by omega) bP,bu]
        rw[show aa+(d+1)=aa+d+1 by omega];omega
      have aX:=(cI (i - aa) (by omega)).1;rw[show aa+(i - aa)=i by omega]at aX;exact⟨aX.symm,bc aa (Lb _) av bU⟩
     exact⟨by rw[Va bC.1,e2];exact aD,by rw[Va bC.2,Va bC.1,e2];exact aD,bT⟩
    have bA:=(aC.2 i hi).1 az o1 o2;unfold QHw at bA;simp only[Lm,Li,LU]at bA;obtain⟨⟨av,bN⟩,bz⟩:=bA;have av:i<aa:=by simpa using av
    obtain⟨ap,aj⟩:=D9.1 bN;have hx:x=.tmp ap:=by
     unfold Qnl at aj;rw[ac]at aj;simp only[bq]at aj;split at aj;·rename_i bF;cases bF;cases aj;rfl
     cases aj
    subst hx;have bc:∀j,i<=j->j<ops.size->As j ap=.pointer (some a)->(Xc ops j=false∨(VT ops j=true∧WU ops (QL ops.toList []) j=true∧gAt P ops j=false)∨(i<j∧Qxf ops j=true∧WU ops (QL ops.toList []) j=true∧Qdk (QL ops.toList []) i j=true))->a.block<(Hs j).y->(Hs (j+1)).get a.block=(Hs j).get a.block:=λj c3 aq bw ad aR=>by
     obtain⟨an,aw⟩:=aF j aq;obtain⟨aM,bM,aJ,aV,aN,bS,bh⟩:=au j an aw;rw[aN]at aR ⊢;rcases aJ.run with⟨_,ag,aU,_,_,cT,_⟩ | ⟨_,_,_,ab⟩
     ·cases ao:aM.c with
      | pure=>rw[ao]at ag;rw[ag.1]
      | load=>rw[ao]at ag;rw[ag.1]
      | alloc b=>rw[ao]at ag;rw[ag.1,Qc,Le (by omega)]
      | gen=>
       have aA:Xc ops j=true:=aY j aq (by rw[bh,ao];rfl);rcases ad with ad | ad | ⟨c4,bY,cz,c1⟩;·rw[ad]at aA;cases aA
       ·rw[<- aN];rw[<- aN]at aR;exact bo j aq ad.1 ad.2.1 ad.2.2 _ aR
       simp only[Qxf,aw]at bY;obtain⟨dd,c7,c8⟩:=cT cz bY;have bm:=c8 (.tmp ap) (by
        unfold Ql5;rw[List.mem_filterMap];exact⟨i,LU.2 c4,by simp[az,c1,aj]⟩) a (by show aM.t ap=_;rw[<- aV];exact bw)
       exact c7 _ bm
     rw[ab]
    have b7:a.block<(Hs i).y:=by
     rw[e2];unfold Yg at aD;split at aD;·rename_i ad;exact am.wf.lt ad
     cases aD
    have cg:As i ap=.pointer (some a):=by rw[e1];exact bg
    have cm:∀j,i<=j->j<aa->(∀an,ops[j]? = some an->an.dst≠some ap)∧(Xc ops j=false∨(VT ops j=true∧WU ops (QL ops.toList []) j=true∧gAt P ops j=false)∨(i<j∧Qxf ops j=true∧WU ops (QL ops.toList []) j=true∧Qdk (QL ops.toList []) i j=true)):=λj c3 c5=>by
     have:=bz j c5;have b1:Nat.blt j i=false:=by
      cases ay:Nat.blt j i with
      | false=>rfl
      | true=>rw[B5]at ay;omega
     simp only[b1,Nw,Lm,aj,Lr,LV,false_or]at this;refine⟨λan aw aS=>?_,?_⟩;·have ai:=this.1;rw[aw]at ai;simp[aS]at ai
     rcases this.2 with(h | h) | h;·exact .inl h
     ·exact .inr (.inl ⟨h.1.1,h.1.2,h.2⟩)
     refine .inr (.inr ⟨?_,h.1.1,h.1.2,h.2⟩);rcases Nq i j with h' | h';·exact h'
     have e:j=i:=by omega
     subst e;have bi:=h.1.1;unfold Qxf Qxe at bi;rw[ac]at bi;simp only[bq]at bi;cases bi
    have cQ:∀d,i+d<=aa->As (i+d) ap=.pointer (some a)∧(Hs (i+d)).get a.block=(Hs i).get a.block∧a.block<(Hs (i+d)).y:=by
     intro d
     induction d with
     | zero=>exact λ_=>⟨cg,rfl,b7⟩
     | succ d aK=>
      intro aS;obtain⟨bu,bP,db⟩:=aK (by omega);have aq:i+d<ops.size:=by omega
      obtain⟨an,aw⟩:=aF (i+d) aq;obtain⟨aM,bM,aJ,aV,aN,bS,bh⟩:=au (i+d) an aw;obtain⟨g1,g2⟩:=cm (i+d) (by omega) (by omega);refine⟨?_,?_,?_⟩
      ·rw[show i+(d+1)=i+d+1 by omega,aJ.env,<- aV,<- bu];cases bp:an.dst with
       | none=>rfl
       | some q=>exact Qem _ _ (λh=>g1 an aw (by rw[bp,h]))
      ·rw[show i+(d+1)=i+d+1 by omega,bc (i+d) (by omega) aq bu g2 db,bP]
      rw[show i+(d+1)=i+d+1 by omega];have:=aJ.y;rw[<- aN]at this;omega
    obtain⟨r1,r2,r3⟩:=cQ (aa - i) (by omega);rw[show i+(aa - i)=aa by omega]at r1 r2 r3;have cD:=bc aa (by omega) aE r1 (.inr (.inr ⟨av,aC.1,aO,by unfold Qdk;rw[o1,o2];rfl⟩)) r3;exact⟨by rw[Va r2,e2];exact aD,by rw[Va cD,Va r2,e2];exact aD,bT⟩
  left;exact⟨bO,cX,cj,b8⟩
 have bX:As ops.size=A1∧Hs ops.size=H1:=by
  have:tr[ops.size]? = none:=N7 (by omega);simp only[As,Hs,Qgo,Xd,this,RU]
 have ch:As 0=A:=bw;have cl:Hs 0=H:=ci;have:=QuW (id:=id) (Q:=λe A' H'=>e=.normal∧A'=A1∧H'=H1) cH F ⟨rfl,bX.1,bX.2⟩;rwa [ch,cl]at this
def Fp (ks:Kp)(k:Env->Qa->Prop):Ex->Env->Qa->Prop
 | .normal,A,H=>k A H
 | .ret,A,H=>ks.ret A H
 | .exit j,A,H=>j<J0∧ks.ext j A H
 | .goto l,A,H=>ks.ext (J0+l) A H
 | _,_,_=>False
def Qs4 (q:Ex)(A1:Env)(H1:Qa):Ex->Env->Qa->Prop:=λe A H=>e=q∧A=A1∧H=H1
def QEH (x y:PC)(ks:Kp)(k:Env->Qa->Prop)(A:Env)(H:Qa):Qm P (sq x y) ks k A H=Qm P x ks (Qm P y ks k) A H:=by
 unfold sq;split<;>rfl
def QB0 (x y:PC)(l:Nat)(hx:x=.skip->True):KS (sq x y) l=match KS x l with | some r=>some (sq r y) | none=>KS y l:=by
 unfold sq;split;·simp[KS]
 ·rename_i aa;cases q:KS x l with
  | none=>simp[KS]
  | some r=>
   cases r<;>rfl
 rfl
def Ql9:∀ (c:Code) (aa:PC),comp P n c=some aa->∀l,(∀rest,findLabel c l=some rest->∃pr,KS aa l=some pr∧comp P n rest=some pr)∧(findLabel c l=none->KS aa l=none):=by
 intro c
 induction c with
 | seq a b ae ag=>
  intro aa h l;simp only[comp]at h;split at h
  ·rename_i x y hx ak;simp only[Lt]at h;subst h;obtain⟨a1,a2⟩:=ae x hx l;obtain⟨b1,b2⟩:=ag y ak l;rw[QB0 x y l (λ_=>trivial)];cases ad:findLabel a l with
   | some r=>
    obtain⟨pr,ao,ap⟩:=a1 r ad;rw[ao];refine⟨λrest q=>?_,λac=>?_⟩;·simp only[findLabel,ad,Lt]at q;subst q;exact⟨_,rfl,by simp only[comp,ap,ak]⟩
    simp only[findLabel,ad]at ac;cases ac
   | none=>
    rw[a2 ad];simp only[findLabel,ad];exact⟨b1,b2⟩
  cases h
 | label ah=>
  intro aa h l;simp only[comp,Lt]at h;subst h;refine⟨λrest q=>?_,λac=>?_⟩
  ·simp only[findLabel]at q;split at q
   ·rename_i ab;have ab:ah=l:=by simpa using ab
    subst ab;cases q;exact⟨.skip,by simp[KS],rfl⟩
   cases q
  simp only[findLabel]at ac;split at ac;·cases ac
  rename_i ab;have ab:¬ah=l:=by simpa using ab
  simp[KS,Zw,ab]
 | scope b am=>
  intro aa h l;refine⟨λrest q=>(by cases q),λ_=>?_⟩;simp only[comp,Lx]at h;obtain⟨ai,aj,rfl⟩:=h;unfold QoB;split;·rename_i aq;exact nolab ai aq l
  ·split;·rfl
   rfl
  rfl
 | region id ops an=>
  intro aa h l;refine⟨λrest q=>(by cases q),λ_=>?_⟩;cases an;·simp only[comp,Lt]at h;subst h;split<;>rfl
  simp only[comp,Lt]at h;subst h;split;·split<;>rfl
  rfl
 | cond x a b ae ag=>
  intro aa h l;refine⟨λrest q=>(by cases q),λ_=>?_⟩;simp only[comp]at h;split at h
  ·split at h;·cases h;rfl
   cases h
  cases h
 | block id b am=>
  intro aa h l;refine⟨λrest q=>(by cases q),λ_=>?_⟩;simp only[comp,Lx]at h;obtain⟨ai,aj,rfl⟩:=h;cases Nat.blt id J0<;>rfl
 | loop b am=>
  intro aa h l;refine⟨λrest q=>(by cases q),λ_=>?_⟩;simp only[comp,Lx]at h;obtain⟨ai,aj,rfl⟩:=h;rfl
 | rangeFunc g ar a b ae ag=>
  intro aa h l;refine⟨λrest q=>(by cases q),λ_=>?_⟩;simp only[comp]at h;split at h
  ·split at h;·cases h;rfl
   cases h
  cases h
 | exit id=>
  intro aa h l;refine⟨λrest q=>(by cases q),λ_=>?_⟩;simp only[comp,Lt]at h;subst h;cases Nat.blt id J0<;>rfl
 | _=>
  intro aa h l;refine⟨λrest q=>(by cases q),λ_=>?_⟩;cases h;rfl
 where
 nolab:∀ (aa:PC),Gf aa=[]->∀l,KS aa l=none
  | .seq a b,h,l=>by
   simp only[Gf,List.append_eq_nil_iff]at h;simp only[KS,nolab a h.1 l,nolab b h.2 l]
  | .label ah,h,l=>by simp[Gf]at h
  | .skip,h,l=>rfl
  | .ops _,h,l=>rfl
  | .cond _ _ _,h,l=>rfl
  | .block _ _,h,l=>rfl
  | .loop _,h,l=>rfl
  | .exit _,h,l=>rfl
  | .ret,h,l=>rfl
  | .goto _,h,l=>rfl
  | .scope _ _ _,h,l=>rfl
  | .rangeF _ _ _ _,h,l=>rfl
  | .bad,h,l=>rfl
def QaH:∀ (ac:PC) (l:Nat) (r:PC),KS ac l=some r->l∈Gf ac
 | .seq a b,l,r,h=>by
  simp only[KS]at h;simp only[Gf,LI];cases ab:KS a l with
  | some q=>exact .inl (QaH a l q ab)
  | none=>rw[ab]at h;exact .inr (QaH b l r h)
 | .label l',l,r,h=>by
  simp only[KS]at h;cases aa:Nat.beq l' l with
  | true=>simp[Gf,LA aa]
  | false=>rw[aa]at h;cases h
 | .skip,l,r,h=>by cases h
 | .ops _,l,r,h=>by cases h
 | .cond _ _ _,l,r,h=>by cases h
 | .block _ _,l,r,h=>by cases h
 | .loop _,l,r,h=>by cases h
 | .exit _,l,r,h=>by cases h
 | .ret,l,r,h=>by cases h
 | .goto _,l,r,h=>by cases h
 | .scope _ _ _,l,r,h=>by cases h
 | .rangeF _ _ _ _,l,r,h=>by cases h
 | .bad,l,r,h=>by cases h
def Snd (P:Program)(n:Nat)(c:Code)(aa:PC):Prop:=∀ (ks:Kp) (k:Env->Qa->Prop) (A:Env) (H:Qa),H.Wf->Qm P aa ks k A H->∃q A1 H1,H1.Wf∧Fp ks k q A1 H1∧AWp P n c (Qs4 q A1 H1) A H
def Qy2 {a b:Code}{x y:PC}(q:Snd P n a x)(ag:Snd P n b y):Snd P n (.seq a b) (sq x y):=by
 intro ks k A H aj h;rw[QEH]at h;obtain⟨ac,A1,H1,ab,aa,q⟩:=q ks _ A H aj h;cases ac with
 | normal=>
  obtain⟨ad,A2,H2,ai,ah,ae⟩:=ag ks k A1 H1 ab aa;refine⟨ad,A2,H2,ai,ah,QjY (q.mono ?_)⟩;rintro e A' H' ⟨rfl,rfl,rfl⟩;exact ae
 | ret=>exact⟨.ret,A1,H1,ab,aa,QjY (q.mono (by rintro e A' H' ⟨rfl,rfl,rfl⟩;exact⟨rfl,rfl,rfl⟩))⟩
 | exit j=>exact⟨.exit j,A1,H1,ab,aa,QjY (q.mono (by rintro e A' H' ⟨rfl,rfl,rfl⟩;exact⟨rfl,rfl,rfl⟩))⟩
 | goto j=>exact⟨.goto j,A1,H1,ab,aa,QjY (q.mono (by rintro e A' H' ⟨rfl,rfl,rfl⟩;exact⟨rfl,rfl,rfl⟩))⟩
 | panic v=>exact aa.elim
def QKF (P:Program)(n:Nat)(c:Code)(q:PC):Prop:=Snd P n c q∧∀l rest,findLabel c l=some rest->∃pr,KS q l=some pr∧comp P n rest=some pr∧Snd P n rest pr
def Qs5:∀ (c:Code) (ai:PC),comp P n c=some ai->QKF P n c ai:=by
 intro c
 induction c with
 | skip=>intro ai aa;cases aa;exact⟨λks k A H ac h=>⟨.normal,A,H,ac,h,QoU ⟨rfl,rfl,rfl⟩⟩,λl rest h=>by cases h⟩
 | label l=>
  intro ai aa;cases aa;refine⟨λks k A H ac h=>⟨.normal,A,H,ac,h,QrW ⟨rfl,rfl,rfl⟩⟩,λb7 rest h=>?_⟩;obtain⟨pr,ap,aq⟩:=(Ql9 (P:=P) (n:=n) (.label l) (.label l) rfl b7).1 rest h;refine⟨pr,ap,aq,?_⟩;simp only[findLabel]at h;split at h;·cases h;cases aq;exact λks k A H ac h=>⟨.normal,A,H,ac,h,QoU ⟨rfl,rfl,rfl⟩⟩
  cases h
 | ret=>intro ai aa;cases aa;exact⟨λks k A H ac h=>⟨.ret,A,H,ac,h,QyR ⟨rfl,rfl,rfl⟩⟩,λl rest h=>by cases h⟩
 | exit id=>
  intro ai aa;simp only[comp,Lt]at aa;subst aa;refine⟨λks k A H ac h=>?_,λl rest h=>by cases h⟩;cases aj:Nat.blt id J0 with
  | true=>
   rw[aj]at h;exact⟨.exit id,A,H,ac,⟨by simpa using aj,h⟩,QuI ⟨rfl,rfl,rfl⟩⟩
  | false=>rw[aj]at h;exact h.elim
 | goto l=>intro ai aa;cases aa;exact⟨λks k A H ac h=>⟨.goto l,A,H,ac,h,QuJ ⟨rfl,rfl,rfl⟩⟩,λl rest h=>by cases h⟩
 | refuse s=>intro ai aa;cases aa;exact⟨λks k A H ac h=>h.elim,λl rest h=>by cases h⟩
 | rangeFunc g aE a b ay az=>
  intro ai aa;refine⟨λks k A H ac h=>?_,λl rest h=>by cases h⟩;simp only[comp]at aa;split at aa
  ·rename_i aC;split at aa
   ·rename_i aR ak am aj;cases aa;simp only[Qm]at h;split at h
    ·rename_i f xs ys bj;obtain⟨bi,bg⟩:=h (λst=>Blk.loop A n aE a b st) (λl args H0 Q ao aJ bq aW=>by
      have an:l<H0.y:=aW.lt ao;obtain⟨ad,A1,H1,ab,au,ba⟩:=(ay aR am).1 _ _ _ _ (aW.kill l) bq;cases ad with
      | ret=>exact au.elim
      | exit j=>exact au.2.elim
      | goto j=>exact au.elim
      | panic v=>exact au.elim
      | normal=>
       obtain⟨ad,A2,H2,aw,ah,bc⟩:=(az ak aj).1 _ _ _ _ ab au;have aJ:args.length=aE.size:=by simpa using aJ
       have aP:∀b,H0.y<=H2.y->(H2.set l b).Wf:=λb b9 id aT=>by
        simp only[QR]at aT;rw[Qj,Le (by omega)];exact aw id aT
       have mk:∀v H',Qo8 l (Blk.loop A n aE a b) v H' ad A2 H2->Qr5 P l args H0 v H':=λv H' bu=>
        Qnb ao aJ (ba.mono (by
         rintro e A' H' ⟨rfl,rfl,rfl⟩;exact bc.mono (by rintro e A' H' ⟨rfl,rfl,rfl⟩;exact bu)))
       cases ad with
       | normal=>exact⟨_,_,mk _ _ ⟨rfl,JP.refl _⟩,by simpa using ah.1,aP _ ah.1,ah.2⟩
       | ret=>exact⟨_,_,mk _ _ ⟨rfl,JP.refl _⟩,by simpa using ah.1,aP _ ah.1,ah.2⟩
       | exit j=>exact⟨_,_,mk _ _ ⟨rfl,JP.refl _⟩,by simpa using ah.2.2.1,aP _ ah.2.2.1,ah.2.2.2⟩
       | goto j=>exact absurd ah.1 (by simp)
       | panic v=>exact ah.elim)
     obtain⟨v,H2,bh,bA,bz,st,ao,ag⟩:=bg (ac.push _);have aO:(H2.kill H.y).Wf:=bz.kill _;have mk:∀e,QBO (Qs4 e A (H2.kill H.y)) A (H2.kill H.y) st->AWp P n (.rangeFunc g aE a b) (Qs4 e A (H2.kill H.y)) A H:=λe br=>Qh9 aC bj bi bh ao br;unfold QBV at ag;split at ag;·exact⟨.normal,A,_,aO,ag,mk _ ⟨rfl,rfl,rfl⟩⟩
     ·exact⟨.ret,A,_,aO,ag,mk _ ⟨rfl,rfl,rfl⟩⟩
     ·rename_i j;exact⟨.exit j,A,_,aO,⟨by simpa using ag.1,ag.2⟩,mk _ ⟨rfl,rfl,rfl⟩⟩
     exact ag.elim
    exact h.elim
   cases aa
  cases aa
 | region id ops aY=>
  intro ai aa;refine⟨λks k A H ac h=>?_,λl rest h=>by cases h⟩;cases aY with
  | false=>
   simp only[comp,Lt]at aa;subst aa;split at h
   ·rename_i pl aL;obtain⟨A1,H1,ab,aI,am⟩:=Qja ops.toList 0 pl k A H ac aL h;exact⟨.normal,A1,H1,ab,aI,(by
     have ae:AWp P n (.region id ops.toList.toArray false) (Qs4 .normal A1 H1) A H:=QoV (l:=ops.toList) (by
      have am:QiZ P n ops ops.toList (Qs4 .normal A1 H1) A H:=am;simpa using am)
     simpa using ae)⟩
   exact h.elim
  | true=>
   simp only[comp,Lt]at aa;subst aa;split at h
   ·rename_i ar;simp only[Lm]at ar;split at h;·rename_i pl aL;obtain⟨A1,H1,ab,aI,am⟩:=Qxq (id:=id) ac ar.1.1.1 (λo bo=>by simpa using B1.1 ar.2 o bo) ar.1.1.2 ar.1.2 aL h;exact⟨.normal,A1,H1,ab,aI,am⟩
    exact h.elim
   exact h.elim
 | seq a b ay az=>
  intro ai aa;have bd:=aa;simp only[comp]at aa;split at aa
  ·rename_i x y hx aX;simp only[Lt]at aa;subst aa;obtain⟨a1,a2⟩:=ay x hx;obtain⟨b1,b2⟩:=az y aX;refine⟨Qy2 a1 b1,λl rest h=>?_⟩;obtain⟨pr,ap,aq⟩:=(Ql9 _ _ bd l).1 rest h;refine⟨pr,ap,aq,?_⟩;cases q:findLabel a l with
   | some r=>
    simp only[findLabel,q,Lt]at h;subst h;obtain⟨b8,aF,aA,aB⟩:=a2 l r q;simp only[comp,aA,aX,Lt]at aq;subst aq;exact Qy2 aB b1
   | none=>
    simp only[findLabel,q]at h;obtain⟨b8,aF,aA,aB⟩:=b2 l rest h;rw[aq]at aA;cases aA;exact aB
  cases aa
 | cond x a b ay az=>
  intro ai aa;refine⟨λks k A H ac h=>?_,λl rest h=>by cases h⟩;simp only[comp]at aa;split at aa
  ·rename_i aC;split at aa
   ·rename_i aR ak am aj;cases aa;simp only[Qm]at h;split at h
    ·rename_i t aV;cases t with
     | true=>
      obtain⟨ad,A1,H1,ab,q,ae⟩:=(ay aR am).1 ks k A H ac (h.1 rfl);exact⟨ad,A1,H1,ab,q,QjZ (t:=true) aC aV ae⟩
     | false=>
      obtain⟨ad,A1,H1,ab,q,ae⟩:=(az ak aj).1 ks k A H ac (h.2 rfl);exact⟨ad,A1,H1,ab,q,QjZ (t:=false) aC aV ae⟩
    exact h.elim
   cases aa
  cases aa
 | block id b ax=>
  intro ai aa;refine⟨λks k A H ac h=>?_,λl rest h=>by cases h⟩;simp only[comp,Lx]at aa;obtain⟨ak,aj,rfl⟩:=aa;cases an:Nat.blt id J0 with
  | false=>rw[an]at h;exact h.elim
  | true=>
   rw[an]at h;have an:id<J0:=by simpa using an
   obtain⟨ad,A1,H1,ab,q,ae⟩:=(ax ak aj).1 _ k A H ac h;cases ad with
   | normal=>exact⟨.normal,A1,H1,ab,q,QaP (ae.mono (by rintro e A' H' ⟨rfl,rfl,rfl⟩;exact⟨rfl,rfl,rfl⟩))⟩
   | ret=>exact⟨.ret,A1,H1,ab,q,QaP (ae.mono (by rintro e A' H' ⟨rfl,rfl,rfl⟩;exact⟨rfl,rfl,rfl⟩))⟩
   | exit j=>
    simp only[Fp]at q
    by_cases ag:j=id;·rw[Lc ag]at q;exact⟨.normal,A1,H1,ab,q.2,QaP (ae.mono (by rintro e A' H' ⟨rfl,rfl,rfl⟩;simp only[Qj0,Lc ag];exact⟨rfl,rfl,rfl⟩))⟩
    rw[Le ag]at q;exact⟨.exit j,A1,H1,ab,q,QaP (ae.mono (by rintro e A' H' ⟨rfl,rfl,rfl⟩;simp only[Qj0,Le ag];exact⟨rfl,rfl,rfl⟩))⟩
   | goto j=>
    simp only[Fp]at q;rw[Le (by omega)]at q;exact⟨.goto j,A1,H1,ab,q,QaP (ae.mono (by rintro e A' H' ⟨rfl,rfl,rfl⟩;exact⟨rfl,rfl,rfl⟩))⟩
   | panic v=>exact q.elim
 | loop b ax=>
  intro ai aa;refine⟨λks k A H ac h=>?_,λl rest h=>by cases h⟩;simp only[comp,Lx]at aa;obtain⟨ak,aj,rfl⟩:=aa;obtain⟨I,⟨m,aK⟩,aN⟩:=h;have key:∀m A H,H.Wf->I m A H->∃ad A1 H1,H1.Wf∧Fp ks k ad A1 H1∧Qgi P n b (Qs4 ad A1 H1) A H:=by
   intro m
   induction m using Nat.strongRecOn with
   | _ m aQ=>
    intro A H ac aH;obtain⟨ad,A1,H1,ab,q,ae⟩:=(ax ak aj).1 ks _ A H ac (aN m A H aH);cases ad with
    | normal=>
     obtain⟨aD,an,aZ⟩:=q;obtain⟨aG,A2,H2,aw,ah,bm⟩:=aQ aD an A1 H1 ab aZ;exact⟨aG,A2,H2,aw,ah,Qde (ae.mono (by rintro e A' H' ⟨rfl,rfl,rfl⟩;exact bm))⟩
    | ret=>exact⟨.ret,A1,H1,ab,q,Qde (ae.mono (by rintro e A' H' ⟨rfl,rfl,rfl⟩;exact⟨rfl,rfl,rfl⟩))⟩
    | exit j=>exact⟨.exit j,A1,H1,ab,q,Qde (ae.mono (by rintro e A' H' ⟨rfl,rfl,rfl⟩;exact⟨rfl,rfl,rfl⟩))⟩
    | goto j=>exact⟨.goto j,A1,H1,ab,q,Qde (ae.mono (by rintro e A' H' ⟨rfl,rfl,rfl⟩;exact⟨rfl,rfl,rfl⟩))⟩
    | panic v=>exact q.elim
  obtain⟨ad,A1,H1,ab,q,ae⟩:=key m A H ac aK;exact⟨ad,A1,H1,ab,q,Qm9 ae⟩
 | scope b ax=>
  intro ai aa;refine⟨λks k A H ac h=>?_,λl rest h=>by cases h⟩;simp only[comp,Lx]at aa;obtain⟨ak,aj,rfl⟩:=aa;have av:=ax ak aj;have plain:(∀l,findLabel b l=none)->Qm P ak ks k A H->∃ad A1 H1,H1.Wf∧Fp ks k ad A1 H1∧AWp P n (.scope b) (Qs4 ad A1 H1) A H:=λbn h=>by
   obtain⟨ad,A1,H1,ab,q,ae⟩:=av.1 ks k A H ac h;refine⟨ad,A1,H1,ab,q,Qes (KK (ae.mono ?_))⟩;rintro e A' H' ⟨rfl,rfl,rfl⟩;cases e with
   | goto j=>simp only[QAe,bn j];exact⟨rfl,rfl,rfl⟩
   | _=>exact⟨rfl,rfl,rfl⟩
  unfold QoB at h;split at h
  ·rename_i ao;refine plain (λl=>?_) h;cases q:findLabel b l with
   | none=>rfl
   | some r=>
    obtain⟨pr,ap,_⟩:=av.2 l r q;have:=QaH _ _ _ ap;rw[ao]at this;cases this
  ·rename_i l ao;split at h
   ·rename_i r aM;obtain⟨I,⟨m,aK⟩,aN⟩:=h;obtain⟨rest,aU⟩:∃rest,findLabel b l=some rest:=by
     cases q:findLabel b l with
     | none=>rw[(Ql9 b ak aj l).2 q]at aM;cases aM
     | some rest=>exact⟨rest,rfl⟩
    obtain⟨pr,aF,aA,aB⟩:=av.2 l rest aU;rw[aM]at aF;cases aF;have bp:∀j,j≠l->findLabel b j=none:=λj ag=>by
     cases q:findLabel b j with
     | none=>rfl
     | some r2=>
      obtain⟨bB,ap,_⟩:=av.2 j r2 q;have:=QaH _ _ _ ap;rw[ao,Sa]at this;exact absurd this ag
    have key:∀m (c:Code) (aS:PC),Snd P n c aS->∀A H,H.Wf->Qm P aS ⟨ks.ret,jmK l I m ks.ext⟩ k A H->∃ad A1 H1,H1.Wf∧Fp ks k ad A1 H1∧Qcb P n b c (Qs4 ad A1 H1) A H:=by
     intro m
     induction m using Nat.strongRecOn with
     | _ m aQ=>
      intro c aS bx A H ac hx;obtain⟨ad,A1,H1,ab,q,ae⟩:=bx _ k A H ac hx;cases ad with
      | normal=>exact⟨.normal,A1,H1,ab,q,KK (ae.mono (by rintro e A' H' ⟨rfl,rfl,rfl⟩;exact⟨rfl,rfl,rfl⟩))⟩
      | ret=>exact⟨.ret,A1,H1,ab,q,KK (ae.mono (by rintro e A' H' ⟨rfl,rfl,rfl⟩;exact⟨rfl,rfl,rfl⟩))⟩
      | exit j=>
       simp only[Fp,jmK]at q;rw[Le (by omega)]at q;exact⟨.exit j,A1,H1,ab,q,KK (ae.mono (by rintro e A' H' ⟨rfl,rfl,rfl⟩;exact⟨rfl,rfl,rfl⟩))⟩
      | goto j=>
       simp only[Fp,jmK]at q
       by_cases ag:j=l;·subst ag;rw[Lc rfl]at q;obtain⟨aD,an,aH⟩:=q;obtain⟨aG,A2,H2,aw,ah,bw⟩:=aQ aD an rest r aB A1 H1 ab (aN aD A1 H1 aH);refine⟨aG,A2,H2,aw,ah,KK (ae.mono ?_)⟩;rintro e A' H' ⟨rfl,rfl,rfl⟩;simp only[QAe,aU];exact bw
       rw[Le (by omega)]at q;refine⟨.goto j,A1,H1,ab,q,KK (ae.mono ?_)⟩;rintro e A' H' ⟨rfl,rfl,rfl⟩;simp only[QAe,bp j ag];exact⟨rfl,rfl,rfl⟩
      | panic v=>exact q.elim
    obtain⟨ad,A1,H1,ab,q,ae⟩:=key m b ak av.1 A H ac aK;exact⟨ad,A1,H1,ab,q,Qes ae⟩
   exact h.elim
  exact h.elim
def Qu9 (c:Code)(q:PC)(ks:Kp)(k:Env->Qa->Prop)(A:Env)(H:Qa)(ac:H.Wf)(ab:comp P n c=some q)(h:Qm P q ks k A H):
  ∃aa A1 H1,H1.Wf∧Fp ks k aa A1 H1∧AWp P n c (Qs4 aa A1 H1) A H:=(Qs5 c q ab).1 ks k A H ac h
def QnX (P:Program)(fn:Func)(k:Value->Qa->Prop):Env->Qa->Prop:=λA H=>∃v,QfW P fn.ntmps fn.results A H=some v∧∃H2,JP H2 H∧(H.Wf->H2.Wf)∧k v H2
def Qpg {f:FuncId}{fn:Func}{ab:PC}{args:List Value}{H:Qa}{k:Value->Qa->Prop}(ak:P.funcs[f]? = some fn)(ai:fn.body.bind (comp P fn.ntmps)=some ab)(aj:entered P f=true)(ao:args.length<=fn.ntmps)
  (h:H.Wf->Qm P ab ⟨QnX P fn λv H'=>H.y<=H'.y∧k v H',λ_ _ _=>False⟩ (QnX P fn λv H'=>H.y<=H'.y∧k v H') (QaW args) H):Qe P f args H k:=by
 obtain⟨c,ag,ah⟩:=BY.1 ai;intro ac;obtain⟨aa,A1,H1,an,q,am⟩:=Qu9 c ab _ _ (QaW args) H ac ah (h ac);have ae:args.length+(fn.ntmps - args.length)=fn.ntmps:=by omega
 have ad:QnX P fn (λv H'=>H.y<=H'.y∧k v H') A1 H1->(aa=.normal∨aa=.ret)->∃v H',J2 P f args H v H'∧H.y<=H'.y∧H'.Wf∧k v H':=fun⟨v,hv,H2,hle,hw2,hn,hk⟩ hex=>by
  refine⟨v,H2,.inl ⟨aj,Qo1 ak ag ?_⟩,hn,hw2 an,hk⟩;rw[ae];refine am.mono ?_;rintro e A' H' ⟨rfl,rfl,rfl⟩;rcases hex with rfl | rfl;·exact⟨v,rfl,hv,hle⟩
  exact⟨v,rfl,hv,hle⟩
 cases aa with
 | normal=>exact ad q (.inl rfl)
 | ret=>exact ad q (.inr rfl)
 | exit j=>exact q.2.elim
 | goto j=>exact q.elim
 | panic v=>exact q.elim
def YQ.mono {l:Nat}{args:List Value}{H:Qa}{k q:Value->Qa->Prop}(h:YQ P l args H k)(ae:∀v H',k v H'->q v H'):YQ P l args H q:=by
 intro ag;obtain⟨v,H',aa,ab,ac,ad⟩:=h ag;exact⟨v,H',aa,ab,ac,ae v H' ad⟩
def YQ.then {l:Nat}{args:List Value}{H:Qa}{k aa:Value->Qa->Prop}(h:YQ P l args H k)(ae:∀v H',H.y<=H'.y->k v H'->aa v H'):YQ P l args H aa:=by
 intro ag;obtain⟨v,H',ab,q,ac,ad⟩:=h ag;exact⟨v,H',ab,q,ac,ae v H' q ad⟩
def Qe.mono {f:FuncId}{args:List Value}{H:Qa}{k q:Value->Qa->Prop}(h:Qe P f args H k)(ae:∀v H',k v H'->q v H'):Qe P f args H q:=by
 intro ag;obtain⟨v,H',aa,ab,ac,ad⟩:=h ag;exact⟨v,H',aa,ab,ac,ae v H' ad⟩
def Qe.then {f:FuncId}{args:List Value}{H:Qa}{k aa:Value->Qa->Prop}(h:Qe P f args H k)(ae:∀v H',H.y<=H'.y->k v H'->aa v H'):Qe P f args H aa:=by
 intro ag;obtain⟨v,H',ab,q,ac,ad⟩:=h ag;exact⟨v,H',ab,q,ac,ae v H' q ad⟩
def Qq6 {f:FuncId}{args:List Value}{H:Qa}{v:Value}(q:entered P f=true)(h:Qdd P f args H (.ret v) H):Qe P f args H λu H'=>u=v∧H'=H:=
 λaa=>⟨v,H,.inl ⟨q,h⟩,Lb _,aa,rfl,rfl⟩
end
def Qa.up (H:Qa)(m:Nat):Qa:=⟨m,H.tr⟩
def XB (H:Qa)(m id:Nat):(H.up m).get id=H.get id:=Nu rfl rfl
@[simp] theorem Q8 (H:Qa) (m:Nat):(H.up m).y=m:=Nu rfl rfl
@[simp] theorem Qa.up_up (H:Qa) (m m':Nat):(H.up m).up m'=H.up m':=rfl
def Qa.up_self (H:Qa):H.up H.y=H:=rfl
def JP.up {H H1:Qa}{m:Nat}(q:H1.y<=m)(h:∀id b,H.get id=some b->H1.get id=some b):JP (H.up m) H1:=⟨q,h⟩
abbrev t (n:Nat):Operand:=.tmp n
def U:Env:=λ_=>undef
def Qva (A:Env)(d:Nat)(v:Value):upd A d v d=v:=Qgb A d v
def Qy3 (A:Env)(d n:Nat)(v:Value):upd A d v n=bif n==d then v else A n:=by
 by_cases h:n=d;·subst h;simp
 have e:(n==d)=false:=beq_false_of_ne h;rw[Qem A v h,e];rfl
def QJM (A:Env)(n:Nat):ev A (t n)=A n:=Nu rfl rfl
def Qvb (A:Env)(v:Value):ev A (.const v)=v:=Nu rfl rfl
def QAt (A:Env)(g:Nat):ev A (.global g)=.pointer (some ⟨g,0,none⟩):=Nu rfl rfl
def QEI (A:Env)(f:Nat):ev A (.func f)=.func (.func f) #[] #[]:=Nu rfl rfl
def Qsf (A:Env)(d:Nat)(v:Value):JQ A (some d) v=upd A d v:=Nu rfl rfl
def Qsg (A:Env)(v:Value):JQ A none v=A:=Nu rfl rfl
def QKG:QaW []=U:=by funext n;simp[QaW,U]
def QKH (a:Value):QaW [a]=upd U 0 a:=by
 funext n;rcases n with _ | n<;>rfl
def QKI (a b:Value):QaW [a,b]=upd (upd U 0 a) 1 b:=by
 funext n;rcases n with _ | _ | n<;>rfl
def QKJ (a b c:Value):QaW [a,b,c]=upd (upd (upd U 0 a) 1 b) 2 c:=by
 funext n;rcases n with _ | _ | _ | n<;>rfl
def QKK (a b c d:Value):QaW [a,b,c,d]=upd (upd (upd (upd U 0 a) 1 b) 2 c) 3 d:=by
 funext n;rcases n with _ | _ | _ | _ | n<;>rfl
def QKL (a b c d e:Value):QaW [a,b,c,d,e]=upd (upd (upd (upd (upd U 0 a) 1 b) 2 c) 3 d) 4 e:=by
 funext n;rcases n with _ | _ | _ | _ | _ | n<;>rfl
section
variable {k:Value->Qa->Prop} {v:Value} {H H':Qa}
def Qs:onS (some (v,H')) k=k v H':=by
 apply propext;constructor;·rintro⟨aa,H1,h,q⟩;cases h;exact q
 exact λh=>⟨_,_,rfl,h⟩
def Qph:onS none k=False:=by
 apply propext;constructor;·rintro⟨aa,H1,h,q⟩;cases h
 exact λh=>h.elim
def Qkf {c:Prop}[Decidable c]{a:Option (Value×Qa)}:onS (if c then a else none) k=(c∧onS a k):=by
 by_cases h:c;·simp[h]
 simp[h,Qph]
def Qgp {r:Option Value}:onS (Qgl H r) k=∃v,r=some v∧k v H:=by
 cases r with
 | none=>simp[Qgl,Qph]
 | some u=>simp[Qgl,Qs]
end
/-! ### Code -/
section
variable {P:Program}
def Qnn (P:Program)(l:List PO)(k:Env->Qa->Prop)(A:Env)(d:Option Nat)(v:Value)(H:Qa):Prop:=VV P l k (JQ A d v) H
def Qey (l:List PO)(k:Env->Qa->Prop)(A:Env)(d:Nat)(v:Value)(H:Qa):Qnn P l k A (some d) v H=VV P l k (upd A d v) H:=Nu rfl rfl
def Qxr (l:List PO)(k:Env->Qa->Prop)(A:Env)(v:Value)(H:Qa):Qnn P l k A none v H=VV P l k A H:=Nu rfl rfl
def gB (b:Bool)(P:Program)(r:R)(s:Bool)(l:List PO)(k:Env->Qa->Prop)(A:Env)(d:Option Nat)(H:Qa):Prop:=
 (b=true->pr P r s A H (Qnn P l k A d))∧(b=false->VV P l k (JQ A d undef) H)
def gV (v:Value)(w:Bool)(P:Program)(r:R)(s:Bool)(l:List PO)(k:Env->Qa->Prop)(A:Env)(d:Option Nat)(H:Qa):Prop:=
 match v with
 | .bool b=>gB (b==w) P r s l k A d H
 | .tuple _=>VV P l k (JQ A d undef) H
 | _=>False
def QEJ (r:R)(s:Bool)(l:List PO)(k:Env->Qa->Prop)(A:Env)(d:Option Nat)(H:Qa):gB true P r s l k A d H=pr P r s A H (Qnn P l k A d):=by simp[gB]
def QB1 (r:R)(s:Bool)(l:List PO)(k:Env->Qa->Prop)(A:Env)(d:Option Nat)(H:Qa):gB false P r s l k A d H=VV P l k (JQ A d undef) H:=by simp[gB]
def QEK (b w:Bool)(r:R)(s:Bool)(l:List PO)(k:Env->Qa->Prop)(A:Env)(d:Option Nat)(H:Qa):gV (.bool b) w P r s l k A d H=gB (b==w) P r s l k A d H:=Nu rfl rfl
def QB2 (w:Bool)(r:R)(s:Bool)(l:List PO)(k:Env->Qa->Prop)(A:Env)(d:Option Nat)(H:Qa):gV undef w P r s l k A d H=VV P l k (JQ A d undef) H:=Nu rfl rfl
def bt (b:Bool):(b==true)=b:=by cases b<;>rfl
def bf (b:Bool):(b==false)=!b:=by cases b<;>rfl
def Qkg (k:Env->Qa->Prop)(A:Env)(H:Qa):VV P [] k A H=k A H:=Nu rfl rfl
def QhF (d:Option Nat)(r:R)(s:Bool)(l:List PO)(k:Env->Qa->Prop)(A:Env)(H:Qa):VV P (⟨d,r,none,s⟩::l) k A H=pr P r s A H (Qnn P l k A d):=Nu rfl rfl
def Qxs (d:Option Nat)(r:R)(n:Nat)(w s:Bool)(l:List PO)(k:Env->Qa->Prop)(A:Env)(H:Qa):VV P (⟨d,r,some (n,w),s⟩::l) k A H=gV (A n) w P r s l k A d H:=by
 show pg (some (n,w)) A (pr P r s A H (Qnn P l k A d)) (VV P l k (JQ A d undef) H)=_;show(match A n with | .bool b=>if b=w then pr P r s A H (Qnn P l k A d) else VV P l k (JQ A d undef) H | .tuple _=>VV P l k (JQ A d undef) H | _=>False)=_;unfold gV;cases A n<;>try rfl
 rename_i b;cases b<;>cases w<;>simp[gB]
def Qjb (ks:Kp)(k:Env->Qa->Prop)(A:Env)(H:Qa):Qm P .skip ks k A H=k A H:=Nu rfl rfl
def QAu (ks:Kp)(k:Env->Qa->Prop)(A:Env)(H:Qa):Qm P .ret ks k A H=ks.ret A H:=Nu rfl rfl
def Qxt (id:Nat)(ks:Kp)(k:Env->Qa->Prop)(A:Env)(H:Qa):Qm P (.exit id) ks k A H=ks.ext id A H:=Nu rfl rfl
def QAv (l:List PO)(ks:Kp)(k:Env->Qa->Prop)(A:Env)(H:Qa):Qm P (.ops l) ks k A H=VV P l k A H:=Nu rfl rfl
def QaQ (a b:PC)(ks:Kp)(k:Env->Qa->Prop)(A:Env)(H:Qa):Qm P (.seq a b) ks k A H=Qm P a ks (Qm P b ks k) A H:=Nu rfl rfl
def Qno (l:Nat)(ks:Kp)(k:Env->Qa->Prop)(A:Env)(H:Qa):Qm P (.label l) ks k A H=k A H:=Nu rfl rfl
def Qxu (l:Nat)(ks:Kp)(k:Env->Qa->Prop)(A:Env)(H:Qa):Qm P (.goto l) ks k A H=ks.ext (J0+l) A H:=Nu rfl rfl
def Qnp {b r:PC}{l:Nat}{ks:Kp}{k:Env->Qa->Prop}{A:Env}{H:Qa}(I:Nat->Env->Qa->Prop)(m:Nat)(q:Qm P b ⟨ks.ret,jmK l I m ks.ext⟩ k A H)(h:∀m A' H',I m A' H'->Qm P r ⟨ks.ret,jmK l I m ks.ext⟩ k A' H'):Qm P (.scope b l r) ks k A H:=
 ⟨I,⟨m,q⟩,h⟩
def exK (id:Nat)(k:Env->Qa->Prop)(e:Nat->Env->Qa->Prop)(j:Nat):Env->Qa->Prop:=if j=id then k else e j
def QB3 (id:Nat)(k:Env->Qa->Prop)(e:Nat->Env->Qa->Prop)(A:Env)(H:Qa):exK id k e id A H=k A H:=by simp[exK]
def QAw (id j:Nat)(k:Env->Qa->Prop)(e:Nat->Env->Qa->Prop)(A:Env)(H:Qa)(h:j≠id):exK id k e j A H=e j A H:=by simp[exK,h]
def X4:Nat->Env->Qa->Prop:=λ_ _ _=>False
def Qvc (id:Nat)(b:PC)(ks:Kp)(k:Env->Qa->Prop)(A:Env)(H:Qa):Qm P (.block id b) ks k A H=Qm P b ⟨ks.ret,exK id k ks.ext⟩ k A H:=Nu rfl rfl
def QHE (r:Env->Qa->Prop)(e:Nat->Env->Qa->Prop):(Kp.mk r e).ret=r:=Nu rfl rfl
def QHF (r:Env->Qa->Prop)(e:Nat->Env->Qa->Prop):(Kp.mk r e).ext=e:=Nu rfl rfl
def cB (b:Bool)(P:Program)(x y:PC)(ks:Kp)(k:Env->Qa->Prop)(A:Env)(H:Qa):Prop:=(b=true->Qm P x ks k A H)∧(b=false->Qm P y ks k A H)
def cV (v:Value)(P:Program)(x y:PC)(ks:Kp)(k:Env->Qa->Prop)(A:Env)(H:Qa):Prop:=match v with
 | .bool b=>cB b P x y ks k A H
 | _=>False
def Qxv (c:Operand)(x y:PC)(ks:Kp)(k:Env->Qa->Prop)(A:Env)(H:Qa):Qm P (.cond c x y) ks k A H=cV (ev A c) P x y ks k A H:=Nu rfl rfl
def QEL (b:Bool)(x y:PC)(ks:Kp)(k:Env->Qa->Prop)(A:Env)(H:Qa):cV (.bool b) P x y ks k A H=cB b P x y ks k A H:=Nu rfl rfl
def Qy4 (x y:PC)(ks:Kp)(k:Env->Qa->Prop)(A:Env)(H:Qa):cB true P x y ks k A H=Qm P x ks k A H:=by simp[cB]
def Qpi (x y:PC)(ks:Kp)(k:Env->Qa->Prop)(A:Env)(H:Qa):cB false P x y ks k A H=Qm P y ks k A H:=by simp[cB]
/-! ### Operations -/
variable {k:Value->Qa->Prop} {A:Env} {H:Qa}
def flK (H:Qa)(k:Value->Qa->Prop)(v:Value)(H':Qa):Prop:=Qp H.y 6 v=true∧k v H'
def QAx (H:Qa)(k:Value->Qa->Prop)(v:Value)(H':Qa):flK H k v H'=(Qp H.y 6 v=true∧k v H'):=Nu rfl rfl
def stK (H:Qa)(k:Value->Qa->Prop)(v:Value)(H':Qa):Prop:=(∀id,H'.get id=H.get id)∧k v H'
def QAy (H:Qa)(k:Value->Qa->Prop)(v:Value)(H':Qa):stK H k v H'=((∀id,H'.get id=H.get id)∧k v H'):=Nu rfl rfl
def We (r:Option (Value×Qa)):onS r (λv H'=>(false=true->Qp H.y 6 v=true)∧k v H')=onS r k:=by
 congr 1;funext v H';simp
def QEM (r:Option (Value×Qa)):onS r (λv H'=>(true=true->Qp H.y 6 v=true)∧k v H')=onS r (flK H k):=by
 congr 1;funext v H';simp[flK]
def QEN (f:FuncId)(l:List Operand):pr P (.call f l) false A H k=Qe P f (l.map (ev A)) H k:=by
 show Qe P f (l.map (ev A)) H (λv H'=>(false=true->∀id,H'.get id=H.get id)∧k v H')=_;congr 1;funext v H';simp
def Qxw (f:FuncId)(l:List Operand):pr P (.call f l) true A H k=Qe P f (l.map (ev A)) H (stK H k):=by
 show Qe P f (l.map (ev A)) H (λv H'=>(true=true->∀id,H'.get id=H.get id)∧k v H')=_;congr 1;funext v H';simp[stK]
def kpK (H:Qa)(k:Value->Qa->Prop)(v:Value)(H':Qa):Prop:=EqB H H'∧k v H'
def QAz (H:Qa)(k:Value->Qa->Prop)(v:Value)(H':Qa):kpK H k v H'=(EqB H H'∧k v H'):=Nu rfl rfl
def Qxx (n:Nat):List Value->Prop
 | []=>True
 | v::l=>QnW n v∧Qxx n l
def QB4 (n:Nat):Qxx n []=True:=Nu rfl rfl
def QAA (n:Nat)(v:Value)(l:List Value):Qxx n (v::l)=(QnW n v∧Qxx n l):=Nu rfl rfl
def QB5 (n b o:Nat):QnW n (.pointer (some ⟨b,o,none⟩))=(b<n):=Nu rfl rfl
def Qxy (n b o l c:Nat):QnW n (.slice (some ⟨b,o,none⟩) l c)=(b<n):=Nu rfl rfl
def Qvd (n:Nat)(f:Operand->Value):∀l:List Operand,(∀z∈l,QnW n (f z))↔Qxx n (l.map f)
 | []=>⟨λ_=>trivial,λ_ _ h=>by cases h⟩
 | x::l=>by
  have q:=Qvd n f l;simp only[LK,forall_eq_or_imp,NZ,Qxx,q]
def QB6 (f:FuncId)(l os:List Operand)(s:Bool):pr P (.callF f l os) s A H k=(Qxx H.y (os.map (ev A))∧Qe P f (l.map (ev A)) H (kpK H k)):=by
 show((∀z∈os,QnW H.y (ev A z))∧Qe P f (l.map (ev A)) H λv H'=>EqB H H'∧k v H')=_;rw[Qvd];rfl
def cvK (v:Value)(P:Program)(l:List Value)(H:Qa)(k:Value->Qa->Prop):Prop:=match v with
 | .func (.func f) xs ys=>Qe P f (xs.toList++l++ys.toList) H k
 | .func (.yield y) ⟨[]⟩ ⟨[]⟩=>YQ P y l H k
 | _=>False
def QaR (y:Nat)(l:List Value):cvK (.func (.yield y) #[] #[]) P l H k=YQ P y l H k:=Nu rfl rfl
def QaZ (f:FuncId)(xs ys l:List Value):cvK (.func (.func f) xs.toArray ys.toArray) P l H k=Qe P f (xs++l++ys) H k:=Nu rfl rfl
def QB7 (c:Operand)(l:List Operand):pr P (.callv c l) false A H k=cvK (ev A c) P (l.map (ev A)) H k:=by
 show(match ev A c with | .func (.func f) xs ys=>Qe P f (xs.toList++l.map (ev A)++ys.toList) H (λv H'=>(false=true->∀id,H'.get id=H.get id)∧k v H') | .func (.yield y) ⟨[]⟩ ⟨[]⟩=>YQ P y (l.map (ev A)) H (λv H'=>(false=true->∀id,H'.get id=H.get id)∧k v H') | _=>False)=_;unfold cvK;split<;>first | rfl | skip
 all_goals (congr 1;funext v H';simp)
def Qy5 (x:Operand):pr P (.mv x) false A H k=k (ev A x) H:=(We _).trans Qs
def QG2 (c x y:Value)(H:Qa)(k:Value->Qa->Prop):Prop:=onS (match c with | .bool b=>some (bif b then x else y,H) | _=>none) k
def QEO (c x y:Operand):pr P (.pick c x y) false A H k=QG2 (ev A c) (ev A x) (ev A y) H k:=We _
def Qxz (b:Bool)(x y:Value):QG2 (.bool b) x y H k=k (bif b then x else y) H:=Qs
def Vb (op:BinOp)(x y:Value)(H:Qa)(k:Value->Qa->Prop):Prop:=∃v,G9 op x y=some v∧k v H
def QHG (op:BinOp)(x y:Operand):pr P (.bin op x y) false A H k=Vb op (ev A x) (ev A y) H k:=(We _).trans Qgp
def Xe {op:BinOp}{x y v:Value}(h:G9 op x y=some v):Vb op x y H k=k v H:=by
 apply propext;constructor;·rintro⟨u,q,aa⟩;rw[h]at q;cases q;exact aa
 exact λab=>⟨v,h,ab⟩
def QEP (ik:IntKind)(a b:Int):Vb .add (.int ik a) (.int ik b) H k=k (.int ik (ik.wrap (a+b))) H:=Xe (by simp[G9,YK])
def QEQ (ik:IntKind)(a b:Int):Vb .sub (.int ik a) (.int ik b) H k=k (.int ik (ik.wrap (a - b))) H:=Xe (by simp[G9,YK])
def QER (ik:IntKind)(a b:Int):Vb .mul (.int ik a) (.int ik b) H k=k (.int ik (ik.wrap (a * b))) H:=Xe (by simp[G9,YK])
def QES (ik:IntKind)(a b:Int):Vb .and (.int ik a) (.int ik b) H k=k (.int ik (ik.wrap (BitVec.ofInt ik.bits a &&& BitVec.ofInt ik.bits b).toNat)) H:=Xe (by simp[G9,YK])
def QHH (ik:IntKind)(a b:Int):Vb .or (.int ik a) (.int ik b) H k=k (.int ik (ik.wrap (BitVec.ofInt ik.bits a ||| BitVec.ofInt ik.bits b).toNat)) H:=Xe (by simp[G9,YK])
def QET (ik:IntKind)(a b:Int):Vb .xor (.int ik a) (.int ik b) H k=k (.int ik (ik.wrap (BitVec.ofInt ik.bits a ^^^ BitVec.ofInt ik.bits b).toNat)) H:=Xe (by simp[G9,YK])
def QxA (ik:IntKind)(a b:Int):Vb .andNot (.int ik a) (.int ik b) H k=k (.int ik (ik.wrap (BitVec.ofInt ik.bits a &&& ~~~BitVec.ofInt ik.bits b).toNat)) H:=Xe (by simp[G9,YK])
def QEU (ik:IntKind)(a b:Int):Vb .eql (.int ik a) (.int ik b) H k=k (.bool (a==b)) H:=Xe (by simp[G9,YK])
def QEV (ik:IntKind)(a b:Int):Vb .neq (.int ik a) (.int ik b) H k=k (.bool (!(a==b))) H:=Xe (by simp[G9,YK,bne])
def QEW (ik:IntKind)(a b:Int):Vb .lss (.int ik a) (.int ik b) H k=k (.bool (decide (a<b))) H:=Xe (by simp[G9,YK])
def QEX (ik:IntKind)(a b:Int):Vb .leq (.int ik a) (.int ik b) H k=k (.bool (decide (a<=b))) H:=Xe (by simp[G9,YK])
def QEY (ik:IntKind)(a b:Int):Vb .gtr (.int ik a) (.int ik b) H k=k (.bool (decide (b<a))) H:=Xe (by simp[G9,YK])
def QEZ (ik:IntKind)(a b:Int):Vb .geq (.int ik a) (.int ik b) H k=k (.bool (decide (b<=a))) H:=Xe (by simp[G9,YK])
def QE0 (ik:IntKind)(a b:Int):Vb .rem (.int ik a) (.int ik b) H k=(b≠0∧k (.int ik (a.tmod b)) H):=by
 unfold Vb;by_cases h:b=0<;>simp[G9,YK,h]
def QE1 (ik:IntKind)(a b:Int):Vb .quo (.int ik a) (.int ik b) H k=(b≠0∧k (.int ik (ik.wrap (a.tdiv b))) H):=by
 unfold Vb;by_cases h:b=0<;>simp[G9,YK,h]
def QE2 (ik q:IntKind)(a b:Int):Vb .shl (.int ik a) (.int q b) H k=(0<=b∧k (.int ik (ik.wrap (a * 2 ^ (min b.toNat ik.bits)))) H):=by
 unfold Vb;by_cases h:b<0;·simp[G9,VB,h];omega
 simp[G9,VB,h];intro _;omega
def QE3 (ik q:IntKind)(a b:Int):Vb .shr (.int ik a) (.int q b) H k=(0<=b∧k (.int ik (a.fdiv (2 ^ (min b.toNat ik.bits)))) H):=by
 unfold Vb;by_cases h:b<0;·simp[G9,VB,h];omega
 simp[G9,VB,h];intro _;omega
def QE4 (a b:ByteArray):Vb .eql (.string a) (.string b) H k=k (.bool (bl a==bl b)) H:=Xe (by simp[G9,Qi2])
def QE5 (a b:ByteArray):Vb .neq (.string a) (.string b) H k=k (.bool (!(bl a==bl b))) H:=Xe (by simp[G9,Qi2])
def QB8 (a b:ByteArray):Vb .add (.string a) (.string b) H k=((bl a).length+(bl b).length<=9223372036854775807∧k (.string (mkS (bl a++bl b))) H):=by
 unfold Vb;by_cases h:(bl a).length+(bl b).length<=9223372036854775807<;>simp[G9,Qi2,h]
def QHI (ne:Bool)(x y:Value)(H:Qa)(k:Value->Qa->Prop):Prop:=onS (match x,y with | .bool a,.bool b=>some (.bool (bif ne then !(a==b) else a==b),H) | _,_=>none) k
def QHJ (ne:Bool)(x y:Operand):pr P (.beq ne x y) false A H k=QHI ne (ev A x) (ev A y) H k:=We _
def QE6 (a b:Bool):QHI false (.bool a) (.bool b) H k=k (.bool (a==b)) H:=Qs
def QE7 (a b:Bool):QHI true (.bool a) (.bool b) H k=k (.bool (!(a==b))) H:=Qs
def QE8 (ne:Bool)(ks:List Sk)(x y:Value)(H:Qa)(k:Value->Qa->Prop):Prop:=onS (match x,y with
 | .agg xs,.agg ys=>match QaG ks xs ys 0 with | some b=>some (.bool (bif ne then !b else b),H) | none=>none
 | _,_=>none) k
def QHK (ne:Bool)(ks:List Sk)(x y:Operand):pr P (.eqs ne ks x y) false A H k=QE8 ne ks (ev A x) (ev A y) H k:=We _
def QAB {ne:Bool}{ks:List Sk}{xs ys:Array Value}{b:Bool}(h:QaG ks xs ys 0=some b):QE8 ne ks (.agg xs) (.agg ys) H k=k (.bool (bif ne then !b else b)) H:=by
 simp only[QE8,h,Qs]
def QJN (x:Value)(H:Qa)(k:Value->Qa->Prop):Prop:=onS (match x with | .bool b=>some (.bool !b,H) | _=>none) k
def QHL (x:Operand):pr P (.not x) false A H k=QJN (ev A x) H k:=We _
def QAC (b:Bool):QJN (.bool b) H k=k (.bool !b) H:=Qs
def QB9 (ik:IntKind)(x:Value)(H:Qa)(k:Value->Qa->Prop):Prop:=onS (match x with | .int _ m=>some (.int ik (ik.wrap m),H) | _=>none) k
def QCa (ik:IntKind)(x:Operand):pr P (.toInt ik x) false A H k=QB9 ik (ev A x) H k:=We _
def QxB (ik q:IntKind)(m:Int):QB9 ik (.int q m) H k=k (.int ik (ik.wrap m)) H:=Qs
def QE9 (ty:TypeId)(x:Operand):pr P (.mkIf ty x) false A H k=k (.iface ty (ev A x)) H:=(We _).trans Qs
def QHM (agg:Bool)(off size:Nat)(x:Value)(H:Qa)(k:Value->Qa->Prop):Prop:=onS (match x with
 | .agg cs=>Qgl H (bif agg then some (.agg (cs.extract off (off+size))) else cs[off]?)
 | _=>none) k
def QHN (agg:Bool)(off size:Nat)(x:Operand):pr P (.fld agg off size x) false A H k=QHM agg off size (ev A x) H k:=We _
def QAD (off size:Nat)(l:List Value):QHM false off size (.agg l.toArray) H k=∃v,l[off]? = some v∧k v H:=by
 show onS (Qgl H l.toArray[off]?) k=_;rw[Qgp];simp
def QCb (off size:Nat)(l:List Value):QHM true off size (.agg l.toArray) H k=k (.agg ((l.drop off).take size).toArray) H:=by
 show onS (Qgl H (some (.agg (l.toArray.extract off (off+size))))) k=_;rw[Qgp];simp
def QG3 (off:Nat)(x:Value)(H:Qa)(k:Value->Qa->Prop):Prop:=onS (match x with | .pointer (some a)=>some (.pointer (some ⟨a.block,a.off+off,none⟩),H) | _=>none) k
def QFa (off:Nat)(x:Operand):pr P (.fldA off x) false A H k=QG3 off (ev A x) H k:=We _
def QAE (off b o:Nat):QG3 off (.pointer (some ⟨b,o,none⟩)) H k=k (.pointer (some ⟨b,o+off,none⟩)) H:=Qs
def QJO (size:Nat)(x q:Value)(H:Qa)(k:Value->Qa->Prop):Prop:=onS (match q,x with
 | .int _ m,.slice (some a) len _=>if 0<=m∧m<len then some (.pointer (some ⟨a.block,a.off+m.toNat * size,none⟩),H) else none
 | _,_=>none) k
def QFb (size:Nat)(x q:Operand):pr P (.idxS size x q) false A H k=QJO size (ev A x) (ev A q) H k:=We _
def QxC (size:Nat)(ik:IntKind)(m:Int)(b o len cap:Nat):QJO size (.slice (some ⟨b,o,none⟩) len cap) (.int ik m) H k=((0<=m∧m<len)∧k (.pointer (some ⟨b,o+m.toNat * size,none⟩)) H):=by
 show onS (if 0<=m∧m<len then some (.pointer (some ⟨b,o+m.toNat * size,none⟩),H) else none) k=_;rw[Qkf,Qs]
def QJP (x q:Value)(H:Qa)(k:Value->Qa->Prop):Prop:=onS (match q,x with
 | .int _ m,.string s=>if 0<=m then(match (bl s)[m.toNat]? with | some b=>some (.int .u8 b.toNat,H) | none=>none) else none
 | _,_=>none) k
def QHO (x q:Operand):pr P (.chr x q) false A H k=QJP (ev A x) (ev A q) H k:=We _
def QCc (ik:IntKind)(m:Int)(s:ByteArray):QJP (.string s) (.int ik m) H k=(0<=m∧∃b,(bl s)[m.toNat]? = some b∧k (.int .u8 b.toNat) H):=by
 show onS (if 0<=m then(match (bl s)[m.toNat]? with | some b=>some (.int .u8 b.toNat,H) | none=>none) else none) k=_;rw[Qkf];congr 1;cases q:(bl s)[m.toNat]? with
 | some b=>simp[Qs]
 | none=>simp[Qph]
def QCd (x:Value)(i:Nat)(H:Qa)(k:Value->Qa->Prop):Prop:=onS (match x with | .tuple q=>Qgl H q[i]? | _=>none) k
def QHP (x:Operand)(i:Nat):pr P (.ext x i) false A H k=QCd (ev A x) i H k:=We _
def QHQ (a:Value)(l:List Value):QCd (.tuple (a::l).toArray) 0 H k=k a H:=Qs
def QHR (a b:Value)(l:List Value):QCd (.tuple (a::b::l).toArray) 1 H k=k b H:=Qs
def QHS (a b c:Value)(l:List Value):QCd (.tuple (a::b::c::l).toArray) 2 H k=k c H:=Qs
def QxD (r:Option (List Value))(H:Qa)(k:Value->Qa->Prop):Prop:=onS (match r with | some r=>some (.agg r.toArray,H) | none=>none) k
def QCe (z:List Value)(q:List (Nat×Nat×Operand)):pr P (.build z q) false A H k=QxD (Qni (ev A) z q) H k:=We _
def Qve (l:List Value):QxD (some l) H k=k (.agg l.toArray) H:=Qs
def QAF (f:Operand->Value)(cells:List Value):Qni f cells []=some cells:=Nu rfl rfl
def Qpj (f:Operand->Value)(cells:List Value)(off size:Nat)(x:Operand)(rest:List (Nat×Nat×Operand)):Qni f cells ((off,size,x)::rest)=if(f x).cells.toList.length=size∧off+size<=cells.length then Qni f (splice cells off (f x).cells.toList) rest else none:=Nu rfl rfl
def Qy6 (e len:Nat)(r:Option (List Value))(H:Qa)(k:Value->Qa->Prop):Prop:=onS (match r with | some r=>some (.slice (some ⟨H.y,0,none⟩) len len,H.push (.cells r e false)) | none=>none) k
def Qy7 (size:Nat)(cells:List Value)(q:List (Nat×Value)):Option (List Value):=Qca (λi=>some (i * size,size)) cells q
def evP (A:Env)(p:Nat×Operand):Nat×Value:=(p.1,ev A p.2)
def QHT (A:Env)(i:Nat)(x:Operand):evP A (i,x)=(i,ev A x):=Nu rfl rfl
def QAG (e size len:Nat)(z:List Value)(q:List (Nat×Operand)):pr P (.bslice e size len z q) false A H k=Qy6 e len (Qy7 size z (q.map (evP A))) H k:=We _
def Qs6 (e len:Nat)(l:List Value):Qy6 e len (some l) H k=k (.slice (some ⟨H.y,0,none⟩) len len) (H.push (.cells l e false)):=Qs
def QAH (size:Nat)(cells:List Value):Qy7 size cells []=some cells:=Nu rfl rfl
def Qpk (size:Nat)(cells:List Value)(i:Nat)(v:Value)(rest:List (Nat×Value)):Qy7 size cells ((i,v)::rest)=if v.cells.toList.length=size∧i * size+size<=cells.length then Qy7 size (splice cells (i * size) v.cells.toList) rest else none:=Nu rfl rfl
def QCf (e:TypeId)(z:List Value):pr P (.alloc e z) false A H k=k (.pointer (some ⟨H.y,0,none⟩)) (H.push (.cells z e false)):=(We _).trans Qs
def QHU (e:TypeId)(x:Operand):pr P (.box e x) false A H k=k (.pointer (some ⟨H.y,0,none⟩)) (H.push (.cells (ev A x).cells.toList e false)):=(We _).trans Qs
def QG4 (e size bytes:Nat)(z:List Value)(x y:Value)(H:Qa)(k:Value->Qa->Prop):Prop:=onS (match x,y with
 | .int .i64 l,.int .i64 c=>if 0<=l∧l<=c∧(bytes:Int) * c<=281474976710656∧c<=9223372036854775807 then
   some (.slice (some ⟨H.y,0,none⟩) l.toNat c.toNat,H.push (.cells (XV z.toArray (c.toNat * size)) e false)) else none
 | _,_=>none) k
def QFc (e size bytes:Nat)(z:List Value)(x y:Operand):pr P (.mkSl e size bytes z x y) false A H k=QG4 e size bytes z (ev A x) (ev A y) H k:=We _
def QAI (e size bytes:Nat)(z:List Value)(l c:Int):QG4 e size bytes z (.int .i64 l) (.int .i64 c) H k=((0<=l∧l<=c∧(bytes:Int) * c<=281474976710656∧c<=9223372036854775807)∧k (.slice (some ⟨H.y,0,none⟩) l.toNat c.toNat) (H.push (.cells (XV z.toArray (c.toNat * size)) e false))):=by
 show onS (if 0<=l∧l<=c∧(bytes:Int) * c<=281474976710656∧c<=9223372036854775807 then some (.slice (some ⟨H.y,0,none⟩) l.toNat c.toNat,H.push (.cells (XV z.toArray (c.toNat * size)) e false)) else none) k=_;rw[Qkf,Qs]
def slK (size:Nat)(x:Value)(lo hi:Option (Option Int))(H:Qa)(k:Value->Qa->Prop):Prop:=onS (match lo,hi with
 | some l,some h=>Qgl H (Yh size x l h none)
 | _,_=>none) k
def QCg (size:Nat)(x:Value)(l h:Option Int):slK size x (some l) (some h) H k=∃v,Yh size x l h none=some v∧k v H:=Qgp
def QHV (size:Nat)(x:Operand)(lo hi:Option Operand):pr P (.slS size x lo hi) false A H k=slK size (ev A x) (Qsb (ev A) lo) (Qsb (ev A) hi) H k:=We _
def QxE (f:Operand->Value):Qsb f none=some none:=Nu rfl rfl
def QxF (f:Operand->Value)(x:Operand):Qsb f (some x)=match f x with | .int _ m=>some (some m) | _=>none:=Nu rfl rfl
def ldB (agg:Bool)(size off:Nat)(b:Option Blk)(H:Qa)(k:Value->Qa->Prop):Prop:=onS (match b with
 | some (.cells c _ _)=>bif agg then(if off+size<=c.length then some (.agg ((c.drop off).take size).toArray,H) else none) else Qgl H c[off]?
 | _=>none) k
def ldK (agg:Bool)(size:Nat)(x:Value)(H:Qa)(k:Value->Qa->Prop):Prop:=onS (match x with
 | .pointer (some a)=>match H.get a.block with
  | some (.cells c _ _)=>bif agg then(if a.off+size<=c.length then some (.agg ((c.drop a.off).take size).toArray,H) else none) else Qgl H c[a.off]?
  | _=>none
 | _=>none) k
def QJQ (agg:Bool)(size:Nat)(x:Operand):pr P (.ld agg size x) false A H k=ldK agg size (ev A x) H k:=We _
def QCh (agg:Bool)(size:Nat)(x:Operand):pr P (.ld agg size x) true A H k=ldK agg size (ev A x) H (flK H k):=QEM _
def QFd (agg:Bool)(size b o:Nat):ldK agg size (.pointer (some ⟨b,o,none⟩)) H k=ldB agg size o (H.get b) H k:=Nu rfl rfl
def QCi (size off:Nat)(c:List Value)(e:TypeId)(ro:Bool):ldB false size off (some (.cells c e ro)) H k=∃v,c[off]? = some v∧k v H:=Qgp
def QFe (size off:Nat)(c:List Value)(e:TypeId)(ro:Bool):ldB true size off (some (.cells c e ro)) H k=(off+size<=c.length∧k (.agg ((c.drop off).take size).toArray) H):=by
 show onS (if off+size<=c.length then some (.agg ((c.drop off).take size).toArray,H) else none) k=_;rw[Qkf,Qs]
def QJR (size:Nat)(a:Addr)(y:Value)(b:Option Blk)(H:Qa)(k:Value->Qa->Prop):Prop:=onS (match b with
 | some (.cells c e false)=>if y.cells.toList.length=size∧a.off+y.cells.toList.length<=c.length∧y.cells.toList.all (·.oneCell')=true then some (undef,H.set a.block (.cells (splice c a.off y.cells.toList) e false)) else none
 | _=>none) k
def QHW (size:Nat)(x y:Value)(H:Qa)(k:Value->Qa->Prop):Prop:=onS (match x with
 | .pointer (some a)=>match H.get a.block with
  | some (.cells c e false)=>if y.cells.toList.length=size∧a.off+y.cells.toList.length<=c.length∧y.cells.toList.all (·.oneCell')=true then some (undef,H.set a.block (.cells (splice c a.off y.cells.toList) e false)) else none
  | _=>none
 | _=>none) k
def QJS (size:Nat)(x y:Operand):pr P (.st size x y) false A H k=QHW size (ev A x) (ev A y) H k:=We _
def QCj (size b o:Nat)(y:Value):QHW size (.pointer (some ⟨b,o,none⟩)) y H k=QJR size ⟨b,o,none⟩ y (H.get b) H k:=Nu rfl rfl
def QxG (size b o:Nat)(y:Value)(c:List Value)(e:TypeId):QJR size ⟨b,o,none⟩ y (some (.cells c e false)) H k=((y.cells.toList.length=size∧o+y.cells.toList.length<=c.length∧y.cells.toList.all (·.oneCell')=true)∧k undef (H.set b (.cells (splice c o y.cells.toList) e false))):=by
 show onS (if y.cells.toList.length=size∧o+y.cells.toList.length<=c.length∧y.cells.toList.all (·.oneCell')=true then some (undef,H.set b (.cells (splice c o y.cells.toList) e false)) else none) k=_;rw[Qkf,Qs]
def apL:List Value->Value->Prop
 | [],_=>True
 | z::l,x=>Qi7 x z∧apL l x
def apK (os:List Value)(x:Value)(k:Value->Qa->Prop)(v:Value)(H':Qa):Prop:=apL os x∧k v H'
def Qsh (os:List Value)(x:Value)(k:Value->Qa->Prop)(v:Value)(H':Qa):apK os x k v H'=(apL os x∧k v H'):=Nu rfl rfl
def QFf (x:Value):apL [] x=True:=Nu rfl rfl
def QCk (z x:Value)(l:List Value):apL (z::l) x=(Qi7 x z∧apL l x):=Nu rfl rfl
def QxH (b o b' o':Nat):Qi7 (.pointer (some ⟨b,o,none⟩)) (.pointer (some ⟨b',o',none⟩))=(b'≠b):=Nu rfl rfl
def Qs7 (b o:Nat):Qi7 (.pointer (some ⟨b,o,none⟩)) undef=True:=Nu rfl rfl
def QFg (os:List Operand)(x:Value):apL (os.map (ev A)) x=∀z∈os,Qi7 x (ev A z):=by
 induction os with
 | nil=>simp[apL]
 | cons z l q=>simp[apL,q]
def QHX (size:Nat)(x y:Operand)(os:List Operand)(s:Bool):pr P (.stf size x y os) s A H k=QHW size (ev A x) (ev A y) H (apK (os.map (ev A)) (ev A x) k):=by
 show onS (rop P (.st size x y) A H) (λv H'=>(∀z∈os,Qi7 (ev A x) (ev A z))∧k v H')=onS (rop P (.st size x y) A H) _;congr 1;funext v H';rw[Qsh,QFg]
def QG5 (x:Value)(H:Qa)(k:Value->Qa->Prop):Prop:=onS (match x with | .slice _ m _=>some (.int .i64 (m:Int),H) | _=>none) k
def QFh (x:Operand):pr P (.lenS x) false A H k=QG5 (ev A x) H k:=We _
def W6 (a:Option Addr)(len cap:Nat):QG5 (.slice a len cap) H k=k (.int .i64 (len:Int)) H:=Qs
def QG6 (x:Value)(H:Qa)(k:Value->Qa->Prop):Prop:=onS (match x with | .string s=>some (.int .i64 ((bl s).length:Int),H) | _=>none) k
def QFi (x:Operand):pr P (.lenT x) false A H k=QG6 (ev A x) H k:=We _
def QAJ (s:ByteArray):QG6 (.string s) H k=k (.int .i64 ((bl s).length:Int)) H:=Qs
def QfY (e size bytes:Nat)(s x:Value)(H:Qa)(k:Value->Qa->Prop):Prop:=onS (Jr e size bytes s x H) k
def QHY (e size bytes:Nat)(x y:Operand):pr P (.app e size bytes x y) false A H k=QfY e size bytes (ev A x) (ev A y) H k:=We _
def QJT (P:Program)(o:Op)(A:Env)(H:Qa)(k:Value->Qa->Prop):Prop:=onS (rop P (.gen o) A H) k
def Qs8 (f:FuncId)(l:List Operand):pr P (.gen (.makeFunc (.func f) #[] l.toArray)) false A H k=k (.func (.func f) #[] (l.map (ev A)).toArray) H:=by
 have e:rop P (.gen (.makeFunc (.func f) #[] l.toArray)) A H=some (.func (.func f) #[] (l.map (ev A)).toArray,H):=by simp[rop,aop,Qi6,QaD]
 refine(We _).trans ?_;rw[e,Qs]
def QJU (v:Value)(H:Qa)(k:Value->Qa->Prop):Prop:=onS (bif Qen v then some (v,H) else none) k
def QHZ (x:Operand):pr P (.gen (.nilCheck x)) false A H k=QJU (ev A x) H k:=by
 have e:rop P (.gen (.nilCheck x)) A H=(bif Qen (ev A x) then some (ev A x,H) else none):=by
  simp only[rop,aop,QaX];cases Qen (ev A x)<;>rfl
 refine(We _).trans ?_;rw[e];rfl
def QCl (a:Addr):QJU (.pointer (some a)) H k=k (.pointer (some a)) H:=Qs
def QFj {x y:Operand}{q:Array TypeId}{ik:IntKind}{a b:Int}(hx:ev A x=.int ik a)(aa:ev A y=.int ik b):pr P (.gen (.call ⟨.builtin .max,#[x,y],q⟩)) false A H k=k (.int ik (if b>a then b else a)) H:=by
 have e:rop P (.gen (.call ⟨.builtin .max,#[x,y],q⟩)) A H=some (.int ik (if b>a then b else a),H):=by simp[rop,aop,Qgj,hx,aa]
 refine(We _).trans ?_;rw[e,Qs]
def Qvf (ty:TypeId):pr P (.gen (.makeMap ty none)) false A H k=k (.map (some H.y)) (H.push (.map [])):=by
 have e:rop P (.gen (.makeMap ty none)) A H=some (.map (some H.y),H.push (.map [])):=by simp[rop,aop]
 refine(We _).trans ?_;rw[e,Qs]
def QAK {ty ab e:TypeId}{ac:TypeDesc}{aa:TypeInfo}{z:Value}{x q:Operand}{m:Nat}(ad:P.underlying ty=some (.map ab e))(ae:P.underlying ab=some ac)(ag:P.info? e=some aa)(ah:aa.zero=some z)(ak:X2 z=true)(hx:ev A x=.map (some m))(ai:VC ac (ev A q)=true)(aj:H.get m=some (.map [])):
  pr P (.gen (.lookup ty x q true)) false A H k=k (.tuple #[z,.bool false]) H:=by
 have e:rop P (.gen (.lookup ty x q true)) A H=some (.tuple #[z,.bool false],H):=by simp[rop,aop,Qgk,ad,Qu0,ae,ag,ah,ak,hx,ai,aj,Qj7]
 refine(We _).trans ?_;rw[e,Qs]
def QCm {ty aa e:TypeId}{ab:TypeDesc}{x q y:Operand}{m:Nat}(ac:P.underlying ty=some (.map aa e))(ad:P.underlying aa=some ab)(hx:ev A x=.map (some m))(ae:VC ab (ev A q)=true)(ag:H.get m=some (.map [])):
  pr P (.gen (.mapUpdate ty x q y)) false A H k=k undef (H.set m (.map [(ev A q,ev A y)])):=by
 have e:rop P (.gen (.mapUpdate ty x q y)) A H=some (undef,H.set m (.map [(ev A q,ev A y)])):=by simp[rop,aop,Qne,ac,QsU,ad,hx,ae,ag,Qj7]
 refine(We _).trans ?_;rw[e,Qs]
def Qs9 (n:Int):List (Value×Value)->Nat->Option (Option (Nat×Value))
 | [],_=>some none
 | (.int .i64 a,b)::l,i=>if n=a then some (some (i,b)) else Qs9 n l (i+1)
 | _,_=>none
def Qjc (n:Int):∀ (es:List (Value×Value)) (i:Nat) r,Qs9 n es i=some r->Qj7 (.int .i64) (.int .i64 n) es i=some r
 | [],i,r,h=>h
 | (a,b)::l,i,r,h=>by
  cases a with
  | int ik z=>
   cases ik with
   | i64=>
    have g:(if n=z then some (some (i,b)) else Qs9 n l (i+1))=some r:=h;unfold Qj7;simp only[VC,Lq,Instr.sameNow,N3]
    by_cases q:n=z
    ·rw[Lc q]at g;subst q;have aa:(n==n)=true:=by simp
     simp only[aa];exact g
    rw[Le q]at g;have:(n==z)=false:=by simp[q]
    simp only[this];exact Qjc n _ _ r g
   | _=>exact absurd h (by simp[Qs9])
  | _=>exact absurd h (by simp[Qs9])
def Qkh {ty aa e:TypeId}{x q y:Operand}{m:Nat}{n:Int}{es:List (Value×Value)}(ab:P.underlying ty=some (.map aa e))(ac:P.underlying aa=some (.int .i64))(hx:ev A x=.map (some m))(ae:ev A q=.int .i64 n)(ag:H.get m=some (.map es))(ah:Qs9 n es 0=some none):
  pr P (.gen (.insert ty x q y)) false A H k=k undef (H.set m (.map (es++[(.int .i64 n,ev A y)]))):=by
 have ad:=Qjc n es 0 _ ah;have e:rop P (.gen (.insert ty x q y)) A H=some (undef,H.set m (.map (es++[(.int .i64 n,ev A y)]))):=by simp[rop,aop,Qne,ab,QsU,ac,hx,ae,ag,ad,VC]
 refine(We _).trans ?_;rw[e,Qs]
def Qvg (z:Value):Option (Nat×Value)->Value
 | none=>.tuple #[z,.bool false]
 | some (_,v)=>.tuple #[v,.bool true]
def QAL {ty ab e:TypeId}{aa:TypeInfo}{z:Value}{x q:Operand}{m:Nat}{n:Int}{es:List (Value×Value)}{r:Option (Nat×Value)}(ac:P.underlying ty=some (.map ab e))(ad:P.underlying ab=some (.int .i64))(ae:P.info? e=some aa)(ag:aa.zero=some z)(am:X2 z=true)(hx:ev A x=.map (some m))(ai:ev A q=.int .i64 n)(aj:H.get m=some (.map es))(ak:Qs9 n es 0=some r):
  pr P (.gen (.lookup ty x q true)) false A H k=k (Qvg z r) H:=by
 have ah:=Qjc n es 0 _ ak;have e:rop P (.gen (.lookup ty x q true)) A H=some (Qvg z r,H):=by
  cases r<;>simp[Qvg,rop,aop,Qgk,ac,Qu0,ad,ae,ag,am,hx,ai,aj,ah,VC]
 refine(We _).trans ?_;rw[e,Qs]
def QH0 (o:Op):pr P (.gen o) false A H k=QJT P o A H k:=We _
end
def Qta {e size bytes m len b o cap:Nat}{q c:List Value}{x:Value}{H:Qa}{ro:Bool}{e':TypeId}(hx:Zx size x H=some (m,q))(aa:q.all (·.oneCell')=true)(ae:m≠0)(ab:H.get b=some (.cells c e' ro))
  (ad:o+len * size<=c.length) (ah:(len+m) * bytes<=140737488355328) (ag:len+m<=9223372036854775807) (ai:cap<UNK) (ac:¬len+m<=cap):
  Jr e size bytes (.slice (some ⟨b,o,none⟩) len cap) x H=some (.slice (some ⟨H.y,0,none⟩) (len+m) (UNK+size),H.push (.cells ((c.drop o).take (len * size)++q) e false)):=by
 simp only[Jr,hx,aa,N3,ae,LN,ab];rw[Lc ⟨ad,ag,ah⟩,Le (by omega),Le ac]
def Qvh {e size bytes m len b o cap:Nat}(aa:o=0){q c:List Value}{x:Value}{H:Qa}(hx:Zx size x H=some (m,q))(ab:q.all (·.oneCell')=true)(ag:m≠0)(ac:H.get b=some (.cells c e false))
  (ae:o+len * size=c.length) (ai:(len+m) * bytes<=140737488355328) (ah:len+m<=9223372036854775807) (ad:UNK<=cap):
  Jr e size bytes (.slice (some ⟨b,o,none⟩) len cap) x H=some (.slice (some ⟨H.y,0,none⟩) (len+m) (UNK+size),(H.kill b).push (.cells (c.drop o++q) e false)):=by
 simp only[Jr,hx,ab,N3,ag,LN,ac];rw[Lc ⟨by omega,ah,ai⟩,Lc ad,Lc ⟨trivial,trivial,aa,ae⟩]
def Qvi {e size bytes m:Nat}{q:List Value}{x:Value}{H:Qa}(hx:Zx size x H=some (m,q))(aa:q.all (·.oneCell')=true)(ab:m≠0)(ad:m * bytes<=140737488355328)(ac:m<=9223372036854775807):
  Jr e size bytes (.slice none 0 0) x H=some (.slice (some ⟨H.y,0,none⟩) m (UNK+size),H.push (.cells q e false)):=by
 simp only[Jr,hx,aa,N3,ab,LN];rw[Lc ⟨ac,ad⟩]
/-! ### QHt of functions -/
def Ret (H0:Qa)(k:Value->Qa->Prop)(v:Value)(H:Qa):Prop:=∃H2,JP H2 H∧(H.Wf->H2.Wf)∧H0.y<=H2.y∧k v H2
def Ret.mk {H0 H:Qa}{k:Value->Qa->Prop}{v:Value}(q:H0.y<=H.y)(h:k v H):Ret H0 k v H:=⟨H,.refl H,id,q,h⟩
def Qa.Wf.up {H:Qa}(h:H.Wf){m:Nat}(aa:H.y<=m):(H.up m).Wf:=λid q=>h id (N8 aa q)
def Ret.up {H0 H:Qa}{k:Value->Qa->Prop}{v:Value}(ab:H0.Wf)(aa:H0.y<=H.y)(ac:∀id,id<H0.y->H.get id=H0.get id)(h:k v (H0.up H.y)):Ret H0 k v H:=
 ⟨H0.up H.y,JP.up (Lb _) (λid b q=>by rw[ac id (ab.lt q)];exact q),λ_=>ab.up aa,aa,h⟩
def Rt (P:Program)(fn:Func)(H0:Qa)(k:Value->Qa->Prop):Env->Qa->Prop:=QnX P fn λv H'=>H0.y<=H'.y∧k v H'
section
variable {P:Program} {fn:Func} {H0:Qa} {k:Value->Qa->Prop} {A:Env} {H:Qa}
def QKM (q:fn.results=#[]):Rt P fn H0 k A H=Ret H0 k (.tuple #[]) H:=by
 simp[Rt,QnX,Ret,QfW,q]
def QKN {r:Nat}(aa:fn.results=#[.tmp r])(q:Nat.blt r fn.ntmps=true):Rt P fn H0 k A H=Ret H0 k (A r) H:=by
 have:r<fn.ntmps:=by simpa using q
 simp[Rt,QnX,Ret,QfW,aa,ZT,this]
def QKO {r s:Nat}(aa:fn.results=#[.tmp r,.tmp s])(q:(Nat.blt r fn.ntmps&&Nat.blt s fn.ntmps)=true):Rt P fn H0 k A H=Ret H0 k (.tuple #[A r,A s]) H:=by
 have:r<fn.ntmps∧s<fn.ntmps:=by simpa using q
 simp[Rt,QnX,Ret,QfW,aa,ZT,this]
def QKP {r s u:Nat}(aa:fn.results=#[.tmp r,.tmp s,.tmp u])(q:(Nat.blt r fn.ntmps&&Nat.blt s fn.ntmps&&Nat.blt u fn.ntmps)=true):Rt P fn H0 k A H=Ret H0 k (.tuple #[A r,A s,A u]) H:=by
 have:(r<fn.ntmps∧s<fn.ntmps)∧u<fn.ntmps:=by simpa using q
 simp[Rt,QnX,Ret,QfW,aa,ZT,this]
def ldR (agg:Bool)(size:Nat)(p:Value)(H:Qa)(k:Value->Prop):Prop:=match p with
 | .pointer (some a)=>(match H.get a.block with
  | some (.cells c _ _)=>bif agg then(a.off+size<=c.length∧k (.agg ((c.drop a.off).take size).toArray)) else ∃v,c[a.off]? = some v∧k v
  | _=>False)
 | _=>False
def QH1 (agg:Bool)(size off:Nat)(b:Option Blk)(k:Value->Prop):Prop:=match b with
 | some (.cells c _ _)=>bif agg then(off+size<=c.length∧k (.agg ((c.drop off).take size).toArray)) else ∃v,c[off]? = some v∧k v
 | _=>False
def QFk (agg:Bool)(size b o:Nat)(k:Value->Prop):ldR agg size (.pointer (some ⟨b,o,none⟩)) H k=QH1 agg size o (H.get b) k:=Nu rfl rfl
def QCn (size o:Nat)(k:Value->Prop)(c:List Value)(e:TypeId)(ro:Bool):QH1 true size o (some (.cells c e ro)) k=(o+size<=c.length∧k (.agg ((c.drop o).take size).toArray)):=Nu rfl rfl
def QAM (size o:Nat)(k:Value->Prop)(c:List Value)(e:TypeId)(ro:Bool):QH1 false size o (some (.cells c e ro)) k=∃v,c[o]? = some v∧k v:=Nu rfl rfl
def QxI (P:Program)(ty:TypeId)(p:Value)(H:Qa):Option Value:=match p with | .pointer (some ad)=>Yg P ty ad H | _=>none
def Qjd (n a:Nat)(ty:TypeId):ZT P n A H (.cell a ty)=if a<n then QxI P ty (A a) H else none:=Nu rfl rfl
def Qma {ty:TypeId}{d:TypeDesc}{aa:TypeInfo}{p:Value}{q:Value->Prop}(ab:P.underlying ty=some d)(hi:P.info? ty=some aa):
  (∃v,QxI P ty p H=some v∧q v)↔ldR (JR d) aa.size p H q:=by
 unfold ldR QxI;split
 ·rename_i a;have e:Yg P ty a H=match H.get a.block with
   | some (.cells c _ _)=>if JR d then(if a.off+aa.size<=c.length then some (.agg ((c.drop a.off).take aa.size).toArray) else none) else c[a.off]?
   | _=>none:=by
   simp only[Yg,ab,hi];cases H.get a.block with
   | none=>rfl
   | some b=>cases b<;>rfl
  rw[e];cases ah:H.get a.block with
  | none=>simp
  | some b=>
   cases b with
   | cells c e ro=>
    cases ag:JR d with
    | true=>by_cases ac:a.off+aa.size<=c.length<;>simp[ac]
    | false=>simp
   | map es=>simp
   | iter s pos=>simp
   | miter a b c d=>simp
   | loop A n ai ad ae st=>simp
 simp
def Qpl (P:Program)(ty:TypeId)(agg:Bool)(size:Nat):Bool:=match P.underlying ty,P.info? ty with
 | some d,some inf=>(JR d==agg)&&Nat.beq inf.size size
 | _,_=>false
def Qje {ty:TypeId}{agg:Bool}{size:Nat}(h:Qpl P ty agg size=true):∃d q,P.underlying ty=some d∧P.info? ty=some q∧JR d=agg∧q.size=size:=by
 unfold Qpl at h;split at h;·rename_i d q aa hi;simp only[Lm,L0,Zw,Lv]at h;exact⟨d,q,aa,hi,h.1,h.2⟩
 cases h
def QKQ {a ty size:Nat}{agg:Bool}(ab:fn.results=#[.cell a ty])(q:Nat.blt a fn.ntmps=true)(ac:Qpl P ty agg size=true):Rt P fn H0 k A H=ldR agg size (A a) H λv=>Ret H0 k v H:=by
 have q:a<fn.ntmps:=by simpa using q
 obtain⟨d,ad,aa,hi,rfl,rfl⟩:=Qje ac;apply propext;rw[<- Qma aa hi];simp only[Rt,QnX,Ret,QfW,ab,Qjd,q,N3]
def QJV {a ty size:Nat}{agg:Bool}{r:Nat}(ac:fn.results=#[.cell a ty,.tmp r])(q:(Nat.blt a fn.ntmps&&Nat.blt r fn.ntmps)=true)(ad:Qpl P ty agg size=true):Rt P fn H0 k A H=ldR agg size (A a) H λv=>Ret H0 k (.tuple #[v,A r]) H:=by
 have q:a<fn.ntmps∧r<fn.ntmps:=by simpa using q
 obtain⟨d,ag,ab,hi,rfl,rfl⟩:=Qje ad;apply propext;rw[<- Qma ab hi];have e1:ZT P fn.ntmps A H (.tmp r)=some (A r):=by simp[ZT,q.2]
 simp only[Rt,QnX,Ret,QfW,ac,Qjd,e1,q.1,N3,Ra,FO,Rx,BV,R8];constructor;·rintro⟨v,aa,h⟩;simp only[Lx,BY,Lt]at aa;obtain⟨l,⟨w,ae,rfl⟩,rfl⟩:=aa;exact⟨w,ae,h⟩
 rintro⟨v,aa,h⟩;refine⟨_,?_,h⟩;simp[aa]
def Qtb {a ty size:Nat}{agg:Bool}{r q:Nat}(ad:fn.results=#[.cell a ty,.tmp r,.tmp q])(aa:(Nat.blt a fn.ntmps&&(Nat.blt r fn.ntmps&&Nat.blt q fn.ntmps))=true)(ae:Qpl P ty agg size=true):Rt P fn H0 k A H=ldR agg size (A a) H λv=>Ret H0 k (.tuple #[v,A r,A q]) H:=by
 have aa:a<fn.ntmps∧r<fn.ntmps∧q<fn.ntmps:=by simpa using aa
 obtain⟨d,ah,ac,hi,rfl,rfl⟩:=Qje ae;apply propext;rw[<- Qma ac hi];have e1:ZT P fn.ntmps A H (.tmp r)=some (A r):=by simp[ZT,aa.2.1]
 have e2:ZT P fn.ntmps A H (.tmp q)=some (A q):=by simp[ZT,aa.2.2]
 simp only[Rt,QnX,Ret,QfW,ad,Qjd,e1,e2,aa.1,N3,Ra,FO,Rx,BV,R8];constructor;·rintro⟨v,ab,h⟩;simp only[Lx,BY,Lt]at ab;obtain⟨l,⟨w,ag,rfl⟩,rfl⟩:=ab;exact⟨w,ag,h⟩
 rintro⟨v,ab,h⟩;refine⟨_,?_,h⟩;simp[ab]
end
def QhG {P:Program}{f:FuncId}{fn:Func}{q:PC}{args:List Value}{H:Qa}{k:Value->Qa->Prop}{A:Env}(ad:P.funcs[f]? = some fn)(ab:fn.body.bind (comp P fn.ntmps)=some q)(ac:entered P f=true)(ae:Nat.ble args.length fn.ntmps=true)(aa:QaW args=A)
  (h:H.Wf->Qm P q ⟨Rt P fn H k,X4⟩ (Rt P fn H k) A H):Qe P f args H k:=Qpg ad ab ac (by simpa using ae) (by rw[aa];exact h)
def Qpm (l:List Value):(Value.agg l.toArray).cells.toList=l:=Nu rfl rfl
def Qpn (ik:IntKind)(n:Int):(Value.int ik n).cells.toList=[.int ik n]:=Nu rfl rfl
def Qnq (b:Bool):(Value.bool b).cells.toList=[.bool b]:=Nu rfl rfl
def Qki (a:Option Addr)(l c:Nat):(Value.slice a l c).cells.toList=[.slice a l c]:=Nu rfl rfl
def Qkj (ty:TypeId)(v:Value):(Value.iface ty v).cells.toList=[.iface ty v]:=Nu rfl rfl
def Qnr (ik:IntKind)(n:Int):(Value.int ik n).oneCell'=true:=Nu rfl rfl
def Qkk (b:Bool):(Value.bool b).oneCell'=true:=Nu rfl rfl
def Qic (a:Option Addr)(l c:Nat):(Value.slice a l c).oneCell'=true:=Nu rfl rfl
def Qid (ty:TypeId)(v:Value):(Value.iface ty v).oneCell'=true:=Nu rfl rfl
section
variable {P:Program}
def Qz {b:Bool}{r:R}{s:Bool}{l:List PO}{k:Env->Qa->Prop}{A:Env}{d:Option Nat}{H:Qa}(q:b=true->gB true P r s l k A d H)(aa:b=false->gB false P r s l k A d H):gB b P r s l k A d H:=by
 cases b;·exact aa rfl
 exact q rfl
def Qg {b:Bool}{x y:PC}{ks:Kp}{k:Env->Qa->Prop}{A:Env}{H:Qa}(q:b=true->cB true P x y ks k A H)(aa:b=false->cB false P x y ks k A H):cB b P x y ks k A H:=by
 cases b;·exact aa rfl
 exact q rfl
end
/-! ### Loops -/
section
variable {P:Program}
def Qvj (I:Nat->Env->Qa->Prop)(m:Nat)(A:Env)(H:Qa):Prop:=∃q,q<m∧I q A H
def Qu {b:PC}{ks:Kp}{k:Env->Qa->Prop}{A:Env}{H:Qa}(I:Nat->Env->Qa->Prop)(m:Nat)(q:I m A H)(h:∀m A' H',I m A' H'->Qm P b ks (Qvj I m) A' H'):Qm P (.loop b) ks k A H:=
 ⟨I,⟨m,q⟩,h⟩
/-! Loops over functions. -/
def YR (P:Program)(L:Option Code->Blk)(q:List Nat)(a b:PC)(A:Env):Prop:=∀ (l:Nat) (args:List Value) (H0:Qa) (Q:Value->Qa->Prop),H0.get l=some (L none)->args.length=q.length->Qm P a QyZ (λA1 H1=>Qm P b (QJI L l H0.y Q) (QHx L l H0.y Q) A1 H1) (Qna A q args) (H0.kill l)->YQ P l args H0 Q
def rgK (v:Value)(P:Program)(q:List Nat)(a b:PC)(ks:Kp)(k:Env->Qa->Prop)(A:Env)(H:Qa):Prop:=match v with
 | .func (.func f) xs ys=>∀L:Option Code->Blk,YR P L q a b A->entered P f=true∧Qe P f (xs.toList++[.func (.yield H.y) #[] #[]]++ys.toList) (H.push (L none)) λ_ H2=>∃st,H2.get H.y=some (L st)∧QBV st ks k A (H2.kill H.y)
 | _=>False
def Qez (g:Operand)(q:List Nat)(a b:PC)(ks:Kp)(k:Env->Qa->Prop)(A:Env)(H:Qa):Qm P (.rangeF g q a b) ks k A H=rgK (ev A g) P q a b ks k A H:=by
 show(match ev A g with | .func (.func f) xs ys=>_ | _=>False)=_;unfold rgK;split<;>rfl
def Qpo (f:FuncId)(xs ys:List Value)(q:List Nat)(a b:PC)(ks:Kp)(k:Env->Qa->Prop)(A:Env)(H:Qa):rgK (.func (.func f) xs.toArray ys.toArray) P q a b ks k A H=∀L:Option Code->Blk,YR P L q a b A->entered P f=true∧Qe P f (xs++[.func (.yield H.y) #[] #[]]++ys) (H.push (L none)) λ_ H2=>∃st,H2.get H.y=some (L st)∧QBV st ks k A (H2.kill H.y):=Nu rfl rfl
def Qmb (ks:Kp)(k:Env->Qa->Prop)(A:Env)(H:Qa):QBV none ks k A H=k A H:=Nu rfl rfl
def Qjf (L:Option Code->Blk)(l q:Nat)(Q:Value->Qa->Prop)(A:Env)(H:Qa):QHx L l q Q A H=(q<=H.y∧Q (.bool true) (H.set l (L none))):=Nu rfl rfl
def Qmc (A:Env)(l:List Value):Qna A [] l=A:=Nu rfl rfl
def Qjg (A:Env)(p:Nat)(q:List Nat)(v:Value)(l:List Value):Qna A (p::q) (v::l)=Qna (upd A p v) q l:=Nu rfl rfl
structure Ext (H H':Qa):Prop where
 y:H.y<=H'.y
 get:∀id,id<H.y->H'.get id=H.get id
def Ext.eqB {H H':Qa}(h:Ext H H'):EqB H H':=λid q=>h.get id q
def Ext.refl (H:Qa):Ext H H:=⟨Lb _,λ_ _=>Nu rfl rfl⟩
def Ext.trans {a b c:Qa}(h:Ext a b)(h':Ext b c):Ext a c:=⟨N8 h.y h'.y,λid q=>by rw[h'.get id (N5 q h.y),h.get id q]⟩
def Ext.push {H H':Qa}(h:Ext H H')(b:Blk):Ext H (H'.push b):=⟨N8 h.y (by simp),λid q=>by
 have:=h.y;rw[Qc,Le (by omega)];exact h.get id q⟩
def Ext.up {H H':Qa}(h:Ext H H'){m:Nat}(aa:H'.y<=m):Ext H (H'.up m):=⟨N8 h.y aa,λid q=>by rw[XB];exact h.get id q⟩
def Ext.set {H H':Qa}(h:Ext H H'){i:Nat}(hi:H.y<=i)(b:Blk):Ext H (H'.set i b):=⟨h.y,λid q=>by
 rw[Qj,Le (by omega)];exact h.get id q⟩
def Ext.kill {H H':Qa}(h:Ext H H'){i:Nat}(hi:H.y<=i):Ext H (H'.kill i):=⟨h.y,λid q=>by
 rw[WE,Le (by omega)];exact h.get id q⟩
def Ret.ext {H0 H:Qa}{k:Value->Qa->Prop}{v:Value}(aa:H0.Wf)(q:Ext H0 H)(h:k v (H0.up H.y)):Ret H0 k v H:=.up aa q.y q.get h
end
/-! ### Appending -/
def Gg {size m b o cap:Nat}{c:List Value}{e:TypeId}{ro:Bool}{H:Qa}(q:H.get b=some (.cells c e ro))(ab:m≠0)(aa:o+m * size<=c.length):Zx size (.slice (some ⟨b,o,none⟩) m cap) H=some (m,(c.drop o).take (m * size)):=by
 simp only[Zx,ab,LN,q];rw[Lc aa]
def Qvk {b cap:Nat}{v:Value}{e:TypeId}{ro:Bool}{H:Qa}(q:H.get b=some (.cells [v] e ro)):Zx 1 (.slice (some ⟨b,0,none⟩) 1 cap) H=some (1,[v]):=Gg q (by decide) (by simp)
def Qkl {e size bytes m len b o cap:Nat}(aa:o=0){q c:List Value}{x:Value}{H:Qa}{k:Value->Qa->Prop}(hx:Zx size x H=some (m,q))(ab:q.all (·.oneCell')=true)(ag:m≠0)(ac:H.get b=some (.cells c e false))
  (ae:o+len * size=c.length) (ai:(len+m) * bytes<=140737488355328) (ah:len+m<=9223372036854775807) (ad:UNK<=cap)
  (h:k (.slice (some ⟨H.y,0,none⟩) (len+m) (UNK+size)) ((H.kill b).push (.cells (c.drop o++q) e false))):QfY e size bytes (.slice (some ⟨b,o,none⟩) len cap) x H k:=by
 unfold QfY;rw[Qvh aa hx ab ag ac ae ai ah ad,Qs];exact h
def Qmd {e size bytes m len b o cap:Nat}{q c:List Value}{x:Value}{H:Qa}{ro:Bool}{e':TypeId}{k:Value->Qa->Prop}(hx:Zx size x H=some (m,q))(aa:q.all (·.oneCell')=true)(ag:m≠0)(ab:H.get b=some (.cells c e' ro))
  (ae:o+len * size<=c.length) (ai:(len+m) * bytes<=140737488355328) (ah:len+m<=9223372036854775807) (ac:cap<UNK) (ad:¬len+m<=cap)
  (h:k (.slice (some ⟨H.y,0,none⟩) (len+m) (UNK+size)) (H.push (.cells ((c.drop o).take (len * size)++q) e false))):QfY e size bytes (.slice (some ⟨b,o,none⟩) len cap) x H k:=by
 unfold QfY;rw[Qta hx aa ag ab ae ai ah ac ad,Qs];exact h
def Qgq {e size bytes m:Nat}{q:List Value}{x:Value}{H:Qa}{k:Value->Qa->Prop}(hx:Zx size x H=some (m,q))(aa:q.all (·.oneCell')=true)(ab:m≠0)(ad:m * bytes<=140737488355328)(ac:m<=9223372036854775807)
  (h:k (.slice (some ⟨H.y,0,none⟩) m (UNK+size)) (H.push (.cells q e false))):QfY e size bytes (.slice none 0 0) x H k:=by
 unfold QfY;rw[Qvi hx aa ab ad ac,Qs];exact h
def Qe.w {P:Program}{f:FuncId}{args:List Value}{H:Qa}{k ab:Value->Qa->Prop}(h:Qe P f args H k)(ae:∀v H',H.y<=H'.y->H'.Wf->k v H'->ab v H'):Qe P f args H ab:=by
 intro ag;obtain⟨v,H',ac,q,aa,ad⟩:=h ag;exact⟨v,H',ac,q,aa,ae v H' q aa ad⟩
def Qns {H:Qa}{b:Blk}{m:Nat}(h:m=H.y):(H.push b).get m=some b:=by rw[Qc,Lc h]
def Qnt {H:Qa}{b:Blk}{m:Nat}(h:¬m=H.y):(H.push b).get m=H.get m:=by rw[Qc,Le h]
def QxJ {H:Qa}{b:Blk}{i m:Nat}(h:m=i):(H.set i b).get m=some b:=by rw[Qj,Lc h]
def QxK {H:Qa}{b:Blk}{i m:Nat}(h:¬m=i):(H.set i b).get m=H.get m:=by rw[Qj,Le h]
/-! ### Rules, together -/
def QH2 (l:List UInt8):ByteArray.mk (Array.mk l)=mkS l:=Nu rfl rfl
abbrev sxA:=And.intro @QH2 (And.intro @Qjb (And.intro @Qno (And.intro @Qxu (And.intro @QAu (And.intro @Qxt (And.intro @QAv (And.intro @QaQ (And.intro @Qvc (And.intro @QHE (And.intro @QHF (And.intro @QB3 (And.intro @QAw (And.intro @Qxv (And.intro @QEL (And.intro @Qy4 (And.intro @Qpi (And.intro @Qkg (And.intro @QhF (And.intro @Qxs (And.intro @Qey (And.intro @Qxr (And.intro @QEK (And.intro @QB2 (And.intro @QEJ (And.intro @QB1 (And.intro @bt (And.intro @bf (And.intro @Qva (And.intro @Qy3 (And.intro @Qsf (And.intro @Qsg (And.intro @QJM (And.intro @Qvb (And.intro @QAt (And.intro @QEI (And.intro @Qy5 (And.intro @QEO (And.intro @Qxz (And.intro @QHG (And.intro @QEP (And.intro @QEQ (And.intro @QER (And.intro @QES (And.intro @QHH (And.intro @QET (And.intro @QxA (And.intro @QEU (And.intro @QEV (And.intro @QEW (And.intro @QEX (And.intro @QEY (And.intro @QEZ (And.intro @QE0 (And.intro @QE1 (And.intro @QE2 (And.intro @QE3 (And.intro @QE4 (And.intro @QE5 (And.intro @QB8 (And.intro @QHJ (And.intro @QE6 (And.intro @QE7 (And.intro @QHK (And.intro @QHL (And.intro @QAC (And.intro @QCa (And.intro @QxB (And.intro @QE9 (And.intro @QHN (And.intro @QAD (And.intro @QCb (And.intro @QFa (And.intro @QAE (And.intro @QFb (And.intro @QxC (And.intro @QHO (And.intro @QCc (And.intro @QHP (And.intro @QHQ (And.intro @QHR (And.intro @QHS (And.intro @QCe (And.intro @Qve (And.intro @QAF (And.intro @QAG (And.intro @Qs6 (And.intro @QAH (And.intro @QHT (And.intro @QCf (And.intro @QHU (And.intro @QFc (And.intro @QAI (And.intro @QHV (And.intro @QCg (And.intro @QxE (And.intro @QxF (And.intro @QJQ (And.intro @QCh (And.intro @QFd (And.intro @QCi (And.intro @QFe (And.intro @QJS (And.intro @QHX (And.intro @Qsh (And.intro @QFf (And.intro @QCk (And.intro @QxH (And.intro @Qs7 (And.intro @QCj (And.intro @QxG (And.intro @QFh (And.intro @W6 (And.intro @QFi (And.intro @QAJ (And.intro @QHY (And.intro @QEN (And.intro @QB7 (And.intro @Qxw (And.intro @QB6 (And.intro @QHZ (And.intro @QCl (And.intro @Qvf (And.intro @Qs8 (And.intro @QAz (And.intro @QB4 (And.intro @QAA (And.intro @QB5 (And.intro @Qxy (And.intro @QAx (And.intro @QAy (And.intro @QFk (And.intro @QCn @QAM))))))))))))))))))))))))))))))))))))))))))))))))))))))))))))))))))))))))))))))))))))))))))))))))))))))))))))))))))))))))))))))))))))
abbrev mxA:=And.intro @Qpm (And.intro @Qpn (And.intro @Qnq (And.intro @Qki (And.intro @Qkj (And.intro @Qnr (And.intro @Qkk (And.intro @Qic (And.intro @Qid (And.intro @Qpj (And.intro @Qpk (And.intro @Qc (And.intro @Qf (And.intro @Qj (And.intro @QR (And.intro @XB (And.intro @Q8 (And.intro @LP (And.intro @N9 (And.intro @Bz (And.intro @Hr (And.intro @Dd (And.intro @De (And.intro @Nat.succ_ne_self (And.intro @Bj (And.intro @NH (And.intro @BH (@Fx)))))))))))))))))))))))))))
abbrev mxD:=And.intro @Qpm (And.intro @Qpn (And.intro @Qnq (And.intro @Qki (And.intro @Qkj (And.intro @Qnr (And.intro @Qkk (And.intro @Qic (And.intro @Qid (And.intro @Qpj (And.intro @Qpk (And.intro @Qf (And.intro @QR (And.intro @XB (And.intro @Q8 (And.intro @LP (And.intro @N9 (And.intro @Bz (And.intro @Hr (And.intro @Dd (And.intro @De (And.intro @Nat.succ_ne_self (And.intro @Bj (And.intro @NH (And.intro @BH (And.intro @Fx (And.intro @Qns (And.intro @Qnt (And.intro @QxJ (@QxK)))))))))))))))))))))))))))))
abbrev uxA:=And.intro @Qva (And.intro @Qy3 (And.intro @Qsf (And.intro @Qsg (And.intro @QJM (@Qvb)))))
abbrev sxB:=And.intro @NZ.{0,0} (And.intro @Bq.{0,0} (And.intro @Da.{1} (And.intro not_false_eq_true (And.intro BE (And.intro @Lq.{1} (And.intro @Ls.{1} (And.intro L8 (And.intro LM @Bool.not_not))))))))
abbrev uxB:=And.intro @Lq.{1} @Ls.{1}
abbrev mxB:=And.intro @N3.{1} (And.intro @LN.{1} (And.intro @Bg.{0} (And.intro @Bp.{0} (And.intro @Lt.{0} (And.intro @Dg.{1} (And.intro @BN.{1} (And.intro @Lo.{0} (And.intro @L9.{0} (And.intro @Bv.{0} (And.intro @BI.{0} (And.intro @Lw.{0} (And.intro @List.drop_succ_cons.{0} (And.intro @List.take_succ_cons.{0} (And.intro @Rb.{0} (And.intro @Nm.{0} (And.intro @LH.{0} (And.intro @Na.{0} (And.intro @List.take_nil.{0} @List.drop_nil.{0}))))))))))))))))))
def Qme (c:List Value)(p:Nat)(q:List Value):splice c p q=c.take p++(q++c.drop (p+q.length)):=rfl
abbrev hnP:=And.intro @Qf (And.intro @QR @Q8)
abbrev Qb:=And.intro sxA (And.intro sxB (And.intro mxA (And.intro mxB @Qme)))
abbrev QE:=And.intro sxA (And.intro sxB (And.intro mxD (And.intro mxB @Qme)))
abbrev QbZ:=And.intro sxA sxB
abbrev Qtc:=And.intro mxD (And.intro mxB @Qme)
abbrev Qd:=And.intro uxA uxB
/-! ### The code's text, short -/
abbrev Ow (d:Nat)(r:R):PO:=⟨some d,r,none,false⟩
abbrev Om (d:Nat)(x:Operand):PO:=⟨some d,.mv x,none,false⟩
abbrev Ov (r:R):PO:=⟨none,r,none,false⟩
abbrev Ci (n:Int):Operand:=.const (.int .i64 n)
abbrev In0 (P:Program)(f:FuncId)(fn:Func)(q:PC):Prop:=∀ {H:Qa} {k:Value->Qa->Prop},(H.Wf->Qm P q ⟨Rt P fn H k,X4⟩ (Rt P fn H k) (U) H)->Qe P f [] H k
def in0 {P:Program}{f:FuncId}{fn:Func}{q:PC}(ac:P.funcs[f]? = some fn)(aa:fn.body.bind (comp P fn.ntmps)=some q)(ab:entered P f=true)(ad:Nat.ble 0 fn.ntmps=true):In0 P f fn q:=λh=>QhG ac aa ab ad QKG h
abbrev In1 (P:Program)(f:FuncId)(fn:Func)(q:PC):Prop:=∀ {a0:Value} {H:Qa} {k:Value->Qa->Prop},(H.Wf->Qm P q ⟨Rt P fn H k,X4⟩ (Rt P fn H k) (upd U 0 a0) H)->Qe P f [a0] H k
def in1 {P:Program}{f:FuncId}{fn:Func}{q:PC}(ac:P.funcs[f]? = some fn)(aa:fn.body.bind (comp P fn.ntmps)=some q)(ab:entered P f=true)(ad:Nat.ble 1 fn.ntmps=true):In1 P f fn q:=λh=>QhG ac aa ab ad (QKH _) h
abbrev In2 (P:Program)(f:FuncId)(fn:Func)(q:PC):Prop:=∀ {a0 a1:Value} {H:Qa} {k:Value->Qa->Prop},(H.Wf->Qm P q ⟨Rt P fn H k,X4⟩ (Rt P fn H k) (upd (upd U 0 a0) 1 a1) H)->Qe P f [a0,a1] H k
def in2 {P:Program}{f:FuncId}{fn:Func}{q:PC}(ac:P.funcs[f]? = some fn)(aa:fn.body.bind (comp P fn.ntmps)=some q)(ab:entered P f=true)(ad:Nat.ble 2 fn.ntmps=true):In2 P f fn q:=λh=>QhG ac aa ab ad (QKI _ _) h
abbrev In3 (P:Program)(f:FuncId)(fn:Func)(q:PC):Prop:=∀ {a0 a1 a2:Value} {H:Qa} {k:Value->Qa->Prop},(H.Wf->Qm P q ⟨Rt P fn H k,X4⟩ (Rt P fn H k) (upd (upd (upd U 0 a0) 1 a1) 2 a2) H)->Qe P f [a0,a1,a2] H k
def in3 {P:Program}{f:FuncId}{fn:Func}{q:PC}(ac:P.funcs[f]? = some fn)(aa:fn.body.bind (comp P fn.ntmps)=some q)(ab:entered P f=true)(ad:Nat.ble 3 fn.ntmps=true):In3 P f fn q:=λh=>QhG ac aa ab ad (QKJ _ _ _) h
abbrev In4 (P:Program)(f:FuncId)(fn:Func)(q:PC):Prop:=∀ {a0 a1 a2 a3:Value} {H:Qa} {k:Value->Qa->Prop},(H.Wf->Qm P q ⟨Rt P fn H k,X4⟩ (Rt P fn H k) (upd (upd (upd (upd U 0 a0) 1 a1) 2 a2) 3 a3) H)->Qe P f [a0,a1,a2,a3] H k
def in4 {P:Program}{f:FuncId}{fn:Func}{q:PC}(ac:P.funcs[f]? = some fn)(aa:fn.body.bind (comp P fn.ntmps)=some q)(ab:entered P f=true)(ad:Nat.ble 4 fn.ntmps=true):In4 P f fn q:=λh=>QhG ac aa ab ad (QKK _ _ _ _) h
abbrev In5 (P:Program)(f:FuncId)(fn:Func)(q:PC):Prop:=∀ {a0 a1 a2 a3 a4:Value} {H:Qa} {k:Value->Qa->Prop},(H.Wf->Qm P q ⟨Rt P fn H k,X4⟩ (Rt P fn H k) (upd (upd (upd (upd (upd U 0 a0) 1 a1) 2 a2) 3 a3) 4 a4) H)->Qe P f [a0,a1,a2,a3,a4] H k
def in5 {P:Program}{f:FuncId}{fn:Func}{q:PC}(ac:P.funcs[f]? = some fn)(aa:fn.body.bind (comp P fn.ntmps)=some q)(ab:entered P f=true)(ad:Nat.ble 5 fn.ntmps=true):In5 P f fn q:=λh=>QhG ac aa ab ad (QKL _ _ _ _ _) h
/-! #### Still shorter -/
def jn0 {P:Program}{f:FuncId}{fn:Func}{q:PC}(aa:P.funcs[f]? = some fn)(h:(fn.body.bind (comp P fn.ntmps),entered P f,Nat.ble 0 fn.ntmps)=(some q,true,true)):In0 P f fn q:=in0 aa (congrArg (·.1) h) (congrArg (·.2.1) h) (congrArg (·.2.2) h)
def jn1 {P:Program}{f:FuncId}{fn:Func}{q:PC}(aa:P.funcs[f]? = some fn)(h:(fn.body.bind (comp P fn.ntmps),entered P f,Nat.ble 1 fn.ntmps)=(some q,true,true)):In1 P f fn q:=in1 aa (congrArg (·.1) h) (congrArg (·.2.1) h) (congrArg (·.2.2) h)
def jn2 {P:Program}{f:FuncId}{fn:Func}{q:PC}(aa:P.funcs[f]? = some fn)(h:(fn.body.bind (comp P fn.ntmps),entered P f,Nat.ble 2 fn.ntmps)=(some q,true,true)):In2 P f fn q:=in2 aa (congrArg (·.1) h) (congrArg (·.2.1) h) (congrArg (·.2.2) h)
def jn3 {P:Program}{f:FuncId}{fn:Func}{q:PC}(aa:P.funcs[f]? = some fn)(h:(fn.body.bind (comp P fn.ntmps),entered P f,Nat.ble 3 fn.ntmps)=(some q,true,true)):In3 P f fn q:=in3 aa (congrArg (·.1) h) (congrArg (·.2.1) h) (congrArg (·.2.2) h)
def jn4 {P:Program}{f:FuncId}{fn:Func}{q:PC}(aa:P.funcs[f]? = some fn)(h:(fn.body.bind (comp P fn.ntmps),entered P f,Nat.ble 4 fn.ntmps)=(some q,true,true)):In4 P f fn q:=in4 aa (congrArg (·.1) h) (congrArg (·.2.1) h) (congrArg (·.2.2) h)
def jn5 {P:Program}{f:FuncId}{fn:Func}{q:PC}(aa:P.funcs[f]? = some fn)(h:(fn.body.bind (comp P fn.ntmps),entered P f,Nat.ble 5 fn.ntmps)=(some q,true,true)):In5 P f fn q:=in5 aa (congrArg (·.1) h) (congrArg (·.2.1) h) (congrArg (·.2.2) h)
/-! ### Values, short -/
abbrev _root_.Go.Value.Z (n:Int):Value:=.int .i64 n
abbrev _root_.Go.Value.P (b:Nat):Value:=.pointer (some ⟨b,0,none⟩)
abbrev _root_.Go.Ab.Blk.C (c:List Value)(e:TypeId):Blk:=.cells c e false
abbrev _root_.Go.Value.S (b n c:Nat):Value:=.slice (some ⟨b,0,none⟩) n c
/-! ### Functions' QEi, short -/
/-! ### Rules and rewriting steps, short -/
def nD {α:Type}(l:List α):l.drop 0=l:=Lw
def nB (a:Int):(a==a)=true:=LO a
def nA {α:Type}(l:List α):[]++l=l:=LH l
def nC {α:Type}(a:α)(l m:List α):(a::l)++m=a::(l++m):=Nm
/-! ### Macros -/
variable {A B C D E F G I J K L M N O R S T U V W X Y P Q:Prop}
def cMo (P:Program)(ops:Array Oper)(q:Nat->Bool):List Oper->Nat->List PO
 | [],_=>[]
 | o::l,i=>⟨o.dst,Qgm P ops (q i) i o,(match o.guard with | none=>none | some (j,w)=>match G5 ops j with | some t=>some (t,w) | none=>none),q i⟩::cMo P ops q l (i+1)
def ixs (p:Oper->Bool):List Oper->Nat->List Nat
 | [],_=>[]
 | o::l,i=>bif p o then i::ixs p l (i+1) else ixs p l (i+1)
def flF (ms S L A:List Nat)(k:Nat):Bool:=(S.elem k&&(L.any (λi=>Qdk ms i k)||A.any λi=>Nat.blt i k&&!(QF ms i k)))||(L.elem k&&S.any λi=>Qdk ms i k)
def flG (ops:List Oper):Nat->Bool:=flF (QL ops []) (ixs QEz ops 0) (ixs Qpc ops 0) (ixs QsY ops 0)
def cM (P:Program):Code->PC
 | .skip=>.skip
 | .label l=>.label l
 | .ret=>.ret
 | .exit id=>.exit id
 | .goto l=>.goto l
 | .region _ ops d=>.ops (cMo P ops (bif d then flG ops.toList else λ_=>false) ops.toList 0)
 | .seq a b=>sq (cM P a) (cM P b)
 | .cond c a b=>.cond c (cM P a) (cM P b)
 | .block id b=>.block id (cM P b)
 | .loop b=>.loop (cM P b)
 | .scope b=>QoB (cM P b)
 | .rangeFunc g q a b=>.rangeF g q.toList (cM P a) (cM P b)
 | _=>.bad
def cF (P:Program)(F:Func):PC:=cM P (F.body.getD .ret)
def szP:PC->Nat
 | .scope b _ r=>szP b+szP r
 | .ops l=>1+l.length / 3
 | .seq a b=>szP a+szP b
 | .cond _ a b=>1+szP a+szP b
 | .block _ b=>szP b
 | .loop b=>1+szP b
 | .rangeF _ _ a b=>1+szP a+szP b
 | _=>0
def isO:PC->Bool
 | .ops _=>true
 | _=>false
def cN (N:Nat->PC)(j:Nat)(r:PC×List PC×Nat):PC×List PC×Nat:=(N j,r.1::r.2.1,j+1)
def cu (N:Nat->PC):PC->List PC->Nat->PC×List PC×Nat
 | .seq a b,l,j=>(λq=>(λp=>(.seq p.1 q.1,p.2)) (cu N a q.2.1 q.2.2)) (bif Nat.ble 5 (szP b)&&!isO a then cN N j (cu N b l 0) else cu N b l j)
 | .cond t a b,l,j=>(λp=>(λq=>(.cond t p.1 q.1,q.2)) (bif Nat.ble 5 (szP b) then cN N p.2.2 (cu N b p.2.1 0) else cu N b p.2.1 p.2.2)) (bif Nat.ble 5 (szP a) then cN N j (cu N a l 0) else cu N a l j)
 | .block i b,l,j=>(λq=>(.block i q.1,q.2)) (cu N b l j)
 | .loop b,l,j=>(λq=>(.loop q.1,q.2)) (cN N j (cu N b l 0))
 | .rangeF g ps a b,l,j=>(λq=>(.rangeF g ps a q.1,q.2)) (cN N j (cu N b l 0))
 | .scope b n r,l,j=>(λp=>(λq=>(.scope q.1 n p.1,q.2)) (cN N p.2.2 (cu N b p.2.1 0))) (cN N j (cu N r l 0))
 | c,l,j=>(c,l,j)
def cL (P:Program)(F:Func)(N:Nat->PC):List PC:=(λr=>r.1::r.2.1) (cu N (cF P F) [] 0)
def cA (i:Nat)(l:(Nat->PC)->List PC)(N:Nat->PC):PC:=match (l N)[i]? with | some c=>c | none=>.bad
abbrev e0 (a:PC){x:PC}(h:a=x):PC:=x
abbrev eL (g:(Nat->PC)->List PC){x:(Nat->PC)->List PC}(h:∀N,g N=x N):(Nat->PC)->List PC:=x
abbrev e1 (i:Nat)(l:(Nat->PC)->List PC){x:PC->PC}(h:∀a,cA i l (λ_=>a)=x a):PC->PC:=x
abbrev e2 (i:Nat)(l:(Nat->PC)->List PC){x:PC->PC->PC}(h:∀a b,cA i l (λn=>bif Nat.beq n 0 then a else b)=x a b):PC->PC->PC:=x
abbrev e3 (i:Nat)(l:(Nat->PC)->List PC){x:PC->PC->PC->PC}(h:∀a b c,cA i l (λn=>bif Nat.beq n 0 then a else bif Nat.beq n 1 then b else c)=x a b c):PC->PC->PC->PC:=x
abbrev e4 (i:Nat)(l:(Nat->PC)->List PC){x:PC->PC->PC->PC->PC}(h:∀a b c d,cA i l (λn=>bif Nat.beq n 0 then a else bif Nat.beq n 1 then b else bif Nat.beq n 2 then c else d)=x a b c d):PC->PC->PC->PC->PC:=x
section
variable (P:Program) (fn:Func)
def rs0 (q:fn.results=#[])(H0 H:Qa)(k:Value->Qa->Prop)(A:Env):Rt P fn H0 k A H=Ret H0 k (.tuple #[]) H:=QKM q
def rs1 (r:Nat)(aa:fn.results=#[.tmp r])(q:Nat.blt r fn.ntmps=true)(H0 H:Qa)(k:Value->Qa->Prop)(A:Env):Rt P fn H0 k A H=Ret H0 k (A r) H:=QKN aa q
def rs2 (r s:Nat)(aa:fn.results=#[.tmp r,.tmp s])(q:(Nat.blt r fn.ntmps&&Nat.blt s fn.ntmps)=true)(H0 H:Qa)(k:Value->Qa->Prop)(A:Env):Rt P fn H0 k A H=Ret H0 k (.tuple #[A r,A s]) H:=QKO aa q
def rs3 (r s u:Nat)(aa:fn.results=#[.tmp r,.tmp s,.tmp u])(q:(Nat.blt r fn.ntmps&&Nat.blt s fn.ntmps&&Nat.blt u fn.ntmps)=true)(H0 H:Qa)(k:Value->Qa->Prop)(A:Env):Rt P fn H0 k A H=Ret H0 k (.tuple #[A r,A s,A u]) H:=QKP aa q
def Qvl (agg:Bool)(size a ty:Nat)(aa:fn.results=#[.cell a ty])(q:Nat.blt a fn.ntmps=true)(ab:Qpl P ty agg size=true)(H0 H:Qa)(k:Value->Qa->Prop)(A:Env):Rt P fn H0 k A H=ldR agg size (A a) H λv=>Ret H0 k v H:=QKQ aa q ab
def Qvm (agg:Bool)(size a ty r:Nat)(aa:fn.results=#[.cell a ty,.tmp r])(q:(Nat.blt a fn.ntmps&&Nat.blt r fn.ntmps)=true)(ab:Qpl P ty agg size=true)(H0 H:Qa)(k:Value->Qa->Prop)(A:Env):Rt P fn H0 k A H=ldR agg size (A a) H λv=>Ret H0 k (.tuple #[v,A r]) H:=QJV aa q ab
end
section
variable (pc:PC) {P:Program} {f:FuncId} {fn:Func}
def ko0 (q:P.funcs[f]? = some fn)(h:(fn.body.bind (comp P fn.ntmps),entered P f,Nat.ble 0 fn.ntmps)=(some pc,true,true)):In0 P f fn pc:=jn0 q h
def ko1 (q:P.funcs[f]? = some fn)(h:(fn.body.bind (comp P fn.ntmps),entered P f,Nat.ble 1 fn.ntmps)=(some pc,true,true)):In1 P f fn pc:=jn1 q h
def ko2 (q:P.funcs[f]? = some fn)(h:(fn.body.bind (comp P fn.ntmps),entered P f,Nat.ble 2 fn.ntmps)=(some pc,true,true)):In2 P f fn pc:=jn2 q h
def ko3 (q:P.funcs[f]? = some fn)(h:(fn.body.bind (comp P fn.ntmps),entered P f,Nat.ble 3 fn.ntmps)=(some pc,true,true)):In3 P f fn pc:=jn3 q h
def ko4 (q:P.funcs[f]? = some fn)(h:(fn.body.bind (comp P fn.ntmps),entered P f,Nat.ble 4 fn.ntmps)=(some pc,true,true)):In4 P f fn pc:=jn4 q h
def ko5 (q:P.funcs[f]? = some fn)(h:(fn.body.bind (comp P fn.ntmps),entered P f,Nat.ble 5 fn.ntmps)=(some pc,true,true)):In5 P f fn pc:=jn5 q h
end
end Go.Ab
namespace Go.Ab
open Go.RowKit
section
variable {P:Program} {ρ:Ren} {H:Qa} {w:World}
def Qg1 (H:Qa):Prop:=∀id b,H.get id=some b->b.ro=true
def Sim.addRo (ab:Sim P ρ H w)(am:Qg1 H){c:List Value}(e:TypeId){a:Addr}(aj:a.block<w.heap.size)(ah:∀ (j:Nat) v,c[j]? = some v->∃ac,w.cell? (a.add j)=some ac∧V ρ v ac):
  Sim P (ext ρ H.y ⟨a,0,0⟩) (H.push (.cells c e true)) w:=by
 have ak:=ab.none_next;have ae:=Qb9 ⟨a,0,0⟩ ak;refine⟨λid j h=>?_,λid bl j h h'=>?_,λan ay b1 b2 aw ax aa aq ar au ag av=>?_,λg ai=>?_⟩
 ·by_cases q:id=H.y;·subst q;simp
  rw[YJ ρ _ q]at h;have:=ab.dom _ _ h;simp;omega
 ·by_cases q:id=H.y;·subst q;rw[WI]at h';cases h';rw[Qc,Lc rfl]at h;cases h;exact⟨aj,λj v ad=>by obtain⟨ac,ao,ap⟩:=ah j v ad;exact⟨ac,ao,ap.mono ae⟩⟩
  rw[YJ ρ _ q]at h';rw[Qc,Le q]at h;exact(ab.live id bl j h h').mono ae rfl
 ·have:b1.ro=true:=by
   by_cases q:an=H.y;·subst q;rw[Qc,Lc rfl]at aa;cases aa;rfl
   rw[Qc,Le q]at aa;exact am _ _ aa
  rw[this]at ag;cases ag
 obtain⟨j,ad,q⟩:=ab.glob g ai;exact⟨j,ae _ _ ad,q⟩
def Sim.addDead (q:Sim P ρ H w)(ad:H.Wf)(a:Addr):Sim P (ext ρ H.y ⟨a,0,0⟩) (H.up (H.y+1)) w:=by
 have an:=q.none_next;have ah:=Qb9 ⟨a,0,0⟩ an;refine⟨λid j h=>?_,λid bl j h h'=>?_,λaq ar b1 b2 ao ap ab ac ae ag ai aj=>?_,λg ak=>?_⟩
 ·by_cases aa:id=H.y;·subst aa;simp
  rw[YJ ρ _ aa]at h;have:=q.dom _ _ h;simp;omega
 ·rw[XB]at h;have:=ad.lt h;rw[YJ ρ _ (by omega)]at h';exact(q.live id bl j h h').mono ah rfl
 ·rw[XB]at ab ac;have:=ad.lt ab;have:=ad.lt ac;rw[YJ ρ _ (by omega)]at ae ag;exact q.sep aq ar b1 b2 ao ap ab ac ae ag ai aj
 obtain⟨j,am,aa⟩:=q.glob g ak;exact⟨j,ah _ _ am,aa⟩
def Qg1.push (h:Qg1 H)(c:List Value)(e:TypeId):Qg1 (H.push (.cells c e true)):=λid b q=>by
 rw[Qc]at q;split at q;·cases q;rfl
 exact h id b q
def Qg1.up (h:Qg1 H)(m:Nat):Qg1 (H.up m):=λid b q=>h id b (by rw[XB]at q;exact q)
def V.sliceIn {id len cap:Nat}{a:Addr}(hi:ρ id=some ⟨a,0,0⟩)(aa:len<=cap)(q:cap<UNK):V ρ (.slice (some ⟨id,0,none⟩) len cap) (.slice (some a) len cap):=
 .slice id 0 len cap cap ⟨a,0,0⟩ a hi (.inl (by rw[show(⟨a,0,0⟩:Zv).at_=a from rfl];unfold Addr.add;rw[Lc rfl])) aa q (λh=>by omega) (λ_=>rfl)
def calls_of_callQ {f:FuncId}{args args':List Value}{X:Value->Qa->Prop}(h:Qe P f args H λu H'=>u=.bool true∧X u H')(ae:H.Wf)(ab:entered P f=true)(ad:Sim P ρ H w)(q:VL ρ args args')(ac:Qg1 H):
  Calls P f args'.toArray w λe w'=>e=.returned (.bool true)∧Below w.heap.size w w':=by
 obtain⟨v,H',aa,_,_,rfl,_⟩:=h ae;exact Qrr (aa.does ab) ad q rfl ac
def QAO {base:Nat}{a:Addr}{n:Nat}{cs:List Value}(h:w.cells? base a n=some cs):cs.length=n∧∀i,i<n->w.cell? (a.add i)=cs[i]? := by
 unfold World.cells? at h;split at h
 ·have q:=Qm5.mapM_length h;refine⟨by simpa using q,λi hi=>?_⟩;have key:∀ (l:List Nat) (cs:List Value),l.mapM (λi=>w.cell? (a.add i))=some cs->∀ (j:Nat) x,l[j]? = some x->w.cell? (a.add x)=cs[j]? := by
   intro l
   induction l with
   | nil=>intro cs h j x hx;simp at hx
   | cons y l ac=>
    intro cs h j x hx;simp only[Ra,BV,BY,Rx,Lt]at h;obtain⟨v,aa,ad,ab,rfl⟩:=h;cases j with
    | zero=>simp at hx;subst hx;simpa using aa
    | succ j=>simpa using ac ad ab j x (by simpa using hx)
  exact key _ _ h i i (by simp[hi])
 cases h
end
variable {P:Program}
variable {P:Program} {A:Env} {H:Qa} {k:Value->Qa->Prop}
def QCt {o:Op}{v:Value}{H':Qa}(e:rop P (.gen o) A H=some (v,H')):pr P (.gen o) false A H k=k v H':=by
 refine(We _).trans ?_;rw[e,Qs]
/-! ### Texts -/
section
variable {ty:TypeId} {x lo hi:Operand} {s:ByteArray} {l h:Nat} {ik ik':IntKind}
def Qza (P:Program)(src q:TypeId):Bool:=match P.underlying src,P.underlying q with
 | some (.slice e),some .string=>(match P.underlying e with | some (.int .u8)=>true | _=>false)
 | _,_=>false
def Qsm {src aa:TypeId}{n c:Nat}{a:Option Addr}{ab:List Value}{bs:List UInt8}(q:Qza P src aa=true)(hx:ev A x=.slice a n c)(ad:XA 1 (.slice a n c) H=some ab)(ac:Kx ab=some bs):
  pr P (.gen (.convert src aa x)) false A H k=k (.string (mkS bs)) H:=by
 unfold Qza at q;split at q
 ·rename_i e ah ae;split at q;·rename_i ag;exact QCt (by simp only[rop,aop,Qdh,ah,ae,hx,ag,ad,ac])
  cases q
 cases q
end
/-! ### Arrays in memory -/
/-! ### Nil, and places held against each other -/
/-! ### Numbers -/
/-! ### Pointers without a type -/
/-! ### Entries of the model -/
/-! ### Cells -/
end Go.Ab
