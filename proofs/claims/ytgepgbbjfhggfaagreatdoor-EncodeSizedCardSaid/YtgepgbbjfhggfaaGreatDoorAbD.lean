/- Code made of resolved operations, and what it does, as a proposition. -/
import Derived.Test.YtgepgbbjfhggfaaGreatDoorAbC
import Derived.Test.YtgepgbbjfhggfaaGreatDoorAbB
set_option linter.unusedVariables false
set_option linter.unusedSimpArgs false
noncomputable section
namespace Go.Ab
structure PO where
 d:Option Nat
 r:R
 g:Option (Nat×Bool)
 s:Bool
inductive PC where
 | skip
 | ops (l:List PO)
 | seq (a b:PC)
 | cond (c:Operand) (a b:PC)
 | block (id:Nat) (b:PC)
 | loop (b:PC)
 | exit (id:Nat)
 | ret
 | label (l:Nat)
 | goto (l:Nat)
 | scope (b:PC) (l:Nat) (r:PC)
 | rangeF (g:Operand) (ps:List Nat) (a b:PC)
 | bad
/-! ### Resolving code -/
def Qr7 (o:Oper):Bool:=match o.op with | .load .. => true | _=>false
def Qvr (o:Oper):Bool:=match o.op with | .alloc .. | .box .. | .makeSlice .. | .buildSlice .. | .convert .. | .makeMap .. | .range .. => true | _=>false
def Qls (o:Oper):Bool:=match o.op with | .call ⟨.value _,_,_⟩=>true | _=>false
def Qy4 (o:Oper):Bool:=match o.op with | .call ⟨.builtin .append,_,_⟩=>true | _=>false
def QBR (o:Oper):Bool:=Qls o||Qy4 o
def Qpu (ops:Array Oper)(i:Nat):Bool:=match ops[i]? with | some o=>Qr7 o | none=>false
def QhW (ops:Array Oper)(i:Nat):Bool:=match ops[i]? with | some o=>Qvr o | none=>false
def Qdt (ops:Array Oper)(i:Nat):Bool:=match ops[i]? with | some o=>QBR o | none=>false
def XI (ops:Array Oper)(ms:List Nat)(k:Nat):Bool:=
 (Yk ops k&&(List.range ops.size).any λi=>(Qpu ops i&&!(QM ms i k)&&!(QM ms k i))||(QhW ops i&&Nat.blt i k&&!(QM ms i k))) ||
 (Qpu ops k&&(List.range ops.size).any λi=>Yk ops i&&!(QM ms i k)&&!(QM ms k i))
def Qy5 (o:Oper):Bool:=match o.op with | .store .. => true | _=>false
def Qy6 (ops:Array Oper)(i:Nat):Bool:=match ops[i]? with | some o=>Qy5 o | none=>false
def QgE (ms:List Nat)(i k:Nat):Bool:=!(QM ms i k)&&!(QM ms k i)
def QqA (ops:Array Oper)(i:Nat):Option Nat:=match ops[i]? with | some o=>(match o.op with | .load _ (.tmp t)=>some t | _=>none) | none=>none
def Qr8 (ops:Array Oper)(ms:List Nat)(k:Nat):List Operand:=(List.range k).filterMap λi=>bif Qpu ops i&&QgE ms i k then(QqA ops i).map .tmp else none
def QG9:List String:=["(*linotype/print.text).next"]
def isG (P:Program)(o:Oper):Bool:=match o.op with
 | .call ⟨.value (.func f),_,_⟩=>(match P.funcs[f]? with | some fn=>QG9.any λn=>fn.name==n | none=>false)
 | _=>false
def gAt (P:Program)(ops:Array Oper)(i:Nat):Bool:=match ops[i]? with | some o=>isG P o | none=>false
def QHa (P:Program)(ops:Array Oper)(ms:List Nat)(i k:Nat):Bool:=
 Nat.blt i k&&(QqA ops i).isSome&&(List.range k).all λj=>Nat.blt j i||((match ops[j]? with | some o=>!(o.dst==QqA ops i) | none=>true)&&(!(Yk ops j)||(Qdt ops j&&XI ops ms j&&!(gAt P ops j))||(Qy6 ops j&&XI ops ms j&&QgE ms i j)))
def Ql5 (o:Oper):Bool:=match o.op with | .call ⟨.value (.func _),_,_⟩=>true | .call ⟨.builtin .append,_,_⟩=>true | _=>false
def QGK (ops:Array Oper)(i:Nat):Bool:=match ops[i]? with | some o=>Ql5 o | none=>false
def Qr9 (o:Oper):Option Nat:=match o.op with
 | .fieldAddr _ (.tmp b) _=>some b
 | .indexAddr _ (.tmp b) _=>some b
 | .move (.tmp b)=>some b
 | .assign (.tmp b)=>some b
 | .nilCheck (.tmp b)=>some b
 | _=>none
def Qw8 (o:Oper)(q:Nat):Option Nat:=bif o.dst==some q then Qr9 o else some q
def QaD (ops:Array Oper)(k:Nat):Nat->Nat->Option Nat
 | 0,cur=>some cur
 | d+1,cur=>match ops[k+d]? with
  | some o=>(match Qw8 o cur with | some c=>QaD ops k d c | none=>none)
  | none=>none
def Qpv (ops:Array Oper)(k i:Nat):Option Nat:=match QqA ops i with
 | none=>none
 | some t=>QaD ops k (i - k) t
def Qdu (ops:Array Oper)(ms:List Nat)(k:Nat):List Operand:=(List.range ops.size).filterMap λi=>bif Nat.blt k i&&(Qpu ops i&&QgE ms i k) then(Qpv ops k i).map .tmp else none
def quiet (P:Program)(ops:Array Oper)(ms:List Nat)(i k:Nat):Bool:=
 (Nat.blt i k&&(List.range k).all λj=>Nat.ble j i||(!(Yk ops j)||(XI ops ms j&&Qdt ops j&&!(gAt P ops j)))) ||
 (Nat.blt k i&&QGK ops k&&(Qpv ops k i).isSome&&(List.range i).all λj=>Nat.blt j k||(!(Yk ops j)||(XI ops ms j&&Qdt ops j&&(!(gAt P ops j)||QgE ms i j))))
def QAO (P:Program)(ops:Array Oper)(ms:List Nat):Bool:=
 (List.range ops.size).all λk=>!(Yk ops k)||!(XI ops ms k)||(Qdt ops k&&((List.range ops.size).all λi=>!(Qpu ops i)||QM ms i k||QM ms k i||quiet P ops ms i k)&&(!(gAt P ops k)||(List.range ops.size).all λi=>(!(Qpu ops i)||QM ms i k||QM ms k i||Nat.blt k i)&&(!(QhW ops i)||!(Nat.blt i k)||QM ms i k))) ||
  (Qy6 ops k&&(List.range ops.size).all λi=>(!(Qpu ops i)||QM ms i k||QM ms k i||QHa P ops ms i k)&&(!(QhW ops i)||!(Nat.blt i k)||QM ms i k))
def Qeo (P:Program)(ops:Array Oper)(i:Nat)(o:Oper):R:=
 match o.op with
 | .store t x y=>match P.info? t with | some q=>.stf q.size x y (Qr8 ops (QX ops.toList []) i) | none=>Wo P o.op
 | .call ⟨.value (.func f),args,_⟩=>bif isG P o then .callG f args.toList (Qdu ops (QX ops.toList []) i) else .callF f args.toList (Qdu ops (QX ops.toList []) i)
 | .call ⟨.builtin .append,_,_⟩=>(match Wo P o.op with | .app e size bytes x y=>.appF e size bytes x y (Qdu ops (QX ops.toList []) i) | _=>.callG 0 [] [.const (.bool false)])
 | _=>Wo P o.op
def Qj7 (P:Program)(ops:Array Oper)(f:Bool)(i:Nat)(o:Oper):R:=bif f then Qeo P ops i o else Wo P o.op
def Qy7 (n:Nat)(ops:Array Oper)(o:Oper):Option (Option (Nat×Bool)):=
 match o.guard with
 | none=>some none
 | some (j,want)=>match Qcu ops j with
  | some t=>if t<n then some (some (t,want)) else none
  | none=>none
def QcU (P:Program)(n:Nat)(ops:Array Oper)(fl:Nat->Bool):List Oper->Nat->Option (List PO)
 | [],_=>some []
 | o::l,i=>if Qjo P n o then
   match Qy7 n ops o,QcU P n ops fl l (i+1) with
   | some g,some pl=>some (⟨o.dst,Qj7 P ops (fl i) i o,g,fl i⟩::pl)
   | _,_=>none
  else none
def Qvs (P:Program)(op:Op):Bool:=match op with
 | .convert src _ _=>(match P.underlying src with | some (.slice _) | some (.pointer _) | some .unsafePointer=>true | _=>false)
 | .range t _=>(match P.underlying t with | some (.map _ _)=>true | _=>false)
 | _=>false
def J0:Nat:=1000000
def sq:PC->PC->PC
 | .skip,y=>y
 | x,.skip=>x
 | x,y=>.seq x y
def V4:PC->Nat->Option PC
 | .seq a b,l=>match V4 a l with
  | some r=>some (sq r b)
  | none=>V4 b l
 | .label l',l=>bif Nat.beq l' l then some .skip else none
 | _,_=>none
def QaE:PC->List Nat
 | .seq a b=>QaE a++QaE b
 | .label l=>[l]
 | _=>[]
def QrG (b:PC):PC:=
 match QaE b with
 | []=>b
 | [l]=>match V4 b l with
  | some r=>.scope b l r
  | none=>.bad
 | _=>.bad
def comp (P:Program)(n:Nat):Code->Option PC
 | .skip=>some .skip
 | .label l=>some (.label l)
 | .ret=>some .ret
 | .exit id=>some (bif Nat.blt id J0 then .exit id else .bad)
 | .goto l=>some (.goto l)
 | .region _ ops false=>some (match QcU P n ops (λ_=>false) ops.toList 0 with | some l=>.ops l | none=>.bad)
 | .region _ ops true=>some (if P.follows .mixedOrders&&Qf9 ops (Yk ops)&&QAO P ops (QX ops.toList [])&&ops.all (λo=>!(Qvs P o.op)) then(match QcU P n ops (XI ops (QX ops.toList [])) ops.toList 0 with | some l=>.ops l | none=>.bad) else .bad)
 | .seq a b=>match comp P n a,comp P n b with
  | some x,some y=>some (sq x y)
  | _,_=>none
 | .cond c a b=>if Qff P n c then(match comp P n a,comp P n b with | some x,some y=>some (.cond c x y) | _,_=>none) else none
 | .block id b=>(comp P n b).map λx=>bif Nat.blt id J0 then .block id x else .bad
 | .loop b=>(comp P n b).map .loop
 | .scope b=>(comp P n b).map QrG
 | .rangeFunc g q a b=>if Qff P n g then(match comp P n a,comp P n b with | some x,some y=>some (.rangeF g q.toList x y) | _,_=>none) else none
 | _=>some .bad
/-! ### What it does -/
structure Kp where
 ret:Env->Qa->Prop
 ext:Nat->Env->Qa->Prop
def onS (o:Option (Value×Qa))(k:Value->Qa->Prop):Prop:=∃v H',o=some (v,H')∧k v H'
def Qa.Wf (H:Qa):Prop:=∀id,H.next<=id->H.get id=none
theorem Qa.Wf.lt {H:Qa}(h:H.Wf){id:Nat}{b:Blk}(aa:H.get id=some b):id<H.next:=by
 rcases Nq id H.next with q | q
 ·exact q
 ·rw[h id q]at aa;cases aa
theorem Qa.Wf.push {H:Qa}(h:H.Wf)(b:Blk):(H.push b).Wf:=λid q=>by
 simp only[Qd]at q;rw[Qc,Le (by omega)];exact h id (by omega)
theorem Qa.Wf.set {H:Qa}(h:H.Wf){i:Nat}{b0:Blk}(aa:H.get i=some b0)(b:Blk):(H.set i b).Wf:=λid q=>by
 have:=h.lt aa;simp only[Qv]at q;rw[Qn,Le (by omega)];exact h id q
theorem Qa.Wf.kill {H:Qa}(h:H.Wf)(i:Nat):(H.kill i).Wf:=λid q=>by
 simp only[Qdr]at q;rw[WV];split
 ·rfl
 ·exact h id q
def Qe (P:Program)(f:FuncId)(args:List Value)(H:Qa)(k:Value->Qa->Prop):Prop:=H.Wf->∃v H',GR P f args H v H'∧H.next<=H'.next∧H'.Wf∧k v H'
def YQ (P:Program)(l:Nat)(args:List Value)(H:Qa)(k:Value->Qa->Prop):Prop:=H.Wf->∃v H',Quv P l args H v H'∧H.next<=H'.next∧H'.Wf∧k v H'
def QmI:Value->Value->Prop
 | .pointer (some a),.pointer (some b)=>b.block≠a.block
 | _,_=>True
def Qpw (n:Nat):Value->Prop
 | .pointer (some a)=>a.block<n
 | .slice (some a) _ _=>a.block<n
 | _=>False
def QIG (H H':Qa):Value->Prop
 | .pointer (some a)=>H'.get a.block=H.get a.block
 | .slice (some a) _ _=>H'.get a.block=H.get a.block
 | _=>True
def EqB (H H':Qa):Prop:=∀id,id<H.next->H'.get id=H.get id
def pr (P:Program)(r:R)(s:Bool)(A:Env)(H:Qa)(k:Value->Qa->Prop):Prop:=
 match r with
 | .call f args=>Qe P f (args.map (ev A)) H λv H'=>(s=true->∀id,H'.get id=H.get id)∧k v H'
 | .callv c args=>match ev A c with
  | .func (.func f) xs ys=>Qe P f (xs.toList++args.map (ev A)++ys.toList) H λv H'=>(s=true->∀id,H'.get id=H.get id)∧k v H'
  | .func (.yield l) ⟨[]⟩ ⟨[]⟩=>YQ P l (args.map (ev A)) H λv H'=>(s=true->∀id,H'.get id=H.get id)∧k v H'
  | _=>False
 | .callF f args os=>(∀z∈os,Qpw H.next (ev A z))∧Qe P f (args.map (ev A)) H λv H'=>EqB H H'∧k v H'
 | .callG f args os=>(∀z∈os,Qpw H.next (ev A z))∧Qe P f (args.map (ev A)) H λv H'=>(∀z∈os,QIG H H' (ev A z))∧k v H'
 | .appF e size bytes x y os=>(∀z∈os,Qpw H.next (ev A z))∧onS (rop P (.app e size bytes x y) A H) λv H'=>EqB H H'∧k v H'
 | .stf size x y os=>onS (rop P (.stf size x y os) A H) λv H'=>(∀z∈os,QmI (ev A x) (ev A z))∧k v H'
 | r=>onS (rop P r A H) λv H'=>(s=true->Qi H.next 6 v=true)∧k v H'
def pg (g:Option (Nat×Bool))(A:Env)(aa q:Prop):Prop:=
 match g with
 | none=>aa
 | some (t,w)=>match A t with
  | .bool b=>if b=w then aa else q
  | .tuple _=>q
  | _=>False
def Qdv (P:Program):List PO->(Env->Qa->Prop)->Env->Qa->Prop
 | [],k,A,H=>k A H
 | o::l,k,A,H=>pg o.g A (pr P o.r o.s A H λv H'=>Qdv P l k (GG A o.d v) H') (Qdv P l k (GG A o.d undef) H)
def jmK (l:Nat)(I:Nat->Env->Qa->Prop)(m:Nat)(e:Nat->Env->Qa->Prop)(j:Nat)(A:Env)(H:Qa):Prop:=if j=J0+l then ∃q,q<m∧I q A H else e j A H
def QC9 (st:Option Code)(ks:Kp)(k:Env->Qa->Prop)(A:Env)(H:Qa):Prop:=match st with
 | none=>k A H
 | some .ret=>ks.ret A H
 | some (.exit j)=>Nat.blt j J0=true∧ks.ext j A H
 | _=>False
def QIH (L:Option Code->Blk)(l:Nat)(q:Nat)(Q:Value->Qa->Prop):Kp:=⟨λ_ H2=>q<=H2.next∧Q (.bool false) (H2.set l (L (some .ret))),λj _ H2=>Nat.blt j J0=true∧q<=H2.next∧Q (.bool false) (H2.set l (L (some (.exit j))))⟩
def QHb (L:Option Code->Blk)(l:Nat)(q:Nat)(Q:Value->Qa->Prop):Env->Qa->Prop:=λ_ H2=>q<=H2.next∧Q (.bool true) (H2.set l (L none))
def QAP:Kp:=⟨λ_ _=>False,λ_ _ _=>False⟩
def Qm (P:Program):PC->Kp->(Env->Qa->Prop)->Env->Qa->Prop
 | .skip,_,k,A,H=>k A H
 | .ops l,_,k,A,H=>Qdv P l k A H
 | .seq a b,ks,k,A,H=>Qm P a ks (Qm P b ks k) A H
 | .cond c a b,ks,k,A,H=>match ev A c with
  | .bool t=>(t=true->Qm P a ks k A H)∧(t=false->Qm P b ks k A H)
  | _=>False
 | .block id b,ks,k,A,H=>Qm P b ⟨ks.ret,λj=>if j=id then k else ks.ext j⟩ k A H
 | .loop b,ks,k,A,H=>∃I:Nat->Env->Qa->Prop,(∃m,I m A H)∧∀m A' H',I m A' H'->Qm P b ks (λA'' H''=>∃q,q<m∧I q A'' H'') A' H'
 | .exit id,ks,_,A,H=>ks.ext id A H
 | .ret,ks,_,A,H=>ks.ret A H
 | .label _,_,k,A,H=>k A H
 | .goto l,ks,_,A,H=>ks.ext (J0+l) A H
 | .scope b l r,ks,k,A,H=>∃I:Nat->Env->Qa->Prop,(∃m,Qm P b ⟨ks.ret,jmK l I m ks.ext⟩ k A H)∧∀m A' H',I m A' H'->Qm P r ⟨ks.ret,jmK l I m ks.ext⟩ k A' H'
 | .rangeF g ps a b,ks,k,A,H=>match ev A g with
  | .func (.func f) xs ys=>∀L:Option Code->Blk,
    (∀ (l:Nat) (args:List Value) (H0:Qa) (Q:Value->Qa->Prop),H0.get l=some (L none)->args.length=ps.length->Qm P a QAP (λA1 H1=>Qm P b (QIH L l H0.next Q) (QHb L l H0.next Q) A1 H1) (Qqq A ps args) (H0.kill l)->YQ P l args H0 Q)->
    entered P f=true∧Qe P f (xs.toList++[.func (.yield H.next) #[] #[]]++ys.toList) (H.push (L none)) λ_ H2=>∃st,H2.get H.next=some (L st)∧QC9 st ks k A (H2.kill H.next)
  | _=>False
 | .bad,_,_,_,_=>False
/-! ### Soundness -/
section
variable {P:Program} {n:Nat}
theorem QBS:QhU P GI:=⟨λf args H v H' h=>(by cases h),λf args H v H' h=>(by cases h)⟩
theorem QBT {H H':Qa}{r:Option Value}{c:Cls}{v:Value}(h:Jk H r=some (c,v,H')):c=.pure∧H'=H:=by
 obtain⟨_,q,aa⟩:=ZT h;exact⟨q,aa⟩
theorem Zy {α:Type}{b:Bool}{x:Option α}{y:α}(h:(bif b then x else none)=some y):x=some y:=by cases b<;>simp_all
theorem QnP {e:TypeId}{aa:TypeInfo}{s x:Value}{H H':Qa}{v:Value}(h:Qlq e aa s x H=some (v,H')):H.next<=H'.next∧(H.Wf->H'.Wf):=by
  unfold Qlq at h
  repeat' (split at h)
  all_goals first
    | (cases h;done)
    | (simp only[Lt,LB]at h;obtain⟨_,rfl⟩:=h;refine⟨by simp,λq=>?_⟩
       first
         | exact q
         | exact q.push _
         | exact(q.kill _).push _
         | exact q.set (by assumption) _)
theorem Qlt {k:TypeId}{m ab v:Value}{H H':Qa}(h:Qw5 P k m ab v H=some H'):H.next<=H'.next∧(H.Wf->H'.Wf):=by
 unfold Qw5 at h;split at h
 ·split at h
  ·rename_i aa;have h:=Zy h;split at h
   ·cases h;exact⟨by simp,λq=>q.set aa _⟩
   ·cases h;exact⟨by simp,λq=>q.set aa _⟩
   ·cases h
  ·cases h
 ·cases h
structure Syn (P:Program) (o:Oper) (H H':Qa) (c:Cls):Prop where
 gen:Zj c=true->QES o=true∨Qvs P o.op=true
 load:c=.load->Qr7 o=true
 alloc:∀b,c=.alloc b->Qvr o=true
 next:H.next<=H'.next
 wf:H.Wf->H'.Wf
theorem QEV {o:Oper}{A:Env}{H H':Qa}{c:Cls}{v:Value}(h:aop P GI o A H=some (c,v,H')):Syn P o H H' c:=by
  obtain⟨ah,op,ty,pos,af,g⟩:=o;have aa:∀ {u:Value},some (Cls.pure,u,H)=some (c,v,H')->Syn P ⟨ah,op,ty,pos,af,g⟩ H H' c:=λh=>by
    simp only[Lt,LB]at h;obtain⟨rfl,_,rfl⟩:=h;exact⟨λh=>(by cases h),λh=>(by cases h),λb h=>(by cases h),Lb _,id⟩
  have ac:∀ {r:Option Value},Jk H r=some (c,v,H')->Syn P ⟨ah,op,ty,pos,af,g⟩ H H' c:=λ{r} h=>by
    obtain⟨rfl,rfl⟩:=QBT h;exact⟨λh=>(by cases h),λh=>(by cases h),λb h=>(by cases h),Lb _,id⟩
  have ad:∀ {b:Blk} {u:Value},Qvr ⟨ah,op,ty,pos,af,g⟩=true->some (Cls.alloc b,u,H.push b)=some (c,v,H')->Syn P ⟨ah,op,ty,pos,af,g⟩ H H' c:=λak h=>by
    simp only[Lt,LB]at h;obtain⟨rfl,_,rfl⟩:=h;exact⟨λh=>(by cases h),λh=>(by cases h),λb _=>ak,by simp,λab=>ab.push _⟩
  unfold aop at h;split at h
  case h_1 hop=>exact aa h
  case h_2 hop=>exact aa h
  case h_3 hop=>
    unfold Qvn at h;split at h
    · exact aa h
    · cases h
  case h_4 hop=>exact aa (Zy h)
  case h_5 hop=>exact ac h
  case h_6 hop=>exact ac h
  case h_7 hop=>
    unfold QgB at h;simp only at hop;split at h
    · split at h
      · split at h
        · exact ad (by subst hop;rfl) (Zy h)
        · cases h
      · cases h
    · rename_i al an am
      split at h
      · split at h
        · simp only[Lt,LB]at h;obtain⟨rfl,_,rfl⟩:=h
          exact⟨λ_=>.inr (by subst hop;simp only[Qvs,al]),λh=>(by cases h),λb h=>(by cases h),Lb _,id⟩
        · cases h
      · cases h
    · exact ac h
  case h_8 hop=>
    unfold VM at h;split at h
    · cases h
    · exact aa h
    · cases h
  case h_9 hop=>exact aa (Zy h)
  case h_10 hop=>
    unfold QrA at h
    repeat' (split at h)
    all_goals first | exact ac h | cases h
  case h_11 hop=>
    unfold V2 at h
    repeat' (split at h)
    all_goals first
      | (cases h;done)
      | (revert h;cases ao:Nat.beq _ 0<;>intro h<;>first | exact aa h | cases h)
  case h_12 hop=>
    unfold V3 at h
    repeat' (split at h)
    all_goals first | exact aa h | cases h
  case h_13 hop=>
    unfold QrB at h
    repeat' (split at h)
    all_goals first | exact aa h | exact ac h | cases h
  case h_14 hop=>
    unfold Qlr at h;split at h
    · exact ac h
    · cases h
  case h_15 hop=>
    unfold QrC at h
    repeat' (split at h)
    all_goals first | (cases h;done) | exact ac (Zy h)
  case h_16 hop=>
    simp only at hop;unfold Qd4 at h;split at h
    · split at h
      · split at h
        · have h:=Zy h
          split at h
          · exact ad (by subst hop;rfl) h
          · cases h
        · cases h
      · cases h
    · cases h
  case h_17 hop=>
    simp only at hop;unfold QrD at h;split at h
    · split at h
      · exact ad (by subst hop;rfl) (Zy h)
      · cases h
    · cases h
  case h_18 hop=>simp only at hop;unfold QC7 at h;exact ad (by subst hop;rfl) h
  case h_19 hop=>
    simp only at hop;unfold Qfl at h
    repeat' (split at h)
    all_goals first | (cases h;done) | exact ad (by subst hop;rfl) h
  case h_20 hop=>
    unfold QnJ at h
    repeat' (split at h)
    all_goals first | exact aa h | exact ac h | cases h
  case h_21 hop=>
    simp only at hop;unfold Qr5 at h
    repeat' (split at h)
    all_goals first
      | (cases h;done)
      | (simp only[Lt,LB]at h
         obtain⟨rfl,_,rfl⟩:=h;exact⟨λh=>(by cases h),λ_=>(by subst hop;rfl),λb h=>(by cases h),Lb _,id⟩)
  case h_22 hop=>
    simp only at hop;unfold QnK at h;split at h
    · split at h
      · rename_i H1 ae
        simp only[Lt,LB]at h;obtain⟨rfl,_,rfl⟩:=h;have aj:H.next<=H1.next∧(H.Wf->H1.Wf):=by
          unfold QmA at ae;split at ae
          · rename_i ai
            split at ae
            · cases ae;exact⟨by simp,λab=>ab.set ai _⟩
            · cases ae
          · cases ae
        exact⟨λ_=>.inl (by subst hop;rfl),λh=>(by cases h),λb h=>(by cases h),aj.1,aj.2⟩
      · cases h
    · cases h
  case h_23 cl hop=>
    simp only at hop;unfold QhT at h;split at h
    · split at h
      · split at h
        · exact aa h
        · cases h
      · split at h
        · exact aa (Zy h)
        · cases h
      · split at h
        · split at h
          · exact aa h
          · cases h
        · cases h
      · split at h
        · split at h
          · exact aa h
          · cases h
        · cases h
      · split at h
        · split at h
          · split at h
            · have h:=Zy h
              simp only[Lx,LB]at h;obtain⟨⟨u,H1⟩,q,rfl,rfl,rfl⟩:=h;exact⟨λ_=>.inl (by subst hop;rfl),λh=>(by cases h),λb h=>(by cases h),(QnP q).1,(QnP q).2⟩
            · cases h
          · cases h
        · cases h
      · split at h
        · split at h
          · simp only[Lx,LB]at h
            obtain⟨⟨u,H1⟩,q,rfl,rfl,rfl⟩:=h;have ag:H.next<=H1.next∧(H.Wf->H1.Wf):=by
              unfold Qqt at q
              repeat' (split at q)
              all_goals first
                | (cases q;done)
                | (simp only[Lt,LB]at q;obtain⟨_,rfl⟩:=q;exact⟨by simp,λab=>by first | exact ab | exact ab.set (by assumption) _⟩)
            exact⟨λ_=>.inl (by subst hop;rfl),λh=>(by cases h),λb h=>(by cases h),ag.1,ag.2⟩
          · cases h
        · cases h
      · cases h
    · split at h
      · split at h
        · simp[GI]at h
        · cases h
      · cases h
    · simp[GI]at h
    · split at h
      · simp[GI]at h
      · have h:=Zy h;simp[GI]at h
      · cases h
  case h_24 hop=>simp only at hop;exact ad (by subst hop;rfl) h
  case h_25 hop=>
    simp only at hop;unfold QnL at h;split at h
    · simp only[Lx,LB]at h
      obtain⟨u,q,rfl,rfl,rfl⟩:=h;exact⟨λ_=>.inl (by subst hop;rfl),λh=>(by cases h),λb h=>(by cases h),Lb _,id⟩
    · cases h
  case h_26 hop=>
    simp only at hop;unfold Qr6 at h;split at h
    · simp only[Lx,LB]at h
      obtain⟨H1,q,rfl,rfl,rfl⟩:=h;exact⟨λ_=>.inl (by subst hop;rfl),λh=>(by cases h),λb h=>(by cases h),(Qlt q).1,(Qlt q).2⟩
    · cases h
  case h_27 hop=>
    simp only at hop;unfold Qr6 at h;split at h
    · simp only[Lx,LB]at h
      obtain⟨H1,q,rfl,rfl,rfl⟩:=h;exact⟨λ_=>.inl (by subst hop;rfl),λh=>(by cases h),λb h=>(by cases h),(Qlt q).1,(Qlt q).2⟩
    · cases h
  case h_28 hop=>
    simp only at hop;unfold Qvp at h;split at h
    · exact ad (by subst hop;rfl) h
    · cases h
  case h_29 hop=>
    simp only at hop;simp only[Lx,LB]at h;obtain⟨⟨u,H1⟩,q,rfl,rfl,rfl⟩:=h;have ag:H.next<=H1.next∧(H.Wf->H1.Wf):=by
      unfold QAL at q;split at q
      · have q:=Zy q
        split at q
        · rename_i ai
          split at q
          · simp only[Lt,LB]at q;obtain⟨_,rfl⟩:=q;exact⟨by simp,λab=>ab.set ai _⟩
          · simp only[Lt,LB]at q;obtain⟨_,rfl⟩:=q;exact⟨by simp,λab=>ab⟩
        · cases q
      · cases q
    exact⟨λ_=>.inl (by subst hop;rfl),λh=>(by cases h),λb h=>(by cases h),ag.1,ag.2⟩
  case h_30=>cases h
end
section
variable {P:Program} {n:Nat}
theorem QuC {ops:Array Oper}{o:Oper}{g:Option (Nat×Bool)}{A:Env}{ac aa:Prop}(q:Qy7 n ops o=some g)(h:pg g A ac aa):
  (ZF n ops A o=some true∧ac)∨(ZF n ops A o=some false∧aa):=by
 unfold Qy7 at q;unfold ZF;split at q
 ·rename_i ab;cases q;exact .inl ⟨by rw[ab],h⟩
 ·rename_i j ag ab;rw[ab];split at q
  ·rename_i t ae;split at q
   ·rename_i ad;cases q;have h':(match A t with | .bool b=>if b=ag then ac else aa | .tuple _=>aa | _=>False):=h;simp only[ae,ad,N3];split at h'
    ·rename_i b hb;split at h'
     ·rename_i e;exact .inl ⟨by simp[hb,e],h'⟩
     ·rename_i e;exact .inr ⟨by simp[hb,e],h'⟩
    ·rename_i hb;exact .inr ⟨by simp[hb],h'⟩
    ·exact h'.elim
   ·cases q
  ·cases q
theorem Qvw {op:Op}{f:FuncId}{args:List Operand}(h:Wo P op=.call f args):∃a q,op=.call ⟨.value (.func f),a,q⟩∧args=a.toList:=by
 unfold Wo at h
 repeat' (split at h)
 all_goals first
  | (cases h;done)
  | (cases h;exact⟨_,_,rfl,rfl⟩)
theorem QtC {op:Op}{c:Operand}{args:List Operand}(h:Wo P op=.callv c args):∃a q,op=.call ⟨.value c,a,q⟩∧args=a.toList:=by
 unfold Wo at h
 repeat' (split at h)
 all_goals first
  | (cases h;done)
  | (cases h;exact⟨_,_,rfl,rfl⟩)
theorem Qxb {op:Op}{size:Nat}{x y:Operand}{os:List Operand}(h:Wo P op=.stf size x y os):False:=by
 unfold Wo at h
 repeat' (split at h)
 all_goals cases h
theorem QtD {op:Op}{f:FuncId}{args os:List Operand}(h:Wo P op=.callF f args os):False:=by
 unfold Wo at h
 repeat' (split at h)
 all_goals cases h
theorem QtE {op:Op}{f:FuncId}{args os:List Operand}(h:Wo P op=.callG f args os):False:=by
 unfold Wo at h
 repeat' (split at h)
 all_goals cases h
theorem Qvx {op:Op}{e size bytes:Nat}{x y:Operand}{os:List Operand}(h:Wo P op=.appF e size bytes x y os):False:=by
 unfold Wo at h
 repeat' (split at h)
 all_goals cases h
def InB (v:Value)(b:Nat):Prop:=(∃a:Addr,v=.pointer (some a)∧a.block=b)∨∃ (a:Addr) (n c:Nat),v=.slice (some a) n c∧a.block=b
theorem InB.uniq {v:Value}{b b':Nat}(h:InB v b)(h':InB v b'):b=b':=by
 rcases h with⟨a,rfl,rfl⟩ | ⟨a,n,c,rfl,rfl⟩<;>rcases h' with⟨q,e,rfl⟩ | ⟨q,aa,c',e,rfl⟩<;>cases e<;>rfl
def FA (o:Oper)(A:Env)(v:Value):Prop:=∀b,Qr9 o=some b->∀n,InB v n->InB (A b) n
theorem FA.none {o:Oper}{A:Env}{v:Value}(h:Qr9 o=none):FA o A v:=λb h'=>by rw[h]at h';cases h'
theorem QHh {o:Oper}{A:Env}{H H':Qa}{c:Cls}{v:Value}(h:aop P GI o A H=some (c,v,H')):FA o A v:=by
 obtain⟨ak,op,ty,pos,af,g⟩:=o;intro b ab n ac;unfold Qr9 at ab;split at ab
 ·rename_i t b' f q;simp only at q;subst q;cases ab;have h:V2 P GI A H t (.tmp b) f=some (c,v,H'):=h;unfold V2 at h;split at h
  ·rename_i al a _ aa;split at h
   ·split at h
    ·rename_i ai _;cases ag:Nat.beq ai.size 0 with
     | true=>rw[ag]at h;cases h
     | false=>
      rw[ag]at h;simp only[Ls,Lt,LB]at h;have aa:A b=.pointer (some a):=aa;obtain⟨_,rfl,_⟩:=h;rcases ac with⟨ad,e,rfl⟩ | ⟨ad,ah,c',e,rfl⟩
      ·cases e;exact .inl ⟨a,aa,rfl⟩
      ·cases e
    ·cases h
   ·cases h
  ·cases h
 ·rename_i t b' aj q;simp only at q;subst q;cases ab;have h:V3 P GI A H t (.tmp b) aj=some (c,v,H'):=h;unfold V3 at h;split at h
  ·split at h
   ·rename_i e a len cap _ aa;have aa:A b=.slice (some a) len cap:=aa;split at h
    ·split at h
     ·simp only[Lt,LB]at h;obtain⟨_,rfl,_⟩:=h;rcases ac with⟨ad,e,rfl⟩ | ⟨ad,ah,c',e,rfl⟩
      ·cases e;exact .inr ⟨a,_,_,aa,rfl⟩
      ·cases e
     ·cases h
    ·cases h
   ·rename_i len e a _ aa;have aa:A b=.pointer (some a):=aa;split at h
    ·split at h
     ·simp only[Lt,LB]at h;obtain⟨_,rfl,_⟩:=h;rcases ac with⟨ad,e,rfl⟩ | ⟨ad,ah,c',e,rfl⟩
      ·cases e;exact .inl ⟨a,aa,rfl⟩
      ·cases e
     ·cases h
    ·cases h
   ·cases h
  ·cases h
 ·rename_i b' q;simp only at q;subst q;cases ab;have h:some (Cls.pure,ev A (.tmp b),H)=some (c,v,H'):=h;cases h;exact ac
 ·rename_i b' q;simp only at q;subst q;cases ab;have h:some (Cls.pure,ev A (.tmp b),H)=some (c,v,H'):=h;cases h;exact ac
 ·rename_i b' q;simp only at q;subst q;cases ab;have h:Qen P GI A H (.tmp b)=some (c,v,H'):=h;unfold Qen at h;cases ae:QhL (ev A (.tmp b)) with
  | false=>rw[ae]at h;cases h
  | true=>
   rw[ae]at h;cases h;exact ac
 ·cases ab
theorem QrH {o:Oper}{s:Bool}{A:Env}{H:Qa}{k:Value->Qa->Prop}(al:H.Wf)(h:pr P (Wo P o.op) s A H k):
  ∃c v H',Qqu P o A H v H' c∧Syn P o H H' c∧(s=true->Qls o=true->∀id,H'.get id=H.get id)∧(s=true->Qr7 o=true->Qi H.next 6 v=true)∧FA o A v∧k v H':=by
 obtain⟨ae,op,ty,pos,af,g⟩:=o;have other:onS (rop P (Wo P op) A H) (λv H'=>(s=true->Qi H.next 6 v=true)∧k v H')->
   ∃c v H',Qqu P ⟨ae,op,ty,pos,af,g⟩ A H v H' c∧Syn P ⟨ae,op,ty,pos,af,g⟩ H H' c∧(s=true->Qls ⟨ae,op,ty,pos,af,g⟩=true->∀id,H'.get id=H.get id)∧(s=true->Qr7 ⟨ae,op,ty,pos,af,g⟩=true->Qi H.next 6 v=true)∧FA ⟨ae,op,ty,pos,af,g⟩ A v∧k v H':=fun⟨v,H',aa,ad,ac⟩=>by
  obtain⟨c,q⟩:=Qy3 aa;have q:aop P GI ⟨ae,op,ty,pos,af,g⟩ A H=some (c,v,H'):=q;refine⟨c,v,H',Qps QBS q,QEV q,λ_ ab=>?_,λh _=>ad h,QHh q,ac⟩;unfold Qls at ab;split at ab
  ·rename_i f a am ag;simp only at ag;subst ag;unfold aop at q;simp only[QhT]at q;split at q
   ·rename_i aj;cases aj
   ·rename_i aj;cases aj
   ·simp[GI]at q
   ·split at q
    ·simp[GI]at q
    ·have q:=Zy q;simp[GI]at q
    ·cases q
  ·cases ab
 simp only[pr]at h;split at h
 ·rename_i f args aa;obtain⟨a,am,ag,rfl⟩:=Qvw aa;subst ag;obtain⟨v,H',ab,ah,ai,ad,ac⟩:=h al;refine⟨.gen,v,H',Qrz (by simpa using ab),⟨λ_=>.inl rfl,λh=>(by cases h),λb h=>(by cases h),ah,λ_=>ai⟩,λh _=>ad h,λ_ h=>(by cases h),.none rfl,ac⟩
 ·rename_i c args aa;obtain⟨a,am,ag,rfl⟩:=QtC aa;subst ag;split at h
  ·rename_i f xs ys ak;obtain⟨v,H',ab,ah,ai,ad,ac⟩:=h al;refine⟨.gen,v,H',QwY ak (by simpa using ab),⟨λ_=>.inl rfl,λh=>(by cases h),λb h=>(by cases h),ah,λ_=>ai⟩,λh _=>ad h,λ_ h=>(by cases h),.none rfl,ac⟩
  ·rename_i l ak;obtain⟨v,H',ab,ah,ai,ad,ac⟩:=h al;refine⟨.gen,v,H',Qw4 ak (by simpa using ab),⟨λ_=>.inl rfl,λh=>(by cases h),λb h=>(by cases h),ah,λ_=>ai⟩,λh _=>ad h,λ_ h=>(by cases h),.none rfl,ac⟩
  ·exact h.elim
 ·rename_i aa;exact(QtD aa).elim
 ·rename_i aa;exact(QtE aa).elim
 ·rename_i aa;exact(Qvx aa).elim
 ·rename_i aa;exact(Qxb aa).elim
 ·exact other h
def Low (P:Program)(o:Oper)(os:List Operand)(A:Env)(H H':Qa):Prop:=Ql5 o=true->∀z∈os,∃b:Nat,InB (ev A z) b∧b<H.next∧(isG P o=true->H'.get b=H.get b)
def Sep (o:Oper)(os:List Operand)(A:Env)(H H':Qa):Prop:=Qy5 o=true->∃a:Nat,(∀id,id≠a->H'.get id=H.get id)∧∀z∈os,∀b:Addr,ev A z=.pointer (some b)->b.block≠a
theorem Qxc {ops:Array Oper}{i:Nat}{o:Oper}{s:Bool}{A:Env}{H:Qa}{k:Value->Qa->Prop}(an:H.Wf)(h:pr P (Qj7 P ops s i o) s A H k):
  ∃c v H',Qqu P o A H v H' c∧Syn P o H H' c∧(s=true->QBR o=true->isG P o=false->EqB H H')∧(s=true->Qr7 o=true->Qi H.next 6 v=true)∧(s=true->Sep o (Qr8 ops (QX ops.toList []) i) A H H')∧(s=true->Low P o (Qdu ops (QX ops.toList []) i) A H H')∧FA o A v∧k v H':=by
 cases s with
 | false=>
  obtain⟨c,v,H',ac,ad,aw,aq,al,ak⟩:=QrH an h;exact⟨c,v,H',ac,ad,λh=>(by cases h),aq,λh=>(by cases h),λh=>(by cases h),al,ak⟩
 | true=>
  have h:pr P (Qeo P ops i o) true A H k:=h;have aR:Qy5 o=false->Ql5 o=false->Qeo P ops i o=Wo P o.op->∃c v H',Qqu P o A H v H' c∧Syn P o H H' c∧(true=true->QBR o=true->isG P o=false->EqB H H')∧(true=true->Qr7 o=true->Qi H.next 6 v=true)∧(true=true->Sep o (Qr8 ops (QX ops.toList []) i) A H H')∧(true=true->Low P o (Qdu ops (QX ops.toList []) i) A H H')∧FA o A v∧k v H':=λaN az e=>by
   rw[e]at h;obtain⟨c,v,H',ac,ad,aw,aq,al,ak⟩:=QrH an h;exact⟨c,v,H',ac,ad,λay ae _ id _=>aw ay (by
    unfold QBR Qy4 at ae;unfold Ql5 at az;cases aL:Qls o with
    | true=>rfl
    | false=>
     rw[aL,Nt]at ae;split at ae
     ·rename_i q;rw[q]at az;cases az
     ·cases ae) id,aq,λ_ ab=>(by rw[aN]at ab;cases ab),λ_ ab=>(by rw[az]at ab;cases ab),al,ak⟩
  cases am:Qy5 o with
  | false=>
   cases ag:Ql5 o with
   | false=>
    refine aR am ag ?_;unfold Qeo;unfold Qy5 at am;unfold Ql5 at ag;split
    ·rename_i t x y q;rw[q]at am;cases am
    ·rename_i q;rw[q]at ag;cases ag
    ·rename_i q;rw[q]at ag;cases ag
    ·rfl
   | true=>
    obtain⟨ao,op,ty,pos,af,g⟩:=o;unfold Ql5 at ag;split at ag
    ·rename_i f a aj q;simp only at q;subst q;have aE:Qeo P ops i ⟨ao,.call ⟨.value (.func f),a,aj⟩,ty,pos,af,g⟩=bif isG P ⟨ao,.call ⟨.value (.func f),a,aj⟩,ty,pos,af,g⟩ then .callG f a.toList (Qdu ops (QX ops.toList []) i) else .callF f a.toList (Qdu ops (QX ops.toList []) i):=rfl
     rw[aE]at h;cases ax:isG P ⟨ao,.call ⟨.value (.func f),a,aj⟩,ty,pos,af,g⟩ with
     | false=>
      rw[ax]at h;obtain⟨av,aD⟩:=h;obtain⟨v,H',ae,aC,aF,ab,ah⟩:=aD an;refine⟨.gen,v,H',Qrz (by simpa using ae),⟨λ_=>.inl rfl,λh=>(by cases h),λb h=>(by cases h),aC,λ_=>aF⟩,λ_ _ _=>ab,λ_ h=>(by cases h),λ_ h=>(by cases h),λ_ _ z ai=>?_,.none rfl,ah⟩;have:=av z ai;unfold Qpw at this;split at this
      ·rename_i b hb;exact⟨_,.inl ⟨b,hb,rfl⟩,this,λh=>absurd (ax.symm.trans h) (by decide)⟩
      ·rename_i b n c hb;exact⟨_,.inr ⟨b,n,c,hb,rfl⟩,this,λh=>absurd (ax.symm.trans h) (by decide)⟩
      ·exact this.elim
     | true=>
      rw[ax]at h;obtain⟨av,aD⟩:=h;obtain⟨v,H',ae,aC,aF,ab,ah⟩:=aD an;refine⟨.gen,v,H',Qrz (by simpa using ae),⟨λ_=>.inl rfl,λh=>(by cases h),λb h=>(by cases h),aC,λ_=>aF⟩,λ_ _ h=>(by cases h),λ_ h=>(by cases h),λ_ h=>(by cases h),λ_ _ z ai=>?_,.none rfl,ah⟩;have ac:=av z ai;have ad:=ab z ai;unfold Qpw at ac;split at ac
      ·rename_i b hb;rw[hb]at ad;exact⟨_,.inl ⟨b,hb,rfl⟩,ac,λ_=>ad⟩
      ·rename_i b n c hb;rw[hb]at ad;exact⟨_,.inr ⟨b,n,c,hb,rfl⟩,ac,λ_=>ad⟩
      ·exact ac.elim
    ·rename_i a aj q;simp only at q;subst q;have aE:Qeo P ops i ⟨ao,.call ⟨.builtin .append,a,aj⟩,ty,pos,af,g⟩=(match Wo P (.call ⟨.builtin .append,a,aj⟩) with | .app e size bytes x y=>.appF e size bytes x y (Qdu ops (QX ops.toList []) i) | _=>.callG 0 [] [.const (.bool false)]):=rfl;rw[aE]at h;split at h
     ·rename_i e size bytes x y aO;obtain⟨av,v,H',aa,ab,ah⟩:=h;obtain⟨c,aH,H1,ac,ad,aw,aq,al,ak⟩:=QrH (s:=false) (k:=λaG H1=>aG=v∧H1=H') an (o:=⟨ao,.call ⟨.builtin .append,a,aj⟩,ty,pos,af,g⟩) (by
       show pr P (Wo P (.call ⟨.builtin .append,a,aj⟩)) false A H _;rw[aO];exact⟨v,H',aa,λh=>(by cases h),rfl,rfl⟩)
      obtain⟨rfl,rfl⟩:=ak;refine⟨c,aH,H1,ac,ad,λ_ _ _=>ab,λ_ au=>(by cases au),λ_ aP=>(by cases aP),λ_ _ z ai=>?_,al,ah⟩;have:=av z ai;unfold Qpw at this;split at this
      ·rename_i b hb;exact⟨_,.inl ⟨b,hb,rfl⟩,this,λh=>(by cases h)⟩
      ·rename_i b n c hb;exact⟨_,.inr ⟨b,n,c,hb,rfl⟩,this,λh=>(by cases h)⟩
      ·exact this.elim
     ·exact(h.1 _ (Sa.2 rfl)).elim
    ·cases ag
  | true=>
   unfold Qy5 at am;split at am
   ·rename_i t x y q;unfold Qeo at h;rw[q]at h;simp only at h;cases ar:P.info? t with
    | none=>
     rw[ar]at h;have e:Wo P (.store t x y)=.gen (.store t x y):=by simp[Wo,ar]
     simp only at h;rw[e]at h;obtain⟨v,H',aa,ab,ah⟩:=h;simp only[rop,aop,QnK,QmA,ar]at aa;split at aa
     ·rename_i ay;repeat' (split at ay)
      all_goals (first | (cases ay;done) | (rename_i aI;cases aI))
     ·cases aa
    | some aQ=>
     rw[ar]at h;obtain⟨v,H',aa,ab,ah⟩:=h;have e:Wo P o.op=.st aQ.size x y:=by rw[q];simp[Wo,ar]
     obtain⟨c,aH,H1,ac,ad,aw,aq,al,ak⟩:=QrH (s:=false) (k:=λaG H1=>aG=v∧H1=H') an (o:=o) (by
      rw[e];exact⟨v,H',aa,λh=>(by cases h),rfl,rfl⟩)
     obtain⟨rfl,rfl⟩:=ak;refine⟨c,aH,H1,ac,ad,λ_ ae _=>?_,λ_ au=>?_,λ_ _=>?_,λ_ aB=>?_,al,ah⟩
     ·unfold QBR Qls Qy4 at ae;rw[q]at ae;cases ae
     ·unfold Qr7 at au;rw[q]at au;cases au
     ·simp only[rop]at aa;split at aa
      ·rename_i a aJ;split at aa
       ·rename_i c' e' aT;split at aa
        ·simp only[Lt,LB]at aa;obtain⟨_,rfl⟩:=aa;refine⟨a.block,λid aM=>by rw[Qn,Le aM],λz ai=>?_⟩;have aA:=ab z ai;rw[aJ]at aA;intro aS aK;rw[aK]at aA;exact aA
        ·cases aa
       ·cases aa
      ·cases aa
     ·unfold Ql5 at aB;rw[q]at aB;cases aB
   ·cases am
theorem QmL {ops:Array Oper}{fl:Nat->Bool}:∀ (l:List Oper) (i:Nat) (ac:List PO) (k:Env->Qa->Prop) (A:Env) (H:Qa),H.Wf->QcU P n ops fl l i=some ac->Qdv P ac k A H->
  ∃A1 H1,H1.Wf∧k A1 H1∧Qmy P n ops l (λe A' H'=>e=.normal∧A'=A1∧H'=H1) A H
 | [],i,ac,k,A,H,hwf,hc,h=>by
  simp only[QcU,Lt]at hc;subst hc;exact⟨A,H,hwf,h,QwR ⟨rfl,rfl,rfl⟩⟩
 | o::l,i,ac,k,A,H,hwf,hc,h=>by
  unfold QcU at hc;split at hc
  ·rename_i ah;split at hc
   ·rename_i g ad ao al;cases hc;have h:pg g A (pr P (Qj7 P ops (fl i) i o) (fl i) A H λv H'=>Qdv P ad k (GG A o.dst v) H') (Qdv P ad k (GG A o.dst undef) H):=h;rcases QuC ao h with⟨ab,ar⟩ | ⟨ab,aq⟩
    ·obtain⟨c,v,H',ak,am,au,av,_,_,_,an⟩:=Qxc hwf ar;obtain⟨A1,H1,ai,ag,aa⟩:=QmL l (i+1) ad k _ _ (am.wf hwf) al an;refine⟨A1,H1,ai,ag,?_⟩;cases q:o.guard with
     | none=>exact Quo q ak.does ah aa
     | some aj=>
      obtain⟨j,w⟩:=aj;exact Qfn q ab (λ_=>⟨v,H',ak.does,aa⟩) (λae=>by cases ae) ah
    ·obtain⟨A1,H1,ai,ag,aa⟩:=QmL l (i+1) ad k _ _ hwf al aq;refine⟨A1,H1,ai,ag,?_⟩;cases q:o.guard with
     | none=>simp[ZF,q]at ab
     | some aj=>
      obtain⟨j,w⟩:=aj;exact Qfn q ab (λae=>by cases ae) (λ_=>aa) ah
   ·cases hc
  ·cases hc
structure StR (P:Program) (n:Nat) (ops:Array Oper) (fl:Nat->Bool) (i:Nat) (o:Oper) (s:Stp) (t':Env) (H':Qa):Prop where
 ok:Qjo P n o=true
 wf:s.H.Wf
 env:t'=GG s.t o.dst s.v
 next:s.H.next<=H'.next
 run:(ZF n ops s.t o=some true∧Qqu P o s.t s.H s.v H' s.c∧Syn P o s.H H' s.c∧(fl i=true->QBR o=true->isG P o=false->EqB s.H H')∧(fl i=true->Qr7 o=true->Qi s.H.next 6 s.v=true)∧(fl i=true->Sep o (Qr8 ops (QX ops.toList []) i) s.t s.H H')∧(fl i=true->Low P o (Qdu ops (QX ops.toList []) i) s.t s.H H')∧FA o s.t s.v) ∨
  (ZF n ops s.t o=some false∧s.c=.pure∧s.v=undef∧H'=s.H)
def Qj9 (l:List Stp)(t:Env)(i:Nat):Env:=match l[i]? with | some s=>s.t | none=>t
theorem Qsa {ops:Array Oper}{fl:Nat->Bool}:∀ (l:List Oper) (i:Nat) (ab:List PO) (k:Env->Qa->Prop) (A:Env) (H:Qa),H.Wf->QcU P n ops fl l i=some ab->Qdv P ab k A H->
  ∃tr A1 H1,H1.Wf∧k A1 H1∧tr.length=l.length∧Qj9 tr A1 0=A∧Yl tr H1 0=H∧∀ (j:Nat) o s,l[j]? = some o->tr[j]? = some s->StR P n ops fl (i+j) o s (Qj9 tr A1 (j+1)) (Yl tr H1 (j+1))
 | [],i,ab,k,A,H,hwf,hc,h=>by
  simp only[QcU,Lt]at hc;subst hc;exact⟨[],A,H,hwf,h,rfl,rfl,rfl,λj o s h=>by simp at h⟩
 | o::l,i,ab,k,A,H,hwf,hc,h=>by
  unfold QcU at hc;split at hc
  ·rename_i ai;split at hc
   ·rename_i g ac aq ay;cases hc;have h:pg g A (pr P (Qj7 P ops (fl i) i o) (fl i) A H λv H'=>Qdv P ac k (GG A o.dst v) H') (Qdv P ac k (GG A o.dst undef) H):=h;have step:∀ (s:Stp) (aa:Env) (H':Qa),s.t=A->s.H=H->H'.Wf->Qdv P ac k aa H'->StR P n ops fl i o s aa H'->
      ∃tr A1 H1,H1.Wf∧k A1 H1∧tr.length=(o::l).length∧Qj9 tr A1 0=A∧Yl tr H1 0=H∧∀ (j:Nat) o' s,(o::l)[j]? = some o'->tr[j]? = some s->StR P n ops fl (i+j) o' s (Qj9 tr A1 (j+1)) (Yl tr H1 (j+1)):=by
     intro s aa H' e1 e2 aC ax aA;obtain⟨tr,A1,H1,aD,au,av,aB,ar,az⟩:=Qsa l (i+1) ac k aa H' aC ay ax;refine⟨s::tr,A1,H1,aD,au,by simp[av],by simp[Qj9,e1],by simp[Yl,e2],λj o' aF ae ag=>?_⟩;cases j with
     | zero=>
      simp only[Bp,Lt]at ae ag;subst ae;subst ag;have ad:Qj9 (s::tr) A1 (0+1)=aa:=by rw[<- aB];simp[Qj9]
      have q:Yl (s::tr) H1 (0+1)=H':=by rw[<- ar];simp[Yl]
      rw[ad,q];exact aA
     | succ j=>
      have:=az j o' aF (by simpa using ae) (by simpa using ag);rw[show i+(j+1)=i+1+j by omega];simpa[Qj9,Yl] using this
    rcases QuC aq h with⟨ah,aE⟩ | ⟨ah,aw⟩
    ·obtain⟨c,v,H',ad,q,aj,ak,am,an,ao,al⟩:=Qxc hwf aE;exact step ⟨A,H,c,v⟩ _ H' rfl rfl (q.wf hwf) al ⟨ai,hwf,rfl,q.next,.inl ⟨ah,ad,q,aj,ak,am,an,ao⟩⟩
    ·exact step ⟨A,H,.pure,undef⟩ _ H rfl rfl hwf aw ⟨ai,hwf,rfl,Lb _,.inr ⟨ah,rfl,rfl,rfl⟩⟩
   ·cases hc
  ·cases hc
theorem QcB {t:TypeId}{a:Addr}{H1 H2:Qa}(h:H1.get a.block=H2.get a.block):ZD P t a H1=ZD P t a H2:=by
 unfold ZD;rw[h]
theorem Qsb (ops:Array Oper)(k e:Nat):∀ (d q:Nat),QaD ops k (e+d) q=match QaD ops (k+e) d q with | some c=>QaD ops k e c | none=>none
 | 0,q=>rfl
 | d+1,q=>by
  show(match ops[k+(e+d)]? with | some o=>(match Qw8 o q with | some c=>QaD ops k (e+d) c | none=>none) | none=>none)=(match (match ops[k+e+d]? with | some o=>(match Qw8 o q with | some c=>QaD ops (k+e) d c | none=>none) | none=>none) with | some c=>QaD ops k e c | none=>none);rw[show k+(e+d)=k+e+d by omega];cases ops[k+e+d]? with
  | none=>rfl
  | some o=>
   simp only;cases Qw8 o q with
   | none=>rfl
   | some c=>exact Qsb ops k e d c
theorem Qzg {ops:Array Oper}{k i j q bs:Nat}(h:QaD ops k (i - k) q=some bs)(ab:k<=j)(ac:j<=i):∃c,QaD ops j (i - j) q=some c:=by
 have:=Qsb ops k (j - k) (i - j) q;rw[show j - k+(i - j)=i - k by omega,h,show k+(j - k)=j by omega]at this;cases aa:QaD ops j (i - j) q with
 | none=>rw[aa]at this;cases this
 | some c=>exact⟨c,rfl⟩
theorem Qzh {id:Nat}{ops:Array Oper}{bI:List PO}{k:Env->Qa->Prop}{A:Env}{H:Qa}(cP:H.Wf)(c6:P.follows .mixedOrders=true)(cD:∀o∈ops,Qvs P o.op=false)(aR:Qf9 ops (Yk ops)=true)(cj:QAO P ops (QX ops.toList [])=true)
  (ak:QcU P n ops (XI ops (QX ops.toList [])) ops.toList 0=some bI) (h:Qdv P bI k A H):
  ∃A1 H1,H1.Wf∧k A1 H1∧AWp P n (.region id ops true) (λe A' H'=>e=.normal∧A'=A1∧H'=H1) A H:=by
 obtain⟨tr,A1,H1,cO,cy,c2,br,ca,cG⟩:=Qsa ops.toList 0 bI k A H cP ak h;refine⟨A1,H1,cO,cy,?_⟩;have c4:tr.length=ops.size:=by simpa using c2
 let As:Nat->Env:=Qj9 tr A1
 let Hs:Nat->Qa:=Yl tr H1
 let bK:Nat->Value:=λi=>match tr[i]? with | some s=>s.v | none=>undef
 let bc:Nat->Cls:=λi=>match tr[i]? with | some s=>s.c | none=>.pure
 have au:∀ (i:Nat) o,ops[i]? = some o->∃s,tr[i]? = some s∧StR P n ops (XI ops (QX ops.toList [])) i o s (As (i+1)) (Hs (i+1))∧As i=s.t∧Hs i=s.H∧bK i=s.v∧bc i=s.c:=λi o ac=>by
  have av:i<tr.length:=by rw[c4];exact(Nj.1 ac).1
  have hi:=La av;refine⟨tr[i],hi,by have:=cG i o tr[i] (by simpa using ac) hi;rwa [LP]at this,?_,?_,?_,?_⟩<;>simp only[As,Hs,bK,bc,Qj9,Yl,hi]
 have aE:∀i,i<ops.size->∃o,ops[i]? = some o:=λi hi=>⟨ops[i],Ng hi⟩;have aY:∀i,i<ops.size->Zj (bc i)=true->Yk ops i=true:=λi hi ad=>by
  obtain⟨o,ac⟩:=aE i hi;obtain⟨s,aP,al,_,_,_,e4⟩:=au i o ac;rw[e4]at ad;simp only[Yk,ac];rcases al.run with⟨_,_,aT,_⟩ | ⟨_,bx,_⟩
  ·rcases aT.gen ad with h | h
   ·exact h
   ·have:=cD o (BB ac);rw[h]at this;cases this
  ·rw[bx]at ad;cases ad
 have bP:∀aa,aa<ops.size->Yk ops aa=true->XI ops (QX ops.toList []) aa=true->(Qdt ops aa=true∧(∀i,i<ops.size->Qpu ops i=true->QM (QX ops.toList []) i aa=false->QM (QX ops.toList []) aa i=false->quiet P ops (QX ops.toList []) i aa=true)∧(gAt P ops aa=true->∀i,i<ops.size->(Qpu ops i=true->QM (QX ops.toList []) i aa=false->QM (QX ops.toList []) aa i=false->aa<i)∧(QhW ops i=true->i<aa->QM (QX ops.toList []) i aa=true))) ∨
   (Qy6 ops aa=true∧∀i,i<ops.size->(Qpu ops i=true->QM (QX ops.toList []) i aa=false->QM (QX ops.toList []) aa i=false->QHa P ops (QX ops.toList []) i aa=true)∧(QhW ops i=true->i<aa->QM (QX ops.toList []) i aa=true)):=λaa b9 ad b2=>by
  have:=Li.1 cj aa (LU.2 b9);simp only[ad,b2,L8,Nt,Nw,Lm,Li,LU]at this;rcases this with this | this
  ·refine .inl ⟨this.1.1,λi hi ae ah aA=>?_,λad i hi=>⟨λae ah aA=>?_,λae ah=>?_⟩⟩
   ·have:=this.1.2 i hi;simpa[ae,ah,aA] using this
   ·have ai:=this.2;simp only[ad,L8,LV,false_or]at ai;have:=(ai i hi).1;simpa[ae,ah,aA] using this
   ·have ai:=this.2;simp only[ad,L8,LV,false_or]at ai;have:=(ai i hi).2;have b:Nat.blt i aa=true:=by rw[B5];exact ah
    simpa[ae,b] using this
  ·refine .inr ⟨this.1,λi hi=>⟨λae ah aA=>?_,λae ah=>?_⟩⟩
   ·have:=(this.2 i hi).1;simpa[ae,ah,aA] using this
   ·have aA:=(this.2 i hi).2;have b:Nat.blt i aa=true:=by rw[B5];exact ah
    simpa[ae,b] using aA
 have bT:∀j,j<ops.size->(Hs j).next<=(Hs (j+1)).next:=λj aq=>by
  obtain⟨o,ac⟩:=aE j aq;obtain⟨s,aP,al,e1,e2,e3,e4⟩:=au j o ac;rw[e2];exact al.next
 have bB:∀d a,a+d<=ops.size->(Hs a).next<=(Hs (a+d)).next:=λd=>by
  induction d with
  | zero=>exact λa _=>Lb _
  | succ d aJ=>exact λa h=>N8 (aJ a (by omega)) (bT (a+d) (by omega))
 have bm:∀aa,aa<ops.size->Qdt ops aa=true->XI ops (QX ops.toList []) aa=true->gAt P ops aa=false->EqB (Hs aa) (Hs (aa+1)):=λaa b9 bO b2 aS=>by
  obtain⟨o,ac⟩:=aE aa b9;obtain⟨s,aP,al,e1,e2,e3,e4⟩:=au aa o ac;simp only[Qdt,ac]at bO;simp only[gAt,ac]at aS;rw[e2];rcases al.run with⟨_,_,_,aA,_⟩ | ⟨_,_,_,ab⟩
  ·exact aA b2 bO aS
  ·rw[ab];exact λ_ _=>rfl
 have bA:∀j,j<ops.size->(Yk ops j=false∨(XI ops (QX ops.toList []) j=true∧Qdt ops j=true∧gAt P ops j=false))->EqB (Hs j) (Hs (j+1)):=λj aq ad=>by
  obtain⟨o,ac⟩:=aE j aq;obtain⟨s,aP,al,e1,e2,e3,e4⟩:=au j o ac;rcases al.run with⟨_,ag,aT,_⟩ | ⟨_,_,_,ab⟩
  ·cases an:s.c with
   | pure=>rw[an]at ag;rw[e2,ag.1];exact λ_ _=>rfl
   | load=>rw[an]at ag;rw[e2,ag.1];exact λ_ _=>rfl
   | alloc b=>
    rw[an]at ag;rw[e2,ag.1];exact λid b7=>by rw[Qc,Le (by omega)]
   | gen=>
    have az:Yk ops j=true:=aY j aq (by rw[e4,an];rfl);rcases ad with ad | ad
    ·rw[ad]at az;cases az
    ·exact bm j aq ad.2.1 ad.1 ad.2.2
  ·rw[e2,ab];exact λ_ _=>rfl
 have c1:∀d a,a+d<=ops.size->(∀j,a<=j->j<a+d->Yk ops j=false∨(XI ops (QX ops.toList []) j=true∧Qdt ops j=true∧gAt P ops j=false))->EqB (Hs a) (Hs (a+d)):=λd=>by
  induction d with
  | zero=>exact λa _ _ _ _=>rfl
  | succ d aJ=>
   intro a h aq id b7;have ae:=aJ a (by omega) (λj ae ah=>aq j ae (by omega)) id b7;have ah:=bA (a+d) (by omega) (aq (a+d) (by omega) (by omega)) id (N5 b7 (bB d a (by omega)));rw[show a+(d+1)=a+d+1 by omega,ah,ae]
 have F:KI P n ops As Hs bK bc:=by
  refine⟨λi o ac=>?_,λi hi=>?_,λi o ac=>?_,λi o ac=>?_,Qqw aY aR⟩
  ·obtain⟨s,aP,al,e1,e2,e3,e4⟩:=au i o ac;rw[e1,e3,al.env]
  ·obtain⟨o,ac⟩:=aE i hi;obtain⟨s,aP,al,e1,e2,e3,e4⟩:=au i o ac;rw[e2];exact al.next
  ·obtain⟨s,aP,al,e1,e2,e3,e4⟩:=au i o ac;exact al.ok
  ·obtain⟨s,aP,al,e1,e2,e3,e4⟩:=au i o ac;have hi:i<ops.size:=(Nj.1 ac).1;unfold QyW;rw[e1,e2,e3,e4];rcases al.run with⟨bF,ag,aT,cU,cn,_,_⟩ | ⟨bF,bx,cK,cc⟩
   ·right;refine⟨bF,?_⟩;cases an:s.c with
    | pure=>rw[an]at ag;exact ag
    | gen=>rw[an]at ag;exact ag
    | alloc b=>
     rw[an]at ag;refine⟨ag.1,ag.2,λaa aD b8 aZ ba=>?_⟩;have az:=aY aa aD aZ;have bu:QhW ops i=true:=by simp only[QhW,ac];exact aT.alloc b an
     have aN:XI ops (QX ops.toList []) aa=true:=by
      unfold XI;simp only[az,LJ,Nw];left;rw[Bh];exact⟨i,LU.2 hi,by simp[bu,b8,ba]⟩
     rcases bP aa aD az aN with aB | aB
     ·have aS:gAt P ops aa=false:=by
       cases b5:gAt P ops aa with
       | false=>rfl
       | true=>rw[(aB.2.2 b5 i hi).2 bu b8]at ba;cases ba
      rw[bm aa aD aB.1 aN aS];have ai:=bB (aa - (i+1)) (i+1) (by omega);rw[show i+1+(aa - (i+1))=aa by omega,ag.1,Qd]at ai;omega
     ·rw[(aB.2 i hi).2 bu b8]at ba;cases ba
    | load=>
     rw[an]at ag;obtain⟨ae,bW,x,a,bV,bd,aC⟩:=ag;refine⟨ae,bW,x,a,bV,bd,aC,λaa aD aZ o1 o2=>?_⟩;have az:=aY aa aD aZ;have ay:Qpu ops i=true:=by simp only[Qpu,ac];exact aT.load an
     have aN:XI ops (QX ops.toList []) aa=true:=by
      unfold XI;simp only[az,LJ,Nw];left;rw[Bh];exact⟨i,LU.2 hi,by simp[ay,o1,o2]⟩
     have cp:XI ops (QX ops.toList []) i=true:=by
      unfold XI;simp only[Nw];right;simp only[ay,LJ];rw[Bh];exact⟨aa,LU.2 aD,by simp[az,o1,o2]⟩
     have bo:o.op=.load bW x:=bV;have bM:Qi s.H.next 6 s.v=true:=cn cp (by unfold Qr7;rw[bo]);rcases bP aa aD az aN with aB | aB
     ·have aO:=aB.2.1 i hi ay o1 o2;have bw:a.block<(Hs i).next:=by
       rw[e2];unfold ZD at aC;split at aC
       ·rename_i ad;exact al.wf.lt ad
       ·cases aC
      unfold quiet at aO;simp only[Nw,Lm,Li,LU]at aO;have b3:(Hs aa).get a.block=(Hs i).get a.block∧(Hs (aa+1)).get a.block=(Hs aa).get a.block:=by
       rcases aO with⟨av,aO⟩ | ⟨⟨⟨av,cl⟩,bE⟩,aO⟩
       ·have av:i<aa:=by simpa using av
        have aS:gAt P ops aa=false:=by
         cases b5:gAt P ops aa with
         | false=>rfl
         | true=>have:=(aB.2.2 b5 i hi).1 ay o1 o2;omega
        have ct:Yk ops i=false:=by
         simp only[Qpu,ac]at ay;simp only[Yk,ac];unfold Qr7 at ay;split at ay
         ·rename_i c8;simp only[QES,c8]
         ·cases ay
        have aX:=c1 (aa - i) i (by omega) (λj ae ah=>?_)
        ·rw[show i+(aa - i)=aa by omega]at aX;have ai:=bB (aa - i) i (by omega);rw[show i+(aa - i)=aa by omega]at ai;exact⟨aX _ bw,bm aa aD aB.1 aN aS a.block (by omega)⟩
        ·rcases Nq i j with aA | aA
         ·have ab:=aO j (by omega);have aW:Nat.ble j i=false:=by
           cases hb:Nat.ble j i with
           | false=>rfl
           | true=>rw[BL]at hb;omega
          rw[aW]at ab;rcases ab with ab | ab | ab
          ·cases ab
          ·exact .inl (by simpa using ab)
          ·exact .inr ⟨ab.1.1,ab.1.2,by simpa using ab.2⟩
         ·rw[show j=i by omega];exact .inl ct
       ·have av:aa<i:=by simpa using av
        obtain⟨bs,aK⟩:=D9.1 bE;have bv:∀j,aa<=j->j<i->(Yk ops j=false∨(XI ops (QX ops.toList []) j=true∧Qdt ops j=true∧(gAt P ops j=false∨QgE (QX ops.toList []) i j=true))):=λj ae ah=>by
         have ab:=aO j ah;have aW:Nat.blt j aa=false:=by
          cases hb:Nat.blt j aa with
          | false=>rfl
          | true=>rw[B5]at hb;omega
         rw[aW]at ab;rcases ab with ab | ab | ab
         ·cases ab
         ·exact .inl (by simpa using ab)
         ·refine .inr ⟨ab.1.1,ab.1.2,?_⟩;rcases ab.2 with ax | ax
          ·exact .inl (by simpa using ax)
          ·exact .inr ax
        obtain⟨ok,bU⟩:=aE aa aD;obtain⟨bJ,cX,cI,aV,aM,bL,bg⟩:=au aa ok bU;have ch:∀ (aF bs d aG:Nat),aF+d<=i->QaD ops aF d aG=some bs->InB (As (aF+d) aG) a.block->InB (As aF bs) a.block:=λaF bs d=>by
         induction d with
         | zero=>intro aG _ hb ar;cases hb;exact ar
         | succ d aJ=>
          intro aG aR hb ar;obtain⟨am,aw⟩:=aE (aF+d) (by omega);obtain⟨aL,bD,aI,g1,g2,g3,g4⟩:=au (aF+d) am aw;simp only[QaD,aw]at hb;split at hb
          ·rename_i c ak;refine aJ c (by omega) hb ?_;rw[show aF+(d+1)=aF+d+1 by omega,aI.env,<- g1]at ar;unfold Qw8 at ak;cases bn:am.dst with
           | none=>
            rw[bn]at ak ar;have ak:some aG=some c:=ak;cases ak;exact ar
           | some q=>
            rw[bn]at ak ar;have ar:InB (upd (As (aF+d)) q aL.v aG) a.block:=ar
            by_cases bC:q=aG
            ·subst bC;rw[QjX]at ar;have ak:Qr9 am=some c:=by simpa using ak
             rcases aI.run with⟨_,_,_,_,_,_,_,co⟩ | ⟨_,_,_,bp⟩
             ·have:=co c ak _ ar;rw[g1];exact this
             ·exfalso;have bp:aL.v=undef:=by first | exact bp.1 | exact bp | (rename_i cJ;exact cJ)
              rw[bp]at ar;rcases ar with⟨_,e,_⟩ | ⟨_,_,_,e,_⟩<;>cases e
            ·rw[QhK _ _ (λh=>bC h.symm)]at ar;have ak:some aG=some c:=by have e:(q==aG)=false:=beq_false_of_ne bC;simpa[e] using ak
             cases ak;exact ar
          ·cases hb
        obtain⟨ao,aj⟩:∃ao,QqA ops i=some ao:=by
         unfold Qpv at aK;cases aj:QqA ops i with
         | none=>rw[aj]at aK;cases aK
         | some ao=>exact⟨ao,rfl⟩
        have bG:x=.tmp ao:=by
         unfold QqA at aj;rw[ac]at aj;simp only[bo]at aj;split at aj
         ·rename_i b6;cases b6;cases aj;rfl
         ·cases aj
        have bX:As i ao=.pointer (some a):=by rw[bG]at bd;rw[e1];exact bd
        have ci:QaD ops aa (i - aa) ao=some bs:=by
         unfold Qpv at aK;rw[aj]at aK;exact aK
        have bS:∀j,aa<=j->j<=i->∃c,Qpv ops j i=some c∧InB (As j c) a.block:=λj ae ah=>by
         obtain⟨c,ak⟩:=Qzg ci ae ah;refine⟨c,by unfold Qpv;rw[aj];exact ak,?_⟩;refine ch j c (i - j) ao (by omega) ak ?_;rw[show j+(i - j)=i by omega,bX];exact .inl ⟨a,rfl,rfl⟩
        have cC:InB (As aa bs) a.block:=by
         obtain⟨c,bk,bz⟩:=bS aa (Lb _) (by omega);rw[aK]at bk;cases bk;exact bz
        have bN:a.block<(Hs aa).next:=by
         have c5:∀z∈Qdu ops (QX ops.toList []) aa,∃b:Nat,InB (ev bJ.t z) b∧b<bJ.H.next:=by
          rcases cI.run with⟨_,_,_,_,_,_,ai,_⟩ | ⟨_,ai,_⟩
          ·intro z cQ;obtain⟨b,ae,ah,_⟩:=ai aN (by simpa only[QGK,bU] using cl) z cQ;exact⟨b,ae,ah⟩
          ·rw[bg,ai]at aZ;cases aZ
         obtain⟨b,aH,bj⟩:=c5 (.tmp bs) (by
          unfold Qdu;rw[List.mem_filterMap];have aU:Nat.blt aa i=true:=by simpa using av
          exact⟨i,LU.2 hi,by simp[aU,ay,QgE,o1,o2,aK]⟩)
         have aH:InB (bJ.t bs) b:=aH;rw[<- aV]at aH;rw[aM,cC.uniq aH];exact bj
        have bb:∀j,aa<=j->j<i->a.block<(Hs j).next->(Hs (j+1)).get a.block=(Hs j).get a.block:=λj ae ah aQ=>by
         rcases bv j ae ah with ab | ⟨ab,aW,ax⟩
         ·exact bA j (by omega) (.inl ab) _ aQ
         ·cases b4:gAt P ops j with
          | false=>exact bA j (by omega) (.inr ⟨ab,aW,b4⟩) _ aQ
          | true=>
           have ax:QgE (QX ops.toList []) i j=true:=by
            rcases ax with ax | ax
            ·rw[b4]at ax;cases ax
            ·exact ax
           obtain⟨am,aw⟩:=aE j (by omega);obtain⟨aL,bD,aI,g1,g2,g3,g4⟩:=au j am aw;have bi:isG P am=true:=by simpa only[gAt,aw] using b4
           have cm:Ql5 am=true:=by
            unfold isG at bi;unfold Ql5;split at bi
            ·first | rfl | (rename_i c9;rw[c9])
            ·cases bi
           obtain⟨c,bk,bz⟩:=bS j ae (by omega);rw[g2];rcases aI.run with⟨_,_,_,_,_,_,ai,_⟩ | ⟨_,_,_,ai⟩
           ·obtain⟨b,aH,bj,cg⟩:=ai ab cm (.tmp c) (by
             unfold Qdu;rw[List.mem_filterMap];have aU:Nat.blt j i=true:=by simpa using ah
             have cS:QgE (QX ops.toList []) i j=true:=ax;exact⟨i,LU.2 hi,by simp[aU,ay,cS,bk]⟩)
            have aH:InB (aL.t c) b:=aH;rw[<- g1]at aH;rw[bz.uniq aH];exact cg bi
           ·rw[ai]
        have c7:∀d,aa+d<=i->(Hs (aa+d)).get a.block=(Hs aa).get a.block∧a.block<(Hs (aa+d)).next:=λd=>by
         induction d with
         | zero=>exact λ_=>⟨rfl,bN⟩
         | succ d aJ=>
          intro aR;obtain⟨bq,bH⟩:=aJ (by omega);have cW:=bT (aa+d) (by omega);refine⟨?_,?_⟩
          ·rw[show aa+(d+1)=aa+d+1 by omega,bb (aa+d) (by omega) (by omega) bH,bq]
          ·rw[show aa+(d+1)=aa+d+1 by omega];omega
        have aX:=(c7 (i - aa) (by omega)).1;rw[show aa+(i - aa)=i by omega]at aX;exact⟨aX.symm,bb aa (Lb _) av bN⟩
      exact⟨by rw[QcB b3.1,e2];exact aC,by rw[QcB b3.2,QcB b3.1,e2];exact aC,bM⟩
     ·have b1:=(aB.2 i hi).1 ay o1 o2;unfold QHa at b1;simp only[Lm,Li,LU]at b1;obtain⟨⟨av,bE⟩,bv⟩:=b1;have av:i<aa:=by simpa using av
      obtain⟨ao,aj⟩:=D9.1 bE;have bG:x=.tmp ao:=by
       unfold QqA at aj;rw[ac]at aj;simp only[bo]at aj;split at aj
       ·rename_i b6;cases b6;cases aj;rfl
       ·cases aj
      subst bG;have bb:∀j,i<=j->j<ops.size->As j ao=.pointer (some a)->(Yk ops j=false∨(Qdt ops j=true∧XI ops (QX ops.toList []) j=true∧gAt P ops j=false)∨(i<j∧Qy6 ops j=true∧XI ops (QX ops.toList []) j=true∧QgE (QX ops.toList []) i j=true))->a.block<(Hs j).next->(Hs (j+1)).get a.block=(Hs j).get a.block:=λj cv aq br ad aQ=>by
       obtain⟨am,aw⟩:=aE j aq;obtain⟨aL,bD,aI,aV,aM,bL,bg⟩:=au j am aw;rw[aM]at aQ ⊢;rcases aI.run with⟨_,ag,aT,_,_,cH,_⟩ | ⟨_,_,_,ab⟩
       ·cases an:aL.c with
        | pure=>rw[an]at ag;rw[ag.1]
        | load=>rw[an]at ag;rw[ag.1]
        | alloc b=>rw[an]at ag;rw[ag.1,Qc,Le (by omega)]
        | gen=>
         have az:Yk ops j=true:=aY j aq (by rw[bg,an];rfl);rcases ad with ad | ad | ⟨cw,bR,cq,cr⟩
         ·rw[ad]at az;cases az
         ·rw[<- aM];rw[<- aM]at aQ;exact bm j aq ad.1 ad.2.1 ad.2.2 _ aQ
         ·simp only[Qy6,aw]at bR;obtain⟨cT,cz,c0⟩:=cH cq bR;have bj:=c0 (.tmp ao) (by
           unfold Qr8;rw[List.mem_filterMap];exact⟨i,LU.2 cw,by simp[ay,cr,aj]⟩) a (by show aL.t ao=_;rw[<- aV];exact br)
          exact cz _ bj
       ·rw[ab]
      have bw:a.block<(Hs i).next:=by
       rw[e2];unfold ZD at aC;split at aC
       ·rename_i ad;exact al.wf.lt ad
       ·cases aC
      have bY:As i ao=.pointer (some a):=by rw[e1];exact bd
      have cf:∀j,i<=j->j<aa->(∀am,ops[j]? = some am->am.dst≠some ao)∧(Yk ops j=false∨(Qdt ops j=true∧XI ops (QX ops.toList []) j=true∧gAt P ops j=false)∨(i<j∧Qy6 ops j=true∧XI ops (QX ops.toList []) j=true∧QgE (QX ops.toList []) i j=true)):=λj cv cx=>by
       have:=bv j cx;have aU:Nat.blt j i=false:=by
        cases hb:Nat.blt j i with
        | false=>rfl
        | true=>rw[B5]at hb;omega
       simp only[aU,Nw,Lm,aj,Lr,LV,false_or]at this;refine⟨λam aw aR=>?_,?_⟩
       ·have ai:=this.1;rw[aw]at ai;simp[aR]at ai
       ·rcases this.2 with(h | h) | h
        ·exact .inl h
        ·exact .inr (.inl ⟨h.1.1,h.1.2,h.2⟩)
        ·refine .inr (.inr ⟨?_,h.1.1,h.1.2,h.2⟩);rcases Nq i j with h' | h'
         ·exact h'
         ·have e:j=i:=by omega
          subst e;have bh:=h.1.1;unfold Qy6 Qy5 at bh;rw[ac]at bh;simp only[bo]at bh;cases bh
      have cE:∀d,i+d<=aa->As (i+d) ao=.pointer (some a)∧(Hs (i+d)).get a.block=(Hs i).get a.block∧a.block<(Hs (i+d)).next:=by
       intro d
       induction d with
       | zero=>exact λ_=>⟨bY,rfl,bw⟩
       | succ d aJ=>
        intro aR;obtain⟨bq,bH,cR⟩:=aJ (by omega);have aq:i+d<ops.size:=by omega
        obtain⟨am,aw⟩:=aE (i+d) aq;obtain⟨aL,bD,aI,aV,aM,bL,bg⟩:=au (i+d) am aw;obtain⟨g1,g2⟩:=cf (i+d) (by omega) (by omega);refine⟨?_,?_,?_⟩
        ·rw[show i+(d+1)=i+d+1 by omega,aI.env,<- aV,<- bq];cases bn:am.dst with
         | none=>rfl
         | some q=>exact QhK _ _ (λh=>g1 am aw (by rw[bn,h]))
        ·rw[show i+(d+1)=i+d+1 by omega,bb (i+d) (by omega) aq bq g2 cR,bH]
        ·rw[show i+(d+1)=i+d+1 by omega];have:=aI.next;rw[<- aM]at this;omega
      obtain⟨r1,r2,r3⟩:=cE (aa - i) (by omega);rw[show i+(aa - i)=aa by omega]at r1 r2 r3;have c3:=bb aa (by omega) aD r1 (.inr (.inr ⟨av,aB.1,aN,by unfold QgE;rw[o1,o2];rfl⟩)) r3;exact⟨by rw[QcB r2,e2];exact aC,by rw[QcB c3,QcB r2,e2];exact aC,bM⟩
   ·left;exact⟨bF,cK,cc,bx⟩
 have bQ:As ops.size=A1∧Hs ops.size=H1:=by
  have:tr[ops.size]? = none:=N7 (by omega);simp only[As,Hs,Qj9,Yl,this,RU]
 have bZ:As 0=A:=br;have ce:Hs 0=H:=ca;have:=Qw2 (id:=id) (Q:=λe A' H'=>e=.normal∧A'=A1∧H'=H1) c6 F ⟨rfl,bQ.1,bQ.2⟩;rwa [bZ,ce]at this
def Fp (ks:Kp)(k:Env->Qa->Prop):Ex->Env->Qa->Prop
 | .normal,A,H=>k A H
 | .ret,A,H=>ks.ret A H
 | .exit j,A,H=>j<J0∧ks.ext j A H
 | .goto l,A,H=>ks.ext (J0+l) A H
 | _,_,_=>False
def Qvy (q:Ex)(A1:Env)(H1:Qa):Ex->Env->Qa->Prop:=λe A H=>e=q∧A=A1∧H=H1
theorem QE0 (x y:PC)(ks:Kp)(k:Env->Qa->Prop)(A:Env)(H:Qa):Qm P (sq x y) ks k A H=Qm P x ks (Qm P y ks k) A H:=by
 unfold sq;split<;>rfl
theorem QDe (x y:PC)(l:Nat)(ab:x=.skip->True):V4 (sq x y) l=match V4 x l with | some r=>some (sq r y) | none=>V4 y l:=by
 unfold sq;split
 ·simp[V4]
 ·rename_i aa;cases q:V4 x l with
  | none=>simp[V4]
  | some r=>
   cases r<;>rfl
 ·rfl
theorem Qpy:∀ (c:Code) (aa:PC),comp P n c=some aa->∀l,(∀ab,findLabel c l=some ab->∃pr,V4 aa l=some pr∧comp P n ab=some pr)∧(findLabel c l=none->V4 aa l=none):=by
 intro c
 induction c with
 | seq a b ag ah=>
  intro aa h l;simp only[comp]at h;split at h
  ·rename_i x y av ak;simp only[Lt]at h;subst h;obtain⟨a1,a2⟩:=ag x av l;obtain⟨am,an⟩:=ah y ak l;rw[QDe x y l (λ_=>trivial)];cases ae:findLabel a l with
   | some r=>
    obtain⟨pr,aq,ar⟩:=a1 r ae;rw[aq];refine⟨λab q=>?_,λad=>?_⟩
    ·simp only[findLabel,ae,Lt]at q;subst q;exact⟨_,rfl,by simp only[comp,ar,ak]⟩
    ·simp only[findLabel,ae]at ad;cases ad
   | none=>
    rw[a2 ae];simp only[findLabel,ae];exact⟨am,an⟩
  ·cases h
 | label ai=>
  intro aa h l;simp only[comp,Lt]at h;subst h;refine⟨λab q=>?_,λad=>?_⟩
  ·simp only[findLabel]at q;split at q
   ·rename_i ac;have ac:ai=l:=by simpa using ac
    subst ac;cases q;exact⟨.skip,by simp[V4],rfl⟩
   ·cases q
  ·simp only[findLabel]at ad;split at ad
   ·cases ad
   ·rename_i ac;have ac:¬ai=l:=by simpa using ac
    simp[V4,Kk,ac]
 | scope b al=>
  intro aa h l;refine⟨λab q=>(by cases q),λ_=>?_⟩;simp only[comp,Lx]at h;obtain⟨aj,hb,rfl⟩:=h;unfold QrG;split
  ·rename_i au;exact nolab aj au l
  ·split
   ·rfl
   ·rfl
  ·rfl
 | region id ops ao=>
  intro aa h l;refine⟨λab q=>(by cases q),λ_=>?_⟩;cases ao
  ·simp only[comp,Lt]at h;subst h;split<;>rfl
  ·simp only[comp,Lt]at h;subst h;split
   ·split<;>rfl
   ·rfl
 | cond x a b ag ah=>
  intro aa h l;refine⟨λab q=>(by cases q),λ_=>?_⟩;simp only[comp]at h;split at h
  ·split at h
   ·cases h;rfl
   ·cases h
  ·cases h
 | block id b al=>
  intro aa h l;refine⟨λab q=>(by cases q),λ_=>?_⟩;simp only[comp,Lx]at h;obtain⟨aj,hb,rfl⟩:=h;cases Nat.blt id J0<;>rfl
 | loop b al=>
  intro aa h l;refine⟨λab q=>(by cases q),λ_=>?_⟩;simp only[comp,Lx]at h;obtain⟨aj,hb,rfl⟩:=h;rfl
 | rangeFunc g aw a b ag ah=>
  intro aa h l;refine⟨λab q=>(by cases q),λ_=>?_⟩;simp only[comp]at h;split at h
  ·split at h
   ·cases h;rfl
   ·cases h
  ·cases h
 | exit id=>
  intro aa h l;refine⟨λab q=>(by cases q),λ_=>?_⟩;simp only[comp,Lt]at h;subst h;cases Nat.blt id J0<;>rfl
 | _=>
  intro aa h l;refine⟨λab q=>(by cases q),λ_=>?_⟩;cases h;rfl
 where
 nolab:∀ (aa:PC),QaE aa=[]->∀l,V4 aa l=none
  | .seq a b,h,l=>by
   simp only[QaE,List.append_eq_nil_iff]at h;simp only[V4,nolab a h.1 l,nolab b h.2 l]
  | .label ai,h,l=>by simp[QaE]at h
  | .skip,h,l=>rfl
  | .ops _,h,l=>rfl
  | .cond _ _ _,h,l=>rfl
  | .block _ _,h,l=>rfl
  | .loop _,h,l=>rfl
  | .exit _,h,l=>rfl
  | .ret,h,l=>rfl
  | .goto _,h,l=>rfl
  | .scope _ _ _,h,l=>rfl
  | .rangeF _ _ _ _,h,l=>rfl
  | .bad,h,l=>rfl
theorem Qd6:∀ (ab:PC) (l:Nat) (r:PC),V4 ab l=some r->l∈QaE ab
 | .seq a b,l,r,h=>by
  simp only[V4]at h;simp only[QaE,LI];cases aa:V4 a l with
  | some q=>exact .inl (Qd6 a l q aa)
  | none=>rw[aa]at h;exact .inr (Qd6 b l r h)
 | .label l',l,r,h=>by
  simp only[V4]at h;cases hb:Nat.beq l' l with
  | true=>simp[QaE,LA hb]
  | false=>rw[hb]at h;cases h
 | .skip,l,r,h=>by cases h
 | .ops _,l,r,h=>by cases h
 | .cond _ _ _,l,r,h=>by cases h
 | .block _ _,l,r,h=>by cases h
 | .loop _,l,r,h=>by cases h
 | .exit _,l,r,h=>by cases h
 | .ret,l,r,h=>by cases h
 | .goto _,l,r,h=>by cases h
 | .scope _ _ _,l,r,h=>by cases h
 | .rangeF _ _ _ _,l,r,h=>by cases h
 | .bad,l,r,h=>by cases h
def Snd (P:Program)(n:Nat)(c:Code)(aa:PC):Prop:=∀ (ks:Kp) (k:Env->Qa->Prop) (A:Env) (H:Qa),H.Wf->Qm P aa ks k A H->∃q A1 H1,H1.Wf∧Fp ks k q A1 H1∧AWp P n c (Qvy q A1 H1) A H
theorem QAS {a b:Code}{x y:PC}(q:Snd P n a x)(hb:Snd P n b y):Snd P n (.seq a b) (sq x y):=by
 intro ks k A H ah h;rw[QE0]at h;obtain⟨ac,A1,H1,ab,aa,q⟩:=q ks _ A H ah h;cases ac with
 | normal=>
  obtain⟨ex2,A2,H2,ag,ae,ad⟩:=hb ks k A1 H1 ab aa;refine⟨ex2,A2,H2,ag,ae,QnB (q.mono ?_)⟩;rintro e A' H' ⟨rfl,rfl,rfl⟩;exact ad
 | ret=>exact⟨.ret,A1,H1,ab,aa,QnB (q.mono (by rintro e A' H' ⟨rfl,rfl,rfl⟩;exact⟨rfl,rfl,rfl⟩))⟩
 | exit j=>exact⟨.exit j,A1,H1,ab,aa,QnB (q.mono (by rintro e A' H' ⟨rfl,rfl,rfl⟩;exact⟨rfl,rfl,rfl⟩))⟩
 | goto j=>exact⟨.goto j,A1,H1,ab,aa,QnB (q.mono (by rintro e A' H' ⟨rfl,rfl,rfl⟩;exact⟨rfl,rfl,rfl⟩))⟩
 | panic v=>exact aa.elim
def QJW (P:Program)(n:Nat)(c:Code)(aa:PC):Prop:=Snd P n c aa∧∀l q,findLabel c l=some q->∃pr,V4 aa l=some pr∧comp P n q=some pr∧Snd P n q pr
theorem Qvz:∀ (c:Code) (aj:PC),comp P n c=some aj->QJW P n c aj:=by
 intro c
 induction c with
 | skip=>intro aj aa;cases aa;exact⟨λks k A H ac h=>⟨.normal,A,H,ac,h,QrO ⟨rfl,rfl,rfl⟩⟩,λl ag h=>by cases h⟩
 | label l=>
  intro aj aa;cases aa;refine⟨λks k A H ac h=>⟨.normal,A,H,ac,h,Qun ⟨rfl,rfl,rfl⟩⟩,λb1 ag h=>?_⟩;obtain⟨pr,ao,aq⟩:=(Qpy (P:=P) (n:=n) (.label l) (.label l) rfl b1).1 ag h;refine⟨pr,ao,aq,?_⟩;simp only[findLabel]at h;split at h
  ·cases h;cases aq;exact λks k A H ac h=>⟨.normal,A,H,ac,h,QrO ⟨rfl,rfl,rfl⟩⟩
  ·cases h
 | ret=>intro aj aa;cases aa;exact⟨λks k A H ac h=>⟨.ret,A,H,ac,h,QAG ⟨rfl,rfl,rfl⟩⟩,λl ag h=>by cases h⟩
 | exit id=>
  intro aj aa;simp only[comp,Lt]at aa;subst aa;refine⟨λks k A H ac h=>?_,λl ag h=>by cases h⟩;cases hb:Nat.blt id J0 with
  | true=>
   rw[hb]at h;exact⟨.exit id,A,H,ac,⟨by simpa using hb,h⟩,QwP ⟨rfl,rfl,rfl⟩⟩
  | false=>rw[hb]at h;exact h.elim
 | goto l=>intro aj aa;cases aa;exact⟨λks k A H ac h=>⟨.goto l,A,H,ac,h,QwQ ⟨rfl,rfl,rfl⟩⟩,λl ag h=>by cases h⟩
 | refuse s=>intro aj aa;cases aa;exact⟨λks k A H ac h=>h.elim,λl ag h=>by cases h⟩
 | rangeFunc g aE a b ay az=>
  intro aj aa;refine⟨λks k A H ac h=>?_,λl ag h=>by cases h⟩;simp only[comp]at aa;split at aa
  ·rename_i aC;split at aa
   ·rename_i aR ak al hb;cases aa;simp only[Qm]at h;split at h
    ·rename_i f xs ys bm;obtain⟨bk,bi⟩:=h (λst=>Blk.loop A n aE a b st) (λl args H0 Q an aI br aX=>by
      have am:l<H0.next:=aX.lt an;obtain⟨ad,A1,H1,ab,au,bd⟩:=(ay aR al).1 _ _ _ _ (aX.kill l) br;cases ad with
      | ret=>exact au.elim
      | exit j=>exact au.2.elim
      | goto j=>exact au.elim
      | panic v=>exact au.elim
      | normal=>
       obtain⟨ad,A2,H2,aw,ai,bg⟩:=(az ak hb).1 _ _ _ _ ab au;have aI:args.length=aE.size:=by simpa using aI
       have aO:∀b,H0.next<=H2.next->(H2.set l b).Wf:=λb b3 id aU=>by
        simp only[Qv]at aU;rw[Qn,Le (by omega)];exact aw id aU
       have mk:∀v H',Qr2 l (Blk.loop A n aE a b) v H' ad A2 H2->Quv P l args H0 v H':=λv H' bv=>
        Qqr an aI (bd.mono (by
         rintro e A' H' ⟨rfl,rfl,rfl⟩;exact bg.mono (by rintro e A' H' ⟨rfl,rfl,rfl⟩;exact bv)))
       cases ad with
       | normal=>exact⟨_,_,mk _ _ ⟨rfl,GF.refl _⟩,by simpa using ai.1,aO _ ai.1,ai.2⟩
       | ret=>exact⟨_,_,mk _ _ ⟨rfl,GF.refl _⟩,by simpa using ai.1,aO _ ai.1,ai.2⟩
       | exit j=>exact⟨_,_,mk _ _ ⟨rfl,GF.refl _⟩,by simpa using ai.2.2.1,aO _ ai.2.2.1,ai.2.2.2⟩
       | goto j=>exact absurd ai.1 (by simp)
       | panic v=>exact ai.elim)
     obtain⟨v,H2,bj,b4,bz,st,an,ah⟩:=bi (ac.push _);have aN:(H2.kill H.next).Wf:=bz.kill _;have mk:∀e,QC2 (Qvy e A (H2.kill H.next)) A (H2.kill H.next) st->AWp P n (.rangeFunc g aE a b) (Qvy e A (H2.kill H.next)) A H:=λe bu=>Ql3 aC bm bk bj an bu;unfold QC9 at ah;split at ah
     ·exact⟨.normal,A,_,aN,ah,mk _ ⟨rfl,rfl,rfl⟩⟩
     ·exact⟨.ret,A,_,aN,ah,mk _ ⟨rfl,rfl,rfl⟩⟩
     ·rename_i j;exact⟨.exit j,A,_,aN,⟨by simpa using ah.1,ah.2⟩,mk _ ⟨rfl,rfl,rfl⟩⟩
     ·exact ah.elim
    ·exact h.elim
   ·cases aa
  ·cases aa
 | region id ops bb=>
  intro aj aa;refine⟨λks k A H ac h=>?_,λl ag h=>by cases h⟩;cases bb with
  | false=>
   simp only[comp,Lt]at aa;subst aa;split at h
   ·rename_i aZ aK;obtain⟨A1,H1,ab,aH,al⟩:=QmL ops.toList 0 aZ k A H ac aK h;exact⟨.normal,A1,H1,ab,aH,(by
     have ae:AWp P n (.region id ops.toList.toArray false) (Qvy .normal A1 H1) A H:=QrP (l:=ops.toList) (by
      have al:Qmy P n ops ops.toList (Qvy .normal A1 H1) A H:=al;simpa using al)
     simpa using ae)⟩
   ·exact h.elim
  | true=>
   simp only[comp,Lt]at aa;subst aa;split at h
   ·rename_i ar;simp only[Lm]at ar;split at h
    ·rename_i aZ aK;obtain⟨A1,H1,ab,aH,al⟩:=Qzh (id:=id) ac ar.1.1.1 (λo bp=>by simpa using B1.1 ar.2 o bp) ar.1.1.2 ar.1.2 aK h;exact⟨.normal,A1,H1,ab,aH,al⟩
    ·exact h.elim
   ·exact h.elim
 | seq a b ay az=>
  intro aj aa;have bh:=aa;simp only[comp]at aa;split at aa
  ·rename_i x y aP aY;simp only[Lt]at aa;subst aa;obtain⟨a1,a2⟩:=ay x aP;obtain⟨aT,ba⟩:=az y aY;refine⟨QAS a1 aT,λl ag h=>?_⟩;obtain⟨pr,ao,aq⟩:=(Qpy _ _ bh l).1 ag h;refine⟨pr,ao,aq,?_⟩;cases q:findLabel a l with
   | some r=>
    simp only[findLabel,q,Lt]at h;subst h;obtain⟨b2,aF,aA,aB⟩:=a2 l r q;simp only[comp,aA,aY,Lt]at aq;subst aq;exact QAS aB aT
   | none=>
    simp only[findLabel,q]at h;obtain⟨b2,aF,aA,aB⟩:=ba l ag h;rw[aq]at aA;cases aA;exact aB
  ·cases aa
 | cond x a b ay az=>
  intro aj aa;refine⟨λks k A H ac h=>?_,λl ag h=>by cases h⟩;simp only[comp]at aa;split at aa
  ·rename_i aC;split at aa
   ·rename_i aR ak al hb;cases aa;simp only[Qm]at h;split at h
    ·rename_i t aW;cases t with
     | true=>
      obtain⟨ad,A1,H1,ab,q,ae⟩:=(ay aR al).1 ks k A H ac (h.1 rfl);exact⟨ad,A1,H1,ab,q,QnC (t:=true) aC aW ae⟩
     | false=>
      obtain⟨ad,A1,H1,ab,q,ae⟩:=(az ak hb).1 ks k A H ac (h.2 rfl);exact⟨ad,A1,H1,ab,q,QnC (t:=false) aC aW ae⟩
    ·exact h.elim
   ·cases aa
  ·cases aa
 | block id b ax=>
  intro aj aa;refine⟨λks k A H ac h=>?_,λl ag h=>by cases h⟩;simp only[comp,Lx]at aa;obtain⟨ak,hb,rfl⟩:=aa;cases am:Nat.blt id J0 with
  | false=>rw[am]at h;exact h.elim
  | true=>
   rw[am]at h;have am:id<J0:=by simpa using am
   obtain⟨ad,A1,H1,ab,q,ae⟩:=(ax ak hb).1 _ k A H ac h;cases ad with
   | normal=>exact⟨.normal,A1,H1,ab,q,Qeg (ae.mono (by rintro e A' H' ⟨rfl,rfl,rfl⟩;exact⟨rfl,rfl,rfl⟩))⟩
   | ret=>exact⟨.ret,A1,H1,ab,q,Qeg (ae.mono (by rintro e A' H' ⟨rfl,rfl,rfl⟩;exact⟨rfl,rfl,rfl⟩))⟩
   | exit j=>
    simp only[Fp]at q
    by_cases ah:j=id
    ·rw[Lc ah]at q;exact⟨.normal,A1,H1,ab,q.2,Qeg (ae.mono (by rintro e A' H' ⟨rfl,rfl,rfl⟩;simp only[QnD,Lc ah];exact⟨rfl,rfl,rfl⟩))⟩
    ·rw[Le ah]at q;exact⟨.exit j,A1,H1,ab,q,Qeg (ae.mono (by rintro e A' H' ⟨rfl,rfl,rfl⟩;simp only[QnD,Le ah];exact⟨rfl,rfl,rfl⟩))⟩
   | goto j=>
    simp only[Fp]at q;rw[Le (by omega)]at q;exact⟨.goto j,A1,H1,ab,q,Qeg (ae.mono (by rintro e A' H' ⟨rfl,rfl,rfl⟩;exact⟨rfl,rfl,rfl⟩))⟩
   | panic v=>exact q.elim
 | loop b ax=>
  intro aj aa;refine⟨λks k A H ac h=>?_,λl ag h=>by cases h⟩;simp only[comp,Lx]at aa;obtain⟨ak,hb,rfl⟩:=aa;obtain⟨I,⟨m,aJ⟩,aM⟩:=h;have key:∀m A H,H.Wf->I m A H->∃ad A1 H1,H1.Wf∧Fp ks k ad A1 H1∧Qj5 P n b (Qvy ad A1 H1) A H:=by
   intro m
   induction m using Nat.strongRecOn with
   | _ m aQ=>
    intro A H ac aG;obtain⟨ad,A1,H1,ab,q,ae⟩:=(ax ak hb).1 ks _ A H ac (aM m A H aG);cases ad with
    | normal=>
     obtain⟨aD,am,bc⟩:=q;obtain⟨ex2,A2,H2,aw,ai,bn⟩:=aQ aD am A1 H1 ab bc;exact⟨ex2,A2,H2,aw,ai,Qgy (ae.mono (by rintro e A' H' ⟨rfl,rfl,rfl⟩;exact bn))⟩
    | ret=>exact⟨.ret,A1,H1,ab,q,Qgy (ae.mono (by rintro e A' H' ⟨rfl,rfl,rfl⟩;exact⟨rfl,rfl,rfl⟩))⟩
    | exit j=>exact⟨.exit j,A1,H1,ab,q,Qgy (ae.mono (by rintro e A' H' ⟨rfl,rfl,rfl⟩;exact⟨rfl,rfl,rfl⟩))⟩
    | goto j=>exact⟨.goto j,A1,H1,ab,q,Qgy (ae.mono (by rintro e A' H' ⟨rfl,rfl,rfl⟩;exact⟨rfl,rfl,rfl⟩))⟩
    | panic v=>exact q.elim
  obtain⟨ad,A1,H1,ab,q,ae⟩:=key m A H ac aJ;exact⟨ad,A1,H1,ab,q,Qqp ae⟩
 | scope b ax=>
  intro aj aa;refine⟨λks k A H ac h=>?_,λl ag h=>by cases h⟩;simp only[comp,Lx]at aa;obtain⟨ak,hb,rfl⟩:=aa;have av:=ax ak hb;have plain:(∀l,findLabel b l=none)->Qm P ak ks k A H->∃ad A1 H1,H1.Wf∧Fp ks k ad A1 H1∧AWp P n (.scope b) (Qvy ad A1 H1) A H:=λbo h=>by
   obtain⟨ad,A1,H1,ab,q,ae⟩:=av.1 ks k A H ac h;refine⟨ad,A1,H1,ab,q,QhQ (VS (ae.mono ?_))⟩;rintro e A' H' ⟨rfl,rfl,rfl⟩;cases e with
   | goto j=>simp only[QBH,bo j];exact⟨rfl,rfl,rfl⟩
   | _=>exact⟨rfl,rfl,rfl⟩
  unfold QrG at h;split at h
  ·rename_i an;refine plain (λl=>?_) h;cases q:findLabel b l with
   | none=>rfl
   | some r=>
    obtain⟨pr,ao,_⟩:=av.2 l r q;have:=Qd6 _ _ _ ao;rw[an]at this;cases this
  ·rename_i l an;split at h
   ·rename_i r aL;obtain⟨I,⟨m,aJ⟩,aM⟩:=h;obtain⟨ag,aV⟩:∃ag,findLabel b l=some ag:=by
     cases q:findLabel b l with
     | none=>rw[(Qpy b ak hb l).2 q]at aL;cases aL
     | some ag=>exact⟨ag,rfl⟩
    obtain⟨pr,aF,aA,aB⟩:=av.2 l ag aV;rw[aL]at aF;cases aF;have bq:∀j,j≠l->findLabel b j=none:=λj ah=>by
     cases q:findLabel b j with
     | none=>rfl
     | some r2=>
      obtain⟨b5,ao,_⟩:=av.2 j r2 q;have:=Qd6 _ _ _ ao;rw[an,Sa]at this;exact absurd this ah
    have key:∀m (c:Code) (aS:PC),Snd P n c aS->∀A H,H.Wf->Qm P aS ⟨ks.ret,jmK l I m ks.ext⟩ k A H->∃ad A1 H1,H1.Wf∧Fp ks k ad A1 H1∧Qfi P n b c (Qvy ad A1 H1) A H:=by
     intro m
     induction m using Nat.strongRecOn with
     | _ m aQ=>
      intro c aS bx A H ac aP;obtain⟨ad,A1,H1,ab,q,ae⟩:=bx _ k A H ac aP;cases ad with
      | normal=>exact⟨.normal,A1,H1,ab,q,VS (ae.mono (by rintro e A' H' ⟨rfl,rfl,rfl⟩;exact⟨rfl,rfl,rfl⟩))⟩
      | ret=>exact⟨.ret,A1,H1,ab,q,VS (ae.mono (by rintro e A' H' ⟨rfl,rfl,rfl⟩;exact⟨rfl,rfl,rfl⟩))⟩
      | exit j=>
       simp only[Fp,jmK]at q;rw[Le (by omega)]at q;exact⟨.exit j,A1,H1,ab,q,VS (ae.mono (by rintro e A' H' ⟨rfl,rfl,rfl⟩;exact⟨rfl,rfl,rfl⟩))⟩
      | goto j=>
       simp only[Fp,jmK]at q
       by_cases ah:j=l
       ·subst ah;rw[Lc rfl]at q;obtain⟨aD,am,aG⟩:=q;obtain⟨ex2,A2,H2,aw,ai,bw⟩:=aQ aD am ag r aB A1 H1 ab (aM aD A1 H1 aG);refine⟨ex2,A2,H2,aw,ai,VS (ae.mono ?_)⟩;rintro e A' H' ⟨rfl,rfl,rfl⟩;simp only[QBH,aV];exact bw
       ·rw[Le (by omega)]at q;refine⟨.goto j,A1,H1,ab,q,VS (ae.mono ?_)⟩;rintro e A' H' ⟨rfl,rfl,rfl⟩;simp only[QBH,bq j ah];exact⟨rfl,rfl,rfl⟩
      | panic v=>exact q.elim
    obtain⟨ad,A1,H1,ab,q,ae⟩:=key m b ak av.1 A H ac aJ;exact⟨ad,A1,H1,ab,q,QhQ ae⟩
   ·exact h.elim
  ·exact h.elim
theorem Qxd (c:Code)(q:PC)(ks:Kp)(k:Env->Qa->Prop)(A:Env)(H:Qa)(ac:H.Wf)(ab:comp P n c=some q)(h:Qm P q ks k A H):
  ∃aa A1 H1,H1.Wf∧Fp ks k aa A1 H1∧AWp P n c (Qvy aa A1 H1) A H:=(Qvz c q ab).1 ks k A H ac h
def QvA (P:Program)(fn:Func)(k:Value->Qa->Prop):Env->Qa->Prop:=λA H=>∃v,QmE P fn.ntmps fn.results A H=some v∧∃H2,GF H2 H∧(H.Wf->H2.Wf)∧k v H2
theorem Qsc {f:FuncId}{fn:Func}{ab:PC}{args:List Value}{H:Qa}{k:Value->Qa->Prop}(aj:P.funcs[f]? = some fn)(ah:fn.body.bind (comp P fn.ntmps)=some ab)(ai:entered P f=true)(am:args.length<=fn.ntmps)
  (h:H.Wf->Qm P ab ⟨QvA P fn λv H'=>H.next<=H'.next∧k v H',λ_ _ _=>False⟩ (QvA P fn λv H'=>H.next<=H'.next∧k v H') (QdL args) H):Qe P f args H k:=by
 obtain⟨c,hb,ag⟩:=BY.1 ah;intro ac;obtain⟨aa,A1,H1,al,q,ak⟩:=Qxd c ab _ _ (QdL args) H ac ag (h ac);have ae:args.length+(fn.ntmps - args.length)=fn.ntmps:=by omega
 have ad:QvA P fn (λv H'=>H.next<=H'.next∧k v H') A1 H1->(aa=.normal∨aa=.ret)->∃v H',GR P f args H v H'∧H.next<=H'.next∧H'.Wf∧k v H':=fun⟨v,hv,H2,hle,hw2,hn,hk⟩ hex=>by
  refine⟨v,H2,.inl ⟨ai,QrW aj hb ?_⟩,hn,hw2 al,hk⟩;rw[ae];refine ak.mono ?_;rintro e A' H' ⟨rfl,rfl,rfl⟩;rcases hex with rfl | rfl
  ·exact⟨v,rfl,hv,hle⟩
  ·exact⟨v,rfl,hv,hle⟩
 cases aa with
 | normal=>exact ad q (.inl rfl)
 | ret=>exact ad q (.inr rfl)
 | exit j=>exact q.2.elim
 | goto j=>exact q.elim
 | panic v=>exact q.elim
theorem YQ.mono {l:Nat}{args:List Value}{H:Qa}{k q:Value->Qa->Prop}(h:YQ P l args H k)(ae:∀v H',k v H'->q v H'):YQ P l args H q:=by
 intro ag;obtain⟨v,H',aa,ab,ac,ad⟩:=h ag;exact⟨v,H',aa,ab,ac,ae v H' ad⟩
theorem YQ.then {l:Nat}{args:List Value}{H:Qa}{k aa:Value->Qa->Prop}(h:YQ P l args H k)(ae:∀v H',H.next<=H'.next->k v H'->aa v H'):YQ P l args H aa:=by
 intro ag;obtain⟨v,H',ab,q,ac,ad⟩:=h ag;exact⟨v,H',ab,q,ac,ae v H' q ad⟩
theorem Qe.mono {f:FuncId}{args:List Value}{H:Qa}{k q:Value->Qa->Prop}(h:Qe P f args H k)(ae:∀v H',k v H'->q v H'):Qe P f args H q:=by
 intro ag;obtain⟨v,H',aa,ab,ac,ad⟩:=h ag;exact⟨v,H',aa,ab,ac,ae v H' ad⟩
theorem Qe.then {f:FuncId}{args:List Value}{H:Qa}{k aa:Value->Qa->Prop}(h:Qe P f args H k)(ae:∀v H',H.next<=H'.next->k v H'->aa v H'):Qe P f args H aa:=by
 intro ag;obtain⟨v,H',ab,q,ac,ad⟩:=h ag;exact⟨v,H',ab,q,ac,ae v H' q ad⟩
theorem QtF {f:FuncId}{args:List Value}{H:Qa}{v:Value}(q:entered P f=true)(h:Qgx P f args H (.ret v) H):Qe P f args H λu H'=>u=v∧H'=H:=
 λaa=>⟨v,H,.inl ⟨q,h⟩,Lb _,aa,rfl,rfl⟩
end
def Qa.up (H:Qa)(m:Nat):Qa:=⟨m,H.tr⟩
theorem Zk (H:Qa)(m id:Nat):(H.up m).get id=H.get id:=Nu rfl rfl
@[simp] theorem Ql (H:Qa) (m:Nat):(H.up m).next=m:=Nu rfl rfl
@[simp] theorem Qa.up_up (H:Qa) (m m':Nat):(H.up m).up m'=H.up m':=rfl
theorem GF.up {H H1:Qa}{m:Nat}(q:H1.next<=m)(h:∀id b,H.get id=some b->H1.get id=some b):GF (H.up m) H1:=⟨q,h⟩
abbrev t (n:Nat):Operand:=.tmp n
def U:Env:=λ_=>undef
theorem J9 (A:Env)(d:Nat)(v:Value):upd A d v d=v:=QjX A d v
theorem VN (A:Env)(d n:Nat)(v:Value):upd A d v n=bif n==d then v else A n:=by
 by_cases h:n=d
 ·subst h;simp
 ·have e:(n==d)=false:=beq_false_of_ne h;rw[QhK A v h,e];rfl
theorem Qq7 (A:Env)(n:Nat):ev A (t n)=A n:=Nu rfl rfl
theorem Qxe (A:Env)(v:Value):ev A (.const v)=v:=Nu rfl rfl
theorem QBW (A:Env)(g:Nat):ev A (.global g)=.pointer (some ⟨g,0,none⟩):=Nu rfl rfl
theorem QE1 (A:Env)(f:Nat):ev A (.func f)=.func (.func f) #[] #[]:=Nu rfl rfl
theorem YN (A:Env)(d:Nat)(v:Value):GG A (some d) v=upd A d v:=Nu rfl rfl
theorem QgF (A:Env)(v:Value):GG A none v=A:=Nu rfl rfl
theorem QJX:QdL []=U:=by funext n;simp[QdL,U]
theorem QJY (a:Value):QdL [a]=upd U 0 a:=by
 funext n;rcases n with _ | n<;>rfl
theorem QJZ (a b:Value):QdL [a,b]=upd (upd U 0 a) 1 b:=by
 funext n;rcases n with _ | _ | n<;>rfl
theorem QJ0 (a b c:Value):QdL [a,b,c]=upd (upd (upd U 0 a) 1 b) 2 c:=by
 funext n;rcases n with _ | _ | _ | n<;>rfl
theorem QJ1 (a b c d:Value):QdL [a,b,c,d]=upd (upd (upd (upd U 0 a) 1 b) 2 c) 3 d:=by
 funext n;rcases n with _ | _ | _ | _ | n<;>rfl
theorem QJ2 (a b c d e:Value):QdL [a,b,c,d,e]=upd (upd (upd (upd (upd U 0 a) 1 b) 2 c) 3 d) 4 e:=by
 funext n;rcases n with _ | _ | _ | _ | _ | n<;>rfl
theorem QJ3 (a b c d e f g:Value):QdL [a,b,c,d,e,f,g]=upd (upd (upd (upd (upd (upd (upd U 0 a) 1 b) 2 c) 3 d) 4 e) 5 f) 6 g:=by
 funext n;rcases n with _ | _ | _ | _ | _ | _ | _ | n<;>rfl
section
variable {k:Value->Qa->Prop} {v:Value} {H H':Qa}
theorem QJ:onS (some (v,H')) k=k v H':=by
 apply propext;constructor
 ·rintro⟨aa,H1,h,q⟩;cases h;exact q
 ·exact λh=>⟨_,_,rfl,h⟩
theorem Qsd:onS none k=False:=by
 apply propext;constructor
 ·rintro⟨aa,H1,h,q⟩;cases h
 ·exact λh=>h.elim
theorem QnQ {c:Prop}[Decidable c]{a:Option (Value×Qa)}:onS (if c then a else none) k=(c∧onS a k):=by
 by_cases h:c
 ·simp[h]
 ·simp[h,Qsd]
theorem Qka {r:Option Value}:onS (Qj6 H r) k=∃v,r=some v∧k v H:=by
 cases r with
 | none=>simp[Qj6,Qsd]
 | some u=>simp[Qj6,QJ]
end
/-! ### Code -/
section
variable {P:Program}
def QnR (P:Program)(l:List PO)(k:Env->Qa->Prop)(A:Env)(d:Option Nat)(v:Value)(H:Qa):Prop:=Qdv P l k (GG A d v) H
theorem Ym (l:List PO)(k:Env->Qa->Prop)(A:Env)(d:Nat)(v:Value)(H:Qa):QnR P l k A (some d) v H=Qdv P l k (upd A d v) H:=Nu rfl rfl
theorem JK (l:List PO)(k:Env->Qa->Prop)(A:Env)(v:Value)(H:Qa):QnR P l k A none v H=Qdv P l k A H:=Nu rfl rfl
def gB (b:Bool)(P:Program)(r:R)(s:Bool)(l:List PO)(k:Env->Qa->Prop)(A:Env)(d:Option Nat)(H:Qa):Prop:=
 (b=true->pr P r s A H (QnR P l k A d))∧(b=false->Qdv P l k (GG A d undef) H)
def gV (v:Value)(w:Bool)(P:Program)(r:R)(s:Bool)(l:List PO)(k:Env->Qa->Prop)(A:Env)(d:Option Nat)(H:Qa):Prop:=
 match v with
 | .bool b=>gB (b==w) P r s l k A d H
 | .tuple _=>Qdv P l k (GG A d undef) H
 | _=>False
theorem QE2 (r:R)(s:Bool)(l:List PO)(k:Env->Qa->Prop)(A:Env)(d:Option Nat)(H:Qa):gB true P r s l k A d H=pr P r s A H (QnR P l k A d):=by simp[gB]
theorem QDf (r:R)(s:Bool)(l:List PO)(k:Env->Qa->Prop)(A:Env)(d:Option Nat)(H:Qa):gB false P r s l k A d H=Qdv P l k (GG A d undef) H:=by simp[gB]
theorem QE3 (b w:Bool)(r:R)(s:Bool)(l:List PO)(k:Env->Qa->Prop)(A:Env)(d:Option Nat)(H:Qa):gV (.bool b) w P r s l k A d H=gB (b==w) P r s l k A d H:=Nu rfl rfl
theorem QDg (w:Bool)(r:R)(s:Bool)(l:List PO)(k:Env->Qa->Prop)(A:Env)(d:Option Nat)(H:Qa):gV undef w P r s l k A d H=Qdv P l k (GG A d undef) H:=Nu rfl rfl
theorem bt (b:Bool):(b==true)=b:=by cases b<;>rfl
theorem bf (b:Bool):(b==false)=!b:=by cases b<;>rfl
theorem Ka (k:Env->Qa->Prop)(A:Env)(H:Qa):Qdv P [] k A H=k A H:=Nu rfl rfl
theorem Zg (d:Option Nat)(r:R)(s:Bool)(l:List PO)(k:Env->Qa->Prop)(A:Env)(H:Qa):Qdv P (⟨d,r,none,s⟩::l) k A H=pr P r s A H (QnR P l k A d):=Nu rfl rfl
theorem Qzi (d:Option Nat)(r:R)(n:Nat)(w s:Bool)(l:List PO)(k:Env->Qa->Prop)(A:Env)(H:Qa):Qdv P (⟨d,r,some (n,w),s⟩::l) k A H=gV (A n) w P r s l k A d H:=by
 show pg (some (n,w)) A (pr P r s A H (QnR P l k A d)) (Qdv P l k (GG A d undef) H)=_;show(match A n with | .bool b=>if b=w then pr P r s A H (QnR P l k A d) else Qdv P l k (GG A d undef) H | .tuple _=>Qdv P l k (GG A d undef) H | _=>False)=_;unfold gV;cases A n<;>try rfl
 rename_i b;cases b<;>cases w<;>simp[gB]
theorem QhX (ks:Kp)(k:Env->Qa->Prop)(A:Env)(H:Qa):Qm P .skip ks k A H=k A H:=Nu rfl rfl
theorem QBX (ks:Kp)(k:Env->Qa->Prop)(A:Env)(H:Qa):Qm P .ret ks k A H=ks.ret A H:=Nu rfl rfl
theorem Qzj (id:Nat)(ks:Kp)(k:Env->Qa->Prop)(A:Env)(H:Qa):Qm P (.exit id) ks k A H=ks.ext id A H:=Nu rfl rfl
theorem QuD (l:List PO)(ks:Kp)(k:Env->Qa->Prop)(A:Env)(H:Qa):Qm P (.ops l) ks k A H=Qdv P l k A H:=Nu rfl rfl
theorem V5 (a b:PC)(ks:Kp)(k:Env->Qa->Prop)(A:Env)(H:Qa):Qm P (.seq a b) ks k A H=Qm P a ks (Qm P b ks k) A H:=Nu rfl rfl
theorem QqC (l:Nat)(ks:Kp)(k:Env->Qa->Prop)(A:Env)(H:Qa):Qm P (.label l) ks k A H=k A H:=Nu rfl rfl
theorem Qzk (l:Nat)(ks:Kp)(k:Env->Qa->Prop)(A:Env)(H:Qa):Qm P (.goto l) ks k A H=ks.ext (J0+l) A H:=Nu rfl rfl
theorem Qxf {b r:PC}{l:Nat}{ks:Kp}{k:Env->Qa->Prop}{A:Env}{H:Qa}(I:Nat->Env->Qa->Prop)(m:Nat)(q:Qm P b ⟨ks.ret,jmK l I m ks.ext⟩ k A H)(h:∀m A' H',I m A' H'->Qm P r ⟨ks.ret,jmK l I m ks.ext⟩ k A' H'):Qm P (.scope b l r) ks k A H:=
 ⟨I,⟨m,q⟩,h⟩
def exK (id:Nat)(k:Env->Qa->Prop)(e:Nat->Env->Qa->Prop)(j:Nat):Env->Qa->Prop:=if j=id then k else e j
theorem QDh (id:Nat)(k:Env->Qa->Prop)(e:Nat->Env->Qa->Prop)(A:Env)(H:Qa):exK id k e id A H=k A H:=by simp[exK]
theorem QBY (id j:Nat)(k:Env->Qa->Prop)(e:Nat->Env->Qa->Prop)(A:Env)(H:Qa)(h:j≠id):exK id k e j A H=e j A H:=by simp[exK,h]
def WL:Nat->Env->Qa->Prop:=λ_ _ _=>False
theorem Qfo (id:Nat)(b:PC)(ks:Kp)(k:Env->Qa->Prop)(A:Env)(H:Qa):Qm P (.block id b) ks k A H=Qm P b ⟨ks.ret,exK id k ks.ext⟩ k A H:=Nu rfl rfl
theorem QHi (r:Env->Qa->Prop)(e:Nat->Env->Qa->Prop):(Kp.mk r e).ret=r:=Nu rfl rfl
theorem QHj (r:Env->Qa->Prop)(e:Nat->Env->Qa->Prop):(Kp.mk r e).ext=e:=Nu rfl rfl
def cB (b:Bool)(P:Program)(x y:PC)(ks:Kp)(k:Env->Qa->Prop)(A:Env)(H:Qa):Prop:=(b=true->Qm P x ks k A H)∧(b=false->Qm P y ks k A H)
def cV (v:Value)(P:Program)(x y:PC)(ks:Kp)(k:Env->Qa->Prop)(A:Env)(H:Qa):Prop:=match v with
 | .bool b=>cB b P x y ks k A H
 | _=>False
theorem KJ (c:Operand)(x y:PC)(ks:Kp)(k:Env->Qa->Prop)(A:Env)(H:Qa):Qm P (.cond c x y) ks k A H=cV (ev A c) P x y ks k A H:=Nu rfl rfl
theorem Qfp (b:Bool)(x y:PC)(ks:Kp)(k:Env->Qa->Prop)(A:Env)(H:Qa):cV (.bool b) P x y ks k A H=cB b P x y ks k A H:=Nu rfl rfl
theorem QnS (x y:PC)(ks:Kp)(k:Env->Qa->Prop)(A:Env)(H:Qa):cB true P x y ks k A H=Qm P x ks k A H:=by simp[cB]
theorem Qep (x y:PC)(ks:Kp)(k:Env->Qa->Prop)(A:Env)(H:Qa):cB false P x y ks k A H=Qm P y ks k A H:=by simp[cB]
/-! ### Operations -/
variable {k:Value->Qa->Prop} {A:Env} {H:Qa}
def flK (H:Qa)(k:Value->Qa->Prop)(v:Value)(H':Qa):Prop:=Qi H.next 6 v=true∧k v H'
theorem QBZ (H:Qa)(k:Value->Qa->Prop)(v:Value)(H':Qa):flK H k v H'=(Qi H.next 6 v=true∧k v H'):=Nu rfl rfl
def stK (H:Qa)(k:Value->Qa->Prop)(v:Value)(H':Qa):Prop:=(∀id,H'.get id=H.get id)∧k v H'
theorem QB0 (H:Qa)(k:Value->Qa->Prop)(v:Value)(H':Qa):stK H k v H'=((∀id,H'.get id=H.get id)∧k v H'):=Nu rfl rfl
theorem WW (r:Option (Value×Qa)):onS r (λv H'=>(false=true->Qi H.next 6 v=true)∧k v H')=onS r k:=by
 congr 1;funext v H';simp
theorem QE4 (r:Option (Value×Qa)):onS r (λv H'=>(true=true->Qi H.next 6 v=true)∧k v H')=onS r (flK H k):=by
 congr 1;funext v H';simp[flK]
theorem QE5 (f:FuncId)(l:List Operand):pr P (.call f l) false A H k=Qe P f (l.map (ev A)) H k:=by
 show Qe P f (l.map (ev A)) H (λv H'=>(false=true->∀id,H'.get id=H.get id)∧k v H')=_;congr 1;funext v H';simp
theorem Qzl (f:FuncId)(l:List Operand):pr P (.call f l) true A H k=Qe P f (l.map (ev A)) H (stK H k):=by
 show Qe P f (l.map (ev A)) H (λv H'=>(true=true->∀id,H'.get id=H.get id)∧k v H')=_;congr 1;funext v H';simp[stK]
def kpK (H:Qa)(k:Value->Qa->Prop)(v:Value)(H':Qa):Prop:=EqB H H'∧k v H'
theorem QB1 (H:Qa)(k:Value->Qa->Prop)(v:Value)(H':Qa):kpK H k v H'=(EqB H H'∧k v H'):=Nu rfl rfl
def Qxg (n:Nat):List Value->Prop
 | []=>True
 | v::l=>Qpw n v∧Qxg n l
theorem QDi (n:Nat):Qxg n []=True:=Nu rfl rfl
theorem QB2 (n:Nat)(v:Value)(l:List Value):Qxg n (v::l)=(Qpw n v∧Qxg n l):=Nu rfl rfl
theorem QDj (n b o:Nat):Qpw n (.pointer (some ⟨b,o,none⟩))=(b<n):=Nu rfl rfl
theorem Qzm (n b o l c:Nat):Qpw n (.slice (some ⟨b,o,none⟩) l c)=(b<n):=Nu rfl rfl
theorem Qse (n:Nat)(f:Operand->Value):∀l:List Operand,(∀z∈l,Qpw n (f z))↔Qxg n (l.map f)
 | []=>⟨λ_=>trivial,λ_ _ h=>by cases h⟩
 | x::l=>by
  have q:=Qse n f l;simp only[LK,forall_eq_or_imp,NZ,Qxg,q]
theorem QDk (f:FuncId)(l os:List Operand)(s:Bool):pr P (.callF f l os) s A H k=(Qxg H.next (os.map (ev A))∧Qe P f (l.map (ev A)) H (kpK H k)):=by
 show((∀z∈os,Qpw H.next (ev A z))∧Qe P f (l.map (ev A)) H λv H'=>EqB H H'∧k v H')=_;rw[Qse];rfl
def cvK (v:Value)(P:Program)(l:List Value)(H:Qa)(k:Value->Qa->Prop):Prop:=match v with
 | .func (.func f) xs ys=>Qe P f (xs.toList++l++ys.toList) H k
 | .func (.yield y) ⟨[]⟩ ⟨[]⟩=>YQ P y l H k
 | _=>False
theorem Qeh (y:Nat)(l:List Value):cvK (.func (.yield y) #[] #[]) P l H k=YQ P y l H k:=Nu rfl rfl
theorem Qc3 (f:FuncId)(xs ys l:List Value):cvK (.func (.func f) xs.toArray ys.toArray) P l H k=Qe P f (xs++l++ys) H k:=Nu rfl rfl
theorem QDl (c:Operand)(l:List Operand):pr P (.callv c l) false A H k=cvK (ev A c) P (l.map (ev A)) H k:=by
 show(match ev A c with | .func (.func f) xs ys=>Qe P f (xs.toList++l.map (ev A)++ys.toList) H (λv H'=>(false=true->∀id,H'.get id=H.get id)∧k v H') | .func (.yield y) ⟨[]⟩ ⟨[]⟩=>YQ P y (l.map (ev A)) H (λv H'=>(false=true->∀id,H'.get id=H.get id)∧k v H') | _=>False)=_;unfold cvK;split<;>first | rfl | skip
 all_goals (congr 1;funext v H';simp)
theorem Qkb (x:Operand):pr P (.mv x) false A H k=k (ev A x) H:=(WW _).trans QJ
def QGL (c x y:Value)(H:Qa)(k:Value->Qa->Prop):Prop:=onS (match c with | .bool b=>some (bif b then x else y,H) | _=>none) k
theorem Qlu (c x y:Operand):pr P (.pick c x y) false A H k=QGL (ev A c) (ev A x) (ev A y) H k:=WW _
theorem QcC (b:Bool)(x y:Value):QGL (.bool b) x y H k=k (bif b then x else y) H:=QJ
def QcD (op:BinOp)(x y:Value)(H:Qa)(k:Value->Qa->Prop):Prop:=∃v,QcA op x y=some v∧k v H
theorem QHk (op:BinOp)(x y:Operand):pr P (.bin op x y) false A H k=QcD op (ev A x) (ev A y) H k:=(WW _).trans Qka
theorem Yn {op:BinOp}{x y v:Value}(h:QcA op x y=some v):QcD op x y H k=k v H:=by
 apply propext;constructor
 ·rintro⟨u,q,aa⟩;rw[h]at q;cases q;exact aa
 ·exact λab=>⟨v,h,ab⟩
theorem QE6 (ik:IntKind)(a b:Int):QcD .add (.int ik a) (.int ik b) H k=k (.int ik (ik.wrap (a+b))) H:=Yn (by simp[QcA,Jj])
theorem QE7 (ik:IntKind)(a b:Int):QcD .sub (.int ik a) (.int ik b) H k=k (.int ik (ik.wrap (a - b))) H:=Yn (by simp[QcA,Jj])
theorem QE8 (ik:IntKind)(a b:Int):QcD .mul (.int ik a) (.int ik b) H k=k (.int ik (ik.wrap (a * b))) H:=Yn (by simp[QcA,Jj])
theorem QE9 (ik:IntKind)(a b:Int):QcD .and (.int ik a) (.int ik b) H k=k (.int ik (ik.wrap (BitVec.ofInt ik.bits a &&& BitVec.ofInt ik.bits b).toNat)) H:=Yn (by simp[QcA,Jj])
theorem QHl (ik:IntKind)(a b:Int):QcD .or (.int ik a) (.int ik b) H k=k (.int ik (ik.wrap (BitVec.ofInt ik.bits a ||| BitVec.ofInt ik.bits b).toNat)) H:=Yn (by simp[QcA,Jj])
theorem QFa (ik:IntKind)(a b:Int):QcD .xor (.int ik a) (.int ik b) H k=k (.int ik (ik.wrap (BitVec.ofInt ik.bits a ^^^ BitVec.ofInt ik.bits b).toNat)) H:=Yn (by simp[QcA,Jj])
theorem Qzn (ik:IntKind)(a b:Int):QcD .andNot (.int ik a) (.int ik b) H k=k (.int ik (ik.wrap (BitVec.ofInt ik.bits a &&& ~~~BitVec.ofInt ik.bits b).toNat)) H:=Yn (by simp[QcA,Jj])
theorem QFb (ik:IntKind)(a b:Int):QcD .eql (.int ik a) (.int ik b) H k=k (.bool (a==b)) H:=Yn (by simp[QcA,Jj])
theorem QFc (ik:IntKind)(a b:Int):QcD .neq (.int ik a) (.int ik b) H k=k (.bool (!(a==b))) H:=Yn (by simp[QcA,Jj,bne])
theorem QFd (ik:IntKind)(a b:Int):QcD .lss (.int ik a) (.int ik b) H k=k (.bool (decide (a<b))) H:=Yn (by simp[QcA,Jj])
theorem QFe (ik:IntKind)(a b:Int):QcD .leq (.int ik a) (.int ik b) H k=k (.bool (decide (a<=b))) H:=Yn (by simp[QcA,Jj])
theorem QFf (ik:IntKind)(a b:Int):QcD .gtr (.int ik a) (.int ik b) H k=k (.bool (decide (b<a))) H:=Yn (by simp[QcA,Jj])
theorem QFg (ik:IntKind)(a b:Int):QcD .geq (.int ik a) (.int ik b) H k=k (.bool (decide (b<=a))) H:=Yn (by simp[QcA,Jj])
theorem QFh (ik:IntKind)(a b:Int):QcD .rem (.int ik a) (.int ik b) H k=(b≠0∧k (.int ik (a.tmod b)) H):=by
 unfold QcD;by_cases h:b=0<;>simp[QcA,Jj,h]
theorem QFi (ik:IntKind)(a b:Int):QcD .quo (.int ik a) (.int ik b) H k=(b≠0∧k (.int ik (ik.wrap (a.tdiv b))) H):=by
 unfold QcD;by_cases h:b=0<;>simp[QcA,Jj,h]
theorem QFj (ik q:IntKind)(a b:Int):QcD .shl (.int ik a) (.int q b) H k=(0<=b∧k (.int ik (ik.wrap (a * 2 ^ (min b.toNat ik.bits)))) H):=by
 unfold QcD;by_cases h:b<0
 ·simp[QcA,QcY,h];omega
 ·simp[QcA,QcY,h];intro _;omega
theorem QFk (ik q:IntKind)(a b:Int):QcD .shr (.int ik a) (.int q b) H k=(0<=b∧k (.int ik (a.fdiv (2 ^ (min b.toNat ik.bits)))) H):=by
 unfold QcD;by_cases h:b<0
 ·simp[QcA,QcY,h];omega
 ·simp[QcA,QcY,h];intro _;omega
theorem QFl (a b:ByteArray):QcD .eql (.string a) (.string b) H k=k (.bool (bl a==bl b)) H:=Yn (by simp[QcA,QmB])
theorem QFm (a b:ByteArray):QcD .neq (.string a) (.string b) H k=k (.bool (!(bl a==bl b))) H:=Yn (by simp[QcA,QmB])
theorem QDm (a b:ByteArray):QcD .add (.string a) (.string b) H k=((bl a).length+(bl b).length<=9223372036854775807∧k (.string (mkS (bl a++bl b))) H):=by
 unfold QcD;by_cases h:(bl a).length+(bl b).length<=9223372036854775807<;>simp[QcA,QmB,h]
def QHm (ne:Bool)(x y:Value)(H:Qa)(k:Value->Qa->Prop):Prop:=onS (match x,y with | .bool a,.bool b=>some (.bool (bif ne then !(a==b) else a==b),H) | _,_=>none) k
theorem QHn (ne:Bool)(x y:Operand):pr P (.beq ne x y) false A H k=QHm ne (ev A x) (ev A y) H k:=WW _
theorem QFn (a b:Bool):QHm false (.bool a) (.bool b) H k=k (.bool (a==b)) H:=QJ
theorem QFo (a b:Bool):QHm true (.bool a) (.bool b) H k=k (.bool (!(a==b))) H:=QJ
def QFp (ne:Bool)(ks:List Sk)(x y:Value)(H:Qa)(k:Value->Qa->Prop):Prop:=onS (match x,y with
 | .agg xs,.agg ys=>match Qd5 ks xs ys 0 with | some b=>some (.bool (bif ne then !b else b),H) | none=>none
 | _,_=>none) k
theorem QHo (ne:Bool)(ks:List Sk)(x y:Operand):pr P (.eqs ne ks x y) false A H k=QFp ne ks (ev A x) (ev A y) H k:=WW _
theorem QB3 {ne:Bool}{ks:List Sk}{xs ys:Array Value}{b:Bool}(h:Qd5 ks xs ys 0=some b):QFp ne ks (.agg xs) (.agg ys) H k=k (.bool (bif ne then !b else b)) H:=by
 simp only[QFp,h,QJ]
def QIL (x:Value)(H:Qa)(k:Value->Qa->Prop):Prop:=onS (match x with | .bool b=>some (.bool !b,H) | _=>none) k
theorem QHp (x:Operand):pr P (.not x) false A H k=QIL (ev A x) H k:=WW _
theorem QB4 (b:Bool):QIL (.bool b) H k=k (.bool !b) H:=QJ
def QDn (ik:IntKind)(x:Value)(H:Qa)(k:Value->Qa->Prop):Prop:=onS (match x with | .int _ m=>some (.int ik (ik.wrap m),H) | _=>none) k
theorem QDo (ik:IntKind)(x:Operand):pr P (.toInt ik x) false A H k=QDn ik (ev A x) H k:=WW _
theorem Qzo (ik q:IntKind)(m:Int):QDn ik (.int q m) H k=k (.int ik (ik.wrap m)) H:=QJ
theorem QFq (ty:TypeId)(x:Operand):pr P (.mkIf ty x) false A H k=k (.iface ty (ev A x)) H:=(WW _).trans QJ
def QHq (agg:Bool)(off size:Nat)(x:Value)(H:Qa)(k:Value->Qa->Prop):Prop:=onS (match x with
 | .agg cs=>Qj6 H (bif agg then some (.agg (cs.extract off (off+size))) else cs[off]?)
 | _=>none) k
theorem QHr (agg:Bool)(off size:Nat)(x:Operand):pr P (.fld agg off size x) false A H k=QHq agg off size (ev A x) H k:=WW _
theorem QB5 (off size:Nat)(l:List Value):QHq false off size (.agg l.toArray) H k=∃v,l[off]? = some v∧k v H:=by
 show onS (Qj6 H l.toArray[off]?) k=_;rw[Qka];simp
theorem QDp (off size:Nat)(l:List Value):QHq true off size (.agg l.toArray) H k=k (.agg ((l.drop off).take size).toArray) H:=by
 show onS (Qj6 H (some (.agg (l.toArray.extract off (off+size))))) k=_;rw[Qka];simp
def QGM (off:Nat)(x:Value)(H:Qa)(k:Value->Qa->Prop):Prop:=onS (match x with | .pointer (some a)=>some (.pointer (some ⟨a.block,a.off+off,none⟩),H) | _=>none) k
theorem QrI (off:Nat)(x:Operand):pr P (.fldA off x) false A H k=QGM off (ev A x) H k:=WW _
theorem Qlv (off b o:Nat):QGM off (.pointer (some ⟨b,o,none⟩)) H k=k (.pointer (some ⟨b,o+off,none⟩)) H:=QJ
def QIM (size:Nat)(x q:Value)(H:Qa)(k:Value->Qa->Prop):Prop:=onS (match q,x with
 | .int _ m,.slice (some a) len _=>if 0<=m∧m<len then some (.pointer (some ⟨a.block,a.off+m.toNat * size,none⟩),H) else none
 | _,_=>none) k
theorem QFr (size:Nat)(x q:Operand):pr P (.idxS size x q) false A H k=QIM size (ev A x) (ev A q) H k:=WW _
theorem Qzp (size:Nat)(ik:IntKind)(m:Int)(b o len cap:Nat):QIM size (.slice (some ⟨b,o,none⟩) len cap) (.int ik m) H k=((0<=m∧m<len)∧k (.pointer (some ⟨b,o+m.toNat * size,none⟩)) H):=by
 show onS (if 0<=m∧m<len then some (.pointer (some ⟨b,o+m.toNat * size,none⟩),H) else none) k=_;rw[QnQ,QJ]
def QIN (x q:Value)(H:Qa)(k:Value->Qa->Prop):Prop:=onS (match q,x with
 | .int _ m,.string s=>if 0<=m then(match (bl s)[m.toNat]? with | some b=>some (.int .u8 b.toNat,H) | none=>none) else none
 | _,_=>none) k
theorem QHs (x q:Operand):pr P (.chr x q) false A H k=QIN (ev A x) (ev A q) H k:=WW _
theorem QDq (ik:IntKind)(m:Int)(s:ByteArray):QIN (.string s) (.int ik m) H k=(0<=m∧∃b,(bl s)[m.toNat]? = some b∧k (.int .u8 b.toNat) H):=by
 show onS (if 0<=m then(match (bl s)[m.toNat]? with | some b=>some (.int .u8 b.toNat,H) | none=>none) else none) k=_;rw[QnQ];congr 1;cases hb:(bl s)[m.toNat]? with
 | some b=>simp[QJ]
 | none=>simp[Qsd]
def QFs (x:Value)(i:Nat)(H:Qa)(k:Value->Qa->Prop):Prop:=onS (match x with | .tuple q=>Qj6 H q[i]? | _=>none) k
theorem QDr (x:Operand)(i:Nat):pr P (.ext x i) false A H k=QFs (ev A x) i H k:=WW _
theorem QDs (a:Value)(l:List Value):QFs (.tuple (a::l).toArray) 0 H k=k a H:=QJ
theorem QDt (a b:Value)(l:List Value):QFs (.tuple (a::b::l).toArray) 1 H k=k b H:=QJ
theorem QHt (a b c:Value)(l:List Value):QFs (.tuple (a::b::c::l).toArray) 2 H k=k c H:=QJ
def QDu (r:Option (List Value))(H:Qa)(k:Value->Qa->Prop):Prop:=onS (match r with | some r=>some (.agg r.toArray,H) | none=>none) k
theorem QDv (z:List Value)(q:List (Nat×Nat×Operand)):pr P (.build z q) false A H k=QDu (Qqx (ev A) z q) H k:=WW _
theorem Qxh (l:List Value):QDu (some l) H k=k (.agg l.toArray) H:=QJ
theorem QB6 (f:Operand->Value)(cells:List Value):Qqx f cells []=some cells:=Nu rfl rfl
theorem Qsf (f:Operand->Value)(cells:List Value)(off size:Nat)(x:Operand)(q:List (Nat×Nat×Operand)):Qqx f cells ((off,size,x)::q)=if(f x).cells.toList.length=size∧off+size<=cells.length then Qqx f (splice cells off (f x).cells.toList) q else none:=Nu rfl rfl
def QAT (e len:Nat)(r:Option (List Value))(H:Qa)(k:Value->Qa->Prop):Prop:=onS (match r with | some r=>some (.slice (some ⟨H.next,0,none⟩) len len,H.push (.cells r e false)) | none=>none) k
def Qxi (size:Nat)(cells:List Value)(q:List (Nat×Value)):Option (List Value):=Qfh (λi=>some (i * size,size)) cells q
def evP (A:Env)(p:Nat×Operand):Nat×Value:=(p.1,ev A p.2)
theorem QDw (A:Env)(i:Nat)(x:Operand):evP A (i,x)=(i,ev A x):=Nu rfl rfl
theorem QuE (e size len:Nat)(z:List Value)(q:List (Nat×Operand)):pr P (.bslice e size len z q) false A H k=QAT e len (Qxi size z (q.map (evP A))) H k:=WW _
theorem QnT (e len:Nat)(l:List Value):QAT e len (some l) H k=k (.slice (some ⟨H.next,0,none⟩) len len) (H.push (.cells l e false)):=QJ
theorem QB7 (size:Nat)(cells:List Value):Qxi size cells []=some cells:=Nu rfl rfl
theorem Qsg (size:Nat)(cells:List Value)(i:Nat)(v:Value)(q:List (Nat×Value)):Qxi size cells ((i,v)::q)=if v.cells.toList.length=size∧i * size+size<=cells.length then Qxi size (splice cells (i * size) v.cells.toList) q else none:=Nu rfl rfl
theorem QDx (e:TypeId)(z:List Value):pr P (.alloc e z) false A H k=k (.pointer (some ⟨H.next,0,none⟩)) (H.push (.cells z e false)):=(WW _).trans QJ
theorem QHu (e:TypeId)(x:Operand):pr P (.box e x) false A H k=k (.pointer (some ⟨H.next,0,none⟩)) (H.push (.cells (ev A x).cells.toList e false)):=(WW _).trans QJ
def QGN (e size bytes:Nat)(z:List Value)(x y:Value)(H:Qa)(k:Value->Qa->Prop):Prop:=onS (match x,y with
 | .int .i64 l,.int .i64 c=>if 0<=l∧l<=c∧(bytes:Int) * c<=281474976710656∧c<=9223372036854775807 then
   some (.slice (some ⟨H.next,0,none⟩) l.toNat c.toNat,H.push (.cells (YM z.toArray (c.toNat * size)) e false)) else none
 | _,_=>none) k
theorem QFt (e size bytes:Nat)(z:List Value)(x y:Operand):pr P (.mkSl e size bytes z x y) false A H k=QGN e size bytes z (ev A x) (ev A y) H k:=WW _
theorem QuF (e size bytes:Nat)(z:List Value)(l c:Int):QGN e size bytes z (.int .i64 l) (.int .i64 c) H k=((0<=l∧l<=c∧(bytes:Int) * c<=281474976710656∧c<=9223372036854775807)∧k (.slice (some ⟨H.next,0,none⟩) l.toNat c.toNat) (H.push (.cells (YM z.toArray (c.toNat * size)) e false))):=by
 show onS (if 0<=l∧l<=c∧(bytes:Int) * c<=281474976710656∧c<=9223372036854775807 then some (.slice (some ⟨H.next,0,none⟩) l.toNat c.toNat,H.push (.cells (YM z.toArray (c.toNat * size)) e false)) else none) k=_;rw[QnQ,QJ]
def slK (size:Nat)(x:Value)(q hi:Option (Option Int))(H:Qa)(k:Value->Qa->Prop):Prop:=onS (match q,hi with
 | some l,some h=>Qj6 H (QaC size x l h none)
 | _,_=>none) k
theorem QDy (size:Nat)(x:Value)(l h:Option Int):slK size x (some l) (some h) H k=∃v,QaC size x l h none=some v∧k v H:=Qka
theorem QHv (size:Nat)(x:Operand)(q hi:Option Operand):pr P (.slS size x q hi) false A H k=slK size (ev A x) (Quz (ev A) q) (Quz (ev A) hi) H k:=WW _
theorem Qzq (f:Operand->Value):Quz f none=some none:=Nu rfl rfl
theorem Qzr (f:Operand->Value)(x:Operand):Quz f (some x)=match f x with | .int _ m=>some (some m) | _=>none:=Nu rfl rfl
def ldB (agg:Bool)(size off:Nat)(b:Option Blk)(H:Qa)(k:Value->Qa->Prop):Prop:=onS (match b with
 | some (.cells c _ _)=>bif agg then(if off+size<=c.length then some (.agg ((c.drop off).take size).toArray,H) else none) else Qj6 H c[off]?
 | _=>none) k
def ldK (agg:Bool)(size:Nat)(x:Value)(H:Qa)(k:Value->Qa->Prop):Prop:=onS (match x with
 | .pointer (some a)=>match H.get a.block with
  | some (.cells c _ _)=>bif agg then(if a.off+size<=c.length then some (.agg ((c.drop a.off).take size).toArray,H) else none) else Qj6 H c[a.off]?
  | _=>none
 | _=>none) k
theorem QGO (agg:Bool)(size:Nat)(x:Operand):pr P (.ld agg size x) false A H k=ldK agg size (ev A x) H k:=WW _
theorem QDz (agg:Bool)(size:Nat)(x:Operand):pr P (.ld agg size x) true A H k=ldK agg size (ev A x) H (flK H k):=QE4 _
theorem QAU (agg:Bool)(size b o:Nat):ldK agg size (.pointer (some ⟨b,o,none⟩)) H k=ldB agg size o (H.get b) H k:=Nu rfl rfl
theorem Qxj (size off:Nat)(c:List Value)(e:TypeId)(ro:Bool):ldB false size off (some (.cells c e ro)) H k=∃v,c[off]? = some v∧k v H:=Qka
theorem QAV (size off:Nat)(c:List Value)(e:TypeId)(ro:Bool):ldB true size off (some (.cells c e ro)) H k=(off+size<=c.length∧k (.agg ((c.drop off).take size).toArray) H):=by
 show onS (if off+size<=c.length then some (.agg ((c.drop off).take size).toArray,H) else none) k=_;rw[QnQ,QJ]
def QIO (size:Nat)(a:Addr)(y:Value)(b:Option Blk)(H:Qa)(k:Value->Qa->Prop):Prop:=onS (match b with
 | some (.cells c e false)=>if y.cells.toList.length=size∧a.off+y.cells.toList.length<=c.length∧y.cells.toList.all (·.oneCell')=true then some (undef,H.set a.block (.cells (splice c a.off y.cells.toList) e false)) else none
 | _=>none) k
def QHw (size:Nat)(x y:Value)(H:Qa)(k:Value->Qa->Prop):Prop:=onS (match x with
 | .pointer (some a)=>match H.get a.block with
  | some (.cells c e false)=>if y.cells.toList.length=size∧a.off+y.cells.toList.length<=c.length∧y.cells.toList.all (·.oneCell')=true then some (undef,H.set a.block (.cells (splice c a.off y.cells.toList) e false)) else none
  | _=>none
 | _=>none) k
theorem QAW (size:Nat)(x y:Operand):pr P (.st size x y) false A H k=QHw size (ev A x) (ev A y) H k:=WW _
theorem Qsh (size b o:Nat)(y:Value):QHw size (.pointer (some ⟨b,o,none⟩)) y H k=QIO size ⟨b,o,none⟩ y (H.get b) H k:=Nu rfl rfl
theorem QmM (size b o:Nat)(y:Value)(c:List Value)(e:TypeId):QIO size ⟨b,o,none⟩ y (some (.cells c e false)) H k=((y.cells.toList.length=size∧o+y.cells.toList.length<=c.length∧y.cells.toList.all (·.oneCell')=true)∧k undef (H.set b (.cells (splice c o y.cells.toList) e false))):=by
 show onS (if y.cells.toList.length=size∧o+y.cells.toList.length<=c.length∧y.cells.toList.all (·.oneCell')=true then some (undef,H.set b (.cells (splice c o y.cells.toList) e false)) else none) k=_;rw[QnQ,QJ]
def apL:List Value->Value->Prop
 | [],_=>True
 | z::l,x=>QmI x z∧apL l x
def apK (os:List Value)(x:Value)(k:Value->Qa->Prop)(v:Value)(H':Qa):Prop:=apL os x∧k v H'
theorem QuG (os:List Value)(x:Value)(k:Value->Qa->Prop)(v:Value)(H':Qa):apK os x k v H'=(apL os x∧k v H'):=Nu rfl rfl
theorem QFu (x:Value):apL [] x=True:=Nu rfl rfl
theorem QDA (z x:Value)(l:List Value):apL (z::l) x=(QmI x z∧apL l x):=Nu rfl rfl
theorem Qzs (b o b' o':Nat):QmI (.pointer (some ⟨b,o,none⟩)) (.pointer (some ⟨b',o',none⟩))=(b'≠b):=Nu rfl rfl
theorem QvB (b o:Nat):QmI (.pointer (some ⟨b,o,none⟩)) undef=True:=Nu rfl rfl
theorem QFv (os:List Operand)(x:Value):apL (os.map (ev A)) x=∀z∈os,QmI x (ev A z):=by
 induction os with
 | nil=>simp[apL]
 | cons z l q=>simp[apL,q]
theorem QHx (size:Nat)(x y:Operand)(os:List Operand)(s:Bool):pr P (.stf size x y os) s A H k=QHw size (ev A x) (ev A y) H (apK (os.map (ev A)) (ev A x) k):=by
 show onS (rop P (.st size x y) A H) (λv H'=>(∀z∈os,QmI (ev A x) (ev A z))∧k v H')=onS (rop P (.st size x y) A H) _;congr 1;funext v H';rw[QuG,QFv]
def QGP (x:Value)(H:Qa)(k:Value->Qa->Prop):Prop:=onS (match x with | .slice _ m _=>some (.int .i64 (m:Int),H) | _=>none) k
theorem QFw (x:Operand):pr P (.lenS x) false A H k=QGP (ev A x) H k:=WW _
theorem QL (a:Option Addr)(len cap:Nat):QGP (.slice a len cap) H k=k (.int .i64 (len:Int)) H:=QJ
def QGQ (x:Value)(H:Qa)(k:Value->Qa->Prop):Prop:=onS (match x with | .string s=>some (.int .i64 ((bl s).length:Int),H) | _=>none) k
theorem QFx (x:Operand):pr P (.lenT x) false A H k=QGQ (ev A x) H k:=WW _
theorem QB8 (s:ByteArray):QGQ (.string s) H k=k (.int .i64 ((bl s).length:Int)) H:=QJ
def QbP (e size bytes:Nat)(s x:Value)(H:Qa)(k:Value->Qa->Prop):Prop:=onS (Y4 e size bytes s x H) k
theorem QDB (e size bytes:Nat)(x y:Operand):pr P (.app e size bytes x y) false A H k=QbP e size bytes (ev A x) (ev A y) H k:=WW _
theorem QAX (e size bytes:Nat)(x y:Operand)(os:List Operand)(s:Bool):pr P (.appF e size bytes x y os) s A H k=(Qxg H.next (os.map (ev A))∧QbP e size bytes (ev A x) (ev A y) H (kpK H k)):=by
 show((∀z∈os,Qpw H.next (ev A z))∧onS (rop P (.app e size bytes x y) A H) λv H'=>EqB H H'∧k v H')=_;rw[Qse];rfl
def QIP (P:Program)(o:Op)(A:Env)(H:Qa)(k:Value->Qa->Prop):Prop:=onS (rop P (.gen o) A H) k
theorem QnU (f:FuncId)(l:List Operand):pr P (.gen (.makeFunc (.func f) #[] l.toArray)) false A H k=k (.func (.func f) #[] (l.map (ev A)).toArray) H:=by
 have e:rop P (.gen (.makeFunc (.func f) #[] l.toArray)) A H=some (.func (.func f) #[] (l.map (ev A)).toArray,H):=by simp[rop,aop,QmH,Qd2]
 refine(WW _).trans ?_;rw[e,QJ]
def QIQ (v:Value)(H:Qa)(k:Value->Qa->Prop):Prop:=onS (bif QhL v then some (v,H) else none) k
theorem QHy (x:Operand):pr P (.gen (.nilCheck x)) false A H k=QIQ (ev A x) H k:=by
 have e:rop P (.gen (.nilCheck x)) A H=(bif QhL (ev A x) then some (ev A x,H) else none):=by
  simp only[rop,aop,Qen];cases QhL (ev A x)<;>rfl
 refine(WW _).trans ?_;rw[e];rfl
theorem QDC (a:Addr):QIQ (.pointer (some a)) H k=k (.pointer (some a)) H:=QJ
theorem QAY {x y:Operand}{q:Array TypeId}{ik:IntKind}{a b:Int}(aa:ev A x=.int ik a)(ab:ev A y=.int ik b):pr P (.gen (.call ⟨.builtin .max,#[x,y],q⟩)) false A H k=k (.int ik (if b>a then b else a)) H:=by
 have e:rop P (.gen (.call ⟨.builtin .max,#[x,y],q⟩)) A H=some (.int ik (if b>a then b else a),H):=by simp[rop,aop,QhT,aa,ab]
 refine(WW _).trans ?_;rw[e,QJ]
theorem Qxk (ty:TypeId):pr P (.gen (.makeMap ty none)) false A H k=k (.map (some H.next)) (H.push (.map [])):=by
 have e:rop P (.gen (.makeMap ty none)) A H=some (.map (some H.next),H.push (.map [])):=by simp[rop,aop]
 refine(WW _).trans ?_;rw[e,QJ]
def QvC (n:Int):List (Value×Value)->Nat->Option (Option (Nat×Value))
 | [],_=>some none
 | (.int .i64 a,b)::l,i=>if n=a then some (some (i,b)) else QvC n l (i+1)
 | _,_=>none
theorem QmN (n:Int):∀ (es:List (Value×Value)) (i:Nat) r,QvC n es i=some r->Qr4 (.int .i64) (.int .i64 n) es i=some r
 | [],i,r,h=>h
 | (a,b)::l,i,r,h=>by
  cases a with
  | int ik z=>
   cases ik with
   | i64=>
    have g:(if n=z then some (some (i,b)) else QvC n l (i+1))=some r:=h;unfold Qr4;simp only[Qfj,Lq,Instr.sameNow,N3]
    by_cases q:n=z
    ·rw[Lc q]at g;subst q;have hb:(n==n)=true:=by simp
     simp only[hb];exact g
    ·rw[Le q]at g;have:(n==z)=false:=by simp[q]
     simp only[this];exact QmN n _ _ r g
   | _=>exact absurd h (by simp[QvC])
  | _=>exact absurd h (by simp[QvC])
theorem QnV {ty aa e:TypeId}{x q y:Operand}{m:Nat}{n:Int}{es:List (Value×Value)}(ab:P.underlying ty=some (.map aa e))(ac:P.underlying aa=some (.int .i64))(ai:ev A x=.map (some m))(ae:ev A q=.int .i64 n)(ag:H.get m=some (.map es))(ah:QvC n es 0=some none):
  pr P (.gen (.insert ty x q y)) false A H k=k undef (H.set m (.map (es++[(.int .i64 n,ev A y)]))):=by
 have ad:=QmN n es 0 _ ah;have e:rop P (.gen (.insert ty x q y)) A H=some (undef,H.set m (.map (es++[(.int .i64 n,ev A y)]))):=by simp[rop,aop,Qr6,ab,Qw5,ac,ai,ae,ag,ad,Qfj]
 refine(WW _).trans ?_;rw[e,QJ]
def Qxl (z:Value):Option (Nat×Value)->Value
 | none=>.tuple #[z,.bool false]
 | some (_,v)=>.tuple #[v,.bool true]
theorem QB9 {ty ab e:TypeId}{aa:TypeInfo}{z:Value}{x q:Operand}{m:Nat}{n:Int}{es:List (Value×Value)}{r:Option (Nat×Value)}(ac:P.underlying ty=some (.map ab e))(ad:P.underlying ab=some (.int .i64))(ae:P.info? e=some aa)(ag:aa.zero=some z)(am:ZC z=true)(al:ev A x=.map (some m))(ai:ev A q=.int .i64 n)(aj:H.get m=some (.map es))(ak:QvC n es 0=some r):
  pr P (.gen (.lookup ty x q true)) false A H k=k (Qxl z r) H:=by
 have ah:=QmN n es 0 _ ak;have e:rop P (.gen (.lookup ty x q true)) A H=some (Qxl z r,H):=by
  cases r<;>simp[Qxl,rop,aop,QnL,ac,QAJ,ad,ae,ag,am,al,ai,aj,ah,Qfj]
 refine(WW _).trans ?_;rw[e,QJ]
theorem QHz (o:Op):pr P (.gen o) false A H k=QIP P o A H k:=WW _
end
theorem QvD {e size bytes m len b o cap:Nat}{q c:List Value}{x:Value}{H:Qa}{ro:Bool}{e':TypeId}(ah:Zt size x H=some (m,q))(aa:q.all (·.oneCell')=true)(ad:m≠0)(hb:H.get b=some (.cells c e' ro))
  (ac:o+len * size<=c.length) (ag:(len+m) * bytes<=140737488355328) (ae:len+m<=9223372036854775807) (ai:cap<UNK) (ab:¬len+m<=cap):
  Y4 e size bytes (.slice (some ⟨b,o,none⟩) len cap) x H=some (.slice (some ⟨H.next,0,none⟩) (len+m) (UNK+size),H.push (.cells ((c.drop o).take (len * size)++q) e false)):=by
 simp only[Y4,ah,aa,N3,ad,LN,hb];rw[Lc ⟨ac,ae,ag⟩,Le (by omega),Le ab]
theorem Qxm {e size bytes m len b o cap:Nat}(aa:o=0){q c:List Value}{x:Value}{H:Qa}(ai:Zt size x H=some (m,q))(ab:q.all (·.oneCell')=true)(ae:m≠0)(hb:H.get b=some (.cells c e false))
  (ad:o+len * size=c.length) (ah:(len+m) * bytes<=140737488355328) (ag:len+m<=9223372036854775807) (ac:UNK<=cap):
  Y4 e size bytes (.slice (some ⟨b,o,none⟩) len cap) x H=some (.slice (some ⟨H.next,0,none⟩) (len+m) (UNK+size),(H.kill b).push (.cells (c.drop o++q) e false)):=by
 simp only[Y4,ai,ab,N3,ae,LN,hb];rw[Lc ⟨by omega,ag,ah⟩,Lc ac,Lc ⟨trivial,trivial,aa,ad⟩]
theorem Qxn {e size bytes m:Nat}{q:List Value}{x:Value}{H:Qa}(ae:Zt size x H=some (m,q))(aa:q.all (·.oneCell')=true)(ab:m≠0)(ad:m * bytes<=140737488355328)(ac:m<=9223372036854775807):
  Y4 e size bytes (.slice none 0 0) x H=some (.slice (some ⟨H.next,0,none⟩) m (UNK+size),H.push (.cells q e false)):=by
 simp only[Y4,ae,aa,N3,ab,LN];rw[Lc ⟨ac,ad⟩]
/-! ### QG7 of functions -/
def Ret (H0:Qa)(k:Value->Qa->Prop)(v:Value)(H:Qa):Prop:=∃H2,GF H2 H∧(H.Wf->H2.Wf)∧H0.next<=H2.next∧k v H2
theorem Ret.mk {H0 H:Qa}{k:Value->Qa->Prop}{v:Value}(q:H0.next<=H.next)(h:k v H):Ret H0 k v H:=⟨H,.refl H,id,q,h⟩
theorem Qa.Wf.up {H:Qa}(h:H.Wf){m:Nat}(aa:H.next<=m):(H.up m).Wf:=λid q=>h id (N8 aa q)
theorem Ret.up {H0 H:Qa}{k:Value->Qa->Prop}{v:Value}(aa:H0.Wf)(q:H0.next<=H.next)(ab:∀id,id<H0.next->H.get id=H0.get id)(h:k v (H0.up H.next)):Ret H0 k v H:=
 ⟨H0.up H.next,GF.up (Lb _) (λid b hb=>by rw[ab id (aa.lt hb)];exact hb),λ_=>aa.up q,q,h⟩
def Rt (P:Program)(fn:Func)(H0:Qa)(k:Value->Qa->Prop):Env->Qa->Prop:=QvA P fn λv H'=>H0.next<=H'.next∧k v H'
section
variable {P:Program} {fn:Func} {H0:Qa} {k:Value->Qa->Prop} {A:Env} {H:Qa}
theorem QJ4 (q:fn.results=#[]):Rt P fn H0 k A H=Ret H0 k (.tuple #[]) H:=by
 simp[Rt,QvA,Ret,QmE,q]
theorem QJ5 {r:Nat}(aa:fn.results=#[.tmp r])(q:Nat.blt r fn.ntmps=true):Rt P fn H0 k A H=Ret H0 k (A r) H:=by
 have:r<fn.ntmps:=by simpa using q
 simp[Rt,QvA,Ret,QmE,aa,Qc0,this]
theorem QJ6 {r s:Nat}(aa:fn.results=#[.tmp r,.tmp s])(q:(Nat.blt r fn.ntmps&&Nat.blt s fn.ntmps)=true):Rt P fn H0 k A H=Ret H0 k (.tuple #[A r,A s]) H:=by
 have:r<fn.ntmps∧s<fn.ntmps:=by simpa using q
 simp[Rt,QvA,Ret,QmE,aa,Qc0,this]
def ldR (agg:Bool)(size:Nat)(p:Value)(H:Qa)(k:Value->Prop):Prop:=match p with
 | .pointer (some a)=>(match H.get a.block with
  | some (.cells c _ _)=>bif agg then(a.off+size<=c.length∧k (.agg ((c.drop a.off).take size).toArray)) else ∃v,c[a.off]? = some v∧k v
  | _=>False)
 | _=>False
def QHA (agg:Bool)(size off:Nat)(b:Option Blk)(k:Value->Prop):Prop:=match b with
 | some (.cells c _ _)=>bif agg then(off+size<=c.length∧k (.agg ((c.drop off).take size).toArray)) else ∃v,c[off]? = some v∧k v
 | _=>False
theorem QFy (agg:Bool)(size b o:Nat)(k:Value->Prop):ldR agg size (.pointer (some ⟨b,o,none⟩)) H k=QHA agg size o (H.get b) k:=Nu rfl rfl
theorem QDD (size o:Nat)(k:Value->Prop)(c:List Value)(e:TypeId)(ro:Bool):QHA true size o (some (.cells c e ro)) k=(o+size<=c.length∧k (.agg ((c.drop o).take size).toArray)):=Nu rfl rfl
theorem QCa (size o:Nat)(k:Value->Prop)(c:List Value)(e:TypeId)(ro:Bool):QHA false size o (some (.cells c e ro)) k=∃v,c[o]? = some v∧k v:=Nu rfl rfl
def Qzt (P:Program)(ty:TypeId)(p:Value)(H:Qa):Option Value:=match p with | .pointer (some ad)=>ZD P ty ad H | _=>none
theorem Qsi (n a:Nat)(ty:TypeId):Qc0 P n A H (.cell a ty)=if a<n then Qzt P ty (A a) H else none:=Nu rfl rfl
theorem QuH {ty:TypeId}{d:TypeDesc}{aa:TypeInfo}{p:Value}{q:Value->Prop}(ab:P.underlying ty=some d)(hi:P.info? ty=some aa):
  (∃v,Qzt P ty p H=some v∧q v)↔ldR (GH d) aa.size p H q:=by
 unfold ldR Qzt;split
 ·rename_i a;have e:ZD P ty a H=match H.get a.block with
   | some (.cells c _ _)=>if GH d then(if a.off+aa.size<=c.length then some (.agg ((c.drop a.off).take aa.size).toArray) else none) else c[a.off]?
   | _=>none:=by
   simp only[ZD,ab,hi];cases H.get a.block with
   | none=>rfl
   | some b=>cases b<;>rfl
  rw[e];cases ah:H.get a.block with
  | none=>simp
  | some b=>
   cases b with
   | cells c e ro=>
    cases ag:GH d with
    | true=>by_cases ac:a.off+aa.size<=c.length<;>simp[ac]
    | false=>simp
   | map es=>simp
   | iter s pos=>simp
   | miter a b c d=>simp
   | loop A n ai ad ae st=>simp
 ·simp
def QuI (P:Program)(ty:TypeId)(agg:Bool)(size:Nat):Bool:=match P.underlying ty,P.info? ty with
 | some d,some inf=>(GH d==agg)&&Nat.beq inf.size size
 | _,_=>false
theorem Qsj {ty:TypeId}{agg:Bool}{size:Nat}(h:QuI P ty agg size=true):∃d q,P.underlying ty=some d∧P.info? ty=some q∧GH d=agg∧q.size=size:=by
 unfold QuI at h;split at h
 ·rename_i d q aa hi;simp only[Lm,L0,Kk,Lv]at h;exact⟨d,q,aa,hi,h.1,h.2⟩
 ·cases h
theorem QJ7 {a ty size:Nat}{agg:Bool}(ab:fn.results=#[.cell a ty])(q:Nat.blt a fn.ntmps=true)(ac:QuI P ty agg size=true):Rt P fn H0 k A H=ldR agg size (A a) H λv=>Ret H0 k v H:=by
 have q:a<fn.ntmps:=by simpa using q
 obtain⟨d,ad,aa,hi,rfl,rfl⟩:=Qsj ac;apply propext;rw[<- QuH aa hi];simp only[Rt,QvA,Ret,QmE,ab,Qsi,q,N3]
theorem QIR {a ty size:Nat}{agg:Bool}{r:Nat}(ac:fn.results=#[.cell a ty,.tmp r])(q:(Nat.blt a fn.ntmps&&Nat.blt r fn.ntmps)=true)(ad:QuI P ty agg size=true):Rt P fn H0 k A H=ldR agg size (A a) H λv=>Ret H0 k (.tuple #[v,A r]) H:=by
 have q:a<fn.ntmps∧r<fn.ntmps:=by simpa using q
 obtain⟨d,ag,ab,hi,rfl,rfl⟩:=Qsj ad;apply propext;rw[<- QuH ab hi];have e1:Qc0 P fn.ntmps A H (.tmp r)=some (A r):=by simp[Qc0,q.2]
 simp only[Rt,QvA,Ret,QmE,ac,Qsi,e1,q.1,N3,Ra,FO,Rx,BV,R8];constructor
 ·rintro⟨v,aa,h⟩;simp only[Lx,BY,Lt]at aa;obtain⟨l,⟨w,ae,rfl⟩,rfl⟩:=aa;exact⟨w,ae,h⟩
 ·rintro⟨v,aa,h⟩;refine⟨_,?_,h⟩;simp[aa]
end
theorem QhY {P:Program}{f:FuncId}{fn:Func}{q:PC}{args:List Value}{H:Qa}{k:Value->Qa->Prop}{A:Env}(ad:P.funcs[f]? = some fn)(ab:fn.body.bind (comp P fn.ntmps)=some q)(ac:entered P f=true)(ae:Nat.ble args.length fn.ntmps=true)(aa:QdL args=A)
  (h:H.Wf->Qm P q ⟨Rt P fn H k,WL⟩ (Rt P fn H k) A H):Qe P f args H k:=Qsc ad ab ac (by simpa using ae) (by rw[aa];exact h)
theorem Qsk (l:List Value):(Value.agg l.toArray).cells.toList=l:=Nu rfl rfl
theorem QmO (ik:IntKind)(n:Int):(Value.int ik n).cells.toList=[.int ik n]:=Nu rfl rfl
theorem QqD (b:Bool):(Value.bool b).cells.toList=[.bool b]:=Nu rfl rfl
theorem QnW (a:Option Addr)(l c:Nat):(Value.slice a l c).cells.toList=[.slice a l c]:=Nu rfl rfl
theorem QnX (ty:TypeId)(v:Value):(Value.iface ty v).cells.toList=[.iface ty v]:=Nu rfl rfl
theorem QqE (ik:IntKind)(n:Int):(Value.int ik n).oneCell'=true:=Nu rfl rfl
theorem QnY (b:Bool):(Value.bool b).oneCell'=true:=Nu rfl rfl
theorem Ql6 (a:Option Addr)(l c:Nat):(Value.slice a l c).oneCell'=true:=Nu rfl rfl
theorem Ql7 (ty:TypeId)(v:Value):(Value.iface ty v).oneCell'=true:=Nu rfl rfl
section
variable {P:Program}
theorem Qq {b:Bool}{r:R}{s:Bool}{l:List PO}{k:Env->Qa->Prop}{A:Env}{d:Option Nat}{H:Qa}(q:b=true->gB true P r s l k A d H)(aa:b=false->gB false P r s l k A d H):gB b P r s l k A d H:=by
 cases b
 ·exact aa rfl
 ·exact q rfl
theorem Qf {b:Bool}{x y:PC}{ks:Kp}{k:Env->Qa->Prop}{A:Env}{H:Qa}(q:b=true->cB true P x y ks k A H)(aa:b=false->cB false P x y ks k A H):cB b P x y ks k A H:=by
 cases b
 ·exact aa rfl
 ·exact q rfl
end
/-! ### Loops -/
section
variable {P:Program}
def Qsl (I:Nat->Env->Qa->Prop)(m:Nat)(A:Env)(H:Qa):Prop:=∃q,q<m∧I q A H
theorem Qo {b:PC}{ks:Kp}{k:Env->Qa->Prop}{A:Env}{H:Qa}(I:Nat->Env->Qa->Prop)(m:Nat)(q:I m A H)(h:∀m A' H',I m A' H'->Qm P b ks (Qsl I m) A' H'):Qm P (.loop b) ks k A H:=
 ⟨I,⟨m,q⟩,h⟩
/-! Loops over functions. -/
def YR (P:Program)(L:Option Code->Blk)(q:List Nat)(a b:PC)(A:Env):Prop:=∀ (l:Nat) (args:List Value) (H0:Qa) (Q:Value->Qa->Prop),H0.get l=some (L none)->args.length=q.length->Qm P a QAP (λA1 H1=>Qm P b (QIH L l H0.next Q) (QHb L l H0.next Q) A1 H1) (Qqq A q args) (H0.kill l)->YQ P l args H0 Q
def rgK (v:Value)(P:Program)(q:List Nat)(a b:PC)(ks:Kp)(k:Env->Qa->Prop)(A:Env)(H:Qa):Prop:=match v with
 | .func (.func f) xs ys=>∀L:Option Code->Blk,YR P L q a b A->entered P f=true∧Qe P f (xs.toList++[.func (.yield H.next) #[] #[]]++ys.toList) (H.push (L none)) λ_ H2=>∃st,H2.get H.next=some (L st)∧QC9 st ks k A (H2.kill H.next)
 | _=>False
theorem QhZ (g:Operand)(q:List Nat)(a b:PC)(ks:Kp)(k:Env->Qa->Prop)(A:Env)(H:Qa):Qm P (.rangeF g q a b) ks k A H=rgK (ev A g) P q a b ks k A H:=by
 show(match ev A g with | .func (.func f) xs ys=>_ | _=>False)=_;unfold rgK;split<;>rfl
theorem Qsm (f:FuncId)(xs ys:List Value)(q:List Nat)(a b:PC)(ks:Kp)(k:Env->Qa->Prop)(A:Env)(H:Qa):rgK (.func (.func f) xs.toArray ys.toArray) P q a b ks k A H=∀L:Option Code->Blk,YR P L q a b A->entered P f=true∧Qe P f (xs++[.func (.yield H.next) #[] #[]]++ys) (H.push (L none)) λ_ H2=>∃st,H2.get H.next=some (L st)∧QC9 st ks k A (H2.kill H.next):=Nu rfl rfl
theorem Qpz (ks:Kp)(k:Env->Qa->Prop)(A:Env)(H:Qa):QC9 none ks k A H=k A H:=Nu rfl rfl
theorem QmP (L:Option Code->Blk)(l q:Nat)(Q:Value->Qa->Prop)(A:Env)(H:Qa):QHb L l q Q A H=(q<=H.next∧Q (.bool true) (H.set l (L none))):=Nu rfl rfl
theorem QpA (A:Env)(l:List Value):Qqq A [] l=A:=Nu rfl rfl
theorem QmQ (A:Env)(p:Nat)(q:List Nat)(v:Value)(l:List Value):Qqq A (p::q) (v::l)=Qqq (upd A p v) q l:=Nu rfl rfl
structure Ext (H H':Qa):Prop where
 next:H.next<=H'.next
 get:∀id,id<H.next->H'.get id=H.get id
theorem Ext.eqB {H H':Qa}(h:Ext H H'):EqB H H':=λid q=>h.get id q
theorem Ext.refl (H:Qa):Ext H H:=⟨Lb _,λ_ _=>Nu rfl rfl⟩
theorem Ext.trans {a b c:Qa}(h:Ext a b)(h':Ext b c):Ext a c:=⟨N8 h.next h'.next,λid q=>by rw[h'.get id (N5 q h.next),h.get id q]⟩
theorem Ext.push {H H':Qa}(h:Ext H H')(b:Blk):Ext H (H'.push b):=⟨N8 h.next (by simp),λid q=>by
 have:=h.next;rw[Qc,Le (by omega)];exact h.get id q⟩
theorem Ext.up {H H':Qa}(h:Ext H H'){m:Nat}(aa:H'.next<=m):Ext H (H'.up m):=⟨N8 h.next aa,λid q=>by rw[Zk];exact h.get id q⟩
theorem Ext.set {H H':Qa}(h:Ext H H'){i:Nat}(hi:H.next<=i)(b:Blk):Ext H (H'.set i b):=⟨h.next,λid q=>by
 rw[Qn,Le (by omega)];exact h.get id q⟩
theorem Ext.kill {H H':Qa}(h:Ext H H'){i:Nat}(hi:H.next<=i):Ext H (H'.kill i):=⟨h.next,λid q=>by
 rw[WV,Le (by omega)];exact h.get id q⟩
theorem Ret.ext {H0 H:Qa}{k:Value->Qa->Prop}{v:Value}(aa:H0.Wf)(q:Ext H0 H)(h:k v (H0.up H.next)):Ret H0 k v H:=.up aa q.next q.get h
end
/-! ### Appending -/
theorem Y5 {size m b o cap:Nat}{c:List Value}{e:TypeId}{ro:Bool}{H:Qa}(hb:H.get b=some (.cells c e ro))(aa:m≠0)(q:o+m * size<=c.length):Zt size (.slice (some ⟨b,o,none⟩) m cap) H=some (m,(c.drop o).take (m * size)):=by
 simp only[Zt,aa,LN,hb];rw[Lc q]
theorem QnZ {b cap:Nat}{v:Value}{e:TypeId}{ro:Bool}{H:Qa}(hb:H.get b=some (.cells [v] e ro)):Zt 1 (.slice (some ⟨b,0,none⟩) 1 cap) H=some (1,[v]):=Y5 hb (by decide) (by simp)
theorem Qn0 {e size bytes m len b o cap:Nat}(aa:o=0){q c:List Value}{x:Value}{H:Qa}{k:Value->Qa->Prop}(ai:Zt size x H=some (m,q))(ab:q.all (·.oneCell')=true)(ae:m≠0)(hb:H.get b=some (.cells c e false))
  (ad:o+len * size=c.length) (ah:(len+m) * bytes<=140737488355328) (ag:len+m<=9223372036854775807) (ac:UNK<=cap)
  (h:k (.slice (some ⟨H.next,0,none⟩) (len+m) (UNK+size)) ((H.kill b).push (.cells (c.drop o++q) e false))):QbP e size bytes (.slice (some ⟨b,o,none⟩) len cap) x H k:=by
 unfold QbP;rw[Qxm aa ai ab ae hb ad ah ag ac,QJ];exact h
theorem Qlw {e size bytes m len b o cap:Nat}{q c:List Value}{x:Value}{H:Qa}{ro:Bool}{e':TypeId}{k:Value->Qa->Prop}(ai:Zt size x H=some (m,q))(aa:q.all (·.oneCell')=true)(ae:m≠0)(hb:H.get b=some (.cells c e' ro))
  (ad:o+len * size<=c.length) (ah:(len+m) * bytes<=140737488355328) (ag:len+m<=9223372036854775807) (ab:cap<UNK) (ac:¬len+m<=cap)
  (h:k (.slice (some ⟨H.next,0,none⟩) (len+m) (UNK+size)) (H.push (.cells ((c.drop o).take (len * size)++q) e false))):QbP e size bytes (.slice (some ⟨b,o,none⟩) len cap) x H k:=by
 unfold QbP;rw[QvD ai aa ae hb ad ah ag ab ac,QJ];exact h
theorem Qn1 {e size bytes m:Nat}{q:List Value}{x:Value}{H:Qa}{k:Value->Qa->Prop}(ae:Zt size x H=some (m,q))(aa:q.all (·.oneCell')=true)(ab:m≠0)(ad:m * bytes<=140737488355328)(ac:m<=9223372036854775807)
  (h:k (.slice (some ⟨H.next,0,none⟩) m (UNK+size)) (H.push (.cells q e false))):QbP e size bytes (.slice none 0 0) x H k:=by
 unfold QbP;rw[Qxn ae aa ab ad ac,QJ];exact h
theorem Qe.thenW {P:Program}{f:FuncId}{args:List Value}{H:Qa}{k ab:Value->Qa->Prop}(h:Qe P f args H k)(ae:∀v H',H.next<=H'.next->H'.Wf->k v H'->ab v H'):Qe P f args H ab:=by
 intro ag;obtain⟨v,H',ac,q,aa,ad⟩:=h ag;exact⟨v,H',ac,q,aa,ae v H' q aa ad⟩
theorem QqF {H:Qa}{b:Blk}{m:Nat}(h:m=H.next):(H.push b).get m=some b:=by rw[Qc,Lc h]
theorem QqG {H:Qa}{b:Blk}{m:Nat}(h:¬m=H.next):(H.push b).get m=H.get m:=by rw[Qc,Le h]
theorem Qzu {H:Qa}{b:Blk}{i m:Nat}(h:m=i):(H.set i b).get m=some b:=by rw[Qn,Lc h]
theorem Qzv {H:Qa}{b:Blk}{i m:Nat}(h:¬m=i):(H.set i b).get m=H.get m:=by rw[Qn,Le h]
/-! ### Rules, together -/
theorem QHB (l:List UInt8):ByteArray.mk (Array.mk l)=mkS l:=Nu rfl rfl
abbrev sxA:=And.intro @QHB (And.intro @QhX (And.intro @QqC (And.intro @Qzk (And.intro @QBX (And.intro @Qzj (And.intro @QuD (And.intro @V5 (And.intro @Qfo (And.intro @QHi (And.intro @QHj (And.intro @QDh (And.intro @QBY (And.intro @KJ (And.intro @Qfp (And.intro @QnS (And.intro @Qep (And.intro @Ka (And.intro @Zg (And.intro @Qzi (And.intro @Ym (And.intro @JK (And.intro @QE3 (And.intro @QDg (And.intro @QE2 (And.intro @QDf (And.intro @bt (And.intro @bf (And.intro @J9 (And.intro @VN (And.intro @YN (And.intro @QgF (And.intro @Qq7 (And.intro @Qxe (And.intro @QBW (And.intro @QE1 (And.intro @Qkb (And.intro @Qlu (And.intro @QcC (And.intro @QHk (And.intro @QE6 (And.intro @QE7 (And.intro @QE8 (And.intro @QE9 (And.intro @QHl (And.intro @QFa (And.intro @Qzn (And.intro @QFb (And.intro @QFc (And.intro @QFd (And.intro @QFe (And.intro @QFf (And.intro @QFg (And.intro @QFh (And.intro @QFi (And.intro @QFj (And.intro @QFk (And.intro @QFl (And.intro @QFm (And.intro @QDm (And.intro @QHn (And.intro @QFn (And.intro @QFo (And.intro @QHo (And.intro @QHp (And.intro @QB4 (And.intro @QDo (And.intro @Qzo (And.intro @QFq (And.intro @QHr (And.intro @QB5 (And.intro @QDp (And.intro @QrI (And.intro @Qlv (And.intro @QFr (And.intro @Qzp (And.intro @QHs (And.intro @QDq (And.intro @QDr (And.intro @QDs (And.intro @QDt (And.intro @QHt (And.intro @QDv (And.intro @Qxh (And.intro @QB6 (And.intro @QuE (And.intro @QnT (And.intro @QB7 (And.intro @QDw (And.intro @QDx (And.intro @QHu (And.intro @QFt (And.intro @QuF (And.intro @QHv (And.intro @QDy (And.intro @Qzq (And.intro @Qzr (And.intro @QGO (And.intro @QDz (And.intro @QAU (And.intro @Qxj (And.intro @QAV (And.intro @QAW (And.intro @QHx (And.intro @QuG (And.intro @QFu (And.intro @QDA (And.intro @Qzs (And.intro @QvB (And.intro @Qsh (And.intro @QmM (And.intro @QFw (And.intro @QL (And.intro @QFx (And.intro @QB8 (And.intro @QDB (And.intro @QE5 (And.intro @QDl (And.intro @Qzl (And.intro @QDk (And.intro @QHy (And.intro @QDC (And.intro @Qxk (And.intro @QnU (And.intro @QB1 (And.intro @QDi (And.intro @QB2 (And.intro @QDj (And.intro @Qzm (And.intro @QBZ (And.intro @QB0 (And.intro @QFy (And.intro @QDD @QCa))))))))))))))))))))))))))))))))))))))))))))))))))))))))))))))))))))))))))))))))))))))))))))))))))))))))))))))))))))))))))))))))))))
abbrev mxA:=And.intro @Qsk (And.intro @QmO (And.intro @QqD (And.intro @QnW (And.intro @QnX (And.intro @QqE (And.intro @QnY (And.intro @Ql6 (And.intro @Ql7 (And.intro @Qsf (And.intro @Qsg (And.intro @Qc (And.intro @Qd (And.intro @Qn (And.intro @Qv (And.intro @Zk (And.intro @Ql (And.intro @LP (And.intro @N9 (And.intro @Bz (And.intro @Hr (And.intro @Dd (And.intro @De (And.intro @Nat.succ_ne_self (And.intro @Bj (And.intro @NH (And.intro @BH (@Fx)))))))))))))))))))))))))))
abbrev mxD:=And.intro @Qsk (And.intro @QmO (And.intro @QqD (And.intro @QnW (And.intro @QnX (And.intro @QqE (And.intro @QnY (And.intro @Ql6 (And.intro @Ql7 (And.intro @Qsf (And.intro @Qsg (And.intro @Qd (And.intro @Qv (And.intro @Zk (And.intro @Ql (And.intro @LP (And.intro @N9 (And.intro @Bz (And.intro @Hr (And.intro @Dd (And.intro @De (And.intro @Nat.succ_ne_self (And.intro @Bj (And.intro @NH (And.intro @BH (And.intro @Fx (And.intro @QqF (And.intro @QqG (And.intro @Qzu (@Qzv)))))))))))))))))))))))))))))
abbrev uxA:=And.intro @J9 (And.intro @VN (And.intro @YN (And.intro @QgF (And.intro @Qq7 (@Qxe)))))
abbrev sxB:=And.intro @NZ.{0,0} (And.intro @Bq.{0,0} (And.intro @Da.{1} (And.intro not_false_eq_true (And.intro BE (And.intro @Lq.{1} (And.intro @Ls.{1} (And.intro L8 (And.intro LM @Bool.not_not))))))))
abbrev uxB:=And.intro @Lq.{1} @Ls.{1}
abbrev mxB:=And.intro @N3.{1} (And.intro @LN.{1} (And.intro @Bg.{0} (And.intro @Bp.{0} (And.intro @Lt.{0} (And.intro @Dg.{1} (And.intro @BN.{1} (And.intro @Lo.{0} (And.intro @L9.{0} (And.intro @Bv.{0} (And.intro @BI.{0} (And.intro @Lw.{0} (And.intro @List.drop_succ_cons.{0} (And.intro @List.take_succ_cons.{0} (And.intro @Rb.{0} (And.intro @Nm.{0} (And.intro @LH.{0} (And.intro @Na.{0} (And.intro @List.take_nil.{0} @List.drop_nil.{0}))))))))))))))))))
theorem QpB (c:List Value)(p:Nat)(q:List Value):splice c p q=c.take p++(q++c.drop (p+q.length)):=rfl
abbrev hnP:=And.intro @Qd (And.intro @Qv @Ql)
abbrev Qb:=And.intro sxA (And.intro sxB (And.intro mxA (And.intro mxB @QpB)))
abbrev Qk:=And.intro sxA (And.intro sxB (And.intro mxD (And.intro mxB @QpB)))
abbrev JL:=And.intro sxA sxB
abbrev Qsn:=And.intro mxD (And.intro mxB @QpB)
abbrev Qg:=And.intro uxA uxB
/-! ### The code's text, short -/
abbrev Ow (d:Nat)(r:R):PO:=⟨some d,r,none,false⟩
abbrev Om (d:Nat)(x:Operand):PO:=⟨some d,.mv x,none,false⟩
abbrev Ov (r:R):PO:=⟨none,r,none,false⟩
abbrev Og (d:Nat)(r:R)(a:Nat)(b:Bool):PO:=⟨some d,r,some (a,b),false⟩
abbrev Ci (n:Int):Operand:=.const (.int .i64 n)
abbrev In0 (P:Program)(f:FuncId)(fn:Func)(q:PC):Prop:=∀ {H:Qa} {k:Value->Qa->Prop},(H.Wf->Qm P q ⟨Rt P fn H k,WL⟩ (Rt P fn H k) (U) H)->Qe P f [] H k
theorem in0 {P:Program}{f:FuncId}{fn:Func}{q:PC}(ac:P.funcs[f]? = some fn)(aa:fn.body.bind (comp P fn.ntmps)=some q)(ab:entered P f=true)(ad:Nat.ble 0 fn.ntmps=true):In0 P f fn q:=λh=>QhY ac aa ab ad QJX h
abbrev In1 (P:Program)(f:FuncId)(fn:Func)(q:PC):Prop:=∀ {a0:Value} {H:Qa} {k:Value->Qa->Prop},(H.Wf->Qm P q ⟨Rt P fn H k,WL⟩ (Rt P fn H k) (upd U 0 a0) H)->Qe P f [a0] H k
theorem in1 {P:Program}{f:FuncId}{fn:Func}{q:PC}(ac:P.funcs[f]? = some fn)(aa:fn.body.bind (comp P fn.ntmps)=some q)(ab:entered P f=true)(ad:Nat.ble 1 fn.ntmps=true):In1 P f fn q:=λh=>QhY ac aa ab ad (QJY _) h
abbrev In2 (P:Program)(f:FuncId)(fn:Func)(q:PC):Prop:=∀ {a0 a1:Value} {H:Qa} {k:Value->Qa->Prop},(H.Wf->Qm P q ⟨Rt P fn H k,WL⟩ (Rt P fn H k) (upd (upd U 0 a0) 1 a1) H)->Qe P f [a0,a1] H k
theorem in2 {P:Program}{f:FuncId}{fn:Func}{q:PC}(ac:P.funcs[f]? = some fn)(aa:fn.body.bind (comp P fn.ntmps)=some q)(ab:entered P f=true)(ad:Nat.ble 2 fn.ntmps=true):In2 P f fn q:=λh=>QhY ac aa ab ad (QJZ _ _) h
abbrev In3 (P:Program)(f:FuncId)(fn:Func)(q:PC):Prop:=∀ {a0 a1 a2:Value} {H:Qa} {k:Value->Qa->Prop},(H.Wf->Qm P q ⟨Rt P fn H k,WL⟩ (Rt P fn H k) (upd (upd (upd U 0 a0) 1 a1) 2 a2) H)->Qe P f [a0,a1,a2] H k
theorem in3 {P:Program}{f:FuncId}{fn:Func}{q:PC}(ac:P.funcs[f]? = some fn)(aa:fn.body.bind (comp P fn.ntmps)=some q)(ab:entered P f=true)(ad:Nat.ble 3 fn.ntmps=true):In3 P f fn q:=λh=>QhY ac aa ab ad (QJ0 _ _ _) h
abbrev In4 (P:Program)(f:FuncId)(fn:Func)(q:PC):Prop:=∀ {a0 a1 a2 a3:Value} {H:Qa} {k:Value->Qa->Prop},(H.Wf->Qm P q ⟨Rt P fn H k,WL⟩ (Rt P fn H k) (upd (upd (upd (upd U 0 a0) 1 a1) 2 a2) 3 a3) H)->Qe P f [a0,a1,a2,a3] H k
theorem in4 {P:Program}{f:FuncId}{fn:Func}{q:PC}(ac:P.funcs[f]? = some fn)(aa:fn.body.bind (comp P fn.ntmps)=some q)(ab:entered P f=true)(ad:Nat.ble 4 fn.ntmps=true):In4 P f fn q:=λh=>QhY ac aa ab ad (QJ1 _ _ _ _) h
abbrev In5 (P:Program)(f:FuncId)(fn:Func)(q:PC):Prop:=∀ {a0 a1 a2 a3 a4:Value} {H:Qa} {k:Value->Qa->Prop},(H.Wf->Qm P q ⟨Rt P fn H k,WL⟩ (Rt P fn H k) (upd (upd (upd (upd (upd U 0 a0) 1 a1) 2 a2) 3 a3) 4 a4) H)->Qe P f [a0,a1,a2,a3,a4] H k
theorem in5 {P:Program}{f:FuncId}{fn:Func}{q:PC}(ac:P.funcs[f]? = some fn)(aa:fn.body.bind (comp P fn.ntmps)=some q)(ab:entered P f=true)(ad:Nat.ble 5 fn.ntmps=true):In5 P f fn q:=λh=>QhY ac aa ab ad (QJ2 _ _ _ _ _) h
abbrev In7 (P:Program)(f:FuncId)(fn:Func)(q:PC):Prop:=∀ {a0 a1 a2 a3 a4 a5 a6:Value} {H:Qa} {k:Value->Qa->Prop},(H.Wf->Qm P q ⟨Rt P fn H k,WL⟩ (Rt P fn H k) (upd (upd (upd (upd (upd (upd (upd U 0 a0) 1 a1) 2 a2) 3 a3) 4 a4) 5 a5) 6 a6) H)->Qe P f [a0,a1,a2,a3,a4,a5,a6] H k
theorem in7 {P:Program}{f:FuncId}{fn:Func}{q:PC}(ac:P.funcs[f]? = some fn)(aa:fn.body.bind (comp P fn.ntmps)=some q)(ab:entered P f=true)(ad:Nat.ble 7 fn.ntmps=true):In7 P f fn q:=λh=>QhY ac aa ab ad (QJ3 _ _ _ _ _ _ _) h
/-! #### Still shorter -/
theorem jn0 {P:Program}{f:FuncId}{fn:Func}{q:PC}(aa:P.funcs[f]? = some fn)(h:(fn.body.bind (comp P fn.ntmps),entered P f,Nat.ble 0 fn.ntmps)=(some q,true,true)):In0 P f fn q:=in0 aa (congrArg (·.1) h) (congrArg (·.2.1) h) (congrArg (·.2.2) h)
theorem jn1 {P:Program}{f:FuncId}{fn:Func}{q:PC}(aa:P.funcs[f]? = some fn)(h:(fn.body.bind (comp P fn.ntmps),entered P f,Nat.ble 1 fn.ntmps)=(some q,true,true)):In1 P f fn q:=in1 aa (congrArg (·.1) h) (congrArg (·.2.1) h) (congrArg (·.2.2) h)
theorem jn2 {P:Program}{f:FuncId}{fn:Func}{q:PC}(aa:P.funcs[f]? = some fn)(h:(fn.body.bind (comp P fn.ntmps),entered P f,Nat.ble 2 fn.ntmps)=(some q,true,true)):In2 P f fn q:=in2 aa (congrArg (·.1) h) (congrArg (·.2.1) h) (congrArg (·.2.2) h)
theorem jn3 {P:Program}{f:FuncId}{fn:Func}{q:PC}(aa:P.funcs[f]? = some fn)(h:(fn.body.bind (comp P fn.ntmps),entered P f,Nat.ble 3 fn.ntmps)=(some q,true,true)):In3 P f fn q:=in3 aa (congrArg (·.1) h) (congrArg (·.2.1) h) (congrArg (·.2.2) h)
theorem jn4 {P:Program}{f:FuncId}{fn:Func}{q:PC}(aa:P.funcs[f]? = some fn)(h:(fn.body.bind (comp P fn.ntmps),entered P f,Nat.ble 4 fn.ntmps)=(some q,true,true)):In4 P f fn q:=in4 aa (congrArg (·.1) h) (congrArg (·.2.1) h) (congrArg (·.2.2) h)
theorem jn5 {P:Program}{f:FuncId}{fn:Func}{q:PC}(aa:P.funcs[f]? = some fn)(h:(fn.body.bind (comp P fn.ntmps),entered P f,Nat.ble 5 fn.ntmps)=(some q,true,true)):In5 P f fn q:=in5 aa (congrArg (·.1) h) (congrArg (·.2.1) h) (congrArg (·.2.2) h)
/-! ### Functions' codes, short -/
/-! ### Rules and rewriting steps, short -/
theorem nD {α:Type}(l:List α):l.drop 0=l:=Lw
theorem nB (a:Int):(a==a)=true:=LO a
theorem nC {α:Type}(a:α)(l m:List α):(a::l)++m=a::(l++m):=Nm
/-! ### Macros -/
variable {A B C D E F G I J K L M N O R S T U V W X Y P Q:Prop}
def cMo (P:Program)(ops:Array Oper)(fl:Nat->Bool):List Oper->Nat->List PO
 | [],_=>[]
 | o::l,i=>⟨o.dst,Qj7 P ops (fl i) i o,(match o.guard with | none=>none | some (j,w)=>match Qcu ops j with | some t=>some (t,w) | none=>none),fl i⟩::cMo P ops fl l (i+1)
def ixs (p:Oper->Bool):List Oper->Nat->List Nat
 | [],_=>[]
 | o::l,i=>bif p o then i::ixs p l (i+1) else ixs p l (i+1)
def flF (ms S L A:List Nat)(k:Nat):Bool:=(S.elem k&&(L.any (λi=>QgE ms i k)||A.any λi=>Nat.blt i k&&!(QM ms i k)))||(L.elem k&&S.any λi=>QgE ms i k)
def flG (ops:List Oper):Nat->Bool:=flF (QX ops []) (ixs QES ops 0) (ixs Qr7 ops 0) (ixs Qvr ops 0)
def cM (P:Program):Code->PC
 | .skip=>.skip
 | .label l=>.label l
 | .ret=>.ret
 | .exit id=>.exit id
 | .goto l=>.goto l
 | .region _ ops d=>.ops (cMo P ops (bif d then flG ops.toList else λ_=>false) ops.toList 0)
 | .seq a b=>sq (cM P a) (cM P b)
 | .cond c a b=>.cond c (cM P a) (cM P b)
 | .block id b=>.block id (cM P b)
 | .loop b=>.loop (cM P b)
 | .scope b=>QrG (cM P b)
 | .rangeFunc g q a b=>.rangeF g q.toList (cM P a) (cM P b)
 | _=>.bad
def cF (P:Program)(F:Func):PC:=cM P (F.body.getD .ret)
def szP:PC->Nat
 | .scope b _ r=>szP b+szP r
 | .ops l=>1+l.length / 3
 | .seq a b=>szP a+szP b
 | .cond _ a b=>1+szP a+szP b
 | .block _ b=>szP b
 | .loop b=>1+szP b
 | .rangeF _ _ a b=>1+szP a+szP b
 | _=>0
def isO:PC->Bool
 | .ops _=>true
 | _=>false
def cN (N:Nat->PC)(j:Nat)(r:PC×List PC×Nat):PC×List PC×Nat:=(N j,r.1::r.2.1,j+1)
def cu (N:Nat->PC):PC->List PC->Nat->PC×List PC×Nat
 | .seq a b,l,j=>(λq=>(λp=>(.seq p.1 q.1,p.2)) (cu N a q.2.1 q.2.2)) (bif Nat.ble 5 (szP b)&&!isO a then cN N j (cu N b l 0) else cu N b l j)
 | .cond t a b,l,j=>(λp=>(λq=>(.cond t p.1 q.1,q.2)) (bif Nat.ble 5 (szP b) then cN N p.2.2 (cu N b p.2.1 0) else cu N b p.2.1 p.2.2)) (bif Nat.ble 5 (szP a) then cN N j (cu N a l 0) else cu N a l j)
 | .block i b,l,j=>(λq=>(.block i q.1,q.2)) (cu N b l j)
 | .loop b,l,j=>(λq=>(.loop q.1,q.2)) (cN N j (cu N b l 0))
 | .rangeF g ps a b,l,j=>(λq=>(.rangeF g ps a q.1,q.2)) (cN N j (cu N b l 0))
 | .scope b n r,l,j=>(λp=>(λq=>(.scope q.1 n p.1,q.2)) (cN N p.2.2 (cu N b p.2.1 0))) (cN N j (cu N r l 0))
 | c,l,j=>(c,l,j)
def cL (P:Program)(F:Func)(N:Nat->PC):List PC:=(λr=>r.1::r.2.1) (cu N (cF P F) [] 0)
def cA (i:Nat)(l:(Nat->PC)->List PC)(N:Nat->PC):PC:=match (l N)[i]? with | some c=>c | none=>.bad
abbrev e0 (a:PC){x:PC}(h:a=x):PC:=x
abbrev eL (g:(Nat->PC)->List PC){x:(Nat->PC)->List PC}(h:∀N,g N=x N):(Nat->PC)->List PC:=x
abbrev e1 (i:Nat)(l:(Nat->PC)->List PC){x:PC->PC}(h:∀a,cA i l (λ_=>a)=x a):PC->PC:=x
abbrev e2 (i:Nat)(l:(Nat->PC)->List PC){x:PC->PC->PC}(h:∀a b,cA i l (λn=>bif Nat.beq n 0 then a else b)=x a b):PC->PC->PC:=x
abbrev e3 (i:Nat)(l:(Nat->PC)->List PC){x:PC->PC->PC->PC}(h:∀a b c,cA i l (λn=>bif Nat.beq n 0 then a else bif Nat.beq n 1 then b else c)=x a b c):PC->PC->PC->PC:=x
abbrev e4 (i:Nat)(l:(Nat->PC)->List PC){x:PC->PC->PC->PC->PC}(h:∀a b c d,cA i l (λn=>bif Nat.beq n 0 then a else bif Nat.beq n 1 then b else bif Nat.beq n 2 then c else d)=x a b c d):PC->PC->PC->PC->PC:=x
section
variable (P:Program) (fn:Func)
theorem rs0 (q:fn.results=#[])(H0 H:Qa)(k:Value->Qa->Prop)(A:Env):Rt P fn H0 k A H=Ret H0 k (.tuple #[]) H:=QJ4 q
theorem rs1 (r:Nat)(aa:fn.results=#[.tmp r])(q:Nat.blt r fn.ntmps=true)(H0 H:Qa)(k:Value->Qa->Prop)(A:Env):Rt P fn H0 k A H=Ret H0 k (A r) H:=QJ5 aa q
theorem rs2 (r s:Nat)(aa:fn.results=#[.tmp r,.tmp s])(q:(Nat.blt r fn.ntmps&&Nat.blt s fn.ntmps)=true)(H0 H:Qa)(k:Value->Qa->Prop)(A:Env):Rt P fn H0 k A H=Ret H0 k (.tuple #[A r,A s]) H:=QJ6 aa q
theorem QtG (agg:Bool)(size a ty:Nat)(aa:fn.results=#[.cell a ty])(q:Nat.blt a fn.ntmps=true)(ab:QuI P ty agg size=true)(H0 H:Qa)(k:Value->Qa->Prop)(A:Env):Rt P fn H0 k A H=ldR agg size (A a) H λv=>Ret H0 k v H:=QJ7 aa q ab
theorem QqH (agg:Bool)(size a ty r:Nat)(aa:fn.results=#[.cell a ty,.tmp r])(q:(Nat.blt a fn.ntmps&&Nat.blt r fn.ntmps)=true)(ab:QuI P ty agg size=true)(H0 H:Qa)(k:Value->Qa->Prop)(A:Env):Rt P fn H0 k A H=ldR agg size (A a) H λv=>Ret H0 k (.tuple #[v,A r]) H:=QIR aa q ab
end
section
variable (pc:PC) {P:Program} {f:FuncId} {fn:Func}
theorem ko0 (q:P.funcs[f]? = some fn)(h:(fn.body.bind (comp P fn.ntmps),entered P f,Nat.ble 0 fn.ntmps)=(some pc,true,true)):In0 P f fn pc:=jn0 q h
theorem ko1 (q:P.funcs[f]? = some fn)(h:(fn.body.bind (comp P fn.ntmps),entered P f,Nat.ble 1 fn.ntmps)=(some pc,true,true)):In1 P f fn pc:=jn1 q h
theorem ko2 (q:P.funcs[f]? = some fn)(h:(fn.body.bind (comp P fn.ntmps),entered P f,Nat.ble 2 fn.ntmps)=(some pc,true,true)):In2 P f fn pc:=jn2 q h
theorem ko3 (q:P.funcs[f]? = some fn)(h:(fn.body.bind (comp P fn.ntmps),entered P f,Nat.ble 3 fn.ntmps)=(some pc,true,true)):In3 P f fn pc:=jn3 q h
theorem ko4 (q:P.funcs[f]? = some fn)(h:(fn.body.bind (comp P fn.ntmps),entered P f,Nat.ble 4 fn.ntmps)=(some pc,true,true)):In4 P f fn pc:=jn4 q h
theorem ko5 (q:P.funcs[f]? = some fn)(h:(fn.body.bind (comp P fn.ntmps),entered P f,Nat.ble 5 fn.ntmps)=(some pc,true,true)):In5 P f fn pc:=jn5 q h
theorem ko7 (q:P.funcs[f]? = some fn)(h:(fn.body.bind (comp P fn.ntmps),entered P f,Nat.ble 7 fn.ntmps)=(some pc,true,true)):In7 P f fn pc:=in7 q (congrArg (·.1) h) (congrArg (·.2.1) h) (congrArg (·.2.2) h)
end
end Go.Ab
namespace Go.Ab
open Go.RowKit
section
variable {P:Program} {ρ:Ren} {H:Qa} {w:World}
def QgW (H:Qa):Prop:=∀id b,H.get id=some b->b.ro=true
theorem Sim.addRo (ab:Sim P ρ H w)(am:QgW H){c:List Value}(e:TypeId){a:Addr}(ak:a.block<w.heap.size)(ai:∀ (j:Nat) v,c[j]? = some v->∃ac,w.cell? (a.add j)=some ac∧V ρ v ac):
  Sim P (ext ρ H.next ⟨a,0,0⟩) (H.push (.cells c e true)) w:=by
 have al:=ab.none_next;have ae:=Qfg ⟨a,0,0⟩ al;refine⟨λid j h=>?_,λid bl j h h'=>?_,λan aA ah ar ay az aa au av aw ag ax=>?_,λg aj=>?_⟩
 ·by_cases q:id=H.next
  ·subst q;simp
  ·rw[Ji ρ _ q]at h;have:=ab.dom _ _ h;simp;omega
 ·by_cases q:id=H.next
  ·subst q;rw[Xa]at h';cases h';rw[Qc,Lc rfl]at h;cases h;exact⟨ak,λj v ad=>by obtain⟨ac,ao,aq⟩:=ai j v ad;exact⟨ac,ao,aq.mono ae⟩⟩
  ·rw[Ji ρ _ q]at h';rw[Qc,Le q]at h;exact(ab.live id bl j h h').mono ae rfl
 ·have:ah.ro=true:=by
   by_cases q:an=H.next
   ·subst q;rw[Qc,Lc rfl]at aa;cases aa;rfl
   ·rw[Qc,Le q]at aa;exact am _ _ aa
  rw[this]at ag;cases ag
 ·obtain⟨j,ad,q⟩:=ab.glob g aj;exact⟨j,ae _ _ ad,q⟩
theorem Sim.addDead (q:Sim P ρ H w)(ad:H.Wf)(a:Addr):Sim P (ext ρ H.next ⟨a,0,0⟩) (H.up (H.next+1)) w:=by
 have ao:=q.none_next;have ah:=Qfg ⟨a,0,0⟩ ao;refine⟨λid j h=>?_,λid bl j h h'=>?_,λau av ai aj aq ar ab ac ae ag ak al=>?_,λg am=>?_⟩
 ·by_cases aa:id=H.next
  ·subst aa;simp
  ·rw[Ji ρ _ aa]at h;have:=q.dom _ _ h;simp;omega
 ·rw[Zk]at h;have:=ad.lt h;rw[Ji ρ _ (by omega)]at h';exact(q.live id bl j h h').mono ah rfl
 ·rw[Zk]at ab ac;have:=ad.lt ab;have:=ad.lt ac;rw[Ji ρ _ (by omega)]at ae ag;exact q.sep au av ai aj aq ar ab ac ae ag ak al
 ·obtain⟨j,an,aa⟩:=q.glob g am;exact⟨j,ah _ _ an,aa⟩
theorem QgW.push (h:QgW H)(c:List Value)(e:TypeId):QgW (H.push (.cells c e true)):=λid b hb=>by
 rw[Qc]at hb;split at hb
 ·cases hb;rfl
 ·exact h id b hb
theorem QgW.up (h:QgW H)(m:Nat):QgW (H.up m):=λid b hb=>h id b (by rw[Zk]at hb;exact hb)
theorem V.sliceIn {id len cap:Nat}{a:Addr}(hi:ρ id=some ⟨a,0,0⟩)(aa:len<=cap)(q:cap<UNK):V ρ (.slice (some ⟨id,0,none⟩) len cap) (.slice (some a) len cap):=
 .slice id 0 len cap cap ⟨a,0,0⟩ a hi (.inl (by rw[show(⟨a,0,0⟩:Kj).at_=a from rfl];unfold Addr.add;rw[Lc rfl])) aa q (λh=>by omega) (λ_=>rfl)
theorem calls_of_callQ {f:FuncId}{args args':List Value}{X:Value->Qa->Prop}(h:Qe P f args H λu H'=>u=.bool true∧X u H')(ae:H.Wf)(ab:entered P f=true)(ad:Sim P ρ H w)(q:VL ρ args args')(ac:QgW H):
  Calls P f args'.toArray w λe w'=>e=.returned (.bool true)∧Below w.heap.size w w':=by
 obtain⟨v,H',aa,_,_,rfl,_⟩:=h ae;exact QtN (aa.does ab) ad q rfl ac
theorem QCc {base:Nat}{a:Addr}{n:Nat}{cs:List Value}(h:w.cells? base a n=some cs):cs.length=n∧∀i,i<n->w.cell? (a.add i)=cs[i]? := by
 unfold World.cells? at h;split at h
 ·have aa:=Qqk.mapM_length h;refine⟨by simpa using aa,λi hi=>?_⟩;have key:∀ (l:List Nat) (cs:List Value),l.mapM (λi=>w.cell? (a.add i))=some cs->∀ (j:Nat) x,l[j]? = some x->w.cell? (a.add x)=cs[j]? := by
   intro l
   induction l with
   | nil=>intro cs h j x q;simp at q
   | cons y l ad=>
    intro cs h j x q;simp only[Ra,BV,BY,Rx,Lt]at h;obtain⟨v,ab,ae,ac,rfl⟩:=h;cases j with
    | zero=>simp at q;subst q;simpa using ab
    | succ j=>simpa using ad ae ac j x (by simpa using q)
  exact key _ _ h i i (by simp[hi])
 ·cases h
end
variable {P:Program}
variable {P:Program} {A:Env} {H:Qa} {k:Value->Qa->Prop}
theorem QvM {o:Op}{v:Value}{H':Qa}(e:rop P (.gen o) A H=some (v,H')):pr P (.gen o) false A H k=k v H':=by
 refine(WW _).trans ?_;rw[e,QJ]
/-! ### Texts -/
section
variable {ty:TypeId} {x lo hi:Operand} {s:ByteArray} {l h:Nat} {ik ik':IntKind}
end
/-! ### Arrays in memory -/
/-! ### Nil, and places held against each other -/
def QvN (P:Program)(t:TypeId):Bool:=match P.underlying t with | some (.slice _)=>true | _=>false
theorem Qly {t ad:TypeId}{x:Operand}{a:Option Addr}{n c:Nat}(q:QvN P t=true)(ac:ev A x=.slice a n c):
  pr P (.gen (.binOp .eql t x (.const (.slice none 0 0)) ad)) false A H k=k (.bool a.isNone) H:=by
 have ab:ev A (.const (.slice none 0 0))=.slice none 0 0:=rfl;unfold QvN at q;split at q
 ·rename_i aa;exact QvM (by cases a<;>simp[rop,aop,Qfk,Qvm,Qqn,Jk,ac,ab,aa,aeq,Qj3,Qcx,JI,QmF,Qvk])
 ·cases q
/-! ### Numbers -/
theorem Qsy {t:TypeId}{x:Operand}{ik:IntKind}{n:Int}(q:ev A x=.int ik n):pr P (.gen (.unOp .neg t x)) false A H k=k (.int ik (ik.wrap (-n))) H:=
 QvM (by simp[rop,aop,Qvo,q,Jk,QrQ])
/-! ### Pointers without a type -/
/-! ### Entries of the model -/
/-! ### Cells -/
end Go.Ab
