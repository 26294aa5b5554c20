/- Code made of resolved operations, and what it does, as a proposition. -/
import Derived.Test.YtdjkkoacinpdeaaGreatDoorAbC
import Derived.Test.YtdjkkoacinpdeaaGreatDoorAbB
set_option linter.unusedVariables false
set_option linter.unusedSimpArgs false
noncomputable section
namespace Go.Ab
structure PO where
 d:Option Nat
 r:R
 g:Option (Nat×Bool)
 s:Bool
inductive PC where
 | skip
 | ops (l:List PO)
 | seq (a b:PC)
 | cond (c:Operand) (a b:PC)
 | block (id:Nat) (b:PC)
 | loop (b:PC)
 | exit (id:Nat)
 | ret
 | label (l:Nat)
 | goto (l:Nat)
 | scope (b:PC) (l:Nat) (r:PC)
 | rangeF (g:Operand) (ps:List Nat) (a b:PC)
 | bad
/-! ### Resolving code -/
def QiZ (o:Oper):Bool:=match o.op with | .load .. => true | _=>false
def Qmn (o:Oper):Bool:=match o.op with | .alloc .. | .box .. | .makeSlice .. | .buildSlice .. | .convert .. | .makeMap .. | .range .. => true | _=>false
def QaB (o:Oper):Bool:=match o.op with | .call ⟨.value _,_,_⟩=>true | _=>false
def Qgi (ops:Array Oper) (i:Nat):Bool:=match ops[i]? with | some o=>QiZ o | none=>false
def Qb0 (ops:Array Oper) (i:Nat):Bool:=match ops[i]? with | some o=>Qmn o | none=>false
def Vy (ops:Array Oper) (i:Nat):Bool:=match ops[i]? with | some o=>QaB o | none=>false
def WX (ops:Array Oper) (ms:List Nat) (k:Nat):Bool:=
 (Xa ops k&&(List.range ops.size).any fun i=>(Qgi ops i&&!(Qy ms i k)&&!(Qy ms k i))||(Qb0 ops i&&Nat.blt i k&&!(Qy ms i k))) ||
 (Qgi ops k&&(List.range ops.size).any fun i=>Xa ops i&&!(Qy ms i k)&&!(Qy ms k i))
def Qmo (o:Oper):Bool:=match o.op with | .store .. => true | _=>false
def Qmp (ops:Array Oper) (i:Nat):Bool:=match ops[i]? with | some o=>Qmo o | none=>false
def QdB (ms:List Nat) (i k:Nat):Bool:=!(Qy ms i k)&&!(Qy ms k i)
def QgT (ops:Array Oper) (i:Nat):Option Nat:=match ops[i]? with | some o=>(match o.op with | .load _ (.tmp t)=>some t | _=>none) | none=>none
def Qh6 (ops:Array Oper) (ms:List Nat) (k:Nat):List Operand:=(List.range k).filterMap fun i=>bif Qgi ops i&&QdB ms i k then(QgT ops i).map .tmp else none
def QsB:List String:=["(*linotype/print.text).next"]
def isG (P:Program) (o:Oper):Bool:=match o.op with
 | .call ⟨.value (.func f),_,_⟩=>(match P.funcs[f]? with | some fn=>QsB.any fun n=>fn.name==n | none=>false)
 | _=>false
def gAt (P:Program) (ops:Array Oper) (i:Nat):Bool:=match ops[i]? with | some o=>isG P o | none=>false
def QsC (P:Program) (ops:Array Oper) (ms:List Nat) (i k:Nat):Bool:=
 Nat.blt i k&&(QgT ops i).isSome&&(List.range k).all fun j=>Nat.blt j i||((match ops[j]? with | some o=>!(o.dst==QgT ops i) | none=>true)&&(!(Xa ops j)||(Vy ops j&&WX ops ms j&&!(gAt P ops j))||(Qmp ops j&&WX ops ms j&&QdB ms i j)))
def Qfz (o:Oper):Bool:=match o.op with | .call ⟨.value (.func _),_,_⟩=>true | _=>false
def Qsc (ops:Array Oper) (i:Nat):Bool:=match ops[i]? with | some o=>Qfz o | none=>false
def Qh7 (o:Oper):Option Nat:=match o.op with
 | .fieldAddr _ (.tmp b) _=>some b
 | .indexAddr _ (.tmp b) _=>some b
 | .move (.tmp b)=>some b
 | .assign (.tmp b)=>some b
 | _=>none
def Qlq (o:Oper) (cur:Nat):Option Nat:=bif o.dst==some cur then Qh7 o else some cur
def KN (ops:Array Oper) (k:Nat):Nat→Nat→Option Nat
 | 0,cur=>some cur
 | d+1,cur=>match ops[k+d]? with
  | some o=>(match Qlq o cur with | some c=>KN ops k d c | none=>none)
  | none=>none
def Qgj (ops:Array Oper) (k i:Nat):Option Nat:=match QgT ops i with
 | none=>none
 | some t=>KN ops k (i - k) t
def QaP (ops:Array Oper) (ms:List Nat) (k:Nat):List Operand:=(List.range ops.size).filterMap fun i=>bif Nat.blt k i&&(Qgi ops i&&QdB ms i k) then(Qgj ops k i).map .tmp else none
def quiet (P:Program) (ops:Array Oper) (ms:List Nat) (i k:Nat):Bool:=
 (Nat.blt i k&&(List.range k).all fun j=>Nat.ble j i||(!(Xa ops j)||(WX ops ms j&&Vy ops j&&!(gAt P ops j)))) ||
 (Nat.blt k i&&Qsc ops k&&(Qgj ops k i).isSome&&(List.range i).all fun j=>Nat.blt j k||(!(Xa ops j)||(WX ops ms j&&Vy ops j&&(!(gAt P ops j)||QdB ms i j))))
def QnE (P:Program) (ops:Array Oper) (ms:List Nat):Bool:=
 (List.range ops.size).all fun k=>!(Xa ops k)||!(WX ops ms k)||(Vy ops k&&((List.range ops.size).all fun i=>!(Qgi ops i)||Qy ms i k||Qy ms k i||quiet P ops ms i k)&&(!(gAt P ops k)||(List.range ops.size).all fun i=>(!(Qgi ops i)||Qy ms i k||Qy ms k i||Nat.blt k i)&&(!(Qb0 ops i)||!(Nat.blt i k)||Qy ms i k))) ||
  (Qmp ops k&&(List.range ops.size).all fun i=>(!(Qgi ops i)||Qy ms i k||Qy ms k i||QsC P ops ms i k)&&(!(Qb0 ops i)||!(Nat.blt i k)||Qy ms i k))
def Qba (P:Program) (ops:Array Oper) (i:Nat) (o:Oper):R:=
 match o.op with
 | .store t x y=>match P.info? t with | some inf=>.stf inf.size x y (Qh6 ops (QH ops.toList []) i) | none=>Ww P o.op
 | .call ⟨.value (.func f),args,_⟩=>bif isG P o then .callG f args.toList (QaP ops (QH ops.toList []) i) else .callF f args.toList (QaP ops (QH ops.toList []) i)
 | _=>Ww P o.op
def QfA (P:Program) (ops:Array Oper) (f:Bool) (i:Nat) (o:Oper):R:=bif f then Qba P ops i o else Ww P o.op
def Qmq (n:Nat) (ops:Array Oper) (o:Oper):Option (Option (Nat×Bool)):=
 match o.guard with
 | none=>some none
 | some (j,want)=>match V4 ops j with
  | some t=>if t<n then some (some (t,want)) else none
  | none=>none
def Vd (P:Program) (n:Nat) (ops:Array Oper) (fl:Nat→Bool):List Oper→Nat→Option (List PO)
 | [],_=>some []
 | o::l,i=>if QbP P n o then
   match Qmq n ops o,Vd P n ops fl l (i+1) with
   | some g,some pl=>some (⟨o.dst,QfA P ops (fl i) i o,g,fl i⟩::pl)
   | _,_=>none
  else none
def QdC (P:Program) (op:Op):Bool:=match op with
 | .convert src _ _=>(match P.underlying src with | some (.slice _) | some (.pointer _) | some .unsafePointer=>true | _=>false)
 | .range t _=>(match P.underlying t with | some (.map _ _)=>true | _=>false)
 | _=>false
def J0:Nat:=1000000
def sq:PC→PC→PC
 | .skip,y=>y
 | x,.skip=>x
 | x,y=>.seq x y
def Kf:PC→Nat→Option PC
 | .seq a b,l=>match Kf a l with
  | some r=>some (sq r b)
  | none=>Kf b l
 | .label l',l=>bif Nat.beq l' l then some .skip else none
 | _,_=>none
def KO:PC→List Nat
 | .seq a b=>KO a++KO b
 | .label l=>[l]
 | _=>[]
def Qkh (b:PC):PC:=
 match KO b with
 | []=>b
 | [l]=>match Kf b l with
  | some r=>.scope b l r
  | none=>.bad
 | _=>.bad
def comp (P:Program) (n:Nat):Code→Option PC
 | .skip=>some .skip
 | .label l=>some (.label l)
 | .ret=>some .ret
 | .exit id=>some (bif Nat.blt id J0 then .exit id else .bad)
 | .goto l=>some (.goto l)
 | .region _ ops false=>some (match Vd P n ops (fun _=>false) ops.toList 0 with | some l=>.ops l | none=>.bad)
 | .region _ ops true=>some (if P.follows .mixedOrders&&QaO ops (Xa ops)&&QnE P ops (QH ops.toList [])&&ops.all (fun o=>!(QdC P o.op)) then(match Vd P n ops (WX ops (QH ops.toList [])) ops.toList 0 with | some l=>.ops l | none=>.bad) else .bad)
 | .seq a b=>match comp P n a,comp P n b with
  | some x,some y=>some (sq x y)
  | _,_=>none
 | .cond c a b=>if Qau P n c then(match comp P n a,comp P n b with | some x,some y=>some (.cond c x y) | _,_=>none) else none
 | .block id b=>(comp P n b).map fun x=>bif Nat.blt id J0 then .block id x else .bad
 | .loop b=>(comp P n b).map .loop
 | .scope b=>(comp P n b).map Qkh
 | .rangeFunc g ps a b=>if Qau P n g then(match comp P n a,comp P n b with | some x,some y=>some (.rangeF g ps.toList x y) | _,_=>none) else none
 | _=>some .bad
/-! ### What it does -/
structure Kp where
 ret:Env→Qa→Prop
 ext:Nat→Env→Qa→Prop
def onS (o:Option (Value×Qa)) (k:Value→Qa→Prop):Prop:=∃v H',o=some (v,H')∧k v H'
def Qa.Wf (H:Qa):Prop:=∀id,H.next≤id→H.get id=none
theorem Qa.Wf.lt {H:Qa} (h:H.Wf) {id:Nat} {b:Blk} (hg:H.get id=some b):id<H.next:=by
 rcases Nat.lt_or_ge id H.next with h1 | h1
 ·exact h1
 ·rw[h id h1]at hg;cases hg
theorem Qa.Wf.push {H:Qa} (h:H.Wf) (b:Blk):(H.push b).Wf:=fun id hid=>by
 simp only[Qa.next_push]at hid
 rw[Qa.get_push,if_neg (by omega)];exact h id (by omega)
theorem Qa.Wf.set {H:Qa} (h:H.Wf) {i:Nat} {b0:Blk} (hg:H.get i=some b0) (b:Blk):(H.set i b).Wf:=fun id hid=>by
 have:=h.lt hg
 simp only[Qa.next_set]at hid
 rw[Qa.get_set,if_neg (by omega)];exact h id hid
theorem Qa.Wf.kill {H:Qa} (h:H.Wf) (i:Nat):(H.kill i).Wf:=fun id hid=>by
 simp only[Qa.next_kill]at hid
 rw[Qa.get_kill]
 split
 ·rfl
 ·exact h id hid
def Qf (P:Program) (f:FuncId) (args:List Value) (H:Qa) (k:Value→Qa→Prop):Prop:=H.Wf→∃v H',Jr P f args H v H'∧H.next≤H'.next∧H'.Wf∧k v H'
def YQ (P:Program) (l:Nat) (args:List Value) (H:Qa) (k:Value→Qa→Prop):Prop:=H.Wf→∃v H',Qjz P l args H v H'∧H.next≤H'.next∧H'.Wf∧k v H'
def QeV:Value→Value→Prop
 | .pointer (some a),.pointer (some b)=>b.block≠a.block
 | _,_=>True
def Qh8 (n:Nat):Value→Prop
 | .pointer (some a)=>a.block<n
 | .slice (some a) _ _=>a.block<n
 | _=>False
def Qh9 (H H':Qa):Value→Prop
 | .pointer (some a)=>H'.get a.block=H.get a.block
 | .slice (some a) _ _=>H'.get a.block=H.get a.block
 | _=>True
def EqB (H H':Qa):Prop:=∀id,id<H.next→H'.get id=H.get id
def pr (P:Program) (r:R) (s:Bool) (A:Env) (H:Qa) (k:Value→Qa→Prop):Prop:=
 match r with
 | .call f args=>Qf P f (args.map (ev A)) H fun v H'=>(s=true→∀id,H'.get id=H.get id)∧k v H'
 | .callv c args=>match ev A c with
  | .func (.func f) xs ys=>Qf P f (xs.toList++args.map (ev A)++ys.toList) H fun v H'=>(s=true→∀id,H'.get id=H.get id)∧k v H'
  | .func (.yield l) ⟨[]⟩ ⟨[]⟩=>YQ P l (args.map (ev A)) H fun v H'=>(s=true→∀id,H'.get id=H.get id)∧k v H'
  | _=>False
 | .callF f args os=>(∀z∈os,Qh8 H.next (ev A z))∧Qf P f (args.map (ev A)) H fun v H'=>EqB H H'∧k v H'
 | .callG f args os=>(∀z∈os,Qh8 H.next (ev A z))∧Qf P f (args.map (ev A)) H fun v H'=>(∀z∈os,Qh9 H H' (ev A z))∧k v H'
 | .stf size x y os=>onS (rop P (.stf size x y os) A H) fun v H'=>(∀z∈os,QeV (ev A x) (ev A z))∧k v H'
 | r=>onS (rop P r A H) fun v H'=>(s=true→Qn H.next 6 v=true)∧k v H'
def pg (g:Option (Nat×Bool)) (A:Env) (yes no:Prop):Prop:=
 match g with
 | none=>yes
 | some (t,w)=>match A t with
  | .bool b=>if b=w then yes else no
  | .tuple _=>no
  | _=>False
def Vz (P:Program):List PO→(Env→Qa→Prop)→Env→Qa→Prop
 | [],k,A,H=>k A H
 | o::l,k,A,H=>pg o.g A (pr P o.r o.s A H fun v H'=>Vz P l k (ZQ A o.d v) H') (Vz P l k (ZQ A o.d undef) H)
def jmK (l:Nat) (I:Nat→Env→Qa→Prop) (m:Nat) (e:Nat→Env→Qa→Prop) (j:Nat) (A:Env) (H:Qa):Prop:=if j=J0+l then ∃m',m'<m∧I m' A H else e j A H
def Qmr (st:Option Code) (ks:Kp) (k:Env→Qa→Prop) (A:Env) (H:Qa):Prop:=match st with
 | none=>k A H
 | some .ret=>ks.ret A H
 | some (.exit j)=>Nat.blt j J0=true∧ks.ext j A H
 | _=>False
def Qq0 (L:Option Code→Blk) (l:Nat) (nx:Nat) (Q:Value→Qa→Prop):Kp:=⟨fun _ H2=>nx≤H2.next∧Q (.bool false) (H2.set l (L (some .ret))),fun j _ H2=>Nat.blt j J0=true∧nx≤H2.next∧Q (.bool false) (H2.set l (L (some (.exit j))))⟩
def QsD (L:Option Code→Blk) (l:Nat) (nx:Nat) (Q:Value→Qa→Prop):Env→Qa→Prop:=fun _ H2=>nx≤H2.next∧Q (.bool true) (H2.set l (L none))
def QnF:Kp:=⟨fun _ _=>False,fun _ _ _=>False⟩
def Qj (P:Program):PC→Kp→(Env→Qa→Prop)→Env→Qa→Prop
 | .skip,_,k,A,H=>k A H
 | .ops l,_,k,A,H=>Vz P l k A H
 | .seq a b,ks,k,A,H=>Qj P a ks (Qj P b ks k) A H
 | .cond c a b,ks,k,A,H=>match ev A c with
  | .bool t=>(t=true→Qj P a ks k A H)∧(t=false→Qj P b ks k A H)
  | _=>False
 | .block id b,ks,k,A,H=>Qj P b ⟨ks.ret,fun j=>if j=id then k else ks.ext j⟩ k A H
 | .loop b,ks,k,A,H=>∃I:Nat→Env→Qa→Prop,(∃m,I m A H)∧∀m A' H',I m A' H'→Qj P b ks (fun A'' H''=>∃m',m'<m∧I m' A'' H'') A' H'
 | .exit id,ks,_,A,H=>ks.ext id A H
 | .ret,ks,_,A,H=>ks.ret A H
 | .label _,_,k,A,H=>k A H
 | .goto l,ks,_,A,H=>ks.ext (J0+l) A H
 | .scope b l r,ks,k,A,H=>∃I:Nat→Env→Qa→Prop,(∃m,Qj P b ⟨ks.ret,jmK l I m ks.ext⟩ k A H)∧∀m A' H',I m A' H'→Qj P r ⟨ks.ret,jmK l I m ks.ext⟩ k A' H'
 | .rangeF g ps a b,ks,k,A,H=>match ev A g with
  | .func (.func f) xs ys=>∀L:Option Code→Blk,
    (∀ (l:Nat) (args:List Value) (H0:Qa) (Q:Value→Qa→Prop),H0.get l=some (L none)→args.length=ps.length→Qj P a QnF (fun A1 H1=>Qj P b (Qq0 L l H0.next Q) (QsD L l H0.next Q) A1 H1) (QgJ A ps args) (H0.kill l)→YQ P l args H0 Q)→
    entered P f=true∧Qf P f (xs.toList++[.func (.yield H.next) #[] #[]]++ys.toList) (H.push (L none)) fun _ H2=>∃st,H2.get H.next=some (L st)∧Qmr st ks k A (H2.kill H.next)
  | _=>False
 | .bad,_,_,_,_=>False
/-! ### Soundness -/
section
variable {P:Program} {n:Nat}
theorem Qoj:Vc P J1:=⟨fun f args H v H' h=>(by cases h),fun f args H v H' h=>(by cases h),fun f args H v H' h=>(by cases h)⟩
theorem Qok {H H':Qa} {r:Option Value} {c:Cls} {v:Value} (h:X1 H r=some (c,v,H')):c=.pure∧H'=H:=by
 obtain⟨_,h1,h2⟩:=XN h;exact⟨h1,h2⟩
theorem Xc {α:Type} {b:Bool} {x:Option α} {y:α} (h:(bif b then x else none)=some y):x=some y:=by cases b<;>simp_all
theorem QfB {e:TypeId} {inf:TypeInfo} {s x:Value} {H H':Qa} {v:Value} (h:Qd6 e inf s x H=some (v,H')):H.next≤H'.next∧(H.Wf→H'.Wf):=by
  unfold Qd6 at h
  repeat' (split at h)
  all_goals first
    | (cases h;done)
    | (simp only[Option.some.injEq,Prod.mk.injEq]at h;obtain⟨_,rfl⟩:=h;refine⟨by simp,fun hw=>?_⟩
       first
         | exact hw
         | exact hw.push _
         | exact(hw.kill _).push _
         | exact hw.set (by assumption) _)
theorem Qea {k:TypeId} {m ix v:Value} {H H':Qa} (h:Qlo P k m ix v H=some H'):H.next≤H'.next∧(H.Wf→H'.Wf):=by
 unfold Qlo at h
 split at h
 ·split at h
  ·rename_i hg
   have h:=Xc h
   split at h
   ·cases h;exact⟨by simp,fun hw=>hw.set hg _⟩
   ·cases h;exact⟨by simp,fun hw=>hw.set hg _⟩
   ·cases h
  ·cases h
 ·cases h
structure Syn (P:Program) (o:Oper) (H H':Qa) (c:Cls):Prop where
 gen:XM c=true→QsA o=true∨QdC P o.op=true
 load:c=.load→QiZ o=true
 alloc:∀b,c=.alloc b→Qmn o=true
 next:H.next≤H'.next
 wf:H.Wf→H'.Wf
theorem Qq1 {o:Oper} {A:Env} {H H':Qa} {c:Cls} {v:Value} (h:aop P J1 o A H=some (c,v,H')):Syn P o H H' c:=by
  obtain⟨dst,op,ty,pos,af,g⟩:=o
  have hs:∀ {u:Value},some (Cls.pure,u,H)=some (c,v,H')→Syn P ⟨dst,op,ty,pos,af,g⟩ H H' c:=fun h=>by
    simp only[Option.some.injEq,Prod.mk.injEq]at h
    obtain⟨rfl,_,rfl⟩:=h
    exact⟨fun h=>(by cases h),fun h=>(by cases h),fun b h=>(by cases h),Nat.le_refl _,id⟩
  have hp:∀ {r:Option Value},X1 H r=some (c,v,H')→Syn P ⟨dst,op,ty,pos,af,g⟩ H H' c:=fun {r} h=>by
    obtain⟨rfl,rfl⟩:=Qok h
    exact⟨fun h=>(by cases h),fun h=>(by cases h),fun b h=>(by cases h),Nat.le_refl _,id⟩
  have ha:∀ {b:Blk} {u:Value},Qmn ⟨dst,op,ty,pos,af,g⟩=true→some (Cls.alloc b,u,H.push b)=some (c,v,H')→Syn P ⟨dst,op,ty,pos,af,g⟩ H H' c:=fun hl h=>by
    simp only[Option.some.injEq,Prod.mk.injEq]at h
    obtain⟨rfl,_,rfl⟩:=h
    exact⟨fun h=>(by cases h),fun h=>(by cases h),fun b _=>hl,by simp,fun hw=>hw.push _⟩
  unfold aop at h
  split at h
  case h_1 hop=>exact hs h
  case h_2 hop=>exact hs h
  case h_3 hop=>
    unfold Qkd at h
    split at h
    · exact hs h
    · cases h
  case h_4 hop=>exact hs (Xc h)
  case h_5 hop=>exact hp h
  case h_6 hop=>exact hp h
  case h_7 hop=>
    unfold GY at h
    simp only at hop
    split at h
    · split at h
      · split at h
        · exact ha (by subst hop;rfl) (Xc h)
        · cases h
      · cases h
    · rename_i hu hd ex
      split at h
      · split at h
        · simp only[Option.some.injEq,Prod.mk.injEq]at h;obtain⟨rfl,_,rfl⟩:=h
          exact⟨fun _=>.inr (by subst hop;simp only[QdC,hu]),fun h=>(by cases h),fun b h=>(by cases h),Nat.le_refl _,id⟩
        · cases h
      · cases h
    · rename_i hu hd ex
      split at h
      · split at h
        · simp only[Option.some.injEq,Prod.mk.injEq]at h;obtain⟨rfl,_,rfl⟩:=h
          exact⟨fun _=>.inr (by subst hop;simp only[QdC,hu]),fun h=>(by cases h),fun b h=>(by cases h),Nat.le_refl _,id⟩
        · cases h
      · cases h
    · rename_i hu hd ex
      split at h
      · split at h
        · simp only[Option.some.injEq,Prod.mk.injEq]at h;obtain⟨rfl,_,rfl⟩:=h
          exact⟨fun _=>.inr (by subst hop;simp only[QdC,hu]),fun h=>(by cases h),fun b h=>(by cases h),Nat.le_refl _,id⟩
        · cases h
      · cases h
    · exact hp h
  case h_8 hop=>
    unfold JT at h
    split at h
    · cases h
    · exact hs h
    · cases h
  case h_9 hop=>exact hs (Xc h)
  case h_10 hop=>
    unfold Qhv at h
    repeat' (split at h)
    all_goals first | exact hp h | cases h
  case h_11 hop=>
    unfold Ke at h
    repeat' (split at h)
    all_goals first
      | (cases h;done)
      | (revert h;cases hz:Nat.beq _ 0<;>intro h<;>first | exact hs h | cases h)
  case h_12 hop=>
    unfold ZT at h
    repeat' (split at h)
    all_goals first | exact hs h | cases h
  case h_13 hop=>
    unfold Qhw at h
    repeat' (split at h)
    all_goals first | exact hs h | exact hp h | cases h
  case h_14 hop=>
    unfold Qd7 at h
    split at h
    · exact hp h
    · cases h
  case h_15 hop=>exact hp h
  case h_16 hop=>
    unfold Qhx at h
    repeat' (split at h)
    all_goals first | (cases h;done) | exact hp (Xc h)
  case h_17 hop=>
    simp only at hop
    unfold VW at h
    split at h
    · split at h
      · split at h
        · have h:=Xc h
          split at h
          · exact ha (by subst hop;rfl) h
          · cases h
        · cases h
      · cases h
    · cases h
  case h_18 hop=>
    simp only at hop
    unfold Qhy at h
    split at h
    · split at h
      · exact ha (by subst hop;rfl) (Xc h)
      · cases h
    · cases h
  case h_19 hop=>simp only at hop;unfold Qps at h;exact ha (by subst hop;rfl) h
  case h_20 hop=>
    simp only at hop
    unfold Qaz at h
    repeat' (split at h)
    all_goals first | (cases h;done) | exact ha (by subst hop;rfl) h
  case h_21 hop=>
    unfold Qd8 at h
    repeat' (split at h)
    all_goals first | exact hs h | exact hp h | cases h
  case h_22 hop=>
    simp only at hop
    unfold Qh3 at h
    repeat' (split at h)
    all_goals first
      | (cases h;done)
      | (simp only[Option.some.injEq,Prod.mk.injEq]at h
         obtain⟨rfl,_,rfl⟩:=h
         exact⟨fun h=>(by cases h),fun _=>(by subst hop;rfl),fun b h=>(by cases h),Nat.le_refl _,id⟩)
  case h_23 hop=>
    simp only at hop
    unfold Qft at h
    split at h
    · split at h
      · rename_i H1 hst
        simp only[Option.some.injEq,Prod.mk.injEq]at h
        obtain⟨rfl,_,rfl⟩:=h
        have hst2:H.next≤H1.next∧(H.Wf→H1.Wf):=by
          unfold QeO at hst
          split at hst
          · rename_i hg
            split at hst
            · cases hst;exact⟨by simp,fun hw=>hw.set hg _⟩
            · cases hst
          · cases hst
        exact⟨fun _=>.inl (by subst hop;rfl),fun h=>(by cases h),fun b h=>(by cases h),hst2.1,hst2.2⟩
      · cases h
    · cases h
  case h_24 cl hop=>
    simp only at hop
    unfold QbX at h
    split at h
    · split at h
      · split at h
        · exact hs h
        · cases h
      · split at h
        · exact hs (Xc h)
        · cases h
      · split at h
        · split at h
          · exact hs h
          · cases h
        · cases h
      · split at h
        · split at h
          · exact hs h
          · cases h
        · cases h
      · split at h
        · split at h
          · split at h
            · have h:=Xc h
              simp only[Option.map_eq_some_iff,Prod.mk.injEq]at h
              obtain⟨⟨u,H1⟩,h1,rfl,rfl,rfl⟩:=h
              exact⟨fun _=>.inl (by subst hop;rfl),fun h=>(by cases h),fun b h=>(by cases h),(QfB h1).1,(QfB h1).2⟩
            · cases h
          · cases h
        · cases h
      · split at h
        · split at h
          · simp only[Option.map_eq_some_iff,Prod.mk.injEq]at h
            obtain⟨⟨u,H1⟩,h1,rfl,rfl,rfl⟩:=h
            have hn:H.next≤H1.next∧(H.Wf→H1.Wf):=by
              unfold QnB at h1
              repeat' (split at h1)
              all_goals first
                | (cases h1;done)
                | (simp only[Option.some.injEq,Prod.mk.injEq]at h1;obtain⟨_,rfl⟩:=h1;exact⟨by simp,fun hw=>by first | exact hw | exact hw.set (by assumption) _⟩)
            exact⟨fun _=>.inl (by subst hop;rfl),fun h=>(by cases h),fun b h=>(by cases h),hn.1,hn.2⟩
          · cases h
        · cases h
      · split at h
        · exact hs h
        · split at h
          · exact hs h
          · cases h
        · cases h
      · split at h
        · simp only[Option.some.injEq,Prod.mk.injEq]at h;obtain⟨rfl,_,rfl⟩:=h
          exact⟨fun _=>.inl (by subst hop;rfl),fun h=>(by cases h),fun b h=>(by cases h),Nat.le_refl _,id⟩
        · split at h
          · rename_i hg
            split at h
            · split at h
              · simp only[Option.some.injEq,Prod.mk.injEq]at h;obtain⟨rfl,_,rfl⟩:=h
                exact⟨fun _=>.inl (by subst hop;rfl),fun h=>(by cases h),fun b h=>(by cases h),by simp,fun hw=>hw.set hg _⟩
              · cases h
            · cases h
          · cases h
        · cases h
      · cases h
    · split at h
      · split at h
        · simp[J1]at h
        · cases h
      · cases h
    · simp[J1]at h
    · split at h
      · simp[J1]at h
      · have h:=Xc h;simp[J1]at h
      · cases h
  case h_25 hop=>simp only at hop;exact ha (by subst hop;rfl) h
  case h_26 hop=>
    simp only at hop
    unfold Qfu at h
    split at h
    · simp only[Option.map_eq_some_iff,Prod.mk.injEq]at h
      obtain⟨u,h1,rfl,rfl,rfl⟩:=h
      exact⟨fun _=>.inl (by subst hop;rfl),fun h=>(by cases h),fun b h=>(by cases h),Nat.le_refl _,id⟩
    · cases h
  case h_27 hop=>
    simp only at hop
    unfold Qh4 at h
    split at h
    · simp only[Option.map_eq_some_iff,Prod.mk.injEq]at h
      obtain⟨H1,h1,rfl,rfl,rfl⟩:=h
      exact⟨fun _=>.inl (by subst hop;rfl),fun h=>(by cases h),fun b h=>(by cases h),(Qea h1).1,(Qea h1).2⟩
    · cases h
  case h_28 hop=>
    simp only at hop
    unfold Qh4 at h
    split at h
    · simp only[Option.map_eq_some_iff,Prod.mk.injEq]at h
      obtain⟨H1,h1,rfl,rfl,rfl⟩:=h
      exact⟨fun _=>.inl (by subst hop;rfl),fun h=>(by cases h),fun b h=>(by cases h),(Qea h1).1,(Qea h1).2⟩
    · cases h
  case h_29 hop=>
    simp only at hop
    unfold Qkf at h
    split at h
    · exact ha (by subst hop;rfl) h
    · rename_i ht ex
      simp only[Option.some.injEq,Prod.mk.injEq]at h
      obtain⟨rfl,_,rfl⟩:=h
      exact⟨fun _=>.inr (by subst hop;simp only[QdC,ht]),fun h=>(by cases h),fun b h=>(by cases h),by simp,fun hw=>hw.push _⟩
    · rename_i ht ex
      split at h
      · simp only[Option.some.injEq,Prod.mk.injEq]at h
        obtain⟨rfl,_,rfl⟩:=h
        exact⟨fun _=>.inr (by subst hop;simp only[QdC,ht]),fun h=>(by cases h),fun b h=>(by cases h),by simp,fun hw=>hw.push _⟩
      · cases h
    · cases h
  case h_30 hop=>
    simp only at hop
    simp only[Option.map_eq_some_iff,Prod.mk.injEq]at h
    obtain⟨⟨u,H1⟩,h1,rfl,rfl,rfl⟩:=h
    have hn:H.next≤H1.next∧(H.Wf→H1.Wf):=by
      unfold QnA at h1
      split at h1
      · have h1:=Xc h1
        split at h1
        · rename_i hg
          split at h1
          · simp only[Option.some.injEq,Prod.mk.injEq]at h1;obtain⟨_,rfl⟩:=h1;exact⟨by simp,fun hw=>hw.set hg _⟩
          · simp only[Option.some.injEq,Prod.mk.injEq]at h1;obtain⟨_,rfl⟩:=h1;exact⟨by simp,fun hw=>hw⟩
        · cases h1
      · cases h1
    exact⟨fun _=>.inl (by subst hop;rfl),fun h=>(by cases h),fun b h=>(by cases h),hn.1,hn.2⟩
  case h_31 hop=>
    simp only at hop
    simp only[Option.map_eq_some_iff,Prod.mk.injEq]at h
    obtain⟨⟨u,H1⟩,h1,rfl,rfl,rfl⟩:=h
    have hn:H.next≤H1.next∧(H.Wf→H1.Wf):=by
      unfold Qkc at h1
      split at h1
      · have h1:=Xc h1
        split at h1
        · simp only[Option.some.injEq,Prod.mk.injEq]at h1;obtain⟨_,rfl⟩:=h1;exact⟨by simp,fun hw=>hw⟩
        · rename_i hg
          split at h1
          · have h1:=Xc h1
            split at h1
            · simp only[Option.some.injEq,Prod.mk.injEq]at h1;obtain⟨_,rfl⟩:=h1;exact⟨by simp,fun hw=>hw⟩
            · split at h1
              · have h1:=Xc h1
                simp only[Option.some.injEq,Prod.mk.injEq]at h1;obtain⟨_,rfl⟩:=h1;exact⟨by simp,fun hw=>hw.set hg _⟩
              · cases h1
            · cases h1
          · cases h1
        · cases h1
      · cases h1
    exact⟨fun _=>.inl (by subst hop;rfl),fun h=>(by cases h),fun b h=>(by cases h),hn.1,hn.2⟩
  case h_32 hop=>
    simp only at hop
    simp only[Option.map_eq_some_iff,Prod.mk.injEq]at h
    obtain⟨u,h1,rfl,rfl,rfl⟩:=h
    exact⟨fun _=>.inl (by subst hop;rfl),fun h=>(by cases h),fun b h=>(by cases h),Nat.le_refl _,fun hw=>hw⟩
  case h_33=>cases h
end
section
variable {P:Program} {n:Nat}
theorem QjI {ops:Array Oper} {o:Oper} {g:Option (Nat×Bool)} {A:Env} {yes no:Prop} (hc:Qmq n ops o=some g) (h:pg g A yes no):
  (Yh n ops A o=some true∧yes)∨(Yh n ops A o=some false∧no):=by
 unfold Qmq at hc
 unfold Yh
 split at hc
 ·rename_i hg
  cases hc
  exact .inl ⟨by rw[hg],h⟩
 ·rename_i j want hg
  rw[hg]
  split at hc
  ·rename_i t ht
   split at hc
   ·rename_i hlt
    cases hc
    have h':(match A t with | .bool b=>if b=want then yes else no | .tuple _=>no | _=>False):=h
    simp only[ht,hlt,if_true]
    split at h'
    ·rename_i b hb
     split at h'
     ·rename_i e;exact .inl ⟨by simp[hb,e],h'⟩
     ·rename_i e;exact .inr ⟨by simp[hb,e],h'⟩
    ·rename_i hb;exact .inr ⟨by simp[hb],h'⟩
    ·exact h'.elim
   ·cases hc
  ·cases hc
theorem Qko {op:Op} {f:FuncId} {args:List Operand} (h:Ww P op=.call f args):∃a ts,op=.call ⟨.value (.func f),a,ts⟩∧args=a.toList:=by
 unfold Ww at h
 repeat' (split at h)
 all_goals first
  | (cases h;done)
  | (cases h;exact⟨_,_,rfl,rfl⟩)
theorem Qi2 {op:Op} {c:Operand} {args:List Operand} (h:Ww P op=.callv c args):∃a ts,op=.call ⟨.value c,a,ts⟩∧args=a.toList:=by
 unfold Ww at h
 repeat' (split at h)
 all_goals first
  | (cases h;done)
  | (cases h;exact⟨_,_,rfl,rfl⟩)
theorem Qlv {op:Op} {size:Nat} {x y:Operand} {os:List Operand} (h:Ww P op=.stf size x y os):False:=by
 unfold Ww at h
 repeat' (split at h)
 all_goals cases h
theorem Qi3 {op:Op} {f:FuncId} {args os:List Operand} (h:Ww P op=.callF f args os):False:=by
 unfold Ww at h
 repeat' (split at h)
 all_goals cases h
theorem Qi4 {op:Op} {f:FuncId} {args os:List Operand} (h:Ww P op=.callG f args os):False:=by
 unfold Ww at h
 repeat' (split at h)
 all_goals cases h
def InB (v:Value) (b:Nat):Prop:=(∃a:Addr,v=.pointer (some a)∧a.block=b)∨∃ (a:Addr) (n c:Nat),v=.slice (some a) n c∧a.block=b
theorem InB.uniq {v:Value} {b b':Nat} (h:InB v b) (h':InB v b'):b=b':=by
 rcases h with⟨a,rfl,rfl⟩ | ⟨a,n,c,rfl,rfl⟩<;>rcases h' with⟨a',e,rfl⟩ | ⟨a',n',c',e,rfl⟩<;>cases e<;>rfl
def FA (o:Oper) (A:Env) (v:Value):Prop:=∀b,Qh7 o=some b→∀n,InB v n→InB (A b) n
theorem FA.none {o:Oper} {A:Env} {v:Value} (h:Qh7 o=none):FA o A v:=fun b h'=>by rw[h]at h';cases h'
theorem QsM {o:Oper} {A:Env} {H H':Qa} {c:Cls} {v:Value} (h:aop P J1 o A H=some (c,v,H')):FA o A v:=by
 obtain⟨dst,op,ty,pos,af,g⟩:=o
 intro b hf n hv
 unfold Qh7 at hf
 split at hf
 ·rename_i t b' f hop
  simp only at hop
  subst hop
  cases hf
  have h:Ke P J1 A H t (.tmp b) f=some (c,v,H'):=h
  unfold Ke at h
  split at h
  ·rename_i fs a _ ha
   split at h
   ·split at h
    ·rename_i inf _
     cases hz:Nat.beq inf.size 0 with
     | true=>rw[hz]at h;cases h
     | false=>
      rw[hz]at h
      simp only[cond_false,Option.some.injEq,Prod.mk.injEq]at h
      have ha:A b=.pointer (some a):=ha
      obtain⟨_,rfl,_⟩:=h
      rcases hv with⟨a',e,rfl⟩ | ⟨a',n',c',e,rfl⟩
      ·cases e;exact .inl ⟨a,ha,rfl⟩
      ·cases e
    ·cases h
   ·cases h
  ·cases h
 ·rename_i t b' ix hop
  simp only at hop
  subst hop
  cases hf
  have h:ZT P J1 A H t (.tmp b) ix=some (c,v,H'):=h
  unfold ZT at h
  split at h
  ·split at h
   ·rename_i e a len cap _ ha
    have ha:A b=.slice (some a) len cap:=ha
    split at h
    ·split at h
     ·simp only[Option.some.injEq,Prod.mk.injEq]at h
      obtain⟨_,rfl,_⟩:=h
      rcases hv with⟨a',e,rfl⟩ | ⟨a',n',c',e,rfl⟩
      ·cases e;exact .inr ⟨a,_,_,ha,rfl⟩
      ·cases e
     ·cases h
    ·cases h
   ·rename_i len e a _ ha
    have ha:A b=.pointer (some a):=ha
    split at h
    ·split at h
     ·simp only[Option.some.injEq,Prod.mk.injEq]at h
      obtain⟨_,rfl,_⟩:=h
      rcases hv with⟨a',e,rfl⟩ | ⟨a',n',c',e,rfl⟩
      ·cases e;exact .inl ⟨a,ha,rfl⟩
      ·cases e
     ·cases h
    ·cases h
   ·cases h
  ·cases h
 ·rename_i b' hop
  simp only at hop
  subst hop
  cases hf
  have h:some (Cls.pure,ev A (.tmp b),H)=some (c,v,H'):=h
  cases h
  exact hv
 ·rename_i b' hop
  simp only at hop
  subst hop
  cases hf
  have h:some (Cls.pure,ev A (.tmp b),H)=some (c,v,H'):=h
  cases h
  exact hv
 ·cases hf
theorem Qkp {o:Oper} {s:Bool} {A:Env} {H:Qa} {k:Value→Qa→Prop} (hw:H.Wf) (h:pr P (Ww P o.op) s A H k):
  ∃c v H',QgN P o A H v H' c∧Syn P o H H' c∧(s=true→QaB o=true→∀id,H'.get id=H.get id)∧(s=true→QiZ o=true→Qn H.next 6 v=true)∧FA o A v∧k v H':=by
 obtain⟨dst,op,ty,pos,af,g⟩:=o
 have other:onS (rop P (Ww P op) A H) (fun v H'=>(s=true→Qn H.next 6 v=true)∧k v H')→
   ∃c v H',QgN P ⟨dst,op,ty,pos,af,g⟩ A H v H' c∧Syn P ⟨dst,op,ty,pos,af,g⟩ H H' c∧(s=true→QaB ⟨dst,op,ty,pos,af,g⟩=true→∀id,H'.get id=H.get id)∧(s=true→QiZ ⟨dst,op,ty,pos,af,g⟩=true→Qn H.next 6 v=true)∧FA ⟨dst,op,ty,pos,af,g⟩ A v∧k v H':=fun⟨v,H',hr,hs,hk⟩=>by
  obtain⟨c,ha⟩:=Qmm hr
  have ha:aop P J1 ⟨dst,op,ty,pos,af,g⟩ A H=some (c,v,H'):=ha
  refine⟨c,v,H',Qd9 Qoj ha,Qq1 ha,fun _ hc=>?_,fun h _=>hs h,QsM ha,hk⟩
  unfold QaB at hc
  split at hc
  ·rename_i f a ts hop
   simp only at hop
   subst hop
   unfold aop at ha
   simp only[QbX]at ha
   split at ha
   ·rename_i he;cases he
   ·rename_i he;cases he
   ·simp[J1]at ha
   ·split at ha
    ·simp[J1]at ha
    ·have ha:=Xc ha;simp[J1]at ha
    ·cases ha
  ·cases hc
 simp only[pr]at h
 split at h
 ·rename_i f args hr
  obtain⟨a,ts,hop,rfl⟩:=Qko hr
  subst hop
  obtain⟨v,H',hc,hn,hwf,hs,hk⟩:=h hw
  refine⟨.gen,v,H',Qht (by simpa using hc),⟨fun _=>.inl rfl,fun h=>(by cases h),fun b h=>(by cases h),hn,fun _=>hwf⟩,fun h _=>hs h,fun _ h=>(by cases h),.none rfl,hk⟩
 ·rename_i c args hr
  obtain⟨a,ts,hop,rfl⟩:=Qi2 hr
  subst hop
  split at h
  ·rename_i f xs ys hv
   obtain⟨v,H',hc,hn,hwf,hs,hk⟩:=h hw
   refine⟨.gen,v,H',Qlf hv (by simpa using hc),⟨fun _=>.inl rfl,fun h=>(by cases h),fun b h=>(by cases h),hn,fun _=>hwf⟩,fun h _=>hs h,fun _ h=>(by cases h),.none rfl,hk⟩
  ·rename_i l hv
   obtain⟨v,H',hc,hn,hwf,hs,hk⟩:=h hw
   refine⟨.gen,v,H',Qlm hv (by simpa using hc),⟨fun _=>.inl rfl,fun h=>(by cases h),fun b h=>(by cases h),hn,fun _=>hwf⟩,fun h _=>hs h,fun _ h=>(by cases h),.none rfl,hk⟩
  ·exact h.elim
 ·rename_i hr;exact(Qi3 hr).elim
 ·rename_i hr;exact(Qi4 hr).elim
 ·rename_i hr;exact(Qlv hr).elim
 ·exact other h
def Low (P:Program) (o:Oper) (os:List Operand) (A:Env) (H H':Qa):Prop:=Qfz o=true→∀z∈os,∃b:Nat,InB (ev A z) b∧b<H.next∧(isG P o=true→H'.get b=H.get b)
def Sep (o:Oper) (os:List Operand) (A:Env) (H H':Qa):Prop:=Qmo o=true→∃a:Nat,(∀id,id≠a→H'.get id=H.get id)∧∀z∈os,∀b:Addr,ev A z=.pointer (some b)→b.block≠a
theorem Qlw {ops:Array Oper} {i:Nat} {o:Oper} {s:Bool} {A:Env} {H:Qa} {k:Value→Qa→Prop} (hw:H.Wf) (h:pr P (QfA P ops s i o) s A H k):
  ∃c v H',QgN P o A H v H' c∧Syn P o H H' c∧(s=true→QaB o=true→isG P o=false→EqB H H')∧(s=true→QiZ o=true→Qn H.next 6 v=true)∧(s=true→Sep o (Qh6 ops (QH ops.toList []) i) A H H')∧(s=true→Low P o (QaP ops (QH ops.toList []) i) A H H')∧FA o A v∧k v H':=by
 cases s with
 | false=>
  obtain⟨c,v,H',h1,h2,h3,h4,hfa,h5⟩:=Qkp hw h
  exact⟨c,v,H',h1,h2,fun h=>(by cases h),h4,fun h=>(by cases h),fun h=>(by cases h),hfa,h5⟩
 | true=>
  have h:pr P (Qba P ops i o) true A H k:=h
  have plainly:Qmo o=false→Qfz o=false→Qba P ops i o=Ww P o.op→∃c v H',QgN P o A H v H' c∧Syn P o H H' c∧(true=true→QaB o=true→isG P o=false→EqB H H')∧(true=true→QiZ o=true→Qn H.next 6 v=true)∧(true=true→Sep o (Qh6 ops (QH ops.toList []) i) A H H')∧(true=true→Low P o (QaP ops (QH ops.toList []) i) A H H')∧FA o A v∧k v H':=fun hns hnd e=>by
   rw[e]at h
   obtain⟨c,v,H',h1,h2,h3,h4,hfa,h5⟩:=Qkp hw h
   exact⟨c,v,H',h1,h2,fun hh hc _ id _=>h3 hh hc id,h4,fun _ hs=>(by rw[hns]at hs;cases hs),fun _ hs=>(by rw[hnd]at hs;cases hs),hfa,h5⟩
  cases hst:Qmo o with
  | false=>
   cases hdi:Qfz o with
   | false=>
    refine plainly hst hdi ?_
    unfold Qba
    unfold Qmo at hst
    unfold Qfz at hdi
    split
    ·rename_i t x y hop;rw[hop]at hst;cases hst
    ·rename_i hop;rw[hop]at hdi;cases hdi
    ·rfl
   | true=>
    obtain⟨dst,op,ty,pos,af,g⟩:=o
    unfold Qfz at hdi
    split at hdi
    ·rename_i f a ts hop
     simp only at hop
     subst hop
     have hres:Qba P ops i ⟨dst,.call ⟨.value (.func f),a,ts⟩,ty,pos,af,g⟩=bif isG P ⟨dst,.call ⟨.value (.func f),a,ts⟩,ty,pos,af,g⟩ then .callG f a.toList (QaP ops (QH ops.toList []) i) else .callF f a.toList (QaP ops (QH ops.toList []) i):=rfl
     rw[hres]at h
     cases hG:isG P ⟨dst,.call ⟨.value (.func f),a,ts⟩,ty,pos,af,g⟩ with
     | false=>
      rw[hG]at h
      obtain⟨hlow,hq⟩:=h
      obtain⟨v,H',hc,hn,hwf,hs,hk⟩:=hq hw
      refine⟨.gen,v,H',Qht (by simpa using hc),⟨fun _=>.inl rfl,fun h=>(by cases h),fun b h=>(by cases h),hn,fun _=>hwf⟩,fun _ _ _=>hs,fun _ h=>(by cases h),fun _ h=>(by cases h),fun _ _ z hz=>?_,.none rfl,hk⟩
      have:=hlow z hz
      unfold Qh8 at this
      split at this
      ·rename_i b hb;exact⟨_,.inl ⟨b,hb,rfl⟩,this,fun h=>absurd (hG.symm.trans h) (by decide)⟩
      ·rename_i b n c hb;exact⟨_,.inr ⟨b,n,c,hb,rfl⟩,this,fun h=>absurd (hG.symm.trans h) (by decide)⟩
      ·exact this.elim
     | true=>
      rw[hG]at h
      obtain⟨hlow,hq⟩:=h
      obtain⟨v,H',hc,hn,hwf,hs,hk⟩:=hq hw
      refine⟨.gen,v,H',Qht (by simpa using hc),⟨fun _=>.inl rfl,fun h=>(by cases h),fun b h=>(by cases h),hn,fun _=>hwf⟩,fun _ _ h=>(by cases h),fun _ h=>(by cases h),fun _ h=>(by cases h),fun _ _ z hz=>?_,.none rfl,hk⟩
      have h1:=hlow z hz
      have h2:=hs z hz
      unfold Qh8 at h1
      split at h1
      ·rename_i b hb;rw[hb]at h2;exact⟨_,.inl ⟨b,hb,rfl⟩,h1,fun _=>h2⟩
      ·rename_i b n c hb;rw[hb]at h2;exact⟨_,.inr ⟨b,n,c,hb,rfl⟩,h1,fun _=>h2⟩
      ·exact h1.elim
    ·cases hdi
  | true=>
   unfold Qmo at hst
   split at hst
   ·rename_i t x y hop
    unfold Qba at h
    rw[hop]at h
    simp only at h
    cases hin:P.info? t with
    | none=>
     rw[hin]at h
     have e:Ww P (.store t x y)=.gen (.store t x y):=by simp[Ww,hin]
     simp only at h
     rw[e]at h
     obtain⟨v,H',hr,hs,hk⟩:=h
     simp only[rop,aop,Qft,QeO,hin]at hr
     split at hr
     ·rename_i hh;repeat' (split at hh)
      all_goals (first | (cases hh;done) | (rename_i h9;cases h9))
     ·cases hr
    | some inf=>
     rw[hin]at h
     obtain⟨v,H',hr,hs,hk⟩:=h
     have e:Ww P o.op=.st inf.size x y:=by rw[hop];simp[Ww,hin]
     obtain⟨c,v1,H1,h1,h2,h3,h4,hfa,h5⟩:=Qkp (s:=false) (k:=fun v' H1=>v'=v∧H1=H') hw (o:=o) (by
      rw[e];exact⟨v,H',hr,fun h=>(by cases h),rfl,rfl⟩)
     obtain⟨rfl,rfl⟩:=h5
     refine⟨c,v1,H1,h1,h2,fun _ hc _=>?_,fun _ hl=>?_,fun _ _=>?_,fun _ hd=>?_,hfa,hk⟩
     ·unfold QaB at hc;rw[hop]at hc;cases hc
     ·unfold QiZ at hl;rw[hop]at hl;cases hl
     ·simp only[rop]at hr
      split at hr
      ·rename_i a ha
       split at hr
       ·rename_i c' e' hg
        split at hr
        ·simp only[Option.some.injEq,Prod.mk.injEq]at hr
         obtain⟨_,rfl⟩:=hr
         refine⟨a.block,fun id hid=>by rw[Qa.get_set,if_neg hid],fun z hz=>?_⟩
         have hap:=hs z hz
         rw[ha]at hap
         intro b1 hb1
         rw[hb1]at hap
         exact hap
        ·cases hr
       ·cases hr
      ·cases hr
     ·unfold Qfz at hd;rw[hop]at hd;cases hd
   ·cases hst
theorem QeY {ops:Array Oper} {fl:Nat→Bool}:∀ (l:List Oper) (i:Nat) (pl:List PO) (k:Env→Qa→Prop) (A:Env) (H:Qa),H.Wf→Vd P n ops fl l i=some pl→Vz P pl k A H→
  ∃A1 H1,H1.Wf∧k A1 H1∧QaL P n ops l (fun e A' H'=>e=.normal∧A'=A1∧H'=H1) A H
 | [],i,pl,k,A,H,hwf,hc,h=>by
  simp only[Vd,Option.some.injEq]at hc
  subst hc
  exact⟨A,H,hwf,h,Qk8 ⟨rfl,rfl,rfl⟩⟩
 | o::l,i,pl,k,A,H,hwf,hc,h=>by
  unfold Vd at hc
  split at hc
  ·rename_i hok
   split at hc
   ·rename_i g pl1 hg hpl
    cases hc
    have h:pg g A (pr P (QfA P ops (fl i) i o) (fl i) A H fun v H'=>Vz P pl1 k (ZQ A o.dst v) H') (Vz P pl1 k (ZQ A o.dst undef) H):=h
    rcases QjI hg h with⟨hw,hy⟩ | ⟨hw,hn⟩
    ·obtain⟨c,v,H',h1,h2,h3,h4,_,_,_,h5⟩:=Qlw hwf hy
     obtain⟨A1,H1,hw1,hk,ha⟩:=QeY l (i+1) pl1 k _ _ (h2.wf hwf) hpl h5
     refine⟨A1,H1,hw1,hk,?_⟩
     cases hgd:o.guard with
     | none=>exact Qjr hgd h1.does hok ha
     | some jw=>
      obtain⟨j,w⟩:=jw
      exact QaA hgd hw (fun _=>⟨v,H',h1.does,ha⟩) (fun hh=>by cases hh) hok
    ·obtain⟨A1,H1,hw1,hk,ha⟩:=QeY l (i+1) pl1 k _ _ hwf hpl hn
     refine⟨A1,H1,hw1,hk,?_⟩
     cases hgd:o.guard with
     | none=>simp[Yh,hgd]at hw
     | some jw=>
      obtain⟨j,w⟩:=jw
      exact QaA hgd hw (fun hh=>by cases hh) (fun _=>ha) hok
   ·cases hc
  ·cases hc
structure StR (P:Program) (n:Nat) (ops:Array Oper) (fl:Nat→Bool) (i:Nat) (o:Oper) (s:Stp) (t':Env) (H':Qa):Prop where
 ok:QbP P n o=true
 wf:s.H.Wf
 env:t'=ZQ s.t o.dst s.v
 next:s.H.next≤H'.next
 run:(Yh n ops s.t o=some true∧QgN P o s.t s.H s.v H' s.c∧Syn P o s.H H' s.c∧(fl i=true→QaB o=true→isG P o=false→EqB s.H H')∧(fl i=true→QiZ o=true→Qn s.H.next 6 s.v=true)∧(fl i=true→Sep o (Qh6 ops (QH ops.toList []) i) s.t s.H H')∧(fl i=true→Low P o (QaP ops (QH ops.toList []) i) s.t s.H H')∧FA o s.t s.v) ∨
  (Yh n ops s.t o=some false∧s.c=.pure∧s.v=undef∧H'=s.H)
def QdE (l:List Stp) (t:Env) (i:Nat):Env:=match l[i]? with | some s=>s.t | none=>t
theorem Qic {ops:Array Oper} {fl:Nat→Bool}:∀ (l:List Oper) (i:Nat) (pl:List PO) (k:Env→Qa→Prop) (A:Env) (H:Qa),H.Wf→Vd P n ops fl l i=some pl→Vz P pl k A H→
  ∃tr A1 H1,H1.Wf∧k A1 H1∧tr.length=l.length∧QdE tr A1 0=A∧Xb tr H1 0=H∧∀ (j:Nat) o s,l[j]? = some o→tr[j]? = some s→StR P n ops fl (i+j) o s (QdE tr A1 (j+1)) (Xb tr H1 (j+1))
 | [],i,pl,k,A,H,hwf,hc,h=>by
  simp only[Vd,Option.some.injEq]at hc
  subst hc
  exact⟨[],A,H,hwf,h,rfl,rfl,rfl,fun j o s h=>by simp at h⟩
 | o::l,i,pl,k,A,H,hwf,hc,h=>by
  unfold Vd at hc
  split at hc
  ·rename_i hok
   split at hc
   ·rename_i g pl1 hg hpl
    cases hc
    have h:pg g A (pr P (QfA P ops (fl i) i o) (fl i) A H fun v H'=>Vz P pl1 k (ZQ A o.dst v) H') (Vz P pl1 k (ZQ A o.dst undef) H):=h
    have step:∀ (s:Stp) (t':Env) (H':Qa),s.t=A→s.H=H→H'.Wf→Vz P pl1 k t' H'→StR P n ops fl i o s t' H'→
      ∃tr A1 H1,H1.Wf∧k A1 H1∧tr.length=(o::l).length∧QdE tr A1 0=A∧Xb tr H1 0=H∧∀ (j:Nat) o' s,(o::l)[j]? = some o'→tr[j]? = some s→StR P n ops fl (i+j) o' s (QdE tr A1 (j+1)) (Xb tr H1 (j+1)):=by
     intro s t' H' e1 e2 hw' hp hst
     obtain⟨tr,A1,H1,hw1,hk,hl,ht,hh,hs⟩:=Qic l (i+1) pl1 k t' H' hw' hpl hp
     refine⟨s::tr,A1,H1,hw1,hk,by simp[hl],by simp[QdE,e1],by simp[Xb,e2],fun j o' s' hj hs'=>?_⟩
     cases j with
     | zero=>
      simp only[List.getElem?_cons_zero,Option.some.injEq]at hj hs'
      subst hj;subst hs'
      have h1:QdE (s::tr) A1 (0+1)=t':=by rw[← ht];simp[QdE]
      have h2:Xb (s::tr) H1 (0+1)=H':=by rw[← hh];simp[Xb]
      rw[h1,h2]
      exact hst
     | succ j=>
      have:=hs j o' s' (by simpa using hj) (by simpa using hs')
      rw[show i+(j+1)=i+1+j by omega]
      simpa[QdE,Xb] using this
    rcases QjI hg h with⟨hw,hy⟩ | ⟨hw,hn⟩
    ·obtain⟨c,v,H',h1,h2,h3,h4,h6,h7,hfa,h5⟩:=Qlw hwf hy
     exact step ⟨A,H,c,v⟩ _ H' rfl rfl (h2.wf hwf) h5 ⟨hok,hwf,rfl,h2.next,.inl ⟨hw,h1,h2,h3,h4,h6,h7,hfa⟩⟩
    ·exact step ⟨A,H,.pure,undef⟩ _ H rfl rfl hwf hn ⟨hok,hwf,rfl,Nat.le_refl _,.inr ⟨hw,rfl,rfl,rfl⟩⟩
   ·cases hc
  ·cases hc
theorem G0 {t:TypeId} {a:Addr} {H1 H2:Qa} (h:H1.get a.block=H2.get a.block):Yd P t a H1=Yd P t a H2:=by
 unfold Yd
 rw[h]
theorem Qid (ops:Array Oper) (k e:Nat):∀ (d cur:Nat),KN ops k (e+d) cur=match KN ops (k+e) d cur with | some c=>KN ops k e c | none=>none
 | 0,cur=>rfl
 | d+1,cur=>by
  show(match ops[k+(e+d)]? with | some o=>(match Qlq o cur with | some c=>KN ops k (e+d) c | none=>none) | none=>none)=(match (match ops[k+e+d]? with | some o=>(match Qlq o cur with | some c=>KN ops (k+e) d c | none=>none) | none=>none) with | some c=>KN ops k e c | none=>none)
  rw[show k+(e+d)=k+e+d by omega]
  cases ops[k+e+d]? with
  | none=>rfl
  | some o=>
   simp only
   cases Qlq o cur with
   | none=>rfl
   | some c=>exact Qid ops k e d c
theorem QmE {ops:Array Oper} {k i j tm bs:Nat} (h:KN ops k (i - k) tm=some bs) (h1:k≤j) (h2:j≤i):∃c,KN ops j (i - j) tm=some c:=by
 have:=Qid ops k (j - k) (i - j) tm
 rw[show j - k+(i - j)=i - k by omega,h,show k+(j - k)=j by omega]at this
 cases hc:KN ops j (i - j) tm with
 | none=>rw[hc]at this;cases this
 | some c=>exact⟨c,rfl⟩
theorem QmF {id:Nat} {ops:Array Oper} {pl:List PO} {k:Env→Qa→Prop} {A:Env} {H:Qa} (hwf:H.Wf) (hm:P.follows .mixedOrders=true) (hrare:∀o∈ops,QdC P o.op=false) (hd:QaO ops (Xa ops)=true) (hck:QnE P ops (QH ops.toList [])=true)
  (hc:Vd P n ops (WX ops (QH ops.toList [])) ops.toList 0=some pl) (h:Vz P pl k A H):
  ∃A1 H1,H1.Wf∧k A1 H1∧AWp P n (.region id ops true) (fun e A' H'=>e=.normal∧A'=A1∧H'=H1) A H:=by
 obtain⟨tr,A1,H1,hw1,hk,hl,hA,hH,hs⟩:=Qic ops.toList 0 pl k A H hwf hc h
 refine⟨A1,H1,hw1,hk,?_⟩
 have hlen:tr.length=ops.size:=by simpa using hl
 let As:Nat→Env:=QdE tr A1
 let Hs:Nat→Qa:=Xb tr H1
 let vs:Nat→Value:=fun i=>match tr[i]? with | some s=>s.v | none=>undef
 let cls:Nat→Cls:=fun i=>match tr[i]? with | some s=>s.c | none=>.pure
 have hat:∀ (i:Nat) o,ops[i]? = some o→∃s,tr[i]? = some s∧StR P n ops (WX ops (QH ops.toList [])) i o s (As (i+1)) (Hs (i+1))∧As i=s.t∧Hs i=s.H∧vs i=s.v∧cls i=s.c:=fun i o ho=>by
  have hlt:i<tr.length:=by rw[hlen];exact(Array.getElem?_eq_some_iff.1 ho).1
  have hi:=List.getElem?_eq_getElem hlt
  refine⟨tr[i],hi,by have:=hs i o tr[i] (by simpa using ho) hi;rwa [Nat.zero_add]at this,?_,?_,?_,?_⟩<;>simp only[As,Hs,vs,cls,QdE,Xb,hi]
 have hops:∀i,i<ops.size→∃o,ops[i]? = some o:=fun i hi=>⟨ops[i],Array.getElem?_eq_getElem hi⟩
 have hgen:∀i,i<ops.size→XM (cls i)=true→Xa ops i=true:=fun i hi hg=>by
  obtain⟨o,ho⟩:=hops i hi
  obtain⟨s,hsi,hst,_,_,_,e4⟩:=hat i o ho
  rw[e4]at hg
  simp only[Xa,ho]
  rcases hst.run with⟨_,_,hsyn,_⟩ | ⟨_,hc0,_⟩
  ·rcases hsyn.gen hg with h | h
   ·exact h
   ·have:=hrare o (Array.mem_of_getElem? ho);rw[h]at this;cases this
  ·rw[hc0]at hg;cases hg
 have hchk:∀k',k'<ops.size→Xa ops k'=true→WX ops (QH ops.toList []) k'=true→(Vy ops k'=true∧(∀i,i<ops.size→Qgi ops i=true→Qy (QH ops.toList []) i k'=false→Qy (QH ops.toList []) k' i=false→quiet P ops (QH ops.toList []) i k'=true)∧(gAt P ops k'=true→∀i,i<ops.size→(Qgi ops i=true→Qy (QH ops.toList []) i k'=false→Qy (QH ops.toList []) k' i=false→k'<i)∧(Qb0 ops i=true→i<k'→Qy (QH ops.toList []) i k'=true))) ∨
   (Qmp ops k'=true∧∀i,i<ops.size→(Qgi ops i=true→Qy (QH ops.toList []) i k'=false→Qy (QH ops.toList []) k' i=false→QsC P ops (QH ops.toList []) i k'=true)∧(Qb0 ops i=true→i<k'→Qy (QH ops.toList []) i k'=true)):=fun k' hk' hg hf=>by
  have:=List.all_eq_true.1 hck k' (List.mem_range.2 hk')
  simp only[hg,hf,Bool.not_true,Bool.false_or,Bool.or_eq_true,Bool.and_eq_true,List.all_eq_true,List.mem_range]at this
  rcases this with this | this
  ·refine .inl ⟨this.1.1,fun i hi h1 h2 h3=>?_,fun hg i hi=>⟨fun h1 h2 h3=>?_,fun h1 h2=>?_⟩⟩
   ·have:=this.1.2 i hi
    simpa[h1,h2,h3] using this
   ·have h9:=this.2
    simp only[hg,Bool.not_true,Bool.false_eq_true,false_or]at h9
    have:=(h9 i hi).1
    simpa[h1,h2,h3] using this
   ·have h9:=this.2
    simp only[hg,Bool.not_true,Bool.false_eq_true,false_or]at h9
    have:=(h9 i hi).2
    have b:Nat.blt i k'=true:=by rw[Nat.blt_eq];exact h2
    simpa[h1,b] using this
  ·refine .inr ⟨this.1,fun i hi=>⟨fun h1 h2 h3=>?_,fun h1 h2=>?_⟩⟩
   ·have:=(this.2 i hi).1
    simpa[h1,h2,h3] using this
   ·have h3:=(this.2 i hi).2
    have b:Nat.blt i k'=true:=by rw[Nat.blt_eq];exact h2
    simpa[h1,b] using h3
 have hnx:∀j,j<ops.size→(Hs j).next≤(Hs (j+1)).next:=fun j hj=>by
  obtain⟨o,ho⟩:=hops j hj
  obtain⟨s,hsi,hst,e1,e2,e3,e4⟩:=hat j o ho
  rw[e2];exact hst.next
 have hnxs:∀d a,a+d≤ops.size→(Hs a).next≤(Hs (a+d)).next:=fun d=>by
  induction d with
  | zero=>exact fun a _=>Nat.le_refl _
  | succ d ih=>exact fun a h=>Nat.le_trans (ih a (by omega)) (hnx (a+d) (by omega))
 have hcallsame:∀k',k'<ops.size→Vy ops k'=true→WX ops (QH ops.toList []) k'=true→gAt P ops k'=false→EqB (Hs k') (Hs (k'+1)):=fun k' hk' hcf hf hng=>by
  obtain⟨o,ho⟩:=hops k' hk'
  obtain⟨s,hsi,hst,e1,e2,e3,e4⟩:=hat k' o ho
  simp only[Vy,ho]at hcf
  simp only[gAt,ho]at hng
  rw[e2]
  rcases hst.run with⟨_,_,_,h3,_⟩ | ⟨_,_,_,h4⟩
  ·exact h3 hf hcf hng
  ·rw[h4];exact fun _ _=>rfl
 have hkeep:∀j,j<ops.size→(Xa ops j=false∨(WX ops (QH ops.toList []) j=true∧Vy ops j=true∧gAt P ops j=false))→EqB (Hs j) (Hs (j+1)):=fun j hj hg=>by
  obtain⟨o,ho⟩:=hops j hj
  obtain⟨s,hsi,hst,e1,e2,e3,e4⟩:=hat j o ho
  rcases hst.run with⟨_,hcl,hsyn,_⟩ | ⟨_,_,_,h4⟩
  ·cases hsc:s.c with
   | pure=>rw[hsc]at hcl;rw[e2,hcl.1];exact fun _ _=>rfl
   | load=>rw[hsc]at hcl;rw[e2,hcl.1];exact fun _ _=>rfl
   | alloc b=>
    rw[hsc]at hcl
    rw[e2,hcl.1]
    exact fun id hid=>by rw[Qa.get_push,if_neg (by omega)]
   | gen=>
    have hsg:Xa ops j=true:=hgen j hj (by rw[e4,hsc];rfl)
    rcases hg with hg | hg
    ·rw[hg]at hsg;cases hsg
    ·exact hcallsame j hj hg.2.1 hg.1 hg.2.2
  ·rw[e2,h4];exact fun _ _=>rfl
 have hkeeps:∀d a,a+d≤ops.size→(∀j,a≤j→j<a+d→Xa ops j=false∨(WX ops (QH ops.toList []) j=true∧Vy ops j=true∧gAt P ops j=false))→EqB (Hs a) (Hs (a+d)):=fun d=>by
  induction d with
  | zero=>exact fun a _ _ _ _=>rfl
  | succ d ih=>
   intro a h hj id hid
   have h1:=ih a (by omega) (fun j h1 h2=>hj j h1 (by omega)) id hid
   have h2:=hkeep (a+d) (by omega) (hj (a+d) (by omega) (by omega)) id (Nat.lt_of_lt_of_le hid (hnxs d a (by omega)))
   rw[show a+(d+1)=a+d+1 by omega,h2,h1]
 have F:ZS P n ops As Hs vs cls:=by
  refine⟨fun i o ho=>?_,fun i hi=>?_,fun i o ho=>?_,fun i o ho=>?_,QgP hgen hd⟩
  ·obtain⟨s,hsi,hst,e1,e2,e3,e4⟩:=hat i o ho
   rw[e1,e3,hst.env]
  ·obtain⟨o,ho⟩:=hops i hi
   obtain⟨s,hsi,hst,e1,e2,e3,e4⟩:=hat i o ho
   rw[e2];exact hst.next
  ·obtain⟨s,hsi,hst,e1,e2,e3,e4⟩:=hat i o ho
   exact hst.ok
  ·obtain⟨s,hsi,hst,e1,e2,e3,e4⟩:=hat i o ho
   have hi:i<ops.size:=(Array.getElem?_eq_some_iff.1 ho).1
   unfold Qmb
   rw[e1,e2,e3,e4]
   rcases hst.run with⟨hw,hcl,hsyn,hf1,hf2,_,_⟩ | ⟨hw,hc0,hv0,hH0⟩
   ·right
    refine⟨hw,?_⟩
    cases hsc:s.c with
    | pure=>rw[hsc]at hcl;exact hcl
    | gen=>rw[hsc]at hcl;exact hcl
    | alloc b=>
     rw[hsc]at hcl
     refine⟨hcl.1,hcl.2,fun k' hk1 hik hgk ho'=>?_⟩
     have hsg:=hgen k' hk1 hgk
     have hal:Qb0 ops i=true:=by simp only[Qb0,ho];exact hsyn.alloc b hsc
     have hfl:WX ops (QH ops.toList []) k'=true:=by
      unfold WX
      simp only[hsg,Bool.true_and,Bool.or_eq_true]
      left
      rw[List.any_eq_true]
      exact⟨i,List.mem_range.2 hi,by simp[hal,hik,ho']⟩
     rcases hchk k' hk1 hsg hfl with hch | hch
     ·have hng:gAt P ops k'=false:=by
       cases hgk':gAt P ops k' with
       | false=>rfl
       | true=>rw[(hch.2.2 hgk' i hi).2 hal hik]at ho';cases ho'
      rw[hcallsame k' hk1 hch.1 hfl hng]
      have h9:=hnxs (k' - (i+1)) (i+1) (by omega)
      rw[show i+1+(k' - (i+1))=k' by omega,hcl.1,Qa.next_push]at h9
      omega
     ·rw[(hch.2 i hi).2 hal hik]at ho';cases ho'
    | load=>
     rw[hsc]at hcl
     obtain⟨h1,tt,x,a,hop,ex,hl'⟩:=hcl
     refine⟨h1,tt,x,a,hop,ex,hl',fun k' hk1 hgk o1 o2=>?_⟩
     have hsg:=hgen k' hk1 hgk
     have hld:Qgi ops i=true:=by simp only[Qgi,ho];exact hsyn.load hsc
     have hfl:WX ops (QH ops.toList []) k'=true:=by
      unfold WX
      simp only[hsg,Bool.true_and,Bool.or_eq_true]
      left
      rw[List.any_eq_true]
      exact⟨i,List.mem_range.2 hi,by simp[hld,o1,o2]⟩
     have hfi:WX ops (QH ops.toList []) i=true:=by
      unfold WX
      simp only[Bool.or_eq_true]
      right
      simp only[hld,Bool.true_and]
      rw[List.any_eq_true]
      exact⟨k',List.mem_range.2 hk1,by simp[hsg,o1,o2]⟩
     have hload:o.op=.load tt x:=hop
     have hbel:Qn s.H.next 6 s.v=true:=hf2 hfi (by unfold QiZ;rw[hload])
     rcases hchk k' hk1 hsg hfl with hch | hch
     ·have hq:=hch.2.1 i hi hld o1 o2
      have hb0:a.block<(Hs i).next:=by
       rw[e2]
       unfold Yd at hl'
       split at hl'
       ·rename_i hg;exact hst.wf.lt hg
       ·cases hl'
      unfold quiet at hq
      simp only[Bool.or_eq_true,Bool.and_eq_true,List.all_eq_true,List.mem_range]at hq
      have hget:(Hs k').get a.block=(Hs i).get a.block∧(Hs (k'+1)).get a.block=(Hs k').get a.block:=by
       rcases hq with⟨hlt,hq⟩ | ⟨⟨⟨hlt,hdir⟩,hsm⟩,hq⟩
       ·have hlt:i<k':=by simpa using hlt
        have hng:gAt P ops k'=false:=by
         cases hgk':gAt P ops k' with
         | false=>rfl
         | true=>have:=(hch.2.2 hgk' i hi).1 hld o1 o2;omega
        have hgi:Xa ops i=false:=by
         simp only[Qgi,ho]at hld
         simp only[Xa,ho]
         unfold QiZ at hld
         split at hld
         ·rename_i hop';simp only[QsA,hop']
         ·cases hld
        have h8:=hkeeps (k' - i) i (by omega) (fun j h1 h2=>?_)
        ·rw[show i+(k' - i)=k' by omega]at h8
         have h9:=hnxs (k' - i) i (by omega)
         rw[show i+(k' - i)=k' by omega]at h9
         exact⟨h8 _ hb0,hcallsame k' hk1 hch.1 hfl hng a.block (by omega)⟩
        ·rcases Nat.lt_or_ge i j with h3 | h3
         ·have h4:=hq j (by omega)
          have h5:Nat.ble j i=false:=by
           cases hb:Nat.ble j i with
           | false=>rfl
           | true=>rw[Nat.ble_eq]at hb;omega
          rw[h5]at h4
          rcases h4 with h4 | h4 | h4
          ·cases h4
          ·exact .inl (by simpa using h4)
          ·exact .inr ⟨h4.1.1,h4.1.2,by simpa using h4.2⟩
         ·rw[show j=i by omega];exact .inl hgi
       ·have hlt:k'<i:=by simpa using hlt
        obtain⟨bs,hbs⟩:=Option.isSome_iff_exists.1 hsm
        have hall:∀j,k'≤j→j<i→(Xa ops j=false∨(WX ops (QH ops.toList []) j=true∧Vy ops j=true∧(gAt P ops j=false∨QdB (QH ops.toList []) i j=true))):=fun j h1 h2=>by
         have h4:=hq j h2
         have h5:Nat.blt j k'=false:=by
          cases hb:Nat.blt j k' with
          | false=>rfl
          | true=>rw[Nat.blt_eq]at hb;omega
         rw[h5]at h4
         rcases h4 with h4 | h4 | h4
         ·cases h4
         ·exact .inl (by simpa using h4)
         ·refine .inr ⟨h4.1.1,h4.1.2,?_⟩
          rcases h4.2 with h6 | h6
          ·exact .inl (by simpa using h6)
          ·exact .inr h6
        obtain⟨ok,hok⟩:=hops k' hk1
        obtain⟨sk,hsk,hstk,f1,f2,f3,f4⟩:=hat k' ok hok
        have hback:∀ (k0 bs d cur:Nat),k0+d≤i→KN ops k0 d cur=some bs→InB (As (k0+d) cur) a.block→InB (As k0 bs) a.block:=fun k0 bs d=>by
         induction d with
         | zero=>intro cur _ hb hv;cases hb;exact hv
         | succ d ih=>
          intro cur hd hb hv
          obtain⟨oj,hoj⟩:=hops (k0+d) (by omega)
          obtain⟨sj,hsj,hstj,g1,g2,g3,g4⟩:=hat (k0+d) oj hoj
          simp only[KN,hoj]at hb
          split at hb
          ·rename_i c hc
           refine ih c (by omega) hb ?_
           rw[show k0+(d+1)=k0+d+1 by omega,hstj.env,← g1]at hv
           unfold Qlq at hc
           cases hdst:oj.dst with
           | none=>
            rw[hdst]at hc hv
            have hc:some cur=some c:=hc
            cases hc
            exact hv
           | some q=>
            rw[hdst]at hc hv
            have hv:InB (upd (As (k0+d)) q sj.v cur) a.block:=hv
            by_cases hqc:q=cur
            ·subst hqc
             rw[Qdn]at hv
             have hc:Qh7 oj=some c:=by simpa using hc
             rcases hstj.run with⟨_,_,_,_,_,_,_,hfa⟩ | ⟨_,_,_,hu⟩
             ·have:=hfa c hc _ hv
              rw[g1];exact this
             ·exfalso
              have hu:sj.v=undef:=by first | exact hu.1 | exact hu | (rename_i hu2;exact hu2)
              rw[hu]at hv
              rcases hv with⟨_,e,_⟩ | ⟨_,_,_,e,_⟩<;>cases e
            ·rw[Vw _ _ (fun h=>hqc h.symm)]at hv
             have hc:some cur=some c:=by have e:(q==cur)=false:=beq_false_of_ne hqc;simpa[e] using hc
             cases hc
             exact hv
          ·cases hb
        obtain⟨tm,htm⟩:∃tm,QgT ops i=some tm:=by
         unfold Qgj at hbs
         cases htm:QgT ops i with
         | none=>rw[htm]at hbs;cases hbs
         | some tm=>exact⟨tm,rfl⟩
        have hx:x=.tmp tm:=by
         unfold QgT at htm
         rw[ho]at htm
         simp only[hload]at htm
         split at htm
         ·rename_i hh;cases hh;cases htm;rfl
         ·cases htm
        have ex':As i tm=.pointer (some a):=by rw[hx]at ex;rw[e1];exact ex
        have hbk0:KN ops k' (i - k') tm=some bs:=by
         unfold Qgj at hbs
         rw[htm]at hbs
         exact hbs
        have hmid:∀j,k'≤j→j≤i→∃c,Qgj ops j i=some c∧InB (As j c) a.block:=fun j h1 h2=>by
         obtain⟨c,hc⟩:=QmE hbk0 h1 h2
         refine⟨c,by unfold Qgj;rw[htm];exact hc,?_⟩
         refine hback j c (i - j) tm (by omega) hc ?_
         rw[show j+(i - j)=i by omega,ex']
         exact .inl ⟨a,rfl,rfl⟩
        have hpt:InB (As k' bs) a.block:=by
         obtain⟨c,hc1,hc2⟩:=hmid k' (Nat.le_refl _) (by omega)
         rw[hbs]at hc1
         cases hc1
         exact hc2
        have hbk:a.block<(Hs k').next:=by
         have hlow:∀z∈QaP ops (QH ops.toList []) k',∃b:Nat,InB (ev sk.t z) b∧b<sk.H.next:=by
          rcases hstk.run with⟨_,_,_,_,_,_,h9,_⟩ | ⟨_,h9,_⟩
          ·intro z hz
           obtain⟨b,h1,h2,_⟩:=h9 hfl (by simpa only[Qsc,hok] using hdir) z hz
           exact⟨b,h1,h2⟩
          ·rw[f4,h9]at hgk;cases hgk
         obtain⟨b,hb1,hb2⟩:=hlow (.tmp bs) (by
          unfold QaP
          rw[List.mem_filterMap]
          have b1:Nat.blt k' i=true:=by simpa using hlt
          exact⟨i,List.mem_range.2 hi,by simp[b1,hld,QdB,o1,o2,hbs]⟩)
         have hb1:InB (sk.t bs) b:=hb1
         rw[← f1]at hb1
         rw[f2,hpt.uniq hb1];exact hb2
        have hstep:∀j,k'≤j→j<i→a.block<(Hs j).next→(Hs (j+1)).get a.block=(Hs j).get a.block:=fun j h1 h2 hbl=>by
         rcases hall j h1 h2 with h4 | ⟨h4,h5,h6⟩
         ·exact hkeep j (by omega) (.inl h4) _ hbl
         ·cases hgj:gAt P ops j with
          | false=>exact hkeep j (by omega) (.inr ⟨h4,h5,hgj⟩) _ hbl
          | true=>
           have h6:QdB (QH ops.toList []) i j=true:=by
            rcases h6 with h6 | h6
            ·rw[hgj]at h6;cases h6
            ·exact h6
           obtain⟨oj,hoj⟩:=hops j (by omega)
           obtain⟨sj,hsj,hstj,g1,g2,g3,g4⟩:=hat j oj hoj
           have hGj:isG P oj=true:=by simpa only[gAt,hoj] using hgj
           have hdj:Qfz oj=true:=by
            unfold isG at hGj
            unfold Qfz
            split at hGj
            ·first | rfl | (rename_i hopj;rw[hopj])
            ·cases hGj
           obtain⟨c,hc1,hc2⟩:=hmid j h1 (by omega)
           rw[g2]
           rcases hstj.run with⟨_,_,_,_,_,_,h9,_⟩ | ⟨_,_,_,h9⟩
           ·obtain⟨b,hb1,hb2,hb3⟩:=h9 h4 hdj (.tmp c) (by
             unfold QaP
             rw[List.mem_filterMap]
             have b1:Nat.blt j i=true:=by simpa using h2
             have u2:QdB (QH ops.toList []) i j=true:=h6
             exact⟨i,List.mem_range.2 hi,by simp[b1,hld,u2,hc1]⟩)
            have hb1:InB (sj.t c) b:=hb1
            rw[← g1]at hb1
            rw[hc2.uniq hb1]
            exact hb3 hGj
           ·rw[h9]
        have hmany:∀d,k'+d≤i→(Hs (k'+d)).get a.block=(Hs k').get a.block∧a.block<(Hs (k'+d)).next:=fun d=>by
         induction d with
         | zero=>exact fun _=>⟨rfl,hbk⟩
         | succ d ih=>
          intro hd
          obtain⟨i1,i2⟩:=ih (by omega)
          have hn1:=hnx (k'+d) (by omega)
          refine⟨?_,?_⟩
          ·rw[show k'+(d+1)=k'+d+1 by omega,hstep (k'+d) (by omega) (by omega) i2,i1]
          ·rw[show k'+(d+1)=k'+d+1 by omega];omega
        have h8:=(hmany (i - k') (by omega)).1
        rw[show k'+(i - k')=i by omega]at h8
        exact⟨h8.symm,hstep k' (Nat.le_refl _) hlt hbk⟩
      exact⟨by rw[G0 hget.1,e2];exact hl',by rw[G0 hget.2,G0 hget.1,e2];exact hl',hbel⟩
     ·have hcalm:=(hch.2 i hi).1 hld o1 o2
      unfold QsC at hcalm
      simp only[Bool.and_eq_true,List.all_eq_true,List.mem_range]at hcalm
      obtain⟨⟨hlt,hsm⟩,hall⟩:=hcalm
      have hlt:i<k':=by simpa using hlt
      obtain⟨tm,htm⟩:=Option.isSome_iff_exists.1 hsm
      have hx:x=.tmp tm:=by
       unfold QgT at htm
       rw[ho]at htm
       simp only[hload]at htm
       split at htm
       ·rename_i hh;cases hh;cases htm;rfl
       ·cases htm
      subst hx
      have hstep:∀j,i≤j→j<ops.size→As j tm=.pointer (some a)→(Xa ops j=false∨(Vy ops j=true∧WX ops (QH ops.toList []) j=true∧gAt P ops j=false)∨(i<j∧Qmp ops j=true∧WX ops (QH ops.toList []) j=true∧QdB (QH ops.toList []) i j=true))→a.block<(Hs j).next→(Hs (j+1)).get a.block=(Hs j).get a.block:=fun j hij hj hA hg hbl=>by
       obtain⟨oj,hoj⟩:=hops j hj
       obtain⟨sj,hsj,hstj,f1,f2,f3,f4⟩:=hat j oj hoj
       rw[f2]at hbl ⊢
       rcases hstj.run with⟨_,hcl,hsyn,_,_,hsep,_⟩ | ⟨_,_,_,h4⟩
       ·cases hsc:sj.c with
        | pure=>rw[hsc]at hcl;rw[hcl.1]
        | load=>rw[hsc]at hcl;rw[hcl.1]
        | alloc b=>rw[hsc]at hcl;rw[hcl.1,Qa.get_push,if_neg (by omega)]
        | gen=>
         have hsg:Xa ops j=true:=hgen j hj (by rw[f4,hsc];rfl)
         rcases hg with hg | hg | ⟨hij2,hg1,hg2,hg3⟩
         ·rw[hg]at hsg;cases hsg
         ·rw[← f2];rw[← f2]at hbl;exact hcallsame j hj hg.1 hg.2.1 hg.2.2 _ hbl
         ·simp only[Qmp,hoj]at hg1
          obtain⟨a',hk1',hk2'⟩:=hsep hg2 hg1
          have hb2:=hk2' (.tmp tm) (by
           unfold Qh6
           rw[List.mem_filterMap]
           exact⟨i,List.mem_range.2 hij2,by simp[hld,hg3,htm]⟩) a (by show sj.t tm=_;rw[← f1];exact hA)
          exact hk1' _ hb2
       ·rw[h4]
      have hb0:a.block<(Hs i).next:=by
       rw[e2]
       unfold Yd at hl'
       split at hl'
       ·rename_i hg;exact hst.wf.lt hg
       ·cases hl'
      have hA0:As i tm=.pointer (some a):=by rw[e1];exact ex
      have hall2:∀j,i≤j→j<k'→(∀oj,ops[j]? = some oj→oj.dst≠some tm)∧(Xa ops j=false∨(Vy ops j=true∧WX ops (QH ops.toList []) j=true∧gAt P ops j=false)∨(i<j∧Qmp ops j=true∧WX ops (QH ops.toList []) j=true∧QdB (QH ops.toList []) i j=true)):=fun j hij hjk=>by
       have:=hall j hjk
       have b1:Nat.blt j i=false:=by
        cases hb:Nat.blt j i with
        | false=>rfl
        | true=>rw[Nat.blt_eq]at hb;omega
       simp only[b1,Bool.or_eq_true,Bool.and_eq_true,htm,Bool.not_eq_true',Bool.false_eq_true,false_or]at this
       refine⟨fun oj hoj hd=>?_,?_⟩
       ·have h9:=this.1
        rw[hoj]at h9
        simp[hd]at h9
       ·rcases this.2 with(h | h) | h
        ·exact .inl h
        ·exact .inr (.inl ⟨h.1.1,h.1.2,h.2⟩)
        ·refine .inr (.inr ⟨?_,h.1.1,h.1.2,h.2⟩)
         rcases Nat.lt_or_ge i j with h' | h'
         ·exact h'
         ·have e:j=i:=by omega
          subst e
          have h7:=h.1.1
          unfold Qmp Qmo at h7
          rw[ho]at h7
          simp only[hload]at h7
          cases h7
      have hrun:∀d,i+d≤k'→As (i+d) tm=.pointer (some a)∧(Hs (i+d)).get a.block=(Hs i).get a.block∧a.block<(Hs (i+d)).next:=by
       intro d
       induction d with
       | zero=>exact fun _=>⟨hA0,rfl,hb0⟩
       | succ d ih=>
        intro hd
        obtain⟨i1,i2,i3⟩:=ih (by omega)
        have hj:i+d<ops.size:=by omega
        obtain⟨oj,hoj⟩:=hops (i+d) hj
        obtain⟨sj,hsj,hstj,f1,f2,f3,f4⟩:=hat (i+d) oj hoj
        obtain⟨g1,g2⟩:=hall2 (i+d) (by omega) (by omega)
        refine⟨?_,?_,?_⟩
        ·rw[show i+(d+1)=i+d+1 by omega,hstj.env,← f1,← i1]
         cases hdst:oj.dst with
         | none=>rfl
         | some q=>exact Vw _ _ (fun h=>g1 oj hoj (by rw[hdst,h]))
        ·rw[show i+(d+1)=i+d+1 by omega,hstep (i+d) (by omega) hj i1 g2 i3,i2]
        ·rw[show i+(d+1)=i+d+1 by omega]
         have:=hstj.next
         rw[← f2]at this
         omega
      obtain⟨r1,r2,r3⟩:=hrun (k' - i) (by omega)
      rw[show i+(k' - i)=k' by omega]at r1 r2 r3
      have hlast:=hstep k' (by omega) hk1 r1 (.inr (.inr ⟨hlt,hch.1,hfl,by unfold QdB;rw[o1,o2];rfl⟩)) r3
      exact⟨by rw[G0 r2,e2];exact hl',by rw[G0 hlast,G0 r2,e2];exact hl',hbel⟩
   ·left
    exact⟨hw,hv0,hH0,hc0⟩
 have hend:As ops.size=A1∧Hs ops.size=H1:=by
  have:tr[ops.size]? = none:=List.getElem?_eq_none (by omega)
  simp only[As,Hs,QdE,Xb,this,and_self]
 have hAs0:As 0=A:=hA
 have hHs0:Hs 0=H:=hH
 have:=Qlk (id:=id) (Q:=fun e A' H'=>e=.normal∧A'=A1∧H'=H1) hm F ⟨rfl,hend.1,hend.2⟩
 rwa [hAs0,hHs0]at this
def Fp (ks:Kp) (k:Env→Qa→Prop):Ex→Env→Qa→Prop
 | .normal,A,H=>k A H
 | .ret,A,H=>ks.ret A H
 | .exit j,A,H=>j<J0∧ks.ext j A H
 | .goto l,A,H=>ks.ext (J0+l) A H
 | _,_,_=>False
def Qkq (ex:Ex) (A1:Env) (H1:Qa):Ex→Env→Qa→Prop:=fun e A H=>e=ex∧A=A1∧H=H1
theorem Qq5 (x y:PC) (ks:Kp) (k:Env→Qa→Prop) (A:Env) (H:Qa):Qj P (sq x y) ks k A H=Qj P x ks (Qj P y ks k) A H:=by
 unfold sq
 split<;>rfl
theorem QpF (x y:PC) (l:Nat) (hx:x=.skip→True):Kf (sq x y) l=match Kf x l with | some r=>some (sq r y) | none=>Kf y l:=by
 unfold sq
 split
 ·simp[Kf]
 ·rename_i hne
  cases hf:Kf x l with
  | none=>simp[Kf]
  | some r=>
   cases r<;>rfl
 ·rfl
theorem Qgl:∀ (c:Code) (pc:PC),comp P n c=some pc→∀l,(∀rest,findLabel c l=some rest→∃pr,Kf pc l=some pr∧comp P n rest=some pr)∧(findLabel c l=none→Kf pc l=none):=by
 intro c
 induction c with
 | seq a b iha ihb=>
  intro pc h l
  simp only[comp]at h
  split at h
  ·rename_i x y hx hy
   simp only[Option.some.injEq]at h
   subst h
   obtain⟨a1,a2⟩:=iha x hx l
   obtain⟨b1,b2⟩:=ihb y hy l
   rw[QpF x y l (fun _=>trivial)]
   cases hf:findLabel a l with
   | some r=>
    obtain⟨pr,h1,h2⟩:=a1 r hf
    rw[h1]
    refine⟨fun rest hr=>?_,fun hn=>?_⟩
    ·simp only[findLabel,hf,Option.some.injEq]at hr
     subst hr
     exact⟨_,rfl,by simp only[comp,h2,hy]⟩
    ·simp only[findLabel,hf]at hn;cases hn
   | none=>
    rw[a2 hf]
    simp only[findLabel,hf]
    exact⟨b1,b2⟩
  ·cases h
 | label l'=>
  intro pc h l
  simp only[comp,Option.some.injEq]at h
  subst h
  refine⟨fun rest hr=>?_,fun hn=>?_⟩
  ·simp only[findLabel]at hr
   split at hr
   ·rename_i he
    have he:l'=l:=by simpa using he
    subst he
    cases hr
    exact⟨.skip,by simp[Kf],rfl⟩
   ·cases hr
  ·simp only[findLabel]at hn
   split at hn
   ·cases hn
   ·rename_i he
    have he:¬l'=l:=by simpa using he
    simp[Kf,Jb,he]
 | scope b ih=>
  intro pc h l
  refine⟨fun rest hr=>(by cases hr),fun _=>?_⟩
  simp only[comp,Option.map_eq_some_iff]at h
  obtain⟨pb,hb,rfl⟩:=h
  unfold Qkh
  split
  ·rename_i hl
   exact nolab pb hl l
  ·split
   ·rfl
   ·rfl
  ·rfl
 | region id ops draw=>
  intro pc h l
  refine⟨fun rest hr=>(by cases hr),fun _=>?_⟩
  cases draw
  ·simp only[comp,Option.some.injEq]at h
   subst h
   split<;>rfl
  ·simp only[comp,Option.some.injEq]at h
   subst h
   split
   ·split<;>rfl
   ·rfl
 | cond x a b iha ihb=>
  intro pc h l
  refine⟨fun rest hr=>(by cases hr),fun _=>?_⟩
  simp only[comp]at h
  split at h
  ·split at h
   ·cases h;rfl
   ·cases h
  ·cases h
 | block id b ih=>
  intro pc h l
  refine⟨fun rest hr=>(by cases hr),fun _=>?_⟩
  simp only[comp,Option.map_eq_some_iff]at h
  obtain⟨pb,hb,rfl⟩:=h
  cases Nat.blt id J0<;>rfl
 | loop b ih=>
  intro pc h l
  refine⟨fun rest hr=>(by cases hr),fun _=>?_⟩
  simp only[comp,Option.map_eq_some_iff]at h
  obtain⟨pb,hb,rfl⟩:=h
  rfl
 | rangeFunc g ps a b iha ihb=>
  intro pc h l
  refine⟨fun rest hr=>(by cases hr),fun _=>?_⟩
  simp only[comp]at h
  split at h
  ·split at h
   ·cases h;rfl
   ·cases h
  ·cases h
 | exit id=>
  intro pc h l
  refine⟨fun rest hr=>(by cases hr),fun _=>?_⟩
  simp only[comp,Option.some.injEq]at h
  subst h
  cases Nat.blt id J0<;>rfl
 | _=>
  intro pc h l
  refine⟨fun rest hr=>(by cases hr),fun _=>?_⟩
  cases h
  rfl
 where
 nolab:∀ (pc:PC),KO pc=[]→∀l,Kf pc l=none
  | .seq a b,h,l=>by
   simp only[KO,List.append_eq_nil_iff]at h
   simp only[Kf,nolab a h.1 l,nolab b h.2 l]
  | .label l',h,l=>by simp[KO]at h
  | .skip,h,l=>rfl
  | .ops _,h,l=>rfl
  | .cond _ _ _,h,l=>rfl
  | .block _ _,h,l=>rfl
  | .loop _,h,l=>rfl
  | .exit _,h,l=>rfl
  | .ret,h,l=>rfl
  | .goto _,h,l=>rfl
  | .scope _ _ _,h,l=>rfl
  | .rangeF _ _ _ _,h,l=>rfl
  | .bad,h,l=>rfl
theorem VY:∀ (pc:PC) (l:Nat) (r:PC),Kf pc l=some r→l∈KO pc
 | .seq a b,l,r,h=>by
  simp only[Kf]at h
  simp only[KO,List.mem_append]
  cases hf:Kf a l with
  | some q=>exact .inl (VY a l q hf)
  | none=>rw[hf]at h;exact .inr (VY b l r h)
 | .label l',l,r,h=>by
  simp only[Kf]at h
  cases hb:Nat.beq l' l with
  | true=>simp[KO,Nat.eq_of_beq_eq_true hb]
  | false=>rw[hb]at h;cases h
 | .skip,l,r,h=>by cases h
 | .ops _,l,r,h=>by cases h
 | .cond _ _ _,l,r,h=>by cases h
 | .block _ _,l,r,h=>by cases h
 | .loop _,l,r,h=>by cases h
 | .exit _,l,r,h=>by cases h
 | .ret,l,r,h=>by cases h
 | .goto _,l,r,h=>by cases h
 | .scope _ _ _,l,r,h=>by cases h
 | .rangeF _ _ _ _,l,r,h=>by cases h
 | .bad,l,r,h=>by cases h
def Snd (P:Program) (n:Nat) (c:Code) (pc:PC):Prop:=∀ (ks:Kp) (k:Env→Qa→Prop) (A:Env) (H:Qa),H.Wf→Qj P pc ks k A H→∃ex A1 H1,H1.Wf∧Fp ks k ex A1 H1∧AWp P n c (Qkq ex A1 H1) A H
theorem QnK {a b:Code} {x y:PC} (ha:Snd P n a x) (hb:Snd P n b y):Snd P n (.seq a b) (sq x y):=by
 intro ks k A H hwf h
 rw[Qq5]at h
 obtain⟨ex,A1,H1,hw1,hf,ha⟩:=ha ks _ A H hwf h
 cases ex with
 | normal=>
  obtain⟨ex2,A2,H2,hw2,hf2,ha2⟩:=hb ks k A1 H1 hw1 hf
  refine⟨ex2,A2,H2,hw2,hf2,Qfl (ha.mono ?_)⟩
  rintro e A' H' ⟨rfl,rfl,rfl⟩
  exact ha2
 | ret=>exact⟨.ret,A1,H1,hw1,hf,Qfl (ha.mono (by rintro e A' H' ⟨rfl,rfl,rfl⟩;exact⟨rfl,rfl,rfl⟩))⟩
 | exit j=>exact⟨.exit j,A1,H1,hw1,hf,Qfl (ha.mono (by rintro e A' H' ⟨rfl,rfl,rfl⟩;exact⟨rfl,rfl,rfl⟩))⟩
 | goto j=>exact⟨.goto j,A1,H1,hw1,hf,Qfl (ha.mono (by rintro e A' H' ⟨rfl,rfl,rfl⟩;exact⟨rfl,rfl,rfl⟩))⟩
 | panic v=>exact hf.elim
def Qt8 (P:Program) (n:Nat) (c:Code) (pc:PC):Prop:=Snd P n c pc∧∀l rest,findLabel c l=some rest→∃pr,Kf pc l=some pr∧comp P n rest=some pr∧Snd P n rest pr
theorem Qkr:∀ (c:Code) (pc:PC),comp P n c=some pc→Qt8 P n c pc:=by
 intro c
 induction c with
 | skip=>intro pc hc;cases hc;exact⟨fun ks k A H hwf h=>⟨.normal,A,H,hwf,h,QhK ⟨rfl,rfl,rfl⟩⟩,fun l rest h=>by cases h⟩
 | label l=>
  intro pc hc
  cases hc
  refine⟨fun ks k A H hwf h=>⟨.normal,A,H,hwf,h,Qjq ⟨rfl,rfl,rfl⟩⟩,fun l' rest h=>?_⟩
  obtain⟨pr,h1,h2⟩:=(Qgl (P:=P) (n:=n) (.label l) (.label l) rfl l').1 rest h
  refine⟨pr,h1,h2,?_⟩
  simp only[findLabel]at h
  split at h
  ·cases h
   cases h2
   exact fun ks k A H hwf h=>⟨.normal,A,H,hwf,h,QhK ⟨rfl,rfl,rfl⟩⟩
  ·cases h
 | ret=>intro pc hc;cases hc;exact⟨fun ks k A H hwf h=>⟨.ret,A,H,hwf,h,Qnv ⟨rfl,rfl,rfl⟩⟩,fun l rest h=>by cases h⟩
 | exit id=>
  intro pc hc
  simp only[comp,Option.some.injEq]at hc
  subst hc
  refine⟨fun ks k A H hwf h=>?_,fun l rest h=>by cases h⟩
  cases hb:Nat.blt id J0 with
  | true=>
   rw[hb]at h
   exact⟨.exit id,A,H,hwf,⟨by simpa using hb,h⟩,Qk6 ⟨rfl,rfl,rfl⟩⟩
  | false=>rw[hb]at h;exact h.elim
 | goto l=>intro pc hc;cases hc;exact⟨fun ks k A H hwf h=>⟨.goto l,A,H,hwf,h,Qk7 ⟨rfl,rfl,rfl⟩⟩,fun l rest h=>by cases h⟩
 | refuse s=>intro pc hc;cases hc;exact⟨fun ks k A H hwf h=>h.elim,fun l rest h=>by cases h⟩
 | rangeFunc g ps a b iha ihb=>
  intro pc hc
  refine⟨fun ks k A H hwf h=>?_,fun l rest h=>by cases h⟩
  simp only[comp]at hc
  split at hc
  ·rename_i hok
   split at hc
   ·rename_i pa pb ha hb
    cases hc
    simp only[Qj]at h
    split at h
    ·rename_i f xs ys hg
     obtain⟨hen,hcq⟩:=h (fun st=>Blk.loop A n ps a b st) (fun l args H0 Q hl hlen hp hwf0=>by
      have hlt:l<H0.next:=hwf0.lt hl
      obtain⟨ex,A1,H1,hw1,hf1,haw⟩:=(iha pa ha).1 _ _ _ _ (hwf0.kill l) hp
      cases ex with
      | ret=>exact hf1.elim
      | exit j=>exact hf1.2.elim
      | goto j=>exact hf1.elim
      | panic v=>exact hf1.elim
      | normal=>
       obtain⟨ex,A2,H2,hw2,hf2,hbw⟩:=(ihb pb hb).1 _ _ _ _ hw1 hf1
       have hlen:args.length=ps.size:=by simpa using hlen
       have hwset:∀b,H0.next≤H2.next→(H2.set l b).Wf:=fun b hn id hid=>by
        simp only[Qa.next_set]at hid
        rw[Qa.get_set,if_neg (by omega)];exact hw2 id hid
       have mk:∀v H',QhZ l (Blk.loop A n ps a b) v H' ex A2 H2→Qjz P l args H0 v H':=fun v H' hre=>
        QgK hl hlen (haw.mono (by
         rintro e A' H' ⟨rfl,rfl,rfl⟩
         exact hbw.mono (by rintro e A' H' ⟨rfl,rfl,rfl⟩;exact hre)))
       cases ex with
       | normal=>exact⟨_,_,mk _ _ ⟨rfl,Zt.refl _⟩,by simpa using hf2.1,hwset _ hf2.1,hf2.2⟩
       | ret=>exact⟨_,_,mk _ _ ⟨rfl,Zt.refl _⟩,by simpa using hf2.1,hwset _ hf2.1,hf2.2⟩
       | exit j=>exact⟨_,_,mk _ _ ⟨rfl,Zt.refl _⟩,by simpa using hf2.2.2.1,hwset _ hf2.2.2.1,hf2.2.2.2⟩
       | goto j=>exact absurd hf2.1 (by simp)
       | panic v=>exact hf2.elim)
     obtain⟨v,H2,hd,hnx,hwf2,st,hl,hj⟩:=hcq (hwf.push _)
     have hwk:(H2.kill H.next).Wf:=hwf2.kill _
     have mk:∀e,Qpk (Qkq e A (H2.kill H.next)) A (H2.kill H.next) st→AWp P n (.rangeFunc g ps a b) (Qkq e A (H2.kill H.next)) A H:=fun e hq=>Qeu hok hg hen hd hl hq
     unfold Qmr at hj
     split at hj
     ·exact⟨.normal,A,_,hwk,hj,mk _ ⟨rfl,rfl,rfl⟩⟩
     ·exact⟨.ret,A,_,hwk,hj,mk _ ⟨rfl,rfl,rfl⟩⟩
     ·rename_i j
      exact⟨.exit j,A,_,hwk,⟨by simpa using hj.1,hj.2⟩,mk _ ⟨rfl,rfl,rfl⟩⟩
     ·exact hj.elim
    ·exact h.elim
   ·cases hc
  ·cases hc
 | region id ops draw=>
  intro pc hc
  refine⟨fun ks k A H hwf h=>?_,fun l rest h=>by cases h⟩
  cases draw with
  | false=>
   simp only[comp,Option.some.injEq]at hc
   subst hc
   split at h
   ·rename_i pl hpl
    obtain⟨A1,H1,hw1,hk,ha⟩:=QeY ops.toList 0 pl k A H hwf hpl h
    exact⟨.normal,A1,H1,hw1,hk,(by
     have hw:AWp P n (.region id ops.toList.toArray false) (Qkq .normal A1 H1) A H:=QhL (l:=ops.toList) (by
      have ha:QaL P n ops ops.toList (Qkq .normal A1 H1) A H:=ha
      simpa using ha)
     simpa using hw)⟩
   ·exact h.elim
  | true=>
   simp only[comp,Option.some.injEq]at hc
   subst hc
   split at h
   ·rename_i hcond
    simp only[Bool.and_eq_true]at hcond
    split at h
    ·rename_i pl hpl
     obtain⟨A1,H1,hw1,hk,ha⟩:=QmF (id:=id) hwf hcond.1.1.1 (fun o ho=>by simpa using Array.all_eq_true_iff_forall_mem.1 hcond.2 o ho) hcond.1.1.2 hcond.1.2 hpl h
     exact⟨.normal,A1,H1,hw1,hk,ha⟩
    ·exact h.elim
   ·exact h.elim
 | seq a b iha ihb=>
  intro pc hc
  have hc0:=hc
  simp only[comp]at hc
  split at hc
  ·rename_i x y hx hy
   simp only[Option.some.injEq]at hc
   subst hc
   obtain⟨a1,a2⟩:=iha x hx
   obtain⟨b1,b2⟩:=ihb y hy
   refine⟨QnK a1 b1,fun l rest h=>?_⟩
   obtain⟨pr,h1,h2⟩:=(Qgl _ _ hc0 l).1 rest h
   refine⟨pr,h1,h2,?_⟩
   cases hf:findLabel a l with
   | some r=>
    simp only[findLabel,hf,Option.some.injEq]at h
    subst h
    obtain⟨p1,q1,q2,q3⟩:=a2 l r hf
    simp only[comp,q2,hy,Option.some.injEq]at h2
    subst h2
    exact QnK q3 b1
   | none=>
    simp only[findLabel,hf]at h
    obtain⟨p1,q1,q2,q3⟩:=b2 l rest h
    rw[h2]at q2
    cases q2
    exact q3
  ·cases hc
 | cond x a b iha ihb=>
  intro pc hc
  refine⟨fun ks k A H hwf h=>?_,fun l rest h=>by cases h⟩
  simp only[comp]at hc
  split at hc
  ·rename_i hok
   split at hc
   ·rename_i pa pb ha hb
    cases hc
    simp only[Qj]at h
    split at h
    ·rename_i t ht
     cases t with
     | true=>
      obtain⟨ex,A1,H1,hw1,hf,hw⟩:=(iha pa ha).1 ks k A H hwf (h.1 rfl)
      exact⟨ex,A1,H1,hw1,hf,Qfm (t:=true) hok ht hw⟩
     | false=>
      obtain⟨ex,A1,H1,hw1,hf,hw⟩:=(ihb pb hb).1 ks k A H hwf (h.2 rfl)
      exact⟨ex,A1,H1,hw1,hf,Qfm (t:=false) hok ht hw⟩
    ·exact h.elim
   ·cases hc
  ·cases hc
 | block id b ih=>
  intro pc hc
  refine⟨fun ks k A H hwf h=>?_,fun l rest h=>by cases h⟩
  simp only[comp,Option.map_eq_some_iff]at hc
  obtain⟨pb,hb,rfl⟩:=hc
  cases hlt:Nat.blt id J0 with
  | false=>rw[hlt]at h;exact h.elim
  | true=>
   rw[hlt]at h
   have hlt:id<J0:=by simpa using hlt
   obtain⟨ex,A1,H1,hw1,hf,hw⟩:=(ih pb hb).1 _ k A H hwf h
   cases ex with
   | normal=>exact⟨.normal,A1,H1,hw1,hf,V3 (hw.mono (by rintro e A' H' ⟨rfl,rfl,rfl⟩;exact⟨rfl,rfl,rfl⟩))⟩
   | ret=>exact⟨.ret,A1,H1,hw1,hf,V3 (hw.mono (by rintro e A' H' ⟨rfl,rfl,rfl⟩;exact⟨rfl,rfl,rfl⟩))⟩
   | exit j=>
    simp only[Fp]at hf
    by_cases hj:j=id
    ·rw[if_pos hj]at hf
     exact⟨.normal,A1,H1,hw1,hf.2,V3 (hw.mono (by rintro e A' H' ⟨rfl,rfl,rfl⟩;simp only[Qfn,if_pos hj];exact⟨rfl,rfl,rfl⟩))⟩
    ·rw[if_neg hj]at hf
     exact⟨.exit j,A1,H1,hw1,hf,V3 (hw.mono (by rintro e A' H' ⟨rfl,rfl,rfl⟩;simp only[Qfn,if_neg hj];exact⟨rfl,rfl,rfl⟩))⟩
   | goto j=>
    simp only[Fp]at hf
    rw[if_neg (by omega)]at hf
    exact⟨.goto j,A1,H1,hw1,hf,V3 (hw.mono (by rintro e A' H' ⟨rfl,rfl,rfl⟩;exact⟨rfl,rfl,rfl⟩))⟩
   | panic v=>exact hf.elim
 | loop b ih=>
  intro pc hc
  refine⟨fun ks k A H hwf h=>?_,fun l rest h=>by cases h⟩
  simp only[comp,Option.map_eq_some_iff]at hc
  obtain⟨pb,hb,rfl⟩:=hc
  obtain⟨I,⟨m,hm⟩,hround⟩:=h
  have key:∀m A H,H.Wf→I m A H→∃ex A1 H1,H1.Wf∧Fp ks k ex A1 H1∧Qdz P n b (Qkq ex A1 H1) A H:=by
   intro m
   induction m using Nat.strongRecOn with
   | _ m ihm=>
    intro A H hwf hI
    obtain⟨ex,A1,H1,hw1,hf,hw⟩:=(ih pb hb).1 ks _ A H hwf (hround m A H hI)
    cases ex with
    | normal=>
     obtain⟨m',hlt,hI'⟩:=hf
     obtain⟨ex2,A2,H2,hw2,hf2,hl2⟩:=ihm m' hlt A1 H1 hw1 hI'
     exact⟨ex2,A2,H2,hw2,hf2,Qa5 (hw.mono (by rintro e A' H' ⟨rfl,rfl,rfl⟩;exact hl2))⟩
    | ret=>exact⟨.ret,A1,H1,hw1,hf,Qa5 (hw.mono (by rintro e A' H' ⟨rfl,rfl,rfl⟩;exact⟨rfl,rfl,rfl⟩))⟩
    | exit j=>exact⟨.exit j,A1,H1,hw1,hf,Qa5 (hw.mono (by rintro e A' H' ⟨rfl,rfl,rfl⟩;exact⟨rfl,rfl,rfl⟩))⟩
    | goto j=>exact⟨.goto j,A1,H1,hw1,hf,Qa5 (hw.mono (by rintro e A' H' ⟨rfl,rfl,rfl⟩;exact⟨rfl,rfl,rfl⟩))⟩
    | panic v=>exact hf.elim
  obtain⟨ex,A1,H1,hw1,hf,hw⟩:=key m A H hwf hm
  exact⟨ex,A1,H1,hw1,hf,QgI hw⟩
 | scope b ih=>
  intro pc hc
  refine⟨fun ks k A H hwf h=>?_,fun l rest h=>by cases h⟩
  simp only[comp,Option.map_eq_some_iff]at hc
  obtain⟨pb,hb,rfl⟩:=hc
  have hsnd:=ih pb hb
  have plain:(∀l,findLabel b l=none)→Qj P pb ks k A H→∃ex A1 H1,H1.Wf∧Fp ks k ex A1 H1∧AWp P n (.scope b) (Qkq ex A1 H1) A H:=fun hno h=>by
   obtain⟨ex,A1,H1,hw1,hf,hw⟩:=hsnd.1 ks k A H hwf h
   refine⟨ex,A1,H1,hw1,hf,QbU (JZ (hw.mono ?_))⟩
   rintro e A' H' ⟨rfl,rfl,rfl⟩
   cases e with
   | goto j=>simp only[Qob,hno j];exact⟨rfl,rfl,rfl⟩
   | _=>exact⟨rfl,rfl,rfl⟩
  unfold Qkh at h
  split at h
  ·rename_i hl
   refine plain (fun l=>?_) h
   cases hf:findLabel b l with
   | none=>rfl
   | some r=>
    obtain⟨pr,h1,_⟩:=hsnd.2 l r hf
    have:=VY _ _ _ h1
    rw[hl]at this
    cases this
  ·rename_i l hl
   split at h
   ·rename_i r hr
    obtain⟨I,⟨m,hm⟩,hround⟩:=h
    obtain⟨rest,hrest⟩:∃rest,findLabel b l=some rest:=by
     cases hf:findLabel b l with
     | none=>rw[(Qgl b pb hb l).2 hf]at hr;cases hr
     | some rest=>exact⟨rest,rfl⟩
    obtain⟨pr,q1,q2,q3⟩:=hsnd.2 l rest hrest
    rw[hr]at q1
    cases q1
    have hother:∀j,j≠l→findLabel b j=none:=fun j hj=>by
     cases hf:findLabel b j with
     | none=>rfl
     | some r2=>
      obtain⟨pr2,h1,_⟩:=hsnd.2 j r2 hf
      have:=VY _ _ _ h1
      rw[hl,List.mem_singleton]at this
      exact absurd this hj
    have key:∀m (c:Code) (pcc:PC),Snd P n c pcc→∀A H,H.Wf→Qj P pcc ⟨ks.ret,jmK l I m ks.ext⟩ k A H→∃ex A1 H1,H1.Wf∧Fp ks k ex A1 H1∧Qax P n b c (Qkq ex A1 H1) A H:=by
     intro m
     induction m using Nat.strongRecOn with
     | _ m ihm=>
      intro c pcc hsc A H hwf hx
      obtain⟨ex,A1,H1,hw1,hf,hw⟩:=hsc _ k A H hwf hx
      cases ex with
      | normal=>exact⟨.normal,A1,H1,hw1,hf,JZ (hw.mono (by rintro e A' H' ⟨rfl,rfl,rfl⟩;exact⟨rfl,rfl,rfl⟩))⟩
      | ret=>exact⟨.ret,A1,H1,hw1,hf,JZ (hw.mono (by rintro e A' H' ⟨rfl,rfl,rfl⟩;exact⟨rfl,rfl,rfl⟩))⟩
      | exit j=>
       simp only[Fp,jmK]at hf
       rw[if_neg (by omega)]at hf
       exact⟨.exit j,A1,H1,hw1,hf,JZ (hw.mono (by rintro e A' H' ⟨rfl,rfl,rfl⟩;exact⟨rfl,rfl,rfl⟩))⟩
      | goto j=>
       simp only[Fp,jmK]at hf
       by_cases hj:j=l
       ·subst hj
        rw[if_pos rfl]at hf
        obtain⟨m',hlt,hI⟩:=hf
        obtain⟨ex2,A2,H2,hw2,hf2,hs2⟩:=ihm m' hlt rest r q3 A1 H1 hw1 (hround m' A1 H1 hI)
        refine⟨ex2,A2,H2,hw2,hf2,JZ (hw.mono ?_)⟩
        rintro e A' H' ⟨rfl,rfl,rfl⟩
        simp only[Qob,hrest]
        exact hs2
       ·rw[if_neg (by omega)]at hf
        refine⟨.goto j,A1,H1,hw1,hf,JZ (hw.mono ?_)⟩
        rintro e A' H' ⟨rfl,rfl,rfl⟩
        simp only[Qob,hother j hj]
        exact⟨rfl,rfl,rfl⟩
      | panic v=>exact hf.elim
    obtain⟨ex,A1,H1,hw1,hf,hw⟩:=key m b pb hsnd.1 A H hwf hm
    exact⟨ex,A1,H1,hw1,hf,QbU hw⟩
   ·exact h.elim
  ·exact h.elim
theorem Qlx (c:Code) (pc:PC) (ks:Kp) (k:Env→Qa→Prop) (A:Env) (H:Qa) (hwf:H.Wf) (hc:comp P n c=some pc) (h:Qj P pc ks k A H):
  ∃ex A1 H1,H1.Wf∧Fp ks k ex A1 H1∧AWp P n c (Qkq ex A1 H1) A H:=(Qkr c pc hc).1 ks k A H hwf h
def Qks (P:Program) (fn:Func) (k:Value→Qa→Prop):Env→Qa→Prop:=fun A H=>∃v,Qa4 P fn.ntmps fn.results A H=some v∧∃H2,Zt H2 H∧(H.Wf→H2.Wf)∧k v H2
theorem Qie {f:FuncId} {fn:Func} {pc:PC} {args:List Value} {H:Qa} {k:Value→Qa→Prop} (hf:P.funcs[f]? = some fn) (hcb:fn.body.bind (comp P fn.ntmps)=some pc) (he:entered P f=true) (hl:args.length≤fn.ntmps)
  (h:H.Wf→Qj P pc ⟨Qks P fn fun v H'=>H.next≤H'.next∧k v H',fun _ _ _=>False⟩ (Qks P fn fun v H'=>H.next≤H'.next∧k v H') (ZM args) H):Qf P f args H k:=by
 obtain⟨c,hb,hc⟩:=Option.bind_eq_some_iff.1 hcb
 intro hwf
 obtain⟨ex,A1,H1,hw1,hfp,hw⟩:=Qlx c pc _ _ (ZM args) H hwf hc (h hwf)
 have en:args.length+(fn.ntmps - args.length)=fn.ntmps:=by omega
 have main:Qks P fn (fun v H'=>H.next≤H'.next∧k v H') A1 H1→(ex=.normal∨ex=.ret)→∃v H',Jr P f args H v H'∧H.next≤H'.next∧H'.Wf∧k v H':=fun⟨v,hv,H2,hle,hw2,hn,hk⟩ hex=>by
  refine⟨v,H2,.inl ⟨he,QeR hf hb ?_⟩,hn,hw2 hw1,hk⟩
  rw[en]
  refine hw.mono ?_
  rintro e A' H' ⟨rfl,rfl,rfl⟩
  rcases hex with rfl | rfl
  ·exact⟨v,rfl,hv,hle⟩
  ·exact⟨v,rfl,hv,hle⟩
 cases ex with
 | normal=>exact main hfp (.inl rfl)
 | ret=>exact main hfp (.inr rfl)
 | exit j=>exact hfp.2.elim
 | goto j=>exact hfp.elim
 | panic v=>exact hfp.elim
theorem YQ.mono {l:Nat} {args:List Value} {H:Qa} {k k':Value→Qa→Prop} (h:YQ P l args H k) (hk:∀v H',k v H'→k' v H'):YQ P l args H k':=by
 intro hw
 obtain⟨v,H',h1,h2,h3,h4⟩:=h hw
 exact⟨v,H',h1,h2,h3,hk v H' h4⟩
theorem YQ.then {l:Nat} {args:List Value} {H:Qa} {k k':Value→Qa→Prop} (h:YQ P l args H k) (hk:∀v H',H.next≤H'.next→k v H'→k' v H'):YQ P l args H k':=by
 intro hw
 obtain⟨v,H',h1,h2,h3,h4⟩:=h hw
 exact⟨v,H',h1,h2,h3,hk v H' h2 h4⟩
theorem Qf.mono {f:FuncId} {args:List Value} {H:Qa} {k k':Value→Qa→Prop} (h:Qf P f args H k) (hk:∀v H',k v H'→k' v H'):Qf P f args H k':=by
 intro hw
 obtain⟨v,H',h1,h2,h3,h4⟩:=h hw
 exact⟨v,H',h1,h2,h3,hk v H' h4⟩
theorem Qf.then {f:FuncId} {args:List Value} {H:Qa} {k k':Value→Qa→Prop} (h:Qf P f args H k) (hk:∀v H',H.next≤H'.next→k v H'→k' v H'):Qf P f args H k':=by
 intro hw
 obtain⟨v,H',h1,h2,h3,h4⟩:=h hw
 exact⟨v,H',h1,h2,h3,hk v H' h2 h4⟩
theorem Qex {f:FuncId} {args:List Value} {H:Qa} {v:Value} (he:entered P f=true) (h:KL P f args H (.ret v) H):Qf P f args H fun u H'=>u=v∧H'=H:=
 fun hw=>⟨v,H,.inl ⟨he,h⟩,Nat.le_refl _,hw,rfl,rfl⟩
end
def Qa.up (H:Qa) (m:Nat):Qa:=⟨m,H.tr⟩
theorem Qa.get_up (H:Qa) (m id:Nat):(H.up m).get id=H.get id:=Eq.trans rfl rfl
@[simp] theorem Qa.next_up (H:Qa) (m:Nat):(H.up m).next=m:=Eq.trans rfl rfl
@[simp] theorem Qa.up_up (H:Qa) (m m':Nat):(H.up m).up m'=H.up m':=rfl
theorem Zt.up {H H1:Qa} {m:Nat} (hm:H1.next≤m) (h:∀id b,H.get id=some b→H1.get id=some b):Zt (H.up m) H1:=⟨hm,h⟩
def t (n:Nat):Operand:=.tmp n
def U:Env:=fun _=>undef
theorem QT (A:Env) (d:Nat) (v:Value):upd A d v d=v:=Qdn A d v
theorem Qw (A:Env) (d n:Nat) (v:Value) (h:n≠d):upd A d v n=A n:=Vw A v h
theorem JU (A:Env) (d n:Nat) (v:Value):upd A d v n=bif n==d then v else A n:=by
 by_cases h:n=d
 ·subst h;simp
 ·have e:(n==d)=false:=beq_false_of_ne h
  rw[Vw A v h,e];rfl
theorem Qhj (A:Env) (n:Nat):ev A (t n)=A n:=Eq.trans rfl rfl
theorem Qif (A:Env) (v:Value):ev A (.const v)=v:=Eq.trans rfl rfl
theorem Qom (A:Env) (g:Nat):ev A (.global g)=.pointer (some ⟨g,0,none⟩):=Eq.trans rfl rfl
theorem Qq6 (A:Env) (f:Nat):ev A (.func f)=.func (.func f) #[] #[]:=Eq.trans rfl rfl
theorem WA (A:Env) (d:Nat) (v:Value):ZQ A (some d) v=upd A d v:=Eq.trans rfl rfl
theorem Qbc (A:Env) (v:Value):ZQ A none v=A:=Eq.trans rfl rfl
theorem Qt9:ZM []=U:=by funext n;simp[ZM,U]
theorem Qua (a:Value):ZM [a]=upd U 0 a:=by
 funext n
 rcases n with _ | n
 ·rw[QT];rfl
 ·rw[Qw _ _ _ _ (by omega)];simp[ZM,U]
theorem Qub (a b:Value):ZM [a,b]=upd (upd U 0 a) 1 b:=by
 funext n
 rcases n with _ | _ | n
 ·rw[Qw _ _ _ _ (by omega),QT];rfl
 ·rw[QT];rfl
 ·rw[Qw _ _ _ _ (by omega),Qw _ _ _ _ (by omega)];simp[ZM,U]
theorem Quc (a b c:Value):ZM [a,b,c]=upd (upd (upd U 0 a) 1 b) 2 c:=by
 funext n
 rcases n with _ | _ | _ | n
 ·rw[Qw _ _ _ _ (by omega),Qw _ _ _ _ (by omega),QT];rfl
 ·rw[Qw _ _ _ _ (by omega),QT];rfl
 ·rw[QT];rfl
 ·rw[Qw _ _ _ _ (by omega),Qw _ _ _ _ (by omega),Qw _ _ _ _ (by omega)];simp[ZM,U]
theorem Qud (a b c d:Value):ZM [a,b,c,d]=upd (upd (upd (upd U 0 a) 1 b) 2 c) 3 d:=by
 funext n
 rcases n with _ | _ | _ | _ | n
 ·rw[Qw _ _ _ _ (by omega),Qw _ _ _ _ (by omega),Qw _ _ _ _ (by omega),QT];rfl
 ·rw[Qw _ _ _ _ (by omega),Qw _ _ _ _ (by omega),QT];rfl
 ·rw[Qw _ _ _ _ (by omega),QT];rfl
 ·rw[QT];rfl
 ·rw[Qw _ _ _ _ (by omega),Qw _ _ _ _ (by omega),Qw _ _ _ _ (by omega),Qw _ _ _ _ (by omega)];simp[ZM,U]
theorem Que (a b c d e:Value):ZM [a,b,c,d,e]=upd (upd (upd (upd (upd U 0 a) 1 b) 2 c) 3 d) 4 e:=by
 funext n
 rcases n with _ | _ | _ | _ | _ | n
 ·rw[Qw _ _ _ _ (by omega),Qw _ _ _ _ (by omega),Qw _ _ _ _ (by omega),Qw _ _ _ _ (by omega),QT];rfl
 ·rw[Qw _ _ _ _ (by omega),Qw _ _ _ _ (by omega),Qw _ _ _ _ (by omega),QT];rfl
 ·rw[Qw _ _ _ _ (by omega),Qw _ _ _ _ (by omega),QT];rfl
 ·rw[Qw _ _ _ _ (by omega),QT];rfl
 ·rw[QT];rfl
 ·rw[Qw _ _ _ _ (by omega),Qw _ _ _ _ (by omega),Qw _ _ _ _ (by omega),Qw _ _ _ _ (by omega),Qw _ _ _ _ (by omega)];simp[ZM,U]
section
variable {k:Value→Qa→Prop} {v:Value} {H H':Qa}
theorem Qx:onS (some (v,H')) k=k v H':=by
 apply propext
 constructor
 ·rintro⟨v1,H1,h,hk⟩;cases h;exact hk
 ·exact fun h=>⟨_,_,rfl,h⟩
theorem Qig:onS none k=False:=by
 apply propext
 constructor
 ·rintro⟨v1,H1,h,hk⟩;cases h
 ·exact fun h=>h.elim
theorem QfD {c:Prop} [Decidable c] {a:Option (Value×Qa)}:onS (if c then a else none) k=(c∧onS a k):=by
 by_cases h:c
 ·simp[h]
 ·simp[h,Qig]
theorem QdF {r:Option Value}:onS (QdA H r) k=∃v,r=some v∧k v H:=by
 cases r with
 | none=>simp[QdA,Qig]
 | some u=>simp[QdA,Qx]
end
/-! ### Code -/
section
variable {P:Program}
def QgV (P:Program) (l:List PO) (k:Env→Qa→Prop) (A:Env) (d:Option Nat) (v:Value) (H:Qa):Prop:=Vz P l k (ZQ A d v) H
theorem Wp (l:List PO) (k:Env→Qa→Prop) (A:Env) (d:Nat) (v:Value) (H:Qa):QgV P l k A (some d) v H=Vz P l k (upd A d v) H:=Eq.trans rfl rfl
theorem Zf (l:List PO) (k:Env→Qa→Prop) (A:Env) (v:Value) (H:Qa):QgV P l k A none v H=Vz P l k A H:=Eq.trans rfl rfl
def gB (b:Bool) (P:Program) (r:R) (s:Bool) (l:List PO) (k:Env→Qa→Prop) (A:Env) (d:Option Nat) (H:Qa):Prop:=
 (b=true→pr P r s A H (QgV P l k A d))∧(b=false→Vz P l k (ZQ A d undef) H)
def gV (v:Value) (w:Bool) (P:Program) (r:R) (s:Bool) (l:List PO) (k:Env→Qa→Prop) (A:Env) (d:Option Nat) (H:Qa):Prop:=
 match v with
 | .bool b=>gB (b==w) P r s l k A d H
 | .tuple _=>Vz P l k (ZQ A d undef) H
 | _=>False
theorem Qq7 (r:R) (s:Bool) (l:List PO) (k:Env→Qa→Prop) (A:Env) (d:Option Nat) (H:Qa):gB true P r s l k A d H=pr P r s A H (QgV P l k A d):=by simp[gB]
theorem QpG (r:R) (s:Bool) (l:List PO) (k:Env→Qa→Prop) (A:Env) (d:Option Nat) (H:Qa):gB false P r s l k A d H=Vz P l k (ZQ A d undef) H:=by simp[gB]
theorem Qq8 (b w:Bool) (r:R) (s:Bool) (l:List PO) (k:Env→Qa→Prop) (A:Env) (d:Option Nat) (H:Qa):gV (.bool b) w P r s l k A d H=gB (b==w) P r s l k A d H:=Eq.trans rfl rfl
theorem QpH (w:Bool) (r:R) (s:Bool) (l:List PO) (k:Env→Qa→Prop) (A:Env) (d:Option Nat) (H:Qa):gV undef w P r s l k A d H=Vz P l k (ZQ A d undef) H:=Eq.trans rfl rfl
theorem bt (b:Bool):(b==true)=b:=by cases b<;>rfl
theorem bf (b:Bool):(b==false)=!b:=by cases b<;>rfl
theorem XF (k:Env→Qa→Prop) (A:Env) (H:Qa):Vz P [] k A H=k A H:=Eq.trans rfl rfl
theorem XB (d:Option Nat) (r:R) (s:Bool) (l:List PO) (k:Env→Qa→Prop) (A:Env) (H:Qa):Vz P (⟨d,r,none,s⟩::l) k A H=pr P r s A H (QgV P l k A d):=Eq.trans rfl rfl
theorem QmG (d:Option Nat) (r:R) (n:Nat) (w s:Bool) (l:List PO) (k:Env→Qa→Prop) (A:Env) (H:Qa):Vz P (⟨d,r,some (n,w),s⟩::l) k A H=gV (A n) w P r s l k A d H:=by
 show pg (some (n,w)) A (pr P r s A H (QgV P l k A d)) (Vz P l k (ZQ A d undef) H)=_
 show(match A n with | .bool b=>if b=w then pr P r s A H (QgV P l k A d) else Vz P l k (ZQ A d undef) H | .tuple _=>Vz P l k (ZQ A d undef) H | _=>False)=_
 unfold gV
 cases A n<;>try rfl
 rename_i b
 cases b<;>cases w<;>simp[gB]
theorem Qih (ks:Kp) (k:Env→Qa→Prop) (A:Env) (H:Qa):Qj P .skip ks k A H=k A H:=Eq.trans rfl rfl
theorem Qon (ks:Kp) (k:Env→Qa→Prop) (A:Env) (H:Qa):Qj P .ret ks k A H=ks.ret A H:=Eq.trans rfl rfl
theorem QmH (id:Nat) (ks:Kp) (k:Env→Qa→Prop) (A:Env) (H:Qa):Qj P (.exit id) ks k A H=ks.ext id A H:=Eq.trans rfl rfl
theorem Qgm (l:List PO) (ks:Kp) (k:Env→Qa→Prop) (A:Env) (H:Qa):Qj P (.ops l) ks k A H=Vz P l k A H:=Eq.trans rfl rfl
theorem X9 (a b:PC) (ks:Kp) (k:Env→Qa→Prop) (A:Env) (H:Qa):Qj P (.seq a b) ks k A H=Qj P a ks (Qj P b ks k) A H:=Eq.trans rfl rfl
theorem QgW (l:Nat) (ks:Kp) (k:Env→Qa→Prop) (A:Env) (H:Qa):Qj P (.label l) ks k A H=k A H:=Eq.trans rfl rfl
theorem QmI (l:Nat) (ks:Kp) (k:Env→Qa→Prop) (A:Env) (H:Qa):Qj P (.goto l) ks k A H=ks.ext (J0+l) A H:=Eq.trans rfl rfl
theorem Qly {b r:PC} {l:Nat} {ks:Kp} {k:Env→Qa→Prop} {A:Env} {H:Qa} (I:Nat→Env→Qa→Prop) (m:Nat) (h0:Qj P b ⟨ks.ret,jmK l I m ks.ext⟩ k A H) (h:∀m A' H',I m A' H'→Qj P r ⟨ks.ret,jmK l I m ks.ext⟩ k A' H'):Qj P (.scope b l r) ks k A H:=
 ⟨I,⟨m,h0⟩,h⟩
def exK (id:Nat) (k:Env→Qa→Prop) (e:Nat→Env→Qa→Prop) (j:Nat):Env→Qa→Prop:=if j=id then k else e j
theorem QpI (id:Nat) (k:Env→Qa→Prop) (e:Nat→Env→Qa→Prop) (A:Env) (H:Qa):exK id k e id A H=k A H:=by simp[exK]
theorem Qoo (id j:Nat) (k:Env→Qa→Prop) (e:Nat→Env→Qa→Prop) (A:Env) (H:Qa) (h:j≠id):exK id k e j A H=e j A H:=by simp[exK,h]
def Y8:Nat→Env→Qa→Prop:=fun _ _ _=>False
theorem Kg (id:Nat) (b:PC) (ks:Kp) (k:Env→Qa→Prop) (A:Env) (H:Qa):Qj P (.block id b) ks k A H=Qj P b ⟨ks.ret,exK id k ks.ext⟩ k A H:=Eq.trans rfl rfl
theorem QsN (r:Env→Qa→Prop) (e:Nat→Env→Qa→Prop):(Kp.mk r e).ret=r:=Eq.trans rfl rfl
theorem QsO (r:Env→Qa→Prop) (e:Nat→Env→Qa→Prop):(Kp.mk r e).ext=e:=Eq.trans rfl rfl
def cB (b:Bool) (P:Program) (x y:PC) (ks:Kp) (k:Env→Qa→Prop) (A:Env) (H:Qa):Prop:=(b=true→Qj P x ks k A H)∧(b=false→Qj P y ks k A H)
def cV (v:Value) (P:Program) (x y:PC) (ks:Kp) (k:Env→Qa→Prop) (A:Env) (H:Qa):Prop:=match v with
 | .bool b=>cB b P x y ks k A H
 | _=>False
theorem ZU (c:Operand) (x y:PC) (ks:Kp) (k:Env→Qa→Prop) (A:Env) (H:Qa):Qj P (.cond c x y) ks k A H=cV (ev A c) P x y ks k A H:=Eq.trans rfl rfl
theorem QaD (b:Bool) (x y:PC) (ks:Kp) (k:Env→Qa→Prop) (A:Env) (H:Qa):cV (.bool b) P x y ks k A H=cB b P x y ks k A H:=Eq.trans rfl rfl
theorem QhD (x y:PC) (ks:Kp) (k:Env→Qa→Prop) (A:Env) (H:Qa):cB true P x y ks k A H=Qj P x ks k A H:=by simp[cB]
theorem QdG (x y:PC) (ks:Kp) (k:Env→Qa→Prop) (A:Env) (H:Qa):cB false P x y ks k A H=Qj P y ks k A H:=by simp[cB]
/-! ### Operations -/
variable {k:Value→Qa→Prop} {A:Env} {H:Qa}
def flK (H:Qa) (k:Value→Qa→Prop) (v:Value) (H':Qa):Prop:=Qn H.next 6 v=true∧k v H'
theorem Qop (H:Qa) (k:Value→Qa→Prop) (v:Value) (H':Qa):flK H k v H'=(Qn H.next 6 v=true∧k v H'):=Eq.trans rfl rfl
def stK (H:Qa) (k:Value→Qa→Prop) (v:Value) (H':Qa):Prop:=(∀id,H'.get id=H.get id)∧k v H'
theorem Qoq (H:Qa) (k:Value→Qa→Prop) (v:Value) (H':Qa):stK H k v H'=((∀id,H'.get id=H.get id)∧k v H'):=Eq.trans rfl rfl
theorem Wx (r:Option (Value×Qa)):onS r (fun v H'=>(false=true→Qn H.next 6 v=true)∧k v H')=onS r k:=by
 congr 1;funext v H';simp
theorem Qq9 (r:Option (Value×Qa)):onS r (fun v H'=>(true=true→Qn H.next 6 v=true)∧k v H')=onS r (flK H k):=by
 congr 1;funext v H';simp[flK]
theorem Qra (f:FuncId) (l:List Operand):pr P (.call f l) false A H k=Qf P f (l.map (ev A)) H k:=by
 show Qf P f (l.map (ev A)) H (fun v H'=>(false=true→∀id,H'.get id=H.get id)∧k v H')=_
 congr 1;funext v H';simp
theorem QmJ (f:FuncId) (l:List Operand):pr P (.call f l) true A H k=Qf P f (l.map (ev A)) H (stK H k):=by
 show Qf P f (l.map (ev A)) H (fun v H'=>(true=true→∀id,H'.get id=H.get id)∧k v H')=_
 congr 1;funext v H';simp[stK]
def kpK (H:Qa) (k:Value→Qa→Prop) (v:Value) (H':Qa):Prop:=EqB H H'∧k v H'
theorem Qor (H:Qa) (k:Value→Qa→Prop) (v:Value) (H':Qa):kpK H k v H'=(EqB H H'∧k v H'):=Eq.trans rfl rfl
def Qlz (n:Nat):List Value→Prop
 | []=>True
 | v::l=>Qh8 n v∧Qlz n l
theorem QpJ (n:Nat):Qlz n []=True:=Eq.trans rfl rfl
theorem Qos (n:Nat) (v:Value) (l:List Value):Qlz n (v::l)=(Qh8 n v∧Qlz n l):=Eq.trans rfl rfl
theorem QpK (n b o:Nat):Qh8 n (.pointer (some ⟨b,o,none⟩))=(b<n):=Eq.trans rfl rfl
theorem QmK (n b o l c:Nat):Qh8 n (.slice (some ⟨b,o,none⟩) l c)=(b<n):=Eq.trans rfl rfl
theorem Qii (n:Nat) (f:Operand→Value):∀l:List Operand,(∀z∈l,Qh8 n (f z))↔Qlz n (l.map f)
 | []=>⟨fun _=>trivial,fun _ _ h=>by cases h⟩
 | x::l=>by
  have ih:=Qii n f l
  simp only[List.mem_cons,forall_eq_or_imp,List.map_cons,Qlz,ih]
theorem QpL (f:FuncId) (l os:List Operand) (s:Bool):pr P (.callF f l os) s A H k=(Qlz H.next (os.map (ev A))∧Qf P f (l.map (ev A)) H (kpK H k)):=by
 show((∀z∈os,Qh8 H.next (ev A z))∧Qf P f (l.map (ev A)) H fun v H'=>EqB H H'∧k v H')=_
 rw[Qii]
 rfl
def QgX (H H':Qa):List Value→Prop
 | []=>True
 | v::l=>Qh9 H H' v∧QgX H H' l
theorem Qot (H H':Qa):QgX H H' []=True:=Eq.trans rfl rfl
theorem QmL (H H':Qa) (v:Value) (l:List Value):QgX H H' (v::l)=(Qh9 H H' v∧QgX H H' l):=Eq.trans rfl rfl
theorem Qou (H H':Qa) (b o:Nat):Qh9 H H' (.pointer (some ⟨b,o,none⟩))=(H'.get b=H.get b):=Eq.trans rfl rfl
theorem QjJ (H H':Qa) (f:Operand→Value):∀l:List Operand,(∀z∈l,Qh9 H H' (f z))↔QgX H H' (l.map f)
 | []=>⟨fun _=>trivial,fun _ _ h=>by cases h⟩
 | x::l=>by
  have ih:=QjJ H H' f l
  simp only[List.mem_cons,forall_eq_or_imp,List.map_cons,QgX,ih]
def kpG (H:Qa) (vs:List Value) (k:Value→Qa→Prop):Value→Qa→Prop:=fun v H'=>QgX H H' vs∧k v H'
theorem Qov (H:Qa) (vs:List Value) (k:Value→Qa→Prop) (v:Value) (H':Qa):kpG H vs k v H'=(QgX H H' vs∧k v H'):=Eq.trans rfl rfl
theorem QpM (f:FuncId) (l os:List Operand) (s:Bool):pr P (.callG f l os) s A H k=(Qlz H.next (os.map (ev A))∧Qf P f (l.map (ev A)) H (kpG H (os.map (ev A)) k)):=by
 show((∀z∈os,Qh8 H.next (ev A z))∧Qf P f (l.map (ev A)) H fun v H'=>(∀z∈os,Qh9 H H' (ev A z))∧k v H')=_
 rw[Qii]
 have e:(fun v H'=>(∀z∈os,Qh9 H H' (ev A z))∧k v H')=kpG H (os.map (ev A)) k:=by
  funext v H'
  unfold kpG
  rw[QjJ]
 rw[e]
abbrev cgA:=And.intro @QpM (And.intro @Qov (And.intro @Qot (And.intro @QmL @Qou)))
def cvK (v:Value) (P:Program) (l:List Value) (H:Qa) (k:Value→Qa→Prop):Prop:=match v with
 | .func (.func f) xs ys=>Qf P f (xs.toList++l++ys.toList) H k
 | .func (.yield y) ⟨[]⟩ ⟨[]⟩=>YQ P y l H k
 | _=>False
theorem Qgn (y:Nat) (l:List Value):cvK (.func (.yield y) #[] #[]) P l H k=YQ P y l H k:=Eq.trans rfl rfl
theorem QpN (c:Operand) (l:List Operand):pr P (.callv c l) false A H k=cvK (ev A c) P (l.map (ev A)) H k:=by
 show(match ev A c with | .func (.func f) xs ys=>Qf P f (xs.toList++l.map (ev A)++ys.toList) H (fun v H'=>(false=true→∀id,H'.get id=H.get id)∧k v H') | .func (.yield y) ⟨[]⟩ ⟨[]⟩=>YQ P y (l.map (ev A)) H (fun v H'=>(false=true→∀id,H'.get id=H.get id)∧k v H') | _=>False)=_
 unfold cvK
 split<;>first | rfl | skip
 all_goals (congr 1;funext v H';simp)
theorem QcC (x:Operand):pr P (.mv x) false A H k=k (ev A x) H:=(Wx _).trans Qx
def Qse (c x y:Value) (H:Qa) (k:Value→Qa→Prop):Prop:=onS (match c with | .bool b=>some (bif b then x else y,H) | _=>none) k
theorem Qeb (c x y:Operand):pr P (.pick c x y) false A H k=Qse (ev A c) (ev A x) (ev A y) H k:=Wx _
theorem G1 (b:Bool) (x y:Value):Qse (.bool b) x y H k=k (bif b then x else y) H:=Qx
def J4 (op:BinOp) (x y:Value) (H:Qa) (k:Value→Qa→Prop):Prop:=∃v,J2 op x y=some v∧k v H
theorem Qkt (op:BinOp) (x y:Operand):pr P (.bin op x y) false A H k=J4 op (ev A x) (ev A y) H k:=(Wx _).trans QdF
theorem Wr {op:BinOp} {x y v:Value} (h:J2 op x y=some v):J4 op x y H k=k v H:=by
 apply propext
 constructor
 ·rintro⟨u,h1,h2⟩;rw[h]at h1;cases h1;exact h2
 ·exact fun hk=>⟨v,h,hk⟩
theorem Qrb (ik:IntKind) (a b:Int):J4 .add (.int ik a) (.int ik b) H k=k (.int ik (ik.wrap (a+b))) H:=Wr (by simp[J2,YP])
theorem Qrc (ik:IntKind) (a b:Int):J4 .sub (.int ik a) (.int ik b) H k=k (.int ik (ik.wrap (a - b))) H:=Wr (by simp[J2,YP])
theorem Qrd (ik:IntKind) (a b:Int):J4 .mul (.int ik a) (.int ik b) H k=k (.int ik (ik.wrap (a * b))) H:=Wr (by simp[J2,YP])
theorem Qre (ik:IntKind) (a b:Int):J4 .and (.int ik a) (.int ik b) H k=k (.int ik (ik.wrap (BitVec.ofInt ik.bits a &&& BitVec.ofInt ik.bits b).toNat)) H:=Wr (by simp[J2,YP])
theorem QsP (ik:IntKind) (a b:Int):J4 .or (.int ik a) (.int ik b) H k=k (.int ik (ik.wrap (BitVec.ofInt ik.bits a ||| BitVec.ofInt ik.bits b).toNat)) H:=Wr (by simp[J2,YP])
theorem Qrf (ik:IntKind) (a b:Int):J4 .xor (.int ik a) (.int ik b) H k=k (.int ik (ik.wrap (BitVec.ofInt ik.bits a ^^^ BitVec.ofInt ik.bits b).toNat)) H:=Wr (by simp[J2,YP])
theorem QmM (ik:IntKind) (a b:Int):J4 .andNot (.int ik a) (.int ik b) H k=k (.int ik (ik.wrap (BitVec.ofInt ik.bits a &&& ~~~BitVec.ofInt ik.bits b).toNat)) H:=Wr (by simp[J2,YP])
theorem Qrg (ik:IntKind) (a b:Int):J4 .eql (.int ik a) (.int ik b) H k=k (.bool (a==b)) H:=Wr (by simp[J2,YP])
theorem Qrh (ik:IntKind) (a b:Int):J4 .neq (.int ik a) (.int ik b) H k=k (.bool (!(a==b))) H:=Wr (by simp[J2,YP,bne])
theorem Qri (ik:IntKind) (a b:Int):J4 .lss (.int ik a) (.int ik b) H k=k (.bool (decide (a<b))) H:=Wr (by simp[J2,YP])
theorem Qrj (ik:IntKind) (a b:Int):J4 .leq (.int ik a) (.int ik b) H k=k (.bool (decide (a≤b))) H:=Wr (by simp[J2,YP])
theorem Qrk (ik:IntKind) (a b:Int):J4 .gtr (.int ik a) (.int ik b) H k=k (.bool (decide (b<a))) H:=Wr (by simp[J2,YP])
theorem Qrl (ik:IntKind) (a b:Int):J4 .geq (.int ik a) (.int ik b) H k=k (.bool (decide (b≤a))) H:=Wr (by simp[J2,YP])
theorem Qrm (ik:IntKind) (a b:Int):J4 .rem (.int ik a) (.int ik b) H k=(b≠0∧k (.int ik (a.tmod b)) H):=by
 unfold J4;by_cases h:b=0<;>simp[J2,YP,h]
theorem Qrn (ik:IntKind) (a b:Int):J4 .quo (.int ik a) (.int ik b) H k=(b≠0∧k (.int ik (ik.wrap (a.tdiv b))) H):=by
 unfold J4;by_cases h:b=0<;>simp[J2,YP,h]
theorem Qro (ik ik':IntKind) (a b:Int):J4 .shl (.int ik a) (.int ik' b) H k=(0≤b∧k (.int ik (ik.wrap (a * 2 ^ (min b.toNat ik.bits)))) H):=by
 unfold J4;by_cases h:b<0
 ·simp[J2,Vg,h];omega
 ·simp[J2,Vg,h];intro _;omega
theorem Qrp (ik ik':IntKind) (a b:Int):J4 .shr (.int ik a) (.int ik' b) H k=(0≤b∧k (.int ik (a.fdiv (2 ^ (min b.toNat ik.bits)))) H):=by
 unfold J4;by_cases h:b<0
 ·simp[J2,Vg,h];omega
 ·simp[J2,Vg,h];intro _;omega
theorem Qrq (a b:ByteArray):J4 .eql (.string a) (.string b) H k=k (.bool (bl a==bl b)) H:=Wr (by simp[J2,V7])
theorem Qrr (a b:ByteArray):J4 .neq (.string a) (.string b) H k=k (.bool (!(bl a==bl b))) H:=Wr (by simp[J2,V7])
theorem QfE (a b:ByteArray):J4 .add (.string a) (.string b) H k=((bl a).length+(bl b).length≤9223372036854775807∧k (.string (mkS (bl a++bl b))) H):=by
 unfold J4;by_cases h:(bl a).length+(bl b).length≤9223372036854775807<;>simp[J2,V7,h]
def QsQ (ne:Bool) (x y:Value) (H:Qa) (k:Value→Qa→Prop):Prop:=onS (match x,y with | .bool a,.bool b=>some (.bool (bif ne then !(a==b) else a==b),H) | _,_=>none) k
theorem QsR (ne:Bool) (x y:Operand):pr P (.beq ne x y) false A H k=QsQ ne (ev A x) (ev A y) H k:=Wx _
theorem Qrs (a b:Bool):QsQ false (.bool a) (.bool b) H k=k (.bool (a==b)) H:=Qx
theorem Qrt (a b:Bool):QsQ true (.bool a) (.bool b) H k=k (.bool (!(a==b))) H:=Qx
def Qru (ne:Bool) (ks:List Sk) (x y:Value) (H:Qa) (k:Value→Qa→Prop):Prop:=onS (match x,y with
 | .agg xs,.agg ys=>match VX ks xs ys 0 with | some b=>some (.bool (bif ne then !b else b),H) | none=>none
 | _,_=>none) k
theorem QsS (ne:Bool) (ks:List Sk) (x y:Operand):pr P (.eqs ne ks x y) false A H k=Qru ne ks (ev A x) (ev A y) H k:=Wx _
theorem Qow {ne:Bool} {ks:List Sk} {xs ys:Array Value} {b:Bool} (h:VX ks xs ys 0=some b):Qru ne ks (.agg xs) (.agg ys) H k=k (.bool (bif ne then !b else b)) H:=by
 simp only[Qru,h,Qx]
def QtG (x:Value) (H:Qa) (k:Value→Qa→Prop):Prop:=onS (match x with | .bool b=>some (.bool !b,H) | _=>none) k
theorem QsT (x:Operand):pr P (.not x) false A H k=QtG (ev A x) H k:=Wx _
theorem Qox (b:Bool):QtG (.bool b) H k=k (.bool !b) H:=Qx
def QpO (ik:IntKind) (x:Value) (H:Qa) (k:Value→Qa→Prop):Prop:=onS (match x with | .int _ m=>some (.int ik (ik.wrap m),H) | _=>none) k
theorem QpP (ik:IntKind) (x:Operand):pr P (.toInt ik x) false A H k=QpO ik (ev A x) H k:=Wx _
theorem QmN (ik ik':IntKind) (m:Int):QpO ik (.int ik' m) H k=k (.int ik (ik.wrap m)) H:=Qx
theorem Qrv (ty:TypeId) (x:Operand):pr P (.mkIf ty x) false A H k=k (.iface ty (ev A x)) H:=(Wx _).trans Qx
def QsU (agg:Bool) (off size:Nat) (x:Value) (H:Qa) (k:Value→Qa→Prop):Prop:=onS (match x with
 | .agg cs=>QdA H (bif agg then some (.agg (cs.extract off (off+size))) else cs[off]?)
 | _=>none) k
theorem QsV (agg:Bool) (off size:Nat) (x:Operand):pr P (.fld agg off size x) false A H k=QsU agg off size (ev A x) H k:=Wx _
theorem Qoy (off size:Nat) (l:List Value):QsU false off size (.agg l.toArray) H k=∃v,l[off]? = some v∧k v H:=by
 show onS (QdA H l.toArray[off]?) k=_
 rw[QdF];simp
theorem QpQ (off size:Nat) (l:List Value):QsU true off size (.agg l.toArray) H k=k (.agg ((l.drop off).take size).toArray) H:=by
 show onS (QdA H (some (.agg (l.toArray.extract off (off+size))))) k=_
 rw[QdF];simp
def Qsf (off:Nat) (x:Value) (H:Qa) (k:Value→Qa→Prop):Prop:=onS (match x with | .pointer (some a)=>some (.pointer (some ⟨a.block,a.off+off,none⟩),H) | _=>none) k
theorem QhE (off:Nat) (x:Operand):pr P (.fldA off x) false A H k=Qsf off (ev A x) H k:=Wx _
theorem Qec (off b o:Nat):Qsf off (.pointer (some ⟨b,o,none⟩)) H k=k (.pointer (some ⟨b,o+off,none⟩)) H:=Qx
def QtH (size:Nat) (x ix:Value) (H:Qa) (k:Value→Qa→Prop):Prop:=onS (match ix,x with
 | .int _ m,.slice (some a) len _=>if 0≤m∧m<len then some (.pointer (some ⟨a.block,a.off+m.toNat * size,none⟩),H) else none
 | _,_=>none) k
theorem Qrw (size:Nat) (x ix:Operand):pr P (.idxS size x ix) false A H k=QtH size (ev A x) (ev A ix) H k:=Wx _
theorem QmO (size:Nat) (ik:IntKind) (m:Int) (b o len cap:Nat):QtH size (.slice (some ⟨b,o,none⟩) len cap) (.int ik m) H k=((0≤m∧m<len)∧k (.pointer (some ⟨b,o+m.toNat * size,none⟩)) H):=by
 show onS (if 0≤m∧m<len then some (.pointer (some ⟨b,o+m.toNat * size,none⟩),H) else none) k=_
 rw[QfD,Qx]
def QtI (x ix:Value) (H:Qa) (k:Value→Qa→Prop):Prop:=onS (match ix,x with
 | .int _ m,.string s=>if 0≤m then(match (bl s)[m.toNat]? with | some b=>some (.int .u8 b.toNat,H) | none=>none) else none
 | _,_=>none) k
theorem QsW (x ix:Operand):pr P (.chr x ix) false A H k=QtI (ev A x) (ev A ix) H k:=Wx _
theorem QdH (ik:IntKind) (m:Int) (s:ByteArray):QtI (.string s) (.int ik m) H k=(0≤m∧∃b,(bl s)[m.toNat]? = some b∧k (.int .u8 b.toNat) H):=by
 show onS (if 0≤m then(match (bl s)[m.toNat]? with | some b=>some (.int .u8 b.toNat,H) | none=>none) else none) k=_
 rw[QfD]
 congr 1
 cases hb:(bl s)[m.toNat]? with
 | some b=>simp[Qx]
 | none=>simp[Qig]
def Qrx (x:Value) (i:Nat) (H:Qa) (k:Value→Qa→Prop):Prop:=onS (match x with | .tuple vs=>QdA H vs[i]? | _=>none) k
theorem QpR (x:Operand) (i:Nat):pr P (.ext x i) false A H k=Qrx (ev A x) i H k:=Wx _
theorem QpS (a:Value) (l:List Value):Qrx (.tuple (a::l).toArray) 0 H k=k a H:=Qx
theorem QpT (a b:Value) (l:List Value):Qrx (.tuple (a::b::l).toArray) 1 H k=k b H:=Qx
theorem QsX (a b c:Value) (l:List Value):Qrx (.tuple (a::b::c::l).toArray) 2 H k=k c H:=Qx
def Qij (ty:TypeId) (z:Value) (ok:Bool) (x:Value) (H:Qa) (k:Value→Qa→Prop):Prop:=onS (match x with
 | .nilIface=>bif ok then some (.tuple #[z,.bool false],H) else none
 | .iface u v=>if u=ty then some (bif ok then .tuple #[v,.bool true] else v,H) else(bif ok then some (.tuple #[z,.bool false],H) else none)
 | _=>none) k
theorem Qry (ty:TypeId) (z:Value) (ok:Bool) (x:Operand):pr P (.asrt ty z ok x) false A H k=Qij ty z ok (ev A x) H k:=Wx _
theorem Qoz (ty:TypeId) (z v:Value):Qij ty z true (.iface ty v) H k=k (.tuple #[v,.bool true]) H:=by simp[Qij,Qx]
theorem QpU (ty u:TypeId) (z v:Value) (h:u≠ty):Qij ty z true (.iface u v) H k=k (.tuple #[z,.bool false]) H:=by simp[Qij,h,Qx]
theorem QmP (ty:TypeId) (z v:Value):Qij ty z false (.iface ty v) H k=k v H:=by simp[Qij,Qx]
def QpV (r:Option (List Value)) (H:Qa) (k:Value→Qa→Prop):Prop:=onS (match r with | some r=>some (.agg r.toArray,H) | none=>none) k
theorem QpW (z:List Value) (parts:List (Nat×Nat×Operand)):pr P (.build z parts) false A H k=QpV (QgQ (ev A) z parts) H k:=Wx _
theorem QlA (l:List Value):QpV (some l) H k=k (.agg l.toArray) H:=Qx
theorem QoA (f:Operand→Value) (cells:List Value):QgQ f cells []=some cells:=Eq.trans rfl rfl
theorem Qik (f:Operand→Value) (cells:List Value) (off size:Nat) (x:Operand) (rest:List (Nat×Nat×Operand)):QgQ f cells ((off,size,x)::rest)=if(f x).cells.toList.length=size∧off+size≤cells.length then QgQ f (splice cells off (f x).cells.toList) rest else none:=Eq.trans rfl rfl
def QnL (e len:Nat) (r:Option (List Value)) (H:Qa) (k:Value→Qa→Prop):Prop:=onS (match r with | some r=>some (.slice (some ⟨H.next,0,none⟩) len len,H.push (.cells r e false)) | none=>none) k
def QjK (size:Nat) (cells:List Value) (parts:List (Nat×Value)):Option (List Value):=Qaw (fun i=>some (i * size,size)) cells parts
def evP (A:Env) (p:Nat×Operand):Nat×Value:=(p.1,ev A p.2)
theorem QpX (A:Env) (i:Nat) (x:Operand):evP A (i,x)=(i,ev A x):=Eq.trans rfl rfl
theorem QjL (e size len:Nat) (z:List Value) (parts:List (Nat×Operand)):pr P (.bslice e size len z parts) false A H k=QnL e len (QjK size z (parts.map (evP A))) H k:=Wx _
theorem QfF (e len:Nat) (l:List Value):QnL e len (some l) H k=k (.slice (some ⟨H.next,0,none⟩) len len) (H.push (.cells l e false)):=Qx
theorem QoB (size:Nat) (cells:List Value):QjK size cells []=some cells:=Eq.trans rfl rfl
theorem Qil (size:Nat) (cells:List Value) (i:Nat) (v:Value) (rest:List (Nat×Value)):QjK size cells ((i,v)::rest)=if v.cells.toList.length=size∧i * size+size≤cells.length then QjK size (splice cells (i * size) v.cells.toList) rest else none:=Eq.trans rfl rfl
theorem QpY (e:TypeId) (z:List Value):pr P (.alloc e z) false A H k=k (.pointer (some ⟨H.next,0,none⟩)) (H.push (.cells z e false)):=(Wx _).trans Qx
theorem QsY (e:TypeId) (x:Operand):pr P (.box e x) false A H k=k (.pointer (some ⟨H.next,0,none⟩)) (H.push (.cells (ev A x).cells.toList e false)):=(Wx _).trans Qx
def Qsg (e size bytes:Nat) (z:List Value) (x y:Value) (H:Qa) (k:Value→Qa→Prop):Prop:=onS (match x,y with
 | .int .i64 l,.int .i64 c=>if 0≤l∧l≤c∧(bytes:Int) * c≤281474976710656∧c≤9223372036854775807 then
   some (.slice (some ⟨H.next,0,none⟩) l.toNat c.toNat,H.push (.cells (Ye z.toArray (c.toNat * size)) e false)) else none
 | _,_=>none) k
theorem Qrz (e size bytes:Nat) (z:List Value) (x y:Operand):pr P (.mkSl e size bytes z x y) false A H k=Qsg e size bytes z (ev A x) (ev A y) H k:=Wx _
theorem QoC (e size bytes:Nat) (z:List Value) (l c:Int):Qsg e size bytes z (.int .i64 l) (.int .i64 c) H k=((0≤l∧l≤c∧(bytes:Int) * c≤281474976710656∧c≤9223372036854775807)∧k (.slice (some ⟨H.next,0,none⟩) l.toNat c.toNat) (H.push (.cells (Ye z.toArray (c.toNat * size)) e false))):=by
 show onS (if 0≤l∧l≤c∧(bytes:Int) * c≤281474976710656∧c≤9223372036854775807 then some (.slice (some ⟨H.next,0,none⟩) l.toNat c.toNat,H.push (.cells (Ye z.toArray (c.toNat * size)) e false)) else none) k=_
 rw[QfD,Qx]
def slK (size:Nat) (x:Value) (lo hi:Option (Option Int)) (H:Qa) (k:Value→Qa→Prop):Prop:=onS (match lo,hi with
 | some l,some h=>QdA H (Qd5 size x l h none)
 | _,_=>none) k
theorem QpZ (size:Nat) (x:Value) (l h:Option Int):slK size x (some l) (some h) H k=∃v,Qd5 size x l h none=some v∧k v H:=QdF
theorem QsZ (size:Nat) (x:Operand) (lo hi:Option Operand):pr P (.slS size x lo hi) false A H k=slK size (ev A x) (QjE (ev A) lo) (QjE (ev A) hi) H k:=Wx _
theorem QmQ (f:Operand→Value):QjE f none=some none:=Eq.trans rfl rfl
theorem QmR (f:Operand→Value) (x:Operand):QjE f (some x)=match f x with | .int _ m=>some (some m) | _=>none:=Eq.trans rfl rfl
def ldB (agg:Bool) (size off:Nat) (b:Option Blk) (H:Qa) (k:Value→Qa→Prop):Prop:=onS (match b with
 | some (.cells c _ _)=>bif agg then(if off+size≤c.length then some (.agg ((c.drop off).take size).toArray,H) else none) else QdA H c[off]?
 | _=>none) k
def ldK (agg:Bool) (size:Nat) (x:Value) (H:Qa) (k:Value→Qa→Prop):Prop:=onS (match x with
 | .pointer (some a)=>match H.get a.block with
  | some (.cells c _ _)=>bif agg then(if a.off+size≤c.length then some (.agg ((c.drop a.off).take size).toArray,H) else none) else QdA H c[a.off]?
  | _=>none
 | _=>none) k
theorem Qsh (agg:Bool) (size:Nat) (x:Operand):pr P (.ld agg size x) false A H k=ldK agg size (ev A x) H k:=Wx _
theorem Qp0 (agg:Bool) (size:Nat) (x:Operand):pr P (.ld agg size x) true A H k=ldK agg size (ev A x) H (flK H k):=Qq9 _
theorem QnM (agg:Bool) (size b o:Nat):ldK agg size (.pointer (some ⟨b,o,none⟩)) H k=ldB agg size o (H.get b) H k:=Eq.trans rfl rfl
theorem QlB (size off:Nat) (c:List Value) (e:TypeId) (ro:Bool):ldB false size off (some (.cells c e ro)) H k=∃v,c[off]? = some v∧k v H:=QdF
theorem QnN (size off:Nat) (c:List Value) (e:TypeId) (ro:Bool):ldB true size off (some (.cells c e ro)) H k=(off+size≤c.length∧k (.agg ((c.drop off).take size).toArray) H):=by
 show onS (if off+size≤c.length then some (.agg ((c.drop off).take size).toArray,H) else none) k=_
 rw[QfD,Qx]
def QtJ (size:Nat) (a:Addr) (y:Value) (b:Option Blk) (H:Qa) (k:Value→Qa→Prop):Prop:=onS (match b with
 | some (.cells c e false)=>if y.cells.toList.length=size∧a.off+y.cells.toList.length≤c.length∧y.cells.toList.all (·.oneCell')=true then some (undef,H.set a.block (.cells (splice c a.off y.cells.toList) e false)) else none
 | _=>none) k
def Qs0 (size:Nat) (x y:Value) (H:Qa) (k:Value→Qa→Prop):Prop:=onS (match x with
 | .pointer (some a)=>match H.get a.block with
  | some (.cells c e false)=>if y.cells.toList.length=size∧a.off+y.cells.toList.length≤c.length∧y.cells.toList.all (·.oneCell')=true then some (undef,H.set a.block (.cells (splice c a.off y.cells.toList) e false)) else none
  | _=>none
 | _=>none) k
theorem QnO (size:Nat) (x y:Operand):pr P (.st size x y) false A H k=Qs0 size (ev A x) (ev A y) H k:=Wx _
theorem Qim (size b o:Nat) (y:Value):Qs0 size (.pointer (some ⟨b,o,none⟩)) y H k=QtJ size ⟨b,o,none⟩ y (H.get b) H k:=Eq.trans rfl rfl
theorem QeZ (size b o:Nat) (y:Value) (c:List Value) (e:TypeId):QtJ size ⟨b,o,none⟩ y (some (.cells c e false)) H k=((y.cells.toList.length=size∧o+y.cells.toList.length≤c.length∧y.cells.toList.all (·.oneCell')=true)∧k undef (H.set b (.cells (splice c o y.cells.toList) e false))):=by
 show onS (if y.cells.toList.length=size∧o+y.cells.toList.length≤c.length∧y.cells.toList.all (·.oneCell')=true then some (undef,H.set b (.cells (splice c o y.cells.toList) e false)) else none) k=_
 rw[QfD,Qx]
def apL:List Value→Value→Prop
 | [],_=>True
 | z::l,x=>QeV x z∧apL l x
def apK (os:List Value) (x:Value) (k:Value→Qa→Prop) (v:Value) (H':Qa):Prop:=apL os x∧k v H'
theorem QjM (os:List Value) (x:Value) (k:Value→Qa→Prop) (v:Value) (H':Qa):apK os x k v H'=(apL os x∧k v H'):=Eq.trans rfl rfl
theorem QrA (x:Value):apL [] x=True:=Eq.trans rfl rfl
theorem Qp1 (z x:Value) (l:List Value):apL (z::l) x=(QeV x z∧apL l x):=Eq.trans rfl rfl
theorem QmS (b o b' o':Nat):QeV (.pointer (some ⟨b,o,none⟩)) (.pointer (some ⟨b',o',none⟩))=(b'≠b):=Eq.trans rfl rfl
theorem Qku (b o:Nat):QeV (.pointer (some ⟨b,o,none⟩)) undef=True:=Eq.trans rfl rfl
theorem QrB (os:List Operand) (x:Value):apL (os.map (ev A)) x=∀z∈os,QeV x (ev A z):=by
 induction os with
 | nil=>simp[apL]
 | cons z l ih=>simp[apL,ih]
theorem Qs1 (size:Nat) (x y:Operand) (os:List Operand) (s:Bool):pr P (.stf size x y os) s A H k=Qs0 size (ev A x) (ev A y) H (apK (os.map (ev A)) (ev A x) k):=by
 show onS (rop P (.st size x y) A H) (fun v H'=>(∀z∈os,QeV (ev A x) (ev A z))∧k v H')=onS (rop P (.st size x y) A H) _
 congr 1;funext v H'
 rw[QjM,QrB]
def Qsi (x:Value) (H:Qa) (k:Value→Qa→Prop):Prop:=onS (match x with | .slice _ m _=>some (.int .i64 (m:Int),H) | _=>none) k
theorem QrC (x:Operand):pr P (.lenS x) false A H k=Qsi (ev A x) H k:=Wx _
theorem Kh (a:Option Addr) (len cap:Nat):Qsi (.slice a len cap) H k=k (.int .i64 (len:Int)) H:=Qx
def Qsj (x:Value) (H:Qa) (k:Value→Qa→Prop):Prop:=onS (match x with | .string s=>some (.int .i64 ((bl s).length:Int),H) | _=>none) k
theorem QrD (x:Operand):pr P (.lenT x) false A H k=Qsj (ev A x) H k:=Wx _
theorem V5 (s:ByteArray):Qsj (.string s) H k=k (.int .i64 ((bl s).length:Int)) H:=Qx
def Qhk (e size bytes:Nat) (s x:Value) (H:Qa) (k:Value→Qa→Prop):Prop:=onS (Ze e size bytes s x H) k
theorem Qp2 (e size bytes:Nat) (x y:Operand):pr P (.app e size bytes x y) false A H k=Qhk e size bytes (ev A x) (ev A y) H k:=Wx _
def QtK (P:Program) (o:Op) (A:Env) (H:Qa) (k:Value→Qa→Prop):Prop:=onS (rop P (.gen o) A H) k
theorem Qkv (f:FuncId) (l:List Operand):pr P (.gen (.makeFunc (.func f) #[] l.toArray)) false A H k=k (.func (.func f) #[] (l.map (ev A)).toArray) H:=by
 have e:rop P (.gen (.makeFunc (.func f) #[] l.toArray)) A H=some (.func (.func f) #[] (l.map (ev A)).toArray,H):=by simp[rop,aop,QeU,VT]
 refine(Wx _).trans ?_
 rw[e,Qx]
def QtL (v:Value) (H:Qa) (k:Value→Qa→Prop):Prop:=onS (bif Qdr v then some (v,H) else none) k
theorem Qs2 (x:Operand):pr P (.gen (.nilCheck x)) false A H k=QtL (ev A x) H k:=by
 have e:rop P (.gen (.nilCheck x)) A H=(bif Qdr (ev A x) then some (ev A x,H) else none):=by
  simp only[rop,aop,QeT]
  cases Qdr (ev A x)<;>rfl
 refine(Wx _).trans ?_
 rw[e];rfl
theorem ZV (a:Addr):QtL (.pointer (some a)) H k=k (.pointer (some a)) H:=Qx
theorem QlC (ty:TypeId):pr P (.gen (.makeMap ty none)) false A H k=k (.map (some H.next)) (H.push (.map [])):=by
 have e:rop P (.gen (.makeMap ty none)) A H=some (.map (some H.next),H.push (.map [])):=by simp[rop,aop]
 refine(Wx _).trans ?_
 rw[e,Qx]
def Qkw (n:Int):List (Value×Value)→Nat→Option (Option (Nat×Value))
 | [],_=>some none
 | (.int .i64 a,b)::l,i=>if n=a then some (some (i,b)) else Qkw n l (i+1)
 | _,_=>none
theorem Qe0 (n:Int):∀ (es:List (Value×Value)) (i:Nat) r,Qkw n es i=some r→Qh2 (.int .i64) (.int .i64 n) es i=some r
 | [],i,r,h=>h
 | (a,b)::l,i,r,h=>by
  cases a with
  | int ik z=>
   cases ik with
   | i64=>
    have g:(if n=z then some (some (i,b)) else Qkw n l (i+1))=some r:=h
    unfold Qh2
    simp only[Qay,cond_true,Instr.sameNow,if_true]
    by_cases hn:n=z
    ·rw[if_pos hn]at g
     subst hn
     have hb:(n==n)=true:=by simp
     simp only[hb]
     exact g
    ·rw[if_neg hn]at g
     have:(n==z)=false:=by simp[hn]
     simp only[this]
     exact Qe0 n _ _ r g
   | _=>exact absurd h (by simp[Qkw])
  | _=>exact absurd h (by simp[Qkw])
theorem QfG {ty kt e:TypeId} {x ix y:Operand} {m:Nat} {n:Int} {es:List (Value×Value)} (h1:P.underlying ty=some (.map kt e)) (h2:P.underlying kt=some (.int .i64)) (hx:ev A x=.map (some m)) (hk:ev A ix=.int .i64 n) (hm:H.get m=some (.map es)) (hp:Qkw n es 0=some none):
  pr P (.gen (.insert ty x ix y)) false A H k=k undef (H.set m (.map (es++[(.int .i64 n,ev A y)]))):=by
 have hf:=Qe0 n es 0 _ hp
 have e:rop P (.gen (.insert ty x ix y)) A H=some (undef,H.set m (.map (es++[(.int .i64 n,ev A y)]))):=by simp[rop,aop,Qh4,h1,Qlo,h2,hx,hk,hm,hf,Qay]
 refine(Wx _).trans ?_
 rw[e,Qx]
def QlD (z:Value):Option (Nat×Value)→Value
 | none=>.tuple #[z,.bool false]
 | some (_,v)=>.tuple #[v,.bool true]
theorem QoD {ty kt e:TypeId} {inf:TypeInfo} {z:Value} {x ix:Operand} {m:Nat} {n:Int} {es:List (Value×Value)} {r:Option (Nat×Value)} (h1:P.underlying ty=some (.map kt e)) (h2:P.underlying kt=some (.int .i64)) (h3:P.info? e=some inf) (h4:inf.zero=some z) (hz:closedV z=true) (hx:ev A x=.map (some m)) (hk:ev A ix=.int .i64 n) (hm:H.get m=some (.map es)) (hp:Qkw n es 0=some r):
  pr P (.gen (.lookup ty x ix true)) false A H k=k (QlD z r) H:=by
 have hf:=Qe0 n es 0 _ hp
 have e:rop P (.gen (.lookup ty x ix true)) A H=some (QlD z r,H):=by
  cases r<;>simp[QlD,rop,aop,Qfu,h1,Qny,h2,h3,h4,hz,hx,hk,hm,hf,Qay]
 refine(Wx _).trans ?_
 rw[e,Qx]
theorem Qs3 (o:Op):pr P (.gen o) false A H k=QtK P o A H k:=Wx _
end
theorem Qkx {e size bytes m len b o cap:Nat} {news c:List Value} {x:Value} {H:Qa} {ro:Bool} {e':TypeId} (hx:QaN size x H=some (m,news)) (h1:news.all (·.oneCell')=true) (hm:m≠0) (hb:H.get b=some (.cells c e' ro))
  (hlen:o+len * size≤c.length) (hsum:(len+m) * bytes≤140737488355328) (hmax:len+m≤9223372036854775807) (hcap:cap<UNK) (hfull:¬len+m≤cap):
  Ze e size bytes (.slice (some ⟨b,o,none⟩) len cap) x H=some (.slice (some ⟨H.next,0,none⟩) (len+m) (UNK+size),H.push (.cells ((c.drop o).take (len * size)++news) e false)):=by
 simp only[Ze,hx,h1,if_true,hm,if_false,hb]
 rw[if_pos ⟨hlen,hmax,hsum⟩,if_neg (by omega),if_neg hfull]
theorem QlE {e size bytes m len b o cap:Nat} (h0:o=0) {news c:List Value} {x:Value} {H:Qa} (hx:QaN size x H=some (m,news)) (h1:news.all (·.oneCell')=true) (hm:m≠0) (hb:H.get b=some (.cells c e false))
  (hlen:o+len * size=c.length) (hsum:(len+m) * bytes≤140737488355328) (hmax:len+m≤9223372036854775807) (hcap:UNK≤cap):
  Ze e size bytes (.slice (some ⟨b,o,none⟩) len cap) x H=some (.slice (some ⟨H.next,0,none⟩) (len+m) (UNK+size),(H.kill b).push (.cells (c.drop o++news) e false)):=by
 simp only[Ze,hx,h1,if_true,hm,if_false,hb]
 rw[if_pos ⟨by omega,hmax,hsum⟩,if_pos hcap,if_pos ⟨trivial,trivial,h0,hlen⟩]
theorem QlF {e size bytes m:Nat} {news:List Value} {x:Value} {H:Qa} (hx:QaN size x H=some (m,news)) (h1:news.all (·.oneCell')=true) (hm:m≠0) (hsum:m * bytes≤140737488355328) (hmax:m≤9223372036854775807):
  Ze e size bytes (.slice none 0 0) x H=some (.slice (some ⟨H.next,0,none⟩) m (UNK+size),H.push (.cells news e false)):=by
 simp only[Ze,hx,h1,if_true,hm,if_false]
 rw[if_pos ⟨hmax,hsum⟩]
/-! ### Qsy of functions -/
def Ret (H0:Qa) (k:Value→Qa→Prop) (v:Value) (H:Qa):Prop:=∃H2,Zt H2 H∧(H.Wf→H2.Wf)∧H0.next≤H2.next∧k v H2
theorem Ret.mk {H0 H:Qa} {k:Value→Qa→Prop} {v:Value} (hn:H0.next≤H.next) (h:k v H):Ret H0 k v H:=⟨H,.refl H,id,hn,h⟩
theorem Qa.Wf.up {H:Qa} (h:H.Wf) {m:Nat} (hm:H.next≤m):(H.up m).Wf:=fun id hid=>h id (Nat.le_trans hm hid)
theorem Ret.up {H0 H:Qa} {k:Value→Qa→Prop} {v:Value} (hw:H0.Wf) (hn:H0.next≤H.next) (hg:∀id,id<H0.next→H.get id=H0.get id) (h:k v (H0.up H.next)):Ret H0 k v H:=
 ⟨H0.up H.next,Zt.up (Nat.le_refl _) (fun id b hb=>by rw[hg id (hw.lt hb)];exact hb),fun _=>hw.up hn,hn,h⟩
def Rt (P:Program) (fn:Func) (H0:Qa) (k:Value→Qa→Prop):Env→Qa→Prop:=Qks P fn fun v H'=>H0.next≤H'.next∧k v H'
section
variable {P:Program} {fn:Func} {H0:Qa} {k:Value→Qa→Prop} {A:Env} {H:Qa}
theorem Qs4 (hr:fn.results=#[]):Rt P fn H0 k A H=Ret H0 k (.tuple #[]) H:=by
 simp[Rt,Qks,Ret,Qa4,hr]
theorem Xv {r:Nat} (hr:fn.results=#[.tmp r]) (hn:Nat.blt r fn.ntmps=true):Rt P fn H0 k A H=Ret H0 k (A r) H:=by
 have:r<fn.ntmps:=by simpa using hn
 simp[Rt,Qks,Ret,Qa4,hr,Vh,this]
theorem Qgo {r s:Nat} (hr:fn.results=#[.tmp r,.tmp s]) (hn:(Nat.blt r fn.ntmps&&Nat.blt s fn.ntmps)=true):Rt P fn H0 k A H=Ret H0 k (.tuple #[A r,A s]) H:=by
 have:r<fn.ntmps∧s<fn.ntmps:=by simpa using hn
 simp[Rt,Qks,Ret,Qa4,hr,Vh,this]
def ldR (agg:Bool) (size:Nat) (p:Value) (H:Qa) (k:Value→Prop):Prop:=match p with
 | .pointer (some a)=>(match H.get a.block with
  | some (.cells c _ _)=>bif agg then(a.off+size≤c.length∧k (.agg ((c.drop a.off).take size).toArray)) else ∃v,c[a.off]? = some v∧k v
  | _=>False)
 | _=>False
def Qs5 (agg:Bool) (size off:Nat) (b:Option Blk) (k:Value→Prop):Prop:=match b with
 | some (.cells c _ _)=>bif agg then(off+size≤c.length∧k (.agg ((c.drop off).take size).toArray)) else ∃v,c[off]? = some v∧k v
 | _=>False
theorem QrE (agg:Bool) (size b o:Nat) (k:Value→Prop):ldR agg size (.pointer (some ⟨b,o,none⟩)) H k=Qs5 agg size o (H.get b) k:=Eq.trans rfl rfl
theorem Qp3 (size o:Nat) (k:Value→Prop) (c:List Value) (e:TypeId) (ro:Bool):Qs5 true size o (some (.cells c e ro)) k=(o+size≤c.length∧k (.agg ((c.drop o).take size).toArray)):=Eq.trans rfl rfl
theorem QoE (size o:Nat) (k:Value→Prop) (c:List Value) (e:TypeId) (ro:Bool):Qs5 false size o (some (.cells c e ro)) k=∃v,c[o]? = some v∧k v:=Eq.trans rfl rfl
def QmT (P:Program) (ty:TypeId) (p:Value) (H:Qa):Option Value:=match p with | .pointer (some ad)=>Yd P ty ad H | _=>none
theorem Qin (n a:Nat) (ty:TypeId):Vh P n A H (.cell a ty)=if a<n then QmT P ty (A a) H else none:=Eq.trans rfl rfl
theorem QjN {ty:TypeId} {d:TypeDesc} {inf:TypeInfo} {p:Value} {q:Value→Prop} (hd:P.underlying ty=some d) (hi:P.info? ty=some inf):
  (∃v,QmT P ty p H=some v∧q v)↔ldR (Jj d) inf.size p H q:=by
 unfold ldR QmT
 split
 ·rename_i a
  have e:Yd P ty a H=match H.get a.block with
   | some (.cells c _ _)=>if Jj d then(if a.off+inf.size≤c.length then some (.agg ((c.drop a.off).take inf.size).toArray) else none) else c[a.off]?
   | _=>none:=by
   simp only[Yd,hd,hi]
   cases H.get a.block with
   | none=>rfl
   | some b=>cases b<;>rfl
  rw[e]
  cases hg:H.get a.block with
  | none=>simp
  | some b=>
   cases b with
   | cells c e ro=>
    cases hag:Jj d with
    | true=>by_cases hle:a.off+inf.size≤c.length<;>simp[hle]
    | false=>simp
   | map es=>simp
   | iter s pos=>simp
   | miter a b c d=>simp
   | loop A n ps as bd st=>simp
 ·simp
def QnP (P:Program) (ty:TypeId) (agg:Bool) (size:Nat):Bool:=match P.underlying ty,P.info? ty with
 | some d,some inf=>(Jj d==agg)&&Nat.beq inf.size size
 | _,_=>false
theorem Qio {ty:TypeId} {agg:Bool} {size:Nat} (h:QnP P ty agg size=true):∃d inf,P.underlying ty=some d∧P.info? ty=some inf∧Jj d=agg∧inf.size=size:=by
 unfold QnP at h
 split at h
 ·rename_i d inf hd hi
  simp only[Bool.and_eq_true,beq_iff_eq,Jb,decide_eq_true_eq]at h
  exact⟨d,inf,hd,hi,h.1,h.2⟩
 ·cases h
theorem Qs6 {a ty size:Nat} {agg:Bool} (hr:fn.results=#[.cell a ty]) (hn:Nat.blt a fn.ntmps=true) (ht:QnP P ty agg size=true):Rt P fn H0 k A H=ldR agg size (A a) H fun v=>Ret H0 k v H:=by
 have hn:a<fn.ntmps:=by simpa using hn
 obtain⟨d,inf,hd,hi,rfl,rfl⟩:=Qio ht
 apply propext
 rw[← QjN hd hi]
 simp only[Rt,Qks,Ret,Qa4,hr,Qin,hn,if_true]
theorem QjO {a ty size:Nat} {agg:Bool} {r:Nat} (hr:fn.results=#[.cell a ty,.tmp r]) (hn:(Nat.blt a fn.ntmps&&Nat.blt r fn.ntmps)=true) (ht:QnP P ty agg size=true):Rt P fn H0 k A H=ldR agg size (A a) H fun v=>Ret H0 k (.tuple #[v,A r]) H:=by
 have hn:a<fn.ntmps∧r<fn.ntmps:=by simpa using hn
 obtain⟨d,inf,hd,hi,rfl,rfl⟩:=Qio ht
 apply propext
 rw[← QjN hd hi]
 have e1:Vh P fn.ntmps A H (.tmp r)=some (A r):=by simp[Vh,hn.2]
 simp only[Rt,Qks,Ret,Qa4,hr,Qin,e1,hn.1,if_true,List.mapM_cons,List.mapM_nil,Option.pure_def,Option.bind_eq_bind,Option.bind_some]
 constructor
 ·rintro⟨v,hv,h⟩
  simp only[Option.map_eq_some_iff,Option.bind_eq_some_iff,Option.some.injEq]at hv
  obtain⟨l,⟨w,hw,rfl⟩,rfl⟩:=hv
  exact⟨w,hw,h⟩
 ·rintro⟨v,hv,h⟩
  refine⟨_,?_,h⟩
  simp[hv]
end
theorem Qed {P:Program} {f:FuncId} {fn:Func} {pc:PC} {args:List Value} {H:Qa} {k:Value→Qa→Prop} {A:Env} (hf:P.funcs[f]? = some fn) (hc:fn.body.bind (comp P fn.ntmps)=some pc) (he:entered P f=true) (hl:Nat.ble args.length fn.ntmps=true) (hA:ZM args=A)
  (h:H.Wf→Qj P pc ⟨Rt P fn H k,Y8⟩ (Rt P fn H k) A H):Qf P f args H k:=Qie hf hc he (by simpa using hl) (by rw[hA];exact h)
theorem Qip (l:List Value):(Value.agg l.toArray).cells.toList=l:=Eq.trans rfl rfl
theorem Qe1 (ik:IntKind) (n:Int):(Value.int ik n).cells.toList=[.int ik n]:=Eq.trans rfl rfl
theorem QgY (b:Bool):(Value.bool b).cells.toList=[.bool b]:=Eq.trans rfl rfl
theorem QfH (a:Option Addr) (l c:Nat):(Value.slice a l c).cells.toList=[.slice a l c]:=Eq.trans rfl rfl
theorem QfI (ty:TypeId) (v:Value):(Value.iface ty v).cells.toList=[.iface ty v]:=Eq.trans rfl rfl
theorem QgZ (ik:IntKind) (n:Int):(Value.int ik n).oneCell'=true:=Eq.trans rfl rfl
theorem QfJ (b:Bool):(Value.bool b).oneCell'=true:=Eq.trans rfl rfl
theorem Qey (a:Option Addr) (l c:Nat):(Value.slice a l c).oneCell'=true:=Eq.trans rfl rfl
theorem Qez (ty:TypeId) (v:Value):(Value.iface ty v).oneCell'=true:=Eq.trans rfl rfl
section
variable {P:Program}
theorem Qp {b:Bool} {r:R} {s:Bool} {l:List PO} {k:Env→Qa→Prop} {A:Env} {d:Option Nat} {H:Qa} (h1:b=true→gB true P r s l k A d H) (h2:b=false→gB false P r s l k A d H):gB b P r s l k A d H:=by
 cases b
 ·exact h2 rfl
 ·exact h1 rfl
theorem Qe {b:Bool} {x y:PC} {ks:Kp} {k:Env→Qa→Prop} {A:Env} {H:Qa} (h1:b=true→cB true P x y ks k A H) (h2:b=false→cB false P x y ks k A H):cB b P x y ks k A H:=by
 cases b
 ·exact h2 rfl
 ·exact h1 rfl
end
/-! ### Loops -/
section
variable {P:Program}
def Qp4 (I:Nat→Env→Qa→Prop) (m:Nat) (A:Env) (H:Qa):Prop:=∃m',m'<m∧I m' A H
theorem Wq {b:PC} {ks:Kp} {k:Env→Qa→Prop} {A:Env} {H:Qa} (I:Nat→Env→Qa→Prop) (m:Nat) (h0:I m A H) (h:∀m A' H',I m A' H'→Qj P b ks (Qp4 I m) A' H'):Qj P (.loop b) ks k A H:=
 ⟨I,⟨m,h0⟩,h⟩
/-! Loops over functions. -/
def YR (P:Program) (L:Option Code→Blk) (ps:List Nat) (a b:PC) (A:Env):Prop:=∀ (l:Nat) (args:List Value) (H0:Qa) (Q:Value→Qa→Prop),H0.get l=some (L none)→args.length=ps.length→Qj P a QnF (fun A1 H1=>Qj P b (Qq0 L l H0.next Q) (QsD L l H0.next Q) A1 H1) (QgJ A ps args) (H0.kill l)→YQ P l args H0 Q
def rgK (v:Value) (P:Program) (ps:List Nat) (a b:PC) (ks:Kp) (k:Env→Qa→Prop) (A:Env) (H:Qa):Prop:=match v with
 | .func (.func f) xs ys=>∀L:Option Code→Blk,YR P L ps a b A→entered P f=true∧Qf P f (xs.toList++[.func (.yield H.next) #[] #[]]++ys.toList) (H.push (L none)) fun _ H2=>∃st,H2.get H.next=some (L st)∧Qmr st ks k A (H2.kill H.next)
 | _=>False
theorem QfK (g:Operand) (ps:List Nat) (a b:PC) (ks:Kp) (k:Env→Qa→Prop) (A:Env) (H:Qa):Qj P (.rangeF g ps a b) ks k A H=rgK (ev A g) P ps a b ks k A H:=by
 show(match ev A g with | .func (.func f) xs ys=>_ | _=>False)=_
 unfold rgK
 split<;>rfl
theorem QlG (f:FuncId) (xs ys:List Value) (ps:List Nat) (a b:PC) (ks:Kp) (k:Env→Qa→Prop) (A:Env) (H:Qa):rgK (.func (.func f) xs.toArray ys.toArray) P ps a b ks k A H=∀L:Option Code→Blk,YR P L ps a b A→entered P f=true∧Qf P f (xs++[.func (.yield H.next) #[] #[]]++ys) (H.push (L none)) fun _ H2=>∃st,H2.get H.next=some (L st)∧Qmr st ks k A (H2.kill H.next):=Eq.trans rfl rfl
theorem QoF (ks:Kp) (k:Env→Qa→Prop) (A:Env) (H:Qa):Qmr none ks k A H=k A H:=Eq.trans rfl rfl
theorem Qp5 (ks:Kp) (k:Env→Qa→Prop) (A:Env) (H:Qa):Qmr (some .ret) ks k A H=ks.ret A H:=Eq.trans rfl rfl
theorem QoG (j:Nat) (ks:Kp) (k:Env→Qa→Prop) (A:Env) (H:Qa):Qmr (some (.exit j)) ks k A H=(Nat.blt j J0=true∧ks.ext j A H):=Eq.trans rfl rfl
theorem Qp6 (L:Option Code→Blk) (l nx:Nat) (Q:Value→Qa→Prop) (A:Env) (H:Qa):(Qq0 L l nx Q).ret A H=(nx≤H.next∧Q (.bool false) (H.set l (L (some .ret)))):=Eq.trans rfl rfl
theorem Qp7 (L:Option Code→Blk) (l nx:Nat) (Q:Value→Qa→Prop) (j:Nat) (A:Env) (H:Qa):(Qq0 L l nx Q).ext j A H=(Nat.blt j J0=true∧nx≤H.next∧Q (.bool false) (H.set l (L (some (.exit j))))):=Eq.trans rfl rfl
theorem QmU (L:Option Code→Blk) (l nx:Nat) (Q:Value→Qa→Prop) (A:Env) (H:Qa):QsD L l nx Q A H=(nx≤H.next∧Q (.bool true) (H.set l (L none))):=Eq.trans rfl rfl
theorem QoH (A:Env) (l:List Value):QgJ A [] l=A:=Eq.trans rfl rfl
theorem QmV (A:Env) (p:Nat) (ps:List Nat) (v:Value) (l:List Value):QgJ A (p::ps) (v::l)=QgJ (upd A p v) ps l:=Eq.trans rfl rfl
abbrev rgA:=And.intro @Qgn (And.intro @QfK (And.intro @QlG (And.intro @QoF (And.intro @Qp5 (And.intro @QoG (And.intro @Qp6 (And.intro @Qp7 (And.intro @QmU (And.intro @QoH @QmV)))))))))
structure Ext (H H':Qa):Prop where
 next:H.next≤H'.next
 get:∀id,id<H.next→H'.get id=H.get id
theorem Ext.eqB {H H':Qa} (h:Ext H H'):EqB H H':=fun id hid=>h.get id hid
theorem Ext.refl (H:Qa):Ext H H:=⟨Nat.le_refl _,fun _ _=>Eq.trans rfl rfl⟩
theorem Ext.trans {a b c:Qa} (h:Ext a b) (h':Ext b c):Ext a c:=⟨Nat.le_trans h.next h'.next,fun id hid=>by rw[h'.get id (Nat.lt_of_lt_of_le hid h.next),h.get id hid]⟩
theorem Ext.push {H H':Qa} (h:Ext H H') (b:Blk):Ext H (H'.push b):=⟨Nat.le_trans h.next (by simp),fun id hid=>by
 have:=h.next
 rw[Qa.get_push,if_neg (by omega)];exact h.get id hid⟩
theorem Ext.up {H H':Qa} (h:Ext H H') {m:Nat} (hm:H'.next≤m):Ext H (H'.up m):=⟨Nat.le_trans h.next hm,fun id hid=>by rw[Qa.get_up];exact h.get id hid⟩
theorem Ext.set {H H':Qa} (h:Ext H H') {i:Nat} (hi:H.next≤i) (b:Blk):Ext H (H'.set i b):=⟨h.next,fun id hid=>by
 rw[Qa.get_set,if_neg (by omega)];exact h.get id hid⟩
theorem Ext.kill {H H':Qa} (h:Ext H H') {i:Nat} (hi:H.next≤i):Ext H (H'.kill i):=⟨h.next,fun id hid=>by
 rw[Qa.get_kill,if_neg (by omega)];exact h.get id hid⟩
theorem Ret.ext {H0 H:Qa} {k:Value→Qa→Prop} {v:Value} (hw:H0.Wf) (he:Ext H0 H) (h:k v (H0.up H.next)):Ret H0 k v H:=.up hw he.next he.get h
end
/-! ### Appending -/
theorem Qky {size m b o cap:Nat} {c:List Value} {e:TypeId} {ro:Bool} {H:Qa} (hb:H.get b=some (.cells c e ro)) (hm:m≠0) (hc:o+m * size≤c.length):QaN size (.slice (some ⟨b,o,none⟩) m cap) H=some (m,(c.drop o).take (m * size)):=by
 simp only[QaN,hm,if_false,hb]
 rw[if_pos hc]
theorem Qp8 {e size bytes m len b o cap:Nat} (h0:o=0) {news c:List Value} {x:Value} {H:Qa} {k:Value→Qa→Prop} (hx:QaN size x H=some (m,news)) (h1:news.all (·.oneCell')=true) (hm:m≠0) (hb:H.get b=some (.cells c e false))
  (hlen:o+len * size=c.length) (hsum:(len+m) * bytes≤140737488355328) (hmax:len+m≤9223372036854775807) (hcap:UNK≤cap)
  (h:k (.slice (some ⟨H.next,0,none⟩) (len+m) (UNK+size)) ((H.kill b).push (.cells (c.drop o++news) e false))):Qhk e size bytes (.slice (some ⟨b,o,none⟩) len cap) x H k:=by
 unfold Qhk
 rw[QlE h0 hx h1 hm hb hlen hsum hmax hcap,Qx]
 exact h
theorem QjP {e size bytes m len b o cap:Nat} {news c:List Value} {x:Value} {H:Qa} {ro:Bool} {e':TypeId} {k:Value→Qa→Prop} (hx:QaN size x H=some (m,news)) (h1:news.all (·.oneCell')=true) (hm:m≠0) (hb:H.get b=some (.cells c e' ro))
  (hlen:o+len * size≤c.length) (hsum:(len+m) * bytes≤140737488355328) (hmax:len+m≤9223372036854775807) (hcap:cap<UNK) (hfull:¬len+m≤cap)
  (h:k (.slice (some ⟨H.next,0,none⟩) (len+m) (UNK+size)) (H.push (.cells ((c.drop o).take (len * size)++news) e false))):Qhk e size bytes (.slice (some ⟨b,o,none⟩) len cap) x H k:=by
 unfold Qhk
 rw[Qkx hx h1 hm hb hlen hsum hmax hcap hfull,Qx]
 exact h
theorem Qp9 {e size bytes m:Nat} {news:List Value} {x:Value} {H:Qa} {k:Value→Qa→Prop} (hx:QaN size x H=some (m,news)) (h1:news.all (·.oneCell')=true) (hm:m≠0) (hsum:m * bytes≤140737488355328) (hmax:m≤9223372036854775807)
  (h:k (.slice (some ⟨H.next,0,none⟩) m (UNK+size)) (H.push (.cells news e false))):Qhk e size bytes (.slice none 0 0) x H k:=by
 unfold Qhk
 rw[QlF hx h1 hm hsum hmax,Qx]
 exact h
theorem Qf.thenW {P:Program} {f:FuncId} {args:List Value} {H:Qa} {k k':Value→Qa→Prop} (h:Qf P f args H k) (hk:∀v H',H.next≤H'.next→H'.Wf→k v H'→k' v H'):Qf P f args H k':=by
 intro hw
 obtain⟨v,H',h1,h2,h3,h4⟩:=h hw
 exact⟨v,H',h1,h2,h3,hk v H' h2 h3 h4⟩
theorem Qg0 {H:Qa} {b:Blk} {m:Nat} (h:m=H.next):(H.push b).get m=some b:=by rw[Qa.get_push,if_pos h]
theorem Qg1 {H:Qa} {b:Blk} {m:Nat} (h:¬m=H.next):(H.push b).get m=H.get m:=by rw[Qa.get_push,if_neg h]
theorem QmW {H:Qa} {b:Blk} {i m:Nat} (h:m=i):(H.set i b).get m=some b:=by rw[Qa.get_set,if_pos h]
theorem QmX {H:Qa} {b:Blk} {i m:Nat} (h:¬m=i):(H.set i b).get m=H.get m:=by rw[Qa.get_set,if_neg h]
/-! ### Rules, together -/
abbrev sxA:=And.intro @Qih (And.intro @QgW (And.intro @QmI (And.intro @Qon (And.intro @QmH (And.intro @Qgm (And.intro @X9 (And.intro @Kg (And.intro @QsN (And.intro @QsO (And.intro @QpI (And.intro @Qoo (And.intro @ZU (And.intro @QaD (And.intro @QhD (And.intro @QdG (And.intro @XF (And.intro @XB (And.intro @QmG (And.intro @Wp (And.intro @Zf (And.intro @Qq8 (And.intro @QpH (And.intro @Qq7 (And.intro @QpG (And.intro @bt (And.intro @bf (And.intro @QT (And.intro @JU (And.intro @WA (And.intro @Qbc (And.intro @Qhj (And.intro @Qif (And.intro @Qom (And.intro @Qq6 (And.intro @QcC (And.intro @Qeb (And.intro @G1 (And.intro @Qkt (And.intro @Qrb (And.intro @Qrc (And.intro @Qrd (And.intro @Qre (And.intro @QsP (And.intro @Qrf (And.intro @QmM (And.intro @Qrg (And.intro @Qrh (And.intro @Qri (And.intro @Qrj (And.intro @Qrk (And.intro @Qrl (And.intro @Qrm (And.intro @Qrn (And.intro @Qro (And.intro @Qrp (And.intro @Qrq (And.intro @Qrr (And.intro @QfE (And.intro @QsR (And.intro @Qrs (And.intro @Qrt (And.intro @QsS (And.intro @QsT (And.intro @Qox (And.intro @QpP (And.intro @QmN (And.intro @Qrv (And.intro @QsV (And.intro @Qoy (And.intro @QpQ (And.intro @QhE (And.intro @Qec (And.intro @Qrw (And.intro @QmO (And.intro @QsW (And.intro @QdH (And.intro @QpR (And.intro @QpS (And.intro @QpT (And.intro @QsX (And.intro @Qry (And.intro @Qoz (And.intro @QpU (And.intro @QmP (And.intro @QpW (And.intro @QlA (And.intro @QoA (And.intro @QjL (And.intro @QfF (And.intro @QoB (And.intro @QpX (And.intro @QpY (And.intro @QsY (And.intro @Qrz (And.intro @QoC (And.intro @QsZ (And.intro @QpZ (And.intro @QmQ (And.intro @QmR (And.intro @Qsh (And.intro @Qp0 (And.intro @QnM (And.intro @QlB (And.intro @QnN (And.intro @QnO (And.intro @Qs1 (And.intro @QjM (And.intro @QrA (And.intro @Qp1 (And.intro @QmS (And.intro @Qku (And.intro @Qim (And.intro @QeZ (And.intro @QrC (And.intro @Kh (And.intro @QrD (And.intro @V5 (And.intro @Qp2 (And.intro @Qra (And.intro @QpN (And.intro @QmJ (And.intro @QpL (And.intro @Qs2 (And.intro @ZV (And.intro @QlC (And.intro @Qkv (And.intro @Qor (And.intro @QpJ (And.intro @Qos (And.intro @QpK (And.intro @QmK (And.intro @Qop (And.intro @Qoq (And.intro @QrE (And.intro @Qp3 (@QoE))))))))))))))))))))))))))))))))))))))))))))))))))))))))))))))))))))))))))))))))))))))))))))))))))))))))))))))))))))))))))))))))))))))))
abbrev mxA:=And.intro @Qip (And.intro @Qe1 (And.intro @QgY (And.intro @QfH (And.intro @QfI (And.intro @QgZ (And.intro @QfJ (And.intro @Qey (And.intro @Qez (And.intro @Qik (And.intro @Qil (And.intro @Qa.get_push (And.intro @Qa.next_push (And.intro @Qa.get_set (And.intro @Qa.next_set (And.intro @Qa.get_up (And.intro @Qa.next_up (And.intro @Nat.zero_add (And.intro @Nat.add_zero (And.intro @true_and (And.intro @and_true (And.intro @Nat.add_eq_left (And.intro @Nat.left_eq_add (And.intro @Nat.succ_ne_self (And.intro @Bool.and_self (And.intro @Nat.mul_one (And.intro @Nat.zero_mul (@Nat.one_mul)))))))))))))))))))))))))))
abbrev mxD:=And.intro @Qip (And.intro @Qe1 (And.intro @QgY (And.intro @QfH (And.intro @QfI (And.intro @QgZ (And.intro @QfJ (And.intro @Qey (And.intro @Qez (And.intro @Qik (And.intro @Qil (And.intro @Qa.next_push (And.intro @Qa.next_set (And.intro @Qa.get_up (And.intro @Qa.next_up (And.intro @Nat.zero_add (And.intro @Nat.add_zero (And.intro @true_and (And.intro @and_true (And.intro @Nat.add_eq_left (And.intro @Nat.left_eq_add (And.intro @Nat.succ_ne_self (And.intro @Bool.and_self (And.intro @Nat.mul_one (And.intro @Nat.zero_mul (And.intro @Nat.one_mul (And.intro @Qg0 (And.intro @Qg1 (And.intro @QmW (@QmX)))))))))))))))))))))))))))))
abbrev uxA:=And.intro @QT (And.intro @JU (And.intro @WA (And.intro @Qbc (And.intro @Qhj (@Qif)))))
abbrev sxB:=And.intro @List.map_cons.{0,0} (And.intro @List.map_nil.{0,0} (And.intro @ne_eq.{1} (And.intro not_false_eq_true (And.intro not_true_eq_false (And.intro @cond_true.{1} (And.intro @cond_false.{1} (And.intro Bool.not_true (And.intro Bool.not_false @Bool.not_not))))))))
abbrev uxB:=And.intro @cond_true.{1} @cond_false.{1}
abbrev mxB:=And.intro @if_true.{1} (And.intro @if_false.{1} (And.intro @List.getElem?_cons_succ.{0} (And.intro @List.getElem?_cons_zero.{0} (And.intro @Option.some.injEq.{0} (And.intro @exists_eq_left'.{1} (And.intro @eq_self.{1} (And.intro @List.length_cons.{0} (And.intro @List.length_nil.{0} (And.intro @List.all_cons.{0} (And.intro @List.all_nil.{0} (And.intro @List.drop_zero.{0} (And.intro @List.drop_succ_cons.{0} (And.intro @List.take_succ_cons.{0} (And.intro @List.take_zero.{0} (And.intro @List.cons_append.{0} (And.intro @List.nil_append.{0} (And.intro @List.append_nil.{0} (And.intro @List.take_nil.{0} @List.drop_nil.{0}))))))))))))))))))
/-! ### The code's text, short -/
abbrev Ow (d:Nat) (r:R):PO:=⟨some d,r,none,false⟩
abbrev Om (d:Nat) (x:Operand):PO:=⟨some d,.mv x,none,false⟩
abbrev Ov (r:R):PO:=⟨none,r,none,false⟩
abbrev Og (d:Nat) (r:R) (a:Nat) (b:Bool):PO:=⟨some d,r,some (a,b),false⟩
abbrev On (d:Nat) (x:Operand) (a:Nat) (b:Bool):PO:=⟨some d,.mv x,some (a,b),false⟩
abbrev Ci (n:Int):Operand:=.const (.int .i64 n)
abbrev In0 (P:Program) (f:FuncId) (fn:Func) (pc:PC):Prop:=∀ {H:Qa} {k:Value→Qa→Prop},(H.Wf→Qj P pc ⟨Rt P fn H k,Y8⟩ (Rt P fn H k) (U) H)→Qf P f [] H k
theorem in0 {P:Program} {f:FuncId} {fn:Func} {pc:PC} (hf:P.funcs[f]? = some fn) (hc:fn.body.bind (comp P fn.ntmps)=some pc) (he:entered P f=true) (hl:Nat.ble 0 fn.ntmps=true):In0 P f fn pc:=fun h=>Qed hf hc he hl Qt9 h
abbrev In1 (P:Program) (f:FuncId) (fn:Func) (pc:PC):Prop:=∀ {a0:Value} {H:Qa} {k:Value→Qa→Prop},(H.Wf→Qj P pc ⟨Rt P fn H k,Y8⟩ (Rt P fn H k) (upd U 0 a0) H)→Qf P f [a0] H k
theorem in1 {P:Program} {f:FuncId} {fn:Func} {pc:PC} (hf:P.funcs[f]? = some fn) (hc:fn.body.bind (comp P fn.ntmps)=some pc) (he:entered P f=true) (hl:Nat.ble 1 fn.ntmps=true):In1 P f fn pc:=fun h=>Qed hf hc he hl (Qua _) h
abbrev In2 (P:Program) (f:FuncId) (fn:Func) (pc:PC):Prop:=∀ {a0 a1:Value} {H:Qa} {k:Value→Qa→Prop},(H.Wf→Qj P pc ⟨Rt P fn H k,Y8⟩ (Rt P fn H k) (upd (upd U 0 a0) 1 a1) H)→Qf P f [a0,a1] H k
theorem in2 {P:Program} {f:FuncId} {fn:Func} {pc:PC} (hf:P.funcs[f]? = some fn) (hc:fn.body.bind (comp P fn.ntmps)=some pc) (he:entered P f=true) (hl:Nat.ble 2 fn.ntmps=true):In2 P f fn pc:=fun h=>Qed hf hc he hl (Qub _ _) h
abbrev In3 (P:Program) (f:FuncId) (fn:Func) (pc:PC):Prop:=∀ {a0 a1 a2:Value} {H:Qa} {k:Value→Qa→Prop},(H.Wf→Qj P pc ⟨Rt P fn H k,Y8⟩ (Rt P fn H k) (upd (upd (upd U 0 a0) 1 a1) 2 a2) H)→Qf P f [a0,a1,a2] H k
theorem in3 {P:Program} {f:FuncId} {fn:Func} {pc:PC} (hf:P.funcs[f]? = some fn) (hc:fn.body.bind (comp P fn.ntmps)=some pc) (he:entered P f=true) (hl:Nat.ble 3 fn.ntmps=true):In3 P f fn pc:=fun h=>Qed hf hc he hl (Quc _ _ _) h
abbrev In4 (P:Program) (f:FuncId) (fn:Func) (pc:PC):Prop:=∀ {a0 a1 a2 a3:Value} {H:Qa} {k:Value→Qa→Prop},(H.Wf→Qj P pc ⟨Rt P fn H k,Y8⟩ (Rt P fn H k) (upd (upd (upd (upd U 0 a0) 1 a1) 2 a2) 3 a3) H)→Qf P f [a0,a1,a2,a3] H k
theorem in4 {P:Program} {f:FuncId} {fn:Func} {pc:PC} (hf:P.funcs[f]? = some fn) (hc:fn.body.bind (comp P fn.ntmps)=some pc) (he:entered P f=true) (hl:Nat.ble 4 fn.ntmps=true):In4 P f fn pc:=fun h=>Qed hf hc he hl (Qud _ _ _ _) h
abbrev In5 (P:Program) (f:FuncId) (fn:Func) (pc:PC):Prop:=∀ {a0 a1 a2 a3 a4:Value} {H:Qa} {k:Value→Qa→Prop},(H.Wf→Qj P pc ⟨Rt P fn H k,Y8⟩ (Rt P fn H k) (upd (upd (upd (upd (upd U 0 a0) 1 a1) 2 a2) 3 a3) 4 a4) H)→Qf P f [a0,a1,a2,a3,a4] H k
theorem in5 {P:Program} {f:FuncId} {fn:Func} {pc:PC} (hf:P.funcs[f]? = some fn) (hc:fn.body.bind (comp P fn.ntmps)=some pc) (he:entered P f=true) (hl:Nat.ble 5 fn.ntmps=true):In5 P f fn pc:=fun h=>Qed hf hc he hl (Que _ _ _ _ _) h
variable {P:Program} {A:Env} {H:Qa} {k:Value→Qa→Prop}
theorem G7 {o:Op} {v:Value} {H':Qa} (e:rop P (.gen o) A H=some (v,H')):pr P (.gen o) false A H k=k v H':=by
 refine(Wx _).trans ?_
 rw[e,Qx]
/-! ### Texts -/
section
variable {ty:TypeId} {x lo hi:Operand} {s:ByteArray} {l h:Nat} {ik ik':IntKind}
theorem QkB (ht:P.underlying ty=some .string) (hx:ev A x=.string s) (lo hi:Option Operand) (l h:Nat) (hl:QQ A lo=some (some (l:Int))∨(QQ A lo=some none∧l=0)) (hh:QQ A hi=some (some (h:Int))∨(QQ A hi=some none∧h=(bl s).length)) (h1:l≤h) (h2:h≤(bl s).length):
  rop P (.gen (.slice ty x lo hi none)) A H=some (.string (mkS (((bl s).drop l).take (h - l))),H):=by
 rcases hl with hl | ⟨hl,rfl⟩<;>rcases hh with hh | ⟨hh,rfl⟩
 all_goals
  simp only[rop,aop,Qd8,ht,hx,hl,hh,Option.getD_some,Option.getD_none]
  rw[if_pos (by omega)]
  simp
theorem QrF (ht:P.underlying ty=some .string) (hx:ev A x=.string s) (hlo:ev A lo=.int ik l) (hhi:ev A hi=.int ik' h) (h1:l≤h) (h2:h≤(bl s).length):
  pr P (.gen (.slice ty x (some lo) (some hi) none)) false A H k=k (.string (mkS (((bl s).drop l).take (h - l)))) H:=
 G7 (QkB ht hx _ _ l h (.inl (by simp[QQ,hlo])) (.inl (by simp[QQ,hhi])) h1 h2)
theorem QoI (ht:P.underlying ty=some .string) (hx:ev A x=.string s) (hlo:ev A lo=.int ik l) (h1:l≤(bl s).length):
  pr P (.gen (.slice ty x (some lo) none none)) false A H k=k (.string (mkS ((bl s).drop l))) H:=by
 refine(G7 (QkB ht hx _ _ l (bl s).length (.inl (by simp[QQ,hlo])) (.inr ⟨rfl,rfl⟩) h1 (Nat.le_refl _))).trans ?_
 rw[List.take_of_length_le (by rw[List.length_drop];exact Nat.le_refl _)]
theorem QoJ (ht:P.underlying ty=some .string) (hx:ev A x=.string s) (hhi:ev A hi=.int ik h) (h1:h≤(bl s).length):
  pr P (.gen (.slice ty x none (some hi) none)) false A H k=k (.string (mkS ((bl s).take h))) H:=by
 refine(G7 (QkB ht hx _ _ 0 h (.inr ⟨rfl,rfl⟩) (.inl (by simp[QQ,hhi])) (Nat.zero_le _) h1)).trans ?_
 rw[List.drop_zero,Nat.sub_zero]
theorem QrG (a b:ByteArray):J4 .lss (.string a) (.string b) H k=k (.bool (Op.bytesLess (bl a) (bl b))) H:=Wr (by simp[J2,V7])
theorem QrH (a b:ByteArray):J4 .leq (.string a) (.string b) H k=k (.bool (Op.bytesLess (bl a) (bl b)||bl a==bl b)) H:=Wr (by simp[J2,V7])
theorem QrI (a b:ByteArray):J4 .gtr (.string a) (.string b) H k=k (.bool !(Op.bytesLess (bl a) (bl b)||bl a==bl b)) H:=Wr (by simp[J2,V7])
theorem QrJ (a b:ByteArray):J4 .geq (.string a) (.string b) H k=k (.bool !(Op.bytesLess (bl a) (bl b))) H:=Wr (by simp[J2,V7])
def QnQ (P:Program) (src dst:TypeId):Bool:=match P.underlying src,P.underlying dst with
 | some (.slice e),some .string=>(match P.underlying e with | some (.int .u8)=>true | _=>false)
 | _,_=>false
theorem QoK {src dst:TypeId} {n c:Nat} {a:Option Addr} {vs:List Value} {bs:List UInt8} (ht:QnQ P src dst=true) (hx:ev A x=.slice a n c) (hc:V9 1 (.slice a n c) H=some vs) (hb:Jd vs=some bs):
  pr P (.gen (.convert src dst x)) false A H k=k (.string (mkS bs)) H:=by
 unfold QnQ at ht
 split at ht
 ·rename_i e hs hd
  split at ht
  ·rename_i he
   exact G7 (by simp only[rop,aop,GY,hs,hd,hx,he,hc,hb])
  ·cases ht
 ·cases ht
end
/-! ### Arrays in memory -/
def QnR (P:Program) (ty:TypeId) (n size:Nat):Bool:=match P.underlying ty with
 | some (.array n' e)=>Nat.beq n' n&&(match P.info? e with | some inf=>Nat.beq inf.size size | none=>false)
 | _=>false
theorem Qit {ty:TypeId} {n size:Nat} (h:QnR P ty n size=true):∃e inf,P.underlying ty=some (.array n e)∧P.info? e=some inf∧inf.size=size:=by
 unfold QnR at h
 split at h
 ·rename_i n' e ht
  simp only[Bool.and_eq_true]at h
  obtain⟨h1,h2⟩:=h
  split at h2
  ·rename_i inf hi
   rw[← Nat.eq_of_beq_eq_true h1]
   exact⟨e,inf,ht,hi,Nat.eq_of_beq_eq_true h2⟩
  ·cases h2
 ·cases h
theorem QjQ {ty:TypeId} {n size:Nat} {x ix:Operand} {b o i:Nat} {ik:IntKind} (ht:QnR P ty n size=true) (hx:ev A x=.pointer (some ⟨b,o,none⟩)) (hi:ev A ix=.int ik i) (h:i<n):
  pr P (.gen (.indexAddr ty x ix)) false A H k=k (.pointer (some ⟨b,o+i * size,none⟩)) H:=by
 obtain⟨e,inf,htu,he,rfl⟩:=Qit ht
 exact G7 (by
  simp only[rop,aop,ZT,hi,htu,hx,he]
  rw[if_pos (by omega),Int.toNat_natCast])
theorem QoL {ty:TypeId} {n size:Nat} {x:Operand} {lo hi:Option Operand} {b o l h:Nat} (ht:QnR P ty n size=true) (hx:ev A x=.pointer (some ⟨b,o,none⟩))
  (hl:QQ A lo=some (some (l:Int))∨(QQ A lo=some none∧l=0)) (hh:QQ A hi=some (some (h:Int))∨(QQ A hi=some none∧h=n)) (h1:l≤h) (h2:h≤n) (hn:n<UNK):
  pr P (.gen (.slice ty x lo hi none)) false A H k=k (.slice (some ⟨b,o+l * size,none⟩) (h - l) (n - l)) H:=by
 obtain⟨e,inf,htu,he,rfl⟩:=Qit ht
 exact G7 (by
  rcases hl with hl | ⟨hl,rfl⟩<;>rcases hh with hh | ⟨hh,rfl⟩
  all_goals
   simp only[rop,aop,Qd8,htu,hx,he,hl,hh,Option.getD_some,Option.getD_none]
   rw[if_pos (by omega)]
   simp)
/-! ### Nil, and places held against each other -/
def QnS (P:Program) (t:TypeId):Bool:=match P.underlying t with | some (.pointer e)=>(match P.info? e with | some inf=>Nat.blt 0 inf.size | none=>false) | _=>false
theorem Qiu {t:TypeId} (h:QnS P t=true):∃e inf,P.underlying t=some (.pointer e)∧P.info? e=some inf∧¬inf.size=0:=by
 unfold QnS at h
 split at h
 ·rename_i e ht
  split at h
  ·rename_i inf hi
   have:0<inf.size:=by simpa using h
   exact⟨e,inf,ht,hi,by omega⟩
  ·cases h
 ·cases h
theorem QjR {t t':TypeId} {x:Operand} {a:Option Addr} (ht:QnS P t=true) (hx:ev A x=.pointer a):
  pr P (.gen (.binOp .eql t x (.const (.pointer none)) t')) false A H k=k (.bool a.isNone) H:=by
 have hc:ev A (.const (.pointer none))=.pointer none:=rfl
 obtain⟨e,inf,h1,_,_⟩:=Qiu ht
 exact G7 (by cases a<;>simp[rop,aop,VV,QiX,Qfr,X1,hx,hc,h1,aeq,QcX,KM,YM,Qej,QiV])
theorem QoM {t t':TypeId} {x y:Operand} {b o:Nat} (ht:QnS P t=true) (hx:ev A x=.pointer (some ⟨b,o,none⟩)) (hy:ev A y=.pointer (some ⟨b,o,none⟩)):
  pr P (.gen (.binOp .neq t x y t')) false A H k=k (.bool false) H:=by
 obtain⟨e,inf,h1,h2,h3⟩:=Qiu ht
 exact G7 (by simp[rop,aop,VV,QiX,Qfr,X1,hx,hy,h1,h2,h3,aeq,QcX,KM,YM,Qej,QiV])
/-! ### Numbers -/
theorem Qag {t:TypeId} {x:Operand} {ik:IntKind} {n:Int} (hx:ev A x=.int ik n):pr P (.gen (.unOp .neg t x)) false A H k=k (.int ik (ik.wrap (-n))) H:=
 G7 (by simp[rop,aop,Qke,hx,X1,QhN])
/-! ### Pointers without a type -/
def QtM (P:Program) (src dst:TypeId):Bool:=match P.underlying src,P.underlying dst with
 | some (.pointer t),some .unsafePointer=>(match P.info? t with | some j=>Nat.blt 0 j.size | none=>false)
 | _,_=>false
theorem Qqa {src dst:TypeId} {x:Operand} {b o:Nat} {c:List Value} {e:TypeId} (ht:QtM P src dst=true) (hx:ev A x=.pointer (some ⟨b,o,none⟩)) (hg:H.get b=some (.cells c e false)) (ho:o<c.length):
  pr P (.gen (.convert src dst x)) false A H k=k (.pointer (some ⟨b,o,none⟩)) H:=by
 unfold QtM at ht
 split at ht
 ·rename_i t h1 h2
  split at ht
  ·rename_i j hj
   have:0<j.size:=by simpa using ht
   exact G7 (by
    simp only[rop,aop,GY,h1,h2,hx,hj,hg]
    rw[if_pos ⟨by omega,ho⟩])
  ·cases ht
 ·cases ht
def Qqb (P:Program) (src dst e:TypeId) (n o:Nat):Bool:=match P.underlying src,P.underlying dst with
 | some .unsafePointer,some (.pointer u)=>(match P.info? u with | some _=>liesAt P P.depth e (n / P.cellsOf e) o u 1 | none=>false)
 | _,_=>false
theorem QmY {src dst:TypeId} {x:Operand} {b o:Nat} {c:List Value} {e:TypeId} (ht:Qqb P src dst e c.length o=true) (hx:ev A x=.pointer (some ⟨b,o,none⟩)) (hg:H.get b=some (.cells c e false)):
  pr P (.gen (.convert src dst x)) false A H k=k (.pointer (some ⟨b,o,none⟩)) H:=by
 unfold Qqb at ht
 split at ht
 ·rename_i u h1 h2
  split at ht
  ·rename_i j hj
   exact G7 (by
    simp only[rop,aop,GY,h1,h2,hx,hj,hg]
    rw[if_pos ht])
  ·cases ht
 ·cases ht
theorem QmZ {x:Operand} {ts:Array TypeId} {a:Option Addr} {n c:Nat} (hx:ev A x=.slice a n c) (h:a=none∨n≠0):pr P (.gen (.call ⟨.builtin .unsafeSliceData,#[x],ts⟩)) false A H k=k (.pointer a) H:=
 G7 (by cases a<;>simp_all [rop,aop,QbX])
def Qsk (P:Program) (pt e:TypeId):Bool:=match P.underlying pt with | some (.pointer e')=>Nat.beq e' e&&Nat.beq (P.cellsOf e') 1 | _=>false
theorem QoN {x y:Operand} {pt t2 e:TypeId} {b:Nat} {c:List Value} {bs:List UInt8} (ht:Qsk P pt e=true) (hx:ev A x=.pointer (some ⟨b,0,none⟩)) (hy:ev A y=.int .i64 (c.length:Int)) (hg:H.get b=some (.cells c e false)) (h0:0<c.length) (hm:c.length≤9223372036854775807) (hu:c.all Qpt=true) (hb:Jd c=some bs):
  pr P (.gen (.call ⟨.builtin .unsafeString,#[x,y],#[pt,t2]⟩)) false A H k=k (.string (mkS bs)) (H.set b (.cells c e true)):=by
 unfold Qsk at ht
 split at ht
 ·rename_i e' h1
  simp only[Bool.and_eq_true]at ht
  obtain⟨h2,h3⟩:=ht
  have h2:=Nat.eq_of_beq_eq_true h2
  have h3:=Nat.eq_of_beq_eq_true h3
  subst h2
  refine G7 ?_
  simp only[rop,aop,QbX,hx,hy,h1,hg,Int.toNat_natCast,List.take_length]
  rw[if_pos ⟨trivial,trivial,h3,by omega,Nat.le_refl _,by omega,hu⟩,hb]
 ·cases ht
/-! ### Entries of the model -/
theorem QjS {f:FuncId} {e:Xk} {args:List Value} {v:Value} (hx:Qju P f e) (hv:e.val args=some v) (h:k v H):Qf P f args H k:=
 fun hw=>⟨v,H,.inr (Qlg hx hv),Nat.le_refl _,hw,h⟩
/-! ### Cells -/
theorem Qi7 (s:ByteArray):(Value.string s).cells.toList=[.string s]:=Eq.trans rfl rfl
theorem Qiv (a:Option Addr):(Value.pointer a).cells.toList=[.pointer a]:=Eq.trans rfl rfl
theorem Qiw (s:ByteArray):(Value.string s).oneCell'=true:=Eq.trans rfl rfl
theorem Qg2 (a:Option Addr):(Value.pointer a).oneCell'=true:=Eq.trans rfl rfl
abbrev syA:=And.intro @Qi7 (And.intro @Qiv (And.intro @Qiw (And.intro @Qg2 (And.intro @QrG (And.intro @QrH (And.intro @QrI (And.intro @QrJ (And.intro @JY @QhM))))))))
end Go.Ab
namespace Go.Ab
open Go.RowKit
section
variable {P:Program} {ρ:Ren} {H:Qa} {w:World}
def Qbt (H:Qa):Prop:=∀id b,H.get id=some b→b.ro=true
theorem Sim.addRo (hs:Sim P ρ H w) (hro:Qbt H) {c:List Value} (e:TypeId) {a:Addr} (hlt:a.block<w.heap.size) (hc:∀ (j:Nat) v,c[j]? = some v→∃v',w.cell? (a.add j)=some v'∧V ρ v v'):
  Sim P (ext ρ H.next ⟨a,0,0⟩) (H.push (.cells c e true)) w:=by
 have hn:=hs.none_next
 have hsub:=Qav ⟨a,0,0⟩ hn
 refine⟨fun id j h=>?_,fun id bl j h h'=>?_,fun id1 id2 b1 b2 i1 i2 h1 h2 h3 h4 h5 h6=>?_,fun g hg=>?_⟩
 ·by_cases ee:id=H.next
  ·subst ee;simp
  ·rw[Yx ρ _ ee]at h;have:=hs.dom _ _ h;simp;omega
 ·by_cases ee:id=H.next
  ·subst ee
   rw[Wo]at h';cases h'
   rw[Qa.get_push,if_pos rfl]at h;cases h
   exact⟨hlt,fun j v hj=>by obtain⟨v',x1,x2⟩:=hc j v hj;exact⟨v',x1,x2.mono hsub⟩⟩
  ·rw[Yx ρ _ ee]at h';rw[Qa.get_push,if_neg ee]at h
   exact(hs.live id bl j h h').mono hsub rfl
 ·have:b1.ro=true:=by
   by_cases ee:id1=H.next
   ·subst ee;rw[Qa.get_push,if_pos rfl]at h1;cases h1;rfl
   ·rw[Qa.get_push,if_neg ee]at h1;exact hro _ _ h1
  rw[this]at h5;cases h5
 ·obtain⟨j,hj,ee⟩:=hs.glob g hg
  exact⟨j,hsub _ _ hj,ee⟩
theorem Sim.addDead (hs:Sim P ρ H w) (hw:H.Wf) (a:Addr):Sim P (ext ρ H.next ⟨a,0,0⟩) (H.up (H.next+1)) w:=by
 have hn:=hs.none_next
 have hsub:=Qav ⟨a,0,0⟩ hn
 refine⟨fun id j h=>?_,fun id bl j h h'=>?_,fun id1 id2 b1 b2 i1 i2 h1 h2 h3 h4 h5 h6=>?_,fun g hg=>?_⟩
 ·by_cases ee:id=H.next
  ·subst ee;simp
  ·rw[Yx ρ _ ee]at h;have:=hs.dom _ _ h;simp;omega
 ·rw[Qa.get_up]at h
  have:=hw.lt h
  rw[Yx ρ _ (by omega)]at h'
  exact(hs.live id bl j h h').mono hsub rfl
 ·rw[Qa.get_up]at h1 h2
  have:=hw.lt h1
  have:=hw.lt h2
  rw[Yx ρ _ (by omega)]at h3 h4
  exact hs.sep id1 id2 b1 b2 i1 i2 h1 h2 h3 h4 h5 h6
 ·obtain⟨j,hj,ee⟩:=hs.glob g hg
  exact⟨j,hsub _ _ hj,ee⟩
theorem Qbt.push (h:Qbt H) (c:List Value) (e:TypeId):Qbt (H.push (.cells c e true)):=fun id b hb=>by
 rw[Qa.get_push]at hb
 split at hb
 ·cases hb;rfl
 ·exact h id b hb
theorem Qbt.up (h:Qbt H) (m:Nat):Qbt (H.up m):=fun id b hb=>h id b (by rw[Qa.get_up]at hb;exact hb)
theorem V.sliceIn {id len cap:Nat} {a:Addr} (hi:ρ id=some ⟨a,0,0⟩) (hl:len≤cap) (hc:cap<UNK):V ρ (.slice (some ⟨id,0,none⟩) len cap) (.slice (some a) len cap):=
 .slice id 0 len cap cap ⟨a,0,0⟩ a hi (.inl (by rw[show(⟨a,0,0⟩:Zz).at_=a from rfl];unfold Addr.add;rw[if_pos rfl])) hl hc (fun h=>by omega) (fun _=>rfl)
theorem calls_of_callQ {f:FuncId} {args args':List Value} {X:Value→Qa→Prop} (h:Qf P f args H fun u H'=>u=.bool true∧X u H') (hw:H.Wf) (he:entered P f=true) (hs:Sim P ρ H w) (ha:VL ρ args args') (hro:Qbt H):
  Calls P f args'.toArray w fun e w'=>e=.returned (.bool true)∧Below w.heap.size w w':=by
 obtain⟨v,H',hc,_,_,rfl,_⟩:=h hw
 exact Qi8 (hc.does he) hs ha rfl hro
theorem QoP {base:Nat} {a:Addr} {n:Nat} {cs:List Value} (h:w.cells? base a n=some cs):cs.length=n∧∀i,i<n→w.cell? (a.add i)=cs[i]? := by
 unfold World.cells? at h
 split at h
 ·have hl:=Qdu.mapM_length h
  refine⟨by simpa using hl,fun i hi=>?_⟩
  have key:∀ (l:List Nat) (cs:List Value),l.mapM (fun i=>w.cell? (a.add i))=some cs→∀ (j:Nat) x,l[j]? = some x→w.cell? (a.add x)=cs[j]? := by
   intro l
   induction l with
   | nil=>intro cs h j x hx;simp at hx
   | cons y l ih=>
    intro cs h j x hx
    simp only[List.mapM_cons,Option.bind_eq_bind,Option.bind_eq_some_iff,Option.pure_def,Option.some.injEq]at h
    obtain⟨v,hv,vs,hvs,rfl⟩:=h
    cases j with
    | zero=>simp at hx;subst hx;simpa using hv
    | succ j=>simpa using ih vs hvs j x (by simpa using hx)
  exact key _ _ h i i (by simp[hi])
 ·cases h
end
variable {P:Program}
theorem QoR {f:FuncId} {args args2:List Value} {v:Value} {B H1 H:Qa} {τ:Nat→Nat} (hd:KL P f args B (.ret v) H1) (hv:plain v=true) (hg:P.globals.size≤B.next) (hτ:∀g,g<P.globals.size→τ g=g)
  (hB:∀id b,B.get id=some b→∃c e c2 e2 ro,b=.cells c e true∧H.get (τ id)=some (.cells c2 e2 ro)∧c.length=c2.length∧∀ (j:Nat) x y,c[j]? = some x→c2[j]? = some y→Qcn τ B.next x y)
  (hl:args.length=args2.length) (ha:∀ (j:Nat) x y,args[j]? = some x→args2[j]? = some y→Qcn τ B.next x y):KL P f args2 H (.ret v) H:=by
 intro ρ w args' hs hargs
 have hargs':VL (back ρ τ B.next) args args':=⟨by rw[hl];exact hargs.1,fun j x x' e e'=>by
  have hj:j<args2.length:=by have:=(List.getElem?_eq_some_iff.1 e).1;omega
  exact ha j x args2[j] e (List.getElem?_eq_getElem hj) ρ x' (hargs.2 j _ x' (List.getElem?_eq_getElem hj) e')⟩
 have hsim:Sim P (back ρ τ B.next) B w:=by
  refine⟨fun id j h=>(Qbu h).1,fun id b i hb hi=>?_,fun id1 id2 b1 b2 i1 i2 h1 h2 h3 h4 h5=>?_,fun g hgl=>?_⟩
  ·obtain⟨c,e,c2,e2,ro,rfl,hh,hc,hx⟩:=hB id b hb
   have hr:=hs.live _ _ i hh (Qbu hi).2
   refine⟨hr.lt,fun j u hj=>?_⟩
   have hj2:j<c2.length:=by have:=(List.getElem?_eq_some_iff.1 hj).1;omega
   obtain⟨u',h1,h2⟩:=hr.cellAt (List.getElem?_eq_getElem hj2)
   exact⟨u',h1,hx j u c2[j] hj (List.getElem?_eq_getElem hj2) ρ u' h2⟩
  ·obtain⟨c,e,c2,e2,ro,rfl,_⟩:=hB id1 b1 h1
   cases h5
  ·obtain⟨j,hj,e⟩:=hs.glob g hgl
   refine⟨j,?_,e⟩
   unfold back
   rw[if_pos (by omega),hτ g hgl];exact hj
 refine(hd _ w args' hsim hargs').mono ?_
 rintro e w' ⟨ρ',ho,hst,hs'⟩
 have hbel:=hst.below (fun id b h=>by obtain⟨c,e,c2,e2,ro,rfl,_⟩:=hB id b h;rfl)
 refine⟨ρ,?_,⟨.refl ρ,Nat.le_refl _,fun _ _ _ h=>h,fun _ _ b b' _ h hr h'=>(by rw[h]at h';cases h';exact hr),fun id i h h'=>(by rw[h']at h;cases h),hbel.os,hbel.tape,hbel.output,hbel.size,fun b hb _=>hbel.block b hb⟩,
  ⟨hs.dom,fun id b i h h'=>(hs.live id b i h h').mono (.refl ρ) (hbel.block _ (hs.live id b i h h').lt),hs.sep,hs.glob⟩⟩
 cases e with
 | returned v'=>
  have:v'=v:=V.plain_eq ho hv
  subst this
  exact .same _ hv
 | _=>exact ho.elim
end Go.Ab
