/- Equality, assertions of types. -/
import Derived.Test.YtmedjaegakinnaaGreatDoorAbA
import Derived.Lib.Builder
import Derived.Scope
import Derived.Lib.UnsafeStr
import Derived.Laws.BytesString
set_option linter.defProp false
set_option linter.unusedVariables false
set_option linter.unusedSimpArgs false
noncomputable section
namespace Go.Ab
def WZ (P:Program)(eq:TypeId->Value->Value->Option Bool):List Field->Array Value->Array Value->Option Bool
 | [],_,_=>some true
 | fd::fs,xs,ys=>
  if fd.name = "_" then WZ P eq fs xs ys else
  match Gd P fd.type xs fd.offset,Gd P fd.type ys fd.offset with
  | some a,some b=>match eq fd.type a b with
   | some true=>WZ P eq fs xs ys
   | r=>r
  | _,_=>none
def aeq (P:Program):Nat->TypeId->Value->Value->Option Bool
 | 0,_,_,_=>none
 | f+1,t,x,y=>
  match P.underlying t with
  | some .bool=>match x,y with | .bool a,.bool b=>some (a==b) | _,_=>none
  | some (.int _)=>match x,y with | .int k a,.int k' b=>if k=k' then some (a==b) else none | _,_=>none
  | some .string=>match x,y with | .string a,.string b=>some (bl a==bl b) | _,_=>none
  | some (.pointer q)=>match x,y with
   | .pointer none,.pointer b=>some b.isNone
   | .pointer (some _),.pointer none=>some false
   | .pointer (some a),.pointer (some b)=>(match P.info? q with | some j=>if j.size≠0∧a.block=b.block∧a.off=b.off then some true else none | none=>none)
   | _,_=>none
  | some (.slice _)=>match x,y with | .slice none _ _,.slice b _ _=>some b.isNone | .slice (some _) _ _,.slice none _ _=>some false | _,_=>none
  | some (.map _ _)=>match x,y with | .map none,.map b=>some b.isNone | .map (some _),.map none=>some false | _,_=>none
  | some (.func _ _ _)=>match x,y with | .nilFunc,.nilFunc=>some true | .nilFunc,.func _ _ _=>some false | .func _ _ _,.nilFunc=>some false | _,_=>none
  | some (.interface _)=>match x,y with
   | .nilIface,.nilIface=>some true
   | .nilIface,.iface _ _=>some false
   | .iface _ _,.nilIface=>some false
   | .iface tx vx,.iface ty vy=>if tx=ty then(match P.info? tx with | some aa=>if aa.comparable then aeq P f tx vx vy else none | none=>none) else some false
   | _,_=>none
  | some (.struct fs)=>match x,y with | .agg xs,.agg ys=>if P.stoodInHeld t then none else WZ P (aeq P f) fs.toList xs ys | _,_=>none
  | _=>none
section
variable {P:Program} {n:Nat} {A:Env} {H:Qa} {d:Option Nat} {ty:TypeId} {pos:String} {af:Array Edge} {g:Option (Nat×Bool)}
def V.nilness {ρ:Ren}{x x':Value}(h:V ρ x x'):(∀a l c,x=.slice a l c->∃q ab c',x'=.slice q ab c'∧q.isNone=a.isNone)∧(∀a,x=.pointer a->∃q,x'=.pointer q∧q.isNone=a.isNone)∧(∀a,x=.map a->∃q,x'=.map q∧q.isNone=a.isNone)∧
  (∀f a b,x=.func f a b->∃aa q b',x'=.func aa q b'):=by
 cases h with
 | same v ac=>exact⟨λa l c e=>⟨a,l,c,e,rfl⟩,λa e=>⟨a,e,rfl⟩,λa e=>⟨a,e,rfl⟩,λf a b e=>⟨f,a,b,e⟩⟩
 | _=>simp
def VR (w:World){eq:TypeId->Value->Value->Option Bool}{ag:Nat}{ρ:Ren}(ac:∀t x y x' aj b,V ρ x x'->V ρ y aj->eq t x y=some b->(Op.equalIn ag t x' aj).run P w=.ok b w):
  ∀ (ab:List Field) (xs ys q aa:Array Value) (b:Bool),VL ρ xs.toList q.toList->VL ρ ys.toList aa.toList->WZ P eq ab xs ys=some b->(Op.eqFields ag q aa ab).run P w=.ok b w
 | [],xs,ys,q,aa,b,hx,hy,h=>by simp[WZ]at h;subst h;rfl
 | fd::ab,xs,ys,q,aa,b,hx,hy,h=>by
  unfold WZ at h;unfold Op.eqFields;split at h;·rename_i ad;rw[Le (by simpa using ad)];exact VR w ac ab xs ys q aa b hx hy h
  rename_i ad;rw[Lc (by simpa using ad)];split at h
  ·rename_i a b' ak am;obtain⟨a1,ao,ah⟩:=Qj2 hx ak w;obtain⟨b1,ap,ai⟩:=Qj2 hy am w;simp only[LW,ao,Lz,ap];split at h;·rename_i ae;rw[ac fd.type a b' a1 b1 true ah ai ae];simp only[Lz,L8,LV,LN];exact VR w ac ab xs ys q aa b hx hy h
   rename_i r ae;have an:b=false:=by
    cases b with
    | false=>rfl
    | true=>exact absurd h ae
   subst an;rw[ac fd.type a b' a1 b1 false ah ai h];simp
  cases h
set_option maxHeartbeats 1000000 in
def QlW (w:World):∀ (f:Nat) (t:TypeId) (ρ:Ren) (x y x' ad:Value) (b:Bool),V ρ x x'->V ρ y ad->aeq P f t x y=some b->∀ac,f<=ac->(Op.equalIn ac t x' ad).run P w=.ok b w
 | 0,t,ρ,x,y,x',ad,b,hx,hy,h,ac,hd=>by simp[aeq]at h
 | f+1,t,ρ,x,y,x',ad,b,hx,hy,h,ac,hd=>by
  obtain⟨ac,rfl⟩:∃k,ac=k+1:=⟨ac - 1,by omega⟩;unfold aeq at h;split at h
  ·rename_i aa;split at h;·cases h;rw[hx.plain_eq rfl,hy.plain_eq rfl];simp[Op.equalIn,LZ aa]
   cases h
  ·rename_i k aa;split at h
   ·split at h;·rename_i e;subst e;cases h;rw[hx.plain_eq rfl,hy.plain_eq rfl];simp[Op.equalIn,LZ aa]
    cases h
   cases h
  ·rename_i aa;split at h;·cases h;rw[hx.plain_eq rfl,hy.plain_eq rfl];simp[Op.equalIn,LZ aa,beq_toListBytes,ByteArray.toList_eq,bl]
   cases h
  ·rename_i q aa;split at h;·cases h;rw[hx.plain_eq rfl];obtain⟨ab,e,e'⟩:=hy.nilness.2.1 _ rfl;rw[e,<- e'];simp[Op.equalIn,LZ aa]
   ·cases h;rw[hy.plain_eq rfl];obtain⟨ab,e,e'⟩:=hx.nilness.2.1 _ rfl;cases ab with
    | none=>simp at e'
    | some ab=>rw[e];simp[Op.equalIn,LZ aa]
   ·rename_i a1 b1;split at h
    ·rename_i j ay;split at h;·rename_i av;obtain⟨aJ,aq,ar⟩:=av;cases h;obtain⟨aK,ak,aN,aC⟩:=hx.ptr_inv;obtain⟨aL,am,aD,an⟩:=hy.ptr_inv;rw[aq,am]at ak;cases ak;rw[aC,an,ar];simp[Op.equalIn,LZ aa,sizeOf,typeInfo,ay,run_sameAddr_same]
     cases h
    cases h
   cases h
  ·rename_i q aa;split at h;·cases h;rw[hx.plain_eq rfl];obtain⟨ab,aB,c',e,e'⟩:=hy.nilness.1 _ _ _ rfl;rw[e,<- e'];simp[Op.equalIn,LZ aa]
   ·cases h;rw[hy.plain_eq rfl];obtain⟨ab,aB,c',e,e'⟩:=hx.nilness.1 _ _ _ rfl;cases ab with
    | none=>simp at e'
    | some ab=>rw[e];simp[Op.equalIn,LZ aa]
   cases h
  ·rename_i q aO aa;split at h;·cases h;rw[hx.plain_eq rfl];obtain⟨ab,e,e'⟩:=hy.nilness.2.2.1 _ rfl;rw[e,<- e'];simp[Op.equalIn,LZ aa]
   ·cases h;rw[hy.plain_eq rfl];obtain⟨ab,e,e'⟩:=hx.nilness.2.2.1 _ rfl;cases ab with
    | none=>simp at e'
    | some ab=>rw[e];simp[Op.equalIn,LZ aa]
   cases h
  ·rename_i am aD an aa;split at h;·cases h;rw[hx.plain_eq rfl,hy.plain_eq rfl];simp[Op.equalIn,LZ aa]
   ·cases h;obtain⟨au,ab,b',e⟩:=hy.nilness.2.2.2 _ _ _ rfl;rw[hx.plain_eq rfl,e];simp[Op.equalIn,LZ aa]
   ·cases h;obtain⟨au,ab,b',e⟩:=hx.nilness.2.2.2 _ _ _ rfl;rw[hy.plain_eq rfl,e];simp[Op.equalIn,LZ aa]
   cases h
  ·rename_i ms aa;split at h;·cases h;rw[hx.plain_eq rfl,hy.plain_eq rfl];simp[Op.equalIn,LZ aa]
   ·cases h;obtain⟨aF,e,_⟩:=hy.iface_inv;rw[hx.plain_eq rfl,e];simp[Op.equalIn,LZ aa]
   ·cases h;obtain⟨aF,e,_⟩:=hx.iface_inv;rw[hy.plain_eq rfl,e];simp[Op.equalIn,LZ aa]
   ·rename_i aE vx aP aI;obtain⟨aG,e1,ag⟩:=hx.iface_inv;obtain⟨aH,e2,ah⟩:=hy.iface_inv;rw[e1,e2];split at h
    ·rename_i ae;subst ae;split at h
     ·rename_i aM ax;split at h;·rename_i aw;have aA:=QlW w f aE ρ vx aI aG aH b ag ah h ac (by omega);simp only[Op.equalIn,LW,LZ aa,Lz,Da,BE,LN,typeInfo,DJ,ax,Nc,aw,L8,LV,aA]
      cases h
     cases h
    rename_i ae;cases h;simp[Op.equalIn,LZ aa,ae]
   cases h
  ·rename_i ai aa;split at h
   ·rename_i xs ys;split at h;·cases h
    rename_i az;obtain⟨ao,e1,ag⟩:=hx.agg_inv;obtain⟨ap,e2,ah⟩:=hy.agg_inv;rw[e1,e2];have aj:P.fieldsOf t=ai:=by simp[Program.fieldsOf,aa]
    rw[run_equalIn_struct w ac t ao ap (by rw[aj];exact aa) (by simpa using az),aj];exact VR w (λt x y x' ad b a1 a2 a3=>QlW w f t ρ x y x' ad b a1 a2 a3 ac (by omega)) ai.toList xs ys ao ap b ag ah h
   cases h
  cases h
def VS:Value->Bool
 | .int _ _ | .string _ | .float _ _ | .complex _ _ _=>false
 | _=>true
def Qj5:Value->Bool
 | .nilIface=>true
 | _=>false
def QuS:Value->Bool
 | .agg _=>true
 | _=>false
def QhR:Operand->Bool
 | .const _=>true
 | _=>false
def ZH (P:Program)(k:Bool)(t:TypeId)(x y:Value):Bool:=(k||!(Qj5 x&&Qj5 y))&&!(QuS x&&QuS y&&P.eqGuardType P.depth t)
def Qo3 (P:Program)(k:Bool)(op:BinOp)(t:TypeId)(x y:Value):Option Value:=
 if VS x&&VS y&&ZH P k t x y then
  match op with
  | .eql=>(aeq P 20 t x y).map .bool
  | .neq=>(aeq P 20 t x y).map λb=>.bool !b
  | _=>none
 else none
def V.notNum_eq {ρ:Ren}{x x':Value}(h:V ρ x x'):VS x'=VS x:=by cases h<;>rfl
def V.isNI_eq {ρ:Ren}{x x':Value}(h:V ρ x x'):Qj5 x'=Qj5 x:=by cases h<;>rfl
def V.isAg_eq {ρ:Ren}{x x':Value}(h:V ρ x x'):QuS x'=QuS x:=by cases h<;>rfl
def V.guard_eq {ρ:Ren}{x x' y q:Value}(k:Bool)(t:TypeId)(h:V ρ x x')(h':V ρ y q):ZH P k t x' q=ZH P k t x y:=by
 simp only[ZH,h.isNI_eq,h'.isNI_eq,h.isAg_eq,h'.isAg_eq]
def QAa (t:TypeId)(x y:Value)(h:VS x=true):binOp .eql t x y=(do pure (.bool (<- Op.equal t x y))):=by
 cases x<;>simp[VS]at h<;>(cases y<;>rfl)
def QAb (t:TypeId)(x y:Value)(h:VS x=true):binOp .neq t x y=(do pure (.bool (!(<- Op.equal t x y)))):=by
 cases x<;>simp[VS]at h<;>(cases y<;>rfl)
def QAc (op:BinOp)(t:TypeId)(x y:Operand)(a b:Value)(w:World)(h:ZH P (QhR x||QhR y) t a b=true):(eqGuard op t x y a b).run P w=.ok () w:=by
 by_cases q:Qj5 a=true∧Qj5 b=true
 ·obtain⟨aa,ab⟩:=q;cases a<;>simp[Qj5]at aa;cases b<;>simp[Qj5]at ab;have ac:(QhR x||QhR y)=true:=by
   cases ad:(QhR x||QhR y) with
   | true=>rfl
   | false=>rw[ad]at h;simp[ZH,Qj5]at h
  cases op<;>first
   | rfl
   | (cases x<;>cases y<;>first | rfl | (simp[QhR]at ac))
 cases a<;>cases b<;>simp[ZH,Qj5,QuS]at h q<;>first
  | (cases op<;>rfl)
  | (cases op<;>simp[eqGuard,DJ,h])
def QJD {op:BinOp}{t aj:TypeId}{x y:Operand}{v:Value}(h:Qo3 P (QhR x||QhR y) op t (ev A x) (ev A y)=some v):Qt P ⟨d,.binOp op t x y aj,ty,pos,af,g⟩ A H v H:=
 .pure_ λρ w s am ag=>by
  have aa:=ag x (by simp[Op.operands]);have ac:=ag y (by simp[Op.operands]);generalize ev A x=u at aa h;generalize ev A y=u2 at ac h;have ai:∀b,aeq P 20 t u u2=some b->(Op.equal t (s.eval x) (s.eval y)).run P w=.ok b w:=λb q=>QlW w 20 t ρ u u2 _ _ b aa ac q 10000 (by omega);unfold Qo3 at h;split at h
  ·rename_i ae;simp only[Lm]at ae;obtain⟨⟨ab,ak⟩,ad⟩:=ae;rw[<- aa.notNum_eq]at ab;rw[<- V.guard_eq _ t aa ac]at ad;have ah:=QAc (P:=P) op t x y _ _ w ad;split at h;·simp only[Lx]at h;obtain⟨b,q,rfl⟩:=h;refine⟨.bool b,?_,.same _ rfl⟩;simp only[execOp,LW,ah,Lz,QAa _ _ _ ab,ai b q,Nc]
   ·simp only[Lx]at h;obtain⟨b,q,rfl⟩:=h;refine⟨.bool !b,?_,.same _ rfl⟩;simp only[execOp,LW,ah,Lz,QAb _ _ _ ab,ai b q,Nc]
   cases h
  cases h
/-! ### Assertions of types -/
end
section
variable {P:Program}
def Qa.ofFn (next:Nat)(f:Nat->Option Blk):Qa:=⟨next,(List.range next).foldl (λt id=>t.set id (f id)) .nil⟩
def Qr1 (f:Nat->Option Blk):∀ (l:List Nat) (t:Tr Blk) (id:Nat),(l.foldl (λt id=>t.set id (f id)) t).get id=if id∈l then f id else t.get id
 | [],t,id=>by simp
 | x::l,t,id=>by
  simp only[FQ];rw[Qr1 f l,Tr.get_set]
  by_cases q:id∈l;·simp[q]
  by_cases aa:id=x;·subst aa;simp
  simp[q,aa]
def Qa.get_ofFn (next:Nat)(f:Nat->Option Blk)(id:Nat):(Qa.ofFn next f).get id=if id<next then f id else none:=by
 unfold Qa.ofFn Qa.get;rw[Qr1];simp[Tr.get_nil]
def Qo4 (ρ ρ':Ren):Ren:=λid=>match ρ' id with | some i=>some i | none=>ρ id
def Jq {ρ ρ':Ren}{id:Nat}(h:ρ' id=none):Qo4 ρ ρ' id=ρ id:=by simp[Qo4,h]
def Y4 {ρ ρ':Ren}{id:Nat}{i:Zv}(h:ρ' id=some i):Qo4 ρ ρ' id=some i:=by simp[Qo4,h]
structure St0 (ρ:Ren) (H:Qa) (w:World) (ρ':Ren) (H':Qa) (w':World):Prop where
 mono:Sub ρ ρ'
 y:H.y<=H'.y
 dead:∀id i,ρ id=some i->H.get id=none->H'.get id=none
 ro:∀id i b b',ρ id=some i->H.get id=some b->b.ro=true->H'.get id=some b'->b'.ro=true
 fresh:∀id i,ρ' id=some i->ρ id=none->w.heap.size<=i.at_.block∨∃id0 i0 b0,ρ id0=some i0∧i0.at_.block=i.at_.block∧H.get id0=some b0∧b0.ro=false
 os:w'.os=w.os
 tape:w'.tape=w.tape
 output:w'.output=w.output
 size:w.heap.size<=w'.heap.size
 frame:∀b,b<w.heap.size->(∀id i bl,ρ id=some i->H.get id=some bl->bl.ro=false->i.at_.block≠b)->w'.heap[b]? = w.heap[b]?
def St.to0 {ρ ρ':Ren}{H H':Qa}{w w':World}(h:St ρ H w ρ' H' w'):St0 ρ H w ρ' H' w':=
 ⟨h.mono,h.y,h.dead,h.ro,λid i a b=>(h.fresh id i a b).2,h.os,h.tape,h.output,h.size,h.frame⟩
def St0.full {ρ ρ':Ren}{H H':Qa}{w w':World}(h:St0 ρ H w ρ' H' w')(q:∀id i,ρ' id=some i->ρ id=none->H.y<=id):St ρ H w ρ' H' w':=
 ⟨h.mono,h.y,h.dead,h.ro,λid i a b=>⟨q id i a b,h.fresh id i a b⟩,h.os,h.tape,h.output,h.size,h.frame⟩
def St0.owned {ρ:Ren}{H:Qa}{w:World}{ρ':Ren}{H':Qa}{w':World}(h:St0 ρ H w ρ' H' w'){id:Nat}{i:Zv}{bl:Blk}
  (ad:ρ' id=some i) (ab:H'.get id=some bl) (ae:bl.ro=false):
  w.heap.size<=i.at_.block∨∃ag q b0,ρ ag=some q∧q.at_.block=i.at_.block∧H.get ag=some b0∧b0.ro=false:=by
 cases aa:ρ id with
 | none=>exact h.fresh id i ad aa
 | some q=>
  have:q=i:=by have:=h.mono id q aa;rw[ad]at this;cases this;rfl
  subst this;cases ac:H.get id with
  | none=>rw[h.dead id q aa ac]at ab;cases ab
  | some b0=>
   refine .inr ⟨id,q,b0,aa,rfl,ac,?_⟩;cases ah:b0.ro with
   | false=>rfl
   | true=>rw[h.ro id q b0 bl aa ac ah ab]at ae;cases ae
def St0.trans {ρ ρ1 ρ2:Ren}{H H1 H2:Qa}{w ak am:World}(a:St0 ρ H w ρ1 H1 ak)(b:St0 ρ1 H1 ak ρ2 H2 am):St0 ρ H w ρ2 H2 am where
 mono:=a.mono.trans b.mono
 y:=N8 a.y b.y
 dead:=λid i h h'=>b.dead id i (a.mono _ _ h) (a.dead id i h h')
 ro:=λid i bl an h ab q aa=>by
  cases ac:H1.get id with
  | none=>rw[b.dead id i (a.mono _ _ h) ac]at aa;cases aa
  | some b1=>exact b.ro id i b1 an (a.mono _ _ h) ac (a.ro id i bl b1 h ab q ac) aa
 fresh:=λid i h h'=>by
  cases ad:ρ1 id with
  | some ae=>
   have:ae=i:=by have:=b.mono id ae ad;rw[h]at this;cases this;rfl
   subst this;exact a.fresh id ae ad h'
  | none=>
   rcases b.fresh id i h ad with q | ⟨aj,ai,b0,e1,e2,e3,e4⟩;·exact .inl (N8 a.size q)
   rw[<- e2];exact a.owned e1 e3 e4
 os:=b.os.trans a.os
 tape:=b.tape.trans a.tape
 output:=b.output.trans a.output
 size:=N8 a.size b.size
 frame:=λbk ag ah=>by
  rw[b.frame bk (N5 ag a.size) ?_,a.frame bk ag ah];intro id i bl ab q aa e;rcases a.owned ab q aa with h | ⟨aj,ai,b0,e1,e2,e3,e4⟩;·omega
  exact ah aj ai b0 e1 e3 e4 (e2.trans e)
def Qn (ρ1:Ren)(G h h':Qa)(id:Nat):Option Blk:=
 if id<h.y then(match ρ1 id,h.get id with | some _,some _=>h'.get id | _,_=>G.get id) else if id<h'.y then h'.get id else G.get id
def Qo5 (ρ1:Ren)(G h h':Qa):Qa:=Qa.ofFn (max G.y h'.y) (Qn ρ1 G h h')
def KQ {ρ1:Ren}{G h h':Qa}{id:Nat}(q:id<max G.y h'.y):(Qo5 ρ1 G h h').get id=Qn ρ1 G h h' id:=by
 unfold Qo5;rw[Qa.get_ofFn,Lc q]
def Qo6 {ρ1:Ren}{G h h':Qa}{id:Nat}{i:Zv}{b:Blk}(q:id<h.y)(aa:ρ1 id=some i)(ab:h.get id=some b):Qn ρ1 G h h' id=h'.get id:=by
 simp[Qn,q,aa,ab]
def Qr2 {ρ1:Ren}{G h h':Qa}{id:Nat}(q:h.y<=id)(aa:id<h'.y):Qn ρ1 G h h' id=h'.get id:=by
 simp[Qn,Nat.not_lt.2 q,aa]
def Qr3 {ρ1:Ren}{G h h':Qa}{id:Nat}(q:h.y<=id)(aa:h'.y<=id):Qn ρ1 G h h' id=G.get id:=by
 simp[Qn,Nat.not_lt.2 q,Nat.not_lt.2 aa]
def Qi5 {ρ1:Ren}{G h h':Qa}{id:Nat}(aa:id<h.y)(q:ρ1 id=none∨h.get id=none):Qn ρ1 G h h' id=G.get id:=by
 unfold Qn;rw[Lc aa];rcases q with q | q<;>rw[q]<;>(try (cases ρ1 id))<;>rfl
def G8 {ρ ρ1 ρ':Ren}{G h h':Qa}{w w':World}(sub:Sub ρ1 ρ)(ah:Sim P ρ1 h w)
  (ak:∀id,h.y<=id->id<h'.y->ρ id=none) (step:St ρ1 h w ρ' h' w') (ai:Sim P ρ' h' w') {id:Nat} {i:Zv} {b:Blk} (hi:Qo4 ρ ρ' id=some i) (q:Qn ρ1 G h h' id=some b):
  (ρ' id=some i∧h'.get id=some b∧((∃b0,ρ1 id=some i∧h.get id=some b0)∨(ρ1 id=none∧ρ id=none)))∨(ρ id=some i∧G.get id=some b∧(ρ1 id=none∨h.get id=none)):=by
 have ae:∀j,ρ' id=some j->i=j:=λj aj=>by rw[Y4 aj]at hi;cases hi;rfl
 by_cases aa:id<h.y
 ·cases e1:ρ1 id with
  | none=>
   rw[Qi5 aa (.inl e1)]at q;have:ρ' id=none:=by
    cases e:ρ' id with
    | none=>rfl
    | some j=>have:=(step.fresh id j e e1).1;omega
   rw[Jq this]at hi;exact .inr ⟨hi,q,.inl rfl⟩
  | some ag=>
   have ac:=step.mono id ag e1;obtain rfl:=ae ag ac;cases e2:h.get id with
   | none=>
    rw[Qi5 aa (.inr e2)]at q;exact .inr ⟨sub id i e1,q,.inr rfl⟩
   | some b0=>
    rw[Qo6 aa e1 e2]at q;exact .inl ⟨ac,q,.inl ⟨b0,rfl,rfl⟩⟩
 have e1:ρ1 id=none:=by
  cases e:ρ1 id with
  | none=>rfl
  | some j=>have:=ah.dom id j e;omega
 by_cases ab:id<h'.y
 ·rw[Qr2 (by omega) ab]at q;have ad:=ak id (by omega) ab;cases e:ρ' id with
  | none=>rw[Jq e,ad]at hi;cases hi
  | some j=>obtain rfl:=ae j e;exact .inl ⟨rfl,q,.inr ⟨e1,ad⟩⟩
 rw[Qr3 (by omega) (by omega)]at q;have:ρ' id=none:=by
  cases e:ρ' id with
  | none=>rfl
  | some j=>have:=ai.dom id j e;omega
 rw[Jq this]at hi;exact .inr ⟨hi,q,.inl e1⟩
def Qw1 {ρ ρ1 ρ':Ren}{G h h':Qa}{w w':World}(aj:Sim P ρ G w)(sub:Sub ρ1 ρ)(ay:Sim P ρ1 h w)(ap:∀id i b,ρ1 id=some i->h.get id=some b->G.get id=some b)
  (av:∀id,h.y<=id->id<h'.y->ρ id=none) (step:St ρ1 h w ρ' h' w') (ag:Sim P ρ' h' w'):
  St0 ρ G w (Qo4 ρ ρ') (Qo5 ρ1 G h h') w'∧Sim P (Qo4 ρ ρ') (Qo5 ρ1 G h h') w'∧
   (∀id i b,ρ id=some i->G.get id=some b->(ρ1 id=none∨h.get id=none)->w'.heap[i.at_.block]? = w.heap[i.at_.block]?):=by
 have ar:Sub ρ (Qo4 ρ ρ'):=λid i hi=>by
  cases e:ρ' id with
  | none=>rw[Jq e];exact hi
  | some j=>
   rw[Y4 e];cases e1:ρ1 id with
   | some ah=>have:=step.mono id ah e1;rw[e]at this;cases this;have:=sub id j e1;rw[hi]at this;exact this.symm
   | none=>
    have aL:=(step.fresh id j e e1).1;have q:=ag.dom id j e;rw[av id aL q]at hi;cases hi
 have aP:Sub ρ' (Qo4 ρ ρ'):=λid i hi=>Y4 hi;have aK:∀id i b,ρ id=some i->G.get id=some b->(ρ1 id=none∨h.get id=none)->w'.heap[i.at_.block]? = w.heap[i.at_.block]? := λid i b hi q ak=>
  step.frame _ (aj.live id b i q hi).lt (λau ah bl a1 a2 a3 a4=>by
   have aE:au≠id:=λe=>by subst e;rcases ak with ak | ak;(rw[ak]at a1;cases a1);(rw[ak]at a2;cases a2)
   exact aj.sep au id bl b ah i (ap au ah bl a1 a2) q (sub _ _ a1) hi a3 aE a4)
 have az:∀id i,Qo4 ρ ρ' id=some i->id<max G.y h'.y:=λid i hi=>by
  cases e:ρ' id with
  | none=>rw[Jq e]at hi;have:=aj.dom id i hi;omega
  | some j=>have:=ag.dom id j e;omega
 refine⟨⟨ar,Nat.le_max_left _ _,λid i hi an=>?_,λid i b b' hi an aJ q=>?_,λid i hi aA=>?_,step.os,step.tape,step.output,step.size,λbk aN aA=>?_⟩,⟨az,λid b i q hi=>?_,λau aG b1 b2 ah aF g1 g2 g3 g4 aD aI=>?_,λg an=>?_⟩,aK⟩
 ·rw[KQ (az id i (ar id i hi))];cases q:Qn ρ1 G h h' id with
  | none=>rfl
  | some b=>
   rcases G8 sub ay av step ag (ar id i hi) q with⟨_,_,⟨b0,e1,e2⟩ | ⟨_,e2⟩⟩ | ⟨_,e2,_⟩;·rw[ap id i b0 e1 e2]at an;cases an
   ·rw[hi]at e2;cases e2
   rw[an]at e2;cases e2
 ·rw[KQ (az id i (ar id i hi))]at q;rcases G8 sub ay av step ag (ar id i hi) q with⟨_,e0,⟨b0,e1,e2⟩ | ⟨_,e2⟩⟩ | ⟨_,e2,_⟩;·have:=ap id i b0 e1 e2;rw[an]at this;cases this;exact step.ro id i b b' e1 e2 aJ e0
  ·rw[hi]at e2;cases e2
  rw[an]at e2;cases e2;exact aJ
 ·cases e:ρ' id with
  | none=>rw[Jq e,aA]at hi;cases hi
  | some j=>
   rw[Y4 e]at hi;cases hi;have e1:ρ1 id=none:=by
    cases e1:ρ1 id with
    | none=>rfl
    | some ah=>rw[sub id ah e1]at aA;cases aA
   rcases(step.fresh id i e e1).2 with aq | ⟨aa,ab,b0,a1,a2,a3,a4⟩;·exact .inl aq
   exact .inr ⟨aa,ab,b0,sub _ _ a1,a2,ap aa ab b0 a1 a3,a4⟩
 ·exact step.frame bk aN (λid i bl a1 a2 a3=>aA id i bl (sub _ _ a1) (ap id i bl a1 a2) a3)
 ·rw[KQ (az id i hi)]at q;rcases G8 sub ay av step ag hi q with⟨e0,e1,_⟩ | ⟨e0,e1,e2⟩;·exact(ag.live id b i e1 e0).mono aP rfl
  exact(aj.live id b i e1 e0).mono ar (aK id i b e0 e1 e2)
 ·rw[KQ (az au ah g3)]at g1;rw[KQ (az aG aF g4)]at g2;have aH:∀ {ac am:Nat} {ai ib:Zv} {aC bb:Blk},ρ' ac=some ai->h'.get ac=some aC->((∃b0,ρ1 ac=some ai∧h.get ac=some b0)∨(ρ1 ac=none∧ρ ac=none))->ρ am=some ib->G.get am=some bb->(ρ1 am=none∨h.get am=none)->(aC.ro=false∨bb.ro=false)->ai.at_.block≠ib.at_.block:=by
   intro ac am ai ib aC bb ao aw aB ad ae ax aQ;have aR:=(aj.live am bb ib ae ad).lt;have aE:∀aa ab b0,ρ1 aa=some ab->h.get aa=some b0->aa≠am:=λaa ab b0 r1 r2 e=>by subst e;rcases ax with ak | ak;(rw[ak]at r1;cases r1);(rw[ak]at r2;cases r2)
   have own:(∃aa ab b0,ρ1 aa=some ab∧ab.at_.block=ai.at_.block∧h.get aa=some b0∧b0.ro=false)->ai.at_.block≠ib.at_.block:=fun⟨aa,ab,b0,r1,r2,r3,r4⟩=>by
    rw[<- r2];exact aj.sep aa am b0 bb ab ib (ap aa ab b0 r1 r3) ae (sub _ _ r1) ad r4 (aE aa ab b0 r1 r3)
   rcases aB with⟨b0,r1,r2⟩ | ⟨r1,r2⟩
   ·by_cases q:bb.ro=false;·exact λe=>aj.sep am ac bb b0 ib ai ae (ap ac ai b0 r1 r2) ad (sub _ _ r1) q (λe=>aE ac ai b0 r1 r2 e.symm) e.symm
    have aM:aC.ro=false:=aQ.resolve_right q;rcases step.owned ao aw aM with aq | aq;·omega
    exact own aq
   rcases(step.fresh ac ai ao r1).2 with aq | aq;·omega
   exact own aq
  rcases G8 sub ay av step ag g3 g1 with⟨ao,aw,aB⟩ | ⟨ao,aw,aB⟩
  ·rcases G8 sub ay av step ag g4 g2 with⟨ad,ae,ax⟩ | ⟨ad,ae,ax⟩;·exact ag.sep au aG b1 b2 ah aF aw ae ao ad aD aI
   exact aH ao aw aB ad ae ax (.inl aD)
  rcases G8 sub ay av step ag g4 g2 with⟨ad,ae,ax⟩ | ⟨ad,ae,ax⟩;·exact λe=>aH ad ae ax ao aw aB (.inr aD) e.symm
  exact aj.sep au aG b1 b2 ah aF aw ae ao ad aD aI
 obtain⟨j,aO,e⟩:=aj.glob g an;exact⟨j,ar _ _ aO,e⟩
end
/-! ### What is QF: QL -/
def QBJ (q:List Nat)(es:List Edge):Nat:=es.foldl (λs e=>bif Region.binds .any e then s ||| (2 ^ e.on ||| q.getD e.on 0) else s) 0
def QL:List Oper->List Nat->List Nat
 | [],acc=>acc
 | o::l,acc=>QL l (acc++[QBJ acc o.after.toList])
def QlX (ops:Array Oper)(L:Nat->Prop):Prop:=∀ (i:Nat),L i->∀o,ops[i]? = some o->∀e∈o.after,Region.binds .any e=true->L e.on
def Qm8 {ops:Array Oper}{L:Nat->Prop}(an:QlX ops L)(ab:List Nat)(aj:∀j m,ab[j]? = some m->L j->∀k,m.testBit k=true->L k):
  ∀ (es:List Edge),(∀e∈es,Region.binds .any e=true->L e.on)->∀k,(QBJ ab es).testBit k=true->L k:=by
 intro es ak k q;have key:∀ (es:List Edge) (s:Nat),(∀e∈es,Region.binds .any e=true->L e.on)->(∀k,s.testBit k=true->L k)->∀k,(es.foldl (λs e=>bif Region.binds .any e then s ||| (2 ^ e.on ||| ab.getD e.on 0) else s) s).testBit k=true->L k:=by
  intro es
  induction es with
  | nil=>intro s _ ac k q;exact ac k q
  | cons e es am=>
   intro s ai ac k q;simp only[FQ]at q;refine am _ (λe' h'=>ai e' (by simp[h'])) ?_ k q;intro ad aa;cases ae:Region.binds .any e with
   | false=>rw[ae]at aa;exact ac ad aa
   | true=>
    rw[ae]at aa;have ah:=ai e (by simp) ae;simp only[Lq,Nat.testBit_or,Nw]at aa;rcases aa with h | h | h;·exact ac ad h
    ·rw[Nat.testBit_two_pow]at h;have:e.on=ad:=by simpa using h
     rw[<- this];exact ah
    cases ag:ab[e.on]? with
    | none=>simp[List.getD,ag]at h
    | some m=>simp only[List.getD,ag,NB]at h;exact aj e.on m ag ah ad h
 exact key es 0 ak (λk h=>by simp at h) k q
def Qo7 {ops:Array Oper}{L:Nat->Prop}(ab:QlX ops L):∀ (l:List Oper) (q:List Nat),(∀j o,l[j]? = some o->ops[q.length+j]? = some o)->(∀j m,q[j]? = some m->L j->∀k,m.testBit k=true->L k)->
  ∀j m,(QL l q)[j]? = some m->L j->∀k,m.testBit k=true->L k
 | [],q,_,hacc=>hacc
 | o::l,q,hops,hacc=>by
  simp only[QL];refine Qo7 ab l _ (λj o' h=>by have:=hops (j+1) o' (by simpa using h);simpa[Rh,Nat.add_comm 1 j] using this) ?_;intro j m aa ac k ad
  by_cases ak:j<q.length;·rw[LY ak]at aa;exact hacc j m aa ac k ad
  rw[LR (by omega)]at aa;have ai:j - q.length=0:=by
   cases ag:j - q.length with
   | zero=>rfl
   | succ d=>rw[ag]at aa;simp at aa
  rw[ai]at aa;simp at aa;subst aa;have aj:j=q.length:=by omega
  subst aj;exact Qm8 ab q hacc o.after.toList (λe ah ae=>ab q.length ac o (by simpa using hops 0 o rfl) e (by simpa using ah) ae) k ad
def QF (ms:List Nat)(i j:Nat):Bool:=Nat.testBit (ms.getD j 0) i
def Qer {ops:Array Oper}{L:Nat->Prop}(aa:QlX ops L){i j:Nat}(h:QF (QL ops.toList []) i j=true)(ab:L j):L i:=by
 unfold QF at h;cases q:(QL ops.toList [])[j]? with
 | none=>simp[List.getD,q]at h
 | some m=>
  simp only[List.getD,q,NB]at h;exact Qo7 aa ops.toList [] (λj o h=>by simpa using h) (λj m h=>by simp at h) j m q ab i h
def QuT {ops:Array Oper}(ae:∀ (i:Nat) (o:Oper),ops[i]? = some o->∀e∈o.after,Region.binds .any e=true->e.on<i):∀ (l:List Oper) (q:List Nat),(∀ (j:Nat) (o:Oper),l[j]? = some o->ops[q.length+j]? = some o)->(∀ (j:Nat) (m:Nat),q[j]? = some m->∀k,Nat.testBit m k=true->k<j)->
  ∀ (j:Nat) (m:Nat),(QL l q)[j]? = some m->∀k,Nat.testBit m k=true->k<j
 | [],q,_,hacc=>hacc
 | o::l,q,hops,hacc=>by
  simp only[QL];refine QuT ae l _ (λj o' h=>by have:=hops (j+1) o' (by simpa using h);simpa[Rh,Nat.add_comm 1 j] using this) ?_;intro j m aa k ab
  by_cases ak:j<q.length;·rw[LY ak]at aa;exact hacc j m aa k ab
  rw[LR (by omega)]at aa;have ah:j - q.length=0:=by
   cases ag:j - q.length with
   | zero=>rfl
   | succ d=>rw[ag]at aa;simp at aa
  rw[ah]at aa;simp at aa;subst aa;have ai:j=q.length:=by omega
  subst ai;refine Qm8 (ops:=ops) (L:=λk=>k<q.length) (λi hi o' am e ad ac=>by have:=ae i o' am e ad ac;omega) q (λj m aj aa k ab=>by have:=hacc j m aj k ab;omega) o.after.toList (λe ad ac=>ae q.length o (by simpa using hops 0 o rfl) e (by simpa using ad) ac) k ab
def Qw2 {ops:Array Oper}(aa:∀ (i:Nat) (o:Oper),ops[i]? = some o->∀e∈o.after,Region.binds .any e=true->e.on<i){i j:Nat}(h:QF (QL ops.toList []) i j=true):i<j:=by
 unfold QF at h;cases q:(QL ops.toList [])[j]? with
 | none=>simp[List.getD,q]at h
 | some m=>
  simp only[List.getD,q,NB]at h;exact QuT aa ops.toList [] (λj o h=>by simpa using h) (λj m h=>by simp at h) j m q i h
/-! ### The check by text -/
def looks (ops:Array Oper)(o:Oper):List Nat:=
 (o.op.operands.toList.filterMap λ| .tmp t=>some t | _=>none)++(match o.guard with | some (j,_)=>(G5 ops j).toList | none=>[])
def QcY (ops:Array Oper)(gen:Nat->Bool):Bool:=
 let ms:=QL ops.toList []
 (List.range ops.size).all λj=>
  match ops[j]? with
  | none=>true
  | some o=>
   o.after.all (λe=>!(Region.binds .any e)||Nat.blt e.on j) &&
   (match o.op with | .select .. => false | _=>true) &&
   (List.range ops.size).all λi=>
    match ops[i]? with
    | none=>true
    | some q=>
     (Nat.beq i j||(match q.dst with | some t=>!((looks ops o).contains t||o.dst==some t) | none=>true)||(if i<j then QF ms i j else QF ms j i)) &&
     (!(gen i&&gen j&&Nat.blt i j)||QF ms i j)
/-! ### Values below a bound -/
def Ww (ρ:Ren)(m:Nat):Ren:=λid=>if id<m then ρ id else none
def QlY (ρ:Ren)(m:Nat):Sub (Ww ρ m) ρ:=λid i h=>by
 unfold Ww at h;split at h;·exact h
 cases h
def Qgh {ρ ρ':Ren}{m q:Nat}(aa:Sub ρ ρ')(h:m<=q):Sub (Ww ρ m) (Ww ρ' q):=λid i hi=>by
 unfold Ww at hi ⊢;split at hi;·rw[Lc (by omega)];exact aa id i hi
 cases hi
def Xb {ρ:Ren}{m id:Nat}{i:Zv}(h:Ww ρ m id=some i):id<m∧ρ id=some i:=by
 unfold Ww at h;split at h;·exact⟨‹_›,h⟩
 cases h
def Yi {ρ:Ren}{m id:Nat}{i:Zv}(h:id<m)(h':ρ id=some i):Ww ρ m id=some i:=by
 unfold Ww;rw[Lc h];exact h'
def Qp (m:Nat):Nat->Value->Bool
 | 0,v=>plain v
 | f+1,v=>match v with
  | .pointer (some a)=>Nat.blt a.block m
  | .slice (some a) _ _=>Nat.blt a.block m
  | .map (some r)=>Nat.blt r m
  | .func fn xs ys=>(match fn with | .yield l=>Nat.blt l m | _=>true)&&xs.all (Qp m f)&&ys.all (Qp m f)
  | .iface _ v=>Qp m f v
  | .agg xs=>xs.all (Qp m f)
  | .tuple xs=>xs.all (Qp m f)
  | v=>plain v
def QBK {ρ:Ren}{m:Nat}:∀ (f:Nat) {v ad:Value},V ρ v ad->Qp m f v=true->V (Ww ρ m) v ad:=by
 intro f
 induction f with
 | zero=>
  intro v ad h q;rw[h.plain_eq q];exact .same _ q
 | succ f ai=>
  intro v ad h q;have ae:∀ {xs aa:Array Value},xs.all (Qp m f)=true->(∀ (j:Nat) x x',xs[j]? = some x->aa[j]? = some x'->V ρ x x')->∀ (j:Nat) x x',xs[j]? = some x->aa[j]? = some x'->V (Ww ρ m) x x':=λan aq j x x' e e'=>
   ai (aq j x x' e e') (B1.1 an x (BB e))
  cases h with
  | same v ap=>exact .same v ap
  | ptr id off i h=>exact .ptr id off i (Yi (by simpa[Qp] using q) h)
  | slice id off len cap ak i aj h ab ac am ag ah=>exact .slice id off len cap ak i aj (Yi (by simpa[Qp] using q) h) ab ac am ag ah
  | map id i h=>exact .map id i (Yi (by simpa[Qp] using q) h)
  | func fn xs ys aa ar ao ab ac ag ah=>
   simp only[Qp,Lm]at q;exact .func fn xs ys aa ar ao ab ac (ae q.1.2 ag) (ae q.2 ah)
  | yield l i h=>exact .yield l i (Yi (by simpa[Qp] using q) h)
  | iface t v ad h=>exact .iface t v ad (ai h (by simpa[Qp] using q))
  | agg xs aa ab ac=>exact .agg xs aa ab (ae (by simpa only[Qp] using q) ac)
  | tuple xs aa ab ac=>exact .tuple xs aa ab (ae (by simpa only[Qp] using q) ac)
/-! ### The run in the text's order -/
inductive Cls where
 | pure
 | load
 | alloc (b:Blk)
 | gen
def XW:Cls->Bool
 | .gen=>true
 | _=>false
def Yj (n:Nat)(ops:Array Oper)(A:Env)(o:Oper):Option Bool:=
 match o.guard with
 | none=>some true
 | some (j,want)=>match G5 ops j with
  | some t=>if t<n then(match A t with | .bool b=>some (b==want) | .tuple _=>some false | _=>none) else none
  | none=>none
section
variable (P:Program) (n:Nat) (ops:Array Oper) (As:Nat->Env) (Hs:Nat->Qa) (vs:Nat->Value) (cls:Nat->Cls)
def Qw3 (i:Nat)(o:Oper):Prop:=
 (Yj n ops (As i) o=some false∧vs i=undef∧Hs (i+1)=Hs i∧cls i=.pure) ∨
 (Yj n ops (As i) o=some true∧match cls i with
  | .pure=>Hs (i+1)=Hs i∧∀h,Qt P o (As i) h (vs i) h
  | .load=>Hs (i+1)=Hs i∧∃t x a,o.op=.load t x∧ev (As i) x=.pointer (some a)∧Yg P t a (Hs i)=some (vs i)∧
    ∀k,k<ops.size->XW (cls k)=true->QF (QL ops.toList []) i k=false->QF (QL ops.toList []) k i=false->Yg P t a (Hs k)=some (vs i)∧Yg P t a (Hs (k+1))=some (vs i)∧Qp (Hs i).y 6 (vs i)=true
  | .alloc b=>Hs (i+1)=(Hs i).push b∧(∀h,h.y=(Hs i).y->Qt P o (As i) h (vs i) (h.push b))∧
    ∀k,k<ops.size->i<k->XW (cls k)=true->QF (QL ops.toList []) i k=false->(Hs (k+1)).get (Hs i).y=(Hs k).get (Hs i).y
  | .gen=>Qt P o (As i) (Hs i) (vs i) (Hs (i+1)))
structure ZU:Prop where
 env:∀ (i:Nat) (o:Oper),ops[i]? = some o->As (i+1)=JQ (As i) o.dst (vs i)
 y:∀i,i<ops.size->(Hs i).y<=(Hs (i+1)).y
 ok:∀ (i:Nat) (o:Oper),ops[i]? = some o->QfV P n o=true
 step:∀ (i:Nat) (o:Oper),ops[i]? = some o->Qw3 P n ops As Hs vs cls i o
 check:QcY ops (λi=>XW (cls i))=true
end
section
variable {P:Program} {n:Nat} {ops:Array Oper} {As:Nat->Env} {Hs:Nat->Qa} {vs:Nat->Value} {cls:Nat->Cls}
def ZU.next_le (F:ZU P n ops As Hs vs cls){i j:Nat}(aa:i<=j)(ab:j<=ops.size):(Hs i).y<=(Hs j).y:=by
 induction j with
 | zero=>
  obtain rfl:i=0:=by omega
  exact Lb _
 | succ j q=>
  by_cases e:i=j+1;·subst e;exact Lb _
  exact N8 (q (by omega) (by omega)) (F.y j (by omega))
def ZU.checked (F:ZU P n ops As Hs vs cls){i j:Nat}{ai aa:Oper}(hi:ops[i]? = some ai)(ag:ops[j]? = some aa):
  (∀e∈aa.after,Region.binds .any e=true->e.on<j)∧(∀cs b,aa.op≠.select cs b)∧
  (i≠j->∀t,ai.dst=some t->(t∈looks ops aa∨aa.dst=some t)->(i<j->QF (QL ops.toList []) i j=true)∧(j<i->QF (QL ops.toList []) j i=true))∧
  (XW (cls i)=true->XW (cls j)=true->i<j->QF (QL ops.toList []) i j=true):=by
 have am:i<ops.size:=(Nj.1 hi).1;have an:j<ops.size:=(Nj.1 ag).1;have ae:=F.check;unfold QcY at ae;simp only[Li,LU]at ae;have ac:=ae j an;rw[ag]at ac;simp only[Lm,Li,LU]at ac;obtain⟨⟨aj,ah⟩,av⟩:=ac;have ab:=av i am;rw[hi]at ab;simp only[Lm]at ab;refine⟨λe ak ad=>?_,λcs b e=>?_,λar t aw ao=>?_,λg1 g2 aq=>?_⟩;·have:=B1.1 aj e ak;simpa[ad] using this
 ·rw[e]at ah;cases ah
 ·have q:=ab.1;rw[aw]at q;have ap:((looks ops aa).contains t||aa.dst==some t)=true:=by
   rcases ao with h | h;·simp[h]
   simp[h]
  have au:Nat.beq i j=false:=by rw[Zw];simpa using ar
  simp only[ap,au,L8,Nt]at q;refine⟨λh=>by rw[Lc h]at q;exact q,λh=>by rw[Le (by omega)]at q;exact q⟩
 have q:=ab.2;have ad:Nat.blt i j=true:=by simpa using aq
 simpa[g1,g2,ad] using q
def ZU.quiet (F:ZU P n ops As Hs vs cls){k:Nat}{o:Oper}(ab:ops[k]? = some o)(aa:XW (cls k)=false){id:Nat}(ac:id<(Hs k).y):(Hs (k+1)).get id=(Hs k).get id:=by
 rcases F.step k o ab with⟨_,_,h,_⟩ | ⟨_,h⟩;·rw[h]
 cases q:cls k with
 | pure=>rw[q]at h;simp only at h;rw[h.1]
 | load=>rw[q]at h;simp only at h;rw[h.1]
 | alloc b=>rw[q]at h;simp only at h;rw[h.1,Qc,Le (by omega)]
 | gen=>rw[q]at aa;cases aa
def L (q:Array Bool)(i:Nat):Prop:=q.getD i false=true
structure Inv (P:Program) (n:Nat) (ops:Array Oper) (As:Nat->Env) (Hs:Nat->Qa) (cls:Nat->Cls) (d0:List Deferred) (ρ0:Ren) (w0:World) (listed:Array Bool) (a:Act) (w:World) (ρ:Ren) (G:Qa):Prop where
 size:listed.size=ops.size
 closed:QlX ops (L listed)
 st:St0 ρ0 (Hs 0) w0 ρ G w
 sim:Sim P ρ G w
 dom:∀id i,ρ id=some i->ρ0 id=some i∨∃k,k<ops.size∧L listed k∧(Hs k).y<=id∧id<(Hs (k+1)).y
 dom0:∀id i,ρ0 id=some i->id<(Hs 0).y
 glob0:∀g,g<P.globals.size->∃i,ρ0 g=some i∧i.at_=⟨g,0,none⟩
 blk:∀id i,ρ id=some i->∃q,q<=ops.size∧id<(Hs q).y∧G.get id=(Hs q).get id∧(∀b,G.get id=some b->WH P (Ww ρ (Hs q).y) i w b)∧
  (∀k,k<ops.size->XW (cls k)=true->L listed k->k<q∨(Hs (k+1)).get id=(Hs k).get id)∧
  (∀k,k<ops.size->XW (cls k)=true->¬L listed k->q<=k∨(Hs (k+1)).y<=id)∧
  (q=0∨∃k,k<ops.size∧L listed k∧q=k+1∧(XW (cls k)=true∨(Hs k).y<=id))
 defers:a.defers=d0
 tsize:a.tmps.size=n
 tmps:∀t,t<n->∃r,r<=ops.size∧V (Ww ρ (Hs r).y) (As r t) (a.tmps.getD t undef)∧
  (∀ (k:Nat) (o:Oper),ops[k]? = some o->o.dst=some t->L listed k->k<r)∧(∀ (k:Nat) (o:Oper),ops[k]? = some o->o.dst=some t->¬L listed k->r<=k)∧
  (r=0∨∃ (k:Nat) (o:Oper),ops[k]? = some o∧o.dst=some t∧L listed k∧r=k+1)
section
variable {d0:List Deferred} {ρ0:Ren} {w0:World} {listed:Array Bool} {a:Act} {w:World} {ρ:Ren} {G:Qa}
structure Rdy (ops:Array Oper) (listed:Array Bool) (i:Nat) (o:Oper):Prop where
 at_:ops[i]? = some o
 not:¬L listed i
 pre:∀k,QF (QL ops.toList []) k i=true->L listed k
 post:∀k,QF (QL ops.toList []) i k=true->¬L listed k
 ed:∀e∈o.after,Region.binds .any e=true->L listed e.on
def QuU (F:ZU P n ops As Hs vs cls){t:Nat}:∀ {i j:Nat},i<=j->j<=ops.size->(∀ (k:Nat) (o:Oper),i<=k->k<j->ops[k]? = some o->o.dst≠some t)->As j t=As i t:=by
 intro i j
 induction j with
 | zero=>
  intro h _ _;obtain rfl:i=0:=by omega
  rfl
 | succ j ah=>
  intro h aj aa
  by_cases e:i=j+1;·subst e;rfl
  have ae:j<ops.size:=by omega
  have q:ops[j]? = some ops[j]:=Ng ae;have ag:=aa j ops[j] (by omega) (by omega) q;rw[F.env j _ q];have:JQ (As j) ops[j].dst (vs j) t=As j t:=by
   cases ad:ops[j].dst with
   | none=>rfl
   | some d=>
    have:t≠d:=λe=>ag (by rw[ad,e]);exact Qem _ _ this
  rw[this];exact ah (by omega) (by omega) (λk o ab ai ac=>aa k o ab (by omega) ac)
def Inv.slot (F:ZU P n ops As Hs vs cls)(I:Inv P n ops As Hs cls d0 ρ0 w0 listed a w ρ G){i:Nat}{o:Oper}(R:Rdy ops listed i o){t:Nat}(am:t<n)(ac:t∈looks ops o):
  V (Ww ρ (Hs i).y) (As i t) (a.tmps.getD t undef):=by
 have ap:i<ops.size:=(Nj.1 R.at_).1;obtain⟨r,au,an,ae,ao,ag⟩:=I.tmps t am;have ad:r<=i:=by
  rcases ag with rfl | ⟨k,ok,aa,q,ab,rfl⟩;·omega
  by_cases ar:k<i;·omega
  exfalso;have ai:k≠i:=λe=>R.not (e▸ab);have:=((F.checked aa R.at_).2.2.1 ai t q (.inl ac)).2 (by omega);exact R.post k this ab
 have ak:As i t=As r t:=QuU F ad (by omega) (λk ok aq ah aa q=>by
  have aj:=((F.checked aa R.at_).2.2.1 (by omega) t q (.inl ac)).1 ah;have:=ae k ok aa q (R.pre k aj);omega)
 rw[ak];exact an.mono (Qgh (.refl ρ) (F.next_le ad (by omega)))
def Inv.operands (F:ZU P n ops As Hs vs cls)(I:Inv P n ops As Hs cls d0 ρ0 w0 listed a w ρ G){i:Nat}{o:Oper}(R:Rdy ops listed i o):Qm1 (Ww ρ (Hs i).y) o (As i) a:=by
 intro x hx;have ac:=F.ok i o R.at_;simp only[QfV,Lm]at ac;have aa:=B1.1 ac.2 x hx;cases x with
 | tmp t=>
  refine I.slot F R (by simpa[Qb8] using aa) ?_;unfold looks;refine List.mem_append_left _ (List.mem_filterMap.2 ⟨.tmp t,by simpa using hx,rfl⟩)
 | const v=>exact .closed aa
 | global q=>
  have ad:q<P.globals.size:=by simpa[Qb8] using aa
  obtain⟨j,ab,e⟩:=I.glob0 q ad;have ae:=I.st.mono q j ab;have ag:q<(Hs 0).y:=I.dom0 q j ab;have ah:i<ops.size:=(Nj.1 R.at_).1;have:=V.ptr (ρ:=Ww ρ (Hs i).y) q 0 j (Yi (N5 ag (F.next_le (L7 _) (by omega))) ae);rw[e]at this;exact this
 | func f=>exact .func _ _ _ _ _ rfl rfl rfl (λj x x' h=>by simp at h) (λj x x' h=>by simp at h)
def Qe8 {listed:Array Bool}{i k:Nat}(hi:i<listed.size):L (listed.setIfInBounds i true) k↔k=i∨L listed k:=by
 unfold L
 by_cases e:k=i;·subst e;simp[N0,hi]
 rw[N0,Bn (by omega),<- N0];simp[e]
def Inv.after (F:ZU P n ops As Hs vs cls)(I:Inv P n ops As Hs cls d0 ρ0 w0 listed a w ρ G){i:Nat}{o:Oper}(R:Rdy ops listed i o){ρ2:Ren}{G2:Qa}{w':World}{ak:Value}
  (ap:St0 ρ G w ρ2 G2 w') (aB:Sim P ρ2 G2 w') (aC:V (Ww ρ2 (Hs (i+1)).y) (vs i) ak) (ay:∀id j,ρ2 id=some j->ρ id=some j∨((Hs i).y<=id∧id<(Hs (i+1)).y))
  (aw:∀id j,ρ2 id=some j->∃q,q<=ops.size∧id<(Hs q).y∧G2.get id=(Hs q).get id∧(∀b,G2.get id=some b->WH P (Ww ρ2 (Hs q).y) j w' b)∧
   (∀k,k<ops.size->XW (cls k)=true->(k=i∨L listed k)->k<q∨(Hs (k+1)).get id=(Hs k).get id)∧
   (∀k,k<ops.size->XW (cls k)=true->k≠i->¬L listed k->q<=k∨(Hs (k+1)).y<=id)∧
   (q=0∨∃k,k<ops.size∧(k=i∨L listed k)∧q=k+1∧(XW (cls k)=true∨(Hs k).y<=id))):
  Inv P n ops As Hs cls d0 ρ0 w0 (listed.setIfInBounds i true) (a.put o.dst ak) w' ρ2 G2:=by
 have ao:i<ops.size:=(Nj.1 R.at_).1;have ac:i<listed.size:=by rw[I.size];exact ao
 have aL:=Qgd (F.ok i o R.at_);refine⟨by simp[I.size],λk ab ok aj e an am=>?_,I.st.trans ap,aB,λid j ah=>?_,I.dom0,I.glob0,λid j ah=>?_,?_,?_,λt aq=>?_⟩
 ·rw[Qe8 ac]at ab ⊢;rcases ab with rfl | ab;·rw[R.at_]at aj;cases aj;exact .inr (R.ed e an am)
  exact .inr (I.closed k ab ok aj e an am)
 ·rcases ay id j ah with h | ⟨au,av⟩
  ·rcases I.dom id j h with ar | ⟨k,k1,k2,k3,k4⟩;·exact .inl ar
   exact .inr ⟨k,k1,(Qe8 ac).2 (.inr k2),k3,k4⟩
  exact .inr ⟨i,ao,(Qe8 ac).2 (.inl rfl),au,av⟩
 ·obtain⟨q,aD,aE,aF,aG,aH,aI,aJ⟩:=aw id j ah;refine⟨q,aD,aE,aF,aG,λk ab ag aa=>aH k ab ag ((Qe8 ac).1 aa),λk ab ag aa=>?_,?_⟩;·rw[Qe8 ac]at aa;exact aI k ab ag (λe=>aa (.inl e)) (λe=>aa (.inr e))
  rcases aJ with h | ⟨k,k1,k2,k3,k4⟩;·exact .inl h
  exact .inr ⟨k,k1,(Qe8 ac).2 k2,k3,k4⟩
 ·have:=I.defers;cases o.dst<;>exact this
 ·have:=I.tsize;cases o.dst<;>simp[Act.put,this]
 by_cases ae:o.dst=some t
 ·refine⟨i+1,by omega,?_,λk ok ab ad aa=>?_,λk ok ab ad aa=>?_,.inr ⟨i,o,R.at_,ae,(Qe8 ac).2 (.inl rfl),rfl⟩⟩;·rw[F.env i o R.at_,ae];simp only[JQ,Qgb,Act.put];rw[N0,RC (by rw[I.tsize];exact aq)];exact aC
  ·rw[Qe8 ac]at aa;rcases aa with rfl | aa;·omega
   by_cases ai:k<i+1;·exact ai
   have:=((F.checked ab R.at_).2.2.1 (by omega) t ad (.inr ae)).2 (by omega);exact absurd aa (R.post k this)
  rw[Qe8 ac]at aa
  by_cases ai:i+1<=k;·exact ai
  have az:k≠i:=λe=>aa (.inl e);have:=((F.checked ab R.at_).2.2.1 az t ad (.inr ae)).1 (by omega);exact absurd (.inr (R.pre k this)) aa
 obtain⟨r,r1,r2,r3,r4,aK⟩:=I.tmps t aq;refine⟨r,r1,?_,λk ok ab ad aa=>?_,λk ok ab ad aa=>r4 k ok ab ad (λh=>aa ((Qe8 ac).2 (.inr h))),?_⟩
 ·have aA:(a.put o.dst ak).tmps.getD t undef=a.tmps.getD t undef:=by
   cases ax:o.dst with
   | none=>rfl
   | some d=>
    have:d≠t:=λe=>ae (by rw[ax,e]);simp only[Act.put];rw[N0,Bn this,<- N0]
  rw[aA];exact r2.mono (Qgh ap.mono (Lb _))
 ·rw[Qe8 ac]at aa;rcases aa with rfl | aa;·rw[R.at_]at ab;cases ab;exact absurd ad ae
  exact r3 k ok ab ad aa
 rcases aK with h | ⟨k,ok,k1,k2,k3,k4⟩;·exact .inl h
 exact .inr ⟨k,ok,k1,k2,(Qe8 ac).2 (.inr k3),k4⟩
def Inv.still (F:ZU P n ops As Hs vs cls)(I:Inv P n ops As Hs cls d0 ρ0 w0 listed a w ρ G){i:Nat}{o:Oper}(R:Rdy ops listed i o)(ae:XW (cls i)=false){ad:Value}(ai:V (Ww ρ (Hs (i+1)).y) (vs i) ad):
  Inv P n ops As Hs cls d0 ρ0 w0 (listed.setIfInBounds i true) (a.put o.dst ad) w ρ G:=by
 refine I.after F R ⟨.refl ρ,Lb _,λ_ _ _ h=>h,λ_ _ b b' _ h ah h'=>(by rw[h]at h';cases h';exact ah),λid i h h'=>(by rw[h']at h;cases h),rfl,rfl,rfl,Lb _,λ_ _ _=>rfl⟩ I.sim ai (λid j h=>.inl h) (λid j ag=>?_);obtain⟨q,aj,ak,am,an,ao,ap,aq⟩:=I.blk id j ag;refine⟨q,aj,ak,am,an,λk ac aa ab=>?_,λk ac aa _ ab=>ap k ac aa ab,?_⟩
 ·rcases ab with rfl | ab;·rw[ae]at aa;cases aa
  exact ao k ac aa ab
 rcases aq with h | ⟨k,k1,k2,k3,k4⟩;·exact .inl h
 exact .inr ⟨k,k1,.inr k2,k3,k4⟩
def Inv.frame (F:ZU P n ops As Hs vs cls)(I:Inv P n ops As Hs cls d0 ρ0 w0 listed a w ρ G){i:Nat}{o:Oper}(R:Rdy ops listed i o){h h':Qa}(aS:h.y=(Hs i).y)(aI:h'.y=(Hs (i+1)).y)
  (aX:Sim P (Ww ρ (Hs i).y) h w) (aO:∀id j b,Ww ρ (Hs i).y id=some j->h.get id=some b->G.get id=some b)
  (aV:∀id j b,Ww ρ (Hs i).y id=some j->h.get id=some b->h'.get id=(Hs (i+1)).get id∧XW (cls i)=true)
  (aT:∀id,(Hs i).y<=id->id<(Hs (i+1)).y->h'.get id=(Hs (i+1)).get id∧∀k,k<ops.size->i<k->XW (cls k)=true->L listed k->(Hs (k+1)).get id=(Hs k).get id)
  (aW:XW (cls i)=true->∀id j,ρ id=some j->id<(Hs i).y->h.get id=none->(Hs i).get id=none)
  {ρ':Ren} {w':World} {aN:Value} (aY:V ρ' (vs i) aN) (an:St (Ww ρ (Hs i).y) h w ρ' h' w') (am:Sim P ρ' h' w') (aP:XW (cls i)=true->∀id j,Ww ρ (Hs i).y id=some j->(Hs i).get id=none->(Hs (i+1)).get id=none):
  ∃ρ2 G2,Inv P n ops As Hs cls d0 ρ0 w0 (listed.setIfInBounds i true) (a.put o.dst aN) w' ρ2 G2:=by
 have az:i<ops.size:=(Nj.1 R.at_).1;have aJ:∀id,h.y<=id->id<h'.y->ρ id=none:=λid av aw=>by
  cases e:ρ id with
  | none=>rfl
  | some j=>
   rw[aS]at av;rw[aI]at aw;exfalso;rcases I.dom id j e with au | ⟨k,k1,k2,k3,k4⟩;·have:=I.dom0 id j au;have:=F.next_le (L7 i) (by omega);omega
   have aC:k≠i:=λe=>R.not (e▸k2);rcases Fa aC with aj | aR;·have:=F.next_le (show k+1<=i by omega) (by omega);omega
   have:=F.next_le (show i+1<=k by omega) (by omega);omega
 obtain⟨t1,t2,bm⟩:=Qw1 I.sim (QlY ρ _) aX aO aJ an am;have aE:Sub ρ' (Ww (Qo4 ρ ρ') (Hs (i+1)).y):=λid j ab=>Yi (by rw[<- aI];exact am.dom id j ab) (Y4 ab);refine⟨_,_,I.after F R t1 t2 (aY.mono aE) (λid j ab=>?_) (λid j ab=>?_)⟩
 ·cases e:ρ' id with
  | none=>rw[Jq e]at ab;exact .inl ab
  | some ai=>
   rw[Y4 e]at ab;cases ab;cases e1:Ww ρ (Hs i).y id with
   | some ag=>
    have:=an.mono id ag e1;rw[e]at this;cases this;exact .inl (Xb e1).2
   | none=>
    have av:=(an.fresh id j e e1).1;have aw:=am.dom id j e;exact .inr ⟨by omega,by omega⟩
 have aB:id<max G.y h'.y:=t2.dom id j ab;have aQ:∀k,k<ops.size->XW (cls i)=true->XW (cls k)=true->L listed k->k<i:=λk ae g1 g2 ac=>by
  rcases Dj k i with h | h | h;·exact h
  ·exact absurd (h▸ac) R.not
  have:=(F.checked R.at_ (Ng ae)).2.2.2 g1 g2 h;exact absurd ac (R.post k this)
 by_cases aK:∃ag b,Ww ρ (Hs i).y id=some ag∧h.get id=some b
 ·obtain⟨ag,b,e1,e2⟩:=aK;have aq:=an.mono id ag e1;have:ag=j:=by rw[Y4 aq]at ab;cases ab;rfl
  subst this;obtain⟨aG,ap⟩:=aV id ag b e1 e2;have aj:=(Xb e1).1;have ah:(Qo5 (Ww ρ (Hs i).y) G h h').get id=h'.get id:=by rw[KQ aB,Qo6 (by omega) e1 e2]
  refine⟨i+1,by omega,N5 aj (F.y i az),ah.trans aG,λb' ao=>?_,λk ae ad ac=>?_,λk ae ad aA ac=>?_,.inr ⟨i,az,.inl rfl,rfl,.inl ap⟩⟩;·rw[ah]at ao;exact(am.live id b' ag ao aq).mono aE rfl
  ·rcases ac with rfl | ac;·left;omega
   left;have:=aQ k ae ap ad ac;omega
  left;rcases Dj k i with aa | aa | aa;·have:=(F.checked (Ng ae) R.at_).2.2.2 ad ap aa;exact absurd (R.pre k this) ac
  ·exact absurd aa aA
  omega
 by_cases aD:(Hs i).y<=id∧id<(Hs (i+1)).y
 ·obtain⟨aF,aM⟩:=aD;obtain⟨aG,ap⟩:=aT id aF aM;have ak:=aJ id (by omega) (by omega);have aq:ρ' id=some j:=by
   cases e:ρ' id with
   | none=>rw[Jq e,ak]at ab;cases ab
   | some ai=>rw[Y4 e]at ab;exact ab
  have ah:(Qo5 (Ww ρ (Hs i).y) G h h').get id=h'.get id:=by rw[KQ aB,Qr2 (by omega) (by omega)]
  refine⟨i+1,by omega,aM,ah.trans aG,λb' ao=>?_,λk ae ad ac=>?_,λk ae ad aA ac=>?_,.inr ⟨i,az,.inl rfl,rfl,.inr aF⟩⟩;·rw[ah]at ao;exact(am.live id b' j ao aq).mono aE rfl
  ·rcases ac with rfl | ac;·left;omega
   rcases Nq i k with aa | aa;·right;exact ap k ae aa ad ac
   left;omega
  rcases Dj k i with aa | aa | aa;·right;exact N8 (F.next_le (show k+1<=i by omega) (by omega)) aF
  ·exact absurd aa aA
  left;omega
 ·-- as it was
  have aZ:∀ai,ρ' id=some ai->Ww ρ (Hs i).y id=some ai:=λai e=>by
   cases e1:Ww ρ (Hs i).y id with
   | some ag=>have:=an.mono id ag e1;rw[e]at this;exact this.symm
   | none=>
    exfalso;have av:=(an.fresh id ai e e1).1;have aw:=am.dom id ai e;exact aD ⟨by omega,by omega⟩
  have ak:ρ id=some j:=by
   cases e:ρ' id with
   | none=>rw[Jq e]at ab;exact ab
   | some ai=>rw[Y4 e]at ab;cases ab;exact(Xb (aZ j e)).2
  have ay:Ww ρ (Hs i).y id=none∨h.get id=none:=by
   cases e1:Ww ρ (Hs i).y id with
   | none=>exact .inl rfl
   | some ag=>
    cases e2:h.get id with
    | none=>exact .inr rfl
    | some b=>exact absurd ⟨ag,b,e1,e2⟩ aK
  have ah:(Qo5 (Ww ρ (Hs i).y) G h h').get id=G.get id:=by
   rw[KQ aB]
   by_cases aj:id<h.y;·exact Qi5 aj ay
   exact Qr3 (by omega) (by rcases Nq id h'.y with aa | aa;(exact absurd ⟨by omega,by omega⟩ aD);exact aa)
  obtain⟨q,ba,bc,bd,bg,bh,bi,bj⟩:=I.blk id j ak;refine⟨q,ba,bc,ah.trans bd,λb ax=>?_,λk ae ad ac=>?_,λk ae ad _ ac=>bi k ae ad ac,?_⟩;·rw[ah]at ax;exact(bg b ax).mono (Qgh t1.mono (Lb _)) (bm id j b ak ax ay)
  ·rcases ac with rfl | ac
   ·by_cases aj:id<(Hs k).y
    ·right;have aL:=Yi aj ak;have aU:h.get id=none:=by rcases ay with e | e;(rw[aL]at e;cases e);exact e
     have aH:=aW ad id j ak aj aU;rw[aH];exact aP ad id j aL aH
    left;rcases I.dom id j ak with au | ⟨ar,k1,k2,k3,k4⟩;·have:=I.dom0 id j au;have:=F.next_le (L7 k) (by omega);omega
    have aC:ar≠k:=λe=>R.not (e▸k2);have aR:k<ar:=by
     rcases Fa aC with aa | aa;·have:=F.next_le (show ar+1<=k by omega) (by omega);omega
     exact aa
    rcases Nq ar q with aa | aa;·omega
    have:=F.next_le aa (by omega);omega
   exact bh k ae ad ac
  rcases bj with aa | ⟨k,k1,k2,k3,k4⟩;·exact .inl aa
  exact .inr ⟨k,k1,.inr k2,k3,k4⟩
def Sim.empty {ρ:Ren}{w:World}{m:Nat}(q:∀id j,ρ id=some j->id<m)(aa:∀g,g<P.globals.size->∃j,ρ g=some j∧j.at_=⟨g,0,none⟩):Sim P ρ ⟨m,.nil⟩ w:=
 ⟨q,λid b j h=>by simp[Qa.get,Tr.get_nil]at h,λad ae b1 b2 ab ac h=>by simp[Qa.get,Tr.get_nil]at h,aa⟩
def Inv.globR (F:ZU P n ops As Hs vs cls)(I:Inv P n ops As Hs cls d0 ρ0 w0 listed a w ρ G){i:Nat}(hi:i<=ops.size):∀g,g<P.globals.size->∃j,Ww ρ (Hs i).y g=some j∧j.at_=⟨g,0,none⟩:=λg aa=>by
 obtain⟨j,q,e⟩:=I.glob0 g aa;exact⟨j,Yi (N5 (I.dom0 g j q) (F.next_le (L7 _) hi)) (I.st.mono g j q),e⟩
def Inv.now (F:ZU P n ops As Hs vs cls)(I:Inv P n ops As Hs cls d0 ρ0 w0 listed a w ρ G){i:Nat}{o:Oper}(R:Rdy ops listed i o)(ad:XW (cls i)=true){id:Nat}{j:Zv}(av:id<(Hs i).y)(aj:ρ id=some j):
  G.get id=(Hs i).get id∧∀b,G.get id=some b->WH P (Ww ρ (Hs i).y) j w b:=by
 have aw:i<ops.size:=(Nj.1 R.at_).1;obtain⟨q,ax,an,ao,ap,aq,ay,ar⟩:=I.blk id j aj;have ae:q<=i:=by
  rcases ar with rfl | ⟨k,k1,k2,rfl,k4⟩;·omega
  have ak:k≠i:=λe=>R.not (e▸k2);rcases Fa ak with aa | aa;·omega
  exfalso;rcases k4 with k4 | k4;·have:=(F.checked R.at_ (Ng k1)).2.2.2 ad k4 aa;exact R.post k this k2
  have:=F.next_le (show i<=k by omega) (by omega);omega
 have ag:∀r,q<=r->r<=i->(Hs r).get id=(Hs q).get id:=by
  intro r
  induction r with
  | zero=>
   intro ah _;obtain rfl:q=0:=by omega
   rfl
  | succ r am=>
   intro ah au
   by_cases e:q=r+1;·subst e;rfl
   have ac:r<ops.size:=by omega
   rw[<- am (by omega) (by omega)];cases ab:XW (cls r) with
   | false=>exact F.quiet (Ng ac) ab (N5 an (F.next_le (by omega) (by omega)))
   | true=>
    have:=(F.checked (Ng ac) R.at_).2.2.2 ab ad (by omega);rcases aq r ac ab (R.pre r this) with aa | aa;·omega
    exact aa
 refine⟨by rw[ao,ag i ae (Lb _)],λb ai=>(ap b ai).mono (Qgh (.refl ρ) (F.next_le ae (by omega))) rfl⟩
def Inv.run (F:ZU P n ops As Hs vs cls)(I:Inv P n ops As Hs cls d0 ρ0 w0 listed a w ρ G){i:Nat}{o:Oper}(R:Rdy ops listed i o){K:Act->World->Prop}{Q:Exit->Act->World->Prop}
  (ay:∀aX w' ρ' G',Inv P n ops As Hs cls d0 ρ0 w0 (listed.setIfInBounds i true) aX w' ρ' G'->K aX w') (z:Rd):wpOpIn (fen z) 0 P ops Q i K a w:=by
 have bA:i<ops.size:=(Nj.1 R.at_).1;have bj:∀b,Yj n ops (As i) o=some b->Region.wanted o (yielded ops a.tmps)=b:=λb aa=>by
  unfold Yj at aa;split at aa;·rename_i au;cases aa;simp[Region.wanted,au]
  rename_i j cc au;split at aa
  ·rename_i t av;split at aa
   ·rename_i aM;split at aa
    ·rename_i b0 aN;cases aa;have ab:=I.slot F R aM (by unfold looks;rw[au];simp[av]);rw[aN]at ab;have aC:t<a.tmps.size:=by rw[I.tsize];exact aM
     have aO:a.tmps[t]? = some (.bool b0):=by
      rw[N0,Ng aC]at ab;rw[Ng aC];simp only[NB]at ab;rw[ab.plain_eq rfl]
     have aU:yielded ops a.tmps j=some b0:=by
      unfold yielded;unfold G5 at av;rw[av];simp[aO]
     simp[Region.wanted,au,aU]
    ·rename_i cb aN;cases aa;have ab:=I.slot F R aM (by unfold looks;rw[au];simp[av]);rw[aN]at ab;obtain⟨bT,e1,_⟩:=ab.tuple_inv;have aC:t<a.tmps.size:=by rw[I.tsize];exact aM
     have aO:a.tmps[t]? = some (.tuple bT):=by
      rw[N0,Ng aC]at e1;rw[Ng aC];simpa using e1
     have aU:yielded ops a.tmps j=none:=by
      unfold yielded;unfold G5 at av;rw[av];simp[aO]
     simp[Region.wanted,au,aU]
    cases aa
   cases aa
  cases aa
 unfold wpOpIn;simp only[R.at_];rcases F.step i o R.at_ with⟨aT,ab,aj,ac⟩ | ⟨aT,ap⟩;·rw[Le (by rw[bj false aT];simp)];exact⟨λ_ _=>trivial,ay _ _ _ _ (I.still F R (by rw[ac];rfl) (by rw[ab];exact .closed (by simp[undef,X2])))⟩
 ·rw[Lc (bj true aT)];have aL:=I.operands F R;have aY:=I.globR F (Nat.le_of_lt bA);have aI:Sim P (Ww ρ (Hs i).y) ⟨(Hs i).y,.nil⟩ w:=Sim.empty (λid j h=>(Xb h).1) aY;have aK:∀id,Qa.get ⟨(Hs i).y,.nil⟩ id=none:=λid=>by simp[Qa.get,Tr.get_nil]
  cases ac:cls i with
  | pure=>
   rw[ac]at ap;obtain⟨aj,aQ⟩:=ap;refine aQ ⟨(Hs i).y,.nil⟩ (Ww ρ (Hs i).y) w a aI aL K Q (λaH ρ' w' ab aw aD=>?_) z;obtain⟨ρ2,G2,ax⟩:=I.frame F R (h:=⟨(Hs i).y,.nil⟩) (h':=⟨(Hs i).y,.nil⟩) rfl (by rw[aj]) aI (λid j b _ h=>by rw[aK]at h;cases h) (λid j b _ h=>by rw[aK]at h;cases h)
    (λid ar ai=>by rw[aj]at ai;omega) (λad=>by rw[ac]at ad;cases ad) ab aw aD (λad=>by rw[ac]at ad;cases ad)
   exact ay _ _ _ _ ax
  | alloc b=>
   rw[ac]at ap;obtain⟨aj,aQ,aE⟩:=ap;refine aQ ⟨(Hs i).y,.nil⟩ rfl (Ww ρ (Hs i).y) w a aI aL K Q (λaH ρ' w' ab aw aD=>?_) z;obtain⟨ρ2,G2,ax⟩:=I.frame F R (h:=⟨(Hs i).y,.nil⟩) (h':=Qa.push ⟨(Hs i).y,.nil⟩ b) rfl (by rw[aj];rfl) aI (λid j b _ h=>by rw[aK]at h;cases h) (λid j b _ h=>by rw[aK]at h;cases h)
    (λid ar ai=>by
     rw[aj]at ai;simp only[Qf]at ai;obtain rfl:id=(Hs i).y:=by omega
     refine⟨by rw[aj,Qc,Qc,Lc rfl,Lc rfl],λk aA az aJ aq=>?_⟩;refine aE k aA az aJ ?_;cases ah:QF (QL ops.toList []) i k with
     | false=>rfl
     | true=>exact absurd aq (R.post k ah))
    (λad=>by rw[ac]at ad;cases ad) ab aw aD (λad=>by rw[ac]at ad;cases ad)
   exact ay _ _ _ _ ax
  | gen=>
   rw[ac]at ap;have am:XW (cls i)=true:=by rw[ac];rfl
   have bi:Sim P (Ww ρ (Hs i).y) (Hs i) w:=by
    refine⟨λid j h=>(Xb h).1,λid b j aa ao=>?_,λbJ bK b1 b2 bH bI ar ai bp bq br bu=>?_,aY⟩;·obtain⟨e1,e2⟩:=Xb ao;obtain⟨bM,bN⟩:=I.now F R am e1 e2;exact bN b (by rw[bM];exact aa)
    obtain⟨e1,e2⟩:=Xb bp;obtain⟨e3,e4⟩:=Xb bq;exact I.sim.sep bJ bK b1 b2 bH bI (by rw[(I.now F R am e1 e2).1];exact ar) (by rw[(I.now F R am e3 e4).1];exact ai) e2 e4 br bu
   refine ap (Ww ρ (Hs i).y) w a bi aL K Q (λaH ρ' w' ab aw aD=>?_) z;obtain⟨ρ2,G2,ax⟩:=I.frame F R (h:=Hs i) (h':=Hs (i+1)) rfl rfl bi
    (λid j b ao aa=>by obtain⟨e1,e2⟩:=Xb ao;rw[(I.now F R am e1 e2).1];exact aa)
    (λid j b _ _=>⟨rfl,am⟩)
    (λid ar ai=>⟨rfl,λk aA az aJ aq=>by
     have:=(F.checked R.at_ (Ng aA)).2.2.2 am aJ az;exact absurd aq (R.post k this)⟩)
    (λ_ id j _ _ h=>h) ab aw aD (λ_ id j ao bx=>aw.dead id j ao bx)
   exact ay _ _ _ _ ax
  | load=>
   rw[ac]at ap;obtain⟨aj,t,x,bn,bd,bo,aq,aE⟩:=ap;have am:XW (cls i)=false:=by rw[ac];rfl
   have hx:=aL x (by rw[bd];simp[Op.operands]);rw[bo]at hx;obtain⟨bL,g1,g2,g3⟩:=hx.ptr_inv;obtain⟨id,off,ca⟩:=bn;simp only at g1 g2 g3;subst g2;obtain⟨b9,ao⟩:=Xb g1;obtain⟨q,bZ,bm,bO,bP,bQ,bR,bS⟩:=I.blk id bL ao;have aP:∀r aW:Nat,(Hs r).get id=(Hs aW).get id->Yg P t ⟨id,off,none⟩ (Hs r)=Yg P t ⟨id,off,none⟩ (Hs aW):=λr aW e=>by
    unfold Yg;rw[e]
   have aS:∀k,k<ops.size->XW (cls k)=true->(i<=k->L listed k)->(k<i->¬L listed k)->QF (QL ops.toList []) i k=false∧QF (QL ops.toList []) k i=false:=λk aA aJ ar ai=>by
    refine⟨?_,?_⟩
    ·cases ah:QF (QL ops.toList []) i k with
     | false=>rfl
     | true=>
      exfalso
      by_cases az:i<=k;·exact R.post k ah (ar az)
      have:=mask_lt F ah;omega
    cases ah:QF (QL ops.toList []) k i with
    | false=>rfl
    | true=>
     exfalso;have bV:=mask_lt F ah;have bg:=R.pre k ah;rcases Nq k i with ag | ag;·exact ai ag bg
     obtain rfl:k=i:=by omega
     exact R.not bg
   -- the value that is loaded is the same,wherever its block stands now
   have bB:Yg P t ⟨id,off,none⟩ (Hs q)=some (vs i)∧(q<=i∨Qp (Hs i).y 6 (vs i)=true):=by
    rcases Nat.le_total q i with bh | bh
    ·refine⟨?_,.inl bh⟩;have:∀m r,r+m=i->q<=r->Yg P t ⟨id,off,none⟩ (Hs r)=some (vs i):=by
      intro m
      induction m with
      | zero=>
       intro r aR _;obtain rfl:r=i:=by omega
       exact aq
      | succ m aV=>
       intro r aR bD;have ak:r<ops.size:=by omega
       have bc:=aV (r+1) (by omega) (by omega);cases ae:XW (cls r) with
       | false=>
        rw[<- aP (r+1) r (F.quiet (Ng ak) ae (N5 bm (F.next_le bD (by omega))))];exact bc
       | true=>
        by_cases aB:L listed r
        ·rcases bQ r ak ae aB with ag | ag;·omega
         rw[<- aP (r+1) r ag];exact bc
        obtain⟨aF,aG⟩:=aS r ak ae (by omega) (λ_=>aB);exact(aE r ak ae aF aG).1
     exact this (i - q) q (by omega) (Lb _)
    by_cases bE:q=i;·subst bE;exact⟨aq,.inl (Lb _)⟩
    have b8:∀r,r<ops.size->i<=r->r<q->XW (cls r)=true->L listed r:=λr aR bU bY ae=>by
     by_cases aB:L listed r;·exact aB
     exfalso;rcases bR r aR ae aB with ag | ag;·omega
     have:=F.next_le (show i<=r+1 by omega) (by omega);omega
    have key:∀m,i+m<=q->Yg P t ⟨id,off,none⟩ (Hs (i+m))=some (vs i):=by
     intro m
     induction m with
     | zero=>intro _;exact aq
     | succ m aV=>
      intro bW;have ak:i+m<ops.size:=by omega
      have bC:=aV (by omega);cases ae:XW (cls (i+m)) with
      | false=>
       have:=aP (i+m+1) (i+m) (F.quiet (Ng ak) ae (N5 b9 (F.next_le (by omega) (by omega))));rw[show i+(m+1)=i+m+1 by omega,this];exact bC
      | true=>
       obtain⟨aF,aG⟩:=aS (i+m) ak ae (λ_=>b8 (i+m) ak (by omega) (by omega) ae) (by omega);exact(aE (i+m) ak ae aF aG).2.1
    refine⟨by have:=key (q - i) (by omega);rwa [show i+(q - i)=q by omega]at this,.inr ?_⟩
    -- an operation that acts on memory has run ahead
    rcases bS with rfl | ⟨k,k1,k2,rfl,k4⟩;·omega
    have bX:k≠i:=λe=>R.not (e▸k2);rcases k4 with k4 | k4;·obtain⟨aF,aG⟩:=aS k k1 k4 (λ_=>k2) (by omega);exact(aE k k1 k4 aF aG).2.2
    exfalso;have:=F.next_le (show i<=k by omega) (by omega);omega
   obtain⟨ba,bw⟩:=bB;obtain⟨c,e,ro,aZ⟩:=Qgf ba;have b7:G.get id=some (.cells c e ro):=by rw[bO];exact aZ
   obtain⟨aH,r1,r2⟩:=QlR (H:=Hs q) (Yi bm ao) aZ (bP _ b7) ba;have bG:V (Ww ρ (Hs (i+1)).y) (vs i) aH:=by
    rw[aj];rcases bw with ag | ag;·exact r2.mono (Qgh (.refl ρ) (F.next_le ag (by omega)))
    exact QBK 6 (r2.mono (QlY ρ _)) ag
   have bF:(execOp a.eval o).run P w=.ok (.value aH) w:=by
    unfold execOp;simp only[bd,Instr.loadAt,g3,Instr.sureAddr,LW,Nc,Lz,r1]
   refine⟨λ_ _=>trivial,?_⟩;rw[Qgc bF (by simp) _];exact ay _ _ _ _ (I.still F R am bG)
 where
 mask_lt (F:ZU P n ops As Hs vs cls) {i j:Nat} (h:QF (QL ops.toList []) i j=true):i<=j:=
  Qer (L:=λk=>k<=j) (λk aA o ah e bz aa=>by have:=(F.checked ah ah).1 e bz aa;omega) h (Lb _)
def QBL (F:ZU P n ops As Hs vs cls){i:Nat}(ah:QlX ops (L listed))(ap:listed.size=ops.size)(ao:i∈Region.ready .any ops listed):∃o,Rdy ops listed i o:=by
 obtain⟨ab,o,aa,ag⟩:=mem_ready.1 ao;have ak:i<ops.size:=(Nj.1 aa).1;have ai:¬L listed i:=λh=>by
  unfold L at h;rw[N0,Ng (by rw[ap];exact ak)]at h ab;simp only[NB]at h ab;rw[h]at ab;cases ab
 -- the set with the new one is closed too
 have aj:QlX ops (λk=>k=i∨L listed k):=λk q ok ae e ad ac=>by
  rcases q with rfl | q;·rw[aa]at ae;cases ae;exact .inr (ag e ad ac)
  exact .inr (ah k q ok ae e ad ac)
 refine⟨o,aa,ai,λk q=>?_,λk q an=>ai (Qer ah q an),λe ad ac=>ag e ad ac⟩;have am:k=i∨L listed k:=Qer aj q (.inl rfl);rcases am with rfl | h;·have:=Qw2 (λi o aa=>(F.checked aa aa).1) q;omega
 exact h
def QuV (F:ZU P n ops As Hs vs cls)(ad:listed.size=ops.size)(ac:Region.ready .any ops listed=[]):∀i,i<ops.size->L listed i:=by
 intro i
 induction i using Nat.strongRecOn with
 | _ i ae=>
  intro hi
  by_cases q:L listed i;·exact q
  exfalso;have:i∈Region.ready .any ops listed:=by
   refine mem_ready.2 ⟨?_,ops[i],Ng hi,λe ab aa=>?_⟩;·unfold L at q;rw[N0,Ng (by rw[ad];exact hi)]at q ⊢;simpa using q
   have:=(F.checked (Ng hi) (Ng hi)).1 e ab aa;exact ae e.on this (by omega)
  rw[ac]at this;cases this
def left (listed:Array Bool):Nat:=(List.range listed.size).countP λi=>!(listed.getD i false)
def QBM {i:Nat}(hi:i<listed.size)(ab:¬L listed i):left (listed.setIfInBounds i true)+1=left listed:=by
 unfold left;rw[Array.size_setIfInBounds];unfold L at ab;have ah:listed.getD i false=false:=by simpa using ab
 have key:∀ (l:List Nat),l.Nodup->i∈l->(l.countP λk=>!((listed.setIfInBounds i true).getD k false))+1=l.countP λk=>!(listed.getD k false):=by
  intro l
  induction l with
  | nil=>intro _ h;cases h
  | cons x l ai=>
   intro q ag;rw[FR]at q;have ac:∀k,k≠i->(listed.setIfInBounds i true).getD k false=listed.getD k false:=λk aa=>by
    rw[N0,Bn (by omega),<- N0]
   by_cases hx:x=i
   ·subst hx;have ad:(listed.setIfInBounds x true).getD x false=true:=by simp[N0,hi]
    have ae:(l.countP λk=>!((listed.setIfInBounds x true).getD k false))=l.countP λk=>!(listed.getD k false):=by
     apply List.countP_congr;intro k aa;rw[ac k (λe=>q.1 (e▸aa))]
    rw[FG,FG,ad,ae,ah];simp
   rw[FG,FG,ac x hx];have:=ai q.2 (by cases ag with | head=>exact absurd rfl hx | tail _ h=>exact h);omega
 exact key _ List.nodup_range (LU.2 hi)
def QAd (h:left listed=0)(ae:listed.size=ops.size):Region.ready .any ops listed=[]:=by
 cases ad:Region.ready .any ops listed with
 | nil=>rfl
 | cons i l=>
  exfalso;have ab:i∈Region.ready .any ops listed:=by rw[ad];simp
  obtain⟨q,o,ac,_⟩:=mem_ready.1 ab;have aa:i<listed.size:=by rw[ae];exact(Nj.1 ac).1
  unfold left at h;rw[List.countP_eq_zero]at h;have:=h i (LU.2 aa);rw[N0,Ng aa]at this q;simp only[NB]at this q;simp[q]at this
def Inv.any (F:ZU P n ops As Hs vs cls)(z:Rd){Q:Exit->Act->World->Prop}
  (ab:∀listed a w ρ G,Inv P n ops As Hs cls d0 ρ0 w0 listed a w ρ G->(∀i,i<ops.size->L listed i)->Q .normal a w):
  ∀ (q:Nat) (listed:Array Bool) (a:Act) (w:World) (ρ:Ren) (G:Qa),left listed=q->Inv P n ops As Hs cls d0 ρ0 w0 listed a w ρ G->wpAnyIn (fen z) 0 P .any ops Q q listed a w:=by
 intro q
 induction q with
 | zero=>
  intro listed a w ρ G hl I;have aa:=QAd hl I.size;exact⟨aa,ab listed a w ρ G I (QuV F I.size aa)⟩
 | succ q ae=>
  intro listed a w ρ G hl I;refine⟨λaa=>ab listed a w ρ G I (QuV F I.size aa),λi hi=>?_⟩;obtain⟨o,R⟩:=QBL F I.closed I.size hi;have ad:i<listed.size:=by rw[I.size];exact(Nj.1 R.at_).1
  exact I.run F R (λac w' ρ' G' I'=>ae _ ac w' ρ' G' (by have:=QBM ad R.not;omega) I') z
def Inv.done (F:ZU P n ops As Hs vs cls)(I:Inv P n ops As Hs cls d0 ρ0 w0 listed a w ρ G)(aj:∀i,i<ops.size->L listed i):
  St ρ0 (Hs 0) w0 ρ (Hs ops.size) w∧Sim P ρ (Hs ops.size) w∧EnvRel ρ n (As ops.size) a∧a.defers=d0:=by
 have aa:∀id j,ρ id=some j->G.get id=(Hs ops.size).get id∧id<(Hs ops.size).y:=λid j ac=>by
  obtain⟨q,aB,ar,aC,aG,aD,aH,aI⟩:=I.blk id j ac;have au:∀m,q+m<=ops.size->(Hs (q+m)).get id=(Hs q).get id:=by
   intro m
   induction m with
   | zero=>intro _;rfl
   | succ m aA=>
    intro aF;have ag:q+m<ops.size:=by omega
    rw[<- aA (by omega),show q+(m+1)=q+m+1 by omega];cases ak:XW (cls (q+m)) with
    | false=>exact F.quiet (Ng ag) ak (N5 ar (F.next_le (by omega) (by omega)))
    | true=>
     rcases aD (q+m) ag ak (aj _ ag) with am | am;·omega
     exact am
  have:=au (ops.size - q) (by omega);rw[show q+(ops.size - q)=ops.size by omega]at this;exact⟨by rw[aC,this],N5 ar (F.next_le aB (Lb _))⟩
 refine⟨St0.full ⟨I.st.mono,F.next_le (L7 _) (Lb _),λid i h h'=>?_,λid i b b' h ad ae ab=>?_,I.st.fresh,I.st.os,I.st.tape,I.st.output,I.st.size,I.st.frame⟩ (λid i h h'=>?_),
  ⟨λid j h=>(aa id j h).2,λid b j av ac=>I.sim.live id b j (by rw[(aa id j ac).1];exact av) ac,λap aq b1 b2 an ao ad ae ab ai=>I.sim.sep ap aq b1 b2 an ao (by rw[(aa ap an ab).1];exact ad) (by rw[(aa aq ao ai).1];exact ae) ab ai,I.sim.glob⟩,
  ⟨I.tsize,λt az=>?_⟩,I.defers⟩
 ·rw[<- (aa id i (I.st.mono id i h)).1];exact I.st.dead id i h h'
 ·rw[<- (aa id i (I.st.mono id i h)).1]at ab;exact I.st.ro id i b b' h ad ae ab
 ·rcases I.dom id i h with ah | ⟨k,k1,k2,k3,k4⟩;·rw[h']at ah;cases ah
  exact N8 (F.next_le (L7 _) (by omega)) k3
 obtain⟨r,r1,r2,r3,r4,aJ⟩:=I.tmps t az;have:As ops.size t=As r t:=QuU F r1 (Lb _) (λk o aE ay ax aw=>by have:=r3 k o ax aw (aj k ay);omega);rw[this];exact r2.mono (QlY ρ _)
end
def QuW {id:Nat}{Q:Ex->Env->Qa->Prop}(ah:P.follows .mixedOrders=true)(F:ZU P n ops As Hs vs cls)(ac:Q .normal (As ops.size) (Hs ops.size)):AWp P n (.region id ops true) Q (As 0) (Hs 0):=by
 intro z ρ w a hs he;refine wpIn_region_any ah ?_;obtain⟨d1,d2⟩:=hs.drew;have q:∀i,¬L (Array.replicate ops.size false) i:=λi h=>by
  unfold L at h;rw[N0,Array.getElem?_replicate]at h;split at h<;>simp at h
 have I0:Inv P n ops As Hs cls a.defers ρ w.drew (Array.replicate ops.size false) a w.drew ρ (Hs 0):=by
  refine⟨by simp,λi hi=>absurd hi (q i),(St.refl ρ (Hs 0) w.drew).to0,d2,λid j h=>.inl h,hs.dom,hs.glob,λid j ab=>⟨0,L7 _,hs.dom id j ab,rfl,λb ae=>?_,λk _ _ aa=>absurd aa (q k),λk _ _ _=>.inl (L7 _),.inl rfl⟩,rfl,he.size,λt ai=>⟨0,L7 _,?_,λk o _ _ aa=>absurd aa (q k),λk o _ _ _=>L7 _,.inl rfl⟩⟩;·exact(d2.live id b j ae ab).mono (λx y h=>Yi (hs.dom x y h) h) rfl
  exact(he.tmps t ai).mono (λx y h=>Yi (hs.dom x y h) h)
 have ag:left (Array.replicate ops.size false)=ops.size:=by
  unfold left;have:∀i∈List.range (Array.replicate ops.size false).size,(!(Array.replicate ops.size false).getD i false)=true:=λi _=>by
   have:=q i;unfold L at this;simpa using this
  rw[List.countP_eq_length.2 this];simp
 refine Inv.any F z (λan am w' ρ' G' I ad=>?_) ops.size _ a w.drew ρ (Hs 0) ag I0;obtain⟨t1,t2,aj,ak⟩:=I.done F ad;exact⟨.normal,ρ',_,_,ac,d1.trans t1,t2,⟨aj,he.fr.step (d1.trans t1) ak⟩,trivial⟩
end
section
variable {P:Program} {n:Nat} {Q:Ex->Env->Qa->Prop} {A:Env} {H:Qa}
def QBN {b:Frame}{a:Act}{k:List Item}{cs:List Frame}{w:World}{c:Code}:step P (lone (b.atR a (.code (.scope c)::k)) cs w)=.next (lone (b.atR a (.code c::.inScope c::k)) cs w):=
 step_lone_go (by simp[stepG,stepG.exec,Frame.atR])
def Qw4 {b:Frame}{a:Act}{k:List Item}{cs:List Frame}{w:World}{c:Code}:step P (lone (b.atR a (.inScope c::k)) cs w)=.next (lone (b.atR a k) cs w):=
 step_lone_go (by simp[stepG,stepG.exec,Frame.atR])
def Qgi (P:Program)(n:Nat)(c:Code)(Q:Ex->Env->Qa->Prop)(A:Env)(H:Qa):Prop:=
 ∀z ρ w a,Sim P ρ H w->QaU z ρ H w n A a->∀ (b:Frame) (k:List Item) (cs:List Frame),b.roundOf=(fen z).round->(fen z).fn b.fn->(fen z).room (cs.length+1+0)->
  ∃e q w',QlQ P n z ρ H w Q e q w'∧ArrivesIn (Machine.fenced P (fen z)) P (lone (b.atR a (.code c::.inLoop c::k)) cs w) b k cs e q w'
def Qm9 {c:Code}(h:Qgi P n c Q A H):AWp P n (.loop c) Q A H:=λz ρ w a ah ad b k cs ag q aa=>by
 obtain⟨e,ab,w',ae,ac⟩:=h z ρ w a ah ad b k cs ag q aa;exact⟨e,ab,w',ae,.of_steps (.one (fenced_calm q aa rfl) stepR_loop) ac⟩
def Qde {c:Code}(h:AWp P n c (QHn (Qgi P n c Q) Q) A H):Qgi P n c Q A H:=λz ρ w a ap am b k cs ag q aa=>by
 obtain⟨e,a2,aj,an,ab⟩:=h z ρ w a ap am b (.inLoop c::k) cs ag q aa;obtain⟨e',ρ2,A2,H2,ad,ai,ah,ac,ae⟩:=an;cases e'<;>cases e<;>simp only[Qm0]at ae
 case normal.normal=>
  obtain⟨e3,a3,aq,ao,ak⟩:=ad z ρ2 aj a2 ah ac b k cs ag q aa;exact⟨e3,a3,aq,QlQ.weaken ai ao,.of_steps (Fs ab (.one (fenced_calm q aa rfl) stepR_inLoop)) ak⟩
 all_goals exact⟨_,a2,aj,⟨_,ρ2,A2,H2,ad,ai,ah,ac,by first | trivial | exact ae⟩,.pass (x:=.inLoop c) rfl (λ_ _=>.inl (by simp)) ab⟩
def Qcb (P:Program)(n:Nat)(body c:Code)(Q:Ex->Env->Qa->Prop)(A:Env)(H:Qa):Prop:=
 ∀z ρ w a,Sim P ρ H w->QaU z ρ H w n A a->∀ (b:Frame) (k:List Item) (cs:List Frame),b.roundOf=(fen z).round->(fen z).fn b.fn->(fen z).room (cs.length+1+0)->
  ∃e q w',QlQ P n z ρ H w Q e q w'∧ArrivesIn (Machine.fenced P (fen z)) P (lone (b.atR a (.code c::.inScope body::k)) cs w) b k cs e q w'
def Qes {c:Code}(h:Qcb P n c c Q A H):AWp P n (.scope c) Q A H:=λz ρ w a ah ad b k cs ag q aa=>by
 obtain⟨e,ab,w',ae,ac⟩:=h z ρ w a ah ad b k cs ag q aa;exact⟨e,ab,w',ae,.of_steps (.one (fenced_calm q aa rfl) QBN) ac⟩
def QAe (P:Program)(n:Nat)(body:Code)(Q:Ex->Env->Qa->Prop):Ex->Env->Qa->Prop
 | .goto l,A,H=>match findLabel body l with
  | some rest=>Qcb P n body rest Q A H
  | none=>Q (.goto l) A H
 | e,A,H=>Q e A H
def KK {body c:Code}(h:AWp P n c (QAe P n body Q) A H):Qcb P n body c Q A H:=λz ρ w a av aq b k cs ao aj am=>by
 obtain⟨e,a2,ag,ar,aa⟩:=h z ρ w a av aq b (.inScope body::k) cs ao aj am;obtain⟨e',ρ2,A2,H2,q,ae,ad,ac,ai⟩:=ar;cases e'<;>cases e<;>simp only[Qm0]at ai
 case normal.normal=>exact⟨.normal,a2,ag,⟨.normal,ρ2,A2,H2,q,ae,ad,ac,trivial⟩,Fs aa (.one (fenced_calm aj am rfl) Qw4)⟩
 case exit.exit i j=>
  subst ai;exact⟨.exit i,a2,ag,⟨.exit i,ρ2,A2,H2,q,ae,ad,ac,rfl⟩,λan ab=>aa.1 an (by simp[exitTo,ab]),λak ab=>aa.2 ak (by simp[exitTo,ab])⟩
 case goto.goto i j=>
  subst ai;simp only[QAe]at q;cases ah:findLabel body i with
  | none=>
   rw[ah]at q;exact⟨.goto i,a2,ag,⟨.goto i,ρ2,A2,H2,q,ae,ad,ac,rfl⟩,λan ab=>aa.1 an (by simp[gotoIn,ah,ab]),λak ab=>aa.2 ak (by simp[gotoIn,ah,ab])⟩
  | some rest=>
   rw[ah]at q;obtain⟨e3,a3,aw,au,ap⟩:=q z ρ2 ag a2 ad ac b k cs ao aj am;exact⟨e3,a3,aw,QlQ.weaken ae au,.of_steps (aa.1 _ (by simp[gotoIn,ah])) ap⟩
 case ret.ret=>exact⟨.ret,a2,ag,⟨.ret,ρ2,A2,H2,q,ae,ad,ac,trivial⟩,aa⟩
 case panic.panic v ch=>exact⟨.panic ch,a2,ag,⟨.panic v,ρ2,A2,H2,q,ae,ad,ac,ai⟩,aa⟩
end
def Qna (A:Env)(q:List Nat)(aa:List Value):Env:=(q.zip aa).foldl (λA p=>upd A p.1 p.2) A
def Qr4 {ρ:Ren}{n:Nat}:∀ (aa:List Nat) (A:Env) (tmps:Array Value) (ab q:List Value),VL ρ ab q->tmps.size=n->(∀t,t<n->V ρ (A t) (tmps.getD t undef))->
  ((aa.zip q).foldl (λt (p:Nat×Value)=>t.setIfInBounds p.1 p.2) tmps).size=n∧∀t,t<n->V ρ (Qna A aa ab t) (((aa.zip q).foldl (λt (p:Nat×Value)=>t.setIfInBounds p.1 p.2) tmps).getD t undef)
 | [],A,tmps,ab,q,hv,hn,h=>⟨hn,h⟩
 | p::aa,A,tmps,[],q,hv,hn,h=>by obtain rfl:=hv.unnil;exact⟨hn,h⟩
 | p::aa,A,tmps,v::ab,l,hv,hn,h=>by
  obtain⟨ag,q,rfl,ac,ad⟩:=hv.uncons;refine Qr4 aa (upd A p v) (tmps.setIfInBounds p ag) ab q ad (by simpa using hn) (λt ae=>?_)
  by_cases e:t=p;·subst e;rw[Qgb,N0,RC (by omega)];exact ac
  rw[Qem A v e,N0,Bn (by omega),<- N0];exact h t ae
section
variable {P:Program} {n:Nat} {Q:Ex->Env->Qa->Prop} {A:Env} {H:Qa}
def St.putBoth {ρ ρ':Ren}{H':Qa}{w w':World}{b:Nat}{o:Obj}(h:St ρ H w ρ' H' w')(q:b<w.heap.size):St ρ H (w.putObj b o) ρ' H' (w'.putObj b o) where
 mono:=h.mono
 y:=h.y
 dead:=h.dead
 ro:=h.ro
 fresh:=λid i aa ab=>by simpa using h.fresh id i aa ab
 os:=h.os
 tape:=h.tape
 output:=h.output
 size:=by simpa using h.size
 frame:=λk ac ad=>by
  by_cases e:k=b;·subst e;rw[World.putObj_heap_same (N5 q h.size),World.putObj_heap_same q]
  rw[World.putObj_heap_other e,World.putObj_heap_other e];exact h.frame k (by simpa using ac) ad
def Qet {w:World}(o:Obj)(k:Nat)(q:k<w.heap.size):(w.alloc o).heap[k]? = w.heap[k]? := by
 show(w.heap.push o)[k]? = _;rw[Array.getElem?_push,Le (by omega)]
def JP.kill (H:Qa)(l:Nat):JP (H.kill l) H:=⟨Lb _,λid b q=>by
 rw[WE]at q;split at q;·cases q
 exact q⟩
def Qo8 (l:Nat)(L:Option Code->Blk)(v:Value)(H':Qa):Ex->Env->Qa->Prop
 | .normal,_,H1=>v=.bool true∧JP H' (H1.set l (L none))
 | .ret,_,H1=>v=.bool false∧JP H' (H1.set l (L (some .ret)))
 | .exit id,_,H1=>v=.bool false∧JP H' (H1.set l (L (some (.exit id))))
 | .goto t,_,H1=>v=.bool false∧JP H' (H1.set l (L (some (.goto t))))
 | .panic _,_,_=>False
def Qr5 (P:Program)(l:Nat)(args:List Value)(H:Qa)(v:Value)(H':Qa):Prop:=
 ∀ρ w args' i,Sim P ρ H w->VL ρ args args'->ρ l=some i->∃fn tmps q aa,(Instr.yield i.at_.block args'.toArray).run P w=.ok (.round i.at_.block fn tmps q aa) w∧
  ∀z m,RoundIn (fen z) m P i.at_.block fn tmps q aa w λe w'=>∃ρ',QBH ρ' (.ret v) e∧St ρ H w ρ' H' w'∧Sim P ρ' H' w'
def QuX {z:Rd}{c:Code}{Q:Exit->Act->World->Prop}{a:Act}{w:World}{m ab:Nat}(h:c.wpIn (fen z) m P Q a w):c.wpIn (fen z) ab P Q a w:=
 λb k cs aa q ac=>h b k cs aa q (QBC _ _)
def Qnb {l:Nat}{A0:Env}{aj:Array Tmp}{am an:Code}{args:List Value}{v:Value}{H':Qa}(ay:H.get l=some (.loop A0 n aj am an none))(bw:args.length=aj.size)
  (h:AWp P n am (QHn (AWp P n an (Qo8 l (Blk.loop A0 n aj am an) v H')) (λ_ _ _=>False)) (Qna A0 aj.toList args) (H.kill l)):Qr5 P l args H v H':=by
 intro ρ w args' i hs ha hi;obtain⟨fn,tmps,D,aC,aZ,bd⟩:=hs.live l _ i ay hi;obtain⟨aa,ak⟩:∃aa:Loop,aa={state:=.ready,pending:=none,fn:=fn,tmps:=tmps,params:=aj,assign:=am,body:=an,defers:=D}:=⟨_,rfl⟩;have aC:w.heap[i.at_.block]? = some (.loop aa):=by rw[ak];exact aC
 have bB:=run_yield (P:=P) (args:=args'.toArray) aC (by rw[ak];simp[<- bw,ha.1]);refine⟨_,_,_,_,bB,λz m=>?_⟩;obtain⟨aH,bg⟩:∃aH,aH=(aa.params.zip args'.toArray).foldl (λtmps x=>tmps.setIfInBounds x.1 x.2) aa.tmps:=⟨_,rfl⟩;have bC:aa.params.zip args'.toArray=(aj.toList.zip args').toArray:=by
  rw[ak];apply Ru;simp
 have bA:aH=(aj.toList.zip args').foldl (λt (p:Nat×Value)=>t.setIfInBounds p.1 p.2) tmps:=by
  rw[bg,bC,ak];simp
 obtain⟨r1,r2⟩:=Qr4 aj.toList A0 tmps args args' ha aZ bd;rw[<- bA]at r1 r2
 -- the loop's record is hidden
 have aP:Hid ρ (H.kill l) w i.at_.block (.loop aa):=⟨aC,λid j bl ad q e=>by
  rw[WE]at q;split at q;·cases q
  rename_i ab;exact hs.sep l id _ bl i j ay q hi ad rfl (λe=>ab e.symm) e.symm⟩
 have aR:Sim P ρ (H.kill l) w:=hs.less (.kill H l);have bq:aa.assign=am:=by rw[ak]
 have br:aa.body=an:=by rw[ak]
 rw[bq,br];show RoundIn (fen z) m P i.at_.block aa.fn ((aa.params.zip args'.toArray).foldl (λtmps x=>tmps.setIfInBounds x.1 x.2) aa.tmps) am an w _;rw[<- bg];refine roundIn_of_wpIn (F:=fen z) trivial ?_;have aK:=h ⟨some i.at_.block,0,[]⟩ ρ w {tmps:=aH,defers:=[]} aR ⟨⟨r1,r2⟩,⟨⟨[],rfl,.nil,λd aM=>by simp at aM⟩,λbF aS=>by cases aS;exact⟨rfl,aa,aP⟩,L7 _⟩⟩;refine FF (F:=fen ⟨some i.at_.block,0,[]⟩) (QuX aK) ?_;rintro e a1 aI ⟨e',ρ1,A1,H1,ba,bc,bz,aN,bx⟩;cases e'<;>cases e<;>simp only[Qm0]at bx
 case normal.normal=>
  have aQ:=aP.step bc;refine⟨_,run_beginRound aQ.at_ (by rw[ak]),?_⟩;obtain⟨ah,aV⟩:∃ah:Loop,ah={aa with state:=.busy}:=⟨_,rfl⟩;rw[<- aV];have b7:Sim P ρ1 H1 (aI.putObj i.at_.block (.loop ah)):=bz.putHid aQ;have aX:Hid ρ1 H1 (aI.putObj i.at_.block (.loop ah)) i.at_.block (.loop ah):=aQ.same;have aL:=ba ⟨some i.at_.block,0,[]⟩ ρ1 _ a1 b7 ⟨aN.toEnvRel,⟨⟨[],(aN.fr.round _ rfl).1,.nil,λd aM=>by simp at aM⟩,λbF aS=>by cases aS;exact⟨(aN.fr.round _ rfl).1,ah,aX⟩,L7 _⟩⟩;refine FF (F:=fen ⟨some i.at_.block,0,[]⟩) (QuX aL) ?_;have b8:St ρ (H.kill l) (w.putObj i.at_.block (.loop ah)) ρ1 H1 (aI.putObj i.at_.block (.loop ah)):=bc.putBoth aP.lt;have aB:∀ (aq:Option Code) (ρ3:Ren) (H3:Qa) (ae:World),St ρ1 H1 (aI.putObj i.at_.block (.loop ah)) ρ3 H3 ae->Sim P ρ3 H3 ae->JP H' (H3.set l (Blk.loop A0 n aj am an aq))->
    ∃ag,(Instr.endRound i.at_.block aq).run P ae=.ok (.bool aq.isNone) ag∧St ρ H w ρ3 H' ag∧Sim P ρ3 H' ag:=by
   intro aq ρ3 H3 ae ap aw ai;have ax:=aX.step ap;have ac:=b8.trans ap;obtain⟨aA,aW⟩:∃aA:Loop,aA={ah with state:=if aq.isNone then .ready else .done,pending:=aq}:=⟨_,rfl⟩;refine⟨ae.putObj i.at_.block (.loop aA),by rw[aW];exact run_endRound aq ax.at_,?_,?_⟩
   ·refine St.less ?_ ai;have aY:∀id b,(H.kill l).get id=some b->H.get id=some b:=λid b q=>by
     rw[WE]at q;split at q;·cases q
     exact q
    refine⟨ac.mono,ac.y,λid j ad ao=>?_,λid j b b' ad ao aD aU=>?_,λid j ad bu=>?_,ac.os,ac.tape,ac.output,by have:=ac.size;simpa using this,λk aR bh=>?_⟩
    ·have ab:id≠l:=λe=>by rw[e,ay]at ao;cases ao
     rw[Qj,Le ab];exact ac.dead id j ad (by rw[WE,Le ab];exact ao)
    ·have ab:id≠l:=λe=>by rw[e,ay]at ao;cases ao;cases aD
     rw[Qj,Le ab]at aU;exact ac.ro id j b b' ad (by rw[WE,Le ab];exact ao) aD aU
    ·obtain⟨bo,aJ⟩:=ac.fresh id j ad bu;refine⟨bo,?_⟩;rcases aJ with aJ | ⟨bE,bD,b0,e1,e2,e3,e4⟩;·left;simpa using aJ
     right;exact⟨bE,bD,b0,e1,e2,aY _ _ e3,e4⟩
    have ab:k≠i.at_.block:=λe=>bh l i _ hi ay rfl e.symm;rw[World.putObj_heap_other ab,ac.frame k (by simpa using aR) (λid j bl aK aL bp=>bh id j bl aK (aY _ _ aL) bp),World.putObj_heap_other ab]
   refine Sim.less ?_ ai;have aE:Sim P ρ3 H3 (ae.putObj i.at_.block (.loop aA)):=aw.putHid ax;have aO:ρ3 l=some i:=ac.mono _ _ hi;refine⟨aE.dom,λid b j q ad=>?_,λbm bn b1 b2 bi bj g1 g2 aF aG aD ab=>?_,aE.glob⟩
   ·rw[Qj]at q;split at q;·rename_i e;subst e;cases q;rw[aO]at ad;cases ad;refine⟨fn,tmps,D,?_,aZ,λt b9=>(bd t b9).mono ac.mono⟩;rw[World.putObj_heap_same ax.lt,aW,aV,ak]
    exact aE.live id b j q ad
   rw[Qj]at g1 g2;split at g1;·rename_i e1;rw[Le (λe2=>ab (e1.trans e2.symm))]at g2;rw[e1,aO]at aF;cases aF;exact λe=>ax.un bn bj b2 aG g2 e.symm
   split at g2;·rename_i e1 e2;rw[e2,aO]at aG;cases aG;exact ax.un bm bi b1 aF g1
   exact aE.sep bm bn b1 b2 bi bj g1 g2 aF aG aD ab
  rintro e a3 ae ⟨e',ρ3,A3,H3,az,ap,aw,bG,aT⟩;cases e'<;>cases e<;>simp only[Qm0]at aT<;>simp only[Qo8]at az
  case normal.normal=>
   obtain⟨rfl,ai⟩:=az;obtain⟨ag,ar,au,av⟩:=aB none ρ3 H3 ae ap aw ai;exact⟨_,ag,ar,ρ3,.same _ rfl,au,av⟩
  case ret.ret=>
   obtain⟨rfl,ai⟩:=az;obtain⟨ag,ar,au,av⟩:=aB (some .ret) ρ3 H3 ae ap aw ai;exact⟨_,ag,ar,ρ3,.same _ rfl,au,av⟩
  case exit.exit a b=>
   subst aT;obtain⟨rfl,ai⟩:=az;obtain⟨ag,ar,au,av⟩:=aB (some (.exit a)) ρ3 H3 ae ap aw ai;exact⟨_,ag,ar,ρ3,.same _ rfl,au,av⟩
  case goto.goto a b=>
   subst aT;obtain⟨rfl,ai⟩:=az;obtain⟨ag,ar,au,av⟩:=aB (some (.goto a)) ρ3 H3 ae ap aw ai;exact⟨_,ag,ar,ρ3,.same _ rfl,au,av⟩
 all_goals exact ba.elim
def V.yield_inv {ρ:Ren}{l:Nat}{z:Value}(h:V ρ (.func (.yield l) #[] #[]) z):∃i,ρ l=some i∧z=.func (.yield i.at_.block) #[] #[]:=by
 cases h with
 | same _ aa=>simp[plain]at aa
 | func fn xs ys ag ah q ab ac ad ae=>simp[QaD]at q
 | yield l i h=>exact⟨i,h,rfl⟩
def QuY {d:Option Nat}{ty:TypeId}{pos:String}{af:Array Edge}{g:Option (Nat×Bool)}{c:Operand}{args:Array Operand}{ab:Array TypeId}{l:Nat}{v:Value}{H':Qa}(ae:ev A c=.func (.yield l) #[] #[])
  (ag:Qr5 P l (args.map (ev A)).toList H v H'):Qt P ⟨d,.call ⟨.value c,args,ab⟩,ty,pos,af,g⟩ A H v H':=by
 intro ρ w a hs he K Q hk z;have aa:=he c (by simp[Op.operands,Call.operands]);rw[ae]at aa;obtain⟨i,hi,e⟩:=aa.yield_inv;obtain⟨fn,tmps,ac,ad,am,ah⟩:=ag ρ w (args.map a.eval).toList i hs (QrZ (λx hx=>he x (by simp[Op.operands,Call.operands,hx]))) hi;have ai:(execOp a.eval ⟨d,.call ⟨.value c,args,ab⟩,ty,pos,af,g⟩).run P w=.ok (.round i.at_.block fn tmps ac ad) w:=by
  rw[<- am];simp only[execOp,resolve,e,Deferred.ofValue,invoke,pure_bind];congr 2;apply Ru;simp
 refine⟨λ_ _=>trivial,?_⟩;rw[Qgc ai (by simp) _];refine⟨λh=>by simp[fen,Fence.wide]at h,?_⟩;refine(ah z _).mono ?_;rintro e w' ⟨ρ',q,ak,aj⟩;cases e with
 | returned an=>exact hk an ρ' w' q ak aj
 | panicked ao=>exact q.elim
 | outgrown=>exact q.elim
def QBO (Q:Ex->Env->Qa->Prop)(A:Env)(H:Qa):Option Code->Prop
 | none=>Q .normal A H
 | some .ret=>Q .ret A H
 | some (.exit id)=>Q (.exit id) A H
 | some (.goto l)=>Q (.goto l) A H
 | _=>False
def Qh9 {g:Operand}{ag:Array Tmp}{ad ae:Code}{ar:FuncId}{xs ys:Array Value}{v:Value}{H2:Qa}{st:Option Code}(bC:Qb8 P n g=true)(au:ev A g=.func (.func ar) xs ys)(aX:entered P ar=true)
  (aj:J2 P ar (xs.toList++[.func (.yield H.y) #[] #[]]++ys.toList) (H.push (.loop A n ag ad ae none)) v H2) {A':Env} {bL:Nat} {bm:Array Tmp} {aP aQ:Code} (av:H2.get H.y=some (.loop A' bL bm aP aQ st)) (ax:QBO Q A (H2.kill H.y) st):
  AWp P n (.rangeFunc g ag ad ae) Q A H:=by
 intro z ρ w a hs he;have aY:=he.eval hs bC;rw[au]at aY;obtain⟨aB,aC,bp,hx,bK⟩:=aY.func_inv;refine wpIn_rangeFunc λfn _=>?_
 -- what is laid
 obtain⟨q,mk,aa,D,bH,bh,ba,aL,bd,br⟩:∃q mk aa D,(Instr.enterLoop fn a.tmps ag ad ae (fen z).round).run P w=.ok (q,mk) aa∧
   aa.heap[q]? = some (.loop {state:=.ready,pending:=none,fn:=fn,tmps:=a.tmps,params:=ag,assign:=ad,body:=ae,defers:=D})∧w.heap.size<=q∧(w.heap.size<=aa.heap.size∧aa.os=w.os∧aa.tape=w.tape∧aa.output=w.output)∧(∀k,k<w.heap.size->aa.heap[k]? = w.heap[k]?)∧
   ((mk=[]∧a.defers=[])∨(z.r=none∧mk=[QuH w.heap.size]∧aa.heap[w.heap.size]? = some (.deferred (some []))∧q≠w.heap.size)):=by
  cases ao:z.r with
  | none=>
   refine⟨w.heap.size+1,[QuH w.heap.size],(w.alloc (.deferred (some []))).alloc (.loop {state:=.ready,pending:=none,fn:=fn,tmps:=a.tmps,params:=ag,assign:=ad,body:=ae,defers:=w.heap.size}),w.heap.size,by rw[show(fen z).round=none from ao];exact run_enterLoop_outer _ _ _ _ _,?_,by omega,⟨by simp;omega,rfl,rfl,rfl⟩,λk ak=>?_,.inr ⟨rfl,rfl,?_,by omega⟩⟩;·have:=World.alloc_heap_new (w.alloc (.deferred (some []))) (.loop {state:=.ready,pending:=none,fn:=fn,tmps:=a.tmps,params:=ag,assign:=ad,body:=ae,defers:=w.heap.size});rwa [World.size_alloc]at this
   ·exact(Qet _ _ (by simp;omega)).trans (Qet _ _ ak)
   exact(Qet _ _ (by simp)).trans (World.alloc_heap_new w _)
  | some l0=>
   obtain⟨b7,ac,ay⟩:=he.fr.round l0 ao;refine⟨w.heap.size,[],w.alloc (.loop {state:=.ready,pending:=none,fn:=fn,tmps:=a.tmps,params:=ag,assign:=ad,body:=ae,defers:=ac.defers}),ac.defers,by rw[show(fen z).round=some l0 from ao];exact run_enterLoop_inner ay.at_ _ _ _ _ _,?_,Lb _,⟨by simp,rfl,rfl,rfl⟩,λk ak=>Qet _ _ ak,.inl ⟨rfl,b7⟩⟩;exact World.alloc_heap_new w _
 obtain⟨aL,bD,bJ,bE⟩:=aL;have bS:q<aa.heap.size:=(Nj.1 bh).1
 -- the loop's record is a block
 have b8:ρ H.y=none:=by
  cases bG:ρ H.y with
  | none=>rfl
  | some i=>have:=hs.dom _ i bG;omega
 have ai:Sub ρ (ext ρ H.y ⟨⟨q,0,none⟩,0,0⟩):=λid i hi=>by
  have:id≠H.y:=λe=>by rw[e,b8]at hi;cases hi
  rw[YJ _ _ this];exact hi
 obtain⟨ρ1,aN⟩:∃ρ1,ρ1=ext ρ H.y ⟨⟨q,0,none⟩,0,0⟩:=⟨_,rfl⟩;rw[<- aN]at ai;have an:ρ1 H.y=some ⟨⟨q,0,none⟩,0,0⟩:=by rw[aN];exact WI _ _ _
 have am:∀id,id≠H.y->ρ1 id=ρ id:=λid h=>by rw[aN];exact YJ _ _ h
 have bg:Sim P ρ1 (H.push (.loop A n ag ad ae none)) aa:=by
  refine⟨λid i hi=>?_,λid b i ab hi=>?_,λaO aH b1 b2 bi bj g1 g2 aA aq aJ aw=>?_,λk ak=>?_⟩
  ·simp only[Qf]
   by_cases e:id=H.y;·omega
   rw[am id e]at hi;have:=hs.dom id i hi;omega
  ·rw[Qc]at ab;split at ab;·rename_i e;subst e;cases ab;rw[an]at hi;cases hi;exact⟨fn,a.tmps,D,bh,he.size,λt aM=>(he.tmps t aM).mono ai⟩
   rename_i e;rw[am id e]at hi;have:=hs.live id b i ab hi;exact this.mono ai (bd _ this.lt)
  ·rw[Qc]at g1 g2;split at g1;·rename_i e1;rw[Le (λe2=>aw (e1.trans e2.symm))]at g2;rw[e1,an]at aA;cases aA;rw[am aH (λe2=>aw (e1.trans e2.symm))]at aq;have:=(hs.live aH b2 bj g2 aq).lt;simp only;omega
   rename_i e1;rw[am aO e1]at aA;split at g2;·rename_i e2;rw[e2,an]at aq;cases aq;have:=(hs.live aO b1 bi g1 aA).lt;simp only;omega
   rename_i e2;rw[am aH e2]at aq;exact hs.sep aO aH b1 b2 bi bj g1 g2 aA aq aJ aw
  obtain⟨i,hi,e⟩:=hs.glob k ak;exact⟨i,ai _ _ hi,e⟩
 have bI:St ρ H w ρ1 (H.push (.loop A n ag ad ae none)) aa:=by
  refine⟨ai,by simp,λid i hi au=>?_,λid i b b' hi au aJ aV=>?_,λid i hi bB=>?_,bD,bJ,bE,aL,λk ak _=>bd k ak⟩;·rw[Qc,Le (by have:=hs.dom id i hi;omega)];exact au
  ·rw[Qc,Le (by have:=hs.dom id i hi;omega),au]at aV;cases aV;exact aJ
  by_cases e:id=H.y;·rw[e,an]at hi;cases hi;exact⟨by omega,.inl ba⟩
  rw[am id e,bB]at hi;cases hi
 refine⟨q,mk,aa,{target:=.fn (.func ar) aC,args:=aB++#[.func (.yield q) #[] #[]]},aa,ar,aB++#[.func (.yield q) #[] #[]]++aC,aa,bH,?_,λ_ _=>trivial,?_,λh=>by simp[fen,Fence.wide]at h,?_⟩;·simp only[resolve,bp];simp[go_sem,Deferred.ofValue]
 ·simp[invoke,go_sem,QaE aX]
 have aU:VL ρ1 (xs.toList++[.func (.yield H.y) #[] #[]]++ys.toList) (aB.toList++[.func (.yield q) #[] #[]]++aC.toList):=
  ((hx.mono ai).append (.cons (.yield _ _ an) (.nil _))).append (bK.mono ai)
 rcases aj with⟨_,aj⟩ | ao
 rotate_left
 ·obtain⟨_,_,_,e,_⟩:=ao ρ1 aa _ bg aU;rw[QaE aX]at e;cases e
 have aW:=aj ρ1 aa _ bg aU;rw[show(aB.toList++[Value.func (.yield q) #[] #[]]++aC.toList).toArray=aB++#[.func (.yield q) #[] #[]]++aC by apply Ru;simp]at aW;refine Qm7 (aW.mono ?_);rintro e ap ⟨ρ3,bc,aG,aK⟩;cases e with
 | panicked bR=>exact bc.elim
 | outgrown=>exact bc.elim
 | returned bU=>
  have aZ:ρ3 H.y=some ⟨⟨q,0,none⟩,0,0⟩:=aG.mono _ _ an;obtain⟨bq,bQ,D',aE,_⟩:=aK.live _ _ _ av aZ;simp only at aE;obtain⟨ac,ay⟩:∃ac:Loop,ac={state:=if st.isNone then .ready else .done,pending:=st,fn:=bq,tmps:=bQ,params:=bm,assign:=aP,body:=aQ,defers:=D'}:=⟨_,rfl⟩;rw[<- ay]at aE;have bz:ac.state≠.busy:=by rw[ay];cases st<;>simp
  have bF:ac.pending=st:=by rw[ay]
  have b9:Hid ρ3 (H2.kill H.y) ap q (.loop ac):=⟨aE,λid j bl ah ab e=>by
   rw[WE]at ab;split at ab;·cases ab
   rename_i aw;exact aK.sep H.y id _ bl _ j av ab aZ ah rfl (λe=>aw e.symm) e.symm⟩
  have az:St ρ H w ρ3 (H2.kill H.y) (ap.putObj q (.loop {ac with state:=.exhausted})):=((bI.trans aG).less (.kill H2 _)).putHid ba;have aF:Sim P ρ3 (H2.kill H.y) (ap.putObj q (.loop {ac with state:=.exhausted})):=(aK.less (.kill H2 _)).putHid b9;have aD:QaU z ρ3 (H2.kill H.y) (ap.putObj q (.loop {ac with state:=.exhausted})) n A {a with defers:=mk++a.defers}:=by
   refine⟨⟨he.size,λt aM=>(he.tmps t aM).mono (ai.trans aG.mono)⟩,?_⟩;have aI:Fr z ρ3 (H2.kill H.y) (ap.putObj q (.loop {ac with state:=.exhausted})) a:=he.fr.step az rfl;rcases br with⟨rfl,_⟩ | ⟨ao,rfl,bx,aT⟩;·exact aI
   obtain⟨aR,bn,bO,bP⟩:=aI.marks;refine⟨⟨w.heap.size::aR,by rw[bn];rfl,FR.2 ⟨λbA=>?_,bO⟩,λd aj=>?_⟩,λl av=>(by rw[ao]at av;cases av),aI.base⟩
   ·obtain⟨bo,bM,bT,bN⟩:=he.fr.marks;have:bo=aR:=by
     have:=bM.symm.trans bn;exact(List.map_inj_right (λx y h=>by simpa[QuH] using h)).1 (List.append_cancel_right this)
    subst this;have:=(bN _ bA).2.lt;omega
   rcases LK.1 aj with rfl | aj
   ·have bu:Hid ρ1 (H.push (.loop A n ag ad ae none)) aa w.heap.size (.deferred (some [])):=⟨bx,λid j bl ah ab=>by
     by_cases e:id=H.y;·rw[e,an]at ah;cases ah;exact aT
     rw[am id e]at ah;rw[Qc,Le e]at ab;have:=(hs.live id bl j ab ah).lt;omega⟩
    have aS:=bu.step aG;refine⟨he.fr.base,?_⟩;have bw:Hid ρ3 (H2.kill H.y) ap w.heap.size (.deferred (some [])):=⟨aS.at_,λid j bl ah ab=>aS.un id j bl ah ((JP.kill H2 _).get _ _ ab)⟩;exact bw.put (λe=>aT e.symm)
   exact bP d aj
  refine⟨st,ap.putObj q (.loop {ac with state:=.exhausted}),(run_endLoop (P:=P) aE bz).trans (by rw[bF]),?_⟩;cases st with
  | none=>exact⟨.normal,ρ3,A,_,ax,az,aF,aD,trivial⟩
  | some c=>
   cases c<;>simp only[QBO]at ax
   case ret=>exact wpIn_ret ⟨.ret,ρ3,A,_,ax,az,aF,aD,trivial⟩
   case exit id=>exact wpIn_exit ⟨.exit id,ρ3,A,_,ax,az,aF,aD,rfl⟩
   case goto id=>exact wpIn_goto ⟨.goto id,ρ3,A,_,ax,az,aF,aD,rfl⟩
end
def Qw6 (P:Program)(aa:TypeId->Bool):∀ (dd:Nat) (e:TypeId) (count q off n:Nat),count<=q->rowAt P aa dd e count off n=true->rowAt P aa dd e q off n=true
 | 0,e,count,q,off,n,hc,h=>by simp[rowAt]at h
 | dd+1,e,count,q,off,n,hc,h=>by
  unfold rowAt at h ⊢;simp only at h ⊢;split at h;·cases h
  rename_i ae;rw[Le ae];simp only[Nw,Lm,Lv]at h ⊢;rcases h with⟨⟨ab,ac⟩,ad⟩ | ⟨ab,ac⟩;·exact .inl ⟨⟨ab,by omega⟩,ad⟩
  exact .inr ⟨by omega,ac⟩
def Qnc (P:Program):∀ (dd:Nat) (e:TypeId) (count q off:Nat) (u:TypeId) (n:Nat),count<=q->liesAt P dd e count off u n=true->liesAt P dd e q off u n=true
 | 0,e,count,q,off,u,n,hc,h=>by simp[liesAt]at h
 | dd+1,e,count,q,off,u,n,hc,h=>by
  unfold liesAt at h ⊢;simp only[Nw]at h ⊢;rcases h with h | h;·exact .inl (Qw6 P _ _ _ _ _ _ _ hc h)
  right;split at h;·exact Qnc P dd e count q off _ _ hc h
  cases h
section
variable {P:Program} {n:Nat} {A:Env} {H:Qa} {d:Option Nat} {ty:TypeId} {pos:String} {af:Array Edge} {g:Option (Nat×Bool)}
def Sim.place {ρ:Ren}{w:World}(ak:Sim P ρ H w){id off:Nat}{z:Value}{c:List Value}{e:TypeId}(am:V ρ (.pointer (some ⟨id,off,none⟩)) z)(ah:H.get id=some (.cells c e false)):
  ∃i q aa,ρ id=some i∧i.at_=⟨i.at_.block,0,none⟩∧z=.pointer (some ⟨i.at_.block,off,none⟩)∧w.heap[i.at_.block]? = some (.cells q e aa)∧c.length<=q.size∧(∀ (j:Nat) v,c[j]? = some v->∃ae,q[j]? = some ae∧V ρ v ae):=by
 obtain⟨i,hi,_,e1⟩:=am.ptr_inv;obtain⟨q,aa,ai,⟨ac,ab⟩,an,ao,ag,_⟩:=ak.live id _ i ah hi;have ad:i.at_=⟨i.at_.block,0,none⟩:=by
  obtain⟨⟨b,o,s⟩,ap,ss⟩:=i;simp only at ac ab;subst ac;subst ab;rfl
 refine⟨i,q,aa,hi,ad,?_,ai,by omega,λj v aj=>?_⟩;·rw[e1,ad,Vq];simp
 have:=ag j v aj;rw[ab,LP]at this;exact this
def Qr6 {ρ:Ren}{a:Addr}{z:Value}(q:V ρ (.pointer (some a)) z):a=⟨a.block,a.off,none⟩:=by
 obtain⟨i,_,h,_⟩:=q.ptr_inv;obtain⟨b,o,s⟩:=a;simp only at h;subst h;rfl
def QuZ {src aa t e:TypeId}{j:TypeInfo}{x:Operand}{a:Addr}{c:List Value}(ad:ev A x=.pointer (some a))(am:P.underlying src=some (.pointer t))(ae:P.underlying aa=some .unsafePointer)(an:P.info? t=some j)(aj:j.size≠0)
  (ah:H.get a.block=some (.cells c e false)) (ar:a.off<c.length):Qt P ⟨d,.convert src aa x,ty,pos,af,g⟩ A H (.pointer (some a)) H:=
 .pure_ λρ w s ak ag=>by
  have q:=ag x (by simp[Op.operands]);rw[ad]at q;have ab:=Qr6 q;rw[ab]at q;obtain⟨i,ac,ao,hi,ap,e1,ai,aq,_⟩:=ak.place q ah;rw[e1]at q;refine⟨.pointer (some ⟨i.at_.block,a.off,none⟩),?_,by rw[ab];exact q⟩;simp only[execOp,e1,LW,Lib.run_to_unsafe w ⟨i.at_.block,a.off,none⟩ am ae an aj (e:=e) (cells:=ac.size) (by simp[World.shape?,ai]) (by simp only;omega),Lz,Nc]
def Qq0 {src aa u e:TypeId}{j:TypeInfo}{x:Operand}{a:Addr}{c:List Value}(ad:ev A x=.pointer (some a))(an:P.underlying src=some .unsafePointer)(ae:P.underlying aa=some (.pointer u))(ao:P.info? u=some j)
  (ah:H.get a.block=some (.cells c e false)) (aj:liesAt P P.depth e (c.length / P.cellsOf e) a.off u 1=true):Qt P ⟨d,.convert src aa x,ty,pos,af,g⟩ A H (.pointer (some a)) H:=
 .pure_ λρ w s am ag=>by
  have q:=ag x (by simp[Op.operands]);rw[ad]at q;have ab:=Qr6 q;rw[ab]at q;obtain⟨i,ac,ap,hi,aq,e1,ai,ak,_⟩:=am.place q ah;rw[e1]at q;refine⟨.pointer (some ⟨i.at_.block,a.off,none⟩),?_,by rw[ab];exact q⟩;simp only[execOp,e1,LW,Lib.run_from_unsafe w ⟨i.at_.block,a.off,none⟩ an ae ao (e:=e) (cells:=ac.size) (by simp[World.shape?,ai]) (Qnc P _ _ _ _ _ _ _ (Nat.div_le_div_right ak) aj),Lz,Nc]
def Kx:List Value->Option (List UInt8)
 | []=>some []
 | .int .u8 m::l=>(Kx l).map (m.toNat.toUInt8::·)
 | _::_=>none
def Qnd {ρ:Ren}:∀ (l q:List Value) (bs:List UInt8),VL ρ l q->Kx l=some bs->∃aa:List Int,q=aa.map (Value.int .u8)∧bs=aa.map λm=>m.toNat.toUInt8
 | [],q,bs,hv,h=>by cases h;obtain rfl:=hv.unnil;exact⟨[],rfl,rfl⟩
 | v::l,q,bs,hv,h=>by
  obtain⟨ai,ah,rfl,ad,ae⟩:=hv.uncons;unfold Kx at h;split at h;·rename_i ab;cases ab
  ·rename_i m l0 ab;cases ab;simp only[Lx]at h;obtain⟨ac,ag,rfl⟩:=h;obtain⟨aa,rfl,rfl⟩:=Qnd l ah ac ae ag;exact⟨m::aa,by rw[ad.plain_eq rfl];rfl,rfl⟩
  cases h
def Qo9:∀ (aa:List Int) (q:ByteArray),aa.foldl (λr (m:Int)=>r.push (UInt8.ofNat m.toNat)) q=⟨q.data++(aa.map λm=>m.toNat.toUInt8).toArray⟩
 | [],q=>by simp
 | m::aa,q=>by
  rw[FQ,Qo9 aa];apply ByteArray.ext;apply Ru;simp[ByteArray.push,Nat.toUInt8]
def XA (size:Nat)(v:Value)(H:Qa):Option (List Value):=
 match v with
 | .slice none 0 _=>some []
 | .slice (some a) len _=>if len=0 then some [] else match H.get a.block with
  | some (.cells c _ _)=>if a.off+len * size<=c.length then some ((c.drop a.off).take (len * size)) else none
  | _=>none
 | _=>none
def QBP {src ab e:TypeId}{x:Operand}{l:List Value}{bs:List UInt8}(am:P.underlying src=some (.slice e))(ai:P.underlying e=some (.int .u8))(aj:P.underlying ab=some .string)
  (q:XA 1 (ev A x) H=some l) (ae:Kx l=some bs):Qt P ⟨d,.convert src ab x,ty,pos,af,g⟩ A H (.string (mkS bs)) H:=
 .pure_ λρ w s av ao=>by
  have ag:=ao x (by simp[Op.operands]);refine⟨.string (mkS bs),?_,.same _ rfl⟩;simp only[execOp,LW];generalize ev A x=u at ag q;unfold XA at q;split at q;·rename_i cap;cases q;cases ae;rw[ag.plain_eq rfl];rw[run_convert_bytes_string w src ab e none 0 cap am ai aj];rfl
  ·rename_i a len cap;obtain⟨i,aa,ac,g1,g2,g3,g4,ax,aw,ay,az⟩:=ag.slice_inv;rw[g3,run_convert_bytes_string w src ab e (some aa) len ac am ai aj];split at q;·rename_i ad;subst ad;cases q;cases ae;rw[run_bytesToString w aa 0 ac [] (by simp[loadCells,loadCellsFrom])];rfl
   rename_i ad;split at q
   ·rename_i c e' ro ap;split at q
    ·rename_i ar;cases q;obtain⟨cs,k1,k2,k3⟩:=(av.live a.block _ i ap g1).cellsAt a.off (len * 1) ar;obtain⟨ah,rfl,rfl⟩:=Qnd _ cs bs k2 ae;have an:aa=i.at_.add a.off:=by rcases g4 with h | ⟨h,_⟩;exact h;exact absurd h ad
     have au:ah.length=len:=by simpa using k1
     have ak:=run_loadCells_list (P:=P) (w:=w) aa (ah.map (Value.int .u8)) (λj v aq=>by rw[an];exact k3 j v aq);rw[Nn,au]at ak;rw[run_bytesToString w aa len ac ah ak,Qo9];simp[mkS]
    cases q
   cases q
  cases q
def Qpa {t e:TypeId}{m:Nat}{x:Operand}{lo hi:Option Operand}{aa:TypeInfo}{l h:Option Int}{a:Addr}(an:P.underlying t=some (.array m e))(am:P.info? e=some aa)(ah:ev A x=.pointer (some a))
  (ag:Wx A lo=some l) (ae:Wx A hi=some h) (ai:0<=l.getD 0) (aj:l.getD 0<=h.getD m) (ak:h.getD m<=m) (ao:m<UNK):
  Qt P ⟨d,.slice t x lo hi none,ty,pos,af,g⟩ A H (.slice (some ⟨a.block,a.off+(l.getD 0).toNat * aa.size,none⟩) ((h.getD m).toNat - (l.getD 0).toNat) (m - (l.getD 0).toNat)) H:=
 .pure_ λρ w s ap q=>by
  have ad:=q x (by simp[Op.operands]);rw[ah]at ad;obtain⟨i,g1,g2,g3⟩:=ad.ptr_inv;have ab:=G7 (P:=P) (A:=A) (w:=w) (λy e=>q y (by simp[Op.operands,e])) (λy e=>q y (by simp[Op.operands,e])) (mx:=none) (λy e=>by cases e) ag ae (m:=none) rfl (by simp) (len:=m) (cap:=m) ai aj (by simpa using ak) (by simp) false;simp only[Fk,Br,LG]at ab;refine⟨.slice (some (if m=(l.getD 0).toNat then i.at_.add a.off else(i.at_.add a.off).add ((l.getD 0).toNat * aa.size))) ((h.getD m).toNat - (l.getD 0).toNat) (m - (l.getD 0).toNat),?_,?_⟩;·simp only[execOp,Instr.sliceAt,g3,Instr.sureAddr,LW,LZ an,Lz,Fk,ab,Nc,Wr am]
  by_cases ac:m=(l.getD 0).toNat;·rw[Lc ac];exact .slice a.block _ _ _ _ i _ g1 (.inr ⟨by omega,by omega⟩) (by omega) (by omega) (λh=>by omega) (λ_=>rfl)
  rw[Le ac,ZG];exact .slice a.block _ _ _ _ i _ g1 (.inl rfl) (by omega) (by omega) (λh=>by omega) (λ_=>rfl)
def QsS {ab:Array TypeId}{x:Operand}{a:Addr}{len cap:Nat}(ae:ev A x=.slice (some a) len cap)(ai:len≠0):Qt P ⟨d,.call ⟨.builtin .unsafeSliceData,#[x],ab⟩,ty,pos,af,g⟩ A H (.pointer (some a)) H:=
 .pure_ λρ w s ap ah=>by
  have ad:=ah x (by simp[Op.operands,Call.operands]);rw[ae]at ad;obtain⟨i,q,aa,g1,g2,g3,g4,am,ak,an,ao⟩:=ad.slice_inv;have ac:q=i.at_.add a.off:=by rcases g4 with h | ⟨h,_⟩;exact h;exact absurd h ai
  refine⟨.pointer (some q),?_,?_⟩
  ·rw[Xm];have aj:(Builtin.unsafeSliceData_ ab ty #[.slice (some q) len aa]).run P w=.ok (.pointer (some q)) w:=by
    have ag:Builtin.unsafeSliceData_ ab ty #[.slice (some q) len aa]=(do
      if aa≠0 then pure (.pointer (some q))
      else if(<- viewAt q.block).isSome then pure (.pointer (some q))
      else pure (.pointer (some ⟨<- newObj (.view q (<- elemOf ty)),0,none⟩))):=rfl
    rw[ag,Lc (by omega)];rfl
   simp only[builtin,R9,NZ,Bq,g3,LW,aj,Lz,Nc]
  obtain⟨b,o,aq⟩:=a;simp only at g1 g2 ac;subst g2;rw[ac];exact .ptr b o i g1
def Ql0 {ac:Array TypeId}{x:Operand}{len cap:Nat}(aa:ev A x=.slice none len cap):Qt P ⟨d,.call ⟨.builtin .unsafeSliceData,#[x],ac⟩,ty,pos,af,g⟩ A H (.pointer none) H:=
 .pure_ λρ w s ad ab=>by
  have q:=ab x (by simp[Op.operands,Call.operands]);rw[aa]at q;refine⟨.pointer none,?_,.same _ rfl⟩;rw[Xm];simp only[builtin,R9,NZ,Bq,q.plain_eq rfl,LW];rfl
def Ql1 {ac it:TypeId}{x y:Operand}(aa:ev A x=.pointer none)(ab:ev A y=.int .i64 0):Qt P ⟨d,.call ⟨.builtin .unsafeString,#[x,y],#[ac,it]⟩,ty,pos,af,g⟩ A H (.string (mkS [])) H:=
 .pure_ λρ w s ad q=>by
  have e1:=Zj (q x (by simp[Op.operands,Call.operands])) aa rfl;have e2:=Zj (q y (by simp[Op.operands,Call.operands])) ab rfl;refine⟨.string (mkS []),?_,.same _ rfl⟩;rw[Xm];simp only[builtin,R9,NZ,Bq,e1,e2,LW,Lib.run_unsafeString_none,Lz,Nc];rfl
def QsT {ak it e:TypeId}{x y:Operand}{id len:Nat}{c:List Value}{bs:List UInt8}(ay:ev A x=.pointer (some ⟨id,0,none⟩))(az:ev A y=.int .i64 (len:Int))(aJ:P.underlying ak=some (.pointer e))(aD:P.cellsOf e=1)
  (ap:H.get id=some (.cells c e false)) (aH:len≠0) (aO:len<=c.length) (aM:len<=9223372036854775807) (aB:Kx (c.take len)=some bs) (aK:∀v∈c.take len,∃m:Int,v=.int .u8 m∧0<=m∧m<256):
  Qt P ⟨d,.call ⟨.builtin .unsafeString,#[x,y],#[ak,it]⟩,ty,pos,af,g⟩ A H (.string (mkS bs)) (H.set id (.cells c e true)):=
 .of_run λρ w s av ao=>by
  have ag:=ao x (by simp[Op.operands,Call.operands]);rw[ay]at ag;have e2:=Zj (ao y (by simp[Op.operands,Call.operands])) az rfl;obtain⟨i,ad,am,hi,aA,e1,aj,aN,an⟩:=av.place ag ap;have ae:bs.length=len∧∀ (j:Nat) b,bs[j]? = some b->c[j]? = some (.int .u8 (b.toNat:Int)):=by
   have key:∀ (l:List Value) (bs:List UInt8),Kx l=some bs->(∀v∈l,∃m:Int,v=.int .u8 m∧0<=m∧m<256)->bs.length=l.length∧∀ (j:Nat) b,bs[j]? = some b->l[j]? = some (.int .u8 (b.toNat:Int)):=by
    intro l
    induction l with
    | nil=>intro bs h _;cases h;exact⟨rfl,λj b h=>by simp at h⟩
    | cons v l aL=>
     intro bs h ar;obtain⟨m,rfl,m0,aP⟩:=ar v (by simp);simp only[Kx,Lx]at h;obtain⟨ax,aa,rfl⟩:=h;obtain⟨ab,ac⟩:=aL ax aa (λv ag=>ar v (by simp[ag]));refine⟨by simp[ab],λj b q=>?_⟩;cases j with
     | zero=>
      simp at q;subst q;simp only[Bp,Lt,Value.int.injEq,Bz];have:(m.toNat.toUInt8).toNat=m.toNat:=by simp[Nat.toUInt8,UInt8.toNat_ofNat'];omega
      rw[this];omega
     | succ j=>simp at q ⊢;exact ac j b q
   obtain⟨ab,ac⟩:=key _ bs aB aK;refine⟨by rw[ab,Sb];omega,λj b q=>?_⟩;have:=ac j b q;rw[Nl]at this;split at this;·exact this
   cases this
  have aE:∀j x,bs[j]? = some x->w.cell? ((⟨i.at_.block,0,none⟩:Addr).add j)=some (.int .u8 x.toNat):=λj x q=>by
   obtain⟨aw,aa,ai⟩:=an j _ (ae.2 j x q);rw[Vq,LP,cell_of_row w _ _ ad e am aj,aa,ai.plain_eq rfl]
  have au:=Lib.run_unsafeString_row (P:=P) w ak it ty e aJ aD i.at_.block ad.size (by simp[World.shape?,aj]) bs (λh=>by rw[h]at ae;simp at ae;omega) (by omega) (by omega) aE;rw[ae.1]at au;have aF:∃ah,(w.freeze ⟨i.at_.block,0,none⟩ len).heap[i.at_.block]? = some (.cells ad e ah)∧Gc w (w.freeze ⟨i.at_.block,0,none⟩ len) i.at_.block:=by
   unfold World.freeze;rw[Le aH];obtain⟨lo,hi⟩:=am;refine⟨if lo==hi then(0,0+len) else(min lo 0,max hi (0+len)),?_,⟨λk aG=>?_,by simp,rfl,rfl,rfl⟩⟩;·simp only[RY,aj,N3,Dh]
   simp only[RY];rw[Le (λe=>aG e.symm)]
  obtain⟨ah,aq,aI⟩:=aF;have aC:WH P ρ i (w.freeze ⟨i.at_.block,0,none⟩ len) (.cells c e true):=by
   refine⟨(Nj.1 aq).1,λj v q=>?_⟩;obtain⟨aw,aa,ai⟩:=an j v q;refine⟨aw,?_,ai⟩;rw[aA,Vq,LP,cell_of_row _ _ _ ad e ah aq];exact aa
  obtain⟨ab,ac⟩:=av.setBlk hi ap rfl aI aC;refine⟨.string (mkS bs),ρ,_,?_,.same _ rfl,ab,ac⟩;rw[Xm];simp only[builtin,R9,NZ,Bq,e1,e2,LW,au,Lz,Nc];rfl
def QBQ:TypeDesc->Bool
 | .pointer _=>true
 | _=>false
def Qj6 (P:Program)(t:TypeId)(q:String):Option FuncId:=
 match P.info? t,P.underlying t with
 | some inf,some td=>match inf.methods.find? (·.name==q) with
  | some m=>match m.path.toList,m.func with
   | [],some (f,pr)=>if pr=QBQ td then some f else none
   | _,_=>none
  | none=>none
 | _,_=>none
def Qw7 {t:TypeId}{aa:String}{f:FuncId}(h:Qj6 P t aa=some f)(v:Value)(w:World)(ac:Nat):(method (ac+1) t v aa).run P w=.ok (f,v) w:=by
 unfold Qj6 at h;split at h
 ·rename_i an ak hi aj;split at h
  ·rename_i m ag;split at h
   ·rename_i am pr ah ad;split at h
    ·rename_i q;cases h;have ae:(follow m.path.toList t (.val v)).run P w=.ok (t,.val v) w:=by rw[ah];rfl
     have ai:∀ab,(receiverAt t (.val v) pr ab).run P w=.ok v w:=λab=>by
      simp only[receiverAt,LW,LZ aj,Lz];cases ak<;>simp only[QBQ]at q<;>subst q<;>rfl
     simp only[method,typeInfo,LW,DJ,Lz,hi,Nc,ag,ae,ad,ai]
    cases h
   cases h
  cases h
 cases h
def QAf {aa:Operand}{ad:String}{args:Array Operand}{an:Array TypeId}{t:TypeId}{v u:Value}{f:FuncId}{H':Qa}(ae:ev A aa=.iface t v)(am:Qj6 P t ad=some f)(ai:J2 P f (v::(args.map (ev A)).toList) H u H'):
  Qt P ⟨d,.call ⟨.invoke aa ad,args,an⟩,ty,pos,af,g⟩ A H u H':=
 QlV (λρ w a ao ab=>by
  have ac:=ab aa (by simp[Op.operands,Call.operands]);rw[ae]at ac;obtain⟨q,e,ah⟩:=ac.iface_inv;refine⟨q::(args.map a.eval).toList,.cons ah (QrZ (λx hx=>ab x (by simp[Op.operands,Call.operands,hx]))),?_⟩;have aj:∃k,P.types.size+Made.depth=k+1:=⟨P.types.size+99,rfl⟩;obtain⟨k,ak⟩:=aj;simp only[execOp,resolve,pure_bind,invoke,e];have ag:(#[Value.iface t q]++Array.map a.eval args)[0]? = some (.iface t q):=by rw[Array.getElem?_append_left (by simp)];rfl
  have hx:(#[Value.iface t q]++Array.map a.eval args).extract 1 (#[Value.iface t q]++Array.map a.eval args).size=Array.map a.eval args:=by
   apply Ru;simp;exact LF (by simp)
  simp only[ag,hx,callMethod,LW,DJ,Lz,ak,Qw7 am];congr 2;apply Ru;simp) ai
end
def VC:TypeDesc->Value->Bool
 | .int _,.int _ _=>true
 | .string,.string _=>true
 | .bool,.bool _=>true
 | _,_=>false
def Qj7 (d:TypeDesc)(k:Value):List (Value×Value)->Nat->Option (Option (Nat×Value))
 | [],_=>some none
 | (a,b)::l,i=>bif VC d a then(match Instr.sameNow d k a with | some true=>some (some (i,b)) | some false=>Qj7 d k l (i+1) | none=>none) else none
def VD {d:TypeDesc}{v:Value}(h:VC d v=true):plain v=true:=by cases d<;>cases v<;>simp_all [VC,plain]
section
variable {P:Program} {n:Nat} {A:Env} {H:Qa} {d:Option Nat} {ty:TypeId} {pos:String} {af:Array Edge} {g:Option (Nat×Bool)}
def Qdf {aa:TypeId}{q:TypeDesc}{k:Value}(ab:P.underlying aa=some q)(ac:VC q k=true)(e:Bool)(m:Nat)(w:World):(Instr.checkKey e (m+1) aa k).run P w=.ok () w:=by
 unfold Instr.checkKey;simp only[LW,LZ ab,Lz];cases q<;>cases k<;>simp_all [VC]
def Qdg {ρ:Ren}{ab:TypeDesc}{k:Value}:∀ (es:List (Value×Value)) (q:List MapEntry) (i:Nat) (r:Option (Nat×Value)),VL ρ (es.map (·.1)) (q.map (·.key))->VL ρ (es.map (·.2)) (q.map (·.val))->Qj7 ab k es i=some r->
  match r with
  | none=>Instr.findNow ab k q i=some none
  | some (j,v)=>i<=j∧∃ad,Instr.findNow ab k q i=some (some (j,ad))∧V ρ v ad∧∃a,es[j - i]? = some (a,v)∧Instr.sameNow ab k a=some true∧plain a=true
 | [],q,i,r,h1,h2,h=>by
  cases h;have:q=[]:=by
   have:=h1.1;simp at this;exact N2.1 this.symm
  subst this;rfl
 | (a,b)::es,q,i,r,h1,h2,h=>by
  cases q with
  | nil=>have:=h1.1;simp at this
  | cons e q=>
   simp only[NZ]at h1 h2;obtain⟨x,xs,ah,hx,aj⟩:=h1.uncons;obtain⟨y,ys,ai,ak,am⟩:=h2.uncons;cases ah;cases ai;unfold Qj7 at h;cases ac:VC ab a with
   | false=>rw[ac]at h;cases h
   | true=>
    rw[ac]at h;simp only[Lq]at h;have ae:=hx.plain_eq (VD ac);split at h;·rename_i aa;cases h;refine⟨Lb _,e.val,?_,ak,a,by simp,aa,VD ac⟩;simp only[Instr.findNow,ae,aa]
    ·rename_i aa;have ag:=Qdg es q (i+1) r aj am h;cases r with
     | none=>simp only[Instr.findNow,ae,aa];exact ag
     | some an=>
      obtain⟨j,v⟩:=an;obtain⟨av,ad,ao,ap,a1,aq,ar,au⟩:=ag;refine⟨by omega,ad,by simp only[Instr.findNow,ae,aa];exact ao,ap,a1,?_,ar,au⟩;rw[show j - i=(j - (i+1))+1 by omega];simpa using aq
    cases h
def VE {q:TypeId}{aa:TypeDesc}{k:Value}{l:List MapEntry}{r:Option (Nat×Value)}(ab:P.underlying q=some aa)(h:Instr.findNow aa k l 0=some r)(w:World):(Instr.findKey q k l).run P w=.ok r w:=by
 simp only[Instr.findKey,LW,LZ ab,Lz,h,Nc]
def Qw8 {t:TypeId}:Qt P ⟨d,.makeMap t none,ty,pos,af,g⟩ A H (.map (some H.y)) (H.push (.map [])):=
 .of_run λρ w s ab ac=>by
  obtain⟨q,aa⟩:=ab.push (.map #[] 0) (.map []) ⟨⟨w.heap.size,0,none⟩,0,0⟩ rfl ⟨#[],0,by
   show(w.heap.push (Obj.map #[] 0))[w.heap.size]? = _;simp,.nil _,.nil _,rfl,λj e h=>by simp at h⟩
  refine⟨.map (some w.heap.size),_,_,?_,.map H.y _ (WI _ _ _),q,aa⟩;simp only[execOp,Fk,Instr.makeMap,LW,FT,Lz,Nc,World.alloc]
def Qu0 (P:Program)(k e:TypeId)(m q:Value)(ok:Bool)(H:Qa):Option Value:=
 match P.underlying k,P.info? e with
 | some td,some inf=>match inf.zero with
  | some z=>bif VC td q&&X2 z then
    (match m with
    | .map none=>some (bif ok then .tuple #[z,.bool false] else z)
    | .map (some id)=>(match H.get id with
     | some (.map es)=>(match Qj7 td q es 0 with
      | some none=>some (bif ok then .tuple #[z,.bool false] else z)
      | some (some (_,v))=>some (bif ok then .tuple #[v,.bool true] else v)
      | none=>none)
     | _=>none)
    | _=>none)
   else none
  | none=>none
 | _,_=>none
def V.pair {ρ:Ren}{v ab:Value}(h:V ρ v ab)(b:Bool):V ρ (.tuple #[v,.bool b]) (.tuple #[ab,.bool b]):=
 .tuple _ _ rfl (λj x x' q aa=>by
  rcases j with _ | _ | j;·simp at q aa;subst q;subst aa;exact h
  ·simp at q aa;subst q;subst aa;exact .same _ rfl
  simp at q)
def QAg {t k e:TypeId}{x ad:Operand}{ok:Bool}{v:Value}(aj:P.underlying t=some (.map k e))(h:Qu0 P k e (ev A x) (ev A ad) ok H=some v):Qt P ⟨d,.lookup t x ad ok,ty,pos,af,g⟩ A H v H:=
 .pure_ λρ w s az am=>by
  have ab:=am x (by simp[Op.operands]);have aA:=am ad (by simp[Op.operands]);unfold Qu0 at h;split at h
  ·rename_i aC aG aa hi;split at h
   ·rename_i z ao;cases q:(VC aC (ev A ad)&&X2 z) with
    | false=>rw[q]at h;cases h
    | true=>
     rw[q]at h;simp only[Lq]at h;simp only[Lm]at q;have ai:=aA.plain_eq (VD q.1);have ac:V ρ z z:=.closed q.2;split at h;·rename_i ae;rw[ae]at ab;have hx:=ab.plain_eq rfl;cases h;refine⟨bif ok then .tuple #[z,.bool false] else z,?_,by cases ok;exact ac;exact ac.pair false⟩;simp only[execOp,Instr.lookup,hx,ai,LW,LZ aj,Lz,Nc,Qdf aa q.1 _ 9999,VE aa (l:=[]) (r:=none) rfl,Zr hi ao];cases ok<;>rfl
     ·rename_i id ae;rw[ae]at ab;obtain⟨i,ay,ak⟩:=ab.map_inv;split at h
      ·rename_i es aw;obtain⟨ag,av,ax,ar,au,aF,aE⟩:=az.live id _ i aw ay;have an:(getObj i.at_.block).run P w=.ok (.map ag av) w:=by simp[getObj,Sem.run,ax]
       split at h;·rename_i ah;cases h;have:=Qdg es ag.toList 0 none ar au ah;refine⟨bif ok then .tuple #[z,.bool false] else z,?_,by cases ok;exact ac;exact ac.pair false⟩;simp only[execOp,Instr.lookup,ak,ai,LW,LZ aj,Lz,Nc,an,Qdf aa q.1 _ 9999,VE aa this,Zr hi ao];cases ok<;>rfl
       ·rename_i j aD ah;cases h;obtain⟨_,aq,aB,ap,_⟩:=Qdg es ag.toList 0 (some (j,aD)) ar au ah;refine⟨bif ok then .tuple #[aq,.bool true] else aq,?_,by cases ok;exact ap;exact ap.pair true⟩;simp only[execOp,Instr.lookup,ak,ai,LW,LZ aj,Lz,Nc,an,Qdf aa q.1 _ 9999,VE aa aB];cases ok<;>rfl
       cases h
      cases h
     cases h
   cases h
  cases h
def QsU (P:Program)(k:TypeId)(m q v:Value)(H:Qa):Option Qa:=
 match P.underlying k,m with
 | some td,.map (some id)=>(match H.get id with
  | some (.map es)=>bif VC td q then(match Qj7 td q es 0 with
    | some none=>some (H.set id (.map (es++[(q,v)])))
    | some (some (j,_))=>some (H.set id (.map (es.set j (q,v))))
    | none=>none) else none
  | _=>none)
 | _,_=>none
def QBR (a b:ByteArray):(a==b)=(bl a==bl b):=by simp[beq_toListBytes,ByteArray.toList_eq,bl]
def QJE {a b:ByteArray}(h:(a==b)=true):b=a:=by
 rw[QBR]at h;have h:bl a=bl b:=by simpa using h
 rw[<- QsN a,<- QsN b,h]
def Qw9 {q:TypeDesc}{k a:Value}(h:Instr.sameNow q k a=some true):a=k:=by
 cases q<;>cases k<;>cases a<;>simp_all [Instr.sameNow];exact QJE h
def QyU {t k e:TypeId}{m ae v aI aH ab:Value}{ρ:Ren}{w:World}{H':Qa}(ar:Sim P ρ H w)(aF:P.underlying t=some (.map k e))(ad:V ρ m aI)(aN:V ρ ae aH)(aG:V ρ v ab)(h:QsU P k m ae v H=some H'):
  ∃w',(Instr.mapUpdate t aI aH ab).run P w=.ok () w'∧St ρ H w ρ H' w'∧Sim P ρ H' w':=by
 unfold QsU at h;split at h
 ·rename_i aK id ah;split at h
  ·rename_i es ao;cases ag:VC aK ae with
   | false=>rw[ag]at h;cases h
   | true=>
    rw[ag]at h;simp only[Lq]at h;have az:=aN.plain_eq (VD ag);obtain⟨i,aq,ax⟩:=ad.map_inv;obtain⟨q,ac,ap,ai,aj,am,ak⟩:=ar.live id _ i ao aq;have aB:i.at_.block<w.heap.size:=(Nj.1 ap).1;have ay:(getObj i.at_.block).run P w=.ok (.map q ac) w:=by simp[getObj,Sem.run,ap]
    have aE:∀o,(setObj i.at_.block o).run P w=.ok () {w with heap:=w.heap.setIfInBounds i.at_.block o}:=λo=>by simp[setObj,Sem.run,ap]
    have aD:∀o,Gc w {w with heap:=w.heap.setIfInBounds i.at_.block o} i.at_.block:=λo=>⟨λk ah=>by simp[Bn (Ne.symm ah)],by simp,rfl,rfl,rfl⟩;split at h
    ·rename_i an;cases h;have:=Qdg es q.toList 0 none ai aj an;obtain⟨av,aw⟩:=ar.setBlk (b':=.map (es++[(ae,v)])) aq ao rfl (aD (.map (q.push {key:=ae,val:=ab,born:=ac}) (ac+1)))
      ⟨q.push {key:=ae,val:=ab,born:=ac},ac+1,by simp[aB],by simpa using ai.append (.cons (.same ae (VD ag)) (.nil ρ)),by simpa using aj.append (.cons aG (.nil ρ)),by simp[am],λj e aa=>by
       rw[Array.getElem?_push]at aa;split at aa;·rename_i aA;cases aa;show ac=j;rw[am,aA]
       exact ak j e aa⟩
     refine⟨_,?_,av,aw⟩;simp only[Instr.mapUpdate,ax,az,LW,LZ aF,Lz,ay,Qdf ah ag _ 9999,VE ah this,aE]
    ·rename_i j aS an;cases h;obtain⟨_,aV,aQ,aU,a,au,aR,aJ⟩:=Qdg es q.toList 0 (some (j,aS)) ai aj an;have aL:=Qw9 aR;subst aL;have aA:j<es.length:=(Lk.1 au).1;obtain⟨aT,r1,r2⟩:=ai.get (j:=j) (x:=a) (by rw[LD];simp only[Nat.sub_zero]at au;rw[au];rfl);have r3:=r2.plain_eq aJ;rw[LD]at r1;have aO:((q[j]?).map (·.key)).getD a=a:=by
      rw[<- Bl];rw[r1,r3];rfl
     have aP:(Instr.keyThatStays a a).run P w=.ok a w:=by
      have:Instr.sameBits 10000 a a=true:=by
       cases aK<;>cases a<;>simp_all [VC,Instr.sameBits];rw[QBR];simp
      simp only[Instr.keyThatStays,this,N3,Nc]
     have aC:(q.modify j λe=>{e with key:=a,val:=ab}).toList=q.toList.modify j (λe=>{e with key:=a,val:=ab}):=by simp
     obtain⟨av,aw⟩:=ar.setBlk (b':=.map (es.set j (a,v))) aq ao rfl (aD (.map (q.modify j λe=>{e with key:=a,val:=ab}) ac))
      ⟨q.modify j λe=>{e with key:=a,val:=ab},ac,by simp[aB],by
       have:=ai.set (k:=j) (x:=a) (x':=a) (.same a aJ);rw[List.map_set,aC];have e1:List.map (·.key) (q.toList.modify j (λe=>{e with key:=a,val:=ab}))=(List.map (·.key) q.toList).set j a:=by
        apply BA;intro m;rw[LD,List.getElem?_modify,List.getElem?_set,LD]
        by_cases ad:j=m
        ·subst ad;cases aa:q.toList[j]? with
         | none=>rw[aa]at r1;simp at r1
         | some e=>have:=(Lk.1 aa).1;simp at this;simp[this]
        simp[ad]
       rw[e1];exact this,by
       have:=aj.set (k:=j) (x:=v) (x':=ab) aG;rw[List.map_set,aC];have e1:List.map (·.val) (q.toList.modify j (λe=>{e with key:=a,val:=ab}))=(List.map (·.val) q.toList).set j ab:=by
        apply BA;intro m;rw[LD,List.getElem?_modify,List.getElem?_set,LD]
        by_cases ad:j=m
        ·subst ad;cases aa:q.toList[j]? with
         | none=>rw[aa]at r1;simp at r1
         | some e=>have:=(Lk.1 aa).1;simp at this;simp[this]
        simp[ad]
       rw[e1];exact this,by simp[am],λm e aa=>by
       rw[RY]at aa;split at aa;·simp only[Lx]at aa;obtain⟨e0,aM,rfl⟩:=aa;exact ak m e0 aM
       exact ak m e aa⟩
     refine⟨_,?_,av,aw⟩;simp only[Instr.mapUpdate,ax,az,LW,LZ aF,Lz,ay,Qdf ah ag _ 9999,VE ah aQ,aO,aP,aE]
    cases h
  cases h
 cases h
def QsV {t k e:TypeId}{m aa x:Operand}{H':Qa}(ag:P.underlying t=some (.map k e))(h:QsU P k (ev A m) (ev A aa) (ev A x) H=some H'):Qt P ⟨d,.mapUpdate t m aa x,ty,pos,af,g⟩ A H undef H':=
 .of_skip λρ w s ae q=>by
  obtain⟨w',ab,ac,ad⟩:=QyU ae ag (q m (by simp[Op.operands])) (q aa (by simp[Op.operands])) (q x (by simp[Op.operands])) h;exact⟨ρ,w',by simp only[execOp,LW,ab,Lz,Nc],ac,ad⟩
def QAh {t k e:TypeId}{m aa x:Operand}{H':Qa}(ag:P.underlying t=some (.map k e))(h:QsU P k (ev A m) (ev A aa) (ev A x) H=some H'):Qt P ⟨d,.insert t m aa x,ty,pos,af,g⟩ A H undef H':=
 .of_skip λρ w s ae q=>by
  obtain⟨w',ab,ac,ad⟩:=QyU ae ag (q m (by simp[Op.operands])) (q aa (by simp[Op.operands])) (q x (by simp[Op.operands])) h;exact⟨ρ,w',by simp only[execOp,LW,ab,Lz,Nc],ac,ad⟩
/-! ### Strings, gone through -/
def QBS {t:TypeId}{x:Operand}{s:ByteArray}(ae:P.underlying t=some .string)(q:ev A x=.string s):Qt P ⟨d,.range t x,ty,pos,af,g⟩ A H (.pointer (some ⟨H.y,0,none⟩)) (H.push (.iter s 0)):=
 .of_run λρ w a ad ac=>by
  have e1:=Zj (ac x (by simp[Op.operands])) q rfl;obtain⟨aa,ab⟩:=ad.push (.stringIter s 0) (.iter s 0) ⟨⟨w.heap.size,0,none⟩,0,0⟩ rfl ⟨by
   show(w.heap.push (Obj.stringIter s 0))[w.heap.size]? = _;simp,rfl⟩
  refine⟨.pointer (some ⟨w.heap.size,0,none⟩),_,_,?_,.ptr H.y 0 _ (WI _ _ _),aa,ab⟩;simp only[execOp,Instr.range,e1,LW,LZ ae,Lz,FT,Nc,World.alloc]
def Qr7 (H:Qa)(v:Value):Option (Value×Qa):=
 match v with
 | .pointer (some a)=>bif Nat.beq a.off 0 then(match H.get a.block with
  | some (.iter s p)=>if p<s.size then some (.tuple #[.bool true,.int .i64 p,.int .i32 (Utf8.decode s p).1],H.set a.block (.iter s (p+(Utf8.decode s p).2))) else some (.tuple #[.bool false],H)
  | _=>none) else none
 | _=>none
def V.closedT {ρ:Ren}{xs:Array Value}(h:xs.all plain=true):V ρ (.tuple xs) (.tuple xs):=.closed h
def QEu {it:Operand}{v:Value}{H':Qa}(h:Qr7 H (ev A it)=some (v,H')):Qt P ⟨d,.next it true,ty,pos,af,g⟩ A H v H':=
 .of_run λρ w s ae am=>by
  have ai:=am it (by simp[Op.operands]);unfold Qr7 at h;split at h
  ·rename_i a aj;rw[aj]at ai;cases q:Nat.beq a.off 0 with
   | false=>rw[q]at h;cases h
   | true=>
    rw[q]at h;simp only[Lq]at h;have q:a.off=0:=by simpa[Zw] using q
    obtain⟨i,hi,_,aa⟩:=ai.ptr_inv;rw[q]at aa;split at h
    ·rename_i st p ag;obtain⟨ab,ac⟩:=ae.live _ _ i ag hi;have ak:i.at_.add 0=⟨i.at_.block,0,i.at_.spot⟩:=by
      unfold Addr.add;simp;obtain⟨⟨b,o,au⟩,_,_⟩:=i;simp at ac ⊢;exact ac
     rw[ak]at aa;have ah:(getObj i.at_.block).run P w=.ok (.stringIter st p) w:=by simp[getObj,Sem.run,ab]
     split at h
     ·rename_i ad;cases h;have ap:∀o,(setObj i.at_.block o).run P w=.ok () {w with heap:=w.heap.setIfInBounds i.at_.block o}:=λo=>by simp[setObj,Sem.run,ab]
      have ao:i.at_.block<w.heap.size:=(Nj.1 ab).1;obtain⟨aq,ar⟩:=ae.setBlk (b':=.iter st (p+(Utf8.decode st p).2)) hi ag rfl (w':={w with heap:=w.heap.setIfInBounds i.at_.block (.stringIter st (p+(Utf8.decode st p).2))})
       ⟨λk an=>by simp[Bn (Ne.symm an)],by simp,rfl,rfl,rfl⟩ ⟨by simp[ao],ac⟩
      refine⟨.tuple #[.bool true,.int .i64 p,.int .i32 (Utf8.decode st p).1],ρ,_,?_,.closedT (by simp[plain]),aq,ar⟩;simp only[execOp,Instr.next,aa,LW,ah,Lz,ad,N3,ap,Nc,goInt]
     rename_i ad;cases h;refine⟨.tuple #[.bool false],ρ,w,?_,.closedT (by simp[plain]),.refl _ _ _,ae⟩;simp only[execOp,Instr.next,aa,LW,ah,Lz,ad,LN,Nc]
    cases h
  cases h
/-! ### Maps gone through, where the next entry is the only one -/
/-! ### Copies -/
def QyV (size:Nat)(x y:Value)(H:Qa):Option (Value×Qa):=
 match Zx size y H with
 | none=>none
 | some (m,news)=>
  match x with
  | .slice none 0 _=>some (.int .i64 0,H)
  | .slice (some a) len _=>
   if Nat.min m len=0 then some (.int .i64 0,H) else
   match H.get a.block with
   | some (.cells c e false)=>
    if a.off+Nat.min m len * size<=c.length∧(news.take (Nat.min m len * size)).all (·.oneCell')=true then some (.int .i64 (Nat.min m len:Nat),H.set a.block (.cells (splice c a.off (news.take (Nat.min m len * size))) e false)) else none
   | _=>none
  | _=>none
def QEv {t t2 e:TypeId}{x y:Operand}{ae:TypeInfo}{v:Value}{H':Qa}(am:P.underlying t=some (.slice e))(hi:P.info? e=some ae)(h:QyV ae.size (ev A x) (ev A y) H=some (v,H')):
  Qt P ⟨d,.call ⟨.builtin .copy,#[x,y],#[t,t2]⟩,ty,pos,af,g⟩ A H v H':=
 .of_run λρ w s ab aq=>by
  have ad:=aq x (by simp[Op.operands,Call.operands]);have an:=aq y (by simp[Op.operands,Call.operands])
  suffices aF:∃ag ρ' w',(Builtin.copy_ #[t,t2] ty #[s.eval x,s.eval y]).run P w=.ok ag w'∧V ρ' v ag∧St ρ H w ρ' H' w'∧Sim P ρ' H' w' by
   obtain⟨ag,ρ',w',aw,ax,ay,az⟩:=aF;refine⟨ag,ρ',w',?_,ax,ay,az⟩;rw[Xm];simp only[builtin,R9,NZ,Bq,LW,aw,Lz,Nc]
  generalize ev A x=u at ad h;generalize ev A y=u2 at an h;generalize s.eval x=x' at ad;generalize s.eval y=y' at an;unfold QyV at h;split at h;·cases h
  rename_i m aK aH;obtain⟨ak,aD,ai⟩:=QyS ab an aH;have aj:∀ (b:Option Addr) (ah ao:Nat),Builtin.copy_ #[t,t2] ty #[.slice b ah ao,y']=(do
    let .slice elem <- underlying t | stuck "copy: slice type expected"
    let n:=Nat.min (<- Builtin.lenOf y') ah
    let cells <- Builtin.firstCells (<- sizeOf elem) n y'
    if let some a:=b then storeCells a cells.toList
    pure (goInt n)):=λb ah ao=>rfl
  split at h;·rename_i cap;cases h;rw[ad.plain_eq rfl];obtain⟨c',_,aa⟩:=ai 0 (by omega);refine⟨.int .i64 0,ρ,w,?_,.same _ rfl,.refl _ _ _,ab⟩;rw[aj];have q:Nat.min m 0=0:=Nat.min_zero m;simp only[LW,LZ am,Lz,ak,Wr hi,q,aa w (λ_=>rfl),Nc,goInt];rfl
  ·rename_i a len cap;obtain⟨i,av,aN,g1,g2,g3,g4,aP,aO,aQ,aR⟩:=ad.slice_inv;rw[g3];split at h
   ·rename_i q;cases h;obtain⟨c',ac,aa⟩:=ai 0 (by omega);have aC:c'=[]:=by simp at ac;exact ac.unnil
    subst aC;refine⟨.int .i64 0,ρ,w,?_,.same _ rfl,.refl _ _ _,ab⟩;rw[aj];simp only[LW,LZ am,Lz,ak,Wr hi,q,aa w (λ_=>rfl),Nc,goInt];rfl
   rename_i q;split at h
   ·rename_i c e' ar;split at h
    ·rename_i ap;cases h;obtain⟨c',ac,aa⟩:=ai (Nat.min m len) (Nat.min_le_left _ _);have aE:len≠0:=λe=>q (by rw[e];exact Nat.min_zero m);have aA:av=i.at_.add a.off:=by rcases g4 with h | ⟨h,_⟩;exact h;exact absurd h aE
     have aI:(aK.take (Nat.min m len * ae.size)).length=Nat.min m len * ae.size:=by
      rw[Sb,aD];exact BC (Bs _ (Nat.min_le_left _ _))
     obtain⟨w',au,aG,aB⟩:=(ab.live _ _ i ar g1).storeList (off:=a.off) ac (by rw[aI];exact ap.1) (λu aJ=>Li.1 ap.2 u aJ);obtain⟨aL,aM⟩:=ab.setBlk g1 ar rfl aG aB;refine⟨.int .i64 (Nat.min m len:Nat),ρ,w',?_,.same _ rfl,aL,aM⟩;rw[aj];rw[<- aA]at au;simp only[LW,LZ am,Lz,ak,Wr hi,aa w (λ_=>rfl),au,Nc,goInt]
    cases h
   cases h
  cases h
end
end Go.Ab
