/- Equality, assertions of types. -/
import Derived.Test.YtgepgbbjfhggfaaGreatDoorAbA
import Derived.Lib.Builder
import Derived.Scope
import Derived.Lib.UnsafeStr
import Derived.Laws.BytesString
set_option linter.unusedVariables false
set_option linter.unusedSimpArgs false
noncomputable section
namespace Go.Ab
def X0 (P:Program)(eq:TypeId->Value->Value->Option Bool):List Field->Array Value->Array Value->Option Bool
 | [],_,_=>some true
 | fd::fs,xs,ys=>
  if fd.name = "_" then X0 P eq fs xs ys else
  match QcZ P fd.type xs fd.offset,QcZ P fd.type ys fd.offset with
  | some a,some b=>match eq fd.type a b with
   | some true=>X0 P eq fs xs ys
   | r=>r
  | _,_=>none
def aeq (P:Program):Nat->TypeId->Value->Value->Option Bool
 | 0,_,_,_=>none
 | f+1,t,x,y=>
  match P.underlying t with
  | some .bool=>match x,y with | .bool a,.bool b=>some (a==b) | _,_=>none
  | some (.int _)=>match x,y with | .int k a,.int k' b=>if k=k' then some (a==b) else none | _,_=>none
  | some .string=>match x,y with | .string a,.string b=>some (bl a==bl b) | _,_=>none
  | some (.pointer q)=>match x,y with
   | .pointer none,.pointer b=>some b.isNone
   | .pointer (some _),.pointer none=>some false
   | .pointer (some a),.pointer (some b)=>(match P.info? q with | some j=>if j.size≠0∧a.block=b.block∧a.off=b.off then some true else none | none=>none)
   | _,_=>none
  | some (.slice _)=>match x,y with | .slice none _ _,.slice b _ _=>some b.isNone | .slice (some _) _ _,.slice none _ _=>some false | _,_=>none
  | some (.map _ _)=>match x,y with | .map none,.map b=>some b.isNone | .map (some _),.map none=>some false | _,_=>none
  | some (.func _ _ _)=>match x,y with | .nilFunc,.nilFunc=>some true | .nilFunc,.func _ _ _=>some false | .func _ _ _,.nilFunc=>some false | _,_=>none
  | some (.interface _)=>match x,y with
   | .nilIface,.nilIface=>some true
   | .nilIface,.iface _ _=>some false
   | .iface _ _,.nilIface=>some false
   | .iface tx vx,.iface ty vy=>if tx=ty then(match P.info? tx with | some aa=>if aa.comparable then aeq P f tx vx vy else none | none=>none) else some false
   | _,_=>none
  | some (.struct fs)=>match x,y with | .agg xs,.agg ys=>if P.stoodInHeld t then none else X0 P (aeq P f) fs.toList xs ys | _,_=>none
  | _=>none
section
variable {P:Program} {n:Nat} {A:Env} {H:Qa} {d:Option Nat} {ty:TypeId} {pos:String} {af:Array Edge} {g:Option (Nat×Bool)}
theorem V.nilness {ρ:Ren}{x x':Value}(h:V ρ x x'):(∀a l c,x=.slice a l c->∃q ab c',x'=.slice q ab c'∧q.isNone=a.isNone)∧(∀a,x=.pointer a->∃q,x'=.pointer q∧q.isNone=a.isNone)∧(∀a,x=.map a->∃q,x'=.map q∧q.isNone=a.isNone)∧
  (∀f a b,x=.func f a b->∃aa q b',x'=.func aa q b'):=by
 cases h with
 | same v ac=>exact⟨λa l c e=>⟨a,l,c,e,rfl⟩,λa e=>⟨a,e,rfl⟩,λa e=>⟨a,e,rfl⟩,λf a b e=>⟨f,a,b,e⟩⟩
 | _=>simp
theorem Qds (w:World){eq:TypeId->Value->Value->Option Bool}{ah:Nat}{ρ:Ren}(ac:∀t x y x' ak b,V ρ x x'->V ρ y ak->eq t x y=some b->(Op.equalIn ah t x' ak).run P w=.ok b w):
  ∀ (ab:List Field) (xs ys q aa:Array Value) (b:Bool),VL ρ xs.toList q.toList->VL ρ ys.toList aa.toList->X0 P eq ab xs ys=some b->(Op.eqFields ah q aa ab).run P w=.ok b w
 | [],xs,ys,q,aa,b,hx,hy,h=>by simp[X0]at h;subst h;rfl
 | fd::ab,xs,ys,q,aa,b,hx,hy,h=>by
  unfold X0 at h;unfold Op.eqFields;split at h
  ·rename_i ad;rw[Le (by simpa using ad)];exact Qds w ac ab xs ys q aa b hx hy h
  ·rename_i ad;rw[Lc (by simpa using ad)];split at h
   ·rename_i a b' al hb;obtain⟨a1,an,ai⟩:=QnF hx al w;obtain⟨ag,ao,aj⟩:=QnF hy hb w;simp only[LW,an,Lz,ao];split at h
    ·rename_i ae;rw[ac fd.type a b' a1 ag true ai aj ae];simp only[Lz,L8,LV,LN];exact Qds w ac ab xs ys q aa b hx hy h
    ·rename_i r ae;have am:b=false:=by
      cases b with
      | false=>rfl
      | true=>exact absurd h ae
     subst am;rw[ac fd.type a b' a1 ag false ai aj h];simp
   ·cases h
set_option maxHeartbeats 1000000 in
theorem Qpo (w:World):∀ (f:Nat) (t:TypeId) (ρ:Ren) (x y x' ad:Value) (b:Bool),V ρ x x'->V ρ y ad->aeq P f t x y=some b->∀ac,f<=ac->(Op.equalIn ac t x' ad).run P w=.ok b w
 | 0,t,ρ,x,y,x',ad,b,hx,hy,h,ac,hd=>by simp[aeq]at h
 | f+1,t,ρ,x,y,x',ad,b,hx,hy,h,ac,hd=>by
  obtain⟨ac,rfl⟩:∃k,ac=k+1:=⟨ac - 1,by omega⟩;unfold aeq at h;split at h
  ·rename_i aa;split at h
   ·cases h;rw[hx.plain_eq rfl,hy.plain_eq rfl];simp[Op.equalIn,LZ aa]
   ·cases h
  ·rename_i k aa;split at h
   ·split at h
    ·rename_i e;subst e;cases h;rw[hx.plain_eq rfl,hy.plain_eq rfl];simp[Op.equalIn,LZ aa]
    ·cases h
   ·cases h
  ·rename_i aa;split at h
   ·cases h;rw[hx.plain_eq rfl,hy.plain_eq rfl];simp[Op.equalIn,LZ aa,beq_toListBytes,ByteArray.toList_eq,bl]
   ·cases h
  ·rename_i q aa;split at h
   ·cases h;rw[hx.plain_eq rfl];obtain⟨ab,e,e'⟩:=hy.nilness.2.1 _ rfl;rw[e,<- e'];simp[Op.equalIn,LZ aa]
   ·cases h;rw[hy.plain_eq rfl];obtain⟨ab,e,e'⟩:=hx.nilness.2.1 _ rfl;cases ab with
    | none=>simp at e'
    | some ab=>rw[e];simp[Op.equalIn,LZ aa]
   ·rename_i a1 aJ;split at h
    ·rename_i j ay;split at h
     ·rename_i av;obtain⟨aK,aq,ar⟩:=av;cases h;obtain⟨aL,ak,aO,aC⟩:=hx.ptr_inv;obtain⟨aM,al,aD,am⟩:=hy.ptr_inv;rw[aq,al]at ak;cases ak;rw[aC,am,ar];simp[Op.equalIn,LZ aa,sizeOf,typeInfo,ay,run_sameAddr_same]
     ·cases h
    ·cases h
   ·cases h
  ·rename_i q aa;split at h
   ·cases h;rw[hx.plain_eq rfl];obtain⟨ab,aB,c',e,e'⟩:=hy.nilness.1 _ _ _ rfl;rw[e,<- e'];simp[Op.equalIn,LZ aa]
   ·cases h;rw[hy.plain_eq rfl];obtain⟨ab,aB,c',e,e'⟩:=hx.nilness.1 _ _ _ rfl;cases ab with
    | none=>simp at e'
    | some ab=>rw[e];simp[Op.equalIn,LZ aa]
   ·cases h
  ·rename_i q aP aa;split at h
   ·cases h;rw[hx.plain_eq rfl];obtain⟨ab,e,e'⟩:=hy.nilness.2.2.1 _ rfl;rw[e,<- e'];simp[Op.equalIn,LZ aa]
   ·cases h;rw[hy.plain_eq rfl];obtain⟨ab,e,e'⟩:=hx.nilness.2.2.1 _ rfl;cases ab with
    | none=>simp at e'
    | some ab=>rw[e];simp[Op.equalIn,LZ aa]
   ·cases h
  ·rename_i al aD am aa;split at h
   ·cases h;rw[hx.plain_eq rfl,hy.plain_eq rfl];simp[Op.equalIn,LZ aa]
   ·cases h;obtain⟨au,ab,b',e⟩:=hy.nilness.2.2.2 _ _ _ rfl;rw[hx.plain_eq rfl,e];simp[Op.equalIn,LZ aa]
   ·cases h;obtain⟨au,ab,b',e⟩:=hx.nilness.2.2.2 _ _ _ rfl;rw[hy.plain_eq rfl,e];simp[Op.equalIn,LZ aa]
   ·cases h
  ·rename_i ms aa;split at h
   ·cases h;rw[hx.plain_eq rfl,hy.plain_eq rfl];simp[Op.equalIn,LZ aa]
   ·cases h;obtain⟨aF,e,_⟩:=hy.iface_inv;rw[hx.plain_eq rfl,e];simp[Op.equalIn,LZ aa]
   ·cases h;obtain⟨aF,e,_⟩:=hx.iface_inv;rw[hy.plain_eq rfl,e];simp[Op.equalIn,LZ aa]
   ·rename_i aE vx aQ aI;obtain⟨aG,e1,ag⟩:=hx.iface_inv;obtain⟨aH,e2,ah⟩:=hy.iface_inv;rw[e1,e2];split at h
    ·rename_i ae;subst ae;split at h
     ·rename_i aN ax;split at h
      ·rename_i aw;have aA:=Qpo w f aE ρ vx aI aG aH b ag ah h ac (by omega);simp only[Op.equalIn,LW,LZ aa,Lz,Da,BE,LN,typeInfo,DJ,ax,Nc,aw,L8,LV,aA]
      ·cases h
     ·cases h
    ·rename_i ae;cases h;simp[Op.equalIn,LZ aa,ae]
   ·cases h
  ·rename_i ai aa;split at h
   ·rename_i xs ys;split at h
    ·cases h
    ·rename_i az;obtain⟨an,e1,ag⟩:=hx.agg_inv;obtain⟨ao,e2,ah⟩:=hy.agg_inv;rw[e1,e2];have aj:P.fieldsOf t=ai:=by simp[Program.fieldsOf,aa]
     rw[run_equalIn_struct w ac t an ao (by rw[aj];exact aa) (by simpa using az),aj];exact Qds w (λt x y x' ad b a1 a2 a3=>Qpo w f t ρ x y x' ad b a1 a2 a3 ac (by omega)) ai.toList xs ys an ao b ag ah h
   ·cases h
  ·cases h
def Qcx:Value->Bool
 | .int _ _ | .string _ | .float _ _ | .complex _ _ _=>false
 | _=>true
def QmF:Value->Bool
 | .nilIface=>true
 | _=>false
def Qvk:Value->Bool
 | .agg _=>true
 | _=>false
def Qj3:Operand->Bool
 | .const _=>true
 | _=>false
def JI (P:Program)(k:Bool)(t:TypeId)(x y:Value):Bool:=(k||!(QmF x&&QmF y))&&!(Qvk x&&Qvk y&&P.eqGuardType P.depth t)
def Qqn (P:Program)(k:Bool)(op:BinOp)(t:TypeId)(x y:Value):Option Value:=
 if Qcx x&&Qcx y&&JI P k t x y then
  match op with
  | .eql=>(aeq P 20 t x y).map .bool
  | .neq=>(aeq P 20 t x y).map λb=>.bool !b
  | _=>none
 else none
theorem V.notNum_eq {ρ:Ren}{x x':Value}(h:V ρ x x'):Qcx x'=Qcx x:=by cases h<;>rfl
theorem V.isNI_eq {ρ:Ren}{x x':Value}(h:V ρ x x'):QmF x'=QmF x:=by cases h<;>rfl
theorem V.isAg_eq {ρ:Ren}{x x':Value}(h:V ρ x x'):Qvk x'=Qvk x:=by cases h<;>rfl
theorem V.guard_eq {ρ:Ren}{x x' y q:Value}(k:Bool)(t:TypeId)(h:V ρ x x')(h':V ρ y q):JI P k t x' q=JI P k t x y:=by
 simp only[JI,h.isNI_eq,h'.isNI_eq,h.isAg_eq,h'.isAg_eq]
theorem QBD (t:TypeId)(x y:Value)(h:Qcx x=true):binOp .eql t x y=(do pure (.bool (<- Op.equal t x y))):=by
 cases x<;>simp[Qcx]at h<;>(cases y<;>rfl)
theorem QBE (t:TypeId)(x y:Value)(h:Qcx x=true):binOp .neq t x y=(do pure (.bool (!(<- Op.equal t x y)))):=by
 cases x<;>simp[Qcx]at h<;>(cases y<;>rfl)
theorem QBF (op:BinOp)(t:TypeId)(x y:Operand)(a b:Value)(w:World)(h:JI P (Qj3 x||Qj3 y) t a b=true):(eqGuard op t x y a b).run P w=.ok () w:=by
 by_cases q:QmF a=true∧QmF b=true
 ·obtain⟨aa,ab⟩:=q;cases a<;>simp[QmF]at aa;cases b<;>simp[QmF]at ab;have ac:(Qj3 x||Qj3 y)=true:=by
   cases ad:(Qj3 x||Qj3 y) with
   | true=>rfl
   | false=>rw[ad]at h;simp[JI,QmF]at h
  cases op<;>first
   | rfl
   | (cases x<;>cases y<;>first | rfl | (simp[Qj3]at ac))
 ·cases a<;>cases b<;>simp[JI,QmF,Qvk]at h q<;>first
   | (cases op<;>rfl)
   | (cases op<;>simp[eqGuard,DJ,h])
theorem QID {op:BinOp}{t ai:TypeId}{x y:Operand}{v:Value}(h:Qqn P (Qj3 x||Qj3 y) op t (ev A x) (ev A y)=some v):QD P ⟨d,.binOp op t x y ai,ty,pos,af,g⟩ A H v H:=
 .pure_ λρ w s ak ae=>by
  have q:=ae x (by simp[Op.operands]);have ab:=ae y (by simp[Op.operands]);generalize ev A x=u at q h;generalize ev A y=u2 at ab h;have ah:∀b,aeq P 20 t u u2=some b->(Op.equal t (s.eval x) (s.eval y)).run P w=.ok b w:=λb hb=>Qpo w 20 t ρ u u2 _ _ b q ab hb 10000 (by omega);unfold Qqn at h;split at h
  ·rename_i ad;simp only[Lm]at ad;obtain⟨⟨aa,aj⟩,ac⟩:=ad;rw[<- q.notNum_eq]at aa;rw[<- V.guard_eq _ t q ab]at ac;have ag:=QBF (P:=P) op t x y _ _ w ac;split at h
   ·simp only[Lx]at h;obtain⟨b,hb,rfl⟩:=h;refine⟨.bool b,?_,.same _ rfl⟩;simp only[execOp,LW,ag,Lz,QBD _ _ _ aa,ah b hb,Nc]
   ·simp only[Lx]at h;obtain⟨b,hb,rfl⟩:=h;refine⟨.bool !b,?_,.same _ rfl⟩;simp only[execOp,LW,ag,Lz,QBE _ _ _ aa,ah b hb,Nc]
   ·cases h
  ·cases h
/-! ### Assertions of types -/
end
section
variable {P:Program}
def Qa.ofFn (next:Nat)(f:Nat->Option Blk):Qa:=⟨next,(List.range next).foldl (λt id=>t.set id (f id)) .nil⟩
theorem Qur (f:Nat->Option Blk):∀ (l:List Nat) (t:Tr Blk) (id:Nat),(l.foldl (λt id=>t.set id (f id)) t).get id=if id∈l then f id else t.get id
 | [],t,id=>by simp
 | x::l,t,id=>by
  simp only[FQ];rw[Qur f l,Tr.get_set]
  by_cases q:id∈l
  ·simp[q]
  ·by_cases aa:id=x
   ·subst aa;simp
   ·simp[q,aa]
theorem Qa.get_ofFn (next:Nat)(f:Nat->Option Blk)(id:Nat):(Qa.ofFn next f).get id=if id<next then f id else none:=by
 unfold Qa.ofFn Qa.get;rw[Qur];simp[Tr.get_nil]
def QrY (ρ ρ':Ren):Ren:=λid=>match ρ' id with | some i=>some i | none=>ρ id
theorem Gl {ρ ρ':Ren}{id:Nat}(h:ρ' id=none):QrY ρ ρ' id=ρ id:=by simp[QrY,h]
theorem JJ {ρ ρ':Ren}{id:Nat}{i:Kj}(h:ρ' id=some i):QrY ρ ρ' id=some i:=by simp[QrY,h]
structure St0 (ρ:Ren) (H:Qa) (w:World) (ρ':Ren) (H':Qa) (w':World):Prop where
 mono:Sub ρ ρ'
 next:H.next<=H'.next
 dead:∀id i,ρ id=some i->H.get id=none->H'.get id=none
 ro:∀id i b b',ρ id=some i->H.get id=some b->b.ro=true->H'.get id=some b'->b'.ro=true
 fresh:∀id i,ρ' id=some i->ρ id=none->w.heap.size<=i.at_.block∨∃id0 i0 b0,ρ id0=some i0∧i0.at_.block=i.at_.block∧H.get id0=some b0∧b0.ro=false
 os:w'.os=w.os
 tape:w'.tape=w.tape
 output:w'.output=w.output
 size:w.heap.size<=w'.heap.size
 frame:∀b,b<w.heap.size->(∀id i bl,ρ id=some i->H.get id=some bl->bl.ro=false->i.at_.block≠b)->w'.heap[b]? = w.heap[b]?
theorem St.to0 {ρ ρ':Ren}{H H':Qa}{w w':World}(h:St ρ H w ρ' H' w'):St0 ρ H w ρ' H' w':=
 ⟨h.mono,h.next,h.dead,h.ro,λid i a b=>(h.fresh id i a b).2,h.os,h.tape,h.output,h.size,h.frame⟩
theorem St0.full {ρ ρ':Ren}{H H':Qa}{w w':World}(h:St0 ρ H w ρ' H' w')(q:∀id i,ρ' id=some i->ρ id=none->H.next<=id):St ρ H w ρ' H' w':=
 ⟨h.mono,h.next,h.dead,h.ro,λid i a b=>⟨q id i a b,h.fresh id i a b⟩,h.os,h.tape,h.output,h.size,h.frame⟩
theorem St0.owned {ρ:Ren}{H:Qa}{w:World}{ρ':Ren}{H':Qa}{w':World}(h:St0 ρ H w ρ' H' w'){id:Nat}{i:Kj}{bl:Blk}
  (ad:ρ' id=some i) (ab:H'.get id=some bl) (ae:bl.ro=false):
  w.heap.size<=i.at_.block∨∃ag q b0,ρ ag=some q∧q.at_.block=i.at_.block∧H.get ag=some b0∧b0.ro=false:=by
 cases aa:ρ id with
 | none=>exact h.fresh id i ad aa
 | some q=>
  have:q=i:=by have:=h.mono id q aa;rw[ad]at this;cases this;rfl
  subst this;cases ac:H.get id with
  | none=>rw[h.dead id q aa ac]at ab;cases ab
  | some b0=>
   refine .inr ⟨id,q,b0,aa,rfl,ac,?_⟩;cases ah:b0.ro with
   | false=>rfl
   | true=>rw[h.ro id q b0 bl aa ac ah ab]at ae;cases ae
theorem St0.trans {ρ ρ1 ρ2:Ren}{H H1 H2:Qa}{w al am:World}(a:St0 ρ H w ρ1 H1 al)(b:St0 ρ1 H1 al ρ2 H2 am):St0 ρ H w ρ2 H2 am where
 mono:=a.mono.trans b.mono
 next:=N8 a.next b.next
 dead:=λid i h h'=>b.dead id i (a.mono _ _ h) (a.dead id i h h')
 ro:=λid i bl an h ab q aa=>by
  cases ac:H1.get id with
  | none=>rw[b.dead id i (a.mono _ _ h) ac]at aa;cases aa
  | some ag=>exact b.ro id i ag an (a.mono _ _ h) ac (a.ro id i bl ag h ab q ac) aa
 fresh:=λid i h h'=>by
  cases ad:ρ1 id with
  | some ae=>
   have:ae=i:=by have:=b.mono id ae ad;rw[h]at this;cases this;rfl
   subst this;exact a.fresh id ae ad h'
  | none=>
   rcases b.fresh id i h ad with q | ⟨ak,aj,b0,e1,e2,e3,e4⟩
   ·exact .inl (N8 a.size q)
   ·rw[<- e2];exact a.owned e1 e3 e4
 os:=b.os.trans a.os
 tape:=b.tape.trans a.tape
 output:=b.output.trans a.output
 size:=N8 a.size b.size
 frame:=λah hb ai=>by
  rw[b.frame ah (N5 hb a.size) ?_,a.frame ah hb ai];intro id i bl ab q aa e;rcases a.owned ab q aa with h | ⟨ak,aj,b0,e1,e2,e3,e4⟩
  ·omega
  ·exact ai ak aj b0 e1 e3 e4 (e2.trans e)
def QA (ρ1:Ren)(G h h':Qa)(id:Nat):Option Blk:=
 if id<h.next then(match ρ1 id,h.get id with | some _,some _=>h'.get id | _,_=>G.get id) else if id<h'.next then h'.get id else G.get id
def QrZ (ρ1:Ren)(G h h':Qa):Qa:=Qa.ofFn (max G.next h'.next) (QA ρ1 G h h')
theorem V1 {ρ1:Ren}{G h h':Qa}{id:Nat}(q:id<max G.next h'.next):(QrZ ρ1 G h h').get id=QA ρ1 G h h' id:=by
 unfold QrZ;rw[Qa.get_ofFn,Lc q]
theorem Qr0 {ρ1:Ren}{G h h':Qa}{id:Nat}{i:Kj}{b:Blk}(q:id<h.next)(aa:ρ1 id=some i)(ab:h.get id=some b):QA ρ1 G h h' id=h'.get id:=by
 simp[QA,q,aa,ab]
theorem Qus {ρ1:Ren}{G h h':Qa}{id:Nat}(q:h.next<=id)(aa:id<h'.next):QA ρ1 G h h' id=h'.get id:=by
 simp[QA,Nat.not_lt.2 q,aa]
theorem Qut {ρ1:Ren}{G h h':Qa}{id:Nat}(q:h.next<=id)(aa:h'.next<=id):QA ρ1 G h h' id=G.get id:=by
 simp[QA,Nat.not_lt.2 q,Nat.not_lt.2 aa]
theorem QmG {ρ1:Ren}{G h h':Qa}{id:Nat}(aa:id<h.next)(q:ρ1 id=none∨h.get id=none):QA ρ1 G h h' id=G.get id:=by
 unfold QA;rw[Lc aa];rcases q with q | q<;>rw[q]<;>(try (cases ρ1 id))<;>rfl
theorem Qcy {ρ ρ1 ρ':Ren}{G h h':Qa}{w w':World}(sub:Sub ρ1 ρ)(ag:Sim P ρ1 h w)
  (aj:∀id,h.next<=id->id<h'.next->ρ id=none) (step:St ρ1 h w ρ' h' w') (ah:Sim P ρ' h' w') {id:Nat} {i:Kj} {b:Blk} (hi:QrY ρ ρ' id=some i) (hb:QA ρ1 G h h' id=some b):
  (ρ' id=some i∧h'.get id=some b∧((∃b0,ρ1 id=some i∧h.get id=some b0)∨(ρ1 id=none∧ρ id=none)))∨(ρ id=some i∧G.get id=some b∧(ρ1 id=none∨h.get id=none)):=by
 have ad:∀j,ρ' id=some j->i=j:=λj ai=>by rw[JJ ai]at hi;cases hi;rfl
 by_cases q:id<h.next
 ·cases e1:ρ1 id with
  | none=>
   rw[QmG q (.inl e1)]at hb;have:ρ' id=none:=by
    cases e:ρ' id with
    | none=>rfl
    | some j=>have:=(step.fresh id j e e1).1;omega
   rw[Gl this]at hi;exact .inr ⟨hi,hb,.inl rfl⟩
  | some ae=>
   have ab:=step.mono id ae e1;obtain rfl:=ad ae ab;cases e2:h.get id with
   | none=>
    rw[QmG q (.inr e2)]at hb;exact .inr ⟨sub id i e1,hb,.inr rfl⟩
   | some b0=>
    rw[Qr0 q e1 e2]at hb;exact .inl ⟨ab,hb,.inl ⟨b0,rfl,rfl⟩⟩
 ·have e1:ρ1 id=none:=by
   cases e:ρ1 id with
   | none=>rfl
   | some j=>have:=ag.dom id j e;omega
  by_cases aa:id<h'.next
  ·rw[Qus (by omega) aa]at hb;have ac:=aj id (by omega) aa;cases e:ρ' id with
   | none=>rw[Gl e,ac]at hi;cases hi
   | some j=>obtain rfl:=ad j e;exact .inl ⟨rfl,hb,.inr ⟨e1,ac⟩⟩
  ·rw[Qut (by omega) (by omega)]at hb;have:ρ' id=none:=by
    cases e:ρ' id with
    | none=>rfl
    | some j=>have:=ah.dom id j e;omega
   rw[Gl this]at hi;exact .inr ⟨hi,hb,.inl e1⟩
theorem QyU {ρ ρ1 ρ':Ren}{G h h':Qa}{w w':World}(ai:Sim P ρ G w)(sub:Sub ρ1 ρ)(az:Sim P ρ1 h w)(an:∀id i b,ρ1 id=some i->h.get id=some b->G.get id=some b)
  (aw:∀id,h.next<=id->id<h'.next->ρ id=none) (step:St ρ1 h w ρ' h' w') (ae:Sim P ρ' h' w'):
  St0 ρ G w (QrY ρ ρ') (QrZ ρ1 G h h') w'∧Sim P (QrY ρ ρ') (QrZ ρ1 G h h') w'∧
   (∀id i b,ρ id=some i->G.get id=some b->(ρ1 id=none∨h.get id=none)->w'.heap[i.at_.block]? = w.heap[i.at_.block]?):=by
 have ar:Sub ρ (QrY ρ ρ'):=λid i hi=>by
  cases e:ρ' id with
  | none=>rw[Gl e];exact hi
  | some j=>
   rw[JJ e];cases e1:ρ1 id with
   | some ag=>have:=step.mono id ag e1;rw[e]at this;cases this;have:=sub id j e1;rw[hi]at this;exact this.symm
   | none=>
    have aP:=(step.fresh id j e e1).1;have hb:=ae.dom id j e;rw[aw id aP hb]at hi;cases hi
 have aT:Sub ρ' (QrY ρ ρ'):=λid i hi=>JJ hi;have aN:∀id i b,ρ id=some i->G.get id=some b->(ρ1 id=none∨h.get id=none)->w'.heap[i.at_.block]? = w.heap[i.at_.block]? := λid i b hi hb aj=>
  step.frame _ (ai.live id b i hb hi).lt (λav ag bl a1 a2 a3 a4=>by
   have aF:av≠id:=λe=>by subst e;rcases aj with aj | aj;(rw[aj]at a1;cases a1);(rw[aj]at a2;cases a2)
   exact ai.sep av id bl b ag i (an av ag bl a1 a2) hb (sub _ _ a1) hi a3 aF a4)
 have aA:∀id i,QrY ρ ρ' id=some i->id<max G.next h'.next:=λid i hi=>by
  cases e:ρ' id with
  | none=>rw[Gl e]at hi;have:=ai.dom id i hi;omega
  | some j=>have:=ae.dom id j e;omega
 refine⟨⟨ar,Nat.le_max_left _ _,λid i hi al=>?_,λid i b b' hi al aM hb=>?_,λid i hi aB=>?_,step.os,step.tape,step.output,step.size,λaO aR aB=>?_⟩,⟨aA,λid b i hb hi=>?_,λav aH aI aJ ag aG g1 g2 g3 g4 aE aL=>?_,λg al=>?_⟩,aN⟩
 ·rw[V1 (aA id i (ar id i hi))];cases hb:QA ρ1 G h h' id with
  | none=>rfl
  | some b=>
   rcases Qcy sub az aw step ae (ar id i hi) hb with⟨_,_,⟨b0,e1,e2⟩ | ⟨_,e2⟩⟩ | ⟨_,e2,_⟩
   ·rw[an id i b0 e1 e2]at al;cases al
   ·rw[hi]at e2;cases e2
   ·rw[al]at e2;cases e2
 ·rw[V1 (aA id i (ar id i hi))]at hb;rcases Qcy sub az aw step ae (ar id i hi) hb with⟨_,e0,⟨b0,e1,e2⟩ | ⟨_,e2⟩⟩ | ⟨_,e2,_⟩
  ·have:=an id i b0 e1 e2;rw[al]at this;cases this;exact step.ro id i b b' e1 e2 aM e0
  ·rw[hi]at e2;cases e2
  ·rw[al]at e2;cases e2;exact aM
 ·cases e:ρ' id with
  | none=>rw[Gl e,aB]at hi;cases hi
  | some j=>
   rw[JJ e]at hi;cases hi;have e1:ρ1 id=none:=by
    cases e1:ρ1 id with
    | none=>rfl
    | some ag=>rw[sub id ag e1]at aB;cases aB
   rcases(step.fresh id i e e1).2 with aq | ⟨q,aa,b0,a1,a2,a3,a4⟩
   ·exact .inl aq
   ·exact .inr ⟨q,aa,b0,sub _ _ a1,a2,an q aa b0 a1 a3,a4⟩
 ·exact step.frame aO aR (λid i bl a1 a2 a3=>aB id i bl (sub _ _ a1) (an id i bl a1 a2) a3)
 ·rw[V1 (aA id i hi)]at hb;rcases Qcy sub az aw step ae hi hb with⟨e0,e1,_⟩ | ⟨e0,e1,e2⟩
  ·exact(ae.live id b i e1 e0).mono aT rfl
  ·exact(ai.live id b i e1 e0).mono ar (aN id i b e0 e1 e2)
 ·rw[V1 (aA av ag g3)]at g1;rw[V1 (aA aH aG g4)]at g2;have aK:∀ {ab ak:Nat} {ah au:Kj} {aD ao:Blk},ρ' ab=some ah->h'.get ab=some aD->((∃b0,ρ1 ab=some ah∧h.get ab=some b0)∨(ρ1 ab=none∧ρ ab=none))->ρ ak=some au->G.get ak=some ao->(ρ1 ak=none∨h.get ak=none)->(aD.ro=false∨ao.ro=false)->ah.at_.block≠au.at_.block:=by
   intro ab ak ah au aD ao am ax aC ac ad ay aU;have aV:=(ai.live ak ao au ad ac).lt;have aF:∀q aa b0,ρ1 q=some aa->h.get q=some b0->q≠ak:=λq aa b0 r1 r2 e=>by subst e;rcases ay with aj | aj;(rw[aj]at r1;cases r1);(rw[aj]at r2;cases r2)
   have own:(∃q aa b0,ρ1 q=some aa∧aa.at_.block=ah.at_.block∧h.get q=some b0∧b0.ro=false)->ah.at_.block≠au.at_.block:=fun⟨q,aa,b0,r1,r2,r3,r4⟩=>by
    rw[<- r2];exact ai.sep q ak b0 ao aa au (an q aa b0 r1 r3) ad (sub _ _ r1) ac r4 (aF q aa b0 r1 r3)
   rcases aC with⟨b0,r1,r2⟩ | ⟨r1,r2⟩
   ·by_cases hb:ao.ro=false
    ·exact λe=>ai.sep ak ab ao b0 au ah ad (an ab ah b0 r1 r2) ac (sub _ _ r1) hb (λe=>aF ab ah b0 r1 r2 e.symm) e.symm
    ·have aQ:aD.ro=false:=aU.resolve_right hb;rcases step.owned am ax aQ with aq | aq
     ·omega
     ·exact own aq
   ·rcases(step.fresh ab ah am r1).2 with aq | aq
    ·omega
    ·exact own aq
  rcases Qcy sub az aw step ae g3 g1 with⟨am,ax,aC⟩ | ⟨am,ax,aC⟩
  ·rcases Qcy sub az aw step ae g4 g2 with⟨ac,ad,ay⟩ | ⟨ac,ad,ay⟩
   ·exact ae.sep av aH aI aJ ag aG ax ad am ac aE aL
   ·exact aK am ax aC ac ad ay (.inl aE)
  ·rcases Qcy sub az aw step ae g4 g2 with⟨ac,ad,ay⟩ | ⟨ac,ad,ay⟩
   ·exact λe=>aK ac ad ay am ax aC (.inr aE) e.symm
   ·exact ai.sep av aH aI aJ ag aG ax ad am ac aE aL
 ·obtain⟨j,aS,e⟩:=ai.glob g al;exact⟨j,ar _ _ aS,e⟩
end
/-! ### What is QM: QX -/
def QCX (acc:List Nat)(es:List Edge):Nat:=es.foldl (λs e=>bif Region.binds .any e then s ||| (2 ^ e.on ||| acc.getD e.on 0) else s) 0
def QX:List Oper->List Nat->List Nat
 | [],acc=>acc
 | o::l,acc=>QX l (acc++[QCX acc o.after.toList])
def Qpp (ops:Array Oper)(L:Nat->Prop):Prop:=∀ (i:Nat),L i->∀o,ops[i]? = some o->∀e∈o.after,Region.binds .any e=true->L e.on
theorem Qqo {ops:Array Oper}{L:Nat->Prop}(ak:Qpp ops L)(acc:List Nat)(ah:∀j m,acc[j]? = some m->L j->∀k,m.testBit k=true->L k):
  ∀ (es:List Edge),(∀e∈es,Region.binds .any e=true->L e.on)->∀k,(QCX acc es).testBit k=true->L k:=by
 intro es ai k q;have key:∀ (es:List Edge) (s:Nat),(∀e∈es,Region.binds .any e=true->L e.on)->(∀k,s.testBit k=true->L k)->∀k,(es.foldl (λs e=>bif Region.binds .any e then s ||| (2 ^ e.on ||| acc.getD e.on 0) else s) s).testBit k=true->L k:=by
  intro es
  induction es with
  | nil=>intro s _ ab k q;exact ab k q
  | cons e es aj=>
   intro s ag ab k q;simp only[FQ]at q;refine aj _ (λe' h'=>ag e' (by simp[h'])) ?_ k q;intro ac aa;cases hb:Region.binds .any e with
   | false=>rw[hb]at aa;exact ab ac aa
   | true=>
    rw[hb]at aa;have ae:=ag e (by simp) hb;simp only[Lq,Nat.testBit_or,Nw]at aa;rcases aa with h | h | h
    ·exact ab ac h
    ·rw[Nat.testBit_two_pow]at h;have:e.on=ac:=by simpa using h
     rw[<- this];exact ae
    ·cases ad:acc[e.on]? with
     | none=>simp[List.getD,ad]at h
     | some m=>simp only[List.getD,ad,NB]at h;exact ah e.on m ad ae ac h
 exact key es 0 ai (λk h=>by simp at h) k q
theorem Qr1 {ops:Array Oper}{L:Nat->Prop}(aa:Qpp ops L):∀ (l:List Oper) (acc:List Nat),(∀j o,l[j]? = some o->ops[acc.length+j]? = some o)->(∀j m,acc[j]? = some m->L j->∀k,m.testBit k=true->L k)->
  ∀j m,(QX l acc)[j]? = some m->L j->∀k,m.testBit k=true->L k
 | [],acc,_,hacc=>hacc
 | o::l,acc,hops,hacc=>by
  simp only[QX];refine Qr1 aa l _ (λj o' h=>by have:=hops (j+1) o' (by simpa using h);simpa[Rh,Nat.add_comm 1 j] using this) ?_;intro j m q ab k ac
  by_cases ai:j<acc.length
  ·rw[LY ai]at q;exact hacc j m q ab k ac
  ·rw[LR (by omega)]at q;have ag:j - acc.length=0:=by
    cases ad:j - acc.length with
    | zero=>rfl
    | succ d=>rw[ad]at q;simp at q
   rw[ag]at q;simp at q;subst q;have ah:j=acc.length:=by omega
   subst ah;exact Qqo aa acc hacc o.after.toList (λe ae hb=>aa acc.length ab o (by simpa using hops 0 o rfl) e (by simpa using ae) hb) k ac
def QM (ms:List Nat)(i j:Nat):Bool:=Nat.testBit (ms.getD j 0) i
theorem QhP {ops:Array Oper}{L:Nat->Prop}(aa:Qpp ops L){i j:Nat}(h:QM (QX ops.toList []) i j=true)(ab:L j):L i:=by
 unfold QM at h;cases q:(QX ops.toList [])[j]? with
 | none=>simp[List.getD,q]at h
 | some m=>
  simp only[List.getD,q,NB]at h;exact Qr1 aa ops.toList [] (λj o h=>by simpa using h) (λj m h=>by simp at h) j m q ab i h
theorem QwZ {ops:Array Oper}(ac:∀ (i:Nat) (o:Oper),ops[i]? = some o->∀e∈o.after,Region.binds .any e=true->e.on<i):∀ (l:List Oper) (acc:List Nat),(∀ (j:Nat) (o:Oper),l[j]? = some o->ops[acc.length+j]? = some o)->(∀ (j:Nat) (m:Nat),acc[j]? = some m->∀k,Nat.testBit m k=true->k<j)->
  ∀ (j:Nat) (m:Nat),(QX l acc)[j]? = some m->∀k,Nat.testBit m k=true->k<j
 | [],acc,_,hacc=>hacc
 | o::l,acc,hops,hacc=>by
  simp only[QX];refine QwZ ac l _ (λj o' h=>by have:=hops (j+1) o' (by simpa using h);simpa[Rh,Nat.add_comm 1 j] using this) ?_;intro j m q k aa
  by_cases ai:j<acc.length
  ·rw[LY ai]at q;exact hacc j m q k aa
  ·rw[LR (by omega)]at q;have ae:j - acc.length=0:=by
    cases ad:j - acc.length with
    | zero=>rfl
    | succ d=>rw[ad]at q;simp at q
   rw[ae]at q;simp at q;subst q;have ag:j=acc.length:=by omega
   subst ag;refine Qqo (ops:=ops) (L:=λk=>k<acc.length) (λi hi o' aj e ab hb=>by have:=ac i o' aj e ab hb;omega) acc (λj m ah q k aa=>by have:=hacc j m ah k aa;omega) o.after.toList (λe ab hb=>ac acc.length o (by simpa using hops 0 o rfl) e (by simpa using ab) hb) k aa
theorem QyV {ops:Array Oper}(aa:∀ (i:Nat) (o:Oper),ops[i]? = some o->∀e∈o.after,Region.binds .any e=true->e.on<i){i j:Nat}(h:QM (QX ops.toList []) i j=true):i<j:=by
 unfold QM at h;cases q:(QX ops.toList [])[j]? with
 | none=>simp[List.getD,q]at h
 | some m=>
  simp only[List.getD,q,NB]at h;exact QwZ aa ops.toList [] (λj o h=>by simpa using h) (λj m h=>by simp at h) j m q i h
/-! ### The check by text -/
def looks (ops:Array Oper)(o:Oper):List Nat:=
 (o.op.operands.toList.filterMap λ| .tmp t=>some t | _=>none)++(match o.guard with | some (j,_)=>(Qcu ops j).toList | none=>[])
def Qf9 (ops:Array Oper)(gen:Nat->Bool):Bool:=
 let ms:=QX ops.toList []
 (List.range ops.size).all λj=>
  match ops[j]? with
  | none=>true
  | some o=>
   o.after.all (λe=>!(Region.binds .any e)||Nat.blt e.on j) &&
   (match o.op with | .select .. => false | _=>true) &&
   (List.range ops.size).all λi=>
    match ops[i]? with
    | none=>true
    | some q=>
     (Nat.beq i j||(match q.dst with | some t=>!((looks ops o).contains t||o.dst==some t) | none=>true)||(if i<j then QM ms i j else QM ms j i)) &&
     (!(gen i&&gen j&&Nat.blt i j)||QM ms i j)
/-! ### Values below a bound -/
def WM (ρ:Ren)(m:Nat):Ren:=λid=>if id<m then ρ id else none
theorem Qpq (ρ:Ren)(m:Nat):Sub (WM ρ m) ρ:=λid i h=>by
 unfold WM at h;split at h
 ·exact h
 ·cases h
theorem Qj4 {ρ ρ':Ren}{m q:Nat}(aa:Sub ρ ρ')(h:m<=q):Sub (WM ρ m) (WM ρ' q):=λid i hi=>by
 unfold WM at hi ⊢;split at hi
 ·rw[Lc (by omega)];exact aa id i hi
 ·cases hi
theorem Yj {ρ:Ren}{m id:Nat}{i:Kj}(h:WM ρ m id=some i):id<m∧ρ id=some i:=by
 unfold WM at h;split at h
 ·exact⟨‹_›,h⟩
 ·cases h
theorem ZE {ρ:Ren}{m id:Nat}{i:Kj}(h:id<m)(h':ρ id=some i):WM ρ m id=some i:=by
 unfold WM;rw[Lc h];exact h'
def Qi (m:Nat):Nat->Value->Bool
 | 0,v=>plain v
 | f+1,v=>match v with
  | .pointer (some a)=>Nat.blt a.block m
  | .slice (some a) _ _=>Nat.blt a.block m
  | .map (some r)=>Nat.blt r m
  | .func fn xs ys=>(match fn with | .yield l=>Nat.blt l m | _=>true)&&xs.all (Qi m f)&&ys.all (Qi m f)
  | .iface _ v=>Qi m f v
  | .agg xs=>xs.all (Qi m f)
  | .tuple xs=>xs.all (Qi m f)
  | v=>plain v
theorem QCY {ρ:Ren}{m:Nat}:∀ (f:Nat) {v ac:Value},V ρ v ac->Qi m f v=true->V (WM ρ m) v ac:=by
 intro f
 induction f with
 | zero=>
  intro v ac h hb;rw[h.plain_eq hb];exact .same _ hb
 | succ f ah=>
  intro v ac h hb;have ad:∀ {xs q:Array Value},xs.all (Qi m f)=true->(∀ (j:Nat) x x',xs[j]? = some x->q[j]? = some x'->V ρ x x')->∀ (j:Nat) x x',xs[j]? = some x->q[j]? = some x'->V (WM ρ m) x x':=λal ao j x x' e e'=>
   ah (ao j x x' e e') (B1.1 al x (BB e))
  cases h with
  | same v an=>exact .same v an
  | ptr id off i h=>exact .ptr id off i (ZE (by simpa[Qi] using hb) h)
  | slice id off len cap aj i ai h aa ab ak ae ag=>exact .slice id off len cap aj i ai (ZE (by simpa[Qi] using hb) h) aa ab ak ae ag
  | map id i h=>exact .map id i (ZE (by simpa[Qi] using hb) h)
  | func fn xs ys q aq am aa ab ae ag=>
   simp only[Qi,Lm]at hb;exact .func fn xs ys q aq am aa ab (ad hb.1.2 ae) (ad hb.2 ag)
  | yield l i h=>exact .yield l i (ZE (by simpa[Qi] using hb) h)
  | iface t v ac h=>exact .iface t v ac (ah h (by simpa[Qi] using hb))
  | agg xs q aa ab=>exact .agg xs q aa (ad (by simpa only[Qi] using hb) ab)
  | tuple xs q aa ab=>exact .tuple xs q aa (ad (by simpa only[Qi] using hb) ab)
/-! ### The run in the text's order -/
inductive Cls where
 | pure
 | load
 | alloc (b:Blk)
 | gen
def Zj:Cls->Bool
 | .gen=>true
 | _=>false
def ZF (n:Nat)(ops:Array Oper)(A:Env)(o:Oper):Option Bool:=
 match o.guard with
 | none=>some true
 | some (j,want)=>match Qcu ops j with
  | some t=>if t<n then(match A t with | .bool b=>some (b==want) | .tuple _=>some false | _=>none) else none
  | none=>none
section
variable (P:Program) (n:Nat) (ops:Array Oper) (As:Nat->Env) (Hs:Nat->Qa) (vs:Nat->Value) (cls:Nat->Cls)
def QyW (i:Nat)(o:Oper):Prop:=
 (ZF n ops (As i) o=some false∧vs i=undef∧Hs (i+1)=Hs i∧cls i=.pure) ∨
 (ZF n ops (As i) o=some true∧match cls i with
  | .pure=>Hs (i+1)=Hs i∧∀h,QD P o (As i) h (vs i) h
  | .load=>Hs (i+1)=Hs i∧∃t x a,o.op=.load t x∧ev (As i) x=.pointer (some a)∧ZD P t a (Hs i)=some (vs i)∧
    ∀k,k<ops.size->Zj (cls k)=true->QM (QX ops.toList []) i k=false->QM (QX ops.toList []) k i=false->ZD P t a (Hs k)=some (vs i)∧ZD P t a (Hs (k+1))=some (vs i)∧Qi (Hs i).next 6 (vs i)=true
  | .alloc b=>Hs (i+1)=(Hs i).push b∧(∀h,h.next=(Hs i).next->QD P o (As i) h (vs i) (h.push b))∧
    ∀k,k<ops.size->i<k->Zj (cls k)=true->QM (QX ops.toList []) i k=false->(Hs (k+1)).get (Hs i).next=(Hs k).get (Hs i).next
  | .gen=>QD P o (As i) (Hs i) (vs i) (Hs (i+1)))
structure KI:Prop where
 env:∀ (i:Nat) (o:Oper),ops[i]? = some o->As (i+1)=GG (As i) o.dst (vs i)
 next:∀i,i<ops.size->(Hs i).next<=(Hs (i+1)).next
 ok:∀ (i:Nat) (o:Oper),ops[i]? = some o->Qjo P n o=true
 step:∀ (i:Nat) (o:Oper),ops[i]? = some o->QyW P n ops As Hs vs cls i o
 check:Qf9 ops (λi=>Zj (cls i))=true
end
section
variable {P:Program} {n:Nat} {ops:Array Oper} {As:Nat->Env} {Hs:Nat->Qa} {vs:Nat->Value} {cls:Nat->Cls}
theorem KI.next_le (F:KI P n ops As Hs vs cls){i j:Nat}(aa:i<=j)(ab:j<=ops.size):(Hs i).next<=(Hs j).next:=by
 induction j with
 | zero=>
  obtain rfl:i=0:=by omega
  exact Lb _
 | succ j q=>
  by_cases e:i=j+1
  ·subst e;exact Lb _
  ·exact N8 (q (by omega) (by omega)) (F.next j (by omega))
theorem KI.checked (F:KI P n ops As Hs vs cls){i j:Nat}{ah aa:Oper}(hi:ops[i]? = some ah)(ae:ops[j]? = some aa):
  (∀e∈aa.after,Region.binds .any e=true->e.on<j)∧(∀cs b,aa.op≠.select cs b)∧
  (i≠j->∀t,ah.dst=some t->(t∈looks ops aa∨aa.dst=some t)->(i<j->QM (QX ops.toList []) i j=true)∧(j<i->QM (QX ops.toList []) j i=true))∧
  (Zj (cls i)=true->Zj (cls j)=true->i<j->QM (QX ops.toList []) i j=true):=by
 have ak:i<ops.size:=(Nj.1 hi).1;have al:j<ops.size:=(Nj.1 ae).1;have ad:=F.check;unfold Qf9 at ad;simp only[Li,LU]at ad;have ac:=ad j al;rw[ae]at ac;simp only[Lm,Li,LU]at ac;obtain⟨⟨ai,ag⟩,au⟩:=ac;have ab:=au i ak;rw[hi]at ab;simp only[Lm]at ab;refine⟨λe aj hb=>?_,λcs b e=>?_,λaq t av am=>?_,λg1 g2 ao=>?_⟩
 ·have:=B1.1 ai e aj;simpa[hb] using this
 ·rw[e]at ag;cases ag
 ·have q:=ab.1;rw[av]at q;have an:((looks ops aa).contains t||aa.dst==some t)=true:=by
   rcases am with h | h
   ·simp[h]
   ·simp[h]
  have ar:Nat.beq i j=false:=by rw[Kk];simpa using aq
  simp only[an,ar,L8,Nt]at q;refine⟨λh=>by rw[Lc h]at q;exact q,λh=>by rw[Le (by omega)]at q;exact q⟩
 ·have q:=ab.2;have hb:Nat.blt i j=true:=by simpa using ao
  simpa[g1,g2,hb] using q
theorem KI.quiet (F:KI P n ops As Hs vs cls){k:Nat}{o:Oper}(ab:ops[k]? = some o)(aa:Zj (cls k)=false){id:Nat}(ac:id<(Hs k).next):(Hs (k+1)).get id=(Hs k).get id:=by
 rcases F.step k o ab with⟨_,_,h,_⟩ | ⟨_,h⟩
 ·rw[h]
 ·cases q:cls k with
  | pure=>rw[q]at h;simp only at h;rw[h.1]
  | load=>rw[q]at h;simp only at h;rw[h.1]
  | alloc b=>rw[q]at h;simp only at h;rw[h.1,Qc,Le (by omega)]
  | gen=>rw[q]at aa;cases aa
def L (q:Array Bool)(i:Nat):Prop:=q.getD i false=true
structure Inv (P:Program) (n:Nat) (ops:Array Oper) (As:Nat->Env) (Hs:Nat->Qa) (cls:Nat->Cls) (d0:List Deferred) (ρ0:Ren) (w0:World) (listed:Array Bool) (a:Act) (w:World) (ρ:Ren) (G:Qa):Prop where
 size:listed.size=ops.size
 closed:Qpp ops (L listed)
 st:St0 ρ0 (Hs 0) w0 ρ G w
 sim:Sim P ρ G w
 dom:∀id i,ρ id=some i->ρ0 id=some i∨∃k,k<ops.size∧L listed k∧(Hs k).next<=id∧id<(Hs (k+1)).next
 dom0:∀id i,ρ0 id=some i->id<(Hs 0).next
 glob0:∀g,g<P.globals.size->∃i,ρ0 g=some i∧i.at_=⟨g,0,none⟩
 blk:∀id i,ρ id=some i->∃q,q<=ops.size∧id<(Hs q).next∧G.get id=(Hs q).get id∧(∀b,G.get id=some b->Xg P (WM ρ (Hs q).next) i w b)∧
  (∀k,k<ops.size->Zj (cls k)=true->L listed k->k<q∨(Hs (k+1)).get id=(Hs k).get id)∧
  (∀k,k<ops.size->Zj (cls k)=true->¬L listed k->q<=k∨(Hs (k+1)).next<=id)∧
  (q=0∨∃k,k<ops.size∧L listed k∧q=k+1∧(Zj (cls k)=true∨(Hs k).next<=id))
 defers:a.defers=d0
 tsize:a.tmps.size=n
 tmps:∀t,t<n->∃r,r<=ops.size∧V (WM ρ (Hs r).next) (As r t) (a.tmps.getD t undef)∧
  (∀ (k:Nat) (o:Oper),ops[k]? = some o->o.dst=some t->L listed k->k<r)∧(∀ (k:Nat) (o:Oper),ops[k]? = some o->o.dst=some t->¬L listed k->r<=k)∧
  (r=0∨∃ (k:Nat) (o:Oper),ops[k]? = some o∧o.dst=some t∧L listed k∧r=k+1)
section
variable {d0:List Deferred} {ρ0:Ren} {w0:World} {listed:Array Bool} {a:Act} {w:World} {ρ:Ren} {G:Qa}
structure Rdy (ops:Array Oper) (listed:Array Bool) (i:Nat) (o:Oper):Prop where
 at_:ops[i]? = some o
 not:¬L listed i
 pre:∀k,QM (QX ops.toList []) k i=true->L listed k
 post:∀k,QM (QX ops.toList []) i k=true->¬L listed k
 ed:∀e∈o.after,Region.binds .any e=true->L listed e.on
theorem Qw0 (F:KI P n ops As Hs vs cls){t:Nat}:∀ {i j:Nat},i<=j->j<=ops.size->(∀ (k:Nat) (o:Oper),i<=k->k<j->ops[k]? = some o->o.dst≠some t)->As j t=As i t:=by
 intro i j
 induction j with
 | zero=>
  intro h _ _;obtain rfl:i=0:=by omega
  rfl
 | succ j ah=>
  intro h aj aa
  by_cases e:i=j+1
  ·subst e;rfl
  ·have ae:j<ops.size:=by omega
   have q:ops[j]? = some ops[j]:=Ng ae;have ag:=aa j ops[j] (by omega) (by omega) q;rw[F.env j _ q];have:GG (As j) ops[j].dst (vs j) t=As j t:=by
    cases ad:ops[j].dst with
    | none=>rfl
    | some d=>
     have:t≠d:=λe=>ag (by rw[ad,e]);exact QhK _ _ this
   rw[this];exact ah (by omega) (by omega) (λk o ab ai ac=>aa k o ab (by omega) ac)
theorem Inv.slot (F:KI P n ops As Hs vs cls)(I:Inv P n ops As Hs cls d0 ρ0 w0 listed a w ρ G){i:Nat}{o:Oper}(R:Rdy ops listed i o){t:Nat}(al:t<n)(ac:t∈looks ops o):
  V (WM ρ (Hs i).next) (As i t) (a.tmps.getD t undef):=by
 have ao:i<ops.size:=(Nj.1 R.at_).1;obtain⟨r,au,am,ae,an,ag⟩:=I.tmps t al;have ad:r<=i:=by
  rcases ag with rfl | ⟨k,ok,aa,q,ab,rfl⟩
  ·omega
  ·by_cases ar:k<i
   ·omega
   ·exfalso;have ai:k≠i:=λe=>R.not (e▸ab);have:=((F.checked aa R.at_).2.2.1 ai t q (.inl ac)).2 (by omega);exact R.post k this ab
 have ak:As i t=As r t:=Qw0 F ad (by omega) (λk ok aq ah aa q=>by
  have aj:=((F.checked aa R.at_).2.2.1 (by omega) t q (.inl ac)).1 ah;have:=ae k ok aa q (R.pre k aj);omega)
 rw[ak];exact am.mono (Qj4 (.refl ρ) (F.next_le ad (by omega)))
theorem Inv.operands (F:KI P n ops As Hs vs cls)(I:Inv P n ops As Hs cls d0 ρ0 w0 listed a w ρ G){i:Nat}{o:Oper}(R:Rdy ops listed i o):Qqg (WM ρ (Hs i).next) o (As i) a:=by
 intro x ad;have ac:=F.ok i o R.at_;simp only[Qjo,Lm]at ac;have aa:=B1.1 ac.2 x ad;cases x with
 | tmp t=>
  refine I.slot F R (by simpa[Qff] using aa) ?_;unfold looks;refine List.mem_append_left _ (List.mem_filterMap.2 ⟨.tmp t,by simpa using ad,rfl⟩)
 | const v=>exact .closed aa
 | global q=>
  have ae:q<P.globals.size:=by simpa[Qff] using aa
  obtain⟨j,ab,e⟩:=I.glob0 q ae;have ag:=I.st.mono q j ab;have ah:q<(Hs 0).next:=I.dom0 q j ab;have ai:i<ops.size:=(Nj.1 R.at_).1;have:=V.ptr (ρ:=WM ρ (Hs i).next) q 0 j (ZE (N5 ah (F.next_le (L7 _) (by omega))) ag);rw[e]at this;exact this
 | func f=>exact .func _ _ _ _ _ rfl rfl rfl (λj x x' h=>by simp at h) (λj x x' h=>by simp at h)
theorem QiL {listed:Array Bool}{i k:Nat}(hi:i<listed.size):L (listed.setIfInBounds i true) k↔k=i∨L listed k:=by
 unfold L
 by_cases e:k=i
 ·subst e;simp[N0,hi]
 ·rw[N0,Bn (by omega),<- N0];simp[e]
theorem Inv.after (F:KI P n ops As Hs vs cls)(I:Inv P n ops As Hs cls d0 ρ0 w0 listed a w ρ G){i:Nat}{o:Oper}(R:Rdy ops listed i o){ρ2:Ren}{G2:Qa}{w':World}{ak:Value}
  (an:St0 ρ G w ρ2 G2 w') (aA:Sim P ρ2 G2 w') (aB:V (WM ρ2 (Hs (i+1)).next) (vs i) ak) (ax:∀id j,ρ2 id=some j->ρ id=some j∨((Hs i).next<=id∧id<(Hs (i+1)).next))
  (av:∀id j,ρ2 id=some j->∃q,q<=ops.size∧id<(Hs q).next∧G2.get id=(Hs q).get id∧(∀b,G2.get id=some b->Xg P (WM ρ2 (Hs q).next) j w' b)∧
   (∀k,k<ops.size->Zj (cls k)=true->(k=i∨L listed k)->k<q∨(Hs (k+1)).get id=(Hs k).get id)∧
   (∀k,k<ops.size->Zj (cls k)=true->k≠i->¬L listed k->q<=k∨(Hs (k+1)).next<=id)∧
   (q=0∨∃k,k<ops.size∧(k=i∨L listed k)∧q=k+1∧(Zj (cls k)=true∨(Hs k).next<=id))):
  Inv P n ops As Hs cls d0 ρ0 w0 (listed.setIfInBounds i true) (a.put o.dst ak) w' ρ2 G2:=by
 have am:i<ops.size:=(Nj.1 R.at_).1;have ac:i<listed.size:=by rw[I.size];exact am
 have aJ:=QjZ (F.ok i o R.at_);refine⟨by simp[I.size],λk ab ok aj e al hb=>?_,I.st.trans an,aA,λid j ah=>?_,I.dom0,I.glob0,λid j ah=>?_,?_,?_,λt ao=>?_⟩
 ·rw[QiL ac]at ab ⊢;rcases ab with rfl | ab
  ·rw[R.at_]at aj;cases aj;exact .inr (R.ed e al hb)
  ·exact .inr (I.closed k ab ok aj e al hb)
 ·rcases ax id j ah with h | ⟨ar,au⟩
  ·rcases I.dom id j h with aq | ⟨k,k1,k2,k3,k4⟩
   ·exact .inl aq
   ·exact .inr ⟨k,k1,(QiL ac).2 (.inr k2),k3,k4⟩
  ·exact .inr ⟨i,am,(QiL ac).2 (.inl rfl),ar,au⟩
 ·obtain⟨q,aC,aD,aE,aF,aG,aH,aI⟩:=av id j ah;refine⟨q,aC,aD,aE,aF,λk ab ag aa=>aG k ab ag ((QiL ac).1 aa),λk ab ag aa=>?_,?_⟩
  ·rw[QiL ac]at aa;exact aH k ab ag (λe=>aa (.inl e)) (λe=>aa (.inr e))
  ·rcases aI with h | ⟨k,k1,k2,k3,k4⟩
   ·exact .inl h
   ·exact .inr ⟨k,k1,(QiL ac).2 k2,k3,k4⟩
 ·have:=I.defers;cases o.dst<;>exact this
 ·have:=I.tsize;cases o.dst<;>simp[Act.put,this]
 ·by_cases ae:o.dst=some t
  ·refine⟨i+1,by omega,?_,λk ok ab ad aa=>?_,λk ok ab ad aa=>?_,.inr ⟨i,o,R.at_,ae,(QiL ac).2 (.inl rfl),rfl⟩⟩
   ·rw[F.env i o R.at_,ae];simp only[GG,QjX,Act.put];rw[N0,RC (by rw[I.tsize];exact ao)];exact aB
   ·rw[QiL ac]at aa;rcases aa with rfl | aa
    ·omega
    ·by_cases ai:k<i+1
     ·exact ai
     ·have:=((F.checked ab R.at_).2.2.1 (by omega) t ad (.inr ae)).2 (by omega);exact absurd aa (R.post k this)
   ·rw[QiL ac]at aa
    by_cases ai:i+1<=k
    ·exact ai
    ·have ay:k≠i:=λe=>aa (.inl e);have:=((F.checked ab R.at_).2.2.1 ay t ad (.inr ae)).1 (by omega);exact absurd (.inr (R.pre k this)) aa
  ·obtain⟨r,r1,r2,r3,r4,r5⟩:=I.tmps t ao;refine⟨r,r1,?_,λk ok ab ad aa=>?_,λk ok ab ad aa=>r4 k ok ab ad (λh=>aa ((QiL ac).2 (.inr h))),?_⟩
   ·have az:(a.put o.dst ak).tmps.getD t undef=a.tmps.getD t undef:=by
     cases aw:o.dst with
     | none=>rfl
     | some d=>
      have:d≠t:=λe=>ae (by rw[aw,e]);simp only[Act.put];rw[N0,Bn this,<- N0]
    rw[az];exact r2.mono (Qj4 an.mono (Lb _))
   ·rw[QiL ac]at aa;rcases aa with rfl | aa
    ·rw[R.at_]at ab;cases ab;exact absurd ad ae
    ·exact r3 k ok ab ad aa
   ·rcases r5 with h | ⟨k,ok,k1,k2,k3,k4⟩
    ·exact .inl h
    ·exact .inr ⟨k,ok,k1,k2,(QiL ac).2 (.inr k3),k4⟩
theorem Inv.still (F:KI P n ops As Hs vs cls)(I:Inv P n ops As Hs cls d0 ρ0 w0 listed a w ρ G){i:Nat}{o:Oper}(R:Rdy ops listed i o)(ae:Zj (cls i)=false){ad:Value}(ai:V (WM ρ (Hs (i+1)).next) (vs i) ad):
  Inv P n ops As Hs cls d0 ρ0 w0 (listed.setIfInBounds i true) (a.put o.dst ad) w ρ G:=by
 refine I.after F R ⟨.refl ρ,Lb _,λ_ _ _ h=>h,λ_ _ b b' _ h ah h'=>(by rw[h]at h';cases h';exact ah),λid i h h'=>(by rw[h']at h;cases h),rfl,rfl,rfl,Lb _,λ_ _ _=>rfl⟩ I.sim ai (λid j h=>.inl h) (λid j ag=>?_);obtain⟨q,aj,ak,al,am,an,ao,aq⟩:=I.blk id j ag;refine⟨q,aj,ak,al,am,λk ac aa ab=>?_,λk ac aa _ ab=>ao k ac aa ab,?_⟩
 ·rcases ab with rfl | ab
  ·rw[ae]at aa;cases aa
  ·exact an k ac aa ab
 ·rcases aq with h | ⟨k,k1,k2,k3,k4⟩
  ·exact .inl h
  ·exact .inr ⟨k,k1,.inr k2,k3,k4⟩
theorem Inv.frame (F:KI P n ops As Hs vs cls)(I:Inv P n ops As Hs cls d0 ρ0 w0 listed a w ρ G){i:Nat}{o:Oper}(R:Rdy ops listed i o){h h':Qa}(aR:h.next=(Hs i).next)(aH:h'.next=(Hs (i+1)).next)
  (aW:Sim P (WM ρ (Hs i).next) h w) (aN:∀id j b,WM ρ (Hs i).next id=some j->h.get id=some b->G.get id=some b)
  (aU:∀id j b,WM ρ (Hs i).next id=some j->h.get id=some b->h'.get id=(Hs (i+1)).get id∧Zj (cls i)=true)
  (aS:∀id,(Hs i).next<=id->id<(Hs (i+1)).next->h'.get id=(Hs (i+1)).get id∧∀k,k<ops.size->i<k->Zj (cls k)=true->L listed k->(Hs (k+1)).get id=(Hs k).get id)
  (aV:Zj (cls i)=true->∀id j,ρ id=some j->id<(Hs i).next->h.get id=none->(Hs i).get id=none)
  {ρ':Ren} {w':World} {aM:Value} (aX:V ρ' (vs i) aM) (am:St (WM ρ (Hs i).next) h w ρ' h' w') (al:Sim P ρ' h' w') (aO:Zj (cls i)=true->∀id j,WM ρ (Hs i).next id=some j->(Hs i).get id=none->(Hs (i+1)).get id=none):
  ∃ρ2 G2,Inv P n ops As Hs cls d0 ρ0 w0 (listed.setIfInBounds i true) (a.put o.dst aM) w' ρ2 G2:=by
 have ay:i<ops.size:=(Nj.1 R.at_).1;have aI:∀id,h.next<=id->id<h'.next->ρ id=none:=λid av aw=>by
  cases e:ρ id with
  | none=>rfl
  | some j=>
   rw[aR]at av;rw[aH]at aw;exfalso;rcases I.dom id j e with au | ⟨k,k1,k2,k3,k4⟩
   ·have:=I.dom0 id j au;have:=F.next_le (L7 i) (by omega);omega
   ·have aB:k≠i:=λe=>R.not (e▸k2);rcases Fa aB with aj | aQ
    ·have:=F.next_le (show k+1<=i by omega) (by omega);omega
    ·have:=F.next_le (show i+1<=k by omega) (by omega);omega
 obtain⟨t1,t2,t3⟩:=QyU I.sim (Qpq ρ _) aW aN aI am al;have aD:Sub ρ' (WM (QrY ρ ρ') (Hs (i+1)).next):=λid j ab=>ZE (by rw[<- aH];exact al.dom id j ab) (JJ ab);refine⟨_,_,I.after F R t1 t2 (aX.mono aD) (λid j ab=>?_) (λid j ab=>?_)⟩
 ·cases e:ρ' id with
  | none=>rw[Gl e]at ab;exact .inl ab
  | some ai=>
   rw[JJ e]at ab;cases ab;cases e1:WM ρ (Hs i).next id with
   | some ag=>
    have:=am.mono id ag e1;rw[e]at this;cases this;exact .inl (Yj e1).2
   | none=>
    have av:=(am.fresh id j e e1).1;have aw:=al.dom id j e;exact .inr ⟨by omega,by omega⟩
 ·have aA:id<max G.next h'.next:=t2.dom id j ab;have aP:∀k,k<ops.size->Zj (cls i)=true->Zj (cls k)=true->L listed k->k<i:=λk ae g1 g2 ac=>by
   rcases Dj k i with h | h | h
   ·exact h
   ·exact absurd (h▸ac) R.not
   ·have:=(F.checked R.at_ (Ng ae)).2.2.2 g1 g2 h;exact absurd ac (R.post k this)
  by_cases aJ:∃ag b,WM ρ (Hs i).next id=some ag∧h.get id=some b
  ·obtain⟨ag,b,e1,e2⟩:=aJ;have aq:=am.mono id ag e1;have:ag=j:=by rw[JJ aq]at ab;cases ab;rfl
   subst this;obtain⟨aF,ao⟩:=aU id ag b e1 e2;have aj:=(Yj e1).1;have ah:(QrZ (WM ρ (Hs i).next) G h h').get id=h'.get id:=by rw[V1 aA,Qr0 (by omega) e1 e2]
   refine⟨i+1,by omega,N5 aj (F.next i ay),ah.trans aF,λb' an=>?_,λk ae ad ac=>?_,λk ae ad az ac=>?_,.inr ⟨i,ay,.inl rfl,rfl,.inl ao⟩⟩
   ·rw[ah]at an;exact(al.live id b' ag an aq).mono aD rfl
   ·rcases ac with rfl | ac
    ·left;omega
    ·left;have:=aP k ae ao ad ac;omega
   ·left;rcases Dj k i with aa | aa | aa
    ·have:=(F.checked (Ng ae) R.at_).2.2.2 ad ao aa;exact absurd (R.pre k this) ac
    ·exact absurd aa az
    ·omega
  ·by_cases aC:(Hs i).next<=id∧id<(Hs (i+1)).next
   ·obtain⟨aE,aL⟩:=aC;obtain⟨aF,ao⟩:=aS id aE aL;have ak:=aI id (by omega) (by omega);have aq:ρ' id=some j:=by
     cases e:ρ' id with
     | none=>rw[Gl e,ak]at ab;cases ab
     | some ai=>rw[JJ e]at ab;exact ab
    have ah:(QrZ (WM ρ (Hs i).next) G h h').get id=h'.get id:=by rw[V1 aA,Qus (by omega) (by omega)]
    refine⟨i+1,by omega,aL,ah.trans aF,λb' an=>?_,λk ae ad ac=>?_,λk ae ad az ac=>?_,.inr ⟨i,ay,.inl rfl,rfl,.inr aE⟩⟩
    ·rw[ah]at an;exact(al.live id b' j an aq).mono aD rfl
    ·rcases ac with rfl | ac
     ·left;omega
     ·rcases Nq i k with aa | aa
      ·right;exact ao k ae aa ad ac
      ·left;omega
    ·rcases Dj k i with aa | aa | aa
     ·right;exact N8 (F.next_le (show k+1<=i by omega) (by omega)) aE
     ·exact absurd aa az
     ·left;omega
   ·-- as it was
    have aY:∀ai,ρ' id=some ai->WM ρ (Hs i).next id=some ai:=λai e=>by
     cases e1:WM ρ (Hs i).next id with
     | some ag=>have:=am.mono id ag e1;rw[e]at this;exact this.symm
     | none=>
      exfalso;have av:=(am.fresh id ai e e1).1;have aw:=al.dom id ai e;exact aC ⟨by omega,by omega⟩
    have ak:ρ id=some j:=by
     cases e:ρ' id with
     | none=>rw[Gl e]at ab;exact ab
     | some ai=>rw[JJ e]at ab;cases ab;exact(Yj (aY j e)).2
    have ax:WM ρ (Hs i).next id=none∨h.get id=none:=by
     cases e1:WM ρ (Hs i).next id with
     | none=>exact .inl rfl
     | some ag=>
      cases e2:h.get id with
      | none=>exact .inr rfl
      | some b=>exact absurd ⟨ag,b,e1,e2⟩ aJ
    have ah:(QrZ (WM ρ (Hs i).next) G h h').get id=G.get id:=by
     rw[V1 aA]
     by_cases aj:id<h.next
     ·exact QmG aj ax
     ·exact Qut (by omega) (by rcases Nq id h'.next with aa | aa;(exact absurd ⟨by omega,by omega⟩ aC);exact aa)
    obtain⟨q,aZ,ba,bb,bc,bd,bg,bh⟩:=I.blk id j ak;refine⟨q,aZ,ba,ah.trans bb,λb hb=>?_,λk ae ad ac=>?_,λk ae ad _ ac=>bg k ae ad ac,?_⟩
    ·rw[ah]at hb;exact(bc b hb).mono (Qj4 t1.mono (Lb _)) (t3 id j b ak hb ax)
    ·rcases ac with rfl | ac
     ·by_cases aj:id<(Hs k).next
      ·right;have aK:=ZE aj ak;have aT:h.get id=none:=by rcases ax with e | e;(rw[aK]at e;cases e);exact e
       have aG:=aV ad id j ak aj aT;rw[aG];exact aO ad id j aK aG
      ·left;rcases I.dom id j ak with au | ⟨ar,k1,k2,k3,k4⟩
       ·have:=I.dom0 id j au;have:=F.next_le (L7 k) (by omega);omega
       ·have aB:ar≠k:=λe=>R.not (e▸k2);have aQ:k<ar:=by
         rcases Fa aB with aa | aa
         ·have:=F.next_le (show ar+1<=k by omega) (by omega);omega
         ·exact aa
        rcases Nq ar q with aa | aa
        ·omega
        ·have:=F.next_le aa (by omega);omega
     ·exact bd k ae ad ac
    ·rcases bh with aa | ⟨k,k1,k2,k3,k4⟩
     ·exact .inl aa
     ·exact .inr ⟨k,k1,.inr k2,k3,k4⟩
theorem Sim.empty {ρ:Ren}{w:World}{m:Nat}(q:∀id j,ρ id=some j->id<m)(aa:∀g,g<P.globals.size->∃j,ρ g=some j∧j.at_=⟨g,0,none⟩):Sim P ρ ⟨m,.nil⟩ w:=
 ⟨q,λid b j h=>by simp[Qa.get,Tr.get_nil]at h,λag ah ab ac ad ae h=>by simp[Qa.get,Tr.get_nil]at h,aa⟩
theorem Inv.globR (F:KI P n ops As Hs vs cls)(I:Inv P n ops As Hs cls d0 ρ0 w0 listed a w ρ G){i:Nat}(hi:i<=ops.size):∀g,g<P.globals.size->∃j,WM ρ (Hs i).next g=some j∧j.at_=⟨g,0,none⟩:=λg aa=>by
 obtain⟨j,q,e⟩:=I.glob0 g aa;exact⟨j,ZE (N5 (I.dom0 g j q) (F.next_le (L7 _) hi)) (I.st.mono g j q),e⟩
theorem Inv.now (F:KI P n ops As Hs vs cls)(I:Inv P n ops As Hs cls d0 ρ0 w0 listed a w ρ G){i:Nat}{o:Oper}(R:Rdy ops listed i o)(ad:Zj (cls i)=true){id:Nat}{j:Kj}(au:id<(Hs i).next)(ai:ρ id=some j):
  G.get id=(Hs i).get id∧∀b,G.get id=some b->Xg P (WM ρ (Hs i).next) j w b:=by
 have av:i<ops.size:=(Nj.1 R.at_).1;obtain⟨q,aw,al,am,an,ao,ax,aq⟩:=I.blk id j ai;have ae:q<=i:=by
  rcases aq with rfl | ⟨k,k1,k2,rfl,k4⟩
  ·omega
  ·have aj:k≠i:=λe=>R.not (e▸k2);rcases Fa aj with aa | aa
   ·omega
   ·exfalso;rcases k4 with k4 | k4
    ·have:=(F.checked R.at_ (Ng k1)).2.2.2 ad k4 aa;exact R.post k this k2
    ·have:=F.next_le (show i<=k by omega) (by omega);omega
 have ag:∀r,q<=r->r<=i->(Hs r).get id=(Hs q).get id:=by
  intro r
  induction r with
  | zero=>
   intro ah _;obtain rfl:q=0:=by omega
   rfl
  | succ r ak=>
   intro ah ar
   by_cases e:q=r+1
   ·subst e;rfl
   ·have ac:r<ops.size:=by omega
    rw[<- ak (by omega) (by omega)];cases ab:Zj (cls r) with
    | false=>exact F.quiet (Ng ac) ab (N5 al (F.next_le (by omega) (by omega)))
    | true=>
     have:=(F.checked (Ng ac) R.at_).2.2.2 ab ad (by omega);rcases ao r ac ab (R.pre r this) with aa | aa
     ·omega
     ·exact aa
 refine⟨by rw[am,ag i ae (Lb _)],λb hb=>(an b hb).mono (Qj4 (.refl ρ) (F.next_le ae (by omega))) rfl⟩
theorem Inv.run (F:KI P n ops As Hs vs cls)(I:Inv P n ops As Hs cls d0 ρ0 w0 listed a w ρ G){i:Nat}{o:Oper}(R:Rdy ops listed i o){K:Act->World->Prop}{Q:Exit->Act->World->Prop}
  (ax:∀aW w' ρ' G',Inv P n ops As Hs cls d0 ρ0 w0 (listed.setIfInBounds i true) aW w' ρ' G'->K aW w') (z:Rd):wpOpIn (fen z) 0 P ops Q i K a w:=by
 have b3:i<ops.size:=(Nj.1 R.at_).1;have bh:∀b,ZF n ops (As i) o=some b->Region.wanted o (yielded ops a.tmps)=b:=λb hb=>by
  unfold ZF at hb;split at hb
  ·rename_i ar;cases hb;simp[Region.wanted,ar]
  ·rename_i j bU ar;split at hb
   ·rename_i t au;split at hb
    ·rename_i aL;split at hb
     ·rename_i b0 aM;cases hb;have aa:=I.slot F R aL (by unfold looks;rw[ar];simp[au]);rw[aM]at aa;have aB:t<a.tmps.size:=by rw[I.tsize];exact aL
      have aN:a.tmps[t]? = some (.bool b0):=by
       rw[N0,Ng aB]at aa;rw[Ng aB];simp only[NB]at aa;rw[aa.plain_eq rfl]
      have aT:yielded ops a.tmps j=some b0:=by
       unfold yielded;unfold Qcu at au;rw[au];simp[aN]
      simp[Region.wanted,ar,aT]
     ·rename_i bT aM;cases hb;have aa:=I.slot F R aL (by unfold looks;rw[ar];simp[au]);rw[aM]at aa;obtain⟨bM,e1,_⟩:=aa.tuple_inv;have aB:t<a.tmps.size:=by rw[I.tsize];exact aL
      have aN:a.tmps[t]? = some (.tuple bM):=by
       rw[N0,Ng aB]at e1;rw[Ng aB];simpa using e1
      have aT:yielded ops a.tmps j=none:=by
       unfold yielded;unfold Qcu at au;rw[au];simp[aN]
      simp[Region.wanted,ar,aT]
     ·cases hb
    ·cases hb
   ·cases hb
 unfold wpOpIn;simp only[R.at_];rcases F.step i o R.at_ with⟨aS,aa,ai,ab⟩ | ⟨aS,am⟩
 ·rw[Le (by rw[bh false aS];simp)];exact⟨λ_ _=>trivial,ax _ _ _ _ (I.still F R (by rw[ab];rfl) (by rw[aa];exact .closed (by simp[undef,ZC])))⟩
 ·rw[Lc (bh true aS)];have aK:=I.operands F R;have aX:=I.globR F (Nat.le_of_lt b3);have aH:Sim P (WM ρ (Hs i).next) ⟨(Hs i).next,.nil⟩ w:=Sim.empty (λid j h=>(Yj h).1) aX;have aJ:∀id,Qa.get ⟨(Hs i).next,.nil⟩ id=none:=λid=>by simp[Qa.get,Tr.get_nil]
  cases ab:cls i with
  | pure=>
   rw[ab]at am;obtain⟨ai,aP⟩:=am;refine aP ⟨(Hs i).next,.nil⟩ (WM ρ (Hs i).next) w a aH aK K Q (λaG ρ' w' aa av aC=>?_) z;obtain⟨ρ2,G2,aw⟩:=I.frame F R (h:=⟨(Hs i).next,.nil⟩) (h':=⟨(Hs i).next,.nil⟩) rfl (by rw[ai]) aH (λid j b _ h=>by rw[aJ]at h;cases h) (λid j b _ h=>by rw[aJ]at h;cases h)
    (λid aq ah=>by rw[ai]at ah;omega) (λac=>by rw[ab]at ac;cases ac) aa av aC (λac=>by rw[ab]at ac;cases ac)
   exact ax _ _ _ _ aw
  | alloc b=>
   rw[ab]at am;obtain⟨ai,aP,aD⟩:=am;refine aP ⟨(Hs i).next,.nil⟩ rfl (WM ρ (Hs i).next) w a aH aK K Q (λaG ρ' w' aa av aC=>?_) z;obtain⟨ρ2,G2,aw⟩:=I.frame F R (h:=⟨(Hs i).next,.nil⟩) (h':=Qa.push ⟨(Hs i).next,.nil⟩ b) rfl (by rw[ai];rfl) aH (λid j b _ h=>by rw[aJ]at h;cases h) (λid j b _ h=>by rw[aJ]at h;cases h)
    (λid aq ah=>by
     rw[ai]at ah;simp only[Qd]at ah;obtain rfl:id=(Hs i).next:=by omega
     refine⟨by rw[ai,Qc,Qc,Lc rfl,Lc rfl],λk az ay aI ao=>?_⟩;refine aD k az ay aI ?_;cases ag:QM (QX ops.toList []) i k with
     | false=>rfl
     | true=>exact absurd ao (R.post k ag))
    (λac=>by rw[ab]at ac;cases ac) aa av aC (λac=>by rw[ab]at ac;cases ac)
   exact ax _ _ _ _ aw
  | gen=>
   rw[ab]at am;have ak:Zj (cls i)=true:=by rw[ab];rfl
   have bg:Sim P (WM ρ (Hs i).next) (Hs i) w:=by
    refine⟨λid j h=>(Yj h).1,λid b j hb al=>?_,λbC bD bm bn bA bB aq ah bp bq br bu=>?_,aX⟩
    ·obtain⟨e1,e2⟩:=Yj al;obtain⟨bF,bG⟩:=I.now F R ak e1 e2;exact bG b (by rw[bF];exact hb)
    ·obtain⟨e1,e2⟩:=Yj bp;obtain⟨e3,e4⟩:=Yj bq;exact I.sim.sep bC bD bm bn bA bB (by rw[(I.now F R ak e1 e2).1];exact aq) (by rw[(I.now F R ak e3 e4).1];exact ah) e2 e4 br bu
   refine am (WM ρ (Hs i).next) w a bg aK K Q (λaG ρ' w' aa av aC=>?_) z;obtain⟨ρ2,G2,aw⟩:=I.frame F R (h:=Hs i) (h':=Hs (i+1)) rfl rfl bg
    (λid j b al hb=>by obtain⟨e1,e2⟩:=Yj al;rw[(I.now F R ak e1 e2).1];exact hb)
    (λid j b _ _=>⟨rfl,ak⟩)
    (λid aq ah=>⟨rfl,λk az ay aI ao=>by
     have:=(F.checked R.at_ (Ng az)).2.2.2 ak aI ay;exact absurd ao (R.post k this)⟩)
    (λ_ id j _ _ h=>h) aa av aC (λ_ id j al bw=>av.dead id j al bw)
   exact ax _ _ _ _ aw
  | load=>
   rw[ab]at am;obtain⟨ai,t,x,bk,bb,bo,ao,aD⟩:=am;have ak:Zj (cls i)=false:=by rw[ab];rfl
   have bi:=aK x (by rw[bb];simp[Op.operands]);rw[bo]at bi;obtain⟨bE,g1,g2,g3⟩:=bi.ptr_inv;obtain⟨id,off,sp⟩:=bk;simp only at g1 g2 g3;subst g2;obtain⟨b2,al⟩:=Yj g1;obtain⟨q,bS,bj,bH,bI,bJ,bK,bL⟩:=I.blk id bE al;have aO:∀r aV:Nat,(Hs r).get id=(Hs aV).get id->ZD P t ⟨id,off,none⟩ (Hs r)=ZD P t ⟨id,off,none⟩ (Hs aV):=λr aV e=>by
    unfold ZD;rw[e]
   have aR:∀k,k<ops.size->Zj (cls k)=true->(i<=k->L listed k)->(k<i->¬L listed k)->QM (QX ops.toList []) i k=false∧QM (QX ops.toList []) k i=false:=λk az aI aq ah=>by
    refine⟨?_,?_⟩
    ·cases ag:QM (QX ops.toList []) i k with
     | false=>rfl
     | true=>
      exfalso
      by_cases ay:i<=k
      ·exact R.post k ag (aq ay)
      ·have:=mask_lt F ag;omega
    ·cases ag:QM (QX ops.toList []) k i with
     | false=>rfl
     | true=>
      exfalso;have bO:=mask_lt F ag;have bc:=R.pre k ag;rcases Nq k i with ae | ae
      ·exact ah ae bc
      ·obtain rfl:k=i:=by omega
       exact R.not bc
   -- the value that is loaded is the same,wherever its block stands now
   have b4:ZD P t ⟨id,off,none⟩ (Hs q)=some (vs i)∧(q<=i∨Qi (Hs i).next 6 (vs i)=true):=by
    rcases Nat.le_total q i with bd | bd
    ·refine⟨?_,.inl bd⟩;have:∀m r,r+m=i->q<=r->ZD P t ⟨id,off,none⟩ (Hs r)=some (vs i):=by
      intro m
      induction m with
      | zero=>
       intro r aQ _;obtain rfl:r=i:=by omega
       exact ao
      | succ m aU=>
       intro r aQ b6;have aj:r<ops.size:=by omega
       have ba:=aU (r+1) (by omega) (by omega);cases ad:Zj (cls r) with
       | false=>
        rw[<- aO (r+1) r (F.quiet (Ng aj) ad (N5 bj (F.next_le b6 (by omega))))];exact ba
       | true=>
        by_cases aA:L listed r
        ·rcases bJ r aj ad aA with ae | ae
         ·omega
         ·rw[<- aO (r+1) r ae];exact ba
        ·obtain⟨aE,aF⟩:=aR r aj ad (by omega) (λ_=>aA);exact(aD r aj ad aE aF).1
     exact this (i - q) q (by omega) (Lb _)
    ·by_cases b7:q=i
     ·subst b7;exact⟨ao,.inl (Lb _)⟩
     have b1:∀r,r<ops.size->i<=r->r<q->Zj (cls r)=true->L listed r:=λr aQ bN bR ad=>by
      by_cases aA:L listed r
      ·exact aA
      ·exfalso;rcases bK r aQ ad aA with ae | ae
       ·omega
       ·have:=F.next_le (show i<=r+1 by omega) (by omega);omega
     have key:∀m,i+m<=q->ZD P t ⟨id,off,none⟩ (Hs (i+m))=some (vs i):=by
      intro m
      induction m with
      | zero=>intro _;exact ao
      | succ m aU=>
       intro bP;have aj:i+m<ops.size:=by omega
       have b5:=aU (by omega);cases ad:Zj (cls (i+m)) with
       | false=>
        have:=aO (i+m+1) (i+m) (F.quiet (Ng aj) ad (N5 b2 (F.next_le (by omega) (by omega))));rw[show i+(m+1)=i+m+1 by omega,this];exact b5
       | true=>
        obtain⟨aE,aF⟩:=aR (i+m) aj ad (λ_=>b1 (i+m) aj (by omega) (by omega) ad) (by omega);exact(aD (i+m) aj ad aE aF).2.1
     refine⟨by have:=key (q - i) (by omega);rwa [show i+(q - i)=q by omega]at this,.inr ?_⟩
     -- an operation that acts on memory has run ahead
     rcases bL with rfl | ⟨k,k1,k2,rfl,k4⟩
     ·omega
     ·have bQ:k≠i:=λe=>R.not (e▸k2);rcases k4 with k4 | k4
      ·obtain⟨aE,aF⟩:=aR k k1 k4 (λ_=>k2) (by omega);exact(aD k k1 k4 aE aF).2.2
      ·exfalso;have:=F.next_le (show i<=k by omega) (by omega);omega
   obtain⟨aZ,bv⟩:=b4;obtain⟨c,e,ro,aY⟩:=Qj1 aZ;have bz:G.get id=some (.cells c e ro):=by rw[bH];exact aY
   obtain⟨aG,r1,r2⟩:=Qpj (H:=Hs q) (ZE bj al) aY (bI _ bz) aZ;have b9:V (WM ρ (Hs (i+1)).next) (vs i) aG:=by
    rw[ai];rcases bv with ae | ae
    ·exact r2.mono (Qj4 (.refl ρ) (F.next_le ae (by omega)))
    ·exact QCY 6 (r2.mono (Qpq ρ _)) ae
   have b8:(execOp a.eval o).run P w=.ok (.value aG) w:=by
    unfold execOp;simp only[bb,Instr.loadAt,g3,Instr.sureAddr,LW,Nc,Lz,r1]
   refine⟨λ_ _=>trivial,?_⟩;rw[QjY b8 (by simp) _];exact ax _ _ _ _ (I.still F R ak b9)
 where
 mask_lt (F:KI P n ops As Hs vs cls) {i j:Nat} (h:QM (QX ops.toList []) i j=true):i<=j:=
  QhP (L:=λk=>k<=j) (λk az o ag e bx hb=>by have:=(F.checked ag ag).1 e bx hb;omega) h (Lb _)
theorem QCZ (F:KI P n ops As Hs vs cls){i:Nat}(ag:Qpp ops (L listed))(an:listed.size=ops.size)(am:i∈Region.ready .any ops listed):∃o,Rdy ops listed i o:=by
 obtain⟨ab,o,aa,ae⟩:=mem_ready.1 am;have aj:i<ops.size:=(Nj.1 aa).1;have ah:¬L listed i:=λh=>by
  unfold L at h;rw[N0,Ng (by rw[an];exact aj)]at h ab;simp only[NB]at h ab;rw[h]at ab;cases ab
 -- the set with the new one is closed too
 have ai:Qpp ops (λk=>k=i∨L listed k):=λk q ok ad e ac hb=>by
  rcases q with rfl | q
  ·rw[aa]at ad;cases ad;exact .inr (ae e ac hb)
  ·exact .inr (ag k q ok ad e ac hb)
 refine⟨o,aa,ah,λk q=>?_,λk q al=>ah (QhP ag q al),λe ac hb=>ae e ac hb⟩;have ak:k=i∨L listed k:=QhP ai q (.inl rfl);rcases ak with rfl | h
 ·have:=QyV (λi o aa=>(F.checked aa aa).1) q;omega
 ·exact h
theorem Qw1 (F:KI P n ops As Hs vs cls)(ac:listed.size=ops.size)(ab:Region.ready .any ops listed=[]):∀i,i<ops.size->L listed i:=by
 intro i
 induction i using Nat.strongRecOn with
 | _ i ad=>
  intro hi
  by_cases q:L listed i
  ·exact q
  ·exfalso;have:i∈Region.ready .any ops listed:=by
    refine mem_ready.2 ⟨?_,ops[i],Ng hi,λe aa hb=>?_⟩
    ·unfold L at q;rw[N0,Ng (by rw[ac];exact hi)]at q ⊢;simpa using q
    ·have:=(F.checked (Ng hi) (Ng hi)).1 e aa hb;exact ad e.on this (by omega)
   rw[ab]at this;cases this
def left (listed:Array Bool):Nat:=(List.range listed.size).countP λi=>!(listed.getD i false)
theorem QC0 {i:Nat}(hi:i<listed.size)(ac:¬L listed i):left (listed.setIfInBounds i true)+1=left listed:=by
 unfold left;rw[Array.size_setIfInBounds];unfold L at ac;have ai:listed.getD i false=false:=by simpa using ac
 have key:∀ (l:List Nat),l.Nodup->i∈l->(l.countP λk=>!((listed.setIfInBounds i true).getD k false))+1=l.countP λk=>!(listed.getD k false):=by
  intro l
  induction l with
  | nil=>intro _ h;cases h
  | cons x l aj=>
   intro q ah;rw[FR]at q;have ad:∀k,k≠i->(listed.setIfInBounds i true).getD k false=listed.getD k false:=λk ab=>by
    rw[N0,Bn (by omega),<- N0]
   by_cases aa:x=i
   ·subst aa;have ae:(listed.setIfInBounds x true).getD x false=true:=by simp[N0,hi]
    have ag:(l.countP λk=>!((listed.setIfInBounds x true).getD k false))=l.countP λk=>!(listed.getD k false):=by
     apply List.countP_congr;intro k ab;rw[ad k (λe=>q.1 (e▸ab))]
    rw[FG,FG,ae,ag,ai];simp
   ·rw[FG,FG,ad x aa];have:=aj q.2 (by cases ah with | head=>exact absurd rfl aa | tail _ h=>exact h);omega
 exact key _ List.nodup_range (LU.2 hi)
theorem QBG (h:left listed=0)(ae:listed.size=ops.size):Region.ready .any ops listed=[]:=by
 cases ad:Region.ready .any ops listed with
 | nil=>rfl
 | cons i l=>
  exfalso;have ab:i∈Region.ready .any ops listed:=by rw[ad];simp
  obtain⟨q,o,ac,_⟩:=mem_ready.1 ab;have aa:i<listed.size:=by rw[ae];exact(Nj.1 ac).1
  unfold left at h;rw[List.countP_eq_zero]at h;have:=h i (LU.2 aa);rw[N0,Ng aa]at this q;simp only[NB]at this q;simp[q]at this
theorem Inv.any (F:KI P n ops As Hs vs cls)(z:Rd){Q:Exit->Act->World->Prop}
  (ab:∀listed a w ρ G,Inv P n ops As Hs cls d0 ρ0 w0 listed a w ρ G->(∀i,i<ops.size->L listed i)->Q .normal a w):
  ∀ (q:Nat) (listed:Array Bool) (a:Act) (w:World) (ρ:Ren) (G:Qa),left listed=q->Inv P n ops As Hs cls d0 ρ0 w0 listed a w ρ G->wpAnyIn (fen z) 0 P .any ops Q q listed a w:=by
 intro q
 induction q with
 | zero=>
  intro listed a w ρ G hl I;have aa:=QBG hl I.size;exact⟨aa,ab listed a w ρ G I (Qw1 F I.size aa)⟩
 | succ q ae=>
  intro listed a w ρ G hl I;refine⟨λaa=>ab listed a w ρ G I (Qw1 F I.size aa),λi hi=>?_⟩;obtain⟨o,R⟩:=QCZ F I.closed I.size hi;have ad:i<listed.size:=by rw[I.size];exact(Nj.1 R.at_).1
  exact I.run F R (λac w' ρ' G' I'=>ae _ ac w' ρ' G' (by have:=QC0 ad R.not;omega) I') z
theorem Inv.done (F:KI P n ops As Hs vs cls)(I:Inv P n ops As Hs cls d0 ρ0 w0 listed a w ρ G)(aj:∀i,i<ops.size->L listed i):
  St ρ0 (Hs 0) w0 ρ (Hs ops.size) w∧Sim P ρ (Hs ops.size) w∧EnvRel ρ n (As ops.size) a∧a.defers=d0:=by
 have aa:∀id j,ρ id=some j->G.get id=(Hs ops.size).get id∧id<(Hs ops.size).next:=λid j ac=>by
  obtain⟨q,aC,ar,aD,aH,aE,aI,aJ⟩:=I.blk id j ac;have aw:∀m,q+m<=ops.size->(Hs (q+m)).get id=(Hs q).get id:=by
   intro m
   induction m with
   | zero=>intro _;rfl
   | succ m aB=>
    intro aG;have ag:q+m<ops.size:=by omega
    rw[<- aB (by omega),show q+(m+1)=q+m+1 by omega];cases ak:Zj (cls (q+m)) with
    | false=>exact F.quiet (Ng ag) ak (N5 ar (F.next_le (by omega) (by omega)))
    | true=>
     rcases aE (q+m) ag ak (aj _ ag) with al | al
     ·omega
     ·exact al
  have:=aw (ops.size - q) (by omega);rw[show q+(ops.size - q)=ops.size by omega]at this;exact⟨by rw[aD,this],N5 ar (F.next_le aC (Lb _))⟩
 refine⟨St0.full ⟨I.st.mono,F.next_le (L7 _) (Lb _),λid i h h'=>?_,λid i b b' h ad ae ab=>?_,I.st.fresh,I.st.os,I.st.tape,I.st.output,I.st.size,I.st.frame⟩ (λid i h h'=>?_),
  ⟨λid j h=>(aa id j h).2,λid b j hb ac=>I.sim.live id b j (by rw[(aa id j ac).1];exact hb) ac,λao aq au av am an ad ae ab ai=>I.sim.sep ao aq au av am an (by rw[(aa ao am ab).1];exact ad) (by rw[(aa aq an ai).1];exact ae) ab ai,I.sim.glob⟩,
  ⟨I.tsize,λt aA=>?_⟩,I.defers⟩
 ·rw[<- (aa id i (I.st.mono id i h)).1];exact I.st.dead id i h h'
 ·rw[<- (aa id i (I.st.mono id i h)).1]at ab;exact I.st.ro id i b b' h ad ae ab
 ·rcases I.dom id i h with ah | ⟨k,k1,k2,k3,k4⟩
  ·rw[h']at ah;cases ah
  ·exact N8 (F.next_le (L7 _) (by omega)) k3
 ·obtain⟨r,r1,r2,r3,r4,r5⟩:=I.tmps t aA;have:As ops.size t=As r t:=Qw0 F r1 (Lb _) (λk o aF az ay ax=>by have:=r3 k o ay ax (aj k az);omega);rw[this];exact r2.mono (Qpq ρ _)
end
theorem Qw2 {id:Nat}{Q:Ex->Env->Qa->Prop}(ag:P.follows .mixedOrders=true)(F:KI P n ops As Hs vs cls)(ac:Q .normal (As ops.size) (Hs ops.size)):AWp P n (.region id ops true) Q (As 0) (Hs 0):=by
 intro z ρ w a hs he;refine wpIn_region_any ag ?_;obtain⟨d1,d2⟩:=hs.drew;have q:∀i,¬L (Array.replicate ops.size false) i:=λi h=>by
  unfold L at h;rw[N0,Array.getElem?_replicate]at h;split at h<;>simp at h
 have I0:Inv P n ops As Hs cls a.defers ρ w.drew (Array.replicate ops.size false) a w.drew ρ (Hs 0):=by
  refine⟨by simp,λi hi=>absurd hi (q i),(St.refl ρ (Hs 0) w.drew).to0,d2,λid j h=>.inl h,hs.dom,hs.glob,λid j ab=>⟨0,L7 _,hs.dom id j ab,rfl,λb hb=>?_,λk _ _ aa=>absurd aa (q k),λk _ _ _=>.inl (L7 _),.inl rfl⟩,rfl,he.size,λt ah=>⟨0,L7 _,?_,λk o _ _ aa=>absurd aa (q k),λk o _ _ _=>L7 _,.inl rfl⟩⟩
  ·exact(d2.live id b j hb ab).mono (λx y h=>ZE (hs.dom x y h) h) rfl
  ·exact(he.tmps t ah).mono (λx y h=>ZE (hs.dom x y h) h)
 have ae:left (Array.replicate ops.size false)=ops.size:=by
  unfold left;have:∀i∈List.range (Array.replicate ops.size false).size,(!(Array.replicate ops.size false).getD i false)=true:=λi _=>by
   have:=q i;unfold L at this;simpa using this
  rw[List.countP_eq_length.2 this];simp
 refine Inv.any F z (λaj ai w' ρ' G' I ad=>?_) ops.size _ a w.drew ρ (Hs 0) ae I0;obtain⟨t1,t2,t3,t4⟩:=I.done F ad;exact⟨.normal,ρ',_,_,ac,d1.trans t1,t2,⟨t3,he.fr.step (d1.trans t1) t4⟩,trivial⟩
end
section
variable {P:Program} {n:Nat} {Q:Ex->Env->Qa->Prop} {A:Env} {H:Qa}
theorem QC1 {b:Frame}{a:Act}{k:List Item}{cs:List Frame}{w:World}{c:Code}:step P (lone (b.atR a (.code (.scope c)::k)) cs w)=.next (lone (b.atR a (.code c::.inScope c::k)) cs w):=
 step_lone_go (by simp[stepG,stepG.exec,Frame.atR])
theorem QyX {b:Frame}{a:Act}{k:List Item}{cs:List Frame}{w:World}{c:Code}:step P (lone (b.atR a (.inScope c::k)) cs w)=.next (lone (b.atR a k) cs w):=
 step_lone_go (by simp[stepG,stepG.exec,Frame.atR])
def Qj5 (P:Program)(n:Nat)(c:Code)(Q:Ex->Env->Qa->Prop)(A:Env)(H:Qa):Prop:=
 ∀z ρ w a,Sim P ρ H w->Qek z ρ H w n A a->∀ (b:Frame) (k:List Item) (cs:List Frame),b.roundOf=(fen z).round->(fen z).fn b.fn->(fen z).room (cs.length+1+0)->
  ∃e q w',Qpi P n z ρ H w Q e q w'∧ArrivesIn (Machine.fenced P (fen z)) P (lone (b.atR a (.code c::.inLoop c::k)) cs w) b k cs e q w'
theorem Qqp {c:Code}(h:Qj5 P n c Q A H):AWp P n (.loop c) Q A H:=λz ρ w a ag ac b k cs ae hb q=>by
 obtain⟨e,aa,w',ad,ab⟩:=h z ρ w a ag ac b k cs ae hb q;exact⟨e,aa,w',ad,.of_steps (.one (fenced_calm hb q rfl) stepR_loop) ab⟩
theorem Qgy {c:Code}(h:AWp P n c (QG1 (Qj5 P n c Q) Q) A H):Qj5 P n c Q A H:=λz ρ w a an ak b k cs ae hb q=>by
 obtain⟨e,a2,ai,al,aa⟩:=h z ρ w a an ak b (.inLoop c::k) cs ae hb q;obtain⟨e',ρ2,A2,H2,ac,ah,ag,ab,ad⟩:=al;cases e'<;>cases e<;>simp only[Qqf]at ad
 case normal.normal=>
  obtain⟨e3,a3,ao,am,aj⟩:=ac z ρ2 ai a2 ag ab b k cs ae hb q;exact⟨e3,a3,ao,Qpi.weaken ah am,.of_steps (Fs aa (.one (fenced_calm hb q rfl) stepR_inLoop)) aj⟩
 all_goals exact⟨_,a2,ai,⟨_,ρ2,A2,H2,ac,ah,ag,ab,by first | trivial | exact ad⟩,.pass (x:=.inLoop c) rfl (λ_ _=>.inl (by simp)) aa⟩
def Qfi (P:Program)(n:Nat)(body c:Code)(Q:Ex->Env->Qa->Prop)(A:Env)(H:Qa):Prop:=
 ∀z ρ w a,Sim P ρ H w->Qek z ρ H w n A a->∀ (b:Frame) (k:List Item) (cs:List Frame),b.roundOf=(fen z).round->(fen z).fn b.fn->(fen z).room (cs.length+1+0)->
  ∃e q w',Qpi P n z ρ H w Q e q w'∧ArrivesIn (Machine.fenced P (fen z)) P (lone (b.atR a (.code c::.inScope body::k)) cs w) b k cs e q w'
theorem QhQ {c:Code}(h:Qfi P n c c Q A H):AWp P n (.scope c) Q A H:=λz ρ w a ag ac b k cs ae hb q=>by
 obtain⟨e,aa,w',ad,ab⟩:=h z ρ w a ag ac b k cs ae hb q;exact⟨e,aa,w',ad,.of_steps (.one (fenced_calm hb q rfl) QC1) ab⟩
def QBH (P:Program)(n:Nat)(body:Code)(Q:Ex->Env->Qa->Prop):Ex->Env->Qa->Prop
 | .goto l,A,H=>match findLabel body l with
  | some q=>Qfi P n body q Q A H
  | none=>Q (.goto l) A H
 | e,A,H=>Q e A H
theorem VS {body c:Code}(h:AWp P n c (QBH P n body Q) A H):Qfi P n body c Q A H:=λz ρ w a au ao b k cs am hb ak=>by
 obtain⟨e,a2,ag,aq,aa⟩:=h z ρ w a au ao b (.inScope body::k) cs am hb ak;obtain⟨e',ρ2,A2,H2,q,ae,ad,ac,ai⟩:=aq;cases e'<;>cases e<;>simp only[Qqf]at ai
 case normal.normal=>exact⟨.normal,a2,ag,⟨.normal,ρ2,A2,H2,q,ae,ad,ac,trivial⟩,Fs aa (.one (fenced_calm hb ak rfl) QyX)⟩
 case exit.exit i j=>
  subst ai;exact⟨.exit i,a2,ag,⟨.exit i,ρ2,A2,H2,q,ae,ad,ac,rfl⟩,λal ab=>aa.1 al (by simp[exitTo,ab]),λaj ab=>aa.2 aj (by simp[exitTo,ab])⟩
 case goto.goto i j=>
  subst ai;simp only[QBH]at q;cases ah:findLabel body i with
  | none=>
   rw[ah]at q;exact⟨.goto i,a2,ag,⟨.goto i,ρ2,A2,H2,q,ae,ad,ac,rfl⟩,λal ab=>aa.1 al (by simp[gotoIn,ah,ab]),λaj ab=>aa.2 aj (by simp[gotoIn,ah,ab])⟩
  | some aw=>
   rw[ah]at q;obtain⟨e3,a3,av,ar,an⟩:=q z ρ2 ag a2 ad ac b k cs am hb ak;exact⟨e3,a3,av,Qpi.weaken ae ar,.of_steps (aa.1 _ (by simp[gotoIn,ah])) an⟩
 case ret.ret=>exact⟨.ret,a2,ag,⟨.ret,ρ2,A2,H2,q,ae,ad,ac,trivial⟩,aa⟩
 case panic.panic v ch=>exact⟨.panic ch,a2,ag,⟨.panic v,ρ2,A2,H2,q,ae,ad,ac,ai⟩,aa⟩
end
def Qqq (A:Env)(q:List Nat)(aa:List Value):Env:=(q.zip aa).foldl (λA p=>upd A p.1 p.2) A
theorem Quu {ρ:Ren}{n:Nat}:∀ (aa:List Nat) (A:Env) (tmps:Array Value) (ab q:List Value),VL ρ ab q->tmps.size=n->(∀t,t<n->V ρ (A t) (tmps.getD t undef))->
  ((aa.zip q).foldl (λt (p:Nat×Value)=>t.setIfInBounds p.1 p.2) tmps).size=n∧∀t,t<n->V ρ (Qqq A aa ab t) (((aa.zip q).foldl (λt (p:Nat×Value)=>t.setIfInBounds p.1 p.2) tmps).getD t undef)
 | [],A,tmps,ab,q,hv,hn,h=>⟨hn,h⟩
 | p::aa,A,tmps,[],q,hv,hn,h=>by obtain rfl:=hv.unnil;exact⟨hn,h⟩
 | p::aa,A,tmps,v::ab,l,hv,hn,h=>by
  obtain⟨ag,q,rfl,ac,ad⟩:=hv.uncons;refine Quu aa (upd A p v) (tmps.setIfInBounds p ag) ab q ad (by simpa using hn) (λt ae=>?_)
  by_cases e:t=p
  ·subst e;rw[QjX,N0,RC (by omega)];exact ac
  ·rw[QhK A v e,N0,Bn (by omega),<- N0];exact h t ae
section
variable {P:Program} {n:Nat} {Q:Ex->Env->Qa->Prop} {A:Env} {H:Qa}
theorem St.putBoth {ρ ρ':Ren}{H':Qa}{w w':World}{b:Nat}{o:Obj}(h:St ρ H w ρ' H' w')(hb:b<w.heap.size):St ρ H (w.putObj b o) ρ' H' (w'.putObj b o) where
 mono:=h.mono
 next:=h.next
 dead:=h.dead
 ro:=h.ro
 fresh:=λid i q aa=>by simpa using h.fresh id i q aa
 os:=h.os
 tape:=h.tape
 output:=h.output
 size:=by simpa using h.size
 frame:=λk ab ac=>by
  by_cases e:k=b
  ·subst e;rw[World.putObj_heap_same (N5 hb h.size),World.putObj_heap_same hb]
  ·rw[World.putObj_heap_other e,World.putObj_heap_other e];exact h.frame k (by simpa using ab) ac
theorem QhR {w:World}(o:Obj)(k:Nat)(q:k<w.heap.size):(w.alloc o).heap[k]? = w.heap[k]? := by
 show(w.heap.push o)[k]? = _;rw[Array.getElem?_push,Le (by omega)]
theorem GF.kill (H:Qa)(l:Nat):GF (H.kill l) H:=⟨Lb _,λid b hb=>by
 rw[WV]at hb;split at hb
 ·cases hb
 ·exact hb⟩
def Qr2 (l:Nat)(L:Option Code->Blk)(v:Value)(H':Qa):Ex->Env->Qa->Prop
 | .normal,_,H1=>v=.bool true∧GF H' (H1.set l (L none))
 | .ret,_,H1=>v=.bool false∧GF H' (H1.set l (L (some .ret)))
 | .exit id,_,H1=>v=.bool false∧GF H' (H1.set l (L (some (.exit id))))
 | .goto t,_,H1=>v=.bool false∧GF H' (H1.set l (L (some (.goto t))))
 | .panic _,_,_=>False
def Quv (P:Program)(l:Nat)(args:List Value)(H:Qa)(v:Value)(H':Qa):Prop:=
 ∀ρ w args' i,Sim P ρ H w->VL ρ args args'->ρ l=some i->∃fn tmps q aa,(Instr.yield i.at_.block args'.toArray).run P w=.ok (.round i.at_.block fn tmps q aa) w∧
  ∀z m,RoundIn (fen z) m P i.at_.block fn tmps q aa w λe w'=>∃ρ',QCV ρ' (.ret v) e∧St ρ H w ρ' H' w'∧Sim P ρ' H' w'
theorem Qw3 {z:Rd}{c:Code}{Q:Exit->Act->World->Prop}{a:Act}{w:World}{m aa:Nat}(h:c.wpIn (fen z) m P Q a w):c.wpIn (fen z) aa P Q a w:=
 λb k cs q hb ab=>h b k cs q hb (QCP _ _)
theorem Qqr {l:Nat}{A0:Env}{ai:Array Tmp}{ak al:Code}{args:List Value}{v:Value}{H':Qa}(ax:H.get l=some (.loop A0 n ai ak al none))(bu:args.length=ai.size)
  (h:AWp P n ak (QG1 (AWp P n al (Qr2 l (Blk.loop A0 n ai ak al) v H')) (λ_ _ _=>False)) (Qqq A0 ai.toList args) (H.kill l)):Quv P l args H v H':=by
 intro ρ w args' i hs ha hi;obtain⟨fn,tmps,D,aB,ba,bd⟩:=hs.live l _ i ax hi;obtain⟨q,aj⟩:∃q:Loop,q={state:=.ready,pending:=none,fn:=fn,tmps:=tmps,params:=ai,assign:=ak,body:=al,defers:=D}:=⟨_,rfl⟩;have aB:w.heap[i.at_.block]? = some (.loop q):=by rw[aj];exact aB
 have b3:=run_yield (P:=P) (args:=args'.toArray) aB (by rw[aj];simp[<- bu,ha.1]);refine⟨_,_,_,_,b3,λz m=>?_⟩;obtain⟨aG,bg⟩:∃aG,aG=(q.params.zip args'.toArray).foldl (λtmps x=>tmps.setIfInBounds x.1 x.2) q.tmps:=⟨_,rfl⟩;have b4:q.params.zip args'.toArray=(ai.toList.zip args').toArray:=by
  rw[aj];apply Ru;simp
 have b2:aG=(ai.toList.zip args').foldl (λt (p:Nat×Value)=>t.setIfInBounds p.1 p.2) tmps:=by
  rw[bg,b4,aj];simp
 obtain⟨r1,r2⟩:=Quu ai.toList A0 tmps args args' ha ba bd;rw[<- b2]at r1 r2
 -- the loop's record is hidden
 have aO:Hid ρ (H.kill l) w i.at_.block (.loop q):=⟨aB,λid j bl ac hb e=>by
  rw[WV]at hb;split at hb
  ·cases hb
  ·rename_i aa;exact hs.sep l id _ bl i j ax hb hi ac rfl (λe=>aa e.symm) e.symm⟩
 have aQ:Sim P ρ (H.kill l) w:=hs.less (.kill H l);have bp:q.assign=ak:=by rw[aj]
 have bq:q.body=al:=by rw[aj]
 rw[bp,bq];show RoundIn (fen z) m P i.at_.block q.fn ((q.params.zip args'.toArray).foldl (λtmps x=>tmps.setIfInBounds x.1 x.2) q.tmps) ak al w _;rw[<- bg];refine roundIn_of_wpIn (F:=fen z) trivial ?_;have aJ:=h ⟨some i.at_.block,0,[]⟩ ρ w {tmps:=aG,defers:=[]} aQ ⟨⟨r1,r2⟩,⟨⟨[],rfl,.nil,λd aL=>by simp at aL⟩,λb7 aR=>by cases aR;exact⟨rfl,q,aO⟩,L7 _⟩⟩;refine FF (F:=fen ⟨some i.at_.block,0,[]⟩) (Qw3 aJ) ?_;rintro e a1 aH ⟨e',ρ1,A1,H1,bb,bc,bw,aM,bv⟩;cases e'<;>cases e<;>simp only[Qqf]at bv
 case normal.normal=>
  have aP:=aO.step bc;refine⟨_,run_beginRound aP.at_ (by rw[aj]),?_⟩;obtain⟨ag,aW⟩:∃ag:Loop,ag={q with state:=.busy}:=⟨_,rfl⟩;rw[<- aW];have bx:Sim P ρ1 H1 (aH.putObj i.at_.block (.loop ag)):=bw.putHid aP;have aY:Hid ρ1 H1 (aH.putObj i.at_.block (.loop ag)) i.at_.block (.loop ag):=aP.same;have aK:=bb ⟨some i.at_.block,0,[]⟩ ρ1 _ a1 bx ⟨aM.toEnvRel,⟨⟨[],(aM.fr.round _ rfl).1,.nil,λd aL=>by simp at aL⟩,λb7 aR=>by cases aR;exact⟨(aM.fr.round _ rfl).1,ag,aY⟩,L7 _⟩⟩;refine FF (F:=fen ⟨some i.at_.block,0,[]⟩) (Qw3 aK) ?_;have bz:St ρ (H.kill l) (w.putObj i.at_.block (.loop ag)) ρ1 H1 (aH.putObj i.at_.block (.loop ag)):=bc.putBoth aO.lt;have aA:∀ (ao:Option Code) (ρ3:Ren) (H3:Qa) (ad:World),St ρ1 H1 (aH.putObj i.at_.block (.loop ag)) ρ3 H3 ad->Sim P ρ3 H3 ad->GF H' (H3.set l (Blk.loop A0 n ai ak al ao))->
    ∃ae,(Instr.endRound i.at_.block ao).run P ad=.ok (.bool ao.isNone) ae∧St ρ H w ρ3 H' ae∧Sim P ρ3 H' ae:=by
   intro ao ρ3 H3 ad an av ah;have aw:=aY.step an;have ab:=bz.trans an;obtain⟨az,aX⟩:∃az:Loop,az={ag with state:=if ao.isNone then .ready else .done,pending:=ao}:=⟨_,rfl⟩;refine⟨ad.putObj i.at_.block (.loop az),by rw[aX];exact run_endRound ao aw.at_,?_,?_⟩
   ·refine St.less ?_ ah;have aZ:∀id b,(H.kill l).get id=some b->H.get id=some b:=λid b hb=>by
     rw[WV]at hb;split at hb
     ·cases hb
     ·exact hb
    refine⟨ab.mono,ab.next,λid j ac am=>?_,λid j b b' ac am aC aV=>?_,λid j ac br=>?_,ab.os,ab.tape,ab.output,by have:=ab.size;simpa using this,λk aQ bh=>?_⟩
    ·have aa:id≠l:=λe=>by rw[e,ax]at am;cases am
     rw[Qn,Le aa];exact ab.dead id j ac (by rw[WV,Le aa];exact am)
    ·have aa:id≠l:=λe=>by rw[e,ax]at am;cases am;cases aC
     rw[Qn,Le aa]at aV;exact ab.ro id j b b' ac (by rw[WV,Le aa];exact am) aC aV
    ·obtain⟨bn,aI⟩:=ab.fresh id j ac br;refine⟨bn,?_⟩;rcases aI with aI | ⟨b6,b5,b0,e1,e2,e3,e4⟩
     ·left;simpa using aI
     ·right;exact⟨b6,b5,b0,e1,e2,aZ _ _ e3,e4⟩
    ·have aa:k≠i.at_.block:=λe=>bh l i _ hi ax rfl e.symm;rw[World.putObj_heap_other aa,ab.frame k (by simpa using aQ) (λid j bl aJ aK bo=>bh id j bl aJ (aZ _ _ aK) bo),World.putObj_heap_other aa]
   ·refine Sim.less ?_ ah;have aD:Sim P ρ3 H3 (ad.putObj i.at_.block (.loop az)):=av.putHid aw;have aN:ρ3 l=some i:=ab.mono _ _ hi;refine⟨aD.dom,λid b j hb ac=>?_,λbk bm aT aU bi bj g1 g2 aE aF aC aa=>?_,aD.glob⟩
    ·rw[Qn]at hb;split at hb
     ·rename_i e;subst e;cases hb;rw[aN]at ac;cases ac;refine⟨fn,tmps,D,?_,ba,λt b1=>(bd t b1).mono ab.mono⟩;rw[World.putObj_heap_same aw.lt,aX,aW,aj]
     ·exact aD.live id b j hb ac
    ·rw[Qn]at g1 g2;split at g1
     ·rename_i e1;rw[Le (λe2=>aa (e1.trans e2.symm))]at g2;rw[e1,aN]at aE;cases aE;exact λe=>aw.un bm bj aU aF g2 e.symm
     ·split at g2
      ·rename_i e1 e2;rw[e2,aN]at aF;cases aF;exact aw.un bk bi aT aE g1
      ·exact aD.sep bk bm aT aU bi bj g1 g2 aE aF aC aa
  rintro e a3 ad ⟨e',ρ3,A3,H3,ay,an,av,b8,aS⟩;cases e'<;>cases e<;>simp only[Qqf]at aS<;>simp only[Qr2]at ay
  case normal.normal=>
   obtain⟨rfl,ah⟩:=ay;obtain⟨ae,aq,ar,au⟩:=aA none ρ3 H3 ad an av ah;exact⟨_,ae,aq,ρ3,.same _ rfl,ar,au⟩
  case ret.ret=>
   obtain⟨rfl,ah⟩:=ay;obtain⟨ae,aq,ar,au⟩:=aA (some .ret) ρ3 H3 ad an av ah;exact⟨_,ae,aq,ρ3,.same _ rfl,ar,au⟩
  case exit.exit a b=>
   subst aS;obtain⟨rfl,ah⟩:=ay;obtain⟨ae,aq,ar,au⟩:=aA (some (.exit a)) ρ3 H3 ad an av ah;exact⟨_,ae,aq,ρ3,.same _ rfl,ar,au⟩
  case goto.goto a b=>
   subst aS;obtain⟨rfl,ah⟩:=ay;obtain⟨ae,aq,ar,au⟩:=aA (some (.goto a)) ρ3 H3 ad an av ah;exact⟨_,ae,aq,ρ3,.same _ rfl,ar,au⟩
 all_goals exact bb.elim
theorem V.yield_inv {ρ:Ren}{l:Nat}{z:Value}(h:V ρ (.func (.yield l) #[] #[]) z):∃i,ρ l=some i∧z=.func (.yield i.at_.block) #[] #[]:=by
 cases h with
 | same _ aa=>simp[plain]at aa
 | func fn xs ys ag ah q ab ac ad ae=>simp[Qd2]at q
 | yield l i h=>exact⟨i,h,rfl⟩
theorem Qw4 {d:Option Nat}{ty:TypeId}{pos:String}{af:Array Edge}{g:Option (Nat×Bool)}{c:Operand}{args:Array Operand}{ab:Array TypeId}{l:Nat}{v:Value}{H':Qa}(ae:ev A c=.func (.yield l) #[] #[])
  (ag:Quv P l (args.map (ev A)).toList H v H'):QD P ⟨d,.call ⟨.value c,args,ab⟩,ty,pos,af,g⟩ A H v H':=by
 intro ρ w a hs he K Q hk z;have aa:=he c (by simp[Op.operands,Call.operands]);rw[ae]at aa;obtain⟨i,hi,e⟩:=aa.yield_inv;obtain⟨fn,tmps,ac,ad,am,ah⟩:=ag ρ w (args.map a.eval).toList i hs (Qup (λx al=>he x (by simp[Op.operands,Call.operands,al]))) hi;have ai:(execOp a.eval ⟨d,.call ⟨.value c,args,ab⟩,ty,pos,af,g⟩).run P w=.ok (.round i.at_.block fn tmps ac ad) w:=by
  rw[<- am];simp only[execOp,resolve,e,Deferred.ofValue,invoke,pure_bind];congr 2;apply Ru;simp
 refine⟨λ_ _=>trivial,?_⟩;rw[QjY ai (by simp) _];refine⟨λh=>by simp[fen,Fence.wide]at h,?_⟩;refine(ah z _).mono ?_;rintro e w' ⟨ρ',q,ak,aj⟩;cases e with
 | returned an=>exact hk an ρ' w' q ak aj
 | panicked ao=>exact q.elim
 | outgrown=>exact q.elim
def QC2 (Q:Ex->Env->Qa->Prop)(A:Env)(H:Qa):Option Code->Prop
 | none=>Q .normal A H
 | some .ret=>Q .ret A H
 | some (.exit id)=>Q (.exit id) A H
 | some (.goto l)=>Q (.goto l) A H
 | _=>False
theorem Ql3 {g:Operand}{ae:Array Tmp}{ac ad:Code}{aq:FuncId}{xs ys:Array Value}{v:Value}{H2:Qa}{st:Option Code}(b5:Qff P n g=true)(ar:ev A g=.func (.func aq) xs ys)(aY:entered P aq=true)
  (ai:GR P aq (xs.toList++[.func (.yield H.next) #[] #[]]++ys.toList) (H.push (.loop A n ae ac ad none)) v H2) {A':Env} {bF:Nat} {bm:Array Tmp} {aO aR:Code} (au:H2.get H.next=some (.loop A' bF bm aO aR st)) (aw:QC2 Q A (H2.kill H.next) st):
  AWp P n (.rangeFunc g ae ac ad) Q A H:=by
 intro z ρ w a hs he;have aZ:=he.eval hs b5;rw[ar]at aZ;obtain⟨aA,aB,bp,bD,bE⟩:=aZ.func_inv;refine wpIn_rangeFunc λfn _=>?_
 -- what is laid
 obtain⟨q,mk,aa,D,bA,bh,bb,aK,bd,br⟩:∃q mk aa D,(Instr.enterLoop fn a.tmps ae ac ad (fen z).round).run P w=.ok (q,mk) aa∧
   aa.heap[q]? = some (.loop {state:=.ready,pending:=none,fn:=fn,tmps:=a.tmps,params:=ae,assign:=ac,body:=ad,defers:=D})∧w.heap.size<=q∧(w.heap.size<=aa.heap.size∧aa.os=w.os∧aa.tape=w.tape∧aa.output=w.output)∧(∀k,k<w.heap.size->aa.heap[k]? = w.heap[k]?)∧
   ((mk=[]∧a.defers=[])∨(z.r=none∧mk=[QwO w.heap.size]∧aa.heap[w.heap.size]? = some (.deferred (some []))∧q≠w.heap.size)):=by
  cases am:z.r with
  | none=>
   refine⟨w.heap.size+1,[QwO w.heap.size],(w.alloc (.deferred (some []))).alloc (.loop {state:=.ready,pending:=none,fn:=fn,tmps:=a.tmps,params:=ae,assign:=ac,body:=ad,defers:=w.heap.size}),w.heap.size,by rw[show(fen z).round=none from am];exact run_enterLoop_outer _ _ _ _ _,?_,by omega,⟨by simp;omega,rfl,rfl,rfl⟩,λk aj=>?_,.inr ⟨rfl,rfl,?_,by omega⟩⟩
   ·have:=World.alloc_heap_new (w.alloc (.deferred (some []))) (.loop {state:=.ready,pending:=none,fn:=fn,tmps:=a.tmps,params:=ae,assign:=ac,body:=ad,defers:=w.heap.size});rwa [World.size_alloc]at this
   ·exact(QhR _ _ (by simp;omega)).trans (QhR _ _ aj)
   ·exact(QhR _ _ (by simp)).trans (World.alloc_heap_new w _)
  | some bk=>
   obtain⟨bz,ab,ax⟩:=he.fr.round bk am;refine⟨w.heap.size,[],w.alloc (.loop {state:=.ready,pending:=none,fn:=fn,tmps:=a.tmps,params:=ae,assign:=ac,body:=ad,defers:=ab.defers}),ab.defers,by rw[show(fen z).round=some bk from am];exact run_enterLoop_inner ax.at_ _ _ _ _ _,?_,Lb _,⟨by simp,rfl,rfl,rfl⟩,λk aj=>QhR _ _ aj,.inl ⟨rfl,bz⟩⟩;exact World.alloc_heap_new w _
 obtain⟨aK,b6,bC,b7⟩:=aK;have bM:q<aa.heap.size:=(Nj.1 bh).1
 -- the loop's record is a block
 have b1:ρ H.next=none:=by
  cases b9:ρ H.next with
  | none=>rfl
  | some i=>have:=hs.dom _ i b9;omega
 have ah:Sub ρ (ext ρ H.next ⟨⟨q,0,none⟩,0,0⟩):=λid i hi=>by
  have:id≠H.next:=λe=>by rw[e,b1]at hi;cases hi
  rw[Ji _ _ this];exact hi
 obtain⟨ρ1,aM⟩:∃ρ1,ρ1=ext ρ H.next ⟨⟨q,0,none⟩,0,0⟩:=⟨_,rfl⟩;rw[<- aM]at ah;have al:ρ1 H.next=some ⟨⟨q,0,none⟩,0,0⟩:=by rw[aM];exact Xa _ _ _
 have ak:∀id,id≠H.next->ρ1 id=ρ id:=λid h=>by rw[aM];exact Ji _ _ h
 have bg:Sim P ρ1 (H.push (.loop A n ae ac ad none)) aa:=by
  refine⟨λid i hi=>?_,λid b i hb hi=>?_,λaN aG aP aQ bi bj g1 g2 az ao aI av=>?_,λk aj=>?_⟩
  ·simp only[Qd]
   by_cases e:id=H.next
   ·omega
   ·rw[ak id e]at hi;have:=hs.dom id i hi;omega
  ·rw[Qc]at hb;split at hb
   ·rename_i e;subst e;cases hb;rw[al]at hi;cases hi;exact⟨fn,a.tmps,D,bh,he.size,λt aL=>(he.tmps t aL).mono ah⟩
   ·rename_i e;rw[ak id e]at hi;have:=hs.live id b i hb hi;exact this.mono ah (bd _ this.lt)
  ·rw[Qc]at g1 g2;split at g1
   ·rename_i e1;rw[Le (λe2=>av (e1.trans e2.symm))]at g2;rw[e1,al]at az;cases az;rw[ak aG (λe2=>av (e1.trans e2.symm))]at ao;have:=(hs.live aG aQ bj g2 ao).lt;simp only;omega
   ·rename_i e1;rw[ak aN e1]at az;split at g2
    ·rename_i e2;rw[e2,al]at ao;cases ao;have:=(hs.live aN aP bi g1 az).lt;simp only;omega
    ·rename_i e2;rw[ak aG e2]at ao;exact hs.sep aN aG aP aQ bi bj g1 g2 az ao aI av
  ·obtain⟨i,hi,e⟩:=hs.glob k aj;exact⟨i,ah _ _ hi,e⟩
 have bB:St ρ H w ρ1 (H.push (.loop A n ae ac ad none)) aa:=by
  refine⟨ah,by simp,λid i hi ar=>?_,λid i b b' hi ar aI aW=>?_,λid i hi b4=>?_,b6,bC,b7,aK,λk aj _=>bd k aj⟩
  ·rw[Qc,Le (by have:=hs.dom id i hi;omega)];exact ar
  ·rw[Qc,Le (by have:=hs.dom id i hi;omega),ar]at aW;cases aW;exact aI
  ·by_cases e:id=H.next
   ·rw[e,al]at hi;cases hi;exact⟨by omega,.inl bb⟩
   ·rw[ak id e,b4]at hi;cases hi
 refine⟨q,mk,aa,{target:=.fn (.func aq) aB,args:=aA++#[.func (.yield q) #[] #[]]},aa,aq,aA++#[.func (.yield q) #[] #[]]++aB,aa,bA,?_,λ_ _=>trivial,?_,λh=>by simp[fen,Fence.wide]at h,?_⟩
 ·simp only[resolve,bp];simp[go_sem,Deferred.ofValue]
 ·simp[invoke,go_sem,Qd3 aY]
 ·have aV:VL ρ1 (xs.toList++[.func (.yield H.next) #[] #[]]++ys.toList) (aA.toList++[.func (.yield q) #[] #[]]++aB.toList):=
   ((bD.mono ah).append (.cons (.yield _ _ al) (.nil _))).append (bE.mono ah)
  rcases ai with⟨_,ai⟩ | am
  rotate_left
  ·obtain⟨_,_,_,e,_⟩:=am ρ1 aa _ bg aV;rw[Qd3 aY]at e;cases e
  have aX:=ai ρ1 aa _ bg aV;rw[show(aA.toList++[Value.func (.yield q) #[] #[]]++aB.toList).toArray=aA++#[.func (.yield q) #[] #[]]++aB by apply Ru;simp]at aX;refine Qqm (aX.mono ?_);rintro e an ⟨ρ3,bc,aF,aJ⟩;cases e with
  | panicked bL=>exact bc.elim
  | outgrown=>exact bc.elim
  | returned bO=>
   have ba:ρ3 H.next=some ⟨⟨q,0,none⟩,0,0⟩:=aF.mono _ _ al;obtain⟨bq,bK,D',aD,_⟩:=aJ.live _ _ _ au ba;simp only at aD;obtain⟨ab,ax⟩:∃ab:Loop,ab={state:=if st.isNone then .ready else .done,pending:=st,fn:=bq,tmps:=bK,params:=bm,assign:=aO,body:=aR,defers:=D'}:=⟨_,rfl⟩;rw[<- ax]at aD;have bx:ab.state≠.busy:=by rw[ax];cases st<;>simp
   have b8:ab.pending=st:=by rw[ax]
   have b2:Hid ρ3 (H2.kill H.next) an q (.loop ab):=⟨aD,λid j bl ag hb e=>by
    rw[WV]at hb;split at hb
    ·cases hb
    ·rename_i av;exact aJ.sep H.next id _ bl _ j au hb ba ag rfl (λe=>av e.symm) e.symm⟩
   have ay:St ρ H w ρ3 (H2.kill H.next) (an.putObj q (.loop {ab with state:=.exhausted})):=((bB.trans aF).less (.kill H2 _)).putHid bb;have aE:Sim P ρ3 (H2.kill H.next) (an.putObj q (.loop {ab with state:=.exhausted})):=(aJ.less (.kill H2 _)).putHid b2;have aC:Qek z ρ3 (H2.kill H.next) (an.putObj q (.loop {ab with state:=.exhausted})) n A {a with defers:=mk++a.defers}:=by
    refine⟨⟨he.size,λt aL=>(he.tmps t aL).mono (ah.trans aF.mono)⟩,?_⟩;have aH:Fr z ρ3 (H2.kill H.next) (an.putObj q (.loop {ab with state:=.exhausted})) a:=he.fr.step ay rfl;rcases br with⟨rfl,_⟩ | ⟨am,rfl,bw,aU⟩
    ·exact aH
    ·obtain⟨aS,bn,bI,bJ⟩:=aH.marks;refine⟨⟨w.heap.size::aS,by rw[bn];rfl,FR.2 ⟨λb3=>?_,bI⟩,λd ai=>?_⟩,λl au=>(by rw[am]at au;cases au),aH.base⟩
     ·obtain⟨bo,bG,bN,bH⟩:=he.fr.marks;have:bo=aS:=by
       have:=bG.symm.trans bn;exact(List.map_inj_right (λx y h=>by simpa[QwO] using h)).1 (List.append_cancel_right this)
      subst this;have:=(bH _ b3).2.lt;omega
     ·rcases LK.1 ai with rfl | ai
      ·have bu:Hid ρ1 (H.push (.loop A n ae ac ad none)) aa w.heap.size (.deferred (some [])):=⟨bw,λid j bl ag hb=>by
        by_cases e:id=H.next
        ·rw[e,al]at ag;cases ag;exact aU
        ·rw[ak id e]at ag;rw[Qc,Le e]at hb;have:=(hs.live id bl j hb ag).lt;omega⟩
       have aT:=bu.step aF;refine⟨he.fr.base,?_⟩;have bv:Hid ρ3 (H2.kill H.next) an w.heap.size (.deferred (some [])):=⟨aT.at_,λid j bl ag hb=>aT.un id j bl ag ((GF.kill H2 _).get _ _ hb)⟩;exact bv.put (λe=>aU e.symm)
      ·exact bJ d ai
   refine⟨st,an.putObj q (.loop {ab with state:=.exhausted}),(run_endLoop (P:=P) aD bx).trans (by rw[b8]),?_⟩;cases st with
   | none=>exact⟨.normal,ρ3,A,_,aw,ay,aE,aC,trivial⟩
   | some c=>
    cases c<;>simp only[QC2]at aw
    case ret=>exact wpIn_ret ⟨.ret,ρ3,A,_,aw,ay,aE,aC,trivial⟩
    case exit id=>exact wpIn_exit ⟨.exit id,ρ3,A,_,aw,ay,aE,aC,rfl⟩
    case goto id=>exact wpIn_goto ⟨.goto id,ρ3,A,_,aw,ay,aE,aC,rfl⟩
end
section
variable {P:Program} {n:Nat} {A:Env} {H:Qa} {d:Option Nat} {ty:TypeId} {pos:String} {af:Array Edge} {g:Option (Nat×Bool)}
theorem Sim.place {ρ:Ren}{w:World}(ak:Sim P ρ H w){id off:Nat}{z:Value}{c:List Value}{e:TypeId}(al:V ρ (.pointer (some ⟨id,off,none⟩)) z)(ah:H.get id=some (.cells c e false)):
  ∃i q aa,ρ id=some i∧i.at_=⟨i.at_.block,0,none⟩∧z=.pointer (some ⟨i.at_.block,off,none⟩)∧w.heap[i.at_.block]? = some (.cells q e aa)∧c.length<=q.size∧(∀ (j:Nat) v,c[j]? = some v->∃ae,q[j]? = some ae∧V ρ v ae):=by
 obtain⟨i,hi,_,e1⟩:=al.ptr_inv;obtain⟨q,aa,ai,⟨ac,ab⟩,am,an,ag,_⟩:=ak.live id _ i ah hi;have ad:i.at_=⟨i.at_.block,0,none⟩:=by
  obtain⟨⟨b,o,s⟩,ao,ss⟩:=i;simp only at ac ab;subst ac;subst ab;rfl
 refine⟨i,q,aa,hi,ad,?_,ai,by omega,λj v aj=>?_⟩
 ·rw[e1,ad,Qfe];simp
 ·have:=ag j v aj;rw[ab,LP]at this;exact this
def QhS:List Value->Option (List UInt8)
 | []=>some []
 | .int .u8 m::l=>(QhS l).map (m.toNat.toUInt8::·)
 | _::_=>none
theorem Qqs {ρ:Ren}:∀ (l q:List Value) (bs:List UInt8),VL ρ l q->QhS l=some bs->∃ns:List Int,q=ns.map (Value.int .u8)∧bs=ns.map λm=>m.toNat.toUInt8
 | [],q,bs,hv,h=>by cases h;obtain rfl:=hv.unnil;exact⟨[],rfl,rfl⟩
 | v::l,q,bs,hv,h=>by
  obtain⟨ah,ae,rfl,ac,ad⟩:=hv.uncons;unfold QhS at h;split at h
  ·rename_i aa;cases aa
  ·rename_i m ag aa;cases aa;simp only[Lx]at h;obtain⟨ab,hb,rfl⟩:=h;obtain⟨ns,rfl,rfl⟩:=Qqs l ae ab ad hb;exact⟨m::ns,by rw[ac.plain_eq rfl];rfl,rfl⟩
  ·cases h
theorem Qr3:∀ (ns:List Int) (acc:ByteArray),ns.foldl (λr (m:Int)=>r.push (UInt8.ofNat m.toNat)) acc=⟨acc.data++(ns.map λm=>m.toNat.toUInt8).toArray⟩
 | [],acc=>by simp
 | m::ns,acc=>by
  rw[FQ,Qr3 ns];apply ByteArray.ext;apply Ru;simp[ByteArray.push,Nat.toUInt8]
def Qcz (size:Nat)(v:Value)(H:Qa):Option (List Value):=
 match v with
 | .slice none 0 _=>some []
 | .slice (some a) len _=>if len=0 then some [] else match H.get a.block with
  | some (.cells c _ _)=>if a.off+len * size<=c.length then some ((c.drop a.off).take (len * size)) else none
  | _=>none
 | _=>none
theorem QC3 {src ab e:TypeId}{x:Operand}{l:List Value}{bs:List UInt8}(aj:P.underlying src=some (.slice e))(ag:P.underlying e=some (.int .u8))(ah:P.underlying ab=some .string)
  (q:Qcz 1 (ev A x) H=some l) (hb:QhS l=some bs):QD P ⟨d,.convert src ab x,ty,pos,af,g⟩ A H (.string (mkS bs)) H:=
 .pure_ λρ w s ar al=>by
  have ae:=al x (by simp[Op.operands]);refine⟨.string (mkS bs),?_,.same _ rfl⟩;simp only[execOp,LW];generalize ev A x=u at ae q;unfold Qcz at q;split at q
  ·rename_i cap;cases q;cases hb;rw[ae.plain_eq rfl];rw[run_convert_bytes_string w src ab e none 0 cap aj ag ah];rfl
  ·rename_i a len cap;obtain⟨i,aa,ac,g1,g2,g3,g4,au,g0,av,aw⟩:=ae.slice_inv;rw[g3,run_convert_bytes_string w src ab e (some aa) len ac aj ag ah];split at q
   ·rename_i ad;subst ad;cases q;cases hb;rw[run_bytesToString w aa 0 ac [] (by simp[loadCells,loadCellsFrom])];rfl
   ·rename_i ad;split at q
    ·rename_i c e' ro am;split at q
     ·rename_i ao;cases q;obtain⟨cs,k1,k2,k3⟩:=(ar.live a.block _ i am g1).cellsAt a.off (len * 1) ao;obtain⟨ns,rfl,rfl⟩:=Qqs _ cs bs k2 hb;have ak:aa=i.at_.add a.off:=by rcases g4 with h | ⟨h,_⟩;exact h;exact absurd h ad
      have aq:ns.length=len:=by simpa using k1
      have ai:=run_loadCells_list (P:=P) (w:=w) aa (ns.map (Value.int .u8)) (λj v an=>by rw[ak];exact k3 j v an);rw[Nn,aq]at ai;rw[run_bytesToString w aa len ac ns ai,Qr3];simp[mkS]
     ·cases q
    ·cases q
  ·cases q
def QC4:TypeDesc->Bool
 | .pointer _=>true
 | _=>false
def QnI (P:Program)(t:TypeId)(q:String):Option FuncId:=
 match P.info? t,P.underlying t with
 | some inf,some td=>match inf.methods.find? (·.name==q) with
  | some m=>match m.path.toList,m.func with
   | [],some (f,pr)=>if pr=QC4 td then some f else none
   | _,_=>none
  | none=>none
 | _,_=>none
theorem QyZ {t:TypeId}{aa:String}{f:FuncId}(h:QnI P t aa=some f)(v:Value)(w:World)(ac:Nat):(method (ac+1) t v aa).run P w=.ok (f,v) w:=by
 unfold QnI at h;split at h
 ·rename_i am ak hi aj;split at h
  ·rename_i m ag;split at h
   ·rename_i al pr ah ad;split at h
    ·rename_i q;cases h;have ae:(follow m.path.toList t (.val v)).run P w=.ok (t,.val v) w:=by rw[ah];rfl
     have ai:∀ab,(receiverAt t (.val v) pr ab).run P w=.ok v w:=λab=>by
      simp only[receiverAt,LW,LZ aj,Lz];cases ak<;>simp only[QC4]at q<;>subst q<;>rfl
     simp only[method,typeInfo,LW,DJ,Lz,hi,Nc,ag,ae,ad,ai]
    ·cases h
   ·cases h
  ·cases h
 ·cases h
theorem QBI {ab:Operand}{ae:String}{args:Array Operand}{an:Array TypeId}{t:TypeId}{v u:Value}{f:FuncId}{H':Qa}(ag:ev A ab=.iface t v)(am:QnI P t ae=some f)(aj:GR P f (v::(args.map (ev A)).toList) H u H'):
  QD P ⟨d,.call ⟨.invoke ab ae,args,an⟩,ty,pos,af,g⟩ A H u H':=
 Qpn (λρ w a ao ac=>by
  have ad:=ac ab (by simp[Op.operands,Call.operands]);rw[ag]at ad;obtain⟨q,e,ai⟩:=ad.iface_inv;refine⟨q::(args.map a.eval).toList,.cons ai (Qup (λx aa=>ac x (by simp[Op.operands,Call.operands,aa]))),?_⟩;have ak:∃k,P.types.size+Made.depth=k+1:=⟨P.types.size+99,rfl⟩;obtain⟨k,al⟩:=ak;simp only[execOp,resolve,pure_bind,invoke,e];have ah:(#[Value.iface t q]++Array.map a.eval args)[0]? = some (.iface t q):=by rw[Array.getElem?_append_left (by simp)];rfl
  have aa:(#[Value.iface t q]++Array.map a.eval args).extract 1 (#[Value.iface t q]++Array.map a.eval args).size=Array.map a.eval args:=by
   apply Ru;simp;exact LF (by simp)
  simp only[ah,aa,callMethod,LW,DJ,Lz,al,QyZ am];congr 2;apply Ru;simp) aj
end
def Qfj:TypeDesc->Value->Bool
 | .int _,.int _ _=>true
 | .string,.string _=>true
 | .bool,.bool _=>true
 | _,_=>false
def Qr4 (d:TypeDesc)(k:Value):List (Value×Value)->Nat->Option (Option (Nat×Value))
 | [],_=>some none
 | (a,b)::l,i=>bif Qfj d a then(match Instr.sameNow d k a with | some true=>some (some (i,b)) | some false=>Qr4 d k l (i+1) | none=>none) else none
theorem Qc1 {d:TypeDesc}{v:Value}(h:Qfj d v=true):plain v=true:=by cases d<;>cases v<;>simp_all [Qfj,plain]
section
variable {P:Program} {n:Nat} {A:Env} {H:Qa} {d:Option Nat} {ty:TypeId} {pos:String} {af:Array Edge} {g:Option (Nat×Bool)}
theorem Qgz {aa:TypeId}{q:TypeDesc}{k:Value}(ab:P.underlying aa=some q)(ac:Qfj q k=true)(e:Bool)(m:Nat)(w:World):(Instr.checkKey e (m+1) aa k).run P w=.ok () w:=by
 unfold Instr.checkKey;simp only[LW,LZ ab,Lz];cases q<;>cases k<;>simp_all [Qfj]
theorem QgA {ρ:Ren}{ab:TypeDesc}{k:Value}:∀ (es:List (Value×Value)) (q:List MapEntry) (i:Nat) (r:Option (Nat×Value)),VL ρ (es.map (·.1)) (q.map (·.key))->VL ρ (es.map (·.2)) (q.map (·.val))->Qr4 ab k es i=some r->
  match r with
  | none=>Instr.findNow ab k q i=some none
  | some (j,v)=>i<=j∧∃ad,Instr.findNow ab k q i=some (some (j,ad))∧V ρ v ad∧∃a,es[j - i]? = some (a,v)∧Instr.sameNow ab k a=some true∧plain a=true
 | [],q,i,r,h1,h2,h=>by
  cases h;have:q=[]:=by
   have:=h1.1;simp at this;exact N2.1 this.symm
  subst this;rfl
 | (a,b)::es,q,i,r,h1,h2,h=>by
  cases q with
  | nil=>have:=h1.1;simp at this
  | cons e q=>
   simp only[NZ]at h1 h2;obtain⟨x,xs,ah,aj,ak⟩:=h1.uncons;obtain⟨y,ys,ai,al,am⟩:=h2.uncons;cases ah;cases ai;unfold Qr4 at h;cases ac:Qfj ab a with
   | false=>rw[ac]at h;cases h
   | true=>
    rw[ac]at h;simp only[Lq]at h;have ae:=aj.plain_eq (Qc1 ac);split at h
    ·rename_i aa;cases h;refine⟨Lb _,e.val,?_,al,a,by simp,aa,Qc1 ac⟩;simp only[Instr.findNow,ae,aa]
    ·rename_i aa;have ag:=QgA es q (i+1) r ak am h;cases r with
     | none=>simp only[Instr.findNow,ae,aa];exact ag
     | some an=>
      obtain⟨j,v⟩:=an;obtain⟨aw,ad,ao,aq,a1,ar,au,av⟩:=ag;refine⟨by omega,ad,by simp only[Instr.findNow,ae,aa];exact ao,aq,a1,?_,au,av⟩;rw[show j - i=(j - (i+1))+1 by omega];simpa using ar
    ·cases h
theorem Qc2 {q:TypeId}{aa:TypeDesc}{k:Value}{l:List MapEntry}{r:Option (Nat×Value)}(ab:P.underlying q=some aa)(h:Instr.findNow aa k l 0=some r)(w:World):(Instr.findKey q k l).run P w=.ok r w:=by
 simp only[Instr.findKey,LW,LZ ab,Lz,h,Nc]
theorem Qy0 {t:TypeId}:QD P ⟨d,.makeMap t none,ty,pos,af,g⟩ A H (.map (some H.next)) (H.push (.map [])):=
 .of_run λρ w s ab ac=>by
  obtain⟨q,aa⟩:=ab.push (.map #[] 0) (.map []) ⟨⟨w.heap.size,0,none⟩,0,0⟩ rfl ⟨#[],0,by
   show(w.heap.push (Obj.map #[] 0))[w.heap.size]? = _;simp,.nil _,.nil _,rfl,λj e h=>by simp at h⟩
  refine⟨.map (some w.heap.size),_,_,?_,.map H.next _ (Xa _ _ _),q,aa⟩;simp only[execOp,Fk,Instr.makeMap,LW,FT,Lz,Nc,World.alloc]
def QAJ (P:Program)(k e:TypeId)(m q:Value)(ok:Bool)(H:Qa):Option Value:=
 match P.underlying k,P.info? e with
 | some td,some inf=>match inf.zero with
  | some z=>bif Qfj td q&&ZC z then
    (match m with
    | .map none=>some (bif ok then .tuple #[z,.bool false] else z)
    | .map (some id)=>(match H.get id with
     | some (.map es)=>(match Qr4 td q es 0 with
      | some none=>some (bif ok then .tuple #[z,.bool false] else z)
      | some (some (_,v))=>some (bif ok then .tuple #[v,.bool true] else v)
      | none=>none)
     | _=>none)
    | _=>none)
   else none
  | none=>none
 | _,_=>none
theorem V.pair {ρ:Ren}{v ab:Value}(h:V ρ v ab)(b:Bool):V ρ (.tuple #[v,.bool b]) (.tuple #[ab,.bool b]):=
 .tuple _ _ rfl (λj x x' q aa=>by
  rcases j with _ | _ | j
  ·simp at q aa;subst q;subst aa;exact h
  ·simp at q aa;subst q;subst aa;exact .same _ rfl
  ·simp at q)
theorem QBJ {t k e:TypeId}{x ad:Operand}{ok:Bool}{v:Value}(aj:P.underlying t=some (.map k e))(h:QAJ P k e (ev A x) (ev A ad) ok H=some v):QD P ⟨d,.lookup t x ad ok,ty,pos,af,g⟩ A H v H:=
 .pure_ λρ w s az al=>by
  have ab:=al x (by simp[Op.operands]);have aA:=al ad (by simp[Op.operands]);unfold QAJ at h;split at h
  ·rename_i aD aH aa hi;split at h
   ·rename_i z an;cases q:(Qfj aD (ev A ad)&&ZC z) with
    | false=>rw[q]at h;cases h
    | true=>
     rw[q]at h;simp only[Lq]at h;simp only[Lm]at q;have ai:=aA.plain_eq (Qc1 q.1);have ac:V ρ z z:=.closed q.2;split at h
     ·rename_i ae;rw[ae]at ab;have aB:=ab.plain_eq rfl;cases h;refine⟨bif ok then .tuple #[z,.bool false] else z,?_,by cases ok;exact ac;exact ac.pair false⟩;simp only[execOp,Instr.lookup,aB,ai,LW,LZ aj,Lz,Nc,Qgz aa q.1 _ 9999,Qc2 aa (l:=[]) (r:=none) rfl,Kh hi an];cases ok<;>rfl
     ·rename_i id ae;rw[ae]at ab;obtain⟨i,ay,ak⟩:=ab.map_inv;split at h
      ·rename_i es aw;obtain⟨ag,av,ax,ar,au,aG,aF⟩:=az.live id _ i aw ay;have am:(getObj i.at_.block).run P w=.ok (.map ag av) w:=by simp[getObj,Sem.run,ax]
       split at h
       ·rename_i ah;cases h;have:=QgA es ag.toList 0 none ar au ah;refine⟨bif ok then .tuple #[z,.bool false] else z,?_,by cases ok;exact ac;exact ac.pair false⟩;simp only[execOp,Instr.lookup,ak,ai,LW,LZ aj,Lz,Nc,am,Qgz aa q.1 _ 9999,Qc2 aa this,Kh hi an];cases ok<;>rfl
       ·rename_i j aE ah;cases h;obtain⟨_,aq,aC,ao,_⟩:=QgA es ag.toList 0 (some (j,aE)) ar au ah;refine⟨bif ok then .tuple #[aq,.bool true] else aq,?_,by cases ok;exact ao;exact ao.pair true⟩;simp only[execOp,Instr.lookup,ak,ai,LW,LZ aj,Lz,Nc,am,Qgz aa q.1 _ 9999,Qc2 aa aC];cases ok<;>rfl
       ·cases h
      ·cases h
     ·cases h
   ·cases h
  ·cases h
def Qw5 (P:Program)(k:TypeId)(m q v:Value)(H:Qa):Option Qa:=
 match P.underlying k,m with
 | some td,.map (some id)=>(match H.get id with
  | some (.map es)=>bif Qfj td q then(match Qr4 td q es 0 with
    | some none=>some (H.set id (.map (es++[(q,v)])))
    | some (some (j,_))=>some (H.set id (.map (es.set j (q,v))))
    | none=>none) else none
  | _=>none)
 | _,_=>none
theorem QC5 (a b:ByteArray):(a==b)=(bl a==bl b):=by simp[beq_toListBytes,ByteArray.toList_eq,bl]
theorem QIE {a b:ByteArray}(h:(a==b)=true):b=a:=by
 rw[QC5]at h;have h:bl a=bl b:=by simpa using h
 rw[<- Qvf a,<- Qvf b,h]
theorem Qy1 {q:TypeDesc}{k a:Value}(h:Instr.sameNow q k a=some true):a=k:=by
 cases q<;>cases k<;>cases a<;>simp_all [Instr.sameNow];exact QIE h
theorem QAK {t k e:TypeId}{m ae v aI aH ab:Value}{ρ:Ren}{w:World}{H':Qa}(ar:Sim P ρ H w)(aF:P.underlying t=some (.map k e))(ad:V ρ m aI)(aN:V ρ ae aH)(aG:V ρ v ab)(h:Qw5 P k m ae v H=some H'):
  ∃w',(Instr.mapUpdate t aI aH ab).run P w=.ok () w'∧St ρ H w ρ H' w'∧Sim P ρ H' w':=by
 unfold Qw5 at h;split at h
 ·rename_i aK id ah;split at h
  ·rename_i es an;cases ag:Qfj aK ae with
   | false=>rw[ag]at h;cases h
   | true=>
    rw[ag]at h;simp only[Lq]at h;have az:=aN.plain_eq (Qc1 ag);obtain⟨i,aq,ax⟩:=ad.map_inv;obtain⟨q,ac,ao,ai,aj,al,ak⟩:=ar.live id _ i an aq;have aB:i.at_.block<w.heap.size:=(Nj.1 ao).1;have ay:(getObj i.at_.block).run P w=.ok (.map q ac) w:=by simp[getObj,Sem.run,ao]
    have aE:∀o,(setObj i.at_.block o).run P w=.ok () {w with heap:=w.heap.setIfInBounds i.at_.block o}:=λo=>by simp[setObj,Sem.run,ao]
    have aD:∀o,Qcv w {w with heap:=w.heap.setIfInBounds i.at_.block o} i.at_.block:=λo=>⟨λk ah=>by simp[Bn (Ne.symm ah)],by simp,rfl,rfl,rfl⟩;split at h
    ·rename_i am;cases h;have:=QgA es q.toList 0 none ai aj am;obtain⟨av,aw⟩:=ar.setBlk (b':=.map (es++[(ae,v)])) aq an rfl (aD (.map (q.push {key:=ae,val:=ab,born:=ac}) (ac+1)))
      ⟨q.push {key:=ae,val:=ab,born:=ac},ac+1,by simp[aB],by simpa using ai.append (.cons (.same ae (Qc1 ag)) (.nil ρ)),by simpa using aj.append (.cons aG (.nil ρ)),by simp[al],λj e aa=>by
       rw[Array.getElem?_push]at aa;split at aa
       ·rename_i aA;cases aa;show ac=j;rw[al,aA]
       ·exact ak j e aa⟩
     refine⟨_,?_,av,aw⟩;simp only[Instr.mapUpdate,ax,az,LW,LZ aF,Lz,ay,Qgz ah ag _ 9999,Qc2 ah this,aE]
    ·rename_i j aS am;cases h;obtain⟨_,aV,aQ,aU,a,au,aR,aJ⟩:=QgA es q.toList 0 (some (j,aS)) ai aj am;have aL:=Qy1 aR;subst aL;have aA:j<es.length:=(Lk.1 au).1;obtain⟨aT,r1,r2⟩:=ai.get (j:=j) (x:=a) (by rw[LD];simp only[Nat.sub_zero]at au;rw[au];rfl);have r3:=r2.plain_eq aJ;rw[LD]at r1;have aO:((q[j]?).map (·.key)).getD a=a:=by
      rw[<- Bl];rw[r1,r3];rfl
     have aP:(Instr.keyThatStays a a).run P w=.ok a w:=by
      have:Instr.sameBits 10000 a a=true:=by
       cases aK<;>cases a<;>simp_all [Qfj,Instr.sameBits];rw[QC5];simp
      simp only[Instr.keyThatStays,this,N3,Nc]
     have aC:(q.modify j λe=>{e with key:=a,val:=ab}).toList=q.toList.modify j (λe=>{e with key:=a,val:=ab}):=by simp
     obtain⟨av,aw⟩:=ar.setBlk (b':=.map (es.set j (a,v))) aq an rfl (aD (.map (q.modify j λe=>{e with key:=a,val:=ab}) ac))
      ⟨q.modify j λe=>{e with key:=a,val:=ab},ac,by simp[aB],by
       have:=ai.set (k:=j) (x:=a) (x':=a) (.same a aJ);rw[List.map_set,aC];have e1:List.map (·.key) (q.toList.modify j (λe=>{e with key:=a,val:=ab}))=(List.map (·.key) q.toList).set j a:=by
        apply BA;intro m;rw[LD,List.getElem?_modify,List.getElem?_set,LD]
        by_cases ad:j=m
        ·subst ad;cases aa:q.toList[j]? with
         | none=>rw[aa]at r1;simp at r1
         | some e=>have:=(Lk.1 aa).1;simp at this;simp[this]
        ·simp[ad]
       rw[e1];exact this,by
       have:=aj.set (k:=j) (x:=v) (x':=ab) aG;rw[List.map_set,aC];have e1:List.map (·.val) (q.toList.modify j (λe=>{e with key:=a,val:=ab}))=(List.map (·.val) q.toList).set j ab:=by
        apply BA;intro m;rw[LD,List.getElem?_modify,List.getElem?_set,LD]
        by_cases ad:j=m
        ·subst ad;cases aa:q.toList[j]? with
         | none=>rw[aa]at r1;simp at r1
         | some e=>have:=(Lk.1 aa).1;simp at this;simp[this]
        ·simp[ad]
       rw[e1];exact this,by simp[al],λm e aa=>by
       rw[RY]at aa;split at aa
       ·simp only[Lx]at aa;obtain⟨e0,aM,rfl⟩:=aa;exact ak m e0 aM
       ·exact ak m e aa⟩
     refine⟨_,?_,av,aw⟩;simp only[Instr.mapUpdate,ax,az,LW,LZ aF,Lz,ay,Qgz ah ag _ 9999,Qc2 ah aQ,aO,aP,aE]
    ·cases h
  ·cases h
 ·cases h
theorem Qvl {t k e:TypeId}{m aa x:Operand}{H':Qa}(ag:P.underlying t=some (.map k e))(h:Qw5 P k (ev A m) (ev A aa) (ev A x) H=some H'):QD P ⟨d,.mapUpdate t m aa x,ty,pos,af,g⟩ A H undef H':=
 .of_skip λρ w s ae q=>by
  obtain⟨w',ab,ac,ad⟩:=QAK ae ag (q m (by simp[Op.operands])) (q aa (by simp[Op.operands])) (q x (by simp[Op.operands])) h;exact⟨ρ,w',by simp only[execOp,LW,ab,Lz,Nc],ac,ad⟩
theorem QBK {t k e:TypeId}{m aa x:Operand}{H':Qa}(ag:P.underlying t=some (.map k e))(h:Qw5 P k (ev A m) (ev A aa) (ev A x) H=some H'):QD P ⟨d,.insert t m aa x,ty,pos,af,g⟩ A H undef H':=
 .of_skip λρ w s ae q=>by
  obtain⟨w',ab,ac,ad⟩:=QAK ae ag (q m (by simp[Op.operands])) (q aa (by simp[Op.operands])) (q x (by simp[Op.operands])) h;exact⟨ρ,w',by simp only[execOp,LW,ab,Lz,Nc],ac,ad⟩
/-! ### Strings, gone through -/
theorem QC6 {t:TypeId}{x:Operand}{s:ByteArray}(ae:P.underlying t=some .string)(q:ev A x=.string s):QD P ⟨d,.range t x,ty,pos,af,g⟩ A H (.pointer (some ⟨H.next,0,none⟩)) (H.push (.iter s 0)):=
 .of_run λρ w a ad ac=>by
  have e1:=Gy (ac x (by simp[Op.operands])) q rfl;obtain⟨aa,ab⟩:=ad.push (.stringIter s 0) (.iter s 0) ⟨⟨w.heap.size,0,none⟩,0,0⟩ rfl ⟨by
   show(w.heap.push (Obj.stringIter s 0))[w.heap.size]? = _;simp,rfl⟩
  refine⟨.pointer (some ⟨w.heap.size,0,none⟩),_,_,?_,.ptr H.next 0 _ (Xa _ _ _),aa,ab⟩;simp only[execOp,Instr.range,e1,LW,LZ ae,Lz,FT,Nc,World.alloc]
def QAL (H:Qa)(v:Value):Option (Value×Qa):=
 match v with
 | .pointer (some a)=>bif Nat.beq a.off 0 then(match H.get a.block with
  | some (.iter s p)=>if p<s.size then some (.tuple #[.bool true,.int .i64 p,.int .i32 (Utf8.decode s p).1],H.set a.block (.iter s (p+(Utf8.decode s p).2))) else some (.tuple #[.bool false],H)
  | _=>none) else none
 | _=>none
theorem V.closedT {ρ:Ren}{xs:Array Value}(h:xs.all plain=true):V ρ (.tuple xs) (.tuple xs):=.closed h
theorem QEN {it:Operand}{v:Value}{H':Qa}(h:QAL H (ev A it)=some (v,H')):QD P ⟨d,.next it true,ty,pos,af,g⟩ A H v H':=
 .of_run λρ w s ae al=>by
  have ai:=al it (by simp[Op.operands]);unfold QAL at h;split at h
  ·rename_i a aj;rw[aj]at ai;cases q:Nat.beq a.off 0 with
   | false=>rw[q]at h;cases h
   | true=>
    rw[q]at h;simp only[Lq]at h;have q:a.off=0:=by simpa[Kk] using q
    obtain⟨i,hi,_,aa⟩:=ai.ptr_inv;rw[q]at aa;split at h
    ·rename_i st p ag;obtain⟨ab,ac⟩:=ae.live _ _ i ag hi;have ak:i.at_.add 0=⟨i.at_.block,0,i.at_.spot⟩:=by
      unfold Addr.add;simp;obtain⟨⟨b,o,sp⟩,_,_⟩:=i;simp at ac ⊢;exact ac
     rw[ak]at aa;have ah:(getObj i.at_.block).run P w=.ok (.stringIter st p) w:=by simp[getObj,Sem.run,ab]
     split at h
     ·rename_i ad;cases h;have ao:∀o,(setObj i.at_.block o).run P w=.ok () {w with heap:=w.heap.setIfInBounds i.at_.block o}:=λo=>by simp[setObj,Sem.run,ab]
      have an:i.at_.block<w.heap.size:=(Nj.1 ab).1;obtain⟨aq,ar⟩:=ae.setBlk (b':=.iter st (p+(Utf8.decode st p).2)) hi ag rfl (w':={w with heap:=w.heap.setIfInBounds i.at_.block (.stringIter st (p+(Utf8.decode st p).2))})
       ⟨λk am=>by simp[Bn (Ne.symm am)],by simp,rfl,rfl,rfl⟩ ⟨by simp[an],ac⟩
      refine⟨.tuple #[.bool true,.int .i64 p,.int .i32 (Utf8.decode st p).1],ρ,_,?_,.closedT (by simp[plain]),aq,ar⟩;simp only[execOp,Instr.next,aa,LW,ah,Lz,ad,N3,ao,Nc,goInt]
     ·rename_i ad;cases h;refine⟨.tuple #[.bool false],ρ,w,?_,.closedT (by simp[plain]),.refl _ _ _,ae⟩;simp only[execOp,Instr.next,aa,LW,ah,Lz,ad,LN,Nc]
    ·cases h
  ·cases h
/-! ### Maps gone through, where the next entry is the only one -/
/-! ### Copies -/
def Qqt (size:Nat)(x y:Value)(H:Qa):Option (Value×Qa):=
 match Zt size y H with
 | none=>none
 | some (m,news)=>
  match x with
  | .slice none 0 _=>some (.int .i64 0,H)
  | .slice (some a) len _=>
   if Nat.min m len=0 then some (.int .i64 0,H) else
   match H.get a.block with
   | some (.cells c e false)=>
    if a.off+Nat.min m len * size<=c.length∧(news.take (Nat.min m len * size)).all (·.oneCell')=true then some (.int .i64 (Nat.min m len:Nat),H.set a.block (.cells (splice c a.off (news.take (Nat.min m len * size))) e false)) else none
   | _=>none
  | _=>none
theorem QEO {t t2 e:TypeId}{x y:Operand}{ae:TypeInfo}{v:Value}{H':Qa}(al:P.underlying t=some (.slice e))(hi:P.info? e=some ae)(h:Qqt ae.size (ev A x) (ev A y) H=some (v,H')):
  QD P ⟨d,.call ⟨.builtin .copy,#[x,y],#[t,t2]⟩,ty,pos,af,g⟩ A H v H':=
 .of_run λρ w s ab aq=>by
  have ad:=aq x (by simp[Op.operands,Call.operands]);have am:=aq y (by simp[Op.operands,Call.operands])
  suffices aE:∃ag ρ' w',(Builtin.copy_ #[t,t2] ty #[s.eval x,s.eval y]).run P w=.ok ag w'∧V ρ' v ag∧St ρ H w ρ' H' w'∧Sim P ρ' H' w' by
   obtain⟨ag,ρ',w',aw,ax,ay,az⟩:=aE;refine⟨ag,ρ',w',?_,ax,ay,az⟩;rw[Gk];simp only[builtin,R9,NZ,Bq,LW,aw,Lz,Nc]
  generalize ev A x=u at ad h;generalize ev A y=u2 at am h;generalize s.eval x=x' at ad;generalize s.eval y=y' at am;unfold Qqt at h;split at h
  ·cases h
  ·rename_i m aJ aG;obtain⟨ak,aC,ai⟩:=QAH ab am aG;have aj:∀ (b:Option Addr) (ah an:Nat),Builtin.copy_ #[t,t2] ty #[.slice b ah an,y']=(do
     let .slice elem <- underlying t | stuck "copy: slice type expected"
     let n:=Nat.min (<- Builtin.lenOf y') ah
     let cells <- Builtin.firstCells (<- sizeOf elem) n y'
     if let some a:=b then storeCells a cells.toList
     pure (goInt n)):=λb ah an=>rfl
   split at h
   ·rename_i cap;cases h;rw[ad.plain_eq rfl];obtain⟨c',_,aa⟩:=ai 0 (by omega);refine⟨.int .i64 0,ρ,w,?_,.same _ rfl,.refl _ _ _,ab⟩;rw[aj];have q:Nat.min m 0=0:=Nat.min_zero m;simp only[LW,LZ al,Lz,ak,WQ hi,q,aa w (λ_=>rfl),Nc,goInt];rfl
   ·rename_i a len cap;obtain⟨i,av,aM,g1,g2,g3,g4,aN,g0,aO,aP⟩:=ad.slice_inv;rw[g3];split at h
    ·rename_i q;cases h;obtain⟨c',ac,aa⟩:=ai 0 (by omega);have aB:c'=[]:=by simp at ac;exact ac.unnil
     subst aB;refine⟨.int .i64 0,ρ,w,?_,.same _ rfl,.refl _ _ _,ab⟩;rw[aj];simp only[LW,LZ al,Lz,ak,WQ hi,q,aa w (λ_=>rfl),Nc,goInt];rfl
    ·rename_i q;split at h
     ·rename_i c e' ar;split at h
      ·rename_i ao;cases h;obtain⟨c',ac,aa⟩:=ai (Nat.min m len) (Nat.min_le_left _ _);have aD:len≠0:=λe=>q (by rw[e];exact Nat.min_zero m);have aA:av=i.at_.add a.off:=by rcases g4 with h | ⟨h,_⟩;exact h;exact absurd h aD
       have aH:(aJ.take (Nat.min m len * ae.size)).length=Nat.min m len * ae.size:=by
        rw[Sb,aC];exact BC (Bs _ (Nat.min_le_left _ _))
       obtain⟨w',au,aF,hb⟩:=(ab.live _ _ i ar g1).storeList (off:=a.off) ac (by rw[aH];exact ao.1) (λu aI=>Li.1 ao.2 u aI);obtain⟨aK,aL⟩:=ab.setBlk g1 ar rfl aF hb;refine⟨.int .i64 (Nat.min m len:Nat),ρ,w',?_,.same _ rfl,aK,aL⟩;rw[aj];rw[<- aA]at au;simp only[LW,LZ al,Lz,ak,WQ hi,aa w (λ_=>rfl),au,Nc,goInt]
      ·cases h
     ·cases h
   ·cases h
end
end Go.Ab
