/- Equality, assertions of types. -/
import Derived.Test.YtgepgbbjfhggfaaGreatDoorAbA
import Derived.Lib.Builder
import Derived.Scope
import Derived.Lib.UnsafeStr
import Derived.Laws.BytesString
set_option linter.unusedVariables false
set_option linter.unusedSimpArgs false
noncomputable section
namespace Go.Ab
def XY (P:Program)(eq:TypeId->Value->Value->Option Bool):List Field->Array Value->Array Value->Option Bool
 | [],_,_=>some true
 | fd::fs,xs,ys=>
  if fd.name = "_" then XY P eq fs xs ys else
  match QcS P fd.type xs fd.offset,QcS P fd.type ys fd.offset with
  | some a,some b=>match eq fd.type a b with
   | some true=>XY P eq fs xs ys
   | r=>r
  | _,_=>none
def aeq (P:Program):Nat->TypeId->Value->Value->Option Bool
 | 0,_,_,_=>none
 | f+1,t,x,y=>
  match P.underlying t with
  | some .bool=>match x,y with | .bool a,.bool b=>some (a==b) | _,_=>none
  | some (.int _)=>match x,y with | .int k a,.int k' b=>if k=k' then some (a==b) else none | _,_=>none
  | some .string=>match x,y with | .string a,.string b=>some (bl a==bl b) | _,_=>none
  | some (.pointer q)=>match x,y with
   | .pointer none,.pointer b=>some b.isNone
   | .pointer (some _),.pointer none=>some false
   | .pointer (some a),.pointer (some b)=>(match P.info? q with | some j=>if j.size≠0∧a.block=b.block∧a.off=b.off then some true else none | none=>none)
   | _,_=>none
  | some (.slice _)=>match x,y with | .slice none _ _,.slice b _ _=>some b.isNone | .slice (some _) _ _,.slice none _ _=>some false | _,_=>none
  | some (.map _ _)=>match x,y with | .map none,.map b=>some b.isNone | .map (some _),.map none=>some false | _,_=>none
  | some (.func _ _ _)=>match x,y with | .nilFunc,.nilFunc=>some true | .nilFunc,.func _ _ _=>some false | .func _ _ _,.nilFunc=>some false | _,_=>none
  | some (.interface _)=>match x,y with
   | .nilIface,.nilIface=>some true
   | .nilIface,.iface _ _=>some false
   | .iface _ _,.nilIface=>some false
   | .iface tx vx,.iface ty vy=>if tx=ty then(match P.info? tx with | some inf=>if inf.comparable then aeq P f tx vx vy else none | none=>none) else some false
   | _,_=>none
  | some (.struct fs)=>match x,y with | .agg xs,.agg ys=>if P.stoodInHeld t then none else XY P (aeq P f) fs.toList xs ys | _,_=>none
  | _=>none
section
variable {P:Program} {n:Nat} {A:Env} {H:Qa} {d:Option Nat} {ty:TypeId} {pos:String} {af:Array Edge} {g:Option (Nat×Bool)}
theorem V.nilness {ρ:Ren}{x x':Value}(h:V ρ x x'):(∀a l c,x=.slice a l c->∃a' l' c',x'=.slice a' l' c'∧a'.isNone=a.isNone)∧(∀a,x=.pointer a->∃a',x'=.pointer a'∧a'.isNone=a.isNone)∧(∀a,x=.map a->∃a',x'=.map a'∧a'.isNone=a.isNone)∧
  (∀f a b,x=.func f a b->∃f' a' b',x'=.func f' a' b'):=by
 cases h with
 | same v hp=>exact⟨λa l c e=>⟨a,l,c,e,rfl⟩,λa e=>⟨a,e,rfl⟩,λa e=>⟨a,e,rfl⟩,λf a b e=>⟨f,a,b,e⟩⟩
 | _=>simp
theorem Qdn (w:World){eq:TypeId->Value->Value->Option Bool}{dd:Nat}{ρ:Ren}(heq:∀t x y x' y' b,V ρ x x'->V ρ y y'->eq t x y=some b->(Op.equalIn dd t x' y').run P w=.ok b w):
  ∀ (fs:List Field) (xs ys xs' ys':Array Value) (b:Bool),VL ρ xs.toList xs'.toList->VL ρ ys.toList ys'.toList->XY P eq fs xs ys=some b->(Op.eqFields dd xs' ys' fs).run P w=.ok b w
 | [],xs,ys,xs',ys',b,hx,hy,h=>by simp[XY]at h;subst h;rfl
 | fd::fs,xs,ys,xs',ys',b,hx,hy,h=>by
  unfold XY at h;unfold Op.eqFields;split at h
  ·rename_i hn;rw[Le (by simpa using hn)];exact Qdn w heq fs xs ys xs' ys' b hx hy h
  ·rename_i hn;rw[Lc (by simpa using hn)];split at h
   ·rename_i a b' ha hb;obtain⟨a1,p1,p2⟩:=Qnx hx ha w;obtain⟨b1,q1,q2⟩:=Qnx hy hb w;simp only[LW,p1,Lz,q1];split at h
    ·rename_i hr;rw[heq fd.type a b' a1 b1 true p2 q2 hr];simp only[Lz,L8,LV,LN];exact Qdn w heq fs xs ys xs' ys' b hx hy h
    ·rename_i r hr;have hb':b=false:=by
      cases b with
      | false=>rfl
      | true=>exact absurd h hr
     subst hb';rw[heq fd.type a b' a1 b1 false p2 q2 h];simp
   ·cases h
set_option maxHeartbeats 1000000 in
theorem Qpd (w:World):∀ (f:Nat) (t:TypeId) (ρ:Ren) (x y x' y':Value) (b:Bool),V ρ x x'->V ρ y y'->aeq P f t x y=some b->∀dd,f<=dd->(Op.equalIn dd t x' y').run P w=.ok b w
 | 0,t,ρ,x,y,x',y',b,hx,hy,h,dd,hd=>by simp[aeq]at h
 | f+1,t,ρ,x,y,x',y',b,hx,hy,h,dd,hd=>by
  obtain⟨dd,rfl⟩:∃k,dd=k+1:=⟨dd - 1,by omega⟩;unfold aeq at h;split at h
  ·rename_i ht;split at h
   ·cases h;rw[hx.plain_eq rfl,hy.plain_eq rfl];simp[Op.equalIn,LZ ht]
   ·cases h
  ·rename_i k ht;split at h
   ·split at h
    ·rename_i e;subst e;cases h;rw[hx.plain_eq rfl,hy.plain_eq rfl];simp[Op.equalIn,LZ ht]
    ·cases h
   ·cases h
  ·rename_i ht;split at h
   ·cases h;rw[hx.plain_eq rfl,hy.plain_eq rfl];simp[Op.equalIn,LZ ht,beq_toListBytes,ByteArray.toList_eq,bl]
   ·cases h
  ·rename_i q ht;split at h
   ·cases h;rw[hx.plain_eq rfl];obtain⟨a',e,e'⟩:=hy.nilness.2.1 _ rfl;rw[e,<- e'];simp[Op.equalIn,LZ ht]
   ·cases h;rw[hy.plain_eq rfl];obtain⟨a',e,e'⟩:=hx.nilness.2.1 _ rfl;cases a' with
    | none=>simp at e'
    | some a'=>rw[e];simp[Op.equalIn,LZ ht]
   ·rename_i a1 b1;split at h
    ·rename_i j hj;split at h
     ·rename_i hc;obtain⟨c1,c2,c3⟩:=hc;cases h;obtain⟨i1,p1,p2,p3⟩:=hx.ptr_inv;obtain⟨i2,q1,q2,q3⟩:=hy.ptr_inv;rw[c2,q1]at p1;cases p1;rw[p3,q3,c3];simp[Op.equalIn,LZ ht,sizeOf,typeInfo,hj,run_sameAddr_same]
     ·cases h
    ·cases h
   ·cases h
  ·rename_i q ht;split at h
   ·cases h;rw[hx.plain_eq rfl];obtain⟨a',l',c',e,e'⟩:=hy.nilness.1 _ _ _ rfl;rw[e,<- e'];simp[Op.equalIn,LZ ht]
   ·cases h;rw[hy.plain_eq rfl];obtain⟨a',l',c',e,e'⟩:=hx.nilness.1 _ _ _ rfl;cases a' with
    | none=>simp at e'
    | some a'=>rw[e];simp[Op.equalIn,LZ ht]
   ·cases h
  ·rename_i q q' ht;split at h
   ·cases h;rw[hx.plain_eq rfl];obtain⟨a',e,e'⟩:=hy.nilness.2.2.1 _ rfl;rw[e,<- e'];simp[Op.equalIn,LZ ht]
   ·cases h;rw[hy.plain_eq rfl];obtain⟨a',e,e'⟩:=hx.nilness.2.2.1 _ rfl;cases a' with
    | none=>simp at e'
    | some a'=>rw[e];simp[Op.equalIn,LZ ht]
   ·cases h
  ·rename_i q1 q2 q3 ht;split at h
   ·cases h;rw[hx.plain_eq rfl,hy.plain_eq rfl];simp[Op.equalIn,LZ ht]
   ·cases h;obtain⟨f',a',b',e⟩:=hy.nilness.2.2.2 _ _ _ rfl;rw[hx.plain_eq rfl,e];simp[Op.equalIn,LZ ht]
   ·cases h;obtain⟨f',a',b',e⟩:=hx.nilness.2.2.2 _ _ _ rfl;rw[hy.plain_eq rfl,e];simp[Op.equalIn,LZ ht]
   ·cases h
  ·rename_i ms ht;split at h
   ·cases h;rw[hx.plain_eq rfl,hy.plain_eq rfl];simp[Op.equalIn,LZ ht]
   ·cases h;obtain⟨v',e,_⟩:=hy.iface_inv;rw[hx.plain_eq rfl,e];simp[Op.equalIn,LZ ht]
   ·cases h;obtain⟨v',e,_⟩:=hx.iface_inv;rw[hy.plain_eq rfl,e];simp[Op.equalIn,LZ ht]
   ·rename_i tx vx ty' vy;obtain⟨v1,e1,h1⟩:=hx.iface_inv;obtain⟨v2,e2,h2⟩:=hy.iface_inv;rw[e1,e2];split at h
    ·rename_i et;subst et;split at h
     ·rename_i inf hinf;split at h
      ·rename_i hcomp;have ih:=Qpd w f tx ρ vx vy v1 v2 b h1 h2 h dd (by omega);simp only[Op.equalIn,LW,LZ ht,Lz,Da,BE,LN,typeInfo,DJ,hinf,Nc,hcomp,L8,LV,ih]
      ·cases h
     ·cases h
    ·rename_i et;cases h;simp[Op.equalIn,LZ ht,et]
   ·cases h
  ·rename_i fs ht;split at h
   ·rename_i xs ys;split at h
    ·cases h
    ·rename_i hst;obtain⟨xs',e1,h1⟩:=hx.agg_inv;obtain⟨ys',e2,h2⟩:=hy.agg_inv;rw[e1,e2];have hfs:P.fieldsOf t=fs:=by simp[Program.fieldsOf,ht]
     rw[run_equalIn_struct w dd t xs' ys' (by rw[hfs];exact ht) (by simpa using hst),hfs];exact Qdn w (λt x y x' y' b a1 a2 a3=>Qpd w f t ρ x y x' y' b a1 a2 a3 dd (by omega)) fs.toList xs ys xs' ys' b h1 h2 h
   ·cases h
  ·cases h
def Qcs:Value->Bool
 | .int _ _ | .string _ | .float _ _ | .complex _ _ _=>false
 | _=>true
def Qmw:Value->Bool
 | .nilIface=>true
 | _=>false
def Qu0:Value->Bool
 | .agg _=>true
 | _=>false
def QjW:Operand->Bool
 | .const _=>true
 | _=>false
def JF (P:Program)(k:Bool)(t:TypeId)(x y:Value):Bool:=(k||!(Qmw x&&Qmw y))&&!(Qu0 x&&Qu0 y&&P.eqGuardType P.depth t)
def Qqc (P:Program)(k:Bool)(op:BinOp)(t:TypeId)(x y:Value):Option Value:=
 if Qcs x&&Qcs y&&JF P k t x y then
  match op with
  | .eql=>(aeq P 20 t x y).map .bool
  | .neq=>(aeq P 20 t x y).map λb=>.bool !b
  | _=>none
 else none
theorem V.notNum_eq {ρ:Ren}{x x':Value}(h:V ρ x x'):Qcs x'=Qcs x:=by cases h<;>rfl
theorem V.isNI_eq {ρ:Ren}{x x':Value}(h:V ρ x x'):Qmw x'=Qmw x:=by cases h<;>rfl
theorem V.isAg_eq {ρ:Ren}{x x':Value}(h:V ρ x x'):Qu0 x'=Qu0 x:=by cases h<;>rfl
theorem V.guard_eq {ρ:Ren}{x x' y y':Value}(k:Bool)(t:TypeId)(h:V ρ x x')(h':V ρ y y'):JF P k t x' y'=JF P k t x y:=by
 simp only[JF,h.isNI_eq,h'.isNI_eq,h.isAg_eq,h'.isAg_eq]
theorem QBj (t:TypeId)(x y:Value)(h:Qcs x=true):binOp .eql t x y=(do pure (.bool (<- Op.equal t x y))):=by
 cases x<;>simp[Qcs]at h<;>(cases y<;>rfl)
theorem QBk (t:TypeId)(x y:Value)(h:Qcs x=true):binOp .neq t x y=(do pure (.bool (!(<- Op.equal t x y)))):=by
 cases x<;>simp[Qcs]at h<;>(cases y<;>rfl)
theorem QBl (op:BinOp)(t:TypeId)(x y:Operand)(a b:Value)(w:World)(h:JF P (QjW x||QjW y) t a b=true):(eqGuard op t x y a b).run P w=.ok () w:=by
 by_cases hni:Qmw a=true∧Qmw b=true
 ·obtain⟨h1,h2⟩:=hni;cases a<;>simp[Qmw]at h1;cases b<;>simp[Qmw]at h2;have hc:(QjW x||QjW y)=true:=by
   cases hk:(QjW x||QjW y) with
   | true=>rfl
   | false=>rw[hk]at h;simp[JF,Qmw]at h
  cases op<;>first
   | rfl
   | (cases x<;>cases y<;>first | rfl | (simp[QjW]at hc))
 ·cases a<;>cases b<;>simp[JF,Qmw,Qu0]at h hni<;>first
   | (cases op<;>rfl)
   | (cases op<;>simp[eqGuard,DJ,h])
theorem QIe {op:BinOp}{t t':TypeId}{x y:Operand}{v:Value}(h:Qqc P (QjW x||QjW y) op t (ev A x) (ev A y)=some v):QC P ⟨d,.binOp op t x y t',ty,pos,af,g⟩ A H v H:=
 .pure_ λρ w s hs he=>by
  have h1:=he x (by simp[Op.operands]);have h2:=he y (by simp[Op.operands]);generalize ev A x=u at h1 h;generalize ev A y=u2 at h2 h;have hkey:∀b,aeq P 20 t u u2=some b->(Op.equal t (s.eval x) (s.eval y)).run P w=.ok b w:=λb hb=>Qpd w 20 t ρ u u2 _ _ b h1 h2 hb 10000 (by omega);unfold Qqc at h;split at h
  ·rename_i hc;simp only[Lm]at hc;obtain⟨⟨c1,c2⟩,c3⟩:=hc;rw[<- h1.notNum_eq]at c1;rw[<- V.guard_eq _ t h1 h2]at c3;have hgd:=QBl (P:=P) op t x y _ _ w c3;split at h
   ·simp only[Lx]at h;obtain⟨b,hb,rfl⟩:=h;refine⟨.bool b,?_,.same _ rfl⟩;simp only[execOp,LW,hgd,Lz,QBj _ _ _ c1,hkey b hb,Nc]
   ·simp only[Lx]at h;obtain⟨b,hb,rfl⟩:=h;refine⟨.bool !b,?_,.same _ rfl⟩;simp only[execOp,LW,hgd,Lz,QBk _ _ _ c1,hkey b hb,Nc]
   ·cases h
  ·cases h
/-! ### Assertions of types -/
end
section
variable {P:Program}
def Qa.ofFn (next:Nat)(f:Nat->Option Blk):Qa:=⟨next,(List.range next).foldl (λt id=>t.set id (f id)) .nil⟩
theorem Quc (f:Nat->Option Blk):∀ (l:List Nat) (t:Tr Blk) (id:Nat),(l.foldl (λt id=>t.set id (f id)) t).get id=if id∈l then f id else t.get id
 | [],t,id=>by simp
 | x::l,t,id=>by
  simp only[FQ];rw[Quc f l,Tr.get_set]
  by_cases h1:id∈l
  ·simp[h1]
  ·by_cases h2:id=x
   ·subst h2;simp
   ·simp[h1,h2]
theorem Qa.get_ofFn (next:Nat)(f:Nat->Option Blk)(id:Nat):(Qa.ofFn next f).get id=if id<next then f id else none:=by
 unfold Qa.ofFn Qa.get;rw[Quc];simp[Tr.get_nil]
def QrK (ρ ρ':Ren):Ren:=λid=>match ρ' id with | some i=>some i | none=>ρ id
theorem Gj {ρ ρ':Ren}{id:Nat}(h:ρ' id=none):QrK ρ ρ' id=ρ id:=by simp[QrK,h]
theorem JG {ρ ρ':Ren}{id:Nat}{i:Kg}(h:ρ' id=some i):QrK ρ ρ' id=some i:=by simp[QrK,h]
structure St0 (ρ:Ren) (H:Qa) (w:World) (ρ':Ren) (H':Qa) (w':World):Prop where
 mono:Sub ρ ρ'
 next:H.next<=H'.next
 dead:∀id i,ρ id=some i->H.get id=none->H'.get id=none
 ro:∀id i b b',ρ id=some i->H.get id=some b->b.ro=true->H'.get id=some b'->b'.ro=true
 fresh:∀id i,ρ' id=some i->ρ id=none->w.heap.size<=i.at_.block∨∃id0 i0 b0,ρ id0=some i0∧i0.at_.block=i.at_.block∧H.get id0=some b0∧b0.ro=false
 os:w'.os=w.os
 tape:w'.tape=w.tape
 output:w'.output=w.output
 size:w.heap.size<=w'.heap.size
 frame:∀b,b<w.heap.size->(∀id i bl,ρ id=some i->H.get id=some bl->bl.ro=false->i.at_.block≠b)->w'.heap[b]? = w.heap[b]?
theorem St.to0 {ρ ρ':Ren}{H H':Qa}{w w':World}(h:St ρ H w ρ' H' w'):St0 ρ H w ρ' H' w':=
 ⟨h.mono,h.next,h.dead,h.ro,λid i a b=>(h.fresh id i a b).2,h.os,h.tape,h.output,h.size,h.frame⟩
theorem St0.full {ρ ρ':Ren}{H H':Qa}{w w':World}(h:St0 ρ H w ρ' H' w')(hn:∀id i,ρ' id=some i->ρ id=none->H.next<=id):St ρ H w ρ' H' w':=
 ⟨h.mono,h.next,h.dead,h.ro,λid i a b=>⟨hn id i a b,h.fresh id i a b⟩,h.os,h.tape,h.output,h.size,h.frame⟩
theorem St0.owned {ρ:Ren}{H:Qa}{w:World}{ρ':Ren}{H':Qa}{w':World}(h:St0 ρ H w ρ' H' w'){id:Nat}{i:Kg}{bl:Blk}
  (h1:ρ' id=some i) (h2:H'.get id=some bl) (h3:bl.ro=false):
  w.heap.size<=i.at_.block∨∃id0 i0 b0,ρ id0=some i0∧i0.at_.block=i.at_.block∧H.get id0=some b0∧b0.ro=false:=by
 cases hr:ρ id with
 | none=>exact h.fresh id i h1 hr
 | some i0=>
  have:i0=i:=by have:=h.mono id i0 hr;rw[h1]at this;cases this;rfl
  subst this;cases hg:H.get id with
  | none=>rw[h.dead id i0 hr hg]at h2;cases h2
  | some b0=>
   refine .inr ⟨id,i0,b0,hr,rfl,hg,?_⟩;cases hro:b0.ro with
   | false=>rfl
   | true=>rw[h.ro id i0 b0 bl hr hg hro h2]at h3;cases h3
theorem St0.trans {ρ ρ1 ρ2:Ren}{H H1 H2:Qa}{w w1 w2:World}(a:St0 ρ H w ρ1 H1 w1)(b:St0 ρ1 H1 w1 ρ2 H2 w2):St0 ρ H w ρ2 H2 w2 where
 mono:=a.mono.trans b.mono
 next:=N8 a.next b.next
 dead:=λid i h h'=>b.dead id i (a.mono _ _ h) (a.dead id i h h')
 ro:=λid i bl bl' h h1 h2 h3=>by
  cases hg:H1.get id with
  | none=>rw[b.dead id i (a.mono _ _ h) hg]at h3;cases h3
  | some b1=>exact b.ro id i b1 bl' (a.mono _ _ h) hg (a.ro id i bl b1 h h1 h2 hg) h3
 fresh:=λid i h h'=>by
  cases hr:ρ1 id with
  | some i1=>
   have:i1=i:=by have:=b.mono id i1 hr;rw[h]at this;cases this;rfl
   subst this;exact a.fresh id i1 hr h'
  | none=>
   rcases b.fresh id i h hr with h2 | ⟨id0,i0,b0,e1,e2,e3,e4⟩
   ·exact .inl (N8 a.size h2)
   ·rw[<- e2];exact a.owned e1 e3 e4
 os:=b.os.trans a.os
 tape:=b.tape.trans a.tape
 output:=b.output.trans a.output
 size:=N8 a.size b.size
 frame:=λbk hb hn=>by
  rw[b.frame bk (N5 hb a.size) ?_,a.frame bk hb hn];intro id i bl h1 h2 h3 e;rcases a.owned h1 h2 h3 with h | ⟨id0,i0,b0,e1,e2,e3,e4⟩
  ·omega
  ·exact hn id0 i0 b0 e1 e3 e4 (e2.trans e)
def Qz (ρ1:Ren)(G h h':Qa)(id:Nat):Option Blk:=
 if id<h.next then(match ρ1 id,h.get id with | some _,some _=>h'.get id | _,_=>G.get id) else if id<h'.next then h'.get id else G.get id
def QrL (ρ1:Ren)(G h h':Qa):Qa:=Qa.ofFn (max G.next h'.next) (Qz ρ1 G h h')
theorem VX {ρ1:Ren}{G h h':Qa}{id:Nat}(hlt:id<max G.next h'.next):(QrL ρ1 G h h').get id=Qz ρ1 G h h' id:=by
 unfold QrL;rw[Qa.get_ofFn,Lc hlt]
theorem QrM {ρ1:Ren}{G h h':Qa}{id:Nat}{i:Kg}{b:Blk}(h1:id<h.next)(h2:ρ1 id=some i)(h3:h.get id=some b):Qz ρ1 G h h' id=h'.get id:=by
 simp[Qz,h1,h2,h3]
theorem Qud {ρ1:Ren}{G h h':Qa}{id:Nat}(h1:h.next<=id)(h2:id<h'.next):Qz ρ1 G h h' id=h'.get id:=by
 simp[Qz,Nat.not_lt.2 h1,h2]
theorem Que {ρ1:Ren}{G h h':Qa}{id:Nat}(h1:h.next<=id)(h2:h'.next<=id):Qz ρ1 G h h' id=G.get id:=by
 simp[Qz,Nat.not_lt.2 h1,Nat.not_lt.2 h2]
theorem Qmx {ρ1:Ren}{G h h':Qa}{id:Nat}(h1:id<h.next)(h2:ρ1 id=none∨h.get id=none):Qz ρ1 G h h' id=G.get id:=by
 unfold Qz;rw[Lc h1];rcases h2 with h2 | h2<;>rw[h2]<;>(try (cases ρ1 id))<;>rfl
theorem Qct {ρ ρ1 ρ':Ren}{G h h':Qa}{w w':World}(sub:Sub ρ1 ρ)(h1:Sim P ρ1 h w)
  (newer:∀id,h.next<=id->id<h'.next->ρ id=none) (step:St ρ1 h w ρ' h' w') (h2:Sim P ρ' h' w') {id:Nat} {i:Kg} {b:Blk} (hi:QrK ρ ρ' id=some i) (hb:Qz ρ1 G h h' id=some b):
  (ρ' id=some i∧h'.get id=some b∧((∃b0,ρ1 id=some i∧h.get id=some b0)∨(ρ1 id=none∧ρ id=none)))∨(ρ id=some i∧G.get id=some b∧(ρ1 id=none∨h.get id=none)):=by
 have hρ':∀j,ρ' id=some j->i=j:=λj hj=>by rw[JG hj]at hi;cases hi;rfl
 by_cases c1:id<h.next
 ·cases e1:ρ1 id with
  | none=>
   rw[Qmx c1 (.inl e1)]at hb;have:ρ' id=none:=by
    cases e:ρ' id with
    | none=>rfl
    | some j=>have:=(step.fresh id j e e1).1;omega
   rw[Gj this]at hi;exact .inr ⟨hi,hb,.inl rfl⟩
  | some i1=>
   have hm:=step.mono id i1 e1;obtain rfl:=hρ' i1 hm;cases e2:h.get id with
   | none=>
    rw[Qmx c1 (.inr e2)]at hb;exact .inr ⟨sub id i e1,hb,.inr rfl⟩
   | some b0=>
    rw[QrM c1 e1 e2]at hb;exact .inl ⟨hm,hb,.inl ⟨b0,rfl,rfl⟩⟩
 ·have e1:ρ1 id=none:=by
   cases e:ρ1 id with
   | none=>rfl
   | some j=>have:=h1.dom id j e;omega
  by_cases c2:id<h'.next
  ·rw[Qud (by omega) c2]at hb;have hn:=newer id (by omega) c2;cases e:ρ' id with
   | none=>rw[Gj e,hn]at hi;cases hi
   | some j=>obtain rfl:=hρ' j e;exact .inl ⟨rfl,hb,.inr ⟨e1,hn⟩⟩
  ·rw[Que (by omega) (by omega)]at hb;have:ρ' id=none:=by
    cases e:ρ' id with
    | none=>rfl
    | some j=>have:=h2.dom id j e;omega
   rw[Gj this]at hi;exact .inr ⟨hi,hb,.inl e1⟩
theorem QyD {ρ ρ1 ρ':Ren}{G h h':Qa}{w w':World}(hG:Sim P ρ G w)(sub:Sub ρ1 ρ)(h1:Sim P ρ1 h w)(agree:∀id i b,ρ1 id=some i->h.get id=some b->G.get id=some b)
  (newer:∀id,h.next<=id->id<h'.next->ρ id=none) (step:St ρ1 h w ρ' h' w') (h2:Sim P ρ' h' w'):
  St0 ρ G w (QrK ρ ρ') (QrL ρ1 G h h') w'∧Sim P (QrK ρ ρ') (QrL ρ1 G h h') w'∧
   (∀id i b,ρ id=some i->G.get id=some b->(ρ1 id=none∨h.get id=none)->w'.heap[i.at_.block]? = w.heap[i.at_.block]?):=by
 have hmono:Sub ρ (QrK ρ ρ'):=λid i hi=>by
  cases e:ρ' id with
  | none=>rw[Gj e];exact hi
  | some j=>
   rw[JG e];cases e1:ρ1 id with
   | some i1=>have:=step.mono id i1 e1;rw[e]at this;cases this;have:=sub id j e1;rw[hi]at this;exact this.symm
   | none=>
    have ha:=(step.fresh id j e e1).1;have hb:=h2.dom id j e;rw[newer id ha hb]at hi;cases hi
 have hmono':Sub ρ' (QrK ρ ρ'):=λid i hi=>JG hi;have hsame:∀id i b,ρ id=some i->G.get id=some b->(ρ1 id=none∨h.get id=none)->w'.heap[i.at_.block]? = w.heap[i.at_.block]? := λid i b hi hb hc=>
  step.frame _ (hG.live id b i hb hi).lt (λid1 i1 bl a1 a2 a3 a4=>by
   have hne:id1≠id:=λe=>by subst e;rcases hc with hc | hc;(rw[hc]at a1;cases a1);(rw[hc]at a2;cases a2)
   exact hG.sep id1 id bl b i1 i (agree id1 i1 bl a1 a2) hb (sub _ _ a1) hi a3 hne a4)
 have hdom:∀id i,QrK ρ ρ' id=some i->id<max G.next h'.next:=λid i hi=>by
  cases e:ρ' id with
  | none=>rw[Gj e]at hi;have:=hG.dom id i hi;omega
  | some j=>have:=h2.dom id j e;omega
 refine⟨⟨hmono,Nat.le_max_left _ _,λid i hi hg=>?_,λid i b b' hi hg hr hb=>?_,λid i hi hn=>?_,step.os,step.tape,step.output,step.size,λbk hbk hn=>?_⟩,⟨hdom,λid b i hb hi=>?_,λid1 id2 b1 b2 i1 i2 g1 g2 g3 g4 g5 g6=>?_,λg hg=>?_⟩,hsame⟩
 ·rw[VX (hdom id i (hmono id i hi))];cases hb:Qz ρ1 G h h' id with
  | none=>rfl
  | some b=>
   rcases Qct sub h1 newer step h2 (hmono id i hi) hb with⟨_,_,⟨b0,e1,e2⟩ | ⟨_,e2⟩⟩ | ⟨_,e2,_⟩
   ·rw[agree id i b0 e1 e2]at hg;cases hg
   ·rw[hi]at e2;cases e2
   ·rw[hg]at e2;cases e2
 ·rw[VX (hdom id i (hmono id i hi))]at hb;rcases Qct sub h1 newer step h2 (hmono id i hi) hb with⟨_,e0,⟨b0,e1,e2⟩ | ⟨_,e2⟩⟩ | ⟨_,e2,_⟩
  ·have:=agree id i b0 e1 e2;rw[hg]at this;cases this;exact step.ro id i b b' e1 e2 hr e0
  ·rw[hi]at e2;cases e2
  ·rw[hg]at e2;cases e2;exact hr
 ·cases e:ρ' id with
  | none=>rw[Gj e,hn]at hi;cases hi
  | some j=>
   rw[JG e]at hi;cases hi;have e1:ρ1 id=none:=by
    cases e1:ρ1 id with
    | none=>rfl
    | some i1=>rw[sub id i1 e1]at hn;cases hn
   rcases(step.fresh id i e e1).2 with hh | ⟨id0,i0,b0,a1,a2,a3,a4⟩
   ·exact .inl hh
   ·exact .inr ⟨id0,i0,b0,sub _ _ a1,a2,agree id0 i0 b0 a1 a3,a4⟩
 ·exact step.frame bk hbk (λid i bl a1 a2 a3=>hn id i bl (sub _ _ a1) (agree id i bl a1 a2) a3)
 ·rw[VX (hdom id i hi)]at hb;rcases Qct sub h1 newer step h2 hi hb with⟨e0,e1,_⟩ | ⟨e0,e1,e2⟩
  ·exact(h2.live id b i e1 e0).mono hmono' rfl
  ·exact(hG.live id b i e1 e0).mono hmono (hsame id i b e0 e1 e2)
 ·rw[VX (hdom id1 i1 g3)]at g1;rw[VX (hdom id2 i2 g4)]at g2;have far:∀ {ida idb:Nat} {ia ib:Kg} {ba bb:Blk},ρ' ida=some ia->h'.get ida=some ba->((∃b0,ρ1 ida=some ia∧h.get ida=some b0)∨(ρ1 ida=none∧ρ ida=none))->ρ idb=some ib->G.get idb=some bb->(ρ1 idb=none∨h.get idb=none)->(ba.ro=false∨bb.ro=false)->ia.at_.block≠ib.at_.block:=by
   intro ida idb ia ib ba bb p1 p2 p3 q1 q2 q3 hro;have hlt:=(hG.live idb bb ib q2 q1).lt;have hne:∀id0 i0 b0,ρ1 id0=some i0->h.get id0=some b0->id0≠idb:=λid0 i0 b0 r1 r2 e=>by subst e;rcases q3 with hc | hc;(rw[hc]at r1;cases r1);(rw[hc]at r2;cases r2)
   have own:(∃id0 i0 b0,ρ1 id0=some i0∧i0.at_.block=ia.at_.block∧h.get id0=some b0∧b0.ro=false)->ia.at_.block≠ib.at_.block:=fun⟨id0,i0,b0,r1,r2,r3,r4⟩=>by
    rw[<- r2];exact hG.sep id0 idb b0 bb i0 ib (agree id0 i0 b0 r1 r3) q2 (sub _ _ r1) q1 r4 (hne id0 i0 b0 r1 r3)
   rcases p3 with⟨b0,r1,r2⟩ | ⟨r1,r2⟩
   ·by_cases hb:bb.ro=false
    ·exact λe=>hG.sep idb ida bb b0 ib ia q2 (agree ida ia b0 r1 r2) q1 (sub _ _ r1) hb (λe=>hne ida ia b0 r1 r2 e.symm) e.symm
    ·have hba:ba.ro=false:=hro.resolve_right hb;rcases step.owned p1 p2 hba with hh | hh
     ·omega
     ·exact own hh
   ·rcases(step.fresh ida ia p1 r1).2 with hh | hh
    ·omega
    ·exact own hh
  rcases Qct sub h1 newer step h2 g3 g1 with⟨p1,p2,p3⟩ | ⟨p1,p2,p3⟩
  ·rcases Qct sub h1 newer step h2 g4 g2 with⟨q1,q2,q3⟩ | ⟨q1,q2,q3⟩
   ·exact h2.sep id1 id2 b1 b2 i1 i2 p2 q2 p1 q1 g5 g6
   ·exact far p1 p2 p3 q1 q2 q3 (.inl g5)
  ·rcases Qct sub h1 newer step h2 g4 g2 with⟨q1,q2,q3⟩ | ⟨q1,q2,q3⟩
   ·exact λe=>far q1 q2 q3 p1 p2 p3 (.inr g5) e.symm
   ·exact hG.sep id1 id2 b1 b2 i1 i2 p2 q2 p1 q1 g5 g6
 ·obtain⟨j,hj,e⟩:=hG.glob g hg;exact⟨j,hmono _ _ hj,e⟩
end
/-! ### What is QK: QV -/
def QCC (acc:List Nat)(es:List Edge):Nat:=es.foldl (λs e=>bif Region.binds .any e then s ||| (2 ^ e.on ||| acc.getD e.on 0) else s) 0
def QV:List Oper->List Nat->List Nat
 | [],acc=>acc
 | o::l,acc=>QV l (acc++[QCC acc o.after.toList])
def Qpe (ops:Array Oper)(L:Nat->Prop):Prop:=∀ (i:Nat),L i->∀o,ops[i]? = some o->∀e∈o.after,Region.binds .any e=true->L e.on
theorem Qqd {ops:Array Oper}{L:Nat->Prop}(hL:Qpe ops L)(acc:List Nat)(hacc:∀j m,acc[j]? = some m->L j->∀k,m.testBit k=true->L k):
  ∀ (es:List Edge),(∀e∈es,Region.binds .any e=true->L e.on)->∀k,(QCC acc es).testBit k=true->L k:=by
 intro es hes k hk;have key:∀ (es:List Edge) (s:Nat),(∀e∈es,Region.binds .any e=true->L e.on)->(∀k,s.testBit k=true->L k)->∀k,(es.foldl (λs e=>bif Region.binds .any e then s ||| (2 ^ e.on ||| acc.getD e.on 0) else s) s).testBit k=true->L k:=by
  intro es
  induction es with
  | nil=>intro s _ hs k hk;exact hs k hk
  | cons e es ih=>
   intro s he hs k hk;simp only[FQ]at hk;refine ih _ (λe' h'=>he e' (by simp[h'])) ?_ k hk;intro k' hk';cases hb:Region.binds .any e with
   | false=>rw[hb]at hk';exact hs k' hk'
   | true=>
    rw[hb]at hk';have hLe:=he e (by simp) hb;simp only[Lq,Nat.testBit_or,Nw]at hk';rcases hk' with h | h | h
    ·exact hs k' h
    ·rw[Nat.testBit_two_pow]at h;have:e.on=k':=by simpa using h
     rw[<- this];exact hLe
    ·cases hg:acc[e.on]? with
     | none=>simp[List.getD,hg]at h
     | some m=>simp only[List.getD,hg,NB]at h;exact hacc e.on m hg hLe k' h
 exact key es 0 hes (λk h=>by simp at h) k hk
theorem QrN {ops:Array Oper}{L:Nat->Prop}(hL:Qpe ops L):∀ (l:List Oper) (acc:List Nat),(∀j o,l[j]? = some o->ops[acc.length+j]? = some o)->(∀j m,acc[j]? = some m->L j->∀k,m.testBit k=true->L k)->
  ∀j m,(QV l acc)[j]? = some m->L j->∀k,m.testBit k=true->L k
 | [],acc,_,hacc=>hacc
 | o::l,acc,hops,hacc=>by
  simp only[QV];refine QrN hL l _ (λj o' h=>by have:=hops (j+1) o' (by simpa using h);simpa[Rh,Nat.add_comm 1 j] using this) ?_;intro j m hj hLj k hk
  by_cases hlt:j<acc.length
  ·rw[LY hlt]at hj;exact hacc j m hj hLj k hk
  ·rw[LR (by omega)]at hj;have hj0:j - acc.length=0:=by
    cases hd:j - acc.length with
    | zero=>rfl
    | succ d=>rw[hd]at hj;simp at hj
   rw[hj0]at hj;simp at hj;subst hj;have hje:j=acc.length:=by omega
   subst hje;exact Qqd hL acc hacc o.after.toList (λe he hb=>hL acc.length hLj o (by simpa using hops 0 o rfl) e (by simpa using he) hb) k hk
def QK (ms:List Nat)(i j:Nat):Bool:=Nat.testBit (ms.getD j 0) i
theorem QhJ {ops:Array Oper}{L:Nat->Prop}(hL:Qpe ops L){i j:Nat}(h:QK (QV ops.toList []) i j=true)(hj:L j):L i:=by
 unfold QK at h;cases hg:(QV ops.toList [])[j]? with
 | none=>simp[List.getD,hg]at h
 | some m=>
  simp only[List.getD,hg,NB]at h;exact QrN hL ops.toList [] (λj o h=>by simpa using h) (λj m h=>by simp at h) j m hg hj i h
theorem QwI {ops:Array Oper}(hed:∀ (i:Nat) (o:Oper),ops[i]? = some o->∀e∈o.after,Region.binds .any e=true->e.on<i):∀ (l:List Oper) (acc:List Nat),(∀ (j:Nat) (o:Oper),l[j]? = some o->ops[acc.length+j]? = some o)->(∀ (j:Nat) (m:Nat),acc[j]? = some m->∀k,Nat.testBit m k=true->k<j)->
  ∀ (j:Nat) (m:Nat),(QV l acc)[j]? = some m->∀k,Nat.testBit m k=true->k<j
 | [],acc,_,hacc=>hacc
 | o::l,acc,hops,hacc=>by
  simp only[QV];refine QwI hed l _ (λj o' h=>by have:=hops (j+1) o' (by simpa using h);simpa[Rh,Nat.add_comm 1 j] using this) ?_;intro j m hj k hk
  by_cases hlt:j<acc.length
  ·rw[LY hlt]at hj;exact hacc j m hj k hk
  ·rw[LR (by omega)]at hj;have hj0:j - acc.length=0:=by
    cases hd:j - acc.length with
    | zero=>rfl
    | succ d=>rw[hd]at hj;simp at hj
   rw[hj0]at hj;simp at hj;subst hj;have hje:j=acc.length:=by omega
   subst hje;refine Qqd (ops:=ops) (L:=λk=>k<acc.length) (λi hi o' ho' e he hb=>by have:=hed i o' ho' e he hb;omega) acc (λj m hjm hj k hk=>by have:=hacc j m hjm k hk;omega) o.after.toList (λe he hb=>hed acc.length o (by simpa using hops 0 o rfl) e (by simpa using he) hb) k hk
theorem QyE {ops:Array Oper}(hed:∀ (i:Nat) (o:Oper),ops[i]? = some o->∀e∈o.after,Region.binds .any e=true->e.on<i){i j:Nat}(h:QK (QV ops.toList []) i j=true):i<j:=by
 unfold QK at h;cases hg:(QV ops.toList [])[j]? with
 | none=>simp[List.getD,hg]at h
 | some m=>
  simp only[List.getD,hg,NB]at h;exact QwI hed ops.toList [] (λj o h=>by simpa using h) (λj m h=>by simp at h) j m hg i h
/-! ### The check by text -/
def looks (ops:Array Oper)(o:Oper):List Nat:=
 (o.op.operands.toList.filterMap λ| .tmp t=>some t | _=>none)++(match o.guard with | some (j,_)=>(Qcp ops j).toList | none=>[])
def Qf3 (ops:Array Oper)(gen:Nat->Bool):Bool:=
 let ms:=QV ops.toList []
 (List.range ops.size).all λj=>
  match ops[j]? with
  | none=>true
  | some o=>
   o.after.all (λe=>!(Region.binds .any e)||Nat.blt e.on j) &&
   (match o.op with | .select .. => false | _=>true) &&
   (List.range ops.size).all λi=>
    match ops[i]? with
    | none=>true
    | some oi=>
     (Nat.beq i j||(match oi.dst with | some t=>!((looks ops o).contains t||o.dst==some t) | none=>true)||(if i<j then QK ms i j else QK ms j i)) &&
     (!(gen i&&gen j&&Nat.blt i j)||QK ms i j)
/-! ### Values below a bound -/
def WK (ρ:Ren)(m:Nat):Ren:=λid=>if id<m then ρ id else none
theorem Qpf (ρ:Ren)(m:Nat):Sub (WK ρ m) ρ:=λid i h=>by
 unfold WK at h;split at h
 ·exact h
 ·cases h
theorem QjX {ρ ρ':Ren}{m m':Nat}(hs:Sub ρ ρ')(h:m<=m'):Sub (WK ρ m) (WK ρ' m'):=λid i hi=>by
 unfold WK at hi ⊢;split at hi
 ·rw[Lc (by omega)];exact hs id i hi
 ·cases hi
theorem Yh {ρ:Ren}{m id:Nat}{i:Kg}(h:WK ρ m id=some i):id<m∧ρ id=some i:=by
 unfold WK at h;split at h
 ·exact⟨‹_›,h⟩
 ·cases h
theorem ZD {ρ:Ren}{m id:Nat}{i:Kg}(h:id<m)(h':ρ id=some i):WK ρ m id=some i:=by
 unfold WK;rw[Lc h];exact h'
def Qh (m:Nat):Nat->Value->Bool
 | 0,v=>plain v
 | f+1,v=>match v with
  | .pointer (some a)=>Nat.blt a.block m
  | .slice (some a) _ _=>Nat.blt a.block m
  | .map (some r)=>Nat.blt r m
  | .func fn xs ys=>(match fn with | .yield l=>Nat.blt l m | _=>true)&&xs.all (Qh m f)&&ys.all (Qh m f)
  | .iface _ v=>Qh m f v
  | .agg xs=>xs.all (Qh m f)
  | .tuple xs=>xs.all (Qh m f)
  | v=>plain v
theorem QCD {ρ:Ren}{m:Nat}:∀ (f:Nat) {v v':Value},V ρ v v'->Qh m f v=true->V (WK ρ m) v v':=by
 intro f
 induction f with
 | zero=>
  intro v v' h hb;rw[h.plain_eq hb];exact .same _ hb
 | succ f ih=>
  intro v v' h hb;have arr:∀ {xs xs':Array Value},xs.all (Qh m f)=true->(∀ (j:Nat) x x',xs[j]? = some x->xs'[j]? = some x'->V ρ x x')->∀ (j:Nat) x x',xs[j]? = some x->xs'[j]? = some x'->V (WK ρ m) x x':=λha hr j x x' e e'=>
   ih (hr j x x' e e') (B1.1 ha x (BB e))
  cases h with
  | same v hp=>exact .same v hp
  | ptr id off i h=>exact .ptr id off i (ZD (by simpa[Qh] using hb) h)
  | slice id off len cap cap' i a' h h1 h2 h0 h3 h4=>exact .slice id off len cap cap' i a' (ZD (by simpa[Qh] using hb) h) h1 h2 h0 h3 h4
  | map id i h=>exact .map id i (ZD (by simpa[Qh] using hb) h)
  | func fn xs ys xs' ys' hn h1 h2 h3 h4=>
   simp only[Qh,Lm]at hb;exact .func fn xs ys xs' ys' hn h1 h2 (arr hb.1.2 h3) (arr hb.2 h4)
  | yield l i h=>exact .yield l i (ZD (by simpa[Qh] using hb) h)
  | iface t v v' h=>exact .iface t v v' (ih h (by simpa[Qh] using hb))
  | agg xs xs' h1 h2=>exact .agg xs xs' h1 (arr (by simpa only[Qh] using hb) h2)
  | tuple xs xs' h1 h2=>exact .tuple xs xs' h1 (arr (by simpa only[Qh] using hb) h2)
/-! ### The run in the text's order -/
inductive Cls where
 | pure
 | load
 | alloc (b:Blk)
 | gen
def Zf:Cls->Bool
 | .gen=>true
 | _=>false
def ZE (n:Nat)(ops:Array Oper)(A:Env)(o:Oper):Option Bool:=
 match o.guard with
 | none=>some true
 | some (j,want)=>match Qcp ops j with
  | some t=>if t<n then(match A t with | .bool b=>some (b==want) | .tuple _=>some false | _=>none) else none
  | none=>none
section
variable (P:Program) (n:Nat) (ops:Array Oper) (As:Nat->Env) (Hs:Nat->Qa) (vs:Nat->Value) (cls:Nat->Cls)
def QyF (i:Nat)(o:Oper):Prop:=
 (ZE n ops (As i) o=some false∧vs i=undef∧Hs (i+1)=Hs i∧cls i=.pure) ∨
 (ZE n ops (As i) o=some true∧match cls i with
  | .pure=>Hs (i+1)=Hs i∧∀h,QC P o (As i) h (vs i) h
  | .load=>Hs (i+1)=Hs i∧∃t x a,o.op=.load t x∧ev (As i) x=.pointer (some a)∧ZC P t a (Hs i)=some (vs i)∧
    ∀k,k<ops.size->Zf (cls k)=true->QK (QV ops.toList []) i k=false->QK (QV ops.toList []) k i=false->ZC P t a (Hs k)=some (vs i)∧ZC P t a (Hs (k+1))=some (vs i)∧Qh (Hs i).next 6 (vs i)=true
  | .alloc b=>Hs (i+1)=(Hs i).push b∧(∀h,h.next=(Hs i).next->QC P o (As i) h (vs i) (h.push b))∧
    ∀k,k<ops.size->i<k->Zf (cls k)=true->QK (QV ops.toList []) i k=false->(Hs (k+1)).get (Hs i).next=(Hs k).get (Hs i).next
  | .gen=>QC P o (As i) (Hs i) (vs i) (Hs (i+1)))
structure KB:Prop where
 env:∀ (i:Nat) (o:Oper),ops[i]? = some o->As (i+1)=GF (As i) o.dst (vs i)
 next:∀i,i<ops.size->(Hs i).next<=(Hs (i+1)).next
 ok:∀ (i:Nat) (o:Oper),ops[i]? = some o->Qje P n o=true
 step:∀ (i:Nat) (o:Oper),ops[i]? = some o->QyF P n ops As Hs vs cls i o
 check:Qf3 ops (λi=>Zf (cls i))=true
end
section
variable {P:Program} {n:Nat} {ops:Array Oper} {As:Nat->Env} {Hs:Nat->Qa} {vs:Nat->Value} {cls:Nat->Cls}
theorem KB.next_le (F:KB P n ops As Hs vs cls){i j:Nat}(hij:i<=j)(hj:j<=ops.size):(Hs i).next<=(Hs j).next:=by
 induction j with
 | zero=>
  obtain rfl:i=0:=by omega
  exact Lb _
 | succ j ih=>
  by_cases e:i=j+1
  ·subst e;exact Lb _
  ·exact N8 (ih (by omega) (by omega)) (F.next j (by omega))
theorem KB.checked (F:KB P n ops As Hs vs cls){i j:Nat}{oi oj:Oper}(hi:ops[i]? = some oi)(hj:ops[j]? = some oj):
  (∀e∈oj.after,Region.binds .any e=true->e.on<j)∧(∀cs b,oj.op≠.select cs b)∧
  (i≠j->∀t,oi.dst=some t->(t∈looks ops oj∨oj.dst=some t)->(i<j->QK (QV ops.toList []) i j=true)∧(j<i->QK (QV ops.toList []) j i=true))∧
  (Zf (cls i)=true->Zf (cls j)=true->i<j->QK (QV ops.toList []) i j=true):=by
 have hil:i<ops.size:=(Nj.1 hi).1;have hjl:j<ops.size:=(Nj.1 hj).1;have hc:=F.check;unfold Qf3 at hc;simp only[Li,LU]at hc;have h1:=hc j hjl;rw[hj]at h1;simp only[Lm,Li,LU]at h1;obtain⟨⟨ha,hs⟩,hp⟩:=h1;have h2:=hp i hil;rw[hi]at h2;simp only[Lm]at h2;refine⟨λe he hb=>?_,λcs b e=>?_,λhne t ht hl=>?_,λg1 g2 hlt=>?_⟩
 ·have:=B1.1 ha e he;simpa[hb] using this
 ·rw[e]at hs;cases hs
 ·have h3:=h2.1;rw[ht]at h3;have hl':((looks ops oj).contains t||oj.dst==some t)=true:=by
   rcases hl with h | h
   ·simp[h]
   ·simp[h]
  have hne':Nat.beq i j=false:=by rw[Kh];simpa using hne
  simp only[hl',hne',L8,Nt]at h3;refine⟨λh=>by rw[Lc h]at h3;exact h3,λh=>by rw[Le (by omega)]at h3;exact h3⟩
 ·have h3:=h2.2;have hb:Nat.blt i j=true:=by simpa using hlt
  simpa[g1,g2,hb] using h3
theorem KB.quiet (F:KB P n ops As Hs vs cls){k:Nat}{o:Oper}(hk:ops[k]? = some o)(hg:Zf (cls k)=false){id:Nat}(hid:id<(Hs k).next):(Hs (k+1)).get id=(Hs k).get id:=by
 rcases F.step k o hk with⟨_,_,h,_⟩ | ⟨_,h⟩
 ·rw[h]
 ·cases hc:cls k with
  | pure=>rw[hc]at h;simp only at h;rw[h.1]
  | load=>rw[hc]at h;simp only at h;rw[h.1]
  | alloc b=>rw[hc]at h;simp only at h;rw[h.1,Qd,Le (by omega)]
  | gen=>rw[hc]at hg;cases hg
def L (listed:Array Bool)(i:Nat):Prop:=listed.getD i false=true
structure Inv (P:Program) (n:Nat) (ops:Array Oper) (As:Nat->Env) (Hs:Nat->Qa) (cls:Nat->Cls) (d0:List Deferred) (ρ0:Ren) (w0:World) (listed:Array Bool) (a:Act) (w:World) (ρ:Ren) (G:Qa):Prop where
 size:listed.size=ops.size
 closed:Qpe ops (L listed)
 st:St0 ρ0 (Hs 0) w0 ρ G w
 sim:Sim P ρ G w
 dom:∀id i,ρ id=some i->ρ0 id=some i∨∃k,k<ops.size∧L listed k∧(Hs k).next<=id∧id<(Hs (k+1)).next
 dom0:∀id i,ρ0 id=some i->id<(Hs 0).next
 glob0:∀g,g<P.globals.size->∃i,ρ0 g=some i∧i.at_=⟨g,0,none⟩
 blk:∀id i,ρ id=some i->∃q,q<=ops.size∧id<(Hs q).next∧G.get id=(Hs q).get id∧(∀b,G.get id=some b->Xf P (WK ρ (Hs q).next) i w b)∧
  (∀k,k<ops.size->Zf (cls k)=true->L listed k->k<q∨(Hs (k+1)).get id=(Hs k).get id)∧
  (∀k,k<ops.size->Zf (cls k)=true->¬L listed k->q<=k∨(Hs (k+1)).next<=id)∧
  (q=0∨∃k,k<ops.size∧L listed k∧q=k+1∧(Zf (cls k)=true∨(Hs k).next<=id))
 defers:a.defers=d0
 tsize:a.tmps.size=n
 tmps:∀t,t<n->∃r,r<=ops.size∧V (WK ρ (Hs r).next) (As r t) (a.tmps.getD t undef)∧
  (∀ (k:Nat) (o:Oper),ops[k]? = some o->o.dst=some t->L listed k->k<r)∧(∀ (k:Nat) (o:Oper),ops[k]? = some o->o.dst=some t->¬L listed k->r<=k)∧
  (r=0∨∃ (k:Nat) (o:Oper),ops[k]? = some o∧o.dst=some t∧L listed k∧r=k+1)
section
variable {d0:List Deferred} {ρ0:Ren} {w0:World} {listed:Array Bool} {a:Act} {w:World} {ρ:Ren} {G:Qa}
structure Rdy (ops:Array Oper) (listed:Array Bool) (i:Nat) (o:Oper):Prop where
 at_:ops[i]? = some o
 not:¬L listed i
 pre:∀k,QK (QV ops.toList []) k i=true->L listed k
 post:∀k,QK (QV ops.toList []) i k=true->¬L listed k
 ed:∀e∈o.after,Region.binds .any e=true->L listed e.on
theorem QwJ (F:KB P n ops As Hs vs cls){t:Nat}:∀ {i j:Nat},i<=j->j<=ops.size->(∀ (k:Nat) (o:Oper),i<=k->k<j->ops[k]? = some o->o.dst≠some t)->As j t=As i t:=by
 intro i j
 induction j with
 | zero=>
  intro h _ _;obtain rfl:i=0:=by omega
  rfl
 | succ j ih=>
  intro h hj hw
  by_cases e:i=j+1
  ·subst e;rfl
  ·have hlt:j<ops.size:=by omega
   have ho:ops[j]? = some ops[j]:=Ng hlt;have hne:=hw j ops[j] (by omega) (by omega) ho;rw[F.env j _ ho];have:GF (As j) ops[j].dst (vs j) t=As j t:=by
    cases hd:ops[j].dst with
    | none=>rfl
    | some d=>
     have:t≠d:=λe=>hne (by rw[hd,e]);exact QhE _ _ this
   rw[this];exact ih (by omega) (by omega) (λk o h1 h2 h3=>hw k o h1 (by omega) h3)
theorem Inv.slot (F:KB P n ops As Hs vs cls)(I:Inv P n ops As Hs cls d0 ρ0 w0 listed a w ρ G){i:Nat}{o:Oper}(R:Rdy ops listed i o){t:Nat}(ht:t<n)(hl:t∈looks ops o):
  V (WK ρ (Hs i).next) (As i t) (a.tmps.getD t undef):=by
 have hil:i<ops.size:=(Nj.1 R.at_).1;obtain⟨r,hr,hv,h1,h2,h3⟩:=I.tmps t ht;have hri:r<=i:=by
  rcases h3 with rfl | ⟨k,ok,hk,hd,hL,rfl⟩
  ·omega
  ·by_cases hki:k<i
   ·omega
   ·exfalso;have hne:k≠i:=λe=>R.not (e▸hL);have:=((F.checked hk R.at_).2.2.1 hne t hd (.inl hl)).2 (by omega);exact R.post k this hL
 have hsame:As i t=As r t:=QwJ F hri (by omega) (λk ok hk1 hk2 hk hd=>by
  have hord:=((F.checked hk R.at_).2.2.1 (by omega) t hd (.inl hl)).1 hk2;have:=h1 k ok hk hd (R.pre k hord);omega)
 rw[hsame];exact hv.mono (QjX (.refl ρ) (F.next_le hri (by omega)))
theorem Inv.operands (F:KB P n ops As Hs vs cls)(I:Inv P n ops As Hs cls d0 ρ0 w0 listed a w ρ G){i:Nat}{o:Oper}(R:Rdy ops listed i o):Qp5 (WK ρ (Hs i).next) o (As i) a:=by
 intro x hx;have hok:=F.ok i o R.at_;simp only[Qje,Lm]at hok;have hx':=B1.1 hok.2 x hx;cases x with
 | tmp t=>
  refine I.slot F R (by simpa[Qe9] using hx') ?_;unfold looks;refine List.mem_append_left _ (List.mem_filterMap.2 ⟨.tmp t,by simpa using hx,rfl⟩)
 | const v=>exact .closed hx'
 | global gg=>
  have hgl:gg<P.globals.size:=by simpa[Qe9] using hx'
  obtain⟨j,hj0,e⟩:=I.glob0 gg hgl;have hj:=I.st.mono gg j hj0;have hlt:gg<(Hs 0).next:=I.dom0 gg j hj0;have hil:i<ops.size:=(Nj.1 R.at_).1;have:=V.ptr (ρ:=WK ρ (Hs i).next) gg 0 j (ZD (N5 hlt (F.next_le (L7 _) (by omega))) hj);rw[e]at this;exact this
 | func f=>exact .func _ _ _ _ _ rfl rfl rfl (λj x x' h=>by simp at h) (λj x x' h=>by simp at h)
theorem QiA {listed:Array Bool}{i k:Nat}(hi:i<listed.size):L (listed.setIfInBounds i true) k↔k=i∨L listed k:=by
 unfold L
 by_cases e:k=i
 ·subst e;simp[N0,hi]
 ·rw[N0,Bn (by omega),<- N0];simp[e]
theorem Inv.after (F:KB P n ops As Hs vs cls)(I:Inv P n ops As Hs cls d0 ρ0 w0 listed a w ρ G){i:Nat}{o:Oper}(R:Rdy ops listed i o){ρ2:Ren}{G2:Qa}{w':World}{v':Value}
  (hst:St0 ρ G w ρ2 G2 w') (hsim:Sim P ρ2 G2 w') (hv:V (WK ρ2 (Hs (i+1)).next) (vs i) v') (hdom:∀id j,ρ2 id=some j->ρ id=some j∨((Hs i).next<=id∧id<(Hs (i+1)).next))
  (hblk:∀id j,ρ2 id=some j->∃q,q<=ops.size∧id<(Hs q).next∧G2.get id=(Hs q).get id∧(∀b,G2.get id=some b->Xf P (WK ρ2 (Hs q).next) j w' b)∧
   (∀k,k<ops.size->Zf (cls k)=true->(k=i∨L listed k)->k<q∨(Hs (k+1)).get id=(Hs k).get id)∧
   (∀k,k<ops.size->Zf (cls k)=true->k≠i->¬L listed k->q<=k∨(Hs (k+1)).next<=id)∧
   (q=0∨∃k,k<ops.size∧(k=i∨L listed k)∧q=k+1∧(Zf (cls k)=true∨(Hs k).next<=id))):
  Inv P n ops As Hs cls d0 ρ0 w0 (listed.setIfInBounds i true) (a.put o.dst v') w' ρ2 G2:=by
 have hil:i<ops.size:=(Nj.1 R.at_).1;have hls:i<listed.size:=by rw[I.size];exact hil
 have hok:=QjS (F.ok i o R.at_);refine⟨by simp[I.size],λk hk ok hok' e he hb=>?_,I.st.trans hst,hsim,λid j hj=>?_,I.dom0,I.glob0,λid j hj=>?_,?_,?_,λt ht=>?_⟩
 ·rw[QiA hls]at hk ⊢;rcases hk with rfl | hk
  ·rw[R.at_]at hok';cases hok';exact .inr (R.ed e he hb)
  ·exact .inr (I.closed k hk ok hok' e he hb)
 ·rcases hdom id j hj with h | ⟨h1,h2⟩
  ·rcases I.dom id j h with h0 | ⟨k,k1,k2,k3,k4⟩
   ·exact .inl h0
   ·exact .inr ⟨k,k1,(QiA hls).2 (.inr k2),k3,k4⟩
  ·exact .inr ⟨i,hil,(QiA hls).2 (.inl rfl),h1,h2⟩
 ·obtain⟨q,q1,q2,q3,q4,q5,q6,q7⟩:=hblk id j hj;refine⟨q,q1,q2,q3,q4,λk hk hg hl=>q5 k hk hg ((QiA hls).1 hl),λk hk hg hl=>?_,?_⟩
  ·rw[QiA hls]at hl;exact q6 k hk hg (λe=>hl (.inl e)) (λe=>hl (.inr e))
  ·rcases q7 with h | ⟨k,k1,k2,k3,k4⟩
   ·exact .inl h
   ·exact .inr ⟨k,k1,(QiA hls).2 k2,k3,k4⟩
 ·have:=I.defers;cases o.dst<;>exact this
 ·have:=I.tsize;cases o.dst<;>simp[Act.put,this]
 ·by_cases hd:o.dst=some t
  ·refine⟨i+1,by omega,?_,λk ok hk hdk hl=>?_,λk ok hk hdk hl=>?_,.inr ⟨i,o,R.at_,hd,(QiA hls).2 (.inl rfl),rfl⟩⟩
   ·rw[F.env i o R.at_,hd];simp only[GF,QjQ,Act.put];rw[N0,RC (by rw[I.tsize];exact ht)];exact hv
   ·rw[QiA hls]at hl;rcases hl with rfl | hl
    ·omega
    ·by_cases hlt:k<i+1
     ·exact hlt
     ·have:=((F.checked hk R.at_).2.2.1 (by omega) t hdk (.inr hd)).2 (by omega);exact absurd hl (R.post k this)
   ·rw[QiA hls]at hl
    by_cases hlt:i+1<=k
    ·exact hlt
    ·have hne:k≠i:=λe=>hl (.inl e);have:=((F.checked hk R.at_).2.2.1 hne t hdk (.inr hd)).1 (by omega);exact absurd (.inr (R.pre k this)) hl
  ·obtain⟨r,r1,r2,r3,r4,r5⟩:=I.tmps t ht;refine⟨r,r1,?_,λk ok hk hdk hl=>?_,λk ok hk hdk hl=>r4 k ok hk hdk (λh=>hl ((QiA hls).2 (.inr h))),?_⟩
   ·have hsame:(a.put o.dst v').tmps.getD t undef=a.tmps.getD t undef:=by
     cases hdd:o.dst with
     | none=>rfl
     | some d=>
      have:d≠t:=λe=>hd (by rw[hdd,e]);simp only[Act.put];rw[N0,Bn this,<- N0]
    rw[hsame];exact r2.mono (QjX hst.mono (Lb _))
   ·rw[QiA hls]at hl;rcases hl with rfl | hl
    ·rw[R.at_]at hk;cases hk;exact absurd hdk hd
    ·exact r3 k ok hk hdk hl
   ·rcases r5 with h | ⟨k,ok,k1,k2,k3,k4⟩
    ·exact .inl h
    ·exact .inr ⟨k,ok,k1,k2,(QiA hls).2 (.inr k3),k4⟩
theorem Inv.still (F:KB P n ops As Hs vs cls)(I:Inv P n ops As Hs cls d0 ρ0 w0 listed a w ρ G){i:Nat}{o:Oper}(R:Rdy ops listed i o)(hg:Zf (cls i)=false){v':Value}(hv:V (WK ρ (Hs (i+1)).next) (vs i) v'):
  Inv P n ops As Hs cls d0 ρ0 w0 (listed.setIfInBounds i true) (a.put o.dst v') w ρ G:=by
 refine I.after F R ⟨.refl ρ,Lb _,λ_ _ _ h=>h,λ_ _ b b' _ h hr h'=>(by rw[h]at h';cases h';exact hr),λid i h h'=>(by rw[h']at h;cases h),rfl,rfl,rfl,Lb _,λ_ _ _=>rfl⟩ I.sim hv (λid j h=>.inl h) (λid j hj=>?_);obtain⟨q,q1,q2,q3,q4,q5,q6,q7⟩:=I.blk id j hj;refine⟨q,q1,q2,q3,q4,λk hk hgk hl=>?_,λk hk hgk _ hl=>q6 k hk hgk hl,?_⟩
 ·rcases hl with rfl | hl
  ·rw[hg]at hgk;cases hgk
  ·exact q5 k hk hgk hl
 ·rcases q7 with h | ⟨k,k1,k2,k3,k4⟩
  ·exact .inl h
  ·exact .inr ⟨k,k1,.inr k2,k3,k4⟩
theorem Inv.frame (F:KB P n ops As Hs vs cls)(I:Inv P n ops As Hs cls d0 ρ0 w0 listed a w ρ G){i:Nat}{o:Oper}(R:Rdy ops listed i o){h h':Qa}(hn:h.next=(Hs i).next)(hn':h'.next=(Hs (i+1)).next)
  (hs1:Sim P (WK ρ (Hs i).next) h w) (agree:∀id j b,WK ρ (Hs i).next id=some j->h.get id=some b->G.get id=some b)
  (hpart:∀id j b,WK ρ (Hs i).next id=some j->h.get id=some b->h'.get id=(Hs (i+1)).get id∧Zf (cls i)=true)
  (hnew:∀id,(Hs i).next<=id->id<(Hs (i+1)).next->h'.get id=(Hs (i+1)).get id∧∀k,k<ops.size->i<k->Zf (cls k)=true->L listed k->(Hs (k+1)).get id=(Hs k).get id)
  (hrest:Zf (cls i)=true->∀id j,ρ id=some j->id<(Hs i).next->h.get id=none->(Hs i).get id=none)
  {ρ':Ren} {w':World} {v':Value} (hv:V ρ' (vs i) v') (hst:St (WK ρ (Hs i).next) h w ρ' h' w') (hs':Sim P ρ' h' w') (hdead:Zf (cls i)=true->∀id j,WK ρ (Hs i).next id=some j->(Hs i).get id=none->(Hs (i+1)).get id=none):
  ∃ρ2 G2,Inv P n ops As Hs cls d0 ρ0 w0 (listed.setIfInBounds i true) (a.put o.dst v') w' ρ2 G2:=by
 have hil:i<ops.size:=(Nj.1 R.at_).1;have hnewer:∀id,h.next<=id->id<h'.next->ρ id=none:=λid h1 h2=>by
  cases e:ρ id with
  | none=>rfl
  | some j=>
   rw[hn]at h1;rw[hn']at h2;exfalso;rcases I.dom id j e with h0 | ⟨k,k1,k2,k3,k4⟩
   ·have:=I.dom0 id j h0;have:=F.next_le (L7 i) (by omega);omega
   ·have hne:k≠i:=λe=>R.not (e▸k2);rcases Fa hne with hlt | hgt
    ·have:=F.next_le (show k+1<=i by omega) (by omega);omega
    ·have:=F.next_le (show i+1<=k by omega) (by omega);omega
 obtain⟨t1,t2,t3⟩:=QyD I.sim (Qpf ρ _) hs1 agree hnewer hst hs';have hsubJ:Sub ρ' (WK (QrK ρ ρ') (Hs (i+1)).next):=λid j hj=>ZD (by rw[<- hn'];exact hs'.dom id j hj) (JG hj);refine⟨_,_,I.after F R t1 t2 (hv.mono hsubJ) (λid j hj=>?_) (λid j hj=>?_)⟩
 ·cases e:ρ' id with
  | none=>rw[Gj e]at hj;exact .inl hj
  | some j'=>
   rw[JG e]at hj;cases hj;cases e1:WK ρ (Hs i).next id with
   | some j1=>
    have:=hst.mono id j1 e1;rw[e]at this;cases this;exact .inl (Yh e1).2
   | none=>
    have h1:=(hst.fresh id j e e1).1;have h2:=hs'.dom id j e;exact .inr ⟨by omega,by omega⟩
 ·have hlt2:id<max G.next h'.next:=t2.dom id j hj;have hgen_lt:∀k,k<ops.size->Zf (cls i)=true->Zf (cls k)=true->L listed k->k<i:=λk hk g1 g2 hl=>by
   rcases Dj k i with h | h | h
   ·exact h
   ·exact absurd (h▸hl) R.not
   ·have:=(F.checked R.at_ (Ng hk)).2.2.2 g1 g2 h;exact absurd hl (R.post k this)
  by_cases hpt:∃j1 b,WK ρ (Hs i).next id=some j1∧h.get id=some b
  ·obtain⟨j1,b,e1,e2⟩:=hpt;have hm:=hst.mono id j1 e1;have:j1=j:=by rw[JG hm]at hj;cases hj;rfl
   subst this;obtain⟨p1,p2⟩:=hpart id j1 b e1 e2;have hlt:=(Yh e1).1;have hG:(QrL (WK ρ (Hs i).next) G h h').get id=h'.get id:=by rw[VX hlt2,QrM (by omega) e1 e2]
   refine⟨i+1,by omega,N5 hlt (F.next i hil),hG.trans p1,λb' hb'=>?_,λk hk hgk hl=>?_,λk hk hgk hki hl=>?_,.inr ⟨i,hil,.inl rfl,rfl,.inl p2⟩⟩
   ·rw[hG]at hb';exact(hs'.live id b' j1 hb' hm).mono hsubJ rfl
   ·rcases hl with rfl | hl
    ·left;omega
    ·left;have:=hgen_lt k hk p2 hgk hl;omega
   ·left;rcases Dj k i with hh | hh | hh
    ·have:=(F.checked (Ng hk) R.at_).2.2.2 hgk p2 hh;exact absurd (R.pre k this) hl
    ·exact absurd hh hki
    ·omega
  ·by_cases hnw:(Hs i).next<=id∧id<(Hs (i+1)).next
   ·obtain⟨n1,n2⟩:=hnw;obtain⟨p1,p2⟩:=hnew id n1 n2;have hρ:=hnewer id (by omega) (by omega);have hm:ρ' id=some j:=by
     cases e:ρ' id with
     | none=>rw[Gj e,hρ]at hj;cases hj
     | some j'=>rw[JG e]at hj;exact hj
    have hG:(QrL (WK ρ (Hs i).next) G h h').get id=h'.get id:=by rw[VX hlt2,Qud (by omega) (by omega)]
    refine⟨i+1,by omega,n2,hG.trans p1,λb' hb'=>?_,λk hk hgk hl=>?_,λk hk hgk hki hl=>?_,.inr ⟨i,hil,.inl rfl,rfl,.inr n1⟩⟩
    ·rw[hG]at hb';exact(hs'.live id b' j hb' hm).mono hsubJ rfl
    ·rcases hl with rfl | hl
     ·left;omega
     ·rcases Nq i k with hh | hh
      ·right;exact p2 k hk hh hgk hl
      ·left;omega
    ·rcases Dj k i with hh | hh | hh
     ·right;exact N8 (F.next_le (show k+1<=i by omega) (by omega)) n1
     ·exact absurd hh hki
     ·left;omega
   ·-- as it was
    have hρ':∀j',ρ' id=some j'->WK ρ (Hs i).next id=some j':=λj' e=>by
     cases e1:WK ρ (Hs i).next id with
     | some j1=>have:=hst.mono id j1 e1;rw[e]at this;exact this.symm
     | none=>
      exfalso;have h1:=(hst.fresh id j' e e1).1;have h2:=hs'.dom id j' e;exact hnw ⟨by omega,by omega⟩
    have hρ:ρ id=some j:=by
     cases e:ρ' id with
     | none=>rw[Gj e]at hj;exact hj
     | some j'=>rw[JG e]at hj;cases hj;exact(Yh (hρ' j e)).2
    have hc:WK ρ (Hs i).next id=none∨h.get id=none:=by
     cases e1:WK ρ (Hs i).next id with
     | none=>exact .inl rfl
     | some j1=>
      cases e2:h.get id with
      | none=>exact .inr rfl
      | some b=>exact absurd ⟨j1,b,e1,e2⟩ hpt
    have hG:(QrL (WK ρ (Hs i).next) G h h').get id=G.get id:=by
     rw[VX hlt2]
     by_cases hlt:id<h.next
     ·exact Qmx hlt hc
     ·exact Que (by omega) (by rcases Nq id h'.next with hh | hh;(exact absurd ⟨by omega,by omega⟩ hnw);exact hh)
    obtain⟨q,q1,q2,q3,q4,q5,q6,q7⟩:=I.blk id j hρ;refine⟨q,q1,q2,hG.trans q3,λb hb=>?_,λk hk hgk hl=>?_,λk hk hgk _ hl=>q6 k hk hgk hl,?_⟩
    ·rw[hG]at hb;exact(q4 b hb).mono (QjX t1.mono (Lb _)) (t3 id j b hρ hb hc)
    ·rcases hl with rfl | hl
     ·by_cases hlt:id<(Hs k).next
      ·right;have hr:=ZD hlt hρ;have hnone:h.get id=none:=by rcases hc with e | e;(rw[hr]at e;cases e);exact e
       have hd:=hrest hgk id j hρ hlt hnone;rw[hd];exact hdead hgk id j hr hd
      ·left;rcases I.dom id j hρ with h0 | ⟨k',k1,k2,k3,k4⟩
       ·have:=I.dom0 id j h0;have:=F.next_le (L7 k) (by omega);omega
       ·have hne:k'≠k:=λe=>R.not (e▸k2);have hgt:k<k':=by
         rcases Fa hne with hh | hh
         ·have:=F.next_le (show k'+1<=k by omega) (by omega);omega
         ·exact hh
        rcases Nq k' q with hh | hh
        ·omega
        ·have:=F.next_le hh (by omega);omega
     ·exact q5 k hk hgk hl
    ·rcases q7 with hh | ⟨k,k1,k2,k3,k4⟩
     ·exact .inl hh
     ·exact .inr ⟨k,k1,.inr k2,k3,k4⟩
theorem Sim.empty {ρ:Ren}{w:World}{m:Nat}(hd:∀id j,ρ id=some j->id<m)(hg:∀g,g<P.globals.size->∃j,ρ g=some j∧j.at_=⟨g,0,none⟩):Sim P ρ ⟨m,.nil⟩ w:=
 ⟨hd,λid b j h=>by simp[Qa.get,Tr.get_nil]at h,λid1 id2 b1 b2 i1 i2 h=>by simp[Qa.get,Tr.get_nil]at h,hg⟩
theorem Inv.globR (F:KB P n ops As Hs vs cls)(I:Inv P n ops As Hs cls d0 ρ0 w0 listed a w ρ G){i:Nat}(hi:i<=ops.size):∀g,g<P.globals.size->∃j,WK ρ (Hs i).next g=some j∧j.at_=⟨g,0,none⟩:=λg hg=>by
 obtain⟨j,hj,e⟩:=I.glob0 g hg;exact⟨j,ZD (N5 (I.dom0 g j hj) (F.next_le (L7 _) hi)) (I.st.mono g j hj),e⟩
theorem Inv.now (F:KB P n ops As Hs vs cls)(I:Inv P n ops As Hs cls d0 ρ0 w0 listed a w ρ G){i:Nat}{o:Oper}(R:Rdy ops listed i o)(hg:Zf (cls i)=true){id:Nat}{j:Kg}(hid:id<(Hs i).next)(hj:ρ id=some j):
  G.get id=(Hs i).get id∧∀b,G.get id=some b->Xf P (WK ρ (Hs i).next) j w b:=by
 have hil:i<ops.size:=(Nj.1 R.at_).1;obtain⟨q,q1,q2,q3,q4,q5,q6,q7⟩:=I.blk id j hj;have hqi:q<=i:=by
  rcases q7 with rfl | ⟨k,k1,k2,rfl,k4⟩
  ·omega
  ·have hne:k≠i:=λe=>R.not (e▸k2);rcases Fa hne with hh | hh
   ·omega
   ·exfalso;rcases k4 with k4 | k4
    ·have:=(F.checked R.at_ (Ng k1)).2.2.2 hg k4 hh;exact R.post k this k2
    ·have:=F.next_le (show i<=k by omega) (by omega);omega
 have chain:∀r,q<=r->r<=i->(Hs r).get id=(Hs q).get id:=by
  intro r
  induction r with
  | zero=>
   intro h1 _;obtain rfl:q=0:=by omega
   rfl
  | succ r ih=>
   intro h1 h2
   by_cases e:q=r+1
   ·subst e;rfl
   ·have hr:r<ops.size:=by omega
    rw[<- ih (by omega) (by omega)];cases hgr:Zf (cls r) with
    | false=>exact F.quiet (Ng hr) hgr (N5 q2 (F.next_le (by omega) (by omega)))
    | true=>
     have:=(F.checked (Ng hr) R.at_).2.2.2 hgr hg (by omega);rcases q5 r hr hgr (R.pre r this) with hh | hh
     ·omega
     ·exact hh
 refine⟨by rw[q3,chain i hqi (Lb _)],λb hb=>(q4 b hb).mono (QjX (.refl ρ) (F.next_le hqi (by omega))) rfl⟩
theorem Inv.run (F:KB P n ops As Hs vs cls)(I:Inv P n ops As Hs cls d0 ρ0 w0 listed a w ρ G){i:Nat}{o:Oper}(R:Rdy ops listed i o){K:Act->World->Prop}{Q:Exit->Act->World->Prop}
  (hK:∀a' w' ρ' G',Inv P n ops As Hs cls d0 ρ0 w0 (listed.setIfInBounds i true) a' w' ρ' G'->K a' w') (z:Rd):wpOpIn (fen z) 0 P ops Q i K a w:=by
 have hil:i<ops.size:=(Nj.1 R.at_).1;have hwant:∀b,ZE n ops (As i) o=some b->Region.wanted o (yielded ops a.tmps)=b:=λb hb=>by
  unfold ZE at hb;split at hb
  ·rename_i hgd;cases hb;simp[Region.wanted,hgd]
  ·rename_i j want hgd;split at hb
   ·rename_i t hsl;split at hb
    ·rename_i htn;split at hb
     ·rename_i b0 eb;cases hb;have hv:=I.slot F R htn (by unfold looks;rw[hgd];simp[hsl]);rw[eb]at hv;have hlt:t<a.tmps.size:=by rw[I.tsize];exact htn
      have hcb:a.tmps[t]? = some (.bool b0):=by
       rw[N0,Ng hlt]at hv;rw[Ng hlt];simp only[NB]at hv;rw[hv.plain_eq rfl]
      have hy:yielded ops a.tmps j=some b0:=by
       unfold yielded;unfold Qcp at hsl;rw[hsl];simp[hcb]
      simp[Region.wanted,hgd,hy]
     ·rename_i vs0 eb;cases hb;have hv:=I.slot F R htn (by unfold looks;rw[hgd];simp[hsl]);rw[eb]at hv;obtain⟨vs1,e1,_⟩:=hv.tuple_inv;have hlt:t<a.tmps.size:=by rw[I.tsize];exact htn
      have hcb:a.tmps[t]? = some (.tuple vs1):=by
       rw[N0,Ng hlt]at e1;rw[Ng hlt];simpa using e1
      have hy:yielded ops a.tmps j=none:=by
       unfold yielded;unfold Qcp at hsl;rw[hsl];simp[hcb]
      simp[Region.wanted,hgd,hy]
     ·cases hb
    ·cases hb
   ·cases hb
 unfold wpOpIn;simp only[R.at_];rcases F.step i o R.at_ with⟨hw,hv,hH,hc⟩ | ⟨hw,hstep⟩
 ·rw[Le (by rw[hwant false hw];simp)];exact⟨λ_ _=>trivial,hK _ _ _ _ (I.still F R (by rw[hc];rfl) (by rw[hv];exact .closed (by simp[undef,ZB])))⟩
 ·rw[Lc (hwant true hw)];have hops:=I.operands F R;have hglob:=I.globR F (Nat.le_of_lt hil);have hemp:Sim P (WK ρ (Hs i).next) ⟨(Hs i).next,.nil⟩ w:=Sim.empty (λid j h=>(Yh h).1) hglob;have hnone:∀id,Qa.get ⟨(Hs i).next,.nil⟩ id=none:=λid=>by simp[Qa.get,Tr.get_nil]
  cases hc:cls i with
  | pure=>
   rw[hc]at hstep;obtain⟨hH,hdo⟩:=hstep;refine hdo ⟨(Hs i).next,.nil⟩ (WK ρ (Hs i).next) w a hemp hops K Q (λv' ρ' w' hv hst hs'=>?_) z;obtain⟨ρ2,G2,hI⟩:=I.frame F R (h:=⟨(Hs i).next,.nil⟩) (h':=⟨(Hs i).next,.nil⟩) rfl (by rw[hH]) hemp (λid j b _ h=>by rw[hnone]at h;cases h) (λid j b _ h=>by rw[hnone]at h;cases h)
    (λid h1 h2=>by rw[hH]at h2;omega) (λhg=>by rw[hc]at hg;cases hg) hv hst hs' (λhg=>by rw[hc]at hg;cases hg)
   exact hK _ _ _ _ hI
  | alloc b=>
   rw[hc]at hstep;obtain⟨hH,hdo,hun⟩:=hstep;refine hdo ⟨(Hs i).next,.nil⟩ rfl (WK ρ (Hs i).next) w a hemp hops K Q (λv' ρ' w' hv hst hs'=>?_) z;obtain⟨ρ2,G2,hI⟩:=I.frame F R (h:=⟨(Hs i).next,.nil⟩) (h':=Qa.push ⟨(Hs i).next,.nil⟩ b) rfl (by rw[hH];rfl) hemp (λid j b _ h=>by rw[hnone]at h;cases h) (λid j b _ h=>by rw[hnone]at h;cases h)
    (λid h1 h2=>by
     rw[hH]at h2;simp only[Qc]at h2;obtain rfl:id=(Hs i).next:=by omega
     refine⟨by rw[hH,Qd,Qd,Lc rfl,Lc rfl],λk hk hik hgk hl=>?_⟩;refine hun k hk hik hgk ?_;cases ho:QK (QV ops.toList []) i k with
     | false=>rfl
     | true=>exact absurd hl (R.post k ho))
    (λhg=>by rw[hc]at hg;cases hg) hv hst hs' (λhg=>by rw[hc]at hg;cases hg)
   exact hK _ _ _ _ hI
  | gen=>
   rw[hc]at hstep;have hgi:Zf (cls i)=true:=by rw[hc];rfl
   have hsim:Sim P (WK ρ (Hs i).next) (Hs i) w:=by
    refine⟨λid j h=>(Yh h).1,λid b j hb hj=>?_,λid1 id2 b1 b2 i1 i2 h1 h2 h3 h4 h5 h6=>?_,hglob⟩
    ·obtain⟨e1,e2⟩:=Yh hj;obtain⟨n1,n2⟩:=I.now F R hgi e1 e2;exact n2 b (by rw[n1];exact hb)
    ·obtain⟨e1,e2⟩:=Yh h3;obtain⟨e3,e4⟩:=Yh h4;exact I.sim.sep id1 id2 b1 b2 i1 i2 (by rw[(I.now F R hgi e1 e2).1];exact h1) (by rw[(I.now F R hgi e3 e4).1];exact h2) e2 e4 h5 h6
   refine hstep (WK ρ (Hs i).next) w a hsim hops K Q (λv' ρ' w' hv hst hs'=>?_) z;obtain⟨ρ2,G2,hI⟩:=I.frame F R (h:=Hs i) (h':=Hs (i+1)) rfl rfl hsim
    (λid j b hj hb=>by obtain⟨e1,e2⟩:=Yh hj;rw[(I.now F R hgi e1 e2).1];exact hb)
    (λid j b _ _=>⟨rfl,hgi⟩)
    (λid h1 h2=>⟨rfl,λk hk hik hgk hl=>by
     have:=(F.checked R.at_ (Ng hk)).2.2.2 hgi hgk hik;exact absurd hl (R.post k this)⟩)
    (λ_ id j _ _ h=>h) hv hst hs' (λ_ id j hj hd=>hst.dead id j hj hd)
   exact hK _ _ _ _ hI
  | load=>
   rw[hc]at hstep;obtain⟨hH,t,x,ad,hop,ex,hl,hun⟩:=hstep;have hgi:Zf (cls i)=false:=by rw[hc];rfl
   have hx:=hops x (by rw[hop];simp[Op.operands]);rw[ex]at hx;obtain⟨inf,g1,g2,g3⟩:=hx.ptr_inv;obtain⟨id,off,sp⟩:=ad;simp only at g1 g2 g3;subst g2;obtain⟨hid,hj⟩:=Yh g1;obtain⟨q,q1,q2,q3,q4,q5,q6,q7⟩:=I.blk id inf hj;have hcong:∀r r':Nat,(Hs r).get id=(Hs r').get id->ZC P t ⟨id,off,none⟩ (Hs r)=ZC P t ⟨id,off,none⟩ (Hs r'):=λr r' e=>by
    unfold ZC;rw[e]
   have hunord:∀k,k<ops.size->Zf (cls k)=true->(i<=k->L listed k)->(k<i->¬L listed k)->QK (QV ops.toList []) i k=false∧QK (QV ops.toList []) k i=false:=λk hk hgk h1 h2=>by
    refine⟨?_,?_⟩
    ·cases ho:QK (QV ops.toList []) i k with
     | false=>rfl
     | true=>
      exfalso
      by_cases hik:i<=k
      ·exact R.post k ho (h1 hik)
      ·have:=mask_lt F ho;omega
    ·cases ho:QK (QV ops.toList []) k i with
     | false=>rfl
     | true=>
      exfalso;have hle:=mask_lt F ho;have hp:=R.pre k ho;rcases Nq k i with hh | hh
      ·exact h2 hh hp
      ·obtain rfl:k=i:=by omega
       exact R.not hp
   -- the value that is loaded is the same,wherever its block stands now
   have hload:ZC P t ⟨id,off,none⟩ (Hs q)=some (vs i)∧(q<=i∨Qh (Hs i).next 6 (vs i)=true):=by
    rcases Nat.le_total q i with hqi | hqi
    ·refine⟨?_,.inl hqi⟩;have:∀m r,r+m=i->q<=r->ZC P t ⟨id,off,none⟩ (Hs r)=some (vs i):=by
      intro m
      induction m with
      | zero=>
       intro r hr _;obtain rfl:r=i:=by omega
       exact hl
      | succ m ih=>
       intro r hr hq;have hrl:r<ops.size:=by omega
       have hnx:=ih (r+1) (by omega) (by omega);cases hgr:Zf (cls r) with
       | false=>
        rw[<- hcong (r+1) r (F.quiet (Ng hrl) hgr (N5 q2 (F.next_le hq (by omega))))];exact hnx
       | true=>
        by_cases hlr:L listed r
        ·rcases q5 r hrl hgr hlr with hh | hh
         ·omega
         ·rw[<- hcong (r+1) r hh];exact hnx
        ·obtain⟨u1,u2⟩:=hunord r hrl hgr (by omega) (λ_=>hlr);exact(hun r hrl hgr u1 u2).1
     exact this (i - q) q (by omega) (Lb _)
    ·by_cases hqe:q=i
     ·subst hqe;exact⟨hl,.inl (Lb _)⟩
     have hgenL:∀r,r<ops.size->i<=r->r<q->Zf (cls r)=true->L listed r:=λr hr hir hrq hgr=>by
      by_cases hlr:L listed r
      ·exact hlr
      ·exfalso;rcases q6 r hr hgr hlr with hh | hh
       ·omega
       ·have:=F.next_le (show i<=r+1 by omega) (by omega);omega
     have key:∀m,i+m<=q->ZC P t ⟨id,off,none⟩ (Hs (i+m))=some (vs i):=by
      intro m
      induction m with
      | zero=>intro _;exact hl
      | succ m ih=>
       intro hm;have hrl:i+m<ops.size:=by omega
       have hpv:=ih (by omega);cases hgr:Zf (cls (i+m)) with
       | false=>
        have:=hcong (i+m+1) (i+m) (F.quiet (Ng hrl) hgr (N5 hid (F.next_le (by omega) (by omega))));rw[show i+(m+1)=i+m+1 by omega,this];exact hpv
       | true=>
        obtain⟨u1,u2⟩:=hunord (i+m) hrl hgr (λ_=>hgenL (i+m) hrl (by omega) (by omega) hgr) (by omega);exact(hun (i+m) hrl hgr u1 u2).2.1
     refine⟨by have:=key (q - i) (by omega);rwa [show i+(q - i)=q by omega]at this,.inr ?_⟩
     -- an operation that acts on memory has run ahead
     rcases q7 with rfl | ⟨k,k1,k2,rfl,k4⟩
     ·omega
     ·have hne:k≠i:=λe=>R.not (e▸k2);rcases k4 with k4 | k4
      ·obtain⟨u1,u2⟩:=hunord k k1 k4 (λ_=>k2) (by omega);exact(hun k k1 k4 u1 u2).2.2
      ·exfalso;have:=F.next_le (show i<=k by omega) (by omega);omega
   obtain⟨hla,hbel⟩:=hload;obtain⟨c,e,ro,hgq⟩:=QjU hla;have hgG:G.get id=some (.cells c e ro):=by rw[q3];exact hgq
   obtain⟨v',r1,r2⟩:=Qo8 (H:=Hs q) (ZD q2 hj) hgq (q4 _ hgG) hla;have hv':V (WK ρ (Hs (i+1)).next) (vs i) v':=by
    rw[hH];rcases hbel with hh | hh
    ·exact r2.mono (QjX (.refl ρ) (F.next_le hh (by omega)))
    ·exact QCD 6 (r2.mono (Qpf ρ _)) hh
   have hrun:(execOp a.eval o).run P w=.ok (.value v') w:=by
    unfold execOp;simp only[hop,Instr.loadAt,g3,Instr.sureAddr,LW,Nc,Lz,r1]
   refine⟨λ_ _=>trivial,?_⟩;rw[QjR hrun (by simp) _];exact hK _ _ _ _ (I.still F R hgi hv')
 where
 mask_lt (F:KB P n ops As Hs vs cls) {i j:Nat} (h:QK (QV ops.toList []) i j=true):i<=j:=
  QhJ (L:=λk=>k<=j) (λk hk o ho e he hb=>by have:=(F.checked ho ho).1 e he hb;omega) h (Lb _)
theorem QCE (F:KB P n ops As Hs vs cls){i:Nat}(hcl:Qpe ops (L listed))(hsz:listed.size=ops.size)(hr:i∈Region.ready .any ops listed):∃o,Rdy ops listed i o:=by
 obtain⟨h0,o,ho,hall⟩:=mem_ready.1 hr;have hil:i<ops.size:=(Nj.1 ho).1;have hnot:¬L listed i:=λh=>by
  unfold L at h;rw[N0,Ng (by rw[hsz];exact hil)]at h h0;simp only[NB]at h h0;rw[h]at h0;cases h0
 -- the set with the new one is closed too
 have hcl':Qpe ops (λk=>k=i∨L listed k):=λk hk ok hok e he hb=>by
  rcases hk with rfl | hk
  ·rw[ho]at hok;cases hok;exact .inr (hall e he hb)
  ·exact .inr (hcl k hk ok hok e he hb)
 refine⟨o,ho,hnot,λk hk=>?_,λk hk hl=>hnot (QhJ hcl hk hl),λe he hb=>hall e he hb⟩;have hk2:k=i∨L listed k:=QhJ hcl' hk (.inl rfl);rcases hk2 with rfl | h
 ·have:=QyE (λi o ho=>(F.checked ho ho).1) hk;omega
 ·exact h
theorem QwK (F:KB P n ops As Hs vs cls)(hsz:listed.size=ops.size)(hr:Region.ready .any ops listed=[]):∀i,i<ops.size->L listed i:=by
 intro i
 induction i using Nat.strongRecOn with
 | _ i ih=>
  intro hi
  by_cases hl:L listed i
  ·exact hl
  ·exfalso;have:i∈Region.ready .any ops listed:=by
    refine mem_ready.2 ⟨?_,ops[i],Ng hi,λe he hb=>?_⟩
    ·unfold L at hl;rw[N0,Ng (by rw[hsz];exact hi)]at hl ⊢;simpa using hl
    ·have:=(F.checked (Ng hi) (Ng hi)).1 e he hb;exact ih e.on this (by omega)
   rw[hr]at this;cases this
def left (listed:Array Bool):Nat:=(List.range listed.size).countP λi=>!(listed.getD i false)
theorem QCF {i:Nat}(hi:i<listed.size)(hn:¬L listed i):left (listed.setIfInBounds i true)+1=left listed:=by
 unfold left;rw[Array.size_setIfInBounds];unfold L at hn;have hn':listed.getD i false=false:=by simpa using hn
 have key:∀ (l:List Nat),l.Nodup->i∈l->(l.countP λk=>!((listed.setIfInBounds i true).getD k false))+1=l.countP λk=>!(listed.getD k false):=by
  intro l
  induction l with
  | nil=>intro _ h;cases h
  | cons x l ih=>
   intro hnd hm;rw[FR]at hnd;have hsame:∀k,k≠i->(listed.setIfInBounds i true).getD k false=listed.getD k false:=λk hk=>by
    rw[N0,Bn (by omega),<- N0]
   by_cases hx:x=i
   ·subst hx;have h1:(listed.setIfInBounds x true).getD x false=true:=by simp[N0,hi]
    have h2:(l.countP λk=>!((listed.setIfInBounds x true).getD k false))=l.countP λk=>!(listed.getD k false):=by
     apply List.countP_congr;intro k hk;rw[hsame k (λe=>hnd.1 (e▸hk))]
    rw[FG,FG,h1,h2,hn'];simp
   ·rw[FG,FG,hsame x hx];have:=ih hnd.2 (by cases hm with | head=>exact absurd rfl hx | tail _ h=>exact h);omega
 exact key _ List.nodup_range (LU.2 hi)
theorem QBm (h:left listed=0)(hsz:listed.size=ops.size):Region.ready .any ops listed=[]:=by
 cases hr:Region.ready .any ops listed with
 | nil=>rfl
 | cons i l=>
  exfalso;have hm:i∈Region.ready .any ops listed:=by rw[hr];simp
  obtain⟨h0,o,ho,_⟩:=mem_ready.1 hm;have hil:i<listed.size:=by rw[hsz];exact(Nj.1 ho).1
  unfold left at h;rw[List.countP_eq_zero]at h;have:=h i (LU.2 hil);rw[N0,Ng hil]at this h0;simp only[NB]at this h0;simp[h0]at this
theorem Inv.any (F:KB P n ops As Hs vs cls)(z:Rd){Q:Exit->Act->World->Prop}
  (hQ:∀listed a w ρ G,Inv P n ops As Hs cls d0 ρ0 w0 listed a w ρ G->(∀i,i<ops.size->L listed i)->Q .normal a w):
  ∀ (fuel:Nat) (listed:Array Bool) (a:Act) (w:World) (ρ:Ren) (G:Qa),left listed=fuel->Inv P n ops As Hs cls d0 ρ0 w0 listed a w ρ G->wpAnyIn (fen z) 0 P .any ops Q fuel listed a w:=by
 intro fuel
 induction fuel with
 | zero=>
  intro listed a w ρ G hl I;have hr:=QBm hl I.size;exact⟨hr,hQ listed a w ρ G I (QwK F I.size hr)⟩
 | succ fuel ih=>
  intro listed a w ρ G hl I;refine⟨λhr=>hQ listed a w ρ G I (QwK F I.size hr),λi hi=>?_⟩;obtain⟨o,R⟩:=QCE F I.closed I.size hi;have hil:i<listed.size:=by rw[I.size];exact(Nj.1 R.at_).1
  exact I.run F R (λa' w' ρ' G' I'=>ih _ a' w' ρ' G' (by have:=QCF hil R.not;omega) I') z
theorem Inv.done (F:KB P n ops As Hs vs cls)(I:Inv P n ops As Hs cls d0 ρ0 w0 listed a w ρ G)(hall:∀i,i<ops.size->L listed i):
  St ρ0 (Hs 0) w0 ρ (Hs ops.size) w∧Sim P ρ (Hs ops.size) w∧EnvRel ρ n (As ops.size) a∧a.defers=d0:=by
 have hget:∀id j,ρ id=some j->G.get id=(Hs ops.size).get id∧id<(Hs ops.size).next:=λid j hj=>by
  obtain⟨q,q1,q2,q3,q4,q5,q6,q7⟩:=I.blk id j hj;have chain:∀m,q+m<=ops.size->(Hs (q+m)).get id=(Hs q).get id:=by
   intro m
   induction m with
   | zero=>intro _;rfl
   | succ m ih=>
    intro hm;have hr:q+m<ops.size:=by omega
    rw[<- ih (by omega),show q+(m+1)=q+m+1 by omega];cases hgr:Zf (cls (q+m)) with
    | false=>exact F.quiet (Ng hr) hgr (N5 q2 (F.next_le (by omega) (by omega)))
    | true=>
     rcases q5 (q+m) hr hgr (hall _ hr) with hh | hh
     ·omega
     ·exact hh
  have:=chain (ops.size - q) (by omega);rw[show q+(ops.size - q)=ops.size by omega]at this;exact⟨by rw[q3,this],N5 q2 (F.next_le q1 (Lb _))⟩
 refine⟨St0.full ⟨I.st.mono,F.next_le (L7 _) (Lb _),λid i h h'=>?_,λid i b b' h h1 h2 h3=>?_,I.st.fresh,I.st.os,I.st.tape,I.st.output,I.st.size,I.st.frame⟩ (λid i h h'=>?_),
  ⟨λid j h=>(hget id j h).2,λid b j hb hj=>I.sim.live id b j (by rw[(hget id j hj).1];exact hb) hj,λid1 id2 b1 b2 i1 i2 h1 h2 h3 h4=>I.sim.sep id1 id2 b1 b2 i1 i2 (by rw[(hget id1 i1 h3).1];exact h1) (by rw[(hget id2 i2 h4).1];exact h2) h3 h4,I.sim.glob⟩,
  ⟨I.tsize,λt ht=>?_⟩,I.defers⟩
 ·rw[<- (hget id i (I.st.mono id i h)).1];exact I.st.dead id i h h'
 ·rw[<- (hget id i (I.st.mono id i h)).1]at h3;exact I.st.ro id i b b' h h1 h2 h3
 ·rcases I.dom id i h with h0 | ⟨k,k1,k2,k3,k4⟩
  ·rw[h']at h0;cases h0
  ·exact N8 (F.next_le (L7 _) (by omega)) k3
 ·obtain⟨r,r1,r2,r3,r4,r5⟩:=I.tmps t ht;have:As ops.size t=As r t:=QwJ F r1 (Lb _) (λk o hk1 hk2 hk hd=>by have:=r3 k o hk hd (hall k hk2);omega);rw[this];exact r2.mono (Qpf ρ _)
end
theorem QwL {id:Nat}{Q:Ex->Env->Qa->Prop}(hm:P.follows .mixedOrders=true)(F:KB P n ops As Hs vs cls)(hQ:Q .normal (As ops.size) (Hs ops.size)):AWp P n (.region id ops true) Q (As 0) (Hs 0):=by
 intro z ρ w a hs he;refine wpIn_region_any hm ?_;obtain⟨d1,d2⟩:=hs.drew;have hL0:∀i,¬L (Array.replicate ops.size false) i:=λi h=>by
  unfold L at h;rw[N0,Array.getElem?_replicate]at h;split at h<;>simp at h
 have I0:Inv P n ops As Hs cls a.defers ρ w.drew (Array.replicate ops.size false) a w.drew ρ (Hs 0):=by
  refine⟨by simp,λi hi=>absurd hi (hL0 i),(St.refl ρ (Hs 0) w.drew).to0,d2,λid j h=>.inl h,hs.dom,hs.glob,λid j hj=>⟨0,L7 _,hs.dom id j hj,rfl,λb hb=>?_,λk _ _ hl=>absurd hl (hL0 k),λk _ _ _=>.inl (L7 _),.inl rfl⟩,rfl,he.size,λt ht=>⟨0,L7 _,?_,λk o _ _ hl=>absurd hl (hL0 k),λk o _ _ _=>L7 _,.inl rfl⟩⟩
  ·exact(d2.live id b j hb hj).mono (λx y h=>ZD (hs.dom x y h) h) rfl
  ·exact(he.tmps t ht).mono (λx y h=>ZD (hs.dom x y h) h)
 have hleft:left (Array.replicate ops.size false)=ops.size:=by
  unfold left;have:∀i∈List.range (Array.replicate ops.size false).size,(!(Array.replicate ops.size false).getD i false)=true:=λi _=>by
   have:=hL0 i;unfold L at this;simpa using this
  rw[List.countP_eq_length.2 this];simp
 refine Inv.any F z (λlisted a' w' ρ' G' I hall=>?_) ops.size _ a w.drew ρ (Hs 0) hleft I0;obtain⟨t1,t2,t3,t4⟩:=I.done F hall;exact⟨.normal,ρ',_,_,hQ,d1.trans t1,t2,⟨t3,he.fr.step (d1.trans t1) t4⟩,trivial⟩
end
section
variable {P:Program} {n:Nat} {Q:Ex->Env->Qa->Prop} {A:Env} {H:Qa}
theorem QCG {b:Frame}{a:Act}{k:List Item}{cs:List Frame}{w:World}{c:Code}:step P (lone (b.atR a (.code (.scope c)::k)) cs w)=.next (lone (b.atR a (.code c::.inScope c::k)) cs w):=
 step_lone_go (by simp[stepG,stepG.exec,Frame.atR])
theorem QyG {b:Frame}{a:Act}{k:List Item}{cs:List Frame}{w:World}{c:Code}:step P (lone (b.atR a (.inScope c::k)) cs w)=.next (lone (b.atR a k) cs w):=
 step_lone_go (by simp[stepG,stepG.exec,Frame.atR])
def QjY (P:Program)(n:Nat)(c:Code)(Q:Ex->Env->Qa->Prop)(A:Env)(H:Qa):Prop:=
 ∀z ρ w a,Sim P ρ H w->Qeg z ρ H w n A a->∀ (b:Frame) (k:List Item) (cs:List Frame),b.roundOf=(fen z).round->(fen z).fn b.fn->(fen z).room (cs.length+1+0)->
  ∃e a' w',Qo7 P n z ρ H w Q e a' w'∧ArrivesIn (Machine.fenced P (fen z)) P (lone (b.atR a (.code c::.inLoop c::k)) cs w) b k cs e a' w'
theorem Qqe {c:Code}(h:QjY P n c Q A H):AWp P n (.loop c) Q A H:=λz ρ w a hs he b k cs hro hb hrm=>by
 obtain⟨e,a',w',hl,harr⟩:=h z ρ w a hs he b k cs hro hb hrm;exact⟨e,a',w',hl,.of_steps (.one (fenced_calm hb hrm rfl) stepR_loop) harr⟩
theorem Qgr {c:Code}(h:AWp P n c (QGD (QjY P n c Q) Q) A H):QjY P n c Q A H:=λz ρ w a hs he b k cs hro hb hrm=>by
 obtain⟨e,a2,w2,hl,harr⟩:=h z ρ w a hs he b (.inLoop c::k) cs hro hb hrm;obtain⟨e',ρ2,A2,H2,hq,hst2,hs2,he2,hr⟩:=hl;cases e'<;>cases e<;>simp only[Qp4]at hr
 case normal.normal=>
  obtain⟨e3,a3,w3,hl3,harr3⟩:=hq z ρ2 w2 a2 hs2 he2 b k cs hro hb hrm;exact⟨e3,a3,w3,Qo7.weaken hst2 hl3,.of_steps (Fs harr (.one (fenced_calm hb hrm rfl) stepR_inLoop)) harr3⟩
 all_goals exact⟨_,a2,w2,⟨_,ρ2,A2,H2,hq,hst2,hs2,he2,by first | trivial | exact hr⟩,.pass (x:=.inLoop c) rfl (λ_ _=>.inl (by simp)) harr⟩
def Qfc (P:Program)(n:Nat)(body c:Code)(Q:Ex->Env->Qa->Prop)(A:Env)(H:Qa):Prop:=
 ∀z ρ w a,Sim P ρ H w->Qeg z ρ H w n A a->∀ (b:Frame) (k:List Item) (cs:List Frame),b.roundOf=(fen z).round->(fen z).fn b.fn->(fen z).room (cs.length+1+0)->
  ∃e a' w',Qo7 P n z ρ H w Q e a' w'∧ArrivesIn (Machine.fenced P (fen z)) P (lone (b.atR a (.code c::.inScope body::k)) cs w) b k cs e a' w'
theorem QhK {c:Code}(h:Qfc P n c c Q A H):AWp P n (.scope c) Q A H:=λz ρ w a hs he b k cs hro hb hrm=>by
 obtain⟨e,a',w',hl,harr⟩:=h z ρ w a hs he b k cs hro hb hrm;exact⟨e,a',w',hl,.of_steps (.one (fenced_calm hb hrm rfl) QCG) harr⟩
def QBn (P:Program)(n:Nat)(body:Code)(Q:Ex->Env->Qa->Prop):Ex->Env->Qa->Prop
 | .goto l,A,H=>match findLabel body l with
  | some rest=>Qfc P n body rest Q A H
  | none=>Q (.goto l) A H
 | e,A,H=>Q e A H
theorem VM {body c:Code}(h:AWp P n c (QBn P n body Q) A H):Qfc P n body c Q A H:=λz ρ w a hs he b k cs hro hb hrm=>by
 obtain⟨e,a2,w2,hl,harr⟩:=h z ρ w a hs he b (.inScope body::k) cs hro hb hrm;obtain⟨e',ρ2,A2,H2,hq,hst2,hs2,he2,hr⟩:=hl;cases e'<;>cases e<;>simp only[Qp4]at hr
 case normal.normal=>exact⟨.normal,a2,w2,⟨.normal,ρ2,A2,H2,hq,hst2,hs2,he2,trivial⟩,Fs harr (.one (fenced_calm hb hrm rfl) QyG)⟩
 case exit.exit i j=>
  subst hr;exact⟨.exit i,a2,w2,⟨.exit i,ρ2,A2,H2,hq,hst2,hs2,he2,rfl⟩,λk' hk=>harr.1 k' (by simp[exitTo,hk]),λhh hk=>harr.2 hh (by simp[exitTo,hk])⟩
 case goto.goto i j=>
  subst hr;simp only[QBn]at hq;cases hf:findLabel body i with
  | none=>
   rw[hf]at hq;exact⟨.goto i,a2,w2,⟨.goto i,ρ2,A2,H2,hq,hst2,hs2,he2,rfl⟩,λk' hk=>harr.1 k' (by simp[gotoIn,hf,hk]),λhh hk=>harr.2 hh (by simp[gotoIn,hf,hk])⟩
  | some rest=>
   rw[hf]at hq;obtain⟨e3,a3,w3,hl3,harr3⟩:=hq z ρ2 w2 a2 hs2 he2 b k cs hro hb hrm;exact⟨e3,a3,w3,Qo7.weaken hst2 hl3,.of_steps (harr.1 _ (by simp[gotoIn,hf])) harr3⟩
 case ret.ret=>exact⟨.ret,a2,w2,⟨.ret,ρ2,A2,H2,hq,hst2,hs2,he2,trivial⟩,harr⟩
 case panic.panic v ch=>exact⟨.panic ch,a2,w2,⟨.panic v,ρ2,A2,H2,hq,hst2,hs2,he2,hr⟩,harr⟩
end
def Qqf (A:Env)(ps:List Nat)(vs:List Value):Env:=(ps.zip vs).foldl (λA p=>upd A p.1 p.2) A
theorem Quf {ρ:Ren}{n:Nat}:∀ (ps:List Nat) (A:Env) (tmps:Array Value) (vs vs':List Value),VL ρ vs vs'->tmps.size=n->(∀t,t<n->V ρ (A t) (tmps.getD t undef))->
  ((ps.zip vs').foldl (λt (p:Nat×Value)=>t.setIfInBounds p.1 p.2) tmps).size=n∧∀t,t<n->V ρ (Qqf A ps vs t) (((ps.zip vs').foldl (λt (p:Nat×Value)=>t.setIfInBounds p.1 p.2) tmps).getD t undef)
 | [],A,tmps,vs,vs',hv,hn,h=>⟨hn,h⟩
 | p::ps,A,tmps,[],vs',hv,hn,h=>by obtain rfl:=hv.unnil;exact⟨hn,h⟩
 | p::ps,A,tmps,v::vs,l,hv,hn,h=>by
  obtain⟨v',vs',rfl,h1,h2⟩:=hv.uncons;refine Quf ps (upd A p v) (tmps.setIfInBounds p v') vs vs' h2 (by simpa using hn) (λt ht=>?_)
  by_cases e:t=p
  ·subst e;rw[QjQ,N0,RC (by omega)];exact h1
  ·rw[QhE A v e,N0,Bn (by omega),<- N0];exact h t ht
section
variable {P:Program} {n:Nat} {Q:Ex->Env->Qa->Prop} {A:Env} {H:Qa}
theorem St.putBoth {ρ ρ':Ren}{H':Qa}{w w':World}{b:Nat}{o:Obj}(h:St ρ H w ρ' H' w')(hb:b<w.heap.size):St ρ H (w.putObj b o) ρ' H' (w'.putObj b o) where
 mono:=h.mono
 next:=h.next
 dead:=h.dead
 ro:=h.ro
 fresh:=λid i h1 h2=>by simpa using h.fresh id i h1 h2
 os:=h.os
 tape:=h.tape
 output:=h.output
 size:=by simpa using h.size
 frame:=λk hk hn=>by
  by_cases e:k=b
  ·subst e;rw[World.putObj_heap_same (N5 hb h.size),World.putObj_heap_same hb]
  ·rw[World.putObj_heap_other e,World.putObj_heap_other e];exact h.frame k (by simpa using hk) hn
theorem QhL {w:World}(o:Obj)(k:Nat)(hk:k<w.heap.size):(w.alloc o).heap[k]? = w.heap[k]? := by
 show(w.heap.push o)[k]? = _;rw[Array.getElem?_push,Le (by omega)]
theorem GE.kill (H:Qa)(l:Nat):GE (H.kill l) H:=⟨Lb _,λid b hb=>by
 rw[WS]at hb;split at hb
 ·cases hb
 ·exact hb⟩
def QrO (l:Nat)(L:Option Code->Blk)(v:Value)(H':Qa):Ex->Env->Qa->Prop
 | .normal,_,H1=>v=.bool true∧GE H' (H1.set l (L none))
 | .ret,_,H1=>v=.bool false∧GE H' (H1.set l (L (some .ret)))
 | .exit id,_,H1=>v=.bool false∧GE H' (H1.set l (L (some (.exit id))))
 | .goto t,_,H1=>v=.bool false∧GE H' (H1.set l (L (some (.goto t))))
 | .panic _,_,_=>False
def Qug (P:Program)(l:Nat)(args:List Value)(H:Qa)(v:Value)(H':Qa):Prop:=
 ∀ρ w args' i,Sim P ρ H w->VL ρ args args'->ρ l=some i->∃fn tmps as bd,(Instr.yield i.at_.block args'.toArray).run P w=.ok (.round i.at_.block fn tmps as bd) w∧
  ∀z m,RoundIn (fen z) m P i.at_.block fn tmps as bd w λe w'=>∃ρ',QCA ρ' (.ret v) e∧St ρ H w ρ' H' w'∧Sim P ρ' H' w'
theorem QwM {z:Rd}{c:Code}{Q:Exit->Act->World->Prop}{a:Act}{w:World}{m m':Nat}(h:c.wpIn (fen z) m P Q a w):c.wpIn (fen z) m' P Q a w:=
 λb k cs hro hb hr=>h b k cs hro hb (QCv _ _)
theorem Qqg {l:Nat}{A0:Env}{ps:Array Tmp}{as bd:Code}{args:List Value}{v:Value}{H':Qa}(hl:H.get l=some (.loop A0 n ps as bd none))(hps:args.length=ps.size)
  (h:AWp P n as (QGD (AWp P n bd (QrO l (Blk.loop A0 n ps as bd) v H')) (λ_ _ _=>False)) (Qqf A0 ps.toList args) (H.kill l)):Qug P l args H v H':=by
 intro ρ w args' i hs ha hi;obtain⟨fn,tmps,D,hh,hn,htm⟩:=hs.live l _ i hl hi;obtain⟨rc,hrc⟩:∃rc:Loop,rc={state:=.ready,pending:=none,fn:=fn,tmps:=tmps,params:=ps,assign:=as,body:=bd,defers:=D}:=⟨_,rfl⟩;have hh:w.heap[i.at_.block]? = some (.loop rc):=by rw[hrc];exact hh
 have hy:=run_yield (P:=P) (args:=args'.toArray) hh (by rw[hrc];simp[<- hps,ha.1]);refine⟨_,_,_,_,hy,λz m=>?_⟩;obtain⟨tm,htm'⟩:∃tm,tm=(rc.params.zip args'.toArray).foldl (λtmps x=>tmps.setIfInBounds x.1 x.2) rc.tmps:=⟨_,rfl⟩;have hz:rc.params.zip args'.toArray=(ps.toList.zip args').toArray:=by
  rw[hrc];apply Ru;simp
 have htm2:tm=(ps.toList.zip args').foldl (λt (p:Nat×Value)=>t.setIfInBounds p.1 p.2) tmps:=by
  rw[htm',hz,hrc];simp
 obtain⟨r1,r2⟩:=Quf ps.toList A0 tmps args args' ha hn htm;rw[<- htm2]at r1 r2
 -- the loop's record is hidden
 have hid:Hid ρ (H.kill l) w i.at_.block (.loop rc):=⟨hh,λid j bl hj hb e=>by
  rw[WS]at hb;split at hb
  ·cases hb
  ·rename_i hne;exact hs.sep l id _ bl i j hl hb hi hj rfl (λe=>hne e.symm) e.symm⟩
 have hk:Sim P ρ (H.kill l) w:=hs.less (.kill H l);have hasn:rc.assign=as:=by rw[hrc]
 have hbdy:rc.body=bd:=by rw[hrc]
 rw[hasn,hbdy];show RoundIn (fen z) m P i.at_.block rc.fn ((rc.params.zip args'.toArray).foldl (λtmps x=>tmps.setIfInBounds x.1 x.2) rc.tmps) as bd w _;rw[<- htm'];refine roundIn_of_wpIn (F:=fen z) trivial ?_;have h1:=h ⟨some i.at_.block,0,[]⟩ ρ w {tmps:=tm,defers:=[]} hk ⟨⟨r1,r2⟩,⟨⟨[],rfl,.nil,λd hd=>by simp at hd⟩,λl' hl'=>by cases hl';exact⟨rfl,rc,hid⟩,L7 _⟩⟩;refine FF (F:=fen ⟨some i.at_.block,0,[]⟩) (QwM h1) ?_;rintro e a1 w1 ⟨e',ρ1,A1,H1,hq,hst,hs1,he1,hr⟩;cases e'<;>cases e<;>simp only[Qp4]at hr
 case normal.normal=>
  have hid1:=hid.step hst;refine⟨_,run_beginRound hid1.at_ (by rw[hrc]),?_⟩;obtain⟨bz,hbz⟩:∃bz:Loop,bz={rc with state:=.busy}:=⟨_,rfl⟩;rw[<- hbz];have hs2:Sim P ρ1 H1 (w1.putObj i.at_.block (.loop bz)):=hs1.putHid hid1;have hid2:Hid ρ1 H1 (w1.putObj i.at_.block (.loop bz)) i.at_.block (.loop bz):=hid1.same;have h2:=hq ⟨some i.at_.block,0,[]⟩ ρ1 _ a1 hs2 ⟨he1.toEnvRel,⟨⟨[],(he1.fr.round _ rfl).1,.nil,λd hd=>by simp at hd⟩,λl' hl'=>by cases hl';exact⟨(he1.fr.round _ rfl).1,bz,hid2⟩,L7 _⟩⟩;refine FF (F:=fen ⟨some i.at_.block,0,[]⟩) (QwM h2) ?_;have hst0:St ρ (H.kill l) (w.putObj i.at_.block (.loop bz)) ρ1 H1 (w1.putObj i.at_.block (.loop bz)):=hst.putBoth hid.lt;have fin:∀ (jump:Option Code) (ρ3:Ren) (H3:Qa) (w3:World),St ρ1 H1 (w1.putObj i.at_.block (.loop bz)) ρ3 H3 w3->Sim P ρ3 H3 w3->GE H' (H3.set l (Blk.loop A0 n ps as bd jump))->
    ∃w4,(Instr.endRound i.at_.block jump).run P w3=.ok (.bool jump.isNone) w4∧St ρ H w ρ3 H' w4∧Sim P ρ3 H' w4:=by
   intro jump ρ3 H3 w3 hst3 hs3 hless;have hid3:=hid2.step hst3;have hst1:=hst0.trans hst3;obtain⟨en,hen⟩:∃en:Loop,en={bz with state:=if jump.isNone then .ready else .done,pending:=jump}:=⟨_,rfl⟩;refine⟨w3.putObj i.at_.block (.loop en),by rw[hen];exact run_endRound jump hid3.at_,?_,?_⟩
   ·refine St.less ?_ hless;have hkg:∀id b,(H.kill l).get id=some b->H.get id=some b:=λid b hb=>by
     rw[WS]at hb;split at hb
     ·cases hb
     ·exact hb
    refine⟨hst1.mono,hst1.next,λid j hj hg=>?_,λid j b b' hj hg hro hb'=>?_,λid j hj hn'=>?_,hst1.os,hst1.tape,hst1.output,by have:=hst1.size;simpa using this,λk hk hun=>?_⟩
    ·have hne:id≠l:=λe=>by rw[e,hl]at hg;cases hg
     rw[Qq,Le hne];exact hst1.dead id j hj (by rw[WS,Le hne];exact hg)
    ·have hne:id≠l:=λe=>by rw[e,hl]at hg;cases hg;cases hro
     rw[Qq,Le hne]at hb';exact hst1.ro id j b b' hj (by rw[WS,Le hne];exact hg) hro hb'
    ·obtain⟨f1,f2⟩:=hst1.fresh id j hj hn';refine⟨f1,?_⟩;rcases f2 with f2 | ⟨id0,i0,b0,e1,e2,e3,e4⟩
     ·left;simpa using f2
     ·right;exact⟨id0,i0,b0,e1,e2,hkg _ _ e3,e4⟩
    ·have hne:k≠i.at_.block:=λe=>hun l i _ hi hl rfl e.symm;rw[World.putObj_heap_other hne,hst1.frame k (by simpa using hk) (λid j bl h1 h2 h3=>hun id j bl h1 (hkg _ _ h2) h3),World.putObj_heap_other hne]
   ·refine Sim.less ?_ hless;have hs4:Sim P ρ3 H3 (w3.putObj i.at_.block (.loop en)):=hs3.putHid hid3;have hi3:ρ3 l=some i:=hst1.mono _ _ hi;refine⟨hs4.dom,λid b j hb hj=>?_,λid1 id2 b1 b2 i1 i2 g1 g2 j1 j2 hro hne=>?_,hs4.glob⟩
    ·rw[Qq]at hb;split at hb
     ·rename_i e;subst e;cases hb;rw[hi3]at hj;cases hj;refine⟨fn,tmps,D,?_,hn,λt ht=>(htm t ht).mono hst1.mono⟩;rw[World.putObj_heap_same hid3.lt,hen,hbz,hrc]
     ·exact hs4.live id b j hb hj
    ·rw[Qq]at g1 g2;split at g1
     ·rename_i e1;rw[Le (λe2=>hne (e1.trans e2.symm))]at g2;rw[e1,hi3]at j1;cases j1;exact λe=>hid3.un id2 i2 b2 j2 g2 e.symm
     ·split at g2
      ·rename_i e1 e2;rw[e2,hi3]at j2;cases j2;exact hid3.un id1 i1 b1 j1 g1
      ·exact hs4.sep id1 id2 b1 b2 i1 i2 g1 g2 j1 j2 hro hne
  rintro e a3 w3 ⟨e',ρ3,A3,H3,hq3,hst3,hs3,he3,hr3⟩;cases e'<;>cases e<;>simp only[Qp4]at hr3<;>simp only[QrO]at hq3
  case normal.normal=>
   obtain⟨rfl,hless⟩:=hq3;obtain⟨w4,q1,q2,q3⟩:=fin none ρ3 H3 w3 hst3 hs3 hless;exact⟨_,w4,q1,ρ3,.same _ rfl,q2,q3⟩
  case ret.ret=>
   obtain⟨rfl,hless⟩:=hq3;obtain⟨w4,q1,q2,q3⟩:=fin (some .ret) ρ3 H3 w3 hst3 hs3 hless;exact⟨_,w4,q1,ρ3,.same _ rfl,q2,q3⟩
  case exit.exit a b=>
   subst hr3;obtain⟨rfl,hless⟩:=hq3;obtain⟨w4,q1,q2,q3⟩:=fin (some (.exit a)) ρ3 H3 w3 hst3 hs3 hless;exact⟨_,w4,q1,ρ3,.same _ rfl,q2,q3⟩
  case goto.goto a b=>
   subst hr3;obtain⟨rfl,hless⟩:=hq3;obtain⟨w4,q1,q2,q3⟩:=fin (some (.goto a)) ρ3 H3 w3 hst3 hs3 hless;exact⟨_,w4,q1,ρ3,.same _ rfl,q2,q3⟩
 all_goals exact hq.elim
theorem V.yield_inv {ρ:Ren}{l:Nat}{z:Value}(h:V ρ (.func (.yield l) #[] #[]) z):∃i,ρ l=some i∧z=.func (.yield i.at_.block) #[] #[]:=by
 cases h with
 | same _ hp=>simp[plain]at hp
 | func fn xs ys xs' ys' hn h1 h2 h3 h4=>simp[QdZ]at hn
 | yield l i h=>exact⟨i,h,rfl⟩
theorem QwN {d:Option Nat}{ty:TypeId}{pos:String}{af:Array Edge}{g:Option (Nat×Bool)}{c:Operand}{args:Array Operand}{ts:Array TypeId}{l:Nat}{v:Value}{H':Qa}(ec:ev A c=.func (.yield l) #[] #[])
  (hd:Qug P l (args.map (ev A)).toList H v H'):QC P ⟨d,.call ⟨.value c,args,ts⟩,ty,pos,af,g⟩ A H v H':=by
 intro ρ w a hs he K Q hk z;have hv:=he c (by simp[Op.operands,Call.operands]);rw[ec]at hv;obtain⟨i,hi,e⟩:=hv.yield_inv;obtain⟨fn,tmps,as,bd,hy,hr⟩:=hd ρ w (args.map a.eval).toList i hs (Qua (λx hx=>he x (by simp[Op.operands,Call.operands,hx]))) hi;have hrun:(execOp a.eval ⟨d,.call ⟨.value c,args,ts⟩,ty,pos,af,g⟩).run P w=.ok (.round i.at_.block fn tmps as bd) w:=by
  rw[<- hy];simp only[execOp,resolve,e,Deferred.ofValue,invoke,pure_bind];congr 2;apply Ru;simp
 refine⟨λ_ _=>trivial,?_⟩;rw[QjR hrun (by simp) _];refine⟨λh=>by simp[fen,Fence.wide]at h,?_⟩;refine(hr z _).mono ?_;rintro e w' ⟨ρ',ho,hst,hs'⟩;cases e with
 | returned v'=>exact hk v' ρ' w' ho hst hs'
 | panicked ch=>exact ho.elim
 | outgrown=>exact ho.elim
def QCH (Q:Ex->Env->Qa->Prop)(A:Env)(H:Qa):Option Code->Prop
 | none=>Q .normal A H
 | some .ret=>Q .ret A H
 | some (.exit id)=>Q (.exit id) A H
 | some (.goto l)=>Q (.goto l) A H
 | _=>False
theorem QlV {g:Operand}{ps:Array Tmp}{as bd:Code}{gf:FuncId}{xs ys:Array Value}{v:Value}{H2:Qa}{st:Option Code}(hok:Qe9 P n g=true)(hg:ev A g=.func (.func gf) xs ys)(hen:entered P gf=true)
  (hd:GQ P gf (xs.toList++[.func (.yield H.next) #[] #[]]++ys.toList) (H.push (.loop A n ps as bd none)) v H2) {A':Env} {n':Nat} {ps':Array Tmp} {as' bd':Code} (hl:H2.get H.next=some (.loop A' n' ps' as' bd' st)) (hq:QCH Q A (H2.kill H.next) st):
  AWp P n (.rangeFunc g ps as bd) Q A H:=by
 intro z ρ w a hs he;have hgv:=he.eval hs hok;rw[hg]at hgv;obtain⟨xs',ys',eg,hx,hy⟩:=hgv.func_inv;refine wpIn_rangeFunc λfn _=>?_
 -- what is laid
 obtain⟨lr,mk,w1,D,hrun,hw1,hlr,hsz,hold,hD⟩:∃lr mk w1 D,(Instr.enterLoop fn a.tmps ps as bd (fen z).round).run P w=.ok (lr,mk) w1∧
   w1.heap[lr]? = some (.loop {state:=.ready,pending:=none,fn:=fn,tmps:=a.tmps,params:=ps,assign:=as,body:=bd,defers:=D})∧w.heap.size<=lr∧(w.heap.size<=w1.heap.size∧w1.os=w.os∧w1.tape=w.tape∧w1.output=w.output)∧(∀k,k<w.heap.size->w1.heap[k]? = w.heap[k]?)∧
   ((mk=[]∧a.defers=[])∨(z.r=none∧mk=[Qwx w.heap.size]∧w1.heap[w.heap.size]? = some (.deferred (some []))∧lr≠w.heap.size)):=by
  cases hz:z.r with
  | none=>
   refine⟨w.heap.size+1,[Qwx w.heap.size],(w.alloc (.deferred (some []))).alloc (.loop {state:=.ready,pending:=none,fn:=fn,tmps:=a.tmps,params:=ps,assign:=as,body:=bd,defers:=w.heap.size}),w.heap.size,by rw[show(fen z).round=none from hz];exact run_enterLoop_outer _ _ _ _ _,?_,by omega,⟨by simp;omega,rfl,rfl,rfl⟩,λk hk=>?_,.inr ⟨rfl,rfl,?_,by omega⟩⟩
   ·have:=World.alloc_heap_new (w.alloc (.deferred (some []))) (.loop {state:=.ready,pending:=none,fn:=fn,tmps:=a.tmps,params:=ps,assign:=as,body:=bd,defers:=w.heap.size});rwa [World.size_alloc]at this
   ·exact(QhL _ _ (by simp;omega)).trans (QhL _ _ hk)
   ·exact(QhL _ _ (by simp)).trans (World.alloc_heap_new w _)
  | some l0=>
   obtain⟨hd0,rc,hrc⟩:=he.fr.round l0 hz;refine⟨w.heap.size,[],w.alloc (.loop {state:=.ready,pending:=none,fn:=fn,tmps:=a.tmps,params:=ps,assign:=as,body:=bd,defers:=rc.defers}),rc.defers,by rw[show(fen z).round=some l0 from hz];exact run_enterLoop_inner hrc.at_ _ _ _ _ _,?_,Lb _,⟨by simp,rfl,rfl,rfl⟩,λk hk=>QhL _ _ hk,.inl ⟨rfl,hd0⟩⟩;exact World.alloc_heap_new w _
 obtain⟨hsz,hos,htp,hou⟩:=hsz;have hlr1:lr<w1.heap.size:=(Nj.1 hw1).1
 -- the loop's record is a block
 have hfreshid:ρ H.next=none:=by
  cases hr:ρ H.next with
  | none=>rfl
  | some i=>have:=hs.dom _ i hr;omega
 have hsub:Sub ρ (ext ρ H.next ⟨⟨lr,0,none⟩,0,0⟩):=λid i hi=>by
  have:id≠H.next:=λe=>by rw[e,hfreshid]at hi;cases hi
  rw[Jg _ _ this];exact hi
 obtain⟨ρ1,hρ1⟩:∃ρ1,ρ1=ext ρ H.next ⟨⟨lr,0,none⟩,0,0⟩:=⟨_,rfl⟩;rw[<- hρ1]at hsub;have hthis:ρ1 H.next=some ⟨⟨lr,0,none⟩,0,0⟩:=by rw[hρ1];exact W9 _ _ _
 have hother:∀id,id≠H.next->ρ1 id=ρ id:=λid h=>by rw[hρ1];exact Jg _ _ h
 have hs1:Sim P ρ1 (H.push (.loop A n ps as bd none)) w1:=by
  refine⟨λid i hi=>?_,λid b i hb hi=>?_,λid1 id2 b1 b2 i1 i2 g1 g2 j1 j2 hro hne=>?_,λk hk=>?_⟩
  ·simp only[Qc]
   by_cases e:id=H.next
   ·omega
   ·rw[hother id e]at hi;have:=hs.dom id i hi;omega
  ·rw[Qd]at hb;split at hb
   ·rename_i e;subst e;cases hb;rw[hthis]at hi;cases hi;exact⟨fn,a.tmps,D,hw1,he.size,λt ht=>(he.tmps t ht).mono hsub⟩
   ·rename_i e;rw[hother id e]at hi;have:=hs.live id b i hb hi;exact this.mono hsub (hold _ this.lt)
  ·rw[Qd]at g1 g2;split at g1
   ·rename_i e1;rw[Le (λe2=>hne (e1.trans e2.symm))]at g2;rw[e1,hthis]at j1;cases j1;rw[hother id2 (λe2=>hne (e1.trans e2.symm))]at j2;have:=(hs.live id2 b2 i2 g2 j2).lt;simp only;omega
   ·rename_i e1;rw[hother id1 e1]at j1;split at g2
    ·rename_i e2;rw[e2,hthis]at j2;cases j2;have:=(hs.live id1 b1 i1 g1 j1).lt;simp only;omega
    ·rename_i e2;rw[hother id2 e2]at j2;exact hs.sep id1 id2 b1 b2 i1 i2 g1 g2 j1 j2 hro hne
  ·obtain⟨i,hi,e⟩:=hs.glob k hk;exact⟨i,hsub _ _ hi,e⟩
 have hst1:St ρ H w ρ1 (H.push (.loop A n ps as bd none)) w1:=by
  refine⟨hsub,by simp,λid i hi hg=>?_,λid i b b' hi hg hro hb'=>?_,λid i hi hn=>?_,hos,htp,hou,hsz,λk hk _=>hold k hk⟩
  ·rw[Qd,Le (by have:=hs.dom id i hi;omega)];exact hg
  ·rw[Qd,Le (by have:=hs.dom id i hi;omega),hg]at hb';cases hb';exact hro
  ·by_cases e:id=H.next
   ·rw[e,hthis]at hi;cases hi;exact⟨by omega,.inl hlr⟩
   ·rw[hother id e,hn]at hi;cases hi
 refine⟨lr,mk,w1,{target:=.fn (.func gf) ys',args:=xs'++#[.func (.yield lr) #[] #[]]},w1,gf,xs'++#[.func (.yield lr) #[] #[]]++ys',w1,hrun,?_,λ_ _=>trivial,?_,λh=>by simp[fen,Fence.wide]at h,?_⟩
 ·simp only[resolve,eg];simp[go_sem,Deferred.ofValue]
 ·simp[invoke,go_sem,Qd0 hen]
 ·have hargs:VL ρ1 (xs.toList++[.func (.yield H.next) #[] #[]]++ys.toList) (xs'.toList++[.func (.yield lr) #[] #[]]++ys'.toList):=
   ((hx.mono hsub).append (.cons (.yield _ _ hthis) (.nil _))).append (hy.mono hsub)
  rcases hd with⟨_,hd⟩ | hz
  rotate_left
  ·obtain⟨_,_,_,e,_⟩:=hz ρ1 w1 _ hs1 hargs;rw[Qd0 hen]at e;cases e
  have hcall:=hd ρ1 w1 _ hs1 hargs;rw[show(xs'.toList++[Value.func (.yield lr) #[] #[]]++ys'.toList).toArray=xs'++#[.func (.yield lr) #[] #[]]++ys' by apply Ru;simp]at hcall;refine Qqb (hcall.mono ?_);rintro e w3 ⟨ρ3,ho,hst3,hs3⟩;cases e with
  | panicked ch=>exact ho.elim
  | outgrown=>exact ho.elim
  | returned v'=>
   have hi3:ρ3 H.next=some ⟨⟨lr,0,none⟩,0,0⟩:=hst3.mono _ _ hthis;obtain⟨fn',tm',D',hh3,_⟩:=hs3.live _ _ _ hl hi3;simp only at hh3;obtain⟨rc,hrc⟩:∃rc:Loop,rc={state:=if st.isNone then .ready else .done,pending:=st,fn:=fn',tmps:=tm',params:=ps',assign:=as',body:=bd',defers:=D'}:=⟨_,rfl⟩;rw[<- hrc]at hh3;have hbusy:rc.state≠.busy:=by rw[hrc];cases st<;>simp
   have hpend:rc.pending=st:=by rw[hrc]
   have hid3:Hid ρ3 (H2.kill H.next) w3 lr (.loop rc):=⟨hh3,λid j bl hj hb e=>by
    rw[WS]at hb;split at hb
    ·cases hb
    ·rename_i hne;exact hs3.sep H.next id _ bl _ j hl hb hi3 hj rfl (λe=>hne e.symm) e.symm⟩
   have hst4:St ρ H w ρ3 (H2.kill H.next) (w3.putObj lr (.loop {rc with state:=.exhausted})):=((hst1.trans hst3).less (.kill H2 _)).putHid hlr;have hs4:Sim P ρ3 (H2.kill H.next) (w3.putObj lr (.loop {rc with state:=.exhausted})):=(hs3.less (.kill H2 _)).putHid hid3;have he4:Qeg z ρ3 (H2.kill H.next) (w3.putObj lr (.loop {rc with state:=.exhausted})) n A {a with defers:=mk++a.defers}:=by
    refine⟨⟨he.size,λt ht=>(he.tmps t ht).mono (hsub.trans hst3.mono)⟩,?_⟩;have f4:Fr z ρ3 (H2.kill H.next) (w3.putObj lr (.loop {rc with state:=.exhausted})) a:=he.fr.step hst4 rfl;rcases hD with⟨rfl,_⟩ | ⟨hz,rfl,hDat,hDne⟩
    ·exact f4
    ·obtain⟨ds,q1,q2,q3⟩:=f4.marks;refine⟨⟨w.heap.size::ds,by rw[q1];rfl,FR.2 ⟨λhm=>?_,q2⟩,λd hd=>?_⟩,λl hl=>(by rw[hz]at hl;cases hl),f4.base⟩
     ·obtain⟨ds0,p1,p2,p3⟩:=he.fr.marks;have:ds0=ds:=by
       have:=p1.symm.trans q1;exact(List.map_inj_right (λx y h=>by simpa[Qwx] using h)).1 (List.append_cancel_right this)
      subst this;have:=(p3 _ hm).2.lt;omega
     ·rcases LK.1 hd with rfl | hd
      ·have hD1:Hid ρ1 (H.push (.loop A n ps as bd none)) w1 w.heap.size (.deferred (some [])):=⟨hDat,λid j bl hj hb=>by
        by_cases e:id=H.next
        ·rw[e,hthis]at hj;cases hj;exact hDne
        ·rw[hother id e]at hj;rw[Qd,Le e]at hb;have:=(hs.live id bl j hb hj).lt;omega⟩
       have hD3:=hD1.step hst3;refine⟨he.fr.base,?_⟩;have hD3':Hid ρ3 (H2.kill H.next) w3 w.heap.size (.deferred (some [])):=⟨hD3.at_,λid j bl hj hb=>hD3.un id j bl hj ((GE.kill H2 _).get _ _ hb)⟩;exact hD3'.put (λe=>hDne e.symm)
      ·exact q3 d hd
   refine⟨st,w3.putObj lr (.loop {rc with state:=.exhausted}),(run_endLoop (P:=P) hh3 hbusy).trans (by rw[hpend]),?_⟩;cases st with
   | none=>exact⟨.normal,ρ3,A,_,hq,hst4,hs4,he4,trivial⟩
   | some c=>
    cases c<;>simp only[QCH]at hq
    case ret=>exact wpIn_ret ⟨.ret,ρ3,A,_,hq,hst4,hs4,he4,trivial⟩
    case exit id=>exact wpIn_exit ⟨.exit id,ρ3,A,_,hq,hst4,hs4,he4,rfl⟩
    case goto id=>exact wpIn_goto ⟨.goto id,ρ3,A,_,hq,hst4,hs4,he4,rfl⟩
end
section
variable {P:Program} {n:Nat} {A:Env} {H:Qa} {d:Option Nat} {ty:TypeId} {pos:String} {af:Array Edge} {g:Option (Nat×Bool)}
theorem Sim.place {ρ:Ren}{w:World}(hs:Sim P ρ H w){id off:Nat}{z:Value}{c:List Value}{e:TypeId}(hv:V ρ (.pointer (some ⟨id,off,none⟩)) z)(hg:H.get id=some (.cells c e false)):
  ∃i cur fz,ρ id=some i∧i.at_=⟨i.at_.block,0,none⟩∧z=.pointer (some ⟨i.at_.block,off,none⟩)∧w.heap[i.at_.block]? = some (.cells cur e fz)∧c.length<=cur.size∧(∀ (j:Nat) v,c[j]? = some v->∃v',cur[j]? = some v'∧V ρ v v'):=by
 obtain⟨i,hi,_,e1⟩:=hv.ptr_inv;obtain⟨cur,fz,hh,⟨h1,h2⟩,h3,h4,h5,_⟩:=hs.live id _ i hg hi;have ha:i.at_=⟨i.at_.block,0,none⟩:=by
  obtain⟨⟨b,o,s⟩,nn,ss⟩:=i;simp only at h1 h2;subst h1;subst h2;rfl
 refine⟨i,cur,fz,hi,ha,?_,hh,by omega,λj v hj=>?_⟩
 ·rw[e1,ha,Qe8];simp
 ·have:=h5 j v hj;rw[h2,LP]at this;exact this
def QhM:List Value->Option (List UInt8)
 | []=>some []
 | .int .u8 m::l=>(QhM l).map (m.toNat.toUInt8::·)
 | _::_=>none
theorem Qqh {ρ:Ren}:∀ (l l':List Value) (bs:List UInt8),VL ρ l l'->QhM l=some bs->∃ns:List Int,l'=ns.map (Value.int .u8)∧bs=ns.map λm=>m.toNat.toUInt8
 | [],l',bs,hv,h=>by cases h;obtain rfl:=hv.unnil;exact⟨[],rfl,rfl⟩
 | v::l,l',bs,hv,h=>by
  obtain⟨v',l1,rfl,h1,h2⟩:=hv.uncons;unfold QhM at h;split at h
  ·rename_i heq;cases heq
  ·rename_i m l0 heq;cases heq;simp only[Lx]at h;obtain⟨bs1,hb,rfl⟩:=h;obtain⟨ns,rfl,rfl⟩:=Qqh l l1 bs1 h2 hb;exact⟨m::ns,by rw[h1.plain_eq rfl];rfl,rfl⟩
  ·cases h
theorem QrP:∀ (ns:List Int) (acc:ByteArray),ns.foldl (λr (m:Int)=>r.push (UInt8.ofNat m.toNat)) acc=⟨acc.data++(ns.map λm=>m.toNat.toUInt8).toArray⟩
 | [],acc=>by simp
 | m::ns,acc=>by
  rw[FQ,QrP ns];apply ByteArray.ext;apply Ru;simp[ByteArray.push,Nat.toUInt8]
def Qcu (size:Nat)(v:Value)(H:Qa):Option (List Value):=
 match v with
 | .slice none 0 _=>some []
 | .slice (some a) len _=>if len=0 then some [] else match H.get a.block with
  | some (.cells c _ _)=>if a.off+len * size<=c.length then some ((c.drop a.off).take (len * size)) else none
  | _=>none
 | _=>none
theorem QCI {src dst e:TypeId}{x:Operand}{l:List Value}{bs:List UInt8}(hsrc:P.underlying src=some (.slice e))(h8:P.underlying e=some (.int .u8))(hdst:P.underlying dst=some .string)
  (hl:Qcu 1 (ev A x) H=some l) (hb:QhM l=some bs):QC P ⟨d,.convert src dst x,ty,pos,af,g⟩ A H (.string (mkS bs)) H:=
 .pure_ λρ w s hs he=>by
  have hv:=he x (by simp[Op.operands]);refine⟨.string (mkS bs),?_,.same _ rfl⟩;simp only[execOp,LW];generalize ev A x=u at hv hl;unfold Qcu at hl;split at hl
  ·rename_i cap;cases hl;cases hb;rw[hv.plain_eq rfl];rw[run_convert_bytes_string w src dst e none 0 cap hsrc h8 hdst];rfl
  ·rename_i a len cap;obtain⟨i,a',cap',g1,g2,g3,g4,g5,g0,g6,g7⟩:=hv.slice_inv;rw[g3,run_convert_bytes_string w src dst e (some a') len cap' hsrc h8 hdst];split at hl
   ·rename_i h0;subst h0;cases hl;cases hb;rw[run_bytesToString w a' 0 cap' [] (by simp[loadCells,loadCellsFrom])];rfl
   ·rename_i h0;split at hl
    ·rename_i c e' ro hg;split at hl
     ·rename_i hle;cases hl;obtain⟨cs,k1,k2,k3⟩:=(hs.live a.block _ i hg g1).cellsAt a.off (len * 1) hle;obtain⟨ns,rfl,rfl⟩:=Qqh _ cs bs k2 hb;have ha:a'=i.at_.add a.off:=by rcases g4 with h | ⟨h,_⟩;exact h;exact absurd h h0
      have hlen:ns.length=len:=by simpa using k1
      have hld:=run_loadCells_list (P:=P) (w:=w) a' (ns.map (Value.int .u8)) (λj v hj=>by rw[ha];exact k3 j v hj);rw[Nn,hlen]at hld;rw[run_bytesToString w a' len cap' ns hld,QrP];simp[mkS]
     ·cases hl
    ·cases hl
  ·cases hl
def QCJ:TypeDesc->Bool
 | .pointer _=>true
 | _=>false
def QnA (P:Program)(t:TypeId)(name:String):Option FuncId:=
 match P.info? t,P.underlying t with
 | some inf,some td=>match inf.methods.find? (·.name==name) with
  | some m=>match m.path.toList,m.func with
   | [],some (f,pr)=>if pr=QCJ td then some f else none
   | _,_=>none
  | none=>none
 | _,_=>none
theorem QyI {t:TypeId}{name:String}{f:FuncId}(h:QnA P t name=some f)(v:Value)(w:World)(fuel:Nat):(method (fuel+1) t v name).run P w=.ok (f,v) w:=by
 unfold QnA at h;split at h
 ·rename_i inf td hi htd;split at h
  ·rename_i m hm;split at h
   ·rename_i f0 pr hp hf;split at h
    ·rename_i hpr;cases h;have hfol:(follow m.path.toList t (.val v)).run P w=.ok (t,.val v) w:=by rw[hp];rfl
     have hrec:∀wr,(receiverAt t (.val v) pr wr).run P w=.ok v w:=λwr=>by
      simp only[receiverAt,LW,LZ htd,Lz];cases td<;>simp only[QCJ]at hpr<;>subst hpr<;>rfl
     simp only[method,typeInfo,LW,DJ,Lz,hi,Nc,hm,hfol,hf,hrec]
    ·cases h
   ·cases h
  ·cases h
 ·cases h
theorem QBo {recv:Operand}{name:String}{args:Array Operand}{ts:Array TypeId}{t:TypeId}{v u:Value}{f:FuncId}{H':Qa}(er:ev A recv=.iface t v)(hm:QnA P t name=some f)(hd:GQ P f (v::(args.map (ev A)).toList) H u H'):
  QC P ⟨d,.call ⟨.invoke recv name,args,ts⟩,ty,pos,af,g⟩ A H u H':=
 Qpc (λρ w a hs he=>by
  have hv:=he recv (by simp[Op.operands,Call.operands]);rw[er]at hv;obtain⟨v',e,h1⟩:=hv.iface_inv;refine⟨v'::(args.map a.eval).toList,.cons h1 (Qua (λx hx=>he x (by simp[Op.operands,Call.operands,hx]))),?_⟩;have hdep:∃k,P.types.size+Made.depth=k+1:=⟨P.types.size+99,rfl⟩;obtain⟨k,hk⟩:=hdep;simp only[execOp,resolve,pure_bind,invoke,e];have h0:(#[Value.iface t v']++Array.map a.eval args)[0]? = some (.iface t v'):=by rw[Array.getElem?_append_left (by simp)];rfl
  have hx:(#[Value.iface t v']++Array.map a.eval args).extract 1 (#[Value.iface t v']++Array.map a.eval args).size=Array.map a.eval args:=by
   apply Ru;simp;exact LF (by simp)
  simp only[h0,hx,callMethod,LW,DJ,Lz,hk,QyI hm];congr 2;apply Ru;simp) hd
end
def Qfd:TypeDesc->Value->Bool
 | .int _,.int _ _=>true
 | .string,.string _=>true
 | .bool,.bool _=>true
 | _,_=>false
def QrQ (d:TypeDesc)(k:Value):List (Value×Value)->Nat->Option (Option (Nat×Value))
 | [],_=>some none
 | (a,b)::l,i=>bif Qfd d a then(match Instr.sameNow d k a with | some true=>some (some (i,b)) | some false=>QrQ d k l (i+1) | none=>none) else none
theorem QcU {d:TypeDesc}{v:Value}(h:Qfd d v=true):plain v=true:=by cases d<;>cases v<;>simp_all [Qfd,plain]
section
variable {P:Program} {n:Nat} {A:Env} {H:Qa} {d:Option Nat} {ty:TypeId} {pos:String} {af:Array Edge} {g:Option (Nat×Bool)}
theorem Qgs {kt:TypeId}{td:TypeDesc}{k:Value}(hd:P.underlying kt=some td)(hk:Qfd td k=true)(e:Bool)(m:Nat)(w:World):(Instr.checkKey e (m+1) kt k).run P w=.ok () w:=by
 unfold Instr.checkKey;simp only[LW,LZ hd,Lz];cases td<;>cases k<;>simp_all [Qfd]
theorem Qgt {ρ:Ren}{td:TypeDesc}{k:Value}:∀ (es:List (Value×Value)) (es':List MapEntry) (i:Nat) (r:Option (Nat×Value)),VL ρ (es.map (·.1)) (es'.map (·.key))->VL ρ (es.map (·.2)) (es'.map (·.val))->QrQ td k es i=some r->
  match r with
  | none=>Instr.findNow td k es' i=some none
  | some (j,v)=>i<=j∧∃v',Instr.findNow td k es' i=some (some (j,v'))∧V ρ v v'∧∃a,es[j - i]? = some (a,v)∧Instr.sameNow td k a=some true∧plain a=true
 | [],es',i,r,h1,h2,h=>by
  cases h;have:es'=[]:=by
   have:=h1.1;simp at this;exact N2.1 this.symm
  subst this;rfl
 | (a,b)::es,es',i,r,h1,h2,h=>by
  cases es' with
  | nil=>have:=h1.1;simp at this
  | cons e es'=>
   simp only[NZ]at h1 h2;obtain⟨x,xs,ex,hx,hxs⟩:=h1.uncons;obtain⟨y,ys,ey,hy,hys⟩:=h2.uncons;cases ex;cases ey;unfold QrQ at h;cases hk:Qfd td a with
   | false=>rw[hk]at h;cases h
   | true=>
    rw[hk]at h;simp only[Lq]at h;have hke:=hx.plain_eq (QcU hk);split at h
    ·rename_i hs;cases h;refine⟨Lb _,e.val,?_,hy,a,by simp,hs,QcU hk⟩;simp only[Instr.findNow,hke,hs]
    ·rename_i hs;have ih:=Qgt es es' (i+1) r hxs hys h;cases r with
     | none=>simp only[Instr.findNow,hke,hs];exact ih
     | some jv=>
      obtain⟨j,v⟩:=jv;obtain⟨q0,v',q1,q2,a1,q3,q4,q5⟩:=ih;refine⟨by omega,v',by simp only[Instr.findNow,hke,hs];exact q1,q2,a1,?_,q4,q5⟩;rw[show j - i=(j - (i+1))+1 by omega];simpa using q3
    ·cases h
theorem QcV {kt:TypeId}{td:TypeDesc}{k:Value}{l:List MapEntry}{r:Option (Nat×Value)}(hd:P.underlying kt=some td)(h:Instr.findNow td k l 0=some r)(w:World):(Instr.findKey kt k l).run P w=.ok r w:=by
 simp only[Instr.findKey,LW,LZ hd,Lz,h,Nc]
theorem QyJ {t:TypeId}:QC P ⟨d,.makeMap t none,ty,pos,af,g⟩ A H (.map (some H.next)) (H.push (.map [])):=
 .of_run λρ w s hs he=>by
  obtain⟨h1,h2⟩:=hs.push (.map #[] 0) (.map []) ⟨⟨w.heap.size,0,none⟩,0,0⟩ rfl ⟨#[],0,by
   show(w.heap.push (Obj.map #[] 0))[w.heap.size]? = _;simp,.nil _,.nil _,rfl,λj e h=>by simp at h⟩
  refine⟨.map (some w.heap.size),_,_,?_,.map H.next _ (W9 _ _ _),h1,h2⟩;simp only[execOp,Fk,Instr.makeMap,LW,FT,Lz,Nc,World.alloc]
def QAp (P:Program)(k e:TypeId)(m ix:Value)(ok:Bool)(H:Qa):Option Value:=
 match P.underlying k,P.info? e with
 | some td,some inf=>match inf.zero with
  | some z=>bif Qfd td ix&&ZB z then
    (match m with
    | .map none=>some (bif ok then .tuple #[z,.bool false] else z)
    | .map (some id)=>(match H.get id with
     | some (.map es)=>(match QrQ td ix es 0 with
      | some none=>some (bif ok then .tuple #[z,.bool false] else z)
      | some (some (_,v))=>some (bif ok then .tuple #[v,.bool true] else v)
      | none=>none)
     | _=>none)
    | _=>none)
   else none
  | none=>none
 | _,_=>none
theorem V.pair {ρ:Ren}{v v':Value}(h:V ρ v v')(b:Bool):V ρ (.tuple #[v,.bool b]) (.tuple #[v',.bool b]):=
 .tuple _ _ rfl (λj x x' h1 h2=>by
  rcases j with _ | _ | j
  ·simp at h1 h2;subst h1;subst h2;exact h
  ·simp at h1 h2;subst h1;subst h2;exact .same _ rfl
  ·simp at h1)
theorem QBp {t k e:TypeId}{x ix:Operand}{ok:Bool}{v:Value}(ht:P.underlying t=some (.map k e))(h:QAp P k e (ev A x) (ev A ix) ok H=some v):QC P ⟨d,.lookup t x ix ok,ty,pos,af,g⟩ A H v H:=
 .pure_ λρ w s hs he=>by
  have hvx:=he x (by simp[Op.operands]);have hvi:=he ix (by simp[Op.operands]);unfold QAp at h;split at h
  ·rename_i td inf hk hi;split at h
   ·rename_i z hz;cases hc:(Qfd td (ev A ix)&&ZB z) with
    | false=>rw[hc]at h;cases h
    | true=>
     rw[hc]at h;simp only[Lq]at h;simp only[Lm]at hc;have hix:=hvi.plain_eq (QcU hc.1);have hzv:V ρ z z:=.closed hc.2;split at h
     ·rename_i em;rw[em]at hvx;have hx:=hvx.plain_eq rfl;cases h;refine⟨bif ok then .tuple #[z,.bool false] else z,?_,by cases ok;exact hzv;exact hzv.pair false⟩;simp only[execOp,Instr.lookup,hx,hix,LW,LZ ht,Lz,Nc,Qgs hk hc.1 _ 9999,QcV hk (l:=[]) (r:=none) rfl,Ke hi hz];cases ok<;>rfl
     ·rename_i id em;rw[em]at hvx;obtain⟨i,hi',ex⟩:=hvx.map_inv;split at h
      ·rename_i es hg;obtain⟨es',clock,hh,v1,v2,hclk,hborn⟩:=hs.live id _ i hg hi';have hget:(getObj i.at_.block).run P w=.ok (.map es' clock) w:=by simp[getObj,Sem.run,hh]
       split at h
       ·rename_i hf;cases h;have:=Qgt es es'.toList 0 none v1 v2 hf;refine⟨bif ok then .tuple #[z,.bool false] else z,?_,by cases ok;exact hzv;exact hzv.pair false⟩;simp only[execOp,Instr.lookup,ex,hix,LW,LZ ht,Lz,Nc,hget,Qgs hk hc.1 _ 9999,QcV hk this,Ke hi hz];cases ok<;>rfl
       ·rename_i j v0 hf;cases h;obtain⟨_,v',q1,q2,_⟩:=Qgt es es'.toList 0 (some (j,v0)) v1 v2 hf;refine⟨bif ok then .tuple #[v',.bool true] else v',?_,by cases ok;exact q2;exact q2.pair true⟩;simp only[execOp,Instr.lookup,ex,hix,LW,LZ ht,Lz,Nc,hget,Qgs hk hc.1 _ 9999,QcV hk q1];cases ok<;>rfl
       ·cases h
      ·cases h
     ·cases h
   ·cases h
  ·cases h
def QwO (P:Program)(k:TypeId)(m ix v:Value)(H:Qa):Option Qa:=
 match P.underlying k,m with
 | some td,.map (some id)=>(match H.get id with
  | some (.map es)=>bif Qfd td ix then(match QrQ td ix es 0 with
    | some none=>some (H.set id (.map (es++[(ix,v)])))
    | some (some (j,_))=>some (H.set id (.map (es.set j (ix,v))))
    | none=>none) else none
  | _=>none)
 | _,_=>none
theorem QCK (a b:ByteArray):(a==b)=(bl a==bl b):=by simp[beq_toListBytes,ByteArray.toList_eq,bl]
theorem QIf {a b:ByteArray}(h:(a==b)=true):b=a:=by
 rw[QCK]at h;have h:bl a=bl b:=by simpa using h
 rw[<- QrB a,<- QrB b,h]
theorem QyK {td:TypeDesc}{k a:Value}(h:Instr.sameNow td k a=some true):a=k:=by
 cases td<;>cases k<;>cases a<;>simp_all [Instr.sameNow];exact QIf h
theorem QAq {t k e:TypeId}{m ix v m' ix' v':Value}{ρ:Ren}{w:World}{H':Qa}(hs:Sim P ρ H w)(ht:P.underlying t=some (.map k e))(hm:V ρ m m')(hix:V ρ ix ix')(hv:V ρ v v')(h:QwO P k m ix v H=some H'):
  ∃w',(Instr.mapUpdate t m' ix' v').run P w=.ok () w'∧St ρ H w ρ H' w'∧Sim P ρ H' w':=by
 unfold QwO at h;split at h
 ·rename_i td id hk;split at h
  ·rename_i es hg;cases hc:Qfd td ix with
   | false=>rw[hc]at h;cases h
   | true=>
    rw[hc]at h;simp only[Lq]at h;have hixe:=hix.plain_eq (QcU hc);obtain⟨i,hi',ex⟩:=hm.map_inv;obtain⟨es',clock,hh,v1,v2,hclk,hborn⟩:=hs.live id _ i hg hi';have hlt:i.at_.block<w.heap.size:=(Nj.1 hh).1;have hget:(getObj i.at_.block).run P w=.ok (.map es' clock) w:=by simp[getObj,Sem.run,hh]
    have hset:∀o,(setObj i.at_.block o).run P w=.ok () {w with heap:=w.heap.setIfInBounds i.at_.block o}:=λo=>by simp[setObj,Sem.run,hh]
    have hone:∀o,Qcq w {w with heap:=w.heap.setIfInBounds i.at_.block o} i.at_.block:=λo=>⟨λk hk=>by simp[Bn (Ne.symm hk)],by simp,rfl,rfl,rfl⟩;split at h
    ·rename_i hf;cases h;have:=Qgt es es'.toList 0 none v1 v2 hf;obtain⟨q1,q2⟩:=hs.setBlk (b':=.map (es++[(ix,v)])) hi' hg rfl (hone (.map (es'.push {key:=ix,val:=v',born:=clock}) (clock+1)))
      ⟨es'.push {key:=ix,val:=v',born:=clock},clock+1,by simp[hlt],by simpa using v1.append (.cons (.same ix (QcU hc)) (.nil ρ)),by simpa using v2.append (.cons hv (.nil ρ)),by simp[hclk],λj e he=>by
       rw[Array.getElem?_push]at he;split at he
       ·rename_i hj;cases he;show clock=j;rw[hclk,hj]
       ·exact hborn j e he⟩
     refine⟨_,?_,q1,q2⟩;simp only[Instr.mapUpdate,ex,hixe,LW,LZ ht,Lz,hget,Qgs hk hc _ 9999,QcV hk this,hset]
    ·rename_i j v0 hf;cases h;obtain⟨_,v1',p1,p2,a,p3,p4,p5⟩:=Qgt es es'.toList 0 (some (j,v0)) v1 v2 hf;have ea:=QyK p4;subst ea;have hj:j<es.length:=(Lk.1 p3).1;obtain⟨kk,r1,r2⟩:=v1.get (j:=j) (x:=a) (by rw[LD];simp only[Nat.sub_zero]at p3;rw[p3];rfl);have r3:=r2.plain_eq p5;rw[LD]at r1;have hkey:((es'[j]?).map (·.key)).getD a=a:=by
      rw[<- Bl];rw[r1,r3];rfl
     have hst:(Instr.keyThatStays a a).run P w=.ok a w:=by
      have:Instr.sameBits 10000 a a=true:=by
       cases td<;>cases a<;>simp_all [Qfd,Instr.sameBits];rw[QCK];simp
      simp only[Instr.keyThatStays,this,N3,Nc]
     have hmod:(es'.modify j λe=>{e with key:=a,val:=v'}).toList=es'.toList.modify j (λe=>{e with key:=a,val:=v'}):=by simp
     obtain⟨q1,q2⟩:=hs.setBlk (b':=.map (es.set j (a,v))) hi' hg rfl (hone (.map (es'.modify j λe=>{e with key:=a,val:=v'}) clock))
      ⟨es'.modify j λe=>{e with key:=a,val:=v'},clock,by simp[hlt],by
       have:=v1.set (k:=j) (x:=a) (x':=a) (.same a p5);rw[List.map_set,hmod];have e1:List.map (·.key) (es'.toList.modify j (λe=>{e with key:=a,val:=v'}))=(List.map (·.key) es'.toList).set j a:=by
        apply BA;intro m;rw[LD,List.getElem?_modify,List.getElem?_set,LD]
        by_cases hm:j=m
        ·subst hm;cases he:es'.toList[j]? with
         | none=>rw[he]at r1;simp at r1
         | some e=>have:=(Lk.1 he).1;simp at this;simp[this]
        ·simp[hm]
       rw[e1];exact this,by
       have:=v2.set (k:=j) (x:=v) (x':=v') hv;rw[List.map_set,hmod];have e1:List.map (·.val) (es'.toList.modify j (λe=>{e with key:=a,val:=v'}))=(List.map (·.val) es'.toList).set j v':=by
        apply BA;intro m;rw[LD,List.getElem?_modify,List.getElem?_set,LD]
        by_cases hm:j=m
        ·subst hm;cases he:es'.toList[j]? with
         | none=>rw[he]at r1;simp at r1
         | some e=>have:=(Lk.1 he).1;simp at this;simp[this]
        ·simp[hm]
       rw[e1];exact this,by simp[hclk],λm e he=>by
       rw[RY]at he;split at he
       ·simp only[Lx]at he;obtain⟨e0,he0,rfl⟩:=he;exact hborn m e0 he0
       ·exact hborn m e he⟩
     refine⟨_,?_,q1,q2⟩;simp only[Instr.mapUpdate,ex,hixe,LW,LZ ht,Lz,hget,Qgs hk hc _ 9999,QcV hk p1,hkey,hst,hset]
    ·cases h
  ·cases h
 ·cases h
theorem Qu1 {t k e:TypeId}{m ix x:Operand}{H':Qa}(ht:P.underlying t=some (.map k e))(h:QwO P k (ev A m) (ev A ix) (ev A x) H=some H'):QC P ⟨d,.mapUpdate t m ix x,ty,pos,af,g⟩ A H undef H':=
 .of_skip λρ w s hs he=>by
  obtain⟨w',h1,h2,h3⟩:=QAq hs ht (he m (by simp[Op.operands])) (he ix (by simp[Op.operands])) (he x (by simp[Op.operands])) h;exact⟨ρ,w',by simp only[execOp,LW,h1,Lz,Nc],h2,h3⟩
theorem QBq {t k e:TypeId}{m ix x:Operand}{H':Qa}(ht:P.underlying t=some (.map k e))(h:QwO P k (ev A m) (ev A ix) (ev A x) H=some H'):QC P ⟨d,.insert t m ix x,ty,pos,af,g⟩ A H undef H':=
 .of_skip λρ w s hs he=>by
  obtain⟨w',h1,h2,h3⟩:=QAq hs ht (he m (by simp[Op.operands])) (he ix (by simp[Op.operands])) (he x (by simp[Op.operands])) h;exact⟨ρ,w',by simp only[execOp,LW,h1,Lz,Nc],h2,h3⟩
/-! ### Strings, gone through -/
theorem QCL {t:TypeId}{x:Operand}{s:ByteArray}(ht:P.underlying t=some .string)(ex:ev A x=.string s):QC P ⟨d,.range t x,ty,pos,af,g⟩ A H (.pointer (some ⟨H.next,0,none⟩)) (H.push (.iter s 0)):=
 .of_run λρ w a hs he=>by
  have e1:=VW (he x (by simp[Op.operands])) ex rfl;obtain⟨h1,h2⟩:=hs.push (.stringIter s 0) (.iter s 0) ⟨⟨w.heap.size,0,none⟩,0,0⟩ rfl ⟨by
   show(w.heap.push (Obj.stringIter s 0))[w.heap.size]? = _;simp,rfl⟩
  refine⟨.pointer (some ⟨w.heap.size,0,none⟩),_,_,?_,.ptr H.next 0 _ (W9 _ _ _),h1,h2⟩;simp only[execOp,Instr.range,e1,LW,LZ ht,Lz,FT,Nc,World.alloc]
def QAr (H:Qa)(v:Value):Option (Value×Qa):=
 match v with
 | .pointer (some a)=>bif Nat.beq a.off 0 then(match H.get a.block with
  | some (.iter s p)=>if p<s.size then some (.tuple #[.bool true,.int .i64 p,.int .i32 (Utf8.decode s p).1],H.set a.block (.iter s (p+(Utf8.decode s p).2))) else some (.tuple #[.bool false],H)
  | _=>none) else none
 | _=>none
theorem V.closedT {ρ:Ren}{xs:Array Value}(h:xs.all plain=true):V ρ (.tuple xs) (.tuple xs):=.closed h
theorem QEn {it:Operand}{v:Value}{H':Qa}(h:QAr H (ev A it)=some (v,H')):QC P ⟨d,.next it true,ty,pos,af,g⟩ A H v H':=
 .of_run λρ w s hs he=>by
  have hv:=he it (by simp[Op.operands]);unfold QAr at h;split at h
  ·rename_i a ea;rw[ea]at hv;cases h0:Nat.beq a.off 0 with
   | false=>rw[h0]at h;cases h
   | true=>
    rw[h0]at h;simp only[Lq]at h;have h0:a.off=0:=by simpa[Kh] using h0
    obtain⟨i,hi,_,ez⟩:=hv.ptr_inv;rw[h0]at ez;split at h
    ·rename_i st p hg;obtain⟨hh,hoff⟩:=hs.live _ _ i hg hi;have hadd:i.at_.add 0=⟨i.at_.block,0,i.at_.spot⟩:=by
      unfold Addr.add;simp;obtain⟨⟨b,o,sp⟩,_,_⟩:=i;simp at hoff ⊢;exact hoff
     rw[hadd]at ez;have hget:(getObj i.at_.block).run P w=.ok (.stringIter st p) w:=by simp[getObj,Sem.run,hh]
     split at h
     ·rename_i hp;cases h;have hset:∀o,(setObj i.at_.block o).run P w=.ok () {w with heap:=w.heap.setIfInBounds i.at_.block o}:=λo=>by simp[setObj,Sem.run,hh]
      have hlt:i.at_.block<w.heap.size:=(Nj.1 hh).1;obtain⟨q1,q2⟩:=hs.setBlk (b':=.iter st (p+(Utf8.decode st p).2)) hi hg rfl (w':={w with heap:=w.heap.setIfInBounds i.at_.block (.stringIter st (p+(Utf8.decode st p).2))})
       ⟨λk hk=>by simp[Bn (Ne.symm hk)],by simp,rfl,rfl,rfl⟩ ⟨by simp[hlt],hoff⟩
      refine⟨.tuple #[.bool true,.int .i64 p,.int .i32 (Utf8.decode st p).1],ρ,_,?_,.closedT (by simp[plain]),q1,q2⟩;simp only[execOp,Instr.next,ez,LW,hget,Lz,hp,N3,hset,Nc,goInt]
     ·rename_i hp;cases h;refine⟨.tuple #[.bool false],ρ,w,?_,.closedT (by simp[plain]),.refl _ _ _,hs⟩;simp only[execOp,Instr.next,ez,LW,hget,Lz,hp,LN,Nc]
    ·cases h
  ·cases h
/-! ### Maps gone through, where the next entry is the only one -/
/-! ### Copies -/
def QAs (size:Nat)(x y:Value)(H:Qa):Option (Value×Qa):=
 match J4 size y H with
 | none=>none
 | some (m,news)=>
  match x with
  | .slice none 0 _=>some (.int .i64 0,H)
  | .slice (some a) len _=>
   if Nat.min m len=0 then some (.int .i64 0,H) else
   match H.get a.block with
   | some (.cells c e false)=>
    if a.off+Nat.min m len * size<=c.length∧(news.take (Nat.min m len * size)).all (·.oneCell')=true then some (.int .i64 (Nat.min m len:Nat),H.set a.block (.cells (splice c a.off (news.take (Nat.min m len * size))) e false)) else none
   | _=>none
  | _=>none
theorem QEo {t t2 e:TypeId}{x y:Operand}{inf:TypeInfo}{v:Value}{H':Qa}(ht:P.underlying t=some (.slice e))(hi:P.info? e=some inf)(h:QAs inf.size (ev A x) (ev A y) H=some (v,H')):
  QC P ⟨d,.call ⟨.builtin .copy,#[x,y],#[t,t2]⟩,ty,pos,af,g⟩ A H v H':=
 .of_run λρ w s hs he=>by
  have hvx:=he x (by simp[Op.operands,Call.operands]);have hvy:=he y (by simp[Op.operands,Call.operands])
  suffices hmain:∃v' ρ' w',(Builtin.copy_ #[t,t2] ty #[s.eval x,s.eval y]).run P w=.ok v' w'∧V ρ' v v'∧St ρ H w ρ' H' w'∧Sim P ρ' H' w' by
   obtain⟨v',ρ',w',h1,h2,h3,h4⟩:=hmain;refine⟨v',ρ',w',?_,h2,h3,h4⟩;rw[QaA];simp only[builtin,R9,NZ,Bq,LW,h1,Lz,Nc]
  generalize ev A x=u at hvx h;generalize ev A y=u2 at hvy h;generalize s.eval x=x' at hvx;generalize s.eval y=y' at hvy;unfold QAs at h;split at h
  ·cases h
  ·rename_i m news hsrc;obtain⟨hlen,hcl,hcs⟩:=QAn hs hvy hsrc;have hdef:∀ (b:Option Addr) (dl dc:Nat),Builtin.copy_ #[t,t2] ty #[.slice b dl dc,y']=(do
     let .slice elem <- underlying t | stuck "copy: slice type expected"
     let n:=Nat.min (<- Builtin.lenOf y') dl
     let cells <- Builtin.firstCells (<- sizeOf elem) n y'
     if let some a:=b then storeCells a cells.toList
     pure (goInt n)):=λb dl dc=>rfl
   split at h
   ·rename_i cap;cases h;rw[hvx.plain_eq rfl];obtain⟨c',_,hfc⟩:=hcs 0 (by omega);refine⟨.int .i64 0,ρ,w,?_,.same _ rfl,.refl _ _ _,hs⟩;rw[hdef];have h0:Nat.min m 0=0:=Nat.min_zero m;simp only[LW,LZ ht,Lz,hlen,WP hi,h0,hfc w (λ_=>rfl),Nc,goInt];rfl
   ·rename_i a len cap;obtain⟨i,a',cap',g1,g2,g3,g4,g5,g0,g6,g7⟩:=hvx.slice_inv;rw[g3];split at h
    ·rename_i h0;cases h;obtain⟨c',hv0,hfc⟩:=hcs 0 (by omega);have hc0:c'=[]:=by simp at hv0;exact hv0.unnil
     subst hc0;refine⟨.int .i64 0,ρ,w,?_,.same _ rfl,.refl _ _ _,hs⟩;rw[hdef];simp only[LW,LZ ht,Lz,hlen,WP hi,h0,hfc w (λ_=>rfl),Nc,goInt];rfl
    ·rename_i h0;split at h
     ·rename_i c e' hg;split at h
      ·rename_i hc;cases h;obtain⟨c',hv0,hfc⟩:=hcs (Nat.min m len) (Nat.min_le_left _ _);have hln:len≠0:=λe=>h0 (by rw[e];exact Nat.min_zero m);have ha:a'=i.at_.add a.off:=by rcases g4 with h | ⟨h,_⟩;exact h;exact absurd h hln
       have htl:(news.take (Nat.min m len * inf.size)).length=Nat.min m len * inf.size:=by
        rw[Sb,hcl];exact BC (Bs _ (Nat.min_le_left _ _))
       obtain⟨w',hr,hone,hb⟩:=(hs.live _ _ i hg g1).storeList (off:=a.off) hv0 (by rw[htl];exact hc.1) (λu hu=>Li.1 hc.2 u hu);obtain⟨q1,q2⟩:=hs.setBlk g1 hg rfl hone hb;refine⟨.int .i64 (Nat.min m len:Nat),ρ,w',?_,.same _ rfl,q1,q2⟩;rw[hdef];rw[<- ha]at hr;simp only[LW,LZ ht,Lz,hlen,WP hi,hfc w (λ_=>rfl),hr,Nc,goInt]
      ·cases h
     ·cases h
   ·cases h
end
end Go.Ab
