import Derived.Test.YtopkfjiipdjbmaaGreatDoorAbA
import Derived.Lib.Builder
import Derived.Scope
import Derived.Lib.UnsafeStr
import Derived.Laws.BytesString
set_option linter.defProp false
set_option linter.unusedVariables false
set_option linter.unusedSimpArgs false
noncomputable section
namespace Go.Ab
def Zy (P:Program)(aa:TypeId->Value->Value->Option Bool):List Field->Array Value->Array Value->Option Bool
 | [],_,_=>some true
 | fd::fs,xs,ys=>
  if fd.name = "_" then Zy P aa fs xs ys else
  match apart P fd.type xs fd.offset,apart P fd.type ys fd.offset with
  | some a,some b=>match aa fd.type a b with
   | some true=>Zy P aa fs xs ys
   | r=>r
  | _,_=>none
def aeq (P:Program):Nat->TypeId->Value->Value->Option Bool
 | 0,_,_,_=>none
 | f+1,t,x,y=>
  match P.underlying t with
  | some .bool=>match x,y with | .bool a,.bool b=>some (a==b) | _,_=>none
  | some (.int _)=>match x,y with | .int k a,.int k' b=>if k=k' then some (a==b) else none | _,_=>none
  | some .string=>match x,y with | .string a,.string b=>some (bl a==bl b) | _,_=>none
  | some (.pointer q)=>match x,y with
   | .pointer none,.pointer b=>some b.isNone
   | .pointer (some _),.pointer none=>some false
   | .pointer (some a),.pointer (some b)=>(match P.info? q with | some j=>if j.size≠0∧a.block=b.block∧a.off=b.off then some true else none | none=>none)
   | _,_=>none
  | some (.slice _)=>match x,y with | .slice none _ _,.slice b _ _=>some b.isNone | .slice (some _) _ _,.slice none _ _=>some false | _,_=>none
  | some (.map _ _)=>match x,y with | .map none,.map b=>some b.isNone | .map (some _),.map none=>some false | _,_=>none
  | some (.func _ _ _)=>match x,y with | .nilFunc,.nilFunc=>some true | .nilFunc,.func _ _ _=>some false | .func _ _ _,.nilFunc=>some false | _,_=>none
  | some (.interface _)=>match x,y with
   | .nilIface,.nilIface=>some true
   | .nilIface,.iface _ _=>some false
   | .iface _ _,.nilIface=>some false
   | .iface tx vx,.iface ty vy=>if tx=ty then(match P.info? tx with | some aa=>if aa.comparable then aeq P f tx vx vy else none | none=>none) else some false
   | _,_=>none
  | some (.struct fs)=>match x,y with | .agg xs,.agg ys=>if P.stoodInHeld t then none else Zy P (aeq P f) fs.toList xs ys | _,_=>none
  | _=>none
section
variable {P:Program} {n:Nat} {A:Env} {H:Qa} {d:Option Nat} {ty:TypeId} {pos:String} {af:Array Edge} {g:Option (Nat×Bool)}
def V.nilness {ρ:Ren}{x x':Value}(h:V ρ x x'):(∀a l c,x=.slice a l c->∃aa ac c',x'=.slice aa ac c'∧aa.isNone=a.isNone)∧(∀a,x=.pointer a->∃aa,x'=.pointer aa∧aa.isNone=a.isNone)∧(∀a,x=.map a->∃aa,x'=.map aa∧aa.isNone=a.isNone)∧
  (∀f a b,x=.func f a b->∃ab aa b',x'=.func ab aa b'):=by
 cases h with
 | same v ad=>exact⟨λa l c e=>⟨a,l,c,e,rfl⟩,λa e=>⟨a,e,rfl⟩,λa e=>⟨a,e,rfl⟩,λf a b e=>⟨f,a,b,e⟩⟩
 | _=>simp
def QaO (w:World){aj:TypeId->Value->Value->Option Bool}{ai:Nat}{ρ:Ren}(ae:∀t x y x' al b,V ρ x x'->V ρ y al->aj t x y=some b->(Op.equalIn ai t x' al).run P w=.ok b w):
  ∀ (ad:List Field) (xs ab aa ac:Array Value) (b:Bool),VL ρ xs.toList aa.toList->VL ρ ab.toList ac.toList->Zy P aj ad xs ab=some b->(Op.eqFields ai aa ac ad).run P w=.ok b w
 | [],xs,ab,aa,ac,b,hx,hy,h=>by simp[Zy]at h;subst h;rfl
 | fd::ad,xs,ab,aa,ac,b,hx,hy,h=>by
  unfold Zy at h;unfold Op.eqFields;split at h;·rename_i ag;rw[Le (by simpa using ag)];exact QaO w ae ad xs ab aa ac b hx hy h
  rename_i ag;rw[Lc (by simpa using ag)];split at h
  ·rename_i a b' am an;obtain⟨a1,p1,p2⟩:=Ql5 hx am w;obtain⟨b1,ap,ak⟩:=Ql5 hy an w;simp only[LW,p1,Lz,ap];split at h;·rename_i ah;rw[ae fd.type a b' a1 b1 true p2 ak ah];simp only[Lz,L8,LV,LN];exact QaO w ae ad xs ab aa ac b hx hy h
   rename_i r ah;have ao:b=false:=by
    cases b with
    | false=>rfl
    | true=>exact absurd h ah
   subst ao;rw[ae fd.type a b' a1 b1 false p2 ak h];simp
  cases h
set_option maxHeartbeats 1000000 in
def QnS (w:World):∀ (f:Nat) (t:TypeId) (ρ:Ren) (x y x' ad:Value) (b:Bool),V ρ x x'->V ρ y ad->aeq P f t x y=some b->∀ac,f<=ac->(Op.equalIn ac t x' ad).run P w=.ok b w
 | 0,t,ρ,x,y,x',ad,b,hx,hy,h,ac,hd=>by simp[aeq]at h
 | f+1,t,ρ,x,y,x',ad,b,hx,hy,h,ac,hd=>by
  obtain⟨ac,rfl⟩:∃k,ac=k+1:=⟨ac - 1,by omega⟩;unfold aeq at h;split at h
  ·rename_i aa;split at h;·cases h;rw[hx.plain_eq rfl,hy.plain_eq rfl];simp[Op.equalIn,LZ aa]
   cases h
  ·rename_i k aa;split at h
   ·split at h;·rename_i e;subst e;cases h;rw[hx.plain_eq rfl,hy.plain_eq rfl];simp[Op.equalIn,LZ aa]
    cases h
   cases h
  ·rename_i aa;split at h;·cases h;rw[hx.plain_eq rfl,hy.plain_eq rfl];simp[Op.equalIn,LZ aa,beq_toListBytes,ByteArray.toList_eq,bl]
   cases h
  ·rename_i q aa;split at h;·cases h;rw[hx.plain_eq rfl];obtain⟨ab,e,e'⟩:=hy.nilness.2.1 _ rfl;rw[e,<- e'];simp[Op.equalIn,LZ aa]
   ·cases h;rw[hy.plain_eq rfl];obtain⟨ab,e,e'⟩:=hx.nilness.2.1 _ rfl;cases ab with
    | none=>simp at e'
    | some ab=>rw[e];simp[Op.equalIn,LZ aa]
   ·rename_i a1 b1;split at h
    ·rename_i j au;split at h;·rename_i ap;obtain⟨c1,c2,c3⟩:=ap;cases h;obtain⟨aG,p1,p2,az⟩:=hx.ptr_inv;obtain⟨aH,ak,aA,al⟩:=hy.ptr_inv;rw[c2,ak]at p1;cases p1;rw[az,al,c3];simp[Op.equalIn,LZ aa,sizeOf,typeInfo,au,run_sameAddr_same]
     cases h
    cases h
   cases h
  ·rename_i q aa;split at h;·cases h;rw[hx.plain_eq rfl];obtain⟨ab,ay,c',e,e'⟩:=hy.nilness.1 _ _ _ rfl;rw[e,<- e'];simp[Op.equalIn,LZ aa]
   ·cases h;rw[hy.plain_eq rfl];obtain⟨ab,ay,c',e,e'⟩:=hx.nilness.1 _ _ _ rfl;cases ab with
    | none=>simp at e'
    | some ab=>rw[e];simp[Op.equalIn,LZ aa]
   cases h
  ·rename_i q aJ aa;split at h;·cases h;rw[hx.plain_eq rfl];obtain⟨ab,e,e'⟩:=hy.nilness.2.2.1 _ rfl;rw[e,<- e'];simp[Op.equalIn,LZ aa]
   ·cases h;rw[hy.plain_eq rfl];obtain⟨ab,e,e'⟩:=hx.nilness.2.2.1 _ rfl;cases ab with
    | none=>simp at e'
    | some ab=>rw[e];simp[Op.equalIn,LZ aa]
   cases h
  ·rename_i ak aA al aa;split at h;·cases h;rw[hx.plain_eq rfl,hy.plain_eq rfl];simp[Op.equalIn,LZ aa]
   ·cases h;obtain⟨ao,ab,b',e⟩:=hy.nilness.2.2.2 _ _ _ rfl;rw[hx.plain_eq rfl,e];simp[Op.equalIn,LZ aa]
   ·cases h;obtain⟨ao,ab,b',e⟩:=hx.nilness.2.2.2 _ _ _ rfl;rw[hy.plain_eq rfl,e];simp[Op.equalIn,LZ aa]
   cases h
  ·rename_i ms aa;split at h;·cases h;rw[hx.plain_eq rfl,hy.plain_eq rfl];simp[Op.equalIn,LZ aa]
   ·cases h;obtain⟨aB,e,_⟩:=hy.iface_inv;rw[hx.plain_eq rfl,e];simp[Op.equalIn,LZ aa]
   ·cases h;obtain⟨aB,e,_⟩:=hx.iface_inv;rw[hy.plain_eq rfl,e];simp[Op.equalIn,LZ aa]
   ·rename_i tx vx aK aE;obtain⟨aC,e1,ag⟩:=hx.iface_inv;obtain⟨aD,e2,ah⟩:=hy.iface_inv;rw[e1,e2];split at h
    ·rename_i ae;subst ae;split at h
     ·rename_i aI ar;split at h;·rename_i aq;have ax:=QnS w f tx ρ vx aE aC aD b ag ah h ac (by omega);simp only[Op.equalIn,LW,LZ aa,Lz,Da,BE,LN,typeInfo,DJ,ar,Nc,aq,L8,LV,ax]
      cases h
     cases h
    rename_i ae;cases h;simp[Op.equalIn,LZ aa,ae]
   cases h
  ·rename_i ai aa;split at h
   ·rename_i xs aF;split at h;·cases h
    rename_i av;obtain⟨am,e1,ag⟩:=hx.agg_inv;obtain⟨an,e2,ah⟩:=hy.agg_inv;rw[e1,e2];have aj:P.fieldsOf t=ai:=by simp[Program.fieldsOf,aa]
    rw[run_equalIn_struct w ac t am an (by rw[aj];exact aa) (by simpa using av),aj];exact QaO w (λt x y x' ad b a1 a2 a3=>QnS w f t ρ x y x' ad b a1 a2 a3 ac (by omega)) ai.toList xs aF am an b ag ah h
   cases h
  cases h
def GO:Value->Bool
 | .int _ _ | .string _ | .float _ _ | .complex _ _ _=>false
 | _=>true
def QjR:Value->Bool
 | .nilIface=>true
 | _=>false
def QsY:Value->Bool
 | .agg _=>true
 | _=>false
def Qic:Operand->Bool
 | .const _=>true
 | _=>false
def Y4 (P:Program)(k:Bool)(t:TypeId)(x y:Value):Bool:=(k||!(QjR x&&QjR y))&&!(QsY x&&QsY y&&P.eqGuardType P.depth t)
def Ql8 (P:Program)(k:Bool)(op:BinOp)(t:TypeId)(x y:Value):Option Value:=
 if GO x&&GO y&&Y4 P k t x y then
  match op with
  | .eql=>(aeq P 20 t x y).map .bool
  | .neq=>(aeq P 20 t x y).map λb=>.bool !b
  | _=>none
 else none
def V.notNum_eq {ρ:Ren}{x x':Value}(h:V ρ x x'):GO x'=GO x:=by cases h<;>rfl
def V.isNI_eq {ρ:Ren}{x x':Value}(h:V ρ x x'):QjR x'=QjR x:=by cases h<;>rfl
def V.isAg_eq {ρ:Ren}{x x':Value}(h:V ρ x x'):QsY x'=QsY x:=by cases h<;>rfl
def V.guard_eq {ρ:Ren}{x x' y aa:Value}(k:Bool)(t:TypeId)(h:V ρ x x')(h':V ρ y aa):Y4 P k t x' aa=Y4 P k t x y:=by
 simp only[Y4,h.isNI_eq,h'.isNI_eq,h.isAg_eq,h'.isAg_eq]
def QB5 (t:TypeId)(x y:Value)(h:GO x=true):binOp .eql t x y=(do pure (.bool (<- Op.equal t x y))):=by
 cases x<;>simp[GO]at h<;>(cases y<;>rfl)
def QB6 (t:TypeId)(x y:Value)(h:GO x=true):binOp .neq t x y=(do pure (.bool (!(<- Op.equal t x y)))):=by
 cases x<;>simp[GO]at h<;>(cases y<;>rfl)
def QB7 (op:BinOp)(t:TypeId)(x y:Operand)(a b:Value)(w:World)(h:Y4 P (Qic x||Qic y) t a b=true):(eqGuard op t x y a b).run P w=.ok () w:=by
 by_cases aa:QjR a=true∧QjR b=true
 ·obtain⟨ab,ac⟩:=aa;cases a<;>simp[QjR]at ab;cases b<;>simp[QjR]at ac;have ad:(Qic x||Qic y)=true:=by
   cases ae:(Qic x||Qic y) with
   | true=>rfl
   | false=>rw[ae]at h;simp[Y4,QjR]at h
  cases op<;>first
   | rfl
   | (cases x<;>cases y<;>first | rfl | (simp[Qic]at ad))
 cases a<;>cases b<;>simp[Y4,QjR,QsY]at h aa<;>first
  | (cases op<;>rfl)
  | (cases op<;>simp[eqGuard,DJ,h])
def QKN {op:BinOp}{t ai:TypeId}{x y:Operand}{v:Value}(h:Ql8 P (Qic x||Qic y) op t (ev A x) (ev A y)=some v):Qx P ⟨d,.binOp op t x y ai,ty,pos,af,g⟩ A H v H:=
 .pure_ λρ w s aj ae=>by
  have ab:=ae x (by simp[Op.operands]);have ac:=ae y (by simp[Op.operands]);generalize ev A x=u at ab h;generalize ev A y=u2 at ac h;have ah:∀b,aeq P 20 t u u2=some b->(Op.equal t (s.eval x) (s.eval y)).run P w=.ok b w:=λb aa=>QnS w 20 t ρ u u2 _ _ b ab ac aa 10000 (by omega);unfold Ql8 at h;split at h
  ·rename_i ad;simp only[Lm]at ad;obtain⟨⟨c1,c2⟩,c3⟩:=ad;rw[<- ab.notNum_eq]at c1;rw[<- V.guard_eq _ t ab ac]at c3;have ag:=QB7 (P:=P) op t x y _ _ w c3;split at h;·simp only[Lx]at h;obtain⟨b,aa,rfl⟩:=h;refine⟨.bool b,?_,.same _ rfl⟩;simp only[execOp,LW,ag,Lz,QB5 _ _ _ c1,ah b aa,Nc]
   ·simp only[Lx]at h;obtain⟨b,aa,rfl⟩:=h;refine⟨.bool !b,?_,.same _ rfl⟩;simp only[execOp,LW,ag,Lz,QB6 _ _ _ c1,ah b aa,Nc]
   cases h
  cases h
/-! ### Assertions of types -/
end
section
variable {P:Program}
def Qa.ofFn (next:Nat)(f:Nat->Option Blk):Qa:=⟨next,(List.range next).foldl (λt id=>t.set id (f id)) .nil⟩
def Qt2 (f:Nat->Option Blk):∀ (l:List Nat) (t:Tr Blk) (id:Nat),(l.foldl (λt id=>t.set id (f id)) t).get id=if id∈l then f id else t.get id
 | [],t,id=>by simp
 | x::l,t,id=>by
  simp only[FQ];rw[Qt2 f l,Tr.get_set]
  by_cases aa:id∈l;·simp[aa]
  by_cases ab:id=x;·subst ab;simp
  simp[aa,ab]
def Qa.get_ofFn (next:Nat)(f:Nat->Option Blk)(id:Nat):(Qa.ofFn next f).get id=if id<next then f id else none:=by
 unfold Qa.ofFn Qa.get;rw[Qt2];simp[Tr.get_nil]
def Qq0 (ρ ρ':Ren):Ren:=λid=>match ρ' id with | some i=>some i | none=>ρ id
def JB {ρ ρ':Ren}{id:Nat}(h:ρ' id=none):Qq0 ρ ρ' id=ρ id:=by simp[Qq0,h]
def Y5 {ρ ρ':Ren}{id:Nat}{i:ZD}(h:ρ' id=some i):Qq0 ρ ρ' id=some i:=by simp[Qq0,h]
structure St0 (ρ:Ren) (H:Qa) (w:World) (ρ':Ren) (H':Qa) (w':World):Prop where
 mono:Sub ρ ρ'
 y:H.y<=H'.y
 dead:∀id i,ρ id=some i->H.get id=none->H'.get id=none
 ro:∀id i b b',ρ id=some i->H.get id=some b->b.ro=true->H'.get id=some b'->b'.ro=true
 fresh:∀id i,ρ' id=some i->ρ id=none->w.heap.size<=i.at_.block∨∃id0 i0 b0,ρ id0=some i0∧i0.at_.block=i.at_.block∧H.get id0=some b0∧b0.ro=false
 os:w'.os=w.os
 tape:w'.tape=w.tape
 output:w'.output=w.output
 size:w.heap.size<=w'.heap.size
 frame:∀b,b<w.heap.size->(∀id i bl,ρ id=some i->H.get id=some bl->bl.ro=false->i.at_.block≠b)->w'.heap[b]? = w.heap[b]?
def St.to0 {ρ ρ':Ren}{H H':Qa}{w w':World}(h:St ρ H w ρ' H' w'):St0 ρ H w ρ' H' w':=
 ⟨h.mono,h.y,h.dead,h.ro,λid i a b=>(h.fresh id i a b).2,h.os,h.tape,h.output,h.size,h.frame⟩
def St0.full {ρ ρ':Ren}{H H':Qa}{w w':World}(h:St0 ρ H w ρ' H' w')(aa:∀id i,ρ' id=some i->ρ id=none->H.y<=id):St ρ H w ρ' H' w':=
 ⟨h.mono,h.y,h.dead,h.ro,λid i a b=>⟨aa id i a b,h.fresh id i a b⟩,h.os,h.tape,h.output,h.size,h.frame⟩
def St0.owned {ρ:Ren}{H:Qa}{w:World}{ρ':Ren}{H':Qa}{w':World}(h:St0 ρ H w ρ' H' w'){id:Nat}{i:ZD}{bl:Blk}
  (ae:ρ' id=some i) (ac:H'.get id=some bl) (ag:bl.ro=false):
  w.heap.size<=i.at_.block∨∃ah aa b0,ρ ah=some aa∧aa.at_.block=i.at_.block∧H.get ah=some b0∧b0.ro=false:=by
 cases ab:ρ id with
 | none=>exact h.fresh id i ae ab
 | some aa=>
  have:aa=i:=by have:=h.mono id aa ab;rw[ae]at this;cases this;rfl
  subst this;cases ad:H.get id with
  | none=>rw[h.dead id aa ab ad]at ac;cases ac
  | some b0=>
   refine .inr ⟨id,aa,b0,ab,rfl,ad,?_⟩;cases ai:b0.ro with
   | false=>rfl
   | true=>rw[h.ro id aa b0 bl ab ad ai ac]at ag;cases ag
def St0.trans {ρ ρ1 ρ2:Ren}{H H1 H2:Qa}{w al am:World}(a:St0 ρ H w ρ1 H1 al)(b:St0 ρ1 H1 al ρ2 H2 am):St0 ρ H w ρ2 H2 am where
 mono:=a.mono.trans b.mono
 y:=N8 a.y b.y
 dead:=λid i h h'=>b.dead id i (a.mono _ _ h) (a.dead id i h h')
 ro:=λid i bl an h ac aa ab=>by
  cases ad:H1.get id with
  | none=>rw[b.dead id i (a.mono _ _ h) ad]at ab;cases ab
  | some b1=>exact b.ro id i b1 an (a.mono _ _ h) ad (a.ro id i bl b1 h ac aa ad) ab
 fresh:=λid i h h'=>by
  cases ae:ρ1 id with
  | some ag=>
   have:ag=i:=by have:=b.mono id ag ae;rw[h]at this;cases this;rfl
   subst this;exact a.fresh id ag ae h'
  | none=>
   rcases b.fresh id i h ae with aa | ⟨ak,aj,b0,e1,e2,e3,e4⟩;·exact .inl (N8 a.size aa)
   rw[<- e2];exact a.owned e1 e3 e4
 os:=b.os.trans a.os
 tape:=b.tape.trans a.tape
 output:=b.output.trans a.output
 size:=N8 a.size b.size
 frame:=λbk ah ai=>by
  rw[b.frame bk (N5 ah a.size) ?_,a.frame bk ah ai];intro id i bl ac aa ab e;rcases a.owned ac aa ab with h | ⟨ak,aj,b0,e1,e2,e3,e4⟩;·omega
  exact ai ak aj b0 e1 e3 e4 (e2.trans e)
def QR (ρ1:Ren)(G h h':Qa)(id:Nat):Option Blk:=
 if id<h.y then(match ρ1 id,h.get id with | some _,some _=>h'.get id | _,_=>G.get id) else if id<h'.y then h'.get id else G.get id
def Qq1 (ρ1:Ren)(G h h':Qa):Qa:=Qa.ofFn (max G.y h'.y) (QR ρ1 G h h')
def Gf {ρ1:Ren}{G h h':Qa}{id:Nat}(aa:id<max G.y h'.y):(Qq1 ρ1 G h h').get id=QR ρ1 G h h' id:=by
 unfold Qq1;rw[Qa.get_ofFn,Lc aa]
def Qq2 {ρ1:Ren}{G h h':Qa}{id:Nat}{i:ZD}{b:Blk}(aa:id<h.y)(ab:ρ1 id=some i)(ac:h.get id=some b):QR ρ1 G h h' id=h'.get id:=by
 simp[QR,aa,ab,ac]
def Qt3 {ρ1:Ren}{G h h':Qa}{id:Nat}(aa:h.y<=id)(ab:id<h'.y):QR ρ1 G h h' id=h'.get id:=by
 simp[QR,Nat.not_lt.2 aa,ab]
def Qt4 {ρ1:Ren}{G h h':Qa}{id:Nat}(aa:h.y<=id)(ab:h'.y<=id):QR ρ1 G h h' id=G.get id:=by
 simp[QR,Nat.not_lt.2 aa,Nat.not_lt.2 ab]
def Qlf {ρ1:Ren}{G h h':Qa}{id:Nat}(ab:id<h.y)(aa:ρ1 id=none∨h.get id=none):QR ρ1 G h h' id=G.get id:=by
 unfold QR;rw[Lc ab];rcases aa with aa | aa<;>rw[aa]<;>(try (cases ρ1 id))<;>rfl
def V2 {ρ ρ1 ρ':Ren}{G h h':Qa}{w w':World}(sub:Sub ρ1 ρ)(ag:Sim P ρ1 h w)
  (aj:∀id,h.y<=id->id<h'.y->ρ id=none) (step:St ρ1 h w ρ' h' w') (ah:Sim P ρ' h' w') {id:Nat} {i:ZD} {b:Blk} (hi:Qq0 ρ ρ' id=some i) (aa:QR ρ1 G h h' id=some b):
  (ρ' id=some i∧h'.get id=some b∧((∃b0,ρ1 id=some i∧h.get id=some b0)∨(ρ1 id=none∧ρ id=none)))∨(ρ id=some i∧G.get id=some b∧(ρ1 id=none∨h.get id=none)):=by
 have ad:∀j,ρ' id=some j->i=j:=λj ai=>by rw[Y5 ai]at hi;cases hi;rfl
 by_cases c1:id<h.y
 ·cases e1:ρ1 id with
  | none=>
   rw[Qlf c1 (.inl e1)]at aa;have:ρ' id=none:=by
    cases e:ρ' id with
    | none=>rfl
    | some j=>have:=(step.fresh id j e e1).1;omega
   rw[JB this]at hi;exact .inr ⟨hi,aa,.inl rfl⟩
  | some ae=>
   have ab:=step.mono id ae e1;obtain rfl:=ad ae ab;cases e2:h.get id with
   | none=>
    rw[Qlf c1 (.inr e2)]at aa;exact .inr ⟨sub id i e1,aa,.inr rfl⟩
   | some b0=>
    rw[Qq2 c1 e1 e2]at aa;exact .inl ⟨ab,aa,.inl ⟨b0,rfl,rfl⟩⟩
 have e1:ρ1 id=none:=by
  cases e:ρ1 id with
  | none=>rfl
  | some j=>have:=ag.dom id j e;omega
 by_cases c2:id<h'.y
 ·rw[Qt3 (by omega) c2]at aa;have ac:=aj id (by omega) c2;cases e:ρ' id with
  | none=>rw[JB e,ac]at hi;cases hi
  | some j=>obtain rfl:=ad j e;exact .inl ⟨rfl,aa,.inr ⟨e1,ac⟩⟩
 rw[Qt4 (by omega) (by omega)]at aa;have:ρ' id=none:=by
  cases e:ρ' id with
  | none=>rfl
  | some j=>have:=ah.dom id j e;omega
 rw[JB this]at hi;exact .inr ⟨hi,aa,.inl e1⟩
def Qy1 {ρ ρ1 ρ':Ren}{G h h':Qa}{w w':World}(ak:Sim P ρ G w)(sub:Sub ρ1 ρ)(ay:Sim P ρ1 h w)(ao:∀id i b,ρ1 id=some i->h.get id=some b->G.get id=some b)
  (av:∀id,h.y<=id->id<h'.y->ρ id=none) (step:St ρ1 h w ρ' h' w') (ah:Sim P ρ' h' w'):
  St0 ρ G w (Qq0 ρ ρ') (Qq1 ρ1 G h h') w'∧Sim P (Qq0 ρ ρ') (Qq1 ρ1 G h h') w'∧
   (∀id i b,ρ id=some i->G.get id=some b->(ρ1 id=none∨h.get id=none)->w'.heap[i.at_.block]? = w.heap[i.at_.block]?):=by
 have aq:Sub ρ (Qq0 ρ ρ'):=λid i hi=>by
  cases e:ρ' id with
  | none=>rw[JB e];exact hi
  | some j=>
   rw[Y5 e];cases e1:ρ1 id with
   | some ai=>have:=step.mono id ai e1;rw[e]at this;cases this;have:=sub id j e1;rw[hi]at this;exact this.symm
   | none=>
    have aM:=(step.fresh id j e e1).1;have aa:=ah.dom id j e;rw[av id aM aa]at hi;cases hi
 have aQ:Sub ρ' (Qq0 ρ ρ'):=λid i hi=>Y5 hi;have aL:∀id i b,ρ id=some i->G.get id=some b->(ρ1 id=none∨h.get id=none)->w'.heap[i.at_.block]? = w.heap[i.at_.block]? := λid i b hi aa al=>
  step.frame _ (ak.live id b i aa hi).lt (λau ai bl a1 a2 a3 a4=>by
   have aE:au≠id:=λe=>by subst e;rcases al with al | al;(rw[al]at a1;cases a1);(rw[al]at a2;cases a2)
   exact ak.sep au id bl b ai i (ao au ai bl a1 a2) aa (sub _ _ a1) hi a3 aE a4)
 have az:∀id i,Qq0 ρ ρ' id=some i->id<max G.y h'.y:=λid i hi=>by
  cases e:ρ' id with
  | none=>rw[JB e]at hi;have:=ak.dom id i hi;omega
  | some j=>have:=ah.dom id j e;omega
 refine⟨⟨aq,Nat.le_max_left _ _,λid i hi an=>?_,λid i b b' hi an aK aa=>?_,λid i hi aA=>?_,step.os,step.tape,step.output,step.size,λbk aO aA=>?_⟩,⟨az,λid b i aa hi=>?_,λau aG b1 aH ai aF g1 g2 g3 g4 aD aJ=>?_,λg an=>?_⟩,aL⟩
 ·rw[Gf (az id i (aq id i hi))];cases aa:QR ρ1 G h h' id with
  | none=>rfl
  | some b=>
   rcases V2 sub ay av step ah (aq id i hi) aa with⟨_,_,⟨b0,e1,e2⟩ | ⟨_,e2⟩⟩ | ⟨_,e2,_⟩;·rw[ao id i b0 e1 e2]at an;cases an
   ·rw[hi]at e2;cases e2
   rw[an]at e2;cases e2
 ·rw[Gf (az id i (aq id i hi))]at aa;rcases V2 sub ay av step ah (aq id i hi) aa with⟨_,e0,⟨b0,e1,e2⟩ | ⟨_,e2⟩⟩ | ⟨_,e2,_⟩;·have:=ao id i b0 e1 e2;rw[an]at this;cases this;exact step.ro id i b b' e1 e2 aK e0
  ·rw[hi]at e2;cases e2
  rw[an]at e2;cases e2;exact aK
 ·cases e:ρ' id with
  | none=>rw[JB e,aA]at hi;cases hi
  | some j=>
   rw[Y5 e]at hi;cases hi;have e1:ρ1 id=none:=by
    cases e1:ρ1 id with
    | none=>rfl
    | some ai=>rw[sub id ai e1]at aA;cases aA
   rcases(step.fresh id i e e1).2 with ap | ⟨ab,ac,b0,a1,a2,a3,a4⟩;·exact .inl ap
   exact .inr ⟨ab,ac,b0,sub _ _ a1,a2,ao ab ac b0 a1 a3,a4⟩
 ·exact step.frame bk aO (λid i bl a1 a2 a3=>aA id i bl (sub _ _ a1) (ao id i bl a1 a2) a3)
 ·rw[Gf (az id i hi)]at aa;rcases V2 sub ay av step ah hi aa with⟨e0,e1,_⟩ | ⟨e0,e1,e2⟩;·exact(ah.live id b i e1 e0).mono aQ rfl
  exact(ak.live id b i e1 e0).mono aq (aL id i b e0 e1 e2)
 ·rw[Gf (az au ai g3)]at g1;rw[Gf (az aG aF g4)]at g2;have aI:∀ {ad am:Nat} {aj ar:ZD} {aC bb:Blk},ρ' ad=some aj->h'.get ad=some aC->((∃b0,ρ1 ad=some aj∧h.get ad=some b0)∨(ρ1 ad=none∧ρ ad=none))->ρ am=some ar->G.get am=some bb->(ρ1 am=none∨h.get am=none)->(aC.ro=false∨bb.ro=false)->aj.at_.block≠ar.at_.block:=by
   intro ad am aj ar aC bb p1 p2 aB ae ag ax aR;have aS:=(ak.live am bb ar ag ae).lt;have aE:∀ab ac b0,ρ1 ab=some ac->h.get ab=some b0->ab≠am:=λab ac b0 r1 r2 e=>by subst e;rcases ax with al | al;(rw[al]at r1;cases r1);(rw[al]at r2;cases r2)
   have own:(∃ab ac b0,ρ1 ab=some ac∧ac.at_.block=aj.at_.block∧h.get ab=some b0∧b0.ro=false)->aj.at_.block≠ar.at_.block:=fun⟨ab,ac,b0,r1,r2,r3,r4⟩=>by
    rw[<- r2];exact ak.sep ab am b0 bb ac ar (ao ab ac b0 r1 r3) ag (sub _ _ r1) ae r4 (aE ab ac b0 r1 r3)
   rcases aB with⟨b0,r1,r2⟩ | ⟨r1,r2⟩
   ·by_cases aa:bb.ro=false;·exact λe=>ak.sep am ad bb b0 ar aj ag (ao ad aj b0 r1 r2) ae (sub _ _ r1) aa (λe=>aE ad aj b0 r1 r2 e.symm) e.symm
    have aN:aC.ro=false:=aR.resolve_right aa;rcases step.owned p1 p2 aN with ap | ap;·omega
    exact own ap
   rcases(step.fresh ad aj p1 r1).2 with ap | ap;·omega
   exact own ap
  rcases V2 sub ay av step ah g3 g1 with⟨p1,p2,aB⟩ | ⟨p1,p2,aB⟩
  ·rcases V2 sub ay av step ah g4 g2 with⟨ae,ag,ax⟩ | ⟨ae,ag,ax⟩;·exact ah.sep au aG b1 aH ai aF p2 ag p1 ae aD aJ
   exact aI p1 p2 aB ae ag ax (.inl aD)
  rcases V2 sub ay av step ah g4 g2 with⟨ae,ag,ax⟩ | ⟨ae,ag,ax⟩;·exact λe=>aI ae ag ax p1 p2 aB (.inr aD) e.symm
  exact ak.sep au aG b1 aH ai aF p2 ag p1 ae aD aJ
 obtain⟨j,aP,e⟩:=ak.glob g an;exact⟨j,aq _ _ aP,e⟩
end
/-! ### What is QG: QK -/
def QDI (aa:List Nat)(es:List Edge):Nat:=es.foldl (λs e=>bif Region.binds .any e then s ||| (2 ^ e.on ||| aa.getD e.on 0) else s) 0
def QK:List Oper->List Nat->List Nat
 | [],acc=>acc
 | o::l,acc=>QK l (acc++[QDI acc o.after.toList])
def Qid (ops:Array Oper)(L:Nat->Prop):Prop:=∀ (i:Nat),L i->∀o,ops[i]? = some o->∀e∈o.after,Region.binds .any e=true->L e.on
def Qo5 {ops:Array Oper}{L:Nat->Prop}(an:Qid ops L)(ac:List Nat)(ak:∀j m,ac[j]? = some m->L j->∀k,m.testBit k=true->L k):
  ∀ (es:List Edge),(∀e∈es,Region.binds .any e=true->L e.on)->∀k,(QDI ac es).testBit k=true->L k:=by
 intro es al k aa;have key:∀ (es:List Edge) (s:Nat),(∀e∈es,Region.binds .any e=true->L e.on)->(∀k,s.testBit k=true->L k)->∀k,(es.foldl (λs e=>bif Region.binds .any e then s ||| (2 ^ e.on ||| ac.getD e.on 0) else s) s).testBit k=true->L k:=by
  intro es
  induction es with
  | nil=>intro s _ ad k aa;exact ad k aa
  | cons e es am=>
   intro s aj ad k aa;simp only[FQ]at aa;refine am _ (λe' h'=>aj e' (by simp[h'])) ?_ k aa;intro ae ab;cases ag:Region.binds .any e with
   | false=>rw[ag]at ab;exact ad ae ab
   | true=>
    rw[ag]at ab;have ai:=aj e (by simp) ag;simp only[Lq,Nat.testBit_or,Nw]at ab;rcases ab with h | h | h;·exact ad ae h
    ·rw[Nat.testBit_two_pow]at h;have:e.on=ae:=by simpa using h
     rw[<- this];exact ai
    cases ah:ac[e.on]? with
    | none=>simp[List.getD,ah]at h
    | some m=>simp only[List.getD,ah,NB]at h;exact ak e.on m ah ai ae h
 exact key es 0 al (λk h=>by simp at h) k aa
def Qq3 {ops:Array Oper}{L:Nat->Prop}(ac:Qid ops L):∀ (l:List Oper) (aa:List Nat),(∀j o,l[j]? = some o->ops[aa.length+j]? = some o)->(∀j m,aa[j]? = some m->L j->∀k,m.testBit k=true->L k)->
  ∀j m,(QK l aa)[j]? = some m->L j->∀k,m.testBit k=true->L k
 | [],aa,_,hacc=>hacc
 | o::l,aa,hops,hacc=>by
  simp only[QK];refine Qq3 ac l _ (λj o' h=>by have:=hops (j+1) o' (by simpa using h);simpa[Rh,Nat.add_comm 1 j] using this) ?_;intro j m ab ad k ae
  by_cases al:j<aa.length;·rw[LY al]at ab;exact hacc j m ab ad k ae
  rw[LR (by omega)]at ab;have aj:j - aa.length=0:=by
   cases ah:j - aa.length with
   | zero=>rfl
   | succ d=>rw[ah]at ab;simp at ab
  rw[aj]at ab;simp at ab;subst ab;have ak:j=aa.length:=by omega
  subst ak;exact Qo5 ac aa hacc o.after.toList (λe ai ag=>ac aa.length ad o (by simpa using hops 0 o rfl) e (by simpa using ai) ag) k ae
def QG (ms:List Nat)(i j:Nat):Bool:=Nat.testBit (ms.getD j 0) i
def Qgh {ops:Array Oper}{L:Nat->Prop}(ab:Qid ops L){i j:Nat}(h:QG (QK ops.toList []) i j=true)(ac:L j):L i:=by
 unfold QG at h;cases aa:(QK ops.toList [])[j]? with
 | none=>simp[List.getD,aa]at h
 | some m=>
  simp only[List.getD,aa,NB]at h;exact Qq3 ab ops.toList [] (λj o h=>by simpa using h) (λj m h=>by simp at h) j m aa ac i h
def QwI {ops:Array Oper}(ag:∀ (i:Nat) (o:Oper),ops[i]? = some o->∀e∈o.after,Region.binds .any e=true->e.on<i):∀ (l:List Oper) (aa:List Nat),(∀ (j:Nat) (o:Oper),l[j]? = some o->ops[aa.length+j]? = some o)->(∀ (j:Nat) (m:Nat),aa[j]? = some m->∀k,Nat.testBit m k=true->k<j)->
  ∀ (j:Nat) (m:Nat),(QK l aa)[j]? = some m->∀k,Nat.testBit m k=true->k<j
 | [],aa,_,hacc=>hacc
 | o::l,aa,hops,hacc=>by
  simp only[QK];refine QwI ag l _ (λj o' h=>by have:=hops (j+1) o' (by simpa using h);simpa[Rh,Nat.add_comm 1 j] using this) ?_;intro j m ab k ac
  by_cases al:j<aa.length;·rw[LY al]at ab;exact hacc j m ab k ac
  rw[LR (by omega)]at ab;have ai:j - aa.length=0:=by
   cases ah:j - aa.length with
   | zero=>rfl
   | succ d=>rw[ah]at ab;simp at ab
  rw[ai]at ab;simp at ab;subst ab;have aj:j=aa.length:=by omega
  subst aj;refine Qo5 (ops:=ops) (L:=λk=>k<aa.length) (λi hi o' am e ae ad=>by have:=ag i o' am e ae ad;omega) aa (λj m ak ab k ac=>by have:=hacc j m ak k ac;omega) o.after.toList (λe ae ad=>ag aa.length o (by simpa using hops 0 o rfl) e (by simpa using ae) ad) k ac
def Qy2 {ops:Array Oper}(ab:∀ (i:Nat) (o:Oper),ops[i]? = some o->∀e∈o.after,Region.binds .any e=true->e.on<i){i j:Nat}(h:QG (QK ops.toList []) i j=true):i<j:=by
 unfold QG at h;cases aa:(QK ops.toList [])[j]? with
 | none=>simp[List.getD,aa]at h
 | some m=>
  simp only[List.getD,aa,NB]at h;exact QwI ab ops.toList [] (λj o h=>by simpa using h) (λj m h=>by simp at h) j m aa i h
/-! ### The check by text -/
def looks (ops:Array Oper)(o:Oper):List Nat:=
 (o.op.operands.toList.filterMap λ| .tmp t=>some t | _=>none)++(match o.guard with | some (j,_)=>(VZ ops j).toList | none=>[])
def QeA (ops:Array Oper)(gen:Nat->Bool):Bool:=
 let ms:=QK ops.toList []
 (List.range ops.size).all λj=>
  match ops[j]? with
  | none=>true
  | some o=>
   o.after.all (λe=>!(Region.binds .any e)||Nat.blt e.on j) &&
   (match o.op with | .select .. => false | _=>true) &&
   (List.range ops.size).all λi=>
    match ops[i]? with
    | none=>true
    | some aa=>
     (Nat.beq i j||(match aa.dst with | some t=>!((looks ops o).contains t||o.dst==some t) | none=>true)||(if i<j then QG ms i j else QG ms j i)) &&
     (!(gen i&&gen j&&Nat.blt i j)||QG ms i j)
/-! ### Values below a bound -/
def Wk (ρ:Ren)(m:Nat):Ren:=λid=>if id<m then ρ id else none
def QnT (ρ:Ren)(m:Nat):Sub (Wk ρ m) ρ:=λid i h=>by
 unfold Wk at h;split at h;·exact h
 cases h
def Qie {ρ ρ':Ren}{m aa:Nat}(ab:Sub ρ ρ')(h:m<=aa):Sub (Wk ρ m) (Wk ρ' aa):=λid i hi=>by
 unfold Wk at hi ⊢;split at hi;·rw[Lc (by omega)];exact ab id i hi
 cases hi
def W1 {ρ:Ren}{m id:Nat}{i:ZD}(h:Wk ρ m id=some i):id<m∧ρ id=some i:=by
 unfold Wk at h;split at h;·exact⟨‹_›,h⟩
 cases h
def X7 {ρ:Ren}{m id:Nat}{i:ZD}(h:id<m)(h':ρ id=some i):Wk ρ m id=some i:=by
 unfold Wk;rw[Lc h];exact h'
def Qj (m:Nat):Nat->Value->Bool
 | 0,v=>plain v
 | f+1,v=>match v with
  | .pointer (some a)=>Nat.blt a.block m
  | .slice (some a) _ _=>Nat.blt a.block m
  | .map (some r)=>Nat.blt r m
  | .func fn xs aa=>(match fn with | .yield l=>Nat.blt l m | _=>true)&&xs.all (Qj m f)&&aa.all (Qj m f)
  | .iface _ v=>Qj m f v
  | .agg xs=>xs.all (Qj m f)
  | .tuple xs=>xs.all (Qj m f)
  | v=>plain v
def QDJ {ρ:Ren}{m:Nat}:∀ (f:Nat) {v ae:Value},V ρ v ae->Qj m f v=true->V (Wk ρ m) v ae:=by
 intro f
 induction f with
 | zero=>
  intro v ae h aa;rw[h.plain_eq aa];exact .same _ aa
 | succ f aj=>
  intro v ae h aa;have ag:∀ {xs ab:Array Value},xs.all (Qj m f)=true->(∀ (j:Nat) x x',xs[j]? = some x->ab[j]? = some x'->V ρ x x')->∀ (j:Nat) x x',xs[j]? = some x->ab[j]? = some x'->V (Wk ρ m) x x':=λan aq j x x' e e'=>
   aj (aq j x x' e e') (B1.1 an x (BB e))
  cases h with
  | same v ap=>exact .same v ap
  | ptr id off i h=>exact .ptr id off i (X7 (by simpa[Qj] using aa) h)
  | slice id off len cap al i ak h ac ad am ah ai=>exact .slice id off len cap al i ak (X7 (by simpa[Qj] using aa) h) ac ad am ah ai
  | map id i h=>exact .map id i (X7 (by simpa[Qj] using aa) h)
  | func fn xs ar ab au ao ac ad ah ai=>
   simp only[Qj,Lm]at aa;exact .func fn xs ar ab au ao ac ad (ag aa.1.2 ah) (ag aa.2 ai)
  | yield l i h=>exact .yield l i (X7 (by simpa[Qj] using aa) h)
  | iface t v ae h=>exact .iface t v ae (aj h (by simpa[Qj] using aa))
  | agg xs ab ac ad=>exact .agg xs ab ac (ag (by simpa only[Qj] using aa) ad)
  | tuple xs ab ac ad=>exact .tuple xs ab ac (ag (by simpa only[Qj] using aa) ad)
/-! ### The run in the text's order -/
inductive Cls where
 | pure
 | load
 | alloc (b:Blk)
 | gen
def XH:Cls->Bool
 | .gen=>true
 | _=>false
def X8 (n:Nat)(ops:Array Oper)(A:Env)(o:Oper):Option Bool:=
 match o.guard with
 | none=>some true
 | some (j,want)=>match VZ ops j with
  | some t=>if t<n then(match A t with | .bool b=>some (b==want) | .tuple _=>some false | _=>none) else none
  | none=>none
section
variable (P:Program) (n:Nat) (ops:Array Oper) (As:Nat->Env) (Hs:Nat->Qa) (vs:Nat->Value) (cls:Nat->Cls)
def Qy3 (i:Nat)(o:Oper):Prop:=
 (X8 n ops (As i) o=some false∧vs i=undef∧Hs (i+1)=Hs i∧cls i=.pure) ∨
 (X8 n ops (As i) o=some true∧match cls i with
  | .pure=>Hs (i+1)=Hs i∧∀h,Qx P o (As i) h (vs i) h
  | .load=>Hs (i+1)=Hs i∧∃t x a,o.op=.load t x∧ev (As i) x=.pointer (some a)∧X5 P t a (Hs i)=some (vs i)∧
    ∀k,k<ops.size->XH (cls k)=true->QG (QK ops.toList []) i k=false->QG (QK ops.toList []) k i=false->X5 P t a (Hs k)=some (vs i)∧X5 P t a (Hs (k+1))=some (vs i)∧Qj (Hs i).y 6 (vs i)=true
  | .alloc b=>Hs (i+1)=(Hs i).push b∧(∀h,h.y=(Hs i).y->Qx P o (As i) h (vs i) (h.push b))∧
    ∀k,k<ops.size->i<k->XH (cls k)=true->QG (QK ops.toList []) i k=false->(Hs (k+1)).get (Hs i).y=(Hs k).get (Hs i).y
  | .gen=>Qx P o (As i) (Hs i) (vs i) (Hs (i+1)))
structure ZW:Prop where
 env:∀ (i:Nat) (o:Oper),ops[i]? = some o->As (i+1)=J5 (As i) o.dst (vs i)
 y:∀i,i<ops.size->(Hs i).y<=(Hs (i+1)).y
 ok:∀ (i:Nat) (o:Oper),ops[i]? = some o->QhO P n o=true
 step:∀ (i:Nat) (o:Oper),ops[i]? = some o->Qy3 P n ops As Hs vs cls i o
 check:QeA ops (λi=>XH (cls i))=true
end
section
variable {P:Program} {n:Nat} {ops:Array Oper} {As:Nat->Env} {Hs:Nat->Qa} {vs:Nat->Value} {cls:Nat->Cls}
def ZW.next_le (F:ZW P n ops As Hs vs cls){i j:Nat}(ab:i<=j)(ac:j<=ops.size):(Hs i).y<=(Hs j).y:=by
 induction j with
 | zero=>
  obtain rfl:i=0:=by omega
  exact Lb _
 | succ j aa=>
  by_cases e:i=j+1;·subst e;exact Lb _
  exact N8 (aa (by omega) (by omega)) (F.y j (by omega))
def ZW.checked (F:ZW P n ops As Hs vs cls){i j:Nat}{aj ab:Oper}(hi:ops[i]? = some aj)(ah:ops[j]? = some ab):
  (∀e∈ab.after,Region.binds .any e=true->e.on<j)∧(∀cs b,ab.op≠.select cs b)∧
  (i≠j->∀t,aj.dst=some t->(t∈looks ops ab∨ab.dst=some t)->(i<j->QG (QK ops.toList []) i j=true)∧(j<i->QG (QK ops.toList []) j i=true))∧
  (XH (cls i)=true->XH (cls j)=true->i<j->QG (QK ops.toList []) i j=true):=by
 have am:i<ops.size:=(Nj.1 hi).1;have an:j<ops.size:=(Nj.1 ah).1;have ag:=F.check;unfold QeA at ag;simp only[Li,LU]at ag;have ad:=ag j an;rw[ah]at ad;simp only[Lm,Li,LU]at ad;obtain⟨⟨ak,ai⟩,av⟩:=ad;have ac:=av i am;rw[hi]at ac;simp only[Lm]at ac;refine⟨λe al ae=>?_,λcs b e=>?_,λar t ax ao=>?_,λg1 g2 aq=>?_⟩;·have:=B1.1 ak e al;simpa[ae] using this
 ·rw[e]at ai;cases ai
 ·have aa:=ac.1;rw[ax]at aa;have ap:((looks ops ab).contains t||ab.dst==some t)=true:=by
   rcases ao with h | h;·simp[h]
   simp[h]
  have au:Nat.beq i j=false:=by rw[Zn];simpa using ar
  simp only[ap,au,L8,Nt]at aa;refine⟨λh=>by rw[Lc h]at aa;exact aa,λh=>by rw[Le (by omega)]at aa;exact aa⟩
 have aa:=ac.2;have ae:Nat.blt i j=true:=by simpa using aq
 simpa[g1,g2,ae] using aa
def ZW.quiet (F:ZW P n ops As Hs vs cls){k:Nat}{o:Oper}(ac:ops[k]? = some o)(ab:XH (cls k)=false){id:Nat}(ad:id<(Hs k).y):(Hs (k+1)).get id=(Hs k).get id:=by
 rcases F.step k o ac with⟨_,_,h,_⟩ | ⟨_,h⟩;·rw[h]
 cases aa:cls k with
 | pure=>rw[aa]at h;simp only at h;rw[h.1]
 | load=>rw[aa]at h;simp only at h;rw[h.1]
 | alloc b=>rw[aa]at h;simp only at h;rw[h.1,Qc,Le (by omega)]
 | gen=>rw[aa]at ab;cases ab
def L (aa:Array Bool)(i:Nat):Prop:=aa.getD i false=true
structure Inv (P:Program) (n:Nat) (ops:Array Oper) (As:Nat->Env) (Hs:Nat->Qa) (cls:Nat->Cls) (d0:List Deferred) (ρ0:Ren) (w0:World) (listed:Array Bool) (a:Act) (w:World) (ρ:Ren) (G:Qa):Prop where
 size:listed.size=ops.size
 closed:Qid ops (L listed)
 st:St0 ρ0 (Hs 0) w0 ρ G w
 sim:Sim P ρ G w
 dom:∀id i,ρ id=some i->ρ0 id=some i∨∃k,k<ops.size∧L listed k∧(Hs k).y<=id∧id<(Hs (k+1)).y
 dom0:∀id i,ρ0 id=some i->id<(Hs 0).y
 glob0:∀g,g<P.globals.size->∃i,ρ0 g=some i∧i.at_=⟨g,0,none⟩
 blk:∀id i,ρ id=some i->∃q,q<=ops.size∧id<(Hs q).y∧G.get id=(Hs q).get id∧(∀b,G.get id=some b->Wv P (Wk ρ (Hs q).y) i w b)∧
  (∀k,k<ops.size->XH (cls k)=true->L listed k->k<q∨(Hs (k+1)).get id=(Hs k).get id)∧
  (∀k,k<ops.size->XH (cls k)=true->¬L listed k->q<=k∨(Hs (k+1)).y<=id)∧
  (q=0∨∃k,k<ops.size∧L listed k∧q=k+1∧(XH (cls k)=true∨(Hs k).y<=id))
 defers:a.defers=d0
 tsize:a.tmps.size=n
 tmps:∀t,t<n->∃r,r<=ops.size∧V (Wk ρ (Hs r).y) (As r t) (a.tmps.getD t undef)∧
  (∀ (k:Nat) (o:Oper),ops[k]? = some o->o.dst=some t->L listed k->k<r)∧(∀ (k:Nat) (o:Oper),ops[k]? = some o->o.dst=some t->¬L listed k->r<=k)∧
  (r=0∨∃ (k:Nat) (o:Oper),ops[k]? = some o∧o.dst=some t∧L listed k∧r=k+1)
section
variable {d0:List Deferred} {ρ0:Ren} {w0:World} {listed:Array Bool} {a:Act} {w:World} {ρ:Ren} {G:Qa}
structure Rdy (ops:Array Oper) (listed:Array Bool) (i:Nat) (o:Oper):Prop where
 at_:ops[i]? = some o
 not:¬L listed i
 pre:∀k,QG (QK ops.toList []) k i=true->L listed k
 post:∀k,QG (QK ops.toList []) i k=true->¬L listed k
 ed:∀e∈o.after,Region.binds .any e=true->L listed e.on
def QwJ (F:ZW P n ops As Hs vs cls){t:Nat}:∀ {i j:Nat},i<=j->j<=ops.size->(∀ (k:Nat) (o:Oper),i<=k->k<j->ops[k]? = some o->o.dst≠some t)->As j t=As i t:=by
 intro i j
 induction j with
 | zero=>
  intro h _ _;obtain rfl:i=0:=by omega
  rfl
 | succ j ai=>
  intro h ak ab
  by_cases e:i=j+1;·subst e;rfl
  have ag:j<ops.size:=by omega
  have aa:ops[j]? = some ops[j]:=Ng ag;have ah:=ab j ops[j] (by omega) (by omega) aa;rw[F.env j _ aa];have:J5 (As j) ops[j].dst (vs j) t=As j t:=by
   cases ae:ops[j].dst with
   | none=>rfl
   | some d=>
    have:t≠d:=λe=>ah (by rw[ae,e]);exact Qgb _ _ this
  rw[this];exact ai (by omega) (by omega) (λk o ac aj ad=>ab k o ac (by omega) ad)
def Inv.slot (F:ZW P n ops As Hs vs cls)(I:Inv P n ops As Hs cls d0 ρ0 w0 listed a w ρ G){i:Nat}{o:Oper}(R:Rdy ops listed i o){t:Nat}(am:t<n)(ad:t∈looks ops o):
  V (Wk ρ (Hs i).y) (As i t) (a.tmps.getD t undef):=by
 have ap:i<ops.size:=(Nj.1 R.at_).1;obtain⟨r,au,an,ag,ao,ah⟩:=I.tmps t am;have ae:r<=i:=by
  rcases ah with rfl | ⟨k,ok,ab,aa,ac,rfl⟩;·omega
  by_cases ar:k<i;·omega
  exfalso;have aj:k≠i:=λe=>R.not (e▸ac);have:=((F.checked ab R.at_).2.2.1 aj t aa (.inl ad)).2 (by omega);exact R.post k this ac
 have al:As i t=As r t:=QwJ F ae (by omega) (λk ok aq ai ab aa=>by
  have ak:=((F.checked ab R.at_).2.2.1 (by omega) t aa (.inl ad)).1 ai;have:=ag k ok ab aa (R.pre k ak);omega)
 rw[al];exact an.mono (Qie (.refl ρ) (F.next_le ae (by omega)))
def Inv.operands (F:ZW P n ops As Hs vs cls)(I:Inv P n ops As Hs cls d0 ρ0 w0 listed a w ρ G){i:Nat}{o:Oper}(R:Rdy ops listed i o):QoY (Wk ρ (Hs i).y) o (As i) a:=by
 intro x hx;have ad:=F.ok i o R.at_;simp only[QhO,Lm]at ad;have ab:=B1.1 ad.2 x hx;cases x with
 | tmp t=>
  refine I.slot F R (by simpa[QdG] using ab) ?_;unfold looks;refine List.mem_append_left _ (List.mem_filterMap.2 ⟨.tmp t,by simpa using hx,rfl⟩)
 | const v=>exact .closed ab
 | global aa=>
  have ae:aa<P.globals.size:=by simpa[QdG] using ab
  obtain⟨j,ac,e⟩:=I.glob0 aa ae;have ag:=I.st.mono aa j ac;have ah:aa<(Hs 0).y:=I.dom0 aa j ac;have ai:i<ops.size:=(Nj.1 R.at_).1;have:=V.ptr (ρ:=Wk ρ (Hs i).y) aa 0 j (X7 (N5 ah (F.next_le (L7 _) (by omega))) ag);rw[e]at this;exact this
 | func f=>exact .func _ _ _ _ _ rfl rfl rfl (λj x x' h=>by simp at h) (λj x x' h=>by simp at h)
def QgP {listed:Array Bool}{i k:Nat}(hi:i<listed.size):L (listed.setIfInBounds i true) k↔k=i∨L listed k:=by
 unfold L
 by_cases e:k=i;·subst e;simp[N0,hi]
 rw[N0,Bn (by omega),<- N0];simp[e]
def Inv.after (F:ZW P n ops As Hs vs cls)(I:Inv P n ops As Hs cls d0 ρ0 w0 listed a w ρ G){i:Nat}{o:Oper}(R:Rdy ops listed i o){ρ2:Ren}{G2:Qa}{w':World}{ak:Value}
  (ao:St0 ρ G w ρ2 G2 w') (aB:Sim P ρ2 G2 w') (aC:V (Wk ρ2 (Hs (i+1)).y) (vs i) ak) (ay:∀id j,ρ2 id=some j->ρ id=some j∨((Hs i).y<=id∧id<(Hs (i+1)).y))
  (av:∀id j,ρ2 id=some j->∃q,q<=ops.size∧id<(Hs q).y∧G2.get id=(Hs q).get id∧(∀b,G2.get id=some b->Wv P (Wk ρ2 (Hs q).y) j w' b)∧
   (∀k,k<ops.size->XH (cls k)=true->(k=i∨L listed k)->k<q∨(Hs (k+1)).get id=(Hs k).get id)∧
   (∀k,k<ops.size->XH (cls k)=true->k≠i->¬L listed k->q<=k∨(Hs (k+1)).y<=id)∧
   (q=0∨∃k,k<ops.size∧(k=i∨L listed k)∧q=k+1∧(XH (cls k)=true∨(Hs k).y<=id))):
  Inv P n ops As Hs cls d0 ρ0 w0 (listed.setIfInBounds i true) (a.put o.dst ak) w' ρ2 G2:=by
 have an:i<ops.size:=(Nj.1 R.at_).1;have ac:i<listed.size:=by rw[I.size];exact an
 have aL:=Qh8 (F.ok i o R.at_);refine⟨by simp[I.size],λk ab ok aj e am al=>?_,I.st.trans ao,aB,λid j ah=>?_,I.dom0,I.glob0,λid j ah=>?_,?_,?_,λt ap=>?_⟩
 ·rw[QgP ac]at ab ⊢;rcases ab with rfl | ab;·rw[R.at_]at aj;cases aj;exact .inr (R.ed e am al)
  exact .inr (I.closed k ab ok aj e am al)
 ·rcases ay id j ah with h | ⟨ar,au⟩
  ·rcases I.dom id j h with aq | ⟨k,k1,k2,k3,k4⟩;·exact .inl aq
   exact .inr ⟨k,k1,(QgP ac).2 (.inr k2),k3,k4⟩
  exact .inr ⟨i,an,(QgP ac).2 (.inl rfl),ar,au⟩
 ·obtain⟨q,aD,aE,aF,aG,aH,aI,aJ⟩:=av id j ah;refine⟨q,aD,aE,aF,aG,λk ab ag aa=>aH k ab ag ((QgP ac).1 aa),λk ab ag aa=>?_,?_⟩;·rw[QgP ac]at aa;exact aI k ab ag (λe=>aa (.inl e)) (λe=>aa (.inr e))
  rcases aJ with h | ⟨k,k1,k2,k3,k4⟩;·exact .inl h
  exact .inr ⟨k,k1,(QgP ac).2 k2,k3,k4⟩
 ·have:=I.defers;cases o.dst<;>exact this
 ·have:=I.tsize;cases o.dst<;>simp[Act.put,this]
 by_cases ae:o.dst=some t
 ·refine⟨i+1,by omega,?_,λk ok ab ad aa=>?_,λk ok ab ad aa=>?_,.inr ⟨i,o,R.at_,ae,(QgP ac).2 (.inl rfl),rfl⟩⟩;·rw[F.env i o R.at_,ae];simp only[J5,Qh6,Act.put];rw[N0,RC (by rw[I.tsize];exact ap)];exact aC
  ·rw[QgP ac]at aa;rcases aa with rfl | aa;·omega
   by_cases ai:k<i+1;·exact ai
   have:=((F.checked ab R.at_).2.2.1 (by omega) t ad (.inr ae)).2 (by omega);exact absurd aa (R.post k this)
  rw[QgP ac]at aa
  by_cases ai:i+1<=k;·exact ai
  have az:k≠i:=λe=>aa (.inl e);have:=((F.checked ab R.at_).2.2.1 az t ad (.inr ae)).1 (by omega);exact absurd (.inr (R.pre k this)) aa
 obtain⟨r,r1,r2,r3,r4,aK⟩:=I.tmps t ap;refine⟨r,r1,?_,λk ok ab ad aa=>?_,λk ok ab ad aa=>r4 k ok ab ad (λh=>aa ((QgP ac).2 (.inr h))),?_⟩
 ·have aA:(a.put o.dst ak).tmps.getD t undef=a.tmps.getD t undef:=by
   cases ax:o.dst with
   | none=>rfl
   | some d=>
    have:d≠t:=λe=>ae (by rw[ax,e]);simp only[Act.put];rw[N0,Bn this,<- N0]
  rw[aA];exact r2.mono (Qie ao.mono (Lb _))
 ·rw[QgP ac]at aa;rcases aa with rfl | aa;·rw[R.at_]at ab;cases ab;exact absurd ad ae
  exact r3 k ok ab ad aa
 rcases aK with h | ⟨k,ok,k1,k2,k3,k4⟩;·exact .inl h
 exact .inr ⟨k,ok,k1,k2,(QgP ac).2 (.inr k3),k4⟩
def Inv.still (F:ZW P n ops As Hs vs cls)(I:Inv P n ops As Hs cls d0 ρ0 w0 listed a w ρ G){i:Nat}{o:Oper}(R:Rdy ops listed i o)(ae:XH (cls i)=false){ad:Value}(ai:V (Wk ρ (Hs (i+1)).y) (vs i) ad):
  Inv P n ops As Hs cls d0 ρ0 w0 (listed.setIfInBounds i true) (a.put o.dst ad) w ρ G:=by
 refine I.after F R ⟨.refl ρ,Lb _,λ_ _ _ h=>h,λ_ _ b b' _ h ah h'=>(by rw[h]at h';cases h';exact ah),λid i h h'=>(by rw[h']at h;cases h),rfl,rfl,rfl,Lb _,λ_ _ _=>rfl⟩ I.sim ai (λid j h=>.inl h) (λid j ag=>?_);obtain⟨q,aj,ak,al,am,an,ao,ap⟩:=I.blk id j ag;refine⟨q,aj,ak,al,am,λk ac aa ab=>?_,λk ac aa _ ab=>ao k ac aa ab,?_⟩
 ·rcases ab with rfl | ab;·rw[ae]at aa;cases aa
  exact an k ac aa ab
 rcases ap with h | ⟨k,k1,k2,k3,k4⟩;·exact .inl h
 exact .inr ⟨k,k1,.inr k2,k3,k4⟩
def Inv.frame (F:ZW P n ops As Hs vs cls)(I:Inv P n ops As Hs cls d0 ρ0 w0 listed a w ρ G){i:Nat}{o:Oper}(R:Rdy ops listed i o){h h':Qa}(aQ:h.y=(Hs i).y)(aG:h'.y=(Hs (i+1)).y)
  (aV:Sim P (Wk ρ (Hs i).y) h w) (aM:∀id j b,Wk ρ (Hs i).y id=some j->h.get id=some b->G.get id=some b)
  (aT:∀id j b,Wk ρ (Hs i).y id=some j->h.get id=some b->h'.get id=(Hs (i+1)).get id∧XH (cls i)=true)
  (aR:∀id,(Hs i).y<=id->id<(Hs (i+1)).y->h'.get id=(Hs (i+1)).get id∧∀k,k<ops.size->i<k->XH (cls k)=true->L listed k->(Hs (k+1)).get id=(Hs k).get id)
  (aU:XH (cls i)=true->∀id j,ρ id=some j->id<(Hs i).y->h.get id=none->(Hs i).get id=none)
  {ρ':Ren} {w':World} {aL:Value} (aW:V ρ' (vs i) aL) (am:St (Wk ρ (Hs i).y) h w ρ' h' w') (al:Sim P ρ' h' w') (aN:XH (cls i)=true->∀id j,Wk ρ (Hs i).y id=some j->(Hs i).get id=none->(Hs (i+1)).get id=none):
  ∃ρ2 G2,Inv P n ops As Hs cls d0 ρ0 w0 (listed.setIfInBounds i true) (a.put o.dst aL) w' ρ2 G2:=by
 have ay:i<ops.size:=(Nj.1 R.at_).1;have aH:∀id,h.y<=id->id<h'.y->ρ id=none:=λid ar au=>by
  cases e:ρ id with
  | none=>rfl
  | some j=>
   rw[aQ]at ar;rw[aG]at au;exfalso;rcases I.dom id j e with aq | ⟨k,k1,k2,k3,k4⟩;·have:=I.dom0 id j aq;have:=F.next_le (L7 i) (by omega);omega
   have aB:k≠i:=λe=>R.not (e▸k2);rcases Fa aB with aj | aP;·have:=F.next_le (show k+1<=i by omega) (by omega);omega
   have:=F.next_le (show i+1<=k by omega) (by omega);omega
 obtain⟨t1,t2,bi⟩:=Qy1 I.sim (QnT ρ _) aV aM aH am al;have aD:Sub ρ' (Wk (Qq0 ρ ρ') (Hs (i+1)).y):=λid j ab=>X7 (by rw[<- aG];exact al.dom id j ab) (Y5 ab);refine⟨_,_,I.after F R t1 t2 (aW.mono aD) (λid j ab=>?_) (λid j ab=>?_)⟩
 ·cases e:ρ' id with
  | none=>rw[JB e]at ab;exact .inl ab
  | some ai=>
   rw[Y5 e]at ab;cases ab;cases e1:Wk ρ (Hs i).y id with
   | some ag=>
    have:=am.mono id ag e1;rw[e]at this;cases this;exact .inl (W1 e1).2
   | none=>
    have ar:=(am.fresh id j e e1).1;have au:=al.dom id j e;exact .inr ⟨by omega,by omega⟩
 have aA:id<max G.y h'.y:=t2.dom id j ab;have aO:∀k,k<ops.size->XH (cls i)=true->XH (cls k)=true->L listed k->k<i:=λk ae g1 g2 ac=>by
  rcases Dj k i with h | h | h;·exact h
  ·exact absurd (h▸ac) R.not
  have:=(F.checked R.at_ (Ng ae)).2.2.2 g1 g2 h;exact absurd ac (R.post k this)
 by_cases aI:∃ag b,Wk ρ (Hs i).y id=some ag∧h.get id=some b
 ·obtain⟨ag,b,e1,e2⟩:=aI;have ao:=am.mono id ag e1;have:ag=j:=by rw[Y5 ao]at ab;cases ab;rfl
  subst this;obtain⟨p1,p2⟩:=aT id ag b e1 e2;have aj:=(W1 e1).1;have ah:(Qq1 (Wk ρ (Hs i).y) G h h').get id=h'.get id:=by rw[Gf aA,Qq2 (by omega) e1 e2]
  refine⟨i+1,by omega,N5 aj (F.y i ay),ah.trans p1,λb' an=>?_,λk ae ad ac=>?_,λk ae ad az ac=>?_,.inr ⟨i,ay,.inl rfl,rfl,.inl p2⟩⟩;·rw[ah]at an;exact(al.live id b' ag an ao).mono aD rfl
  ·rcases ac with rfl | ac;·left;omega
   left;have:=aO k ae p2 ad ac;omega
  left;rcases Dj k i with aa | aa | aa;·have:=(F.checked (Ng ae) R.at_).2.2.2 ad p2 aa;exact absurd (R.pre k this) ac
  ·exact absurd aa az
  omega
 by_cases aC:(Hs i).y<=id∧id<(Hs (i+1)).y
 ·obtain⟨aE,aK⟩:=aC;obtain⟨p1,p2⟩:=aR id aE aK;have ak:=aH id (by omega) (by omega);have ao:ρ' id=some j:=by
   cases e:ρ' id with
   | none=>rw[JB e,ak]at ab;cases ab
   | some ai=>rw[Y5 e]at ab;exact ab
  have ah:(Qq1 (Wk ρ (Hs i).y) G h h').get id=h'.get id:=by rw[Gf aA,Qt3 (by omega) (by omega)]
  refine⟨i+1,by omega,aK,ah.trans p1,λb' an=>?_,λk ae ad ac=>?_,λk ae ad az ac=>?_,.inr ⟨i,ay,.inl rfl,rfl,.inr aE⟩⟩;·rw[ah]at an;exact(al.live id b' j an ao).mono aD rfl
  ·rcases ac with rfl | ac;·left;omega
   rcases Nq i k with aa | aa;·right;exact p2 k ae aa ad ac
   left;omega
  rcases Dj k i with aa | aa | aa;·right;exact N8 (F.next_le (show k+1<=i by omega) (by omega)) aE
  ·exact absurd aa az
  left;omega
 ·-- as it was
  have aX:∀ai,ρ' id=some ai->Wk ρ (Hs i).y id=some ai:=λai e=>by
   cases e1:Wk ρ (Hs i).y id with
   | some ag=>have:=am.mono id ag e1;rw[e]at this;exact this.symm
   | none=>
    exfalso;have ar:=(am.fresh id ai e e1).1;have au:=al.dom id ai e;exact aC ⟨by omega,by omega⟩
  have ak:ρ id=some j:=by
   cases e:ρ' id with
   | none=>rw[JB e]at ab;exact ab
   | some ai=>rw[Y5 e]at ab;cases ab;exact(W1 (aX j e)).2
  have ax:Wk ρ (Hs i).y id=none∨h.get id=none:=by
   cases e1:Wk ρ (Hs i).y id with
   | none=>exact .inl rfl
   | some ag=>
    cases e2:h.get id with
    | none=>exact .inr rfl
    | some b=>exact absurd ⟨ag,b,e1,e2⟩ aI
  have ah:(Qq1 (Wk ρ (Hs i).y) G h h').get id=G.get id:=by
   rw[Gf aA]
   by_cases aj:id<h.y;·exact Qlf aj ax
   exact Qt4 (by omega) (by rcases Nq id h'.y with aa | aa;(exact absurd ⟨by omega,by omega⟩ aC);exact aa)
  obtain⟨q,aY,aZ,ba,bc,bd,bg,bh⟩:=I.blk id j ak;refine⟨q,aY,aZ,ah.trans ba,λb av=>?_,λk ae ad ac=>?_,λk ae ad _ ac=>bg k ae ad ac,?_⟩;·rw[ah]at av;exact(bc b av).mono (Qie t1.mono (Lb _)) (bi id j b ak av ax)
  ·rcases ac with rfl | ac
   ·by_cases aj:id<(Hs k).y
    ·right;have aJ:=X7 aj ak;have aS:h.get id=none:=by rcases ax with e | e;(rw[aJ]at e;cases e);exact e
     have aF:=aU ad id j ak aj aS;rw[aF];exact aN ad id j aJ aF
    left;rcases I.dom id j ak with aq | ⟨ap,k1,k2,k3,k4⟩;·have:=I.dom0 id j aq;have:=F.next_le (L7 k) (by omega);omega
    have aB:ap≠k:=λe=>R.not (e▸k2);have aP:k<ap:=by
     rcases Fa aB with aa | aa;·have:=F.next_le (show ap+1<=k by omega) (by omega);omega
     exact aa
    rcases Nq ap q with aa | aa;·omega
    have:=F.next_le aa (by omega);omega
   exact bd k ae ad ac
  rcases bh with aa | ⟨k,k1,k2,k3,k4⟩;·exact .inl aa
  exact .inr ⟨k,k1,.inr k2,k3,k4⟩
def Sim.empty {ρ:Ren}{w:World}{m:Nat}(aa:∀id j,ρ id=some j->id<m)(ab:∀g,g<P.globals.size->∃j,ρ g=some j∧j.at_=⟨g,0,none⟩):Sim P ρ ⟨m,.nil⟩ w:=
 ⟨aa,λid b j h=>by simp[Qa.get,Tr.get_nil]at h,λag ah b1 ac ad ae h=>by simp[Qa.get,Tr.get_nil]at h,ab⟩
def Inv.globR (F:ZW P n ops As Hs vs cls)(I:Inv P n ops As Hs cls d0 ρ0 w0 listed a w ρ G){i:Nat}(hi:i<=ops.size):∀g,g<P.globals.size->∃j,Wk ρ (Hs i).y g=some j∧j.at_=⟨g,0,none⟩:=λg ab=>by
 obtain⟨j,aa,e⟩:=I.glob0 g ab;exact⟨j,X7 (N5 (I.dom0 g j aa) (F.next_le (L7 _) hi)) (I.st.mono g j aa),e⟩
def Inv.now (F:ZW P n ops As Hs vs cls)(I:Inv P n ops As Hs cls d0 ρ0 w0 listed a w ρ G){i:Nat}{o:Oper}(R:Rdy ops listed i o)(ad:XH (cls i)=true){id:Nat}{j:ZD}(au:id<(Hs i).y)(aj:ρ id=some j):
  G.get id=(Hs i).get id∧∀b,G.get id=some b->Wv P (Wk ρ (Hs i).y) j w b:=by
 have av:i<ops.size:=(Nj.1 R.at_).1;obtain⟨q,ax,am,an,ao,ap,ay,aq⟩:=I.blk id j aj;have ae:q<=i:=by
  rcases aq with rfl | ⟨k,k1,k2,rfl,k4⟩;·omega
  have ak:k≠i:=λe=>R.not (e▸k2);rcases Fa ak with aa | aa;·omega
  exfalso;rcases k4 with k4 | k4;·have:=(F.checked R.at_ (Ng k1)).2.2.2 ad k4 aa;exact R.post k this k2
  have:=F.next_le (show i<=k by omega) (by omega);omega
 have ag:∀r,q<=r->r<=i->(Hs r).get id=(Hs q).get id:=by
  intro r
  induction r with
  | zero=>
   intro ah _;obtain rfl:q=0:=by omega
   rfl
  | succ r al=>
   intro ah ar
   by_cases e:q=r+1;·subst e;rfl
   have ac:r<ops.size:=by omega
   rw[<- al (by omega) (by omega)];cases ab:XH (cls r) with
   | false=>exact F.quiet (Ng ac) ab (N5 am (F.next_le (by omega) (by omega)))
   | true=>
    have:=(F.checked (Ng ac) R.at_).2.2.2 ab ad (by omega);rcases ap r ac ab (R.pre r this) with aa | aa;·omega
    exact aa
 refine⟨by rw[an,ag i ae (Lb _)],λb ai=>(ao b ai).mono (Qie (.refl ρ) (F.next_le ae (by omega))) rfl⟩
def Inv.run (F:ZW P n ops As Hs vs cls)(I:Inv P n ops As Hs cls d0 ρ0 w0 listed a w ρ G){i:Nat}{o:Oper}(R:Rdy ops listed i o){K:Act->World->Prop}{Q:Exit->Act->World->Prop}
  (ay:∀aX w' ρ' G',Inv P n ops As Hs cls d0 ρ0 w0 (listed.setIfInBounds i true) aX w' ρ' G'->K aX w') (z:Rd):wpOpIn (fen z) 0 P ops Q i K a w:=by
 have b6:i<ops.size:=(Nj.1 R.at_).1;have bj:∀b,X8 n ops (As i) o=some b->Region.wanted o (yielded ops a.tmps)=b:=λb aa=>by
  unfold X8 at aa;split at aa;·rename_i ar;cases aa;simp[Region.wanted,ar]
  rename_i j bZ ar;split at aa
  ·rename_i t au;split at aa
   ·rename_i aM;split at aa
    ·rename_i b0 aN;cases aa;have ab:=I.slot F R aM (by unfold looks;rw[ar];simp[au]);rw[aN]at ab;have aC:t<a.tmps.size:=by rw[I.tsize];exact aM
     have aO:a.tmps[t]? = some (.bool b0):=by
      rw[N0,Ng aC]at ab;rw[Ng aC];simp only[NB]at ab;rw[ab.plain_eq rfl]
     have aU:yielded ops a.tmps j=some b0:=by
      unfold yielded;unfold VZ at au;rw[au];simp[aO]
     simp[Region.wanted,ar,aU]
    ·rename_i bY aN;cases aa;have ab:=I.slot F R aM (by unfold looks;rw[ar];simp[au]);rw[aN]at ab;obtain⟨bQ,e1,_⟩:=ab.tuple_inv;have aC:t<a.tmps.size:=by rw[I.tsize];exact aM
     have aO:a.tmps[t]? = some (.tuple bQ):=by
      rw[N0,Ng aC]at e1;rw[Ng aC];simpa using e1
     have aU:yielded ops a.tmps j=none:=by
      unfold yielded;unfold VZ at au;rw[au];simp[aO]
     simp[Region.wanted,ar,aU]
    cases aa
   cases aa
  cases aa
 unfold wpOpIn;simp only[R.at_];rcases F.step i o R.at_ with⟨aT,ab,aj,ac⟩ | ⟨aT,ao⟩;·rw[Le (by rw[bj false aT];simp)];exact⟨λ_ _=>trivial,ay _ _ _ _ (I.still F R (by rw[ac];rfl) (by rw[ab];exact .closed (by simp[undef,Xq])))⟩
 ·rw[Lc (bj true aT)];have aL:=I.operands F R;have aY:=I.globR F (Nat.le_of_lt b6);have aI:Sim P (Wk ρ (Hs i).y) ⟨(Hs i).y,.nil⟩ w:=Sim.empty (λid j h=>(W1 h).1) aY;have aK:∀id,Qa.get ⟨(Hs i).y,.nil⟩ id=none:=λid=>by simp[Qa.get,Tr.get_nil]
  cases ac:cls i with
  | pure=>
   rw[ac]at ao;obtain⟨aj,aQ⟩:=ao;refine aQ ⟨(Hs i).y,.nil⟩ (Wk ρ (Hs i).y) w a aI aL K Q (λaH ρ' w' ab av aD=>?_) z;obtain⟨ρ2,G2,ax⟩:=I.frame F R (h:=⟨(Hs i).y,.nil⟩) (h':=⟨(Hs i).y,.nil⟩) rfl (by rw[aj]) aI (λid j b _ h=>by rw[aK]at h;cases h) (λid j b _ h=>by rw[aK]at h;cases h)
    (λid aq ai=>by rw[aj]at ai;omega) (λad=>by rw[ac]at ad;cases ad) ab av aD (λad=>by rw[ac]at ad;cases ad)
   exact ay _ _ _ _ ax
  | alloc b=>
   rw[ac]at ao;obtain⟨aj,aQ,aE⟩:=ao;refine aQ ⟨(Hs i).y,.nil⟩ rfl (Wk ρ (Hs i).y) w a aI aL K Q (λaH ρ' w' ab av aD=>?_) z;obtain⟨ρ2,G2,ax⟩:=I.frame F R (h:=⟨(Hs i).y,.nil⟩) (h':=Qa.push ⟨(Hs i).y,.nil⟩ b) rfl (by rw[aj];rfl) aI (λid j b _ h=>by rw[aK]at h;cases h) (λid j b _ h=>by rw[aK]at h;cases h)
    (λid aq ai=>by
     rw[aj]at ai;simp only[Qd]at ai;obtain rfl:id=(Hs i).y:=by omega
     refine⟨by rw[aj,Qc,Qc,Lc rfl,Lc rfl],λk aA az aJ ap=>?_⟩;refine aE k aA az aJ ?_;cases ah:QG (QK ops.toList []) i k with
     | false=>rfl
     | true=>exact absurd ap (R.post k ah))
    (λad=>by rw[ac]at ad;cases ad) ab av aD (λad=>by rw[ac]at ad;cases ad)
   exact ay _ _ _ _ ax
  | gen=>
   rw[ac]at ao;have al:XH (cls i)=true:=by rw[ac];rfl
   have bi:Sim P (Wk ρ (Hs i).y) (Hs i) w:=by
    refine⟨λid j h=>(W1 h).1,λid b j aa am=>?_,λbG bH b1 bo bE bF aq ai bq br bu bw=>?_,aY⟩;·obtain⟨e1,e2⟩:=W1 am;obtain⟨bJ,bK⟩:=I.now F R al e1 e2;exact bK b (by rw[bJ];exact aa)
    obtain⟨e1,e2⟩:=W1 bq;obtain⟨e3,e4⟩:=W1 br;exact I.sim.sep bG bH b1 bo bE bF (by rw[(I.now F R al e1 e2).1];exact aq) (by rw[(I.now F R al e3 e4).1];exact ai) e2 e4 bu bw
   refine ao (Wk ρ (Hs i).y) w a bi aL K Q (λaH ρ' w' ab av aD=>?_) z;obtain⟨ρ2,G2,ax⟩:=I.frame F R (h:=Hs i) (h':=Hs (i+1)) rfl rfl bi
    (λid j b am aa=>by obtain⟨e1,e2⟩:=W1 am;rw[(I.now F R al e1 e2).1];exact aa)
    (λid j b _ _=>⟨rfl,al⟩)
    (λid aq ai=>⟨rfl,λk aA az aJ ap=>by
     have:=(F.checked R.at_ (Ng aA)).2.2.2 al aJ az;exact absurd ap (R.post k this)⟩)
    (λ_ id j _ _ h=>h) ab av aD (λ_ id j am bz=>av.dead id j am bz)
   exact ay _ _ _ _ ax
  | load=>
   rw[ac]at ao;obtain⟨aj,t,x,bn,bd,bp,ap,aE⟩:=ao;have al:XH (cls i)=false:=by rw[ac];rfl
   have hx:=aL x (by rw[bd];simp[Op.operands]);rw[bp]at hx;obtain⟨bI,g1,g2,g3⟩:=hx.ptr_inv;obtain⟨id,off,bX⟩:=bn;simp only at g1 g2 g3;subst g2;obtain⟨b5,am⟩:=W1 g1;obtain⟨q,bW,bm,bL,bM,bN,bO,bP⟩:=I.blk id bI am;have aP:∀r aW:Nat,(Hs r).get id=(Hs aW).get id->X5 P t ⟨id,off,none⟩ (Hs r)=X5 P t ⟨id,off,none⟩ (Hs aW):=λr aW e=>by
    unfold X5;rw[e]
   have aS:∀k,k<ops.size->XH (cls k)=true->(i<=k->L listed k)->(k<i->¬L listed k)->QG (QK ops.toList []) i k=false∧QG (QK ops.toList []) k i=false:=λk aA aJ aq ai=>by
    refine⟨?_,?_⟩
    ·cases ah:QG (QK ops.toList []) i k with
     | false=>rfl
     | true=>
      exfalso
      by_cases az:i<=k;·exact R.post k ah (aq az)
      have:=mask_lt F ah;omega
    cases ah:QG (QK ops.toList []) k i with
    | false=>rfl
    | true=>
     exfalso;have bS:=mask_lt F ah;have bg:=R.pre k ah;rcases Nq k i with ag | ag;·exact ai ag bg
     obtain rfl:k=i:=by omega
     exact R.not bg
   -- the value that is loaded is the same,wherever its block stands now
   have b7:X5 P t ⟨id,off,none⟩ (Hs q)=some (vs i)∧(q<=i∨Qj (Hs i).y 6 (vs i)=true):=by
    rcases Nat.le_total q i with bh | bh
    ·refine⟨?_,.inl bh⟩;have:∀m r,r+m=i->q<=r->X5 P t ⟨id,off,none⟩ (Hs r)=some (vs i):=by
      intro m
      induction m with
      | zero=>
       intro r aR _;obtain rfl:r=i:=by omega
       exact ap
      | succ m aV=>
       intro r aR b9;have ak:r<ops.size:=by omega
       have bc:=aV (r+1) (by omega) (by omega);cases ae:XH (cls r) with
       | false=>
        rw[<- aP (r+1) r (F.quiet (Ng ak) ae (N5 bm (F.next_le b9 (by omega))))];exact bc
       | true=>
        by_cases aB:L listed r
        ·rcases bN r ak ae aB with ag | ag;·omega
         rw[<- aP (r+1) r ag];exact bc
        obtain⟨aF,aG⟩:=aS r ak ae (by omega) (λ_=>aB);exact(aE r ak ae aF aG).1
     exact this (i - q) q (by omega) (Lb _)
    by_cases bA:q=i;·subst bA;exact⟨ap,.inl (Lb _)⟩
    have b4:∀r,r<ops.size->i<=r->r<q->XH (cls r)=true->L listed r:=λr aR bR bV ae=>by
     by_cases aB:L listed r;·exact aB
     exfalso;rcases bO r aR ae aB with ag | ag;·omega
     have:=F.next_le (show i<=r+1 by omega) (by omega);omega
    have key:∀m,i+m<=q->X5 P t ⟨id,off,none⟩ (Hs (i+m))=some (vs i):=by
     intro m
     induction m with
     | zero=>intro _;exact ap
     | succ m aV=>
      intro bT;have ak:i+m<ops.size:=by omega
      have b8:=aV (by omega);cases ae:XH (cls (i+m)) with
      | false=>
       have:=aP (i+m+1) (i+m) (F.quiet (Ng ak) ae (N5 b5 (F.next_le (by omega) (by omega))));rw[show i+(m+1)=i+m+1 by omega,this];exact b8
      | true=>
       obtain⟨aF,aG⟩:=aS (i+m) ak ae (λ_=>b4 (i+m) ak (by omega) (by omega) ae) (by omega);exact(aE (i+m) ak ae aF aG).2.1
    refine⟨by have:=key (q - i) (by omega);rwa [show i+(q - i)=q by omega]at this,.inr ?_⟩
    -- an operation that acts on memory has run ahead
    rcases bP with rfl | ⟨k,k1,k2,rfl,k4⟩;·omega
    have bU:k≠i:=λe=>R.not (e▸k2);rcases k4 with k4 | k4;·obtain⟨aF,aG⟩:=aS k k1 k4 (λ_=>k2) (by omega);exact(aE k k1 k4 aF aG).2.2
    exfalso;have:=F.next_le (show i<=k by omega) (by omega);omega
   obtain⟨ba,bx⟩:=b7;obtain⟨c,e,ro,aZ⟩:=Qia ba;have b3:G.get id=some (.cells c e ro):=by rw[bL];exact aZ
   obtain⟨aH,r1,r2⟩:=QnN (H:=Hs q) (X7 bm am) aZ (bM _ b3) ba;have bD:V (Wk ρ (Hs (i+1)).y) (vs i) aH:=by
    rw[aj];rcases bx with ag | ag;·exact r2.mono (Qie (.refl ρ) (F.next_le ag (by omega)))
    exact QDJ 6 (r2.mono (QnT ρ _)) ag
   have bC:(execOp a.eval o).run P w=.ok (.value aH) w:=by
    unfold execOp;simp only[bd,Instr.loadAt,g3,Instr.sureAddr,LW,Nc,Lz,r1]
   refine⟨λ_ _=>trivial,?_⟩;rw[Qh7 bC (by simp) _];exact ay _ _ _ _ (I.still F R al bD)
 where
 mask_lt (F:ZW P n ops As Hs vs cls) {i j:Nat} (h:QG (QK ops.toList []) i j=true):i<=j:=
  Qgh (L:=λk=>k<=j) (λk aA o ah e b2 aa=>by have:=(F.checked ah ah).1 e b2 aa;omega) h (Lb _)
def QDK (F:ZW P n ops As Hs vs cls){i:Nat}(ai:Qid ops (L listed))(ap:listed.size=ops.size)(ao:i∈Region.ready .any ops listed):∃o,Rdy ops listed i o:=by
 obtain⟨ac,o,ab,ah⟩:=mem_ready.1 ao;have al:i<ops.size:=(Nj.1 ab).1;have aj:¬L listed i:=λh=>by
  unfold L at h;rw[N0,Ng (by rw[ap];exact al)]at h ac;simp only[NB]at h ac;rw[h]at ac;cases ac
 -- the set with the new one is closed too
 have ak:Qid ops (λk=>k=i∨L listed k):=λk aa ok ag e ae ad=>by
  rcases aa with rfl | aa;·rw[ab]at ag;cases ag;exact .inr (ah e ae ad)
  exact .inr (ai k aa ok ag e ae ad)
 refine⟨o,ab,aj,λk aa=>?_,λk aa an=>aj (Qgh ai aa an),λe ae ad=>ah e ae ad⟩;have am:k=i∨L listed k:=Qgh ak aa (.inl rfl);rcases am with rfl | h;·have:=Qy2 (λi o ab=>(F.checked ab ab).1) aa;omega
 exact h
def QwK (F:ZW P n ops As Hs vs cls)(ae:listed.size=ops.size)(ad:Region.ready .any ops listed=[]):∀i,i<ops.size->L listed i:=by
 intro i
 induction i using Nat.strongRecOn with
 | _ i ag=>
  intro hi
  by_cases aa:L listed i;·exact aa
  exfalso;have:i∈Region.ready .any ops listed:=by
   refine mem_ready.2 ⟨?_,ops[i],Ng hi,λe ac ab=>?_⟩;·unfold L at aa;rw[N0,Ng (by rw[ae];exact hi)]at aa ⊢;simpa using aa
   have:=(F.checked (Ng hi) (Ng hi)).1 e ac ab;exact ag e.on this (by omega)
  rw[ad]at this;cases this
def left (listed:Array Bool):Nat:=(List.range listed.size).countP λi=>!(listed.getD i false)
def QDL {i:Nat}(hi:i<listed.size)(ac:¬L listed i):left (listed.setIfInBounds i true)+1=left listed:=by
 unfold left;rw[Array.size_setIfInBounds];unfold L at ac;have ai:listed.getD i false=false:=by simpa using ac
 have key:∀ (l:List Nat),l.Nodup->i∈l->(l.countP λk=>!((listed.setIfInBounds i true).getD k false))+1=l.countP λk=>!(listed.getD k false):=by
  intro l
  induction l with
  | nil=>intro _ h;cases h
  | cons x l aj=>
   intro aa ah;rw[FR]at aa;have ad:∀k,k≠i->(listed.setIfInBounds i true).getD k false=listed.getD k false:=λk ab=>by
    rw[N0,Bn (by omega),<- N0]
   by_cases hx:x=i
   ·subst hx;have ae:(listed.setIfInBounds x true).getD x false=true:=by simp[N0,hi]
    have ag:(l.countP λk=>!((listed.setIfInBounds x true).getD k false))=l.countP λk=>!(listed.getD k false):=by
     apply List.countP_congr;intro k ab;rw[ad k (λe=>aa.1 (e▸ab))]
    rw[FG,FG,ae,ag,ai];simp
   rw[FG,FG,ad x hx];have:=aj aa.2 (by cases ah with | head=>exact absurd rfl hx | tail _ h=>exact h);omega
 exact key _ List.nodup_range (LU.2 hi)
def QB8 (h:left listed=0)(ag:listed.size=ops.size):Region.ready .any ops listed=[]:=by
 cases ae:Region.ready .any ops listed with
 | nil=>rfl
 | cons i l=>
  exfalso;have ac:i∈Region.ready .any ops listed:=by rw[ae];simp
  obtain⟨aa,o,ad,_⟩:=mem_ready.1 ac;have ab:i<listed.size:=by rw[ag];exact(Nj.1 ad).1
  unfold left at h;rw[List.countP_eq_zero]at h;have:=h i (LU.2 ab);rw[N0,Ng ab]at this aa;simp only[NB]at this aa;simp[aa]at this
def Inv.any (F:ZW P n ops As Hs vs cls)(z:Rd){Q:Exit->Act->World->Prop}
  (ac:∀listed a w ρ G,Inv P n ops As Hs cls d0 ρ0 w0 listed a w ρ G->(∀i,i<ops.size->L listed i)->Q .normal a w):
  ∀ (aa:Nat) (listed:Array Bool) (a:Act) (w:World) (ρ:Ren) (G:Qa),left listed=aa->Inv P n ops As Hs cls d0 ρ0 w0 listed a w ρ G->wpAnyIn (fen z) 0 P .any ops Q aa listed a w:=by
 intro aa
 induction aa with
 | zero=>
  intro listed a w ρ G hl I;have ab:=QB8 hl I.size;exact⟨ab,ac listed a w ρ G I (QwK F I.size ab)⟩
 | succ aa ag=>
  intro listed a w ρ G hl I;refine⟨λab=>ac listed a w ρ G I (QwK F I.size ab),λi hi=>?_⟩;obtain⟨o,R⟩:=QDK F I.closed I.size hi;have ae:i<listed.size:=by rw[I.size];exact(Nj.1 R.at_).1
  exact I.run F R (λad w' ρ' G' I'=>ag _ ad w' ρ' G' (by have:=QDL ae R.not;omega) I') z
def Inv.done (F:ZW P n ops As Hs vs cls)(I:Inv P n ops As Hs cls d0 ρ0 w0 listed a w ρ G)(aj:∀i,i<ops.size->L listed i):
  St ρ0 (Hs 0) w0 ρ (Hs ops.size) w∧Sim P ρ (Hs ops.size) w∧EnvRel ρ n (As ops.size) a∧a.defers=d0:=by
 have aa:∀id j,ρ id=some j->G.get id=(Hs ops.size).get id∧id<(Hs ops.size).y:=λid j ac=>by
  obtain⟨q,aC,aq,aD,aH,aE,aI,aJ⟩:=I.blk id j ac;have au:∀m,q+m<=ops.size->(Hs (q+m)).get id=(Hs q).get id:=by
   intro m
   induction m with
   | zero=>intro _;rfl
   | succ m aB=>
    intro aG;have ag:q+m<ops.size:=by omega
    rw[<- aB (by omega),show q+(m+1)=q+m+1 by omega];cases ak:XH (cls (q+m)) with
    | false=>exact F.quiet (Ng ag) ak (N5 aq (F.next_le (by omega) (by omega)))
    | true=>
     rcases aE (q+m) ag ak (aj _ ag) with al | al;·omega
     exact al
  have:=au (ops.size - q) (by omega);rw[show q+(ops.size - q)=ops.size by omega]at this;exact⟨by rw[aD,this],N5 aq (F.next_le aC (Lb _))⟩
 refine⟨St0.full ⟨I.st.mono,F.next_le (L7 _) (Lb _),λid i h h'=>?_,λid i b b' h ad ae ab=>?_,I.st.fresh,I.st.os,I.st.tape,I.st.output,I.st.size,I.st.frame⟩ (λid i h h'=>?_),
  ⟨λid j h=>(aa id j h).2,λid b j av ac=>I.sim.live id b j (by rw[(aa id j ac).1];exact av) ac,λao ap b1 ar am an ad ae ab ai=>I.sim.sep ao ap b1 ar am an (by rw[(aa ao am ab).1];exact ad) (by rw[(aa ap an ai).1];exact ae) ab ai,I.sim.glob⟩,
  ⟨I.tsize,λt aA=>?_⟩,I.defers⟩
 ·rw[<- (aa id i (I.st.mono id i h)).1];exact I.st.dead id i h h'
 ·rw[<- (aa id i (I.st.mono id i h)).1]at ab;exact I.st.ro id i b b' h ad ae ab
 ·rcases I.dom id i h with ah | ⟨k,k1,k2,k3,k4⟩;·rw[h']at ah;cases ah
  exact N8 (F.next_le (L7 _) (by omega)) k3
 obtain⟨r,r1,r2,r3,r4,aK⟩:=I.tmps t aA;have:As ops.size t=As r t:=QwJ F r1 (Lb _) (λk o aF az ay ax=>by have:=r3 k o ay ax (aj k az);omega);rw[this];exact r2.mono (QnT ρ _)
end
def QwL {id:Nat}{Q:Ex->Env->Qa->Prop}(ai:P.follows .mixedOrders=true)(F:ZW P n ops As Hs vs cls)(ad:Q .normal (As ops.size) (Hs ops.size)):AWp P n (.region id ops true) Q (As 0) (Hs 0):=by
 intro z ρ w a hs he;refine wpIn_region_any ai ?_;obtain⟨d1,d2⟩:=hs.drew;have aa:∀i,¬L (Array.replicate ops.size false) i:=λi h=>by
  unfold L at h;rw[N0,Array.getElem?_replicate]at h;split at h<;>simp at h
 have I0:Inv P n ops As Hs cls a.defers ρ w.drew (Array.replicate ops.size false) a w.drew ρ (Hs 0):=by
  refine⟨by simp,λi hi=>absurd hi (aa i),(St.refl ρ (Hs 0) w.drew).to0,d2,λid j h=>.inl h,hs.dom,hs.glob,λid j ac=>⟨0,L7 _,hs.dom id j ac,rfl,λb ag=>?_,λk _ _ ab=>absurd ab (aa k),λk _ _ _=>.inl (L7 _),.inl rfl⟩,rfl,he.size,λt aj=>⟨0,L7 _,?_,λk o _ _ ab=>absurd ab (aa k),λk o _ _ _=>L7 _,.inl rfl⟩⟩;·exact(d2.live id b j ag ac).mono (λx y h=>X7 (hs.dom x y h) h) rfl
  exact(he.tmps t aj).mono (λx y h=>X7 (hs.dom x y h) h)
 have ah:left (Array.replicate ops.size false)=ops.size:=by
  unfold left;have:∀i∈List.range (Array.replicate ops.size false).size,(!(Array.replicate ops.size false).getD i false)=true:=λi _=>by
   have:=aa i;unfold L at this;simpa using this
  rw[List.countP_eq_length.2 this];simp
 refine Inv.any F z (λan am w' ρ' G' I ae=>?_) ops.size _ a w.drew ρ (Hs 0) ah I0;obtain⟨t1,t2,ak,al⟩:=I.done F ae;exact⟨.normal,ρ',_,_,ad,d1.trans t1,t2,⟨ak,he.fr.step (d1.trans t1) al⟩,trivial⟩
end
section
variable {P:Program} {n:Nat} {Q:Ex->Env->Qa->Prop} {A:Env} {H:Qa}
def QDM {b:Frame}{a:Act}{k:List Item}{cs:List Frame}{w:World}{c:Code}:step P (lone (b.atR a (.code (.scope c)::k)) cs w)=.next (lone (b.atR a (.code c::.inScope c::k)) cs w):=
 step_lone_go (by simp[stepG,stepG.exec,Frame.atR])
def Qy4 {b:Frame}{a:Act}{k:List Item}{cs:List Frame}{w:World}{c:Code}:step P (lone (b.atR a (.inScope c::k)) cs w)=.next (lone (b.atR a k) cs w):=
 step_lone_go (by simp[stepG,stepG.exec,Frame.atR])
def Qif (P:Program)(n:Nat)(c:Code)(Q:Ex->Env->Qa->Prop)(A:Env)(H:Qa):Prop:=
 ∀z ρ w a,Sim P ρ H w->Qcb z ρ H w n A a->∀ (b:Frame) (k:List Item) (cs:List Frame),b.roundOf=(fen z).round->(fen z).fn b.fn->(fen z).room (cs.length+1+0)->
  ∃e aa w',QnM P n z ρ H w Q e aa w'∧ArrivesIn (Machine.fenced P (fen z)) P (lone (b.atR a (.code c::.inLoop c::k)) cs w) b k cs e aa w'
def Qo6 {c:Code}(h:Qif P n c Q A H):AWp P n (.loop c) Q A H:=λz ρ w a ai ae b k cs ah aa ab=>by
 obtain⟨e,ac,w',ag,ad⟩:=h z ρ w a ai ae b k cs ah aa ab;exact⟨e,ac,w',ag,.of_steps (.one (fenced_calm aa ab rfl) stepR_loop) ad⟩
def QeW {c:Code}(h:AWp P n c (QIM (Qif P n c Q) Q) A H):Qif P n c Q A H:=λz ρ w a ap am b k cs ah aa ab=>by
 obtain⟨e,a2,ak,an,ac⟩:=h z ρ w a ap am b (.inLoop c::k) cs ah aa ab;obtain⟨e',ρ2,A2,H2,ae,aj,ai,ad,ag⟩:=an;cases e'<;>cases e<;>simp only[QoX]at ag
 case normal.normal=>
  obtain⟨e3,a3,aq,ao,al⟩:=ae z ρ2 ak a2 ai ad b k cs ah aa ab;exact⟨e3,a3,aq,QnM.weaken aj ao,.of_steps (Fs ac (.one (fenced_calm aa ab rfl) stepR_inLoop)) al⟩
 all_goals exact⟨_,a2,ak,⟨_,ρ2,A2,H2,ae,aj,ai,ad,by first | trivial | exact ag⟩,.pass (x:=.inLoop c) rfl (λ_ _=>.inl (by simp)) ac⟩
def QdI (P:Program)(n:Nat)(body c:Code)(Q:Ex->Env->Qa->Prop)(A:Env)(H:Qa):Prop:=
 ∀z ρ w a,Sim P ρ H w->Qcb z ρ H w n A a->∀ (b:Frame) (k:List Item) (cs:List Frame),b.roundOf=(fen z).round->(fen z).fn b.fn->(fen z).room (cs.length+1+0)->
  ∃e aa w',QnM P n z ρ H w Q e aa w'∧ArrivesIn (Machine.fenced P (fen z)) P (lone (b.atR a (.code c::.inScope body::k)) cs w) b k cs e aa w'
def Qgi {c:Code}(h:QdI P n c c Q A H):AWp P n (.scope c) Q A H:=λz ρ w a ai ae b k cs ah aa ab=>by
 obtain⟨e,ac,w',ag,ad⟩:=h z ρ w a ai ae b k cs ah aa ab;exact⟨e,ac,w',ag,.of_steps (.one (fenced_calm aa ab rfl) QDM) ad⟩
def QB9 (P:Program)(n:Nat)(body:Code)(Q:Ex->Env->Qa->Prop):Ex->Env->Qa->Prop
 | .goto l,A,H=>match findLabel body l with
  | some aa=>QdI P n body aa Q A H
  | none=>Q (.goto l) A H
 | e,A,H=>Q e A H
def KX {body c:Code}(h:AWp P n c (QB9 P n body Q) A H):QdI P n body c Q A H:=λz ρ w a av aq b k cs ao ak am=>by
 obtain⟨e,a2,ah,ar,ab⟩:=h z ρ w a av aq b (.inScope body::k) cs ao ak am;obtain⟨e',ρ2,A2,H2,aa,ag,ae,ad,aj⟩:=ar;cases e'<;>cases e<;>simp only[QoX]at aj
 case normal.normal=>exact⟨.normal,a2,ah,⟨.normal,ρ2,A2,H2,aa,ag,ae,ad,trivial⟩,Fs ab (.one (fenced_calm ak am rfl) Qy4)⟩
 case exit.exit i j=>
  subst aj;exact⟨.exit i,a2,ah,⟨.exit i,ρ2,A2,H2,aa,ag,ae,ad,rfl⟩,λan ac=>ab.1 an (by simp[exitTo,ac]),λal ac=>ab.2 al (by simp[exitTo,ac])⟩
 case goto.goto i j=>
  subst aj;simp only[QB9]at aa;cases ai:findLabel body i with
  | none=>
   rw[ai]at aa;exact⟨.goto i,a2,ah,⟨.goto i,ρ2,A2,H2,aa,ag,ae,ad,rfl⟩,λan ac=>ab.1 an (by simp[gotoIn,ai,ac]),λal ac=>ab.2 al (by simp[gotoIn,ai,ac])⟩
  | some ay=>
   rw[ai]at aa;obtain⟨e3,a3,ax,au,ap⟩:=aa z ρ2 ah a2 ae ad b k cs ao ak am;exact⟨e3,a3,ax,QnM.weaken ag au,.of_steps (ab.1 _ (by simp[gotoIn,ai])) ap⟩
 case ret.ret=>exact⟨.ret,a2,ah,⟨.ret,ρ2,A2,H2,aa,ag,ae,ad,trivial⟩,ab⟩
 case panic.panic v ch=>exact⟨.panic ch,a2,ah,⟨.panic v,ρ2,A2,H2,aa,ag,ae,ad,aj⟩,ab⟩
end
def Qo7 (A:Env)(aa:List Nat)(vs:List Value):Env:=(aa.zip vs).foldl (λA p=>upd A p.1 p.2) A
def Qt5 {ρ:Ren}{n:Nat}:∀ (ab:List Nat) (A:Env) (tmps:Array Value) (vs aa:List Value),VL ρ vs aa->tmps.size=n->(∀t,t<n->V ρ (A t) (tmps.getD t undef))->
  ((ab.zip aa).foldl (λt (p:Nat×Value)=>t.setIfInBounds p.1 p.2) tmps).size=n∧∀t,t<n->V ρ (Qo7 A ab vs t) (((ab.zip aa).foldl (λt (p:Nat×Value)=>t.setIfInBounds p.1 p.2) tmps).getD t undef)
 | [],A,tmps,vs,aa,hv,hn,h=>⟨hn,h⟩
 | p::ab,A,tmps,[],aa,hv,hn,h=>by obtain rfl:=hv.unnil;exact⟨hn,h⟩
 | p::ab,A,tmps,v::vs,l,hv,hn,h=>by
  obtain⟨ag,aa,rfl,ac,ad⟩:=hv.uncons;refine Qt5 ab (upd A p v) (tmps.setIfInBounds p ag) vs aa ad (by simpa using hn) (λt ae=>?_)
  by_cases e:t=p;·subst e;rw[Qh6,N0,RC (by omega)];exact ac
  rw[Qgb A v e,N0,Bn (by omega),<- N0];exact h t ae
section
variable {P:Program} {n:Nat} {Q:Ex->Env->Qa->Prop} {A:Env} {H:Qa}
def St.putBoth {ρ ρ':Ren}{H':Qa}{w w':World}{b:Nat}{o:Obj}(h:St ρ H w ρ' H' w')(aa:b<w.heap.size):St ρ H (w.putObj b o) ρ' H' (w'.putObj b o) where
 mono:=h.mono
 y:=h.y
 dead:=h.dead
 ro:=h.ro
 fresh:=λid i ab ac=>by simpa using h.fresh id i ab ac
 os:=h.os
 tape:=h.tape
 output:=h.output
 size:=by simpa using h.size
 frame:=λk ad ae=>by
  by_cases e:k=b;·subst e;rw[World.putObj_heap_same (N5 aa h.size),World.putObj_heap_same aa]
  rw[World.putObj_heap_other e,World.putObj_heap_other e];exact h.frame k (by simpa using ad) ae
def Qgj {w:World}(o:Obj)(k:Nat)(aa:k<w.heap.size):(w.alloc o).heap[k]? = w.heap[k]? := by
 show(w.heap.push o)[k]? = _;rw[Array.getElem?_push,Le (by omega)]
def J4.kill (H:Qa)(l:Nat):J4 (H.kill l) H:=⟨Lb _,λid b aa=>by
 rw[Q0]at aa;split at aa;·cases aa
 exact aa⟩
def Qq4 (l:Nat)(L:Option Code->Blk)(v:Value)(H':Qa):Ex->Env->Qa->Prop
 | .normal,_,H1=>v=.bool true∧J4 H' (H1.set l (L none))
 | .ret,_,H1=>v=.bool false∧J4 H' (H1.set l (L (some .ret)))
 | .exit id,_,H1=>v=.bool false∧J4 H' (H1.set l (L (some (.exit id))))
 | .goto t,_,H1=>v=.bool false∧J4 H' (H1.set l (L (some (.goto t))))
 | .panic _,_,_=>False
def Qt6 (P:Program)(l:Nat)(args:List Value)(H:Qa)(v:Value)(H':Qa):Prop:=
 ∀ρ w args' i,Sim P ρ H w->VL ρ args args'->ρ l=some i->∃fn tmps aa ab,(Instr.yield i.at_.block args'.toArray).run P w=.ok (.round i.at_.block fn tmps aa ab) w∧
  ∀z m,RoundIn (fen z) m P i.at_.block fn tmps aa ab w λe w'=>∃ρ',QDH ρ' (.ret v) e∧St ρ H w ρ' H' w'∧Sim P ρ' H' w'
def QwM {z:Rd}{c:Code}{Q:Exit->Act->World->Prop}{a:Act}{w:World}{m ac:Nat}(h:c.wpIn (fen z) m P Q a w):c.wpIn (fen z) ac P Q a w:=
 λb k cs ab aa ad=>h b k cs ab aa (QDC _ _)
def Qo8 {l:Nat}{A0:Env}{ak:Array Tmp}{am an:Code}{args:List Value}{v:Value}{H':Qa}(az:H.get l=some (.loop A0 n ak am an none))(bz:args.length=ak.size)
  (h:AWp P n am (QIM (AWp P n an (Qq4 l (Blk.loop A0 n ak am an) v H')) (λ_ _ _=>False)) (Qo7 A0 ak.toList args) (H.kill l)):Qt6 P l args H v H':=by
 intro ρ w args' i hs ha hi;obtain⟨fn,tmps,D,aD,bc,bh⟩:=hs.live l _ i az hi;obtain⟨ab,al⟩:∃ab:Loop,ab={state:=.ready,pending:=none,fn:=fn,tmps:=tmps,params:=ak,assign:=am,body:=an,defers:=D}:=⟨_,rfl⟩;have aD:w.heap[i.at_.block]? = some (.loop ab):=by rw[al];exact aD
 have b8:=run_yield (P:=P) (args:=args'.toArray) aD (by rw[al];simp[<- bz,ha.1]);refine⟨_,_,_,_,b8,λz m=>?_⟩;obtain⟨aI,bi⟩:∃aI,aI=(ab.params.zip args'.toArray).foldl (λtmps x=>tmps.setIfInBounds x.1 x.2) ab.tmps:=⟨_,rfl⟩;have b9:ab.params.zip args'.toArray=(ak.toList.zip args').toArray:=by
  rw[al];apply Ru;simp
 have b7:aI=(ak.toList.zip args').foldl (λt (p:Nat×Value)=>t.setIfInBounds p.1 p.2) tmps:=by
  rw[bi,b9,al];simp
 obtain⟨r1,r2⟩:=Qt5 ak.toList A0 tmps args args' ha bc bh;rw[<- b7]at r1 r2
 -- the loop's record is hidden
 have aQ:Hid ρ (H.kill l) w i.at_.block (.loop ab):=⟨aD,λid j bl ae aa e=>by
  rw[Q0]at aa;split at aa;·cases aa
  rename_i ac;exact hs.sep l id _ bl i j az aa hi ae rfl (λe=>ac e.symm) e.symm⟩
 have aS:Sim P ρ (H.kill l) w:=hs.less (.kill H l);have bu:ab.assign=am:=by rw[al]
 have bw:ab.body=an:=by rw[al]
 rw[bu,bw];show RoundIn (fen z) m P i.at_.block ab.fn ((ab.params.zip args'.toArray).foldl (λtmps x=>tmps.setIfInBounds x.1 x.2) ab.tmps) am an w _;rw[<- bi];refine roundIn_of_wpIn (F:=fen z) trivial ?_;have aL:=h ⟨some i.at_.block,0,[]⟩ ρ w {tmps:=aI,defers:=[]} aS ⟨⟨r1,r2⟩,⟨⟨[],rfl,.nil,λd aN=>by simp at aN⟩,λbD aT=>by cases aT;exact⟨rfl,ab,aQ⟩,L7 _⟩⟩;refine FF (F:=fen ⟨some i.at_.block,0,[]⟩) (QwM aL) ?_;rintro e a1 aJ ⟨e',ρ1,A1,H1,bd,bg,b3,aO,b2⟩;cases e'<;>cases e<;>simp only[QoX]at b2
 case normal.normal=>
  have aR:=aQ.step bg;refine⟨_,run_beginRound aR.at_ (by rw[al]),?_⟩;obtain⟨ai,aX⟩:∃ai:Loop,ai={ab with state:=.busy}:=⟨_,rfl⟩;rw[<- aX];have b4:Sim P ρ1 H1 (aJ.putObj i.at_.block (.loop ai)):=b3.putHid aR;have aZ:Hid ρ1 H1 (aJ.putObj i.at_.block (.loop ai)) i.at_.block (.loop ai):=aR.same;have aM:=bd ⟨some i.at_.block,0,[]⟩ ρ1 _ a1 b4 ⟨aO.toEnvRel,⟨⟨[],(aO.fr.round _ rfl).1,.nil,λd aN=>by simp at aN⟩,λbD aT=>by cases aT;exact⟨(aO.fr.round _ rfl).1,ai,aZ⟩,L7 _⟩⟩;refine FF (F:=fen ⟨some i.at_.block,0,[]⟩) (QwM aM) ?_;have b5:St ρ (H.kill l) (w.putObj i.at_.block (.loop ai)) ρ1 H1 (aJ.putObj i.at_.block (.loop ai)):=bg.putBoth aQ.lt;have aC:∀ (aq:Option Code) (ρ3:Ren) (H3:Qa) (ag:World),St ρ1 H1 (aJ.putObj i.at_.block (.loop ai)) ρ3 H3 ag->Sim P ρ3 H3 ag->J4 H' (H3.set l (Blk.loop A0 n ak am an aq))->
    ∃ah,(Instr.endRound i.at_.block aq).run P ag=.ok (.bool aq.isNone) ah∧St ρ H w ρ3 H' ah∧Sim P ρ3 H' ah:=by
   intro aq ρ3 H3 ag ap ax aj;have ay:=aZ.step ap;have ad:=b5.trans ap;obtain⟨aB,aY⟩:∃aB:Loop,aB={ai with state:=if aq.isNone then .ready else .done,pending:=aq}:=⟨_,rfl⟩;refine⟨ag.putObj i.at_.block (.loop aB),by rw[aY];exact run_endRound aq ay.at_,?_,?_⟩
   ·refine St.less ?_ aj;have ba:∀id b,(H.kill l).get id=some b->H.get id=some b:=λid b aa=>by
     rw[Q0]at aa;split at aa;·cases aa
     exact aa
    refine⟨ad.mono,ad.y,λid j ae ao=>?_,λid j b b' ae ao aE aW=>?_,λid j ae bx=>?_,ad.os,ad.tape,ad.output,by have:=ad.size;simpa using this,λk aS bj=>?_⟩
    ·have ac:id≠l:=λe=>by rw[e,az]at ao;cases ao
     rw[Qh,Le ac];exact ad.dead id j ae (by rw[Q0,Le ac];exact ao)
    ·have ac:id≠l:=λe=>by rw[e,az]at ao;cases ao;cases aE
     rw[Qh,Le ac]at aW;exact ad.ro id j b b' ae (by rw[Q0,Le ac];exact ao) aE aW
    ·obtain⟨bq,aK⟩:=ad.fresh id j ae bx;refine⟨bq,?_⟩;rcases aK with aK | ⟨bC,bA,b0,e1,e2,e3,e4⟩;·left;simpa using aK
     right;exact⟨bC,bA,b0,e1,e2,ba _ _ e3,e4⟩
    have ac:k≠i.at_.block:=λe=>bj l i _ hi az rfl e.symm;rw[World.putObj_heap_other ac,ad.frame k (by simpa using aS) (λid j bl aL aM br=>bj id j bl aL (ba _ _ aM) br),World.putObj_heap_other ac]
   refine Sim.less ?_ aj;have aF:Sim P ρ3 H3 (ag.putObj i.at_.block (.loop aB)):=ax.putHid ay;have aP:ρ3 l=some i:=ad.mono _ _ hi;refine⟨aF.dom,λid b j aa ae=>?_,λbo bp b1 aV bm bn g1 g2 aG aH aE ac=>?_,aF.glob⟩
   ·rw[Qh]at aa;split at aa;·rename_i e;subst e;cases aa;rw[aP]at ae;cases ae;refine⟨fn,tmps,D,?_,bc,λt b6=>(bh t b6).mono ad.mono⟩;rw[World.putObj_heap_same ay.lt,aY,aX,al]
    exact aF.live id b j aa ae
   rw[Qh]at g1 g2;split at g1;·rename_i e1;rw[Le (λe2=>ac (e1.trans e2.symm))]at g2;rw[e1,aP]at aG;cases aG;exact λe=>ay.un bp bn aV aH g2 e.symm
   split at g2;·rename_i e1 e2;rw[e2,aP]at aH;cases aH;exact ay.un bo bm b1 aG g1
   exact aF.sep bo bp b1 aV bm bn g1 g2 aG aH aE ac
  rintro e a3 ag ⟨e',ρ3,A3,H3,aA,ap,ax,bE,aU⟩;cases e'<;>cases e<;>simp only[QoX]at aU<;>simp only[Qq4]at aA
  case normal.normal=>
   obtain⟨rfl,aj⟩:=aA;obtain⟨ah,ar,au,av⟩:=aC none ρ3 H3 ag ap ax aj;exact⟨_,ah,ar,ρ3,.same _ rfl,au,av⟩
  case ret.ret=>
   obtain⟨rfl,aj⟩:=aA;obtain⟨ah,ar,au,av⟩:=aC (some .ret) ρ3 H3 ag ap ax aj;exact⟨_,ah,ar,ρ3,.same _ rfl,au,av⟩
  case exit.exit a b=>
   subst aU;obtain⟨rfl,aj⟩:=aA;obtain⟨ah,ar,au,av⟩:=aC (some (.exit a)) ρ3 H3 ag ap ax aj;exact⟨_,ah,ar,ρ3,.same _ rfl,au,av⟩
  case goto.goto a b=>
   subst aU;obtain⟨rfl,aj⟩:=aA;obtain⟨ah,ar,au,av⟩:=aC (some (.goto a)) ρ3 H3 ag ap ax aj;exact⟨_,ah,ar,ρ3,.same _ rfl,au,av⟩
 all_goals exact bd.elim
def V.yield_inv {ρ:Ren}{l:Nat}{z:Value}(h:V ρ (.func (.yield l) #[] #[]) z):∃i,ρ l=some i∧z=.func (.yield i.at_.block) #[] #[]:=by
 cases h with
 | same _ ab=>simp[plain]at ab
 | func fn xs ai ah aj aa ac ad ae ag=>simp[QbT]at aa
 | yield l i h=>exact⟨i,h,rfl⟩
def QwN {d:Option Nat}{ty:TypeId}{pos:String}{af:Array Edge}{g:Option (Nat×Bool)}{c:Operand}{args:Array Operand}{ac:Array TypeId}{l:Nat}{v:Value}{H':Qa}(ag:ev A c=.func (.yield l) #[] #[])
  (ah:Qt6 P l (args.map (ev A)).toList H v H'):Qx P ⟨d,.call ⟨.value c,args,ac⟩,ty,pos,af,g⟩ A H v H':=by
 intro ρ w a hs he K Q hk z;have ab:=he c (by simp[Op.operands,Call.operands]);rw[ag]at ab;obtain⟨i,hi,e⟩:=ab.yield_inv;obtain⟨fn,tmps,ad,ae,am,ai⟩:=ah ρ w (args.map a.eval).toList i hs (Qt0 (λx hx=>he x (by simp[Op.operands,Call.operands,hx]))) hi;have aj:(execOp a.eval ⟨d,.call ⟨.value c,args,ac⟩,ty,pos,af,g⟩).run P w=.ok (.round i.at_.block fn tmps ad ae) w:=by
  rw[<- am];simp only[execOp,resolve,e,Deferred.ofValue,invoke,pure_bind];congr 2;apply Ru;simp
 refine⟨λ_ _=>trivial,?_⟩;rw[Qh7 aj (by simp) _];refine⟨λh=>by simp[fen,Fence.wide]at h,?_⟩;refine(ai z _).mono ?_;rintro e w' ⟨ρ',aa,al,ak⟩;cases e with
 | returned an=>exact hk an ρ' w' aa al ak
 | panicked ao=>exact aa.elim
 | outgrown=>exact aa.elim
def QDN (Q:Ex->Env->Qa->Prop)(A:Env)(H:Qa):Option Code->Prop
 | none=>Q .normal A H
 | some .ret=>Q .ret A H
 | some (.exit id)=>Q (.exit id) A H
 | some (.goto l)=>Q (.goto l) A H
 | _=>False
def Qkc {g:Operand}{ah:Array Tmp}{ae ag:Code}{ar:FuncId}{xs aQ:Array Value}{v:Value}{H2:Qa}{st:Option Code}(bC:QdG P n g=true)(au:ev A g=.func (.func ar) xs aQ)(ba:entered P ar=true)
  (ak:Kd P ar (xs.toList++[.func (.yield H.y) #[] #[]]++aQ.toList) (H.push (.loop A n ah ae ag none)) v H2) {A':Env} {bL:Nat} {bq:Array Tmp} {aR aT:Code} (av:H2.get H.y=some (.loop A' bL bq aR aT st)) (ay:QDN Q A (H2.kill H.y) st):
  AWp P n (.rangeFunc g ah ae ag) Q A H:=by
 intro z ρ w a hs he;have bc:=he.eval hs bC;rw[au]at bc;obtain⟨aC,aD,bw,hx,bK⟩:=bc.func_inv;refine wpIn_rangeFunc λfn _=>?_
 -- what is laid
 obtain⟨aa,mk,ab,D,bH,bm,bg,aM,bi,bz⟩:∃aa mk ab D,(Instr.enterLoop fn a.tmps ah ae ag (fen z).round).run P w=.ok (aa,mk) ab∧
   ab.heap[aa]? = some (.loop {state:=.ready,pending:=none,fn:=fn,tmps:=a.tmps,params:=ah,assign:=ae,body:=ag,defers:=D})∧w.heap.size<=aa∧(w.heap.size<=ab.heap.size∧ab.os=w.os∧ab.tape=w.tape∧ab.output=w.output)∧(∀k,k<w.heap.size->ab.heap[k]? = w.heap[k]?)∧
   ((mk=[]∧a.defers=[])∨(z.r=none∧mk=[Qww w.heap.size]∧ab.heap[w.heap.size]? = some (.deferred (some []))∧aa≠w.heap.size)):=by
  cases ao:z.r with
  | none=>
   refine⟨w.heap.size+1,[Qww w.heap.size],(w.alloc (.deferred (some []))).alloc (.loop {state:=.ready,pending:=none,fn:=fn,tmps:=a.tmps,params:=ah,assign:=ae,body:=ag,defers:=w.heap.size}),w.heap.size,by rw[show(fen z).round=none from ao];exact run_enterLoop_outer _ _ _ _ _,?_,by omega,⟨by simp;omega,rfl,rfl,rfl⟩,λk al=>?_,.inr ⟨rfl,rfl,?_,by omega⟩⟩;·have:=World.alloc_heap_new (w.alloc (.deferred (some []))) (.loop {state:=.ready,pending:=none,fn:=fn,tmps:=a.tmps,params:=ah,assign:=ae,body:=ag,defers:=w.heap.size});rwa [World.size_alloc]at this
   ·exact(Qgj _ _ (by simp;omega)).trans (Qgj _ _ al)
   exact(Qgj _ _ (by simp)).trans (World.alloc_heap_new w _)
  | some bp=>
   obtain⟨b6,ad,az⟩:=he.fr.round bp ao;refine⟨w.heap.size,[],w.alloc (.loop {state:=.ready,pending:=none,fn:=fn,tmps:=a.tmps,params:=ah,assign:=ae,body:=ag,defers:=ad.defers}),ad.defers,by rw[show(fen z).round=some bp from ao];exact run_enterLoop_inner az.at_ _ _ _ _ _,?_,Lb _,⟨by simp,rfl,rfl,rfl⟩,λk al=>Qgj _ _ al,.inl ⟨rfl,b6⟩⟩;exact World.alloc_heap_new w _
 obtain⟨aM,bD,bJ,bE⟩:=aM;have bR:aa<ab.heap.size:=(Nj.1 bm).1
 -- the loop's record is a block
 have b7:ρ H.y=none:=by
  cases bG:ρ H.y with
  | none=>rfl
  | some i=>have:=hs.dom _ i bG;omega
 have aj:Sub ρ (ext ρ H.y ⟨⟨aa,0,none⟩,0,0⟩):=λid i hi=>by
  have:id≠H.y:=λe=>by rw[e,b7]at hi;cases hi
  rw[YJ _ _ this];exact hi
 obtain⟨ρ1,aO⟩:∃ρ1,ρ1=ext ρ H.y ⟨⟨aa,0,none⟩,0,0⟩:=⟨_,rfl⟩;rw[<- aO]at aj;have an:ρ1 H.y=some ⟨⟨aa,0,none⟩,0,0⟩:=by rw[aO];exact Ww _ _ _
 have am:∀id,id≠H.y->ρ1 id=ρ id:=λid h=>by rw[aO];exact YJ _ _ h
 have bj:Sim P ρ1 (H.push (.loop A n ah ae ag none)) ab:=by
  refine⟨λid i hi=>?_,λid b i ac hi=>?_,λaP aI b1 aS bn bo g1 g2 aB aq aK ax=>?_,λk al=>?_⟩
  ·simp only[Qd]
   by_cases e:id=H.y;·omega
   rw[am id e]at hi;have:=hs.dom id i hi;omega
  ·rw[Qc]at ac;split at ac;·rename_i e;subst e;cases ac;rw[an]at hi;cases hi;exact⟨fn,a.tmps,D,bm,he.size,λt aN=>(he.tmps t aN).mono aj⟩
   rename_i e;rw[am id e]at hi;have:=hs.live id b i ac hi;exact this.mono aj (bi _ this.lt)
  ·rw[Qc]at g1 g2;split at g1;·rename_i e1;rw[Le (λe2=>ax (e1.trans e2.symm))]at g2;rw[e1,an]at aB;cases aB;rw[am aI (λe2=>ax (e1.trans e2.symm))]at aq;have:=(hs.live aI aS bo g2 aq).lt;simp only;omega
   rename_i e1;rw[am aP e1]at aB;split at g2;·rename_i e2;rw[e2,an]at aq;cases aq;have:=(hs.live aP b1 bn g1 aB).lt;simp only;omega
   rename_i e2;rw[am aI e2]at aq;exact hs.sep aP aI b1 aS bn bo g1 g2 aB aq aK ax
  obtain⟨i,hi,e⟩:=hs.glob k al;exact⟨i,aj _ _ hi,e⟩
 have bI:St ρ H w ρ1 (H.push (.loop A n ah ae ag none)) ab:=by
  refine⟨aj,by simp,λid i hi au=>?_,λid i b b' hi au aK aY=>?_,λid i hi bA=>?_,bD,bJ,bE,aM,λk al _=>bi k al⟩;·rw[Qc,Le (by have:=hs.dom id i hi;omega)];exact au
  ·rw[Qc,Le (by have:=hs.dom id i hi;omega),au]at aY;cases aY;exact aK
  by_cases e:id=H.y;·rw[e,an]at hi;cases hi;exact⟨by omega,.inl bg⟩
  rw[am id e,bA]at hi;cases hi
 refine⟨aa,mk,ab,{target:=.fn (.func ar) aD,args:=aC++#[.func (.yield aa) #[] #[]]},ab,ar,aC++#[.func (.yield aa) #[] #[]]++aD,ab,bH,?_,λ_ _=>trivial,?_,λh=>by simp[fen,Fence.wide]at h,?_⟩;·simp only[resolve,bw];simp[go_sem,Deferred.ofValue]
 ·simp[invoke,go_sem,QbU ba]
 have aX:VL ρ1 (xs.toList++[.func (.yield H.y) #[] #[]]++aQ.toList) (aC.toList++[.func (.yield aa) #[] #[]]++aD.toList):=
  ((hx.mono aj).append (.cons (.yield _ _ an) (.nil _))).append (bK.mono aj)
 rcases ak with⟨_,ak⟩ | ao
 rotate_left
 ·obtain⟨_,_,_,e,_⟩:=ao ρ1 ab _ bj aX;rw[QbU ba]at e;cases e
 have aZ:=ak ρ1 ab _ bj aX;rw[show(aC.toList++[Value.func (.yield aa) #[] #[]]++aD.toList).toArray=aC++#[.func (.yield aa) #[] #[]]++aD by apply Ru;simp]at aZ;refine Qo4 (aZ.mono ?_);rintro e ap ⟨ρ3,bh,aH,aL⟩;cases e with
 | panicked bQ=>exact bh.elim
 | outgrown=>exact bh.elim
 | returned bS=>
  have bd:ρ3 H.y=some ⟨⟨aa,0,none⟩,0,0⟩:=aH.mono _ _ an;obtain⟨bx,bP,D',aF,_⟩:=aL.live _ _ _ av bd;simp only at aF;obtain⟨ad,az⟩:∃ad:Loop,ad={state:=if st.isNone then .ready else .done,pending:=st,fn:=bx,tmps:=bP,params:=bq,assign:=aR,body:=aT,defers:=D'}:=⟨_,rfl⟩;rw[<- az]at aF;have b5:ad.state≠.busy:=by rw[az];cases st<;>simp
  have bF:ad.pending=st:=by rw[az]
  have b8:Hid ρ3 (H2.kill H.y) ap aa (.loop ad):=⟨aF,λid j bl ai ac e=>by
   rw[Q0]at ac;split at ac;·cases ac
   rename_i ax;exact aL.sep H.y id _ bl _ j av ac bd ai rfl (λe=>ax e.symm) e.symm⟩
  have aA:St ρ H w ρ3 (H2.kill H.y) (ap.putObj aa (.loop {ad with state:=.exhausted})):=((bI.trans aH).less (.kill H2 _)).putHid bg;have aG:Sim P ρ3 (H2.kill H.y) (ap.putObj aa (.loop {ad with state:=.exhausted})):=(aL.less (.kill H2 _)).putHid b8;have aE:Qcb z ρ3 (H2.kill H.y) (ap.putObj aa (.loop {ad with state:=.exhausted})) n A {a with defers:=mk++a.defers}:=by
   refine⟨⟨he.size,λt aN=>(he.tmps t aN).mono (aj.trans aH.mono)⟩,?_⟩;have aJ:Fr z ρ3 (H2.kill H.y) (ap.putObj aa (.loop {ad with state:=.exhausted})) a:=he.fr.step aA rfl;rcases bz with⟨rfl,_⟩ | ⟨ao,rfl,b4,aW⟩;·exact aJ
   obtain⟨aU,br,bN,bO⟩:=aJ.marks;refine⟨⟨w.heap.size::aU,by rw[br];rfl,FR.2 ⟨λb9=>?_,bN⟩,λd ak=>?_⟩,λl av=>(by rw[ao]at av;cases av),aJ.base⟩
   ·obtain⟨bu,p1,p2,bM⟩:=he.fr.marks;have:bu=aU:=by
     have:=p1.symm.trans br;exact(List.map_inj_right (λx y h=>by simpa[Qww] using h)).1 (List.append_cancel_right this)
    subst this;have:=(bM _ b9).2.lt;omega
   rcases LK.1 ak with rfl | ak
   ·have b2:Hid ρ1 (H.push (.loop A n ah ae ag none)) ab w.heap.size (.deferred (some [])):=⟨b4,λid j bl ai ac=>by
     by_cases e:id=H.y;·rw[e,an]at ai;cases ai;exact aW
     rw[am id e]at ai;rw[Qc,Le e]at ac;have:=(hs.live id bl j ac ai).lt;omega⟩
    have aV:=b2.step aH;refine⟨he.fr.base,?_⟩;have b3:Hid ρ3 (H2.kill H.y) ap w.heap.size (.deferred (some [])):=⟨aV.at_,λid j bl ai ac=>aV.un id j bl ai ((J4.kill H2 _).get _ _ ac)⟩;exact b3.put (λe=>aW e.symm)
   exact bO d ak
  refine⟨st,ap.putObj aa (.loop {ad with state:=.exhausted}),(run_endLoop (P:=P) aF b5).trans (by rw[bF]),?_⟩;cases st with
  | none=>exact⟨.normal,ρ3,A,_,ay,aA,aG,aE,trivial⟩
  | some c=>
   cases c<;>simp only[QDN]at ay
   case ret=>exact wpIn_ret ⟨.ret,ρ3,A,_,ay,aA,aG,aE,trivial⟩
   case exit id=>exact wpIn_exit ⟨.exit id,ρ3,A,_,ay,aA,aG,aE,rfl⟩
   case goto id=>exact wpIn_goto ⟨.goto id,ρ3,A,_,ay,aA,aG,aE,rfl⟩
end
def Qy6 (P:Program)(ab:TypeId->Bool):∀ (dd:Nat) (e:TypeId) (count aa off n:Nat),count<=aa->rowAt P ab dd e count off n=true->rowAt P ab dd e aa off n=true
 | 0,e,count,aa,off,n,hc,h=>by simp[rowAt]at h
 | dd+1,e,count,aa,off,n,hc,h=>by
  unfold rowAt at h ⊢;simp only at h ⊢;split at h;·cases h
  rename_i ag;rw[Le ag];simp only[Nw,Lm,Lv]at h ⊢;rcases h with⟨⟨ac,ad⟩,ae⟩ | ⟨ac,ad⟩;·exact .inl ⟨⟨ac,by omega⟩,ae⟩
  exact .inr ⟨by omega,ad⟩
def Qo9 (P:Program):∀ (dd:Nat) (e:TypeId) (count aa off:Nat) (u:TypeId) (n:Nat),count<=aa->liesAt P dd e count off u n=true->liesAt P dd e aa off u n=true
 | 0,e,count,aa,off,u,n,hc,h=>by simp[liesAt]at h
 | dd+1,e,count,aa,off,u,n,hc,h=>by
  unfold liesAt at h ⊢;simp only[Nw]at h ⊢;rcases h with h | h;·exact .inl (Qy6 P _ _ _ _ _ _ _ hc h)
  right;split at h;·exact Qo9 P dd e count aa off _ _ hc h
  cases h
section
variable {P:Program} {n:Nat} {A:Env} {H:Qa} {d:Option Nat} {ty:TypeId} {pos:String} {af:Array Edge} {g:Option (Nat×Bool)}
def Sim.place {ρ:Ren}{w:World}(al:Sim P ρ H w){id off:Nat}{z:Value}{c:List Value}{e:TypeId}(am:V ρ (.pointer (some ⟨id,off,none⟩)) z)(ai:H.get id=some (.cells c e false)):
  ∃i aa ab,ρ id=some i∧i.at_=⟨i.at_.block,0,none⟩∧z=.pointer (some ⟨i.at_.block,off,none⟩)∧w.heap[i.at_.block]? = some (.cells aa e ab)∧c.length<=aa.size∧(∀ (j:Nat) v,c[j]? = some v->∃ag,aa[j]? = some ag∧V ρ v ag):=by
 obtain⟨i,hi,_,e1⟩:=am.ptr_inv;obtain⟨aa,ab,aj,⟨ad,ac⟩,an,ao,ah,_⟩:=al.live id _ i ai hi;have ae:i.at_=⟨i.at_.block,0,none⟩:=by
  obtain⟨⟨b,o,s⟩,ap,ss⟩:=i;simp only at ad ac;subst ad;subst ac;rfl
 refine⟨i,aa,ab,hi,ae,?_,aj,by omega,λj v ak=>?_⟩;·rw[e1,ae,Qaq];simp
 have:=ah j v ak;rw[ac,LP]at this;exact this
def Qt7 {ρ:Ren}{a:Addr}{z:Value}(aa:V ρ (.pointer (some a)) z):a=⟨a.block,a.off,none⟩:=by
 obtain⟨i,_,h,_⟩:=aa.ptr_inv;obtain⟨b,o,s⟩:=a;simp only at h;subst h;rfl
def QwO {src ab t e:TypeId}{j:TypeInfo}{x:Operand}{a:Addr}{c:List Value}(ae:ev A x=.pointer (some a))(am:P.underlying src=some (.pointer t))(ag:P.underlying ab=some .unsafePointer)(an:P.info? t=some j)(ak:j.size≠0)
  (ai:H.get a.block=some (.cells c e false)) (ar:a.off<c.length):Qx P ⟨d,.convert src ab x,ty,pos,af,g⟩ A H (.pointer (some a)) H:=
 .pure_ λρ w s al ah=>by
  have aa:=ah x (by simp[Op.operands]);rw[ae]at aa;have ac:=Qt7 aa;rw[ac]at aa;obtain⟨i,ad,ao,hi,ap,e1,aj,aq,_⟩:=al.place aa ai;rw[e1]at aa;refine⟨.pointer (some ⟨i.at_.block,a.off,none⟩),?_,by rw[ac];exact aa⟩;simp only[execOp,e1,LW,Lib.run_to_unsafe w ⟨i.at_.block,a.off,none⟩ am ag an ak (e:=e) (cells:=ad.size) (by simp[World.shape?,aj]) (by simp only;omega),Lz,Nc]
def QsZ {src ab u e:TypeId}{j:TypeInfo}{x:Operand}{a:Addr}{c:List Value}(ae:ev A x=.pointer (some a))(an:P.underlying src=some .unsafePointer)(ag:P.underlying ab=some (.pointer u))(ao:P.info? u=some j)
  (ai:H.get a.block=some (.cells c e false)) (ak:liesAt P P.depth e (c.length / P.cellsOf e) a.off u 1=true):Qx P ⟨d,.convert src ab x,ty,pos,af,g⟩ A H (.pointer (some a)) H:=
 .pure_ λρ w s am ah=>by
  have aa:=ah x (by simp[Op.operands]);rw[ae]at aa;have ac:=Qt7 aa;rw[ac]at aa;obtain⟨i,ad,ap,hi,aq,e1,aj,al,_⟩:=am.place aa ai;rw[e1]at aa;refine⟨.pointer (some ⟨i.at_.block,a.off,none⟩),?_,by rw[ac];exact aa⟩;simp only[execOp,e1,LW,Lib.run_from_unsafe w ⟨i.at_.block,a.off,none⟩ an ag ao (e:=e) (cells:=ad.size) (by simp[World.shape?,aj]) (Qo9 P _ _ _ _ _ _ _ (Nat.div_le_div_right al) ak),Lz,Nc]
def Y6:List Value->Option (List UInt8)
 | []=>some []
 | .int .u8 m::l=>(Y6 l).map (m.toNat.toUInt8::·)
 | _::_=>none
def Qpa {ρ:Ren}:∀ (l aa:List Value) (bs:List UInt8),VL ρ l aa->Y6 l=some bs->∃ab:List Int,aa=ab.map (Value.int .u8)∧bs=ab.map λm=>m.toNat.toUInt8
 | [],aa,bs,hv,h=>by cases h;obtain rfl:=hv.unnil;exact⟨[],rfl,rfl⟩
 | v::l,aa,bs,hv,h=>by
  obtain⟨ak,ai,rfl,ae,ag⟩:=hv.uncons;unfold Y6 at h;split at h;·rename_i ac;cases ac
  ·rename_i m aj ac;cases ac;simp only[Lx]at h;obtain⟨ad,ah,rfl⟩:=h;obtain⟨ab,rfl,rfl⟩:=Qpa l ai ad ag ah;exact⟨m::ab,by rw[ae.plain_eq rfl];rfl,rfl⟩
  cases h
def Qq5:∀ (ab:List Int) (aa:ByteArray),ab.foldl (λr (m:Int)=>r.push (UInt8.ofNat m.toNat)) aa=⟨aa.data++(ab.map λm=>m.toNat.toUInt8).toArray⟩
 | [],aa=>by simp
 | m::ab,aa=>by
  rw[FQ,Qq5 ab];apply ByteArray.ext;apply Ru;simp[ByteArray.push,Nat.toUInt8]
def WB (size:Nat)(v:Value)(H:Qa):Option (List Value):=
 match v with
 | .slice none 0 _=>some []
 | .slice (some a) len _=>if len=0 then some [] else match H.get a.block with
  | some (.cells c _ _)=>if a.off+len * size<=c.length then some ((c.drop a.off).take (len * size)) else none
  | _=>none
 | _=>none
def QDO {src ac e:TypeId}{x:Operand}{l:List Value}{bs:List UInt8}(am:P.underlying src=some (.slice e))(aj:P.underlying e=some (.int .u8))(ak:P.underlying ac=some .string)
  (aa:WB 1 (ev A x) H=some l) (ag:Y6 l=some bs):Qx P ⟨d,.convert src ac x,ty,pos,af,g⟩ A H (.string (mkS bs)) H:=
 .pure_ λρ w s av ao=>by
  have ah:=ao x (by simp[Op.operands]);refine⟨.string (mkS bs),?_,.same _ rfl⟩;simp only[execOp,LW];generalize ev A x=u at ah aa;unfold WB at aa;split at aa;·rename_i cap;cases aa;cases ag;rw[ah.plain_eq rfl];rw[run_convert_bytes_string w src ac e none 0 cap am aj ak];rfl
  ·rename_i a len cap;obtain⟨i,ab,ad,g1,g2,g3,g4,ay,ax,az,aA⟩:=ah.slice_inv;rw[g3,run_convert_bytes_string w src ac e (some ab) len ad am aj ak];split at aa;·rename_i ae;subst ae;cases aa;cases ag;rw[run_bytesToString w ab 0 ad [] (by simp[loadCells,loadCellsFrom])];rfl
   rename_i ae;split at aa
   ·rename_i c e' ro ap;split at aa
    ·rename_i ar;cases aa;obtain⟨cs,k1,k2,k3⟩:=(av.live a.block _ i ap g1).cellsAt a.off (len * 1) ar;obtain⟨ai,rfl,rfl⟩:=Qpa _ cs bs k2 ag;have an:ab=i.at_.add a.off:=by rcases g4 with h | ⟨h,_⟩;exact h;exact absurd h ae
     have au:ai.length=len:=by simpa using k1
     have al:=run_loadCells_list (P:=P) (w:=w) ab (ai.map (Value.int .u8)) (λj v aq=>by rw[an];exact k3 j v aq);rw[Nn,au]at al;rw[run_bytesToString w ab len ad ai al,Qq5];simp[mkS]
    cases aa
   cases aa
  cases aa
def Qq6 {t e:TypeId}{m:Nat}{x:Operand}{lo hi:Option Operand}{ab:TypeInfo}{l h:Option Int}{a:Addr}(an:P.underlying t=some (.array m e))(am:P.info? e=some ab)(ai:ev A x=.pointer (some a))
  (ah:QS A lo=some l) (ag:QS A hi=some h) (aj:0<=l.getD 0) (ak:l.getD 0<=h.getD m) (al:h.getD m<=m) (ao:m<UNK):
  Qx P ⟨d,.slice t x lo hi none,ty,pos,af,g⟩ A H (.slice (some ⟨a.block,a.off+(l.getD 0).toNat * ab.size,none⟩) ((h.getD m).toNat - (l.getD 0).toNat) (m - (l.getD 0).toNat)) H:=
 .pure_ λρ w s ap aa=>by
  have ae:=aa x (by simp[Op.operands]);rw[ai]at ae;obtain⟨i,g1,g2,g3⟩:=ae.ptr_inv;have ac:=V1 (P:=P) (A:=A) (w:=w) (λy e=>aa y (by simp[Op.operands,e])) (λy e=>aa y (by simp[Op.operands,e])) (mx:=none) (λy e=>by cases e) ah ag (m:=none) rfl (by simp) (len:=m) (cap:=m) aj ak (by simpa using al) (by simp) false;simp only[Fk,Br,LG]at ac;refine⟨.slice (some (if m=(l.getD 0).toNat then i.at_.add a.off else(i.at_.add a.off).add ((l.getD 0).toNat * ab.size))) ((h.getD m).toNat - (l.getD 0).toNat) (m - (l.getD 0).toNat),?_,?_⟩;·simp only[execOp,Instr.sliceAt,g3,Instr.sureAddr,LW,LZ an,Lz,Fk,ac,Nc,Wg am]
  by_cases ad:m=(l.getD 0).toNat;·rw[Lc ad];exact .slice a.block _ _ _ _ i _ g1 (.inr ⟨by omega,by omega⟩) (by omega) (by omega) (λh=>by omega) (λ_=>rfl)
  rw[Le ad,ZK];exact .slice a.block _ _ _ _ i _ g1 (.inl rfl) (by omega) (by omega) (λh=>by omega) (λ_=>rfl)
def QuR {ac:Array TypeId}{x:Operand}{a:Addr}{len cap:Nat}(ag:ev A x=.slice (some a) len cap)(aj:len≠0):Qx P ⟨d,.call ⟨.builtin .unsafeSliceData,#[x],ac⟩,ty,pos,af,g⟩ A H (.pointer (some a)) H:=
 .pure_ λρ w s ap ai=>by
  have ae:=ai x (by simp[Op.operands,Call.operands]);rw[ag]at ae;obtain⟨i,aa,ab,g1,g2,g3,g4,am,al,an,ao⟩:=ae.slice_inv;have ad:aa=i.at_.add a.off:=by rcases g4 with h | ⟨h,_⟩;exact h;exact absurd h aj
  refine⟨.pointer (some aa),?_,?_⟩
  ·rw[W8];have ak:(Builtin.unsafeSliceData_ ac ty #[.slice (some aa) len ab]).run P w=.ok (.pointer (some aa)) w:=by
    have ah:Builtin.unsafeSliceData_ ac ty #[.slice (some aa) len ab]=(do
      if ab≠0 then pure (.pointer (some aa))
      else if(<- viewAt aa.block).isSome then pure (.pointer (some aa))
      else pure (.pointer (some ⟨<- newObj (.view aa (<- elemOf ty)),0,none⟩))):=rfl
    rw[ah,Lc (by omega)];rfl
   simp only[builtin,R9,NZ,Bq,g3,LW,ak,Lz,Nc]
  obtain⟨b,o,aq⟩:=a;simp only at g1 g2 ad;subst g2;rw[ad];exact .ptr b o i g1
def QnV {ad:Array TypeId}{x:Operand}{len cap:Nat}(ab:ev A x=.slice none len cap):Qx P ⟨d,.call ⟨.builtin .unsafeSliceData,#[x],ad⟩,ty,pos,af,g⟩ A H (.pointer none) H:=
 .pure_ λρ w s ae ac=>by
  have aa:=ac x (by simp[Op.operands,Call.operands]);rw[ab]at aa;refine⟨.pointer none,?_,.same _ rfl⟩;rw[W8];simp only[builtin,R9,NZ,Bq,aa.plain_eq rfl,LW];rfl
def QnW {ad it:TypeId}{x y:Operand}(ab:ev A x=.pointer none)(ac:ev A y=.int .i64 0):Qx P ⟨d,.call ⟨.builtin .unsafeString,#[x,y],#[ad,it]⟩,ty,pos,af,g⟩ A H (.string (mkS [])) H:=
 .pure_ λρ w s ae aa=>by
  have e1:=Zo (aa x (by simp[Op.operands,Call.operands])) ab rfl;have e2:=Zo (aa y (by simp[Op.operands,Call.operands])) ac rfl;refine⟨.string (mkS []),?_,.same _ rfl⟩;rw[W8];simp only[builtin,R9,NZ,Bq,e1,e2,LW,Lib.run_unsafeString_none,Lz,Nc];rfl
def QuS {al it e:TypeId}{x y:Operand}{id len:Nat}{c:List Value}{bs:List UInt8}(az:ev A x=.pointer (some ⟨id,0,none⟩))(aA:ev A y=.int .i64 (len:Int))(aK:P.underlying al=some (.pointer e))(aE:P.cellsOf e=1)
  (ap:H.get id=some (.cells c e false)) (aI:len≠0) (aP:len<=c.length) (aN:len<=9223372036854775807) (aC:Y6 (c.take len)=some bs) (aL:∀v∈c.take len,∃m:Int,v=.int .u8 m∧0<=m∧m<256):
  Qx P ⟨d,.call ⟨.builtin .unsafeString,#[x,y],#[al,it]⟩,ty,pos,af,g⟩ A H (.string (mkS bs)) (H.set id (.cells c e true)):=
 .of_run λρ w s av ao=>by
  have ah:=ao x (by simp[Op.operands,Call.operands]);rw[az]at ah;have e2:=Zo (ao y (by simp[Op.operands,Call.operands])) aA rfl;obtain⟨i,ae,am,hi,aB,e1,ak,aO,an⟩:=av.place ah ap;have ag:bs.length=len∧∀ (j:Nat) b,bs[j]? = some b->c[j]? = some (.int .u8 (b.toNat:Int)):=by
   have key:∀ (l:List Value) (bs:List UInt8),Y6 l=some bs->(∀v∈l,∃m:Int,v=.int .u8 m∧0<=m∧m<256)->bs.length=l.length∧∀ (j:Nat) b,bs[j]? = some b->l[j]? = some (.int .u8 (b.toNat:Int)):=by
    intro l
    induction l with
    | nil=>intro bs h _;cases h;exact⟨rfl,λj b h=>by simp at h⟩
    | cons v l aM=>
     intro bs h ar;obtain⟨m,rfl,aQ,aR⟩:=ar v (by simp);simp only[Y6,Lx]at h;obtain⟨ay,ab,rfl⟩:=h;obtain⟨ac,ad⟩:=aM ay ab (λv ah=>ar v (by simp[ah]));refine⟨by simp[ac],λj b aa=>?_⟩;cases j with
     | zero=>
      simp at aa;subst aa;simp only[Bp,Lt,Value.int.injEq,Bz];have:(m.toNat.toUInt8).toNat=m.toNat:=by simp[Nat.toUInt8,UInt8.toNat_ofNat'];omega
      rw[this];omega
     | succ j=>simp at aa ⊢;exact ad j b aa
   obtain⟨ac,ad⟩:=key _ bs aC aL;refine⟨by rw[ac,Sb];omega,λj b aa=>?_⟩;have:=ad j b aa;rw[Nl]at this;split at this;·exact this
   cases this
  have aF:∀j x,bs[j]? = some x->w.cell? ((⟨i.at_.block,0,none⟩:Addr).add j)=some (.int .u8 x.toNat):=λj x aa=>by
   obtain⟨ax,ab,aj⟩:=an j _ (ag.2 j x aa);rw[Qaq,LP,cell_of_row w _ _ ae e am ak,ab,aj.plain_eq rfl]
  have au:=Lib.run_unsafeString_row (P:=P) w al it ty e aK aE i.at_.block ae.size (by simp[World.shape?,ak]) bs (λh=>by rw[h]at ag;simp at ag;omega) (by omega) (by omega) aF;rw[ag.1]at au;have aG:∃ai,(w.freeze ⟨i.at_.block,0,none⟩ len).heap[i.at_.block]? = some (.cells ae e ai)∧GN w (w.freeze ⟨i.at_.block,0,none⟩ len) i.at_.block:=by
   unfold World.freeze;rw[Le aI];obtain⟨lo,hi⟩:=am;refine⟨if lo==hi then(0,0+len) else(min lo 0,max hi (0+len)),?_,⟨λk aH=>?_,by simp,rfl,rfl,rfl⟩⟩;·simp only[RY,ak,N3,Dh]
   simp only[RY];rw[Le (λe=>aH e.symm)]
  obtain⟨ai,aq,aJ⟩:=aG;have aD:Wv P ρ i (w.freeze ⟨i.at_.block,0,none⟩ len) (.cells c e true):=by
   refine⟨(Nj.1 aq).1,λj v aa=>?_⟩;obtain⟨ax,ab,aj⟩:=an j v aa;refine⟨ax,?_,aj⟩;rw[aB,Qaq,LP,cell_of_row _ _ _ ae e ai aq];exact ab
  obtain⟨ac,ad⟩:=av.setBlk hi ap rfl aJ aD;refine⟨.string (mkS bs),ρ,_,?_,.same _ rfl,ac,ad⟩;rw[W8];simp only[builtin,R9,NZ,Bq,e1,e2,LW,au,Lz,Nc];rfl
def QDP:TypeDesc->Bool
 | .pointer _=>true
 | _=>false
def Ql9 (P:Program)(t:TypeId)(aa:String):Option FuncId:=
 match P.info? t,P.underlying t with
 | some inf,some td=>match inf.methods.find? (·.name==aa) with
  | some m=>match m.path.toList,m.func with
   | [],some (f,pr)=>if pr=QDP td then some f else none
   | _,_=>none
  | none=>none
 | _,_=>none
def Qy7 {t:TypeId}{ab:String}{f:FuncId}(h:Ql9 P t ab=some f)(v:Value)(w:World)(ad:Nat):(method (ad+1) t v ab).run P w=.ok (f,v) w:=by
 unfold Ql9 at h;split at h
 ·rename_i an al hi ak;split at h
  ·rename_i m ah;split at h
   ·rename_i am pr ai ae;split at h
    ·rename_i aa;cases h;have ag:(follow m.path.toList t (.val v)).run P w=.ok (t,.val v) w:=by rw[ai];rfl
     have aj:∀ac,(receiverAt t (.val v) pr ac).run P w=.ok v w:=λac=>by
      simp only[receiverAt,LW,LZ ak,Lz];cases al<;>simp only[QDP]at aa<;>subst aa<;>rfl
     simp only[method,typeInfo,LW,DJ,Lz,hi,Nc,ah,ag,ae,aj]
    cases h
   cases h
  cases h
 cases h
def QCa {ab:Operand}{ae:String}{args:Array Operand}{an:Array TypeId}{t:TypeId}{v u:Value}{f:FuncId}{H':Qa}(ag:ev A ab=.iface t v)(am:Ql9 P t ae=some f)(aj:Kd P f (v::(args.map (ev A)).toList) H u H'):
  Qx P ⟨d,.call ⟨.invoke ab ae,args,an⟩,ty,pos,af,g⟩ A H u H':=
 QnR (λρ w a ao ac=>by
  have ad:=ac ab (by simp[Op.operands,Call.operands]);rw[ag]at ad;obtain⟨aa,e,ai⟩:=ad.iface_inv;refine⟨aa::(args.map a.eval).toList,.cons ai (Qt0 (λx hx=>ac x (by simp[Op.operands,Call.operands,hx]))),?_⟩;have ak:∃k,P.types.size+Made.depth=k+1:=⟨P.types.size+99,rfl⟩;obtain⟨k,al⟩:=ak;simp only[execOp,resolve,pure_bind,invoke,e];have ah:(#[Value.iface t aa]++Array.map a.eval args)[0]? = some (.iface t aa):=by rw[Array.getElem?_append_left (by simp)];rfl
  have hx:(#[Value.iface t aa]++Array.map a.eval args).extract 1 (#[Value.iface t aa]++Array.map a.eval args).size=Array.map a.eval args:=by
   apply Ru;simp;exact LF (by simp)
  simp only[ah,hx,callMethod,LW,DJ,Lz,al,Qy7 am];congr 2;apply Ru;simp) aj
end
def Qax:TypeDesc->Value->Bool
 | .int _,.int _ _=>true
 | .string,.string _=>true
 | .bool,.bool _=>true
 | _,_=>false
def Qma (d:TypeDesc)(k:Value):List (Value×Value)->Nat->Option (Option (Nat×Value))
 | [],_=>some none
 | (a,b)::l,i=>bif Qax d a then(match Instr.sameNow d k a with | some true=>some (some (i,b)) | some false=>Qma d k l (i+1) | none=>none) else none
def Qay {d:TypeDesc}{v:Value}(h:Qax d v=true):plain v=true:=by cases d<;>cases v<;>simp_all [Qax,plain]
section
variable {P:Program} {n:Nat} {A:Env} {H:Qa} {d:Option Nat} {ty:TypeId} {pos:String} {af:Array Edge} {g:Option (Nat×Bool)}
def QeX {ab:TypeId}{aa:TypeDesc}{k:Value}(ac:P.underlying ab=some aa)(ad:Qax aa k=true)(e:Bool)(m:Nat)(w:World):(Instr.checkKey e (m+1) ab k).run P w=.ok () w:=by
 unfold Instr.checkKey;simp only[LW,LZ ac,Lz];cases aa<;>cases k<;>simp_all [Qax]
def QeY {ρ:Ren}{ac:TypeDesc}{k:Value}:∀ (es:List (Value×Value)) (aa:List MapEntry) (i:Nat) (r:Option (Nat×Value)),VL ρ (es.map (·.1)) (aa.map (·.key))->VL ρ (es.map (·.2)) (aa.map (·.val))->Qma ac k es i=some r->
  match r with
  | none=>Instr.findNow ac k aa i=some none
  | some (j,v)=>i<=j∧∃ae,Instr.findNow ac k aa i=some (some (j,ae))∧V ρ v ae∧∃a,es[j - i]? = some (a,v)∧Instr.sameNow ac k a=some true∧plain a=true
 | [],aa,i,r,h1,h2,h=>by
  cases h;have:aa=[]:=by
   have:=h1.1;simp at this;exact N2.1 this.symm
  subst this;rfl
 | (a,b)::es,aa,i,r,h1,h2,h=>by
  cases aa with
  | nil=>have:=h1.1;simp at this
  | cons e aa=>
   simp only[NZ]at h1 h2;obtain⟨x,xs,ai,hx,ak⟩:=h1.uncons;obtain⟨y,ax,aj,al,am⟩:=h2.uncons;cases ai;cases aj;unfold Qma at h;cases ad:Qax ac a with
   | false=>rw[ad]at h;cases h
   | true=>
    rw[ad]at h;simp only[Lq]at h;have ag:=hx.plain_eq (Qay ad);split at h;·rename_i ab;cases h;refine⟨Lb _,e.val,?_,al,a,by simp,ab,Qay ad⟩;simp only[Instr.findNow,ag,ab]
    ·rename_i ab;have ah:=QeY es aa (i+1) r ak am h;cases r with
     | none=>simp only[Instr.findNow,ag,ab];exact ah
     | some an=>
      obtain⟨j,v⟩:=an;obtain⟨av,ae,ao,ap,a1,aq,ar,au⟩:=ah;refine⟨by omega,ae,by simp only[Instr.findNow,ag,ab];exact ao,ap,a1,?_,ar,au⟩;rw[show j - i=(j - (i+1))+1 by omega];simpa using aq
    cases h
def Qaz {aa:TypeId}{ab:TypeDesc}{k:Value}{l:List MapEntry}{r:Option (Nat×Value)}(ac:P.underlying aa=some ab)(h:Instr.findNow ab k l 0=some r)(w:World):(Instr.findKey aa k l).run P w=.ok r w:=by
 simp only[Instr.findKey,LW,LZ ac,Lz,h,Nc]
def Qy8 {t:TypeId}:Qx P ⟨d,.makeMap t none,ty,pos,af,g⟩ A H (.map (some H.y)) (H.push (.map [])):=
 .of_run λρ w s ac ad=>by
  obtain⟨aa,ab⟩:=ac.push (.map #[] 0) (.map []) ⟨⟨w.heap.size,0,none⟩,0,0⟩ rfl ⟨#[],0,by
   show(w.heap.push (Obj.map #[] 0))[w.heap.size]? = _;simp,.nil _,.nil _,rfl,λj e h=>by simp at h⟩
  refine⟨.map (some w.heap.size),_,_,?_,.map H.y _ (Ww _ _ _),aa,ab⟩;simp only[execOp,Fk,Instr.makeMap,LW,FT,Lz,Nc,World.alloc]
def QwP (P:Program)(k e:TypeId)(m aa:Value)(ok:Bool)(H:Qa):Option Value:=
 match P.underlying k,P.info? e with
 | some td,some inf=>match inf.zero with
  | some z=>bif Qax td aa&&Xq z then
    (match m with
    | .map none=>some (bif ok then .tuple #[z,.bool false] else z)
    | .map (some id)=>(match H.get id with
     | some (.map es)=>(match Qma td aa es 0 with
      | some none=>some (bif ok then .tuple #[z,.bool false] else z)
      | some (some (_,v))=>some (bif ok then .tuple #[v,.bool true] else v)
      | none=>none)
     | _=>none)
    | _=>none)
   else none
  | none=>none
 | _,_=>none
def V.pair {ρ:Ren}{v ac:Value}(h:V ρ v ac)(b:Bool):V ρ (.tuple #[v,.bool b]) (.tuple #[ac,.bool b]):=
 .tuple _ _ rfl (λj x x' aa ab=>by
  rcases j with _ | _ | j;·simp at aa ab;subst aa;subst ab;exact h
  ·simp at aa ab;subst aa;subst ab;exact .same _ rfl
  simp at aa)
def QCb {t k e:TypeId}{x ae:Operand}{ok:Bool}{v:Value}(ak:P.underlying t=some (.map k e))(h:QwP P k e (ev A x) (ev A ae) ok H=some v):Qx P ⟨d,.lookup t x ae ok,ty,pos,af,g⟩ A H v H:=
 .pure_ λρ w s aA am=>by
  have ac:=am x (by simp[Op.operands]);have aB:=am ae (by simp[Op.operands]);unfold QwP at h;split at h
  ·rename_i aD aH ab hi;split at h
   ·rename_i z ao;cases aa:(Qax aD (ev A ae)&&Xq z) with
    | false=>rw[aa]at h;cases h
    | true=>
     rw[aa]at h;simp only[Lq]at h;simp only[Lm]at aa;have aj:=aB.plain_eq (Qay aa.1);have ad:V ρ z z:=.closed aa.2;split at h;·rename_i ag;rw[ag]at ac;have hx:=ac.plain_eq rfl;cases h;refine⟨bif ok then .tuple #[z,.bool false] else z,?_,by cases ok;exact ad;exact ad.pair false⟩;simp only[execOp,Instr.lookup,hx,aj,LW,LZ ak,Lz,Nc,QeX ab aa.1 _ 9999,Qaz ab (l:=[]) (r:=none) rfl,Zx hi ao];cases ok<;>rfl
     ·rename_i id ag;rw[ag]at ac;obtain⟨i,az,al⟩:=ac.map_inv;split at h
      ·rename_i es ax;obtain⟨ah,av,ay,ar,au,aG,aF⟩:=aA.live id _ i ax az;have an:(getObj i.at_.block).run P w=.ok (.map ah av) w:=by simp[getObj,Sem.run,ay]
       split at h;·rename_i ai;cases h;have:=QeY es ah.toList 0 none ar au ai;refine⟨bif ok then .tuple #[z,.bool false] else z,?_,by cases ok;exact ad;exact ad.pair false⟩;simp only[execOp,Instr.lookup,al,aj,LW,LZ ak,Lz,Nc,an,QeX ab aa.1 _ 9999,Qaz ab this,Zx hi ao];cases ok<;>rfl
       ·rename_i j aE ai;cases h;obtain⟨_,aq,aC,ap,_⟩:=QeY es ah.toList 0 (some (j,aE)) ar au ai;refine⟨bif ok then .tuple #[aq,.bool true] else aq,?_,by cases ok;exact ap;exact ap.pair true⟩;simp only[execOp,Instr.lookup,al,aj,LW,LZ ak,Lz,Nc,an,QeX ab aa.1 _ 9999,Qaz ab aC];cases ok<;>rfl
       cases h
      cases h
     cases h
   cases h
  cases h
def QuT (P:Program)(k:TypeId)(m aa v:Value)(H:Qa):Option Qa:=
 match P.underlying k,m with
 | some td,.map (some id)=>(match H.get id with
  | some (.map es)=>bif Qax td aa then(match Qma td aa es 0 with
    | some none=>some (H.set id (.map (es++[(aa,v)])))
    | some (some (j,_))=>some (H.set id (.map (es.set j (aa,v))))
    | none=>none) else none
  | _=>none)
 | _,_=>none
def QDQ (a b:ByteArray):(a==b)=(bl a==bl b):=by simp[beq_toListBytes,ByteArray.toList_eq,bl]
def QKO {a b:ByteArray}(h:(a==b)=true):b=a:=by
 rw[QDQ]at h;have h:bl a=bl b:=by simpa using h
 rw[<- QqR a,<- QqR b,h]
def Qy9 {aa:TypeDesc}{k a:Value}(h:Instr.sameNow aa k a=some true):a=k:=by
 cases aa<;>cases k<;>cases a<;>simp_all [Instr.sameNow];exact QKO h
def QAT {t k e:TypeId}{m ag v aJ aI ac:Value}{ρ:Ren}{w:World}{H':Qa}(ar:Sim P ρ H w)(aG:P.underlying t=some (.map k e))(ae:V ρ m aJ)(aO:V ρ ag aI)(aH:V ρ v ac)(h:QuT P k m ag v H=some H'):
  ∃w',(Instr.mapUpdate t aJ aI ac).run P w=.ok () w'∧St ρ H w ρ H' w'∧Sim P ρ H' w':=by
 unfold QuT at h;split at h
 ·rename_i aL id ai;split at h
  ·rename_i es ao;cases ah:Qax aL ag with
   | false=>rw[ah]at h;cases h
   | true=>
    rw[ah]at h;simp only[Lq]at h;have aA:=aO.plain_eq (Qay ah);obtain⟨i,aq,ay⟩:=ae.map_inv;obtain⟨aa,ad,ap,aj,ak,am,al⟩:=ar.live id _ i ao aq;have aC:i.at_.block<w.heap.size:=(Nj.1 ap).1;have az:(getObj i.at_.block).run P w=.ok (.map aa ad) w:=by simp[getObj,Sem.run,ap]
    have aF:∀o,(setObj i.at_.block o).run P w=.ok () {w with heap:=w.heap.setIfInBounds i.at_.block o}:=λo=>by simp[setObj,Sem.run,ap]
    have aE:∀o,GN w {w with heap:=w.heap.setIfInBounds i.at_.block o} i.at_.block:=λo=>⟨λk ai=>by simp[Bn (Ne.symm ai)],by simp,rfl,rfl,rfl⟩;split at h
    ·rename_i an;cases h;have:=QeY es aa.toList 0 none aj ak an;obtain⟨av,ax⟩:=ar.setBlk (b':=.map (es++[(ag,v)])) aq ao rfl (aE (.map (aa.push {key:=ag,val:=ac,born:=ad}) (ad+1)))
      ⟨aa.push {key:=ag,val:=ac,born:=ad},ad+1,by simp[aC],by simpa using aj.append (.cons (.same ag (Qay ah)) (.nil ρ)),by simpa using ak.append (.cons aH (.nil ρ)),by simp[am],λj e ab=>by
       rw[Array.getElem?_push]at ab;split at ab;·rename_i aB;cases ab;show ad=j;rw[am,aB]
       exact al j e ab⟩
     refine⟨_,?_,av,ax⟩;simp only[Instr.mapUpdate,ay,aA,LW,LZ aG,Lz,az,QeX ai ah _ 9999,Qaz ai this,aF]
    ·rename_i j aS an;cases h;obtain⟨_,aU,p1,p2,a,au,aR,aK⟩:=QeY es aa.toList 0 (some (j,aS)) aj ak an;have aM:=Qy9 aR;subst aM;have aB:j<es.length:=(Lk.1 au).1;obtain⟨aT,r1,r2⟩:=aj.get (j:=j) (x:=a) (by rw[LD];simp only[Nat.sub_zero]at au;rw[au];rfl);have r3:=r2.plain_eq aK;rw[LD]at r1;have aP:((aa[j]?).map (·.key)).getD a=a:=by
      rw[<- Bl];rw[r1,r3];rfl
     have aQ:(Instr.keyThatStays a a).run P w=.ok a w:=by
      have:Instr.sameBits 10000 a a=true:=by
       cases aL<;>cases a<;>simp_all [Qax,Instr.sameBits];rw[QDQ];simp
      simp only[Instr.keyThatStays,this,N3,Nc]
     have aD:(aa.modify j λe=>{e with key:=a,val:=ac}).toList=aa.toList.modify j (λe=>{e with key:=a,val:=ac}):=by simp
     obtain⟨av,ax⟩:=ar.setBlk (b':=.map (es.set j (a,v))) aq ao rfl (aE (.map (aa.modify j λe=>{e with key:=a,val:=ac}) ad))
      ⟨aa.modify j λe=>{e with key:=a,val:=ac},ad,by simp[aC],by
       have:=aj.set (k:=j) (x:=a) (x':=a) (.same a aK);rw[List.map_set,aD];have e1:List.map (·.key) (aa.toList.modify j (λe=>{e with key:=a,val:=ac}))=(List.map (·.key) aa.toList).set j a:=by
        apply BA;intro m;rw[LD,List.getElem?_modify,List.getElem?_set,LD]
        by_cases ae:j=m
        ·subst ae;cases ab:aa.toList[j]? with
         | none=>rw[ab]at r1;simp at r1
         | some e=>have:=(Lk.1 ab).1;simp at this;simp[this]
        simp[ae]
       rw[e1];exact this,by
       have:=ak.set (k:=j) (x:=v) (x':=ac) aH;rw[List.map_set,aD];have e1:List.map (·.val) (aa.toList.modify j (λe=>{e with key:=a,val:=ac}))=(List.map (·.val) aa.toList).set j ac:=by
        apply BA;intro m;rw[LD,List.getElem?_modify,List.getElem?_set,LD]
        by_cases ae:j=m
        ·subst ae;cases ab:aa.toList[j]? with
         | none=>rw[ab]at r1;simp at r1
         | some e=>have:=(Lk.1 ab).1;simp at this;simp[this]
        simp[ae]
       rw[e1];exact this,by simp[am],λm e ab=>by
       rw[RY]at ab;split at ab;·simp only[Lx]at ab;obtain⟨e0,aN,rfl⟩:=ab;exact al m e0 aN
       exact al m e ab⟩
     refine⟨_,?_,av,ax⟩;simp only[Instr.mapUpdate,ay,aA,LW,LZ aG,Lz,az,QeX ai ah _ 9999,Qaz ai p1,aP,aQ,aF]
    cases h
  cases h
 cases h
def QuU {t k e:TypeId}{m ab x:Operand}{H':Qa}(ah:P.underlying t=some (.map k e))(h:QuT P k (ev A m) (ev A ab) (ev A x) H=some H'):Qx P ⟨d,.mapUpdate t m ab x,ty,pos,af,g⟩ A H undef H':=
 .of_skip λρ w s ag aa=>by
  obtain⟨w',ac,ad,ae⟩:=QAT ag ah (aa m (by simp[Op.operands])) (aa ab (by simp[Op.operands])) (aa x (by simp[Op.operands])) h;exact⟨ρ,w',by simp only[execOp,LW,ac,Lz,Nc],ad,ae⟩
def QCc {t k e:TypeId}{m ab x:Operand}{H':Qa}(ah:P.underlying t=some (.map k e))(h:QuT P k (ev A m) (ev A ab) (ev A x) H=some H'):Qx P ⟨d,.insert t m ab x,ty,pos,af,g⟩ A H undef H':=
 .of_skip λρ w s ag aa=>by
  obtain⟨w',ac,ad,ae⟩:=QAT ag ah (aa m (by simp[Op.operands])) (aa ab (by simp[Op.operands])) (aa x (by simp[Op.operands])) h;exact⟨ρ,w',by simp only[execOp,LW,ac,Lz,Nc],ad,ae⟩
/-! ### Strings, gone through -/
def QDR {t:TypeId}{x:Operand}{s:ByteArray}(ag:P.underlying t=some .string)(aa:ev A x=.string s):Qx P ⟨d,.range t x,ty,pos,af,g⟩ A H (.pointer (some ⟨H.y,0,none⟩)) (H.push (.iter s 0)):=
 .of_run λρ w a ae ad=>by
  have e1:=Zo (ad x (by simp[Op.operands])) aa rfl;obtain⟨ab,ac⟩:=ae.push (.stringIter s 0) (.iter s 0) ⟨⟨w.heap.size,0,none⟩,0,0⟩ rfl ⟨by
   show(w.heap.push (Obj.stringIter s 0))[w.heap.size]? = _;simp,rfl⟩
  refine⟨.pointer (some ⟨w.heap.size,0,none⟩),_,_,?_,.ptr H.y 0 _ (Ww _ _ _),ab,ac⟩;simp only[execOp,Instr.range,e1,LW,LZ ag,Lz,FT,Nc,World.alloc]
def Qt8 (H:Qa)(v:Value):Option (Value×Qa):=
 match v with
 | .pointer (some a)=>bif Nat.beq a.off 0 then(match H.get a.block with
  | some (.iter s p)=>if p<s.size then some (.tuple #[.bool true,.int .i64 p,.int .i32 (Utf8.decode s p).1],H.set a.block (.iter s (p+(Utf8.decode s p).2))) else some (.tuple #[.bool false],H)
  | _=>none) else none
 | _=>none
def V.closedT {ρ:Ren}{xs:Array Value}(h:xs.all plain=true):V ρ (.tuple xs) (.tuple xs):=.closed h
def QF7 {it:Operand}{v:Value}{H':Qa}(h:Qt8 H (ev A it)=some (v,H')):Qx P ⟨d,.next it true,ty,pos,af,g⟩ A H v H':=
 .of_run λρ w s ag am=>by
  have aj:=am it (by simp[Op.operands]);unfold Qt8 at h;split at h
  ·rename_i a ak;rw[ak]at aj;cases aa:Nat.beq a.off 0 with
   | false=>rw[aa]at h;cases h
   | true=>
    rw[aa]at h;simp only[Lq]at h;have aa:a.off=0:=by simpa[Zn] using aa
    obtain⟨i,hi,_,ab⟩:=aj.ptr_inv;rw[aa]at ab;split at h
    ·rename_i st p ah;obtain⟨ac,ad⟩:=ag.live _ _ i ah hi;have al:i.at_.add 0=⟨i.at_.block,0,i.at_.spot⟩:=by
      unfold Addr.add;simp;obtain⟨⟨b,o,au⟩,_,_⟩:=i;simp at ad ⊢;exact ad
     rw[al]at ab;have ai:(getObj i.at_.block).run P w=.ok (.stringIter st p) w:=by simp[getObj,Sem.run,ac]
     split at h
     ·rename_i ae;cases h;have ap:∀o,(setObj i.at_.block o).run P w=.ok () {w with heap:=w.heap.setIfInBounds i.at_.block o}:=λo=>by simp[setObj,Sem.run,ac]
      have ao:i.at_.block<w.heap.size:=(Nj.1 ac).1;obtain⟨aq,ar⟩:=ag.setBlk (b':=.iter st (p+(Utf8.decode st p).2)) hi ah rfl (w':={w with heap:=w.heap.setIfInBounds i.at_.block (.stringIter st (p+(Utf8.decode st p).2))})
       ⟨λk an=>by simp[Bn (Ne.symm an)],by simp,rfl,rfl,rfl⟩ ⟨by simp[ao],ad⟩
      refine⟨.tuple #[.bool true,.int .i64 p,.int .i32 (Utf8.decode st p).1],ρ,_,?_,.closedT (by simp[plain]),aq,ar⟩;simp only[execOp,Instr.next,ab,LW,ai,Lz,ae,N3,ap,Nc,goInt]
     rename_i ae;cases h;refine⟨.tuple #[.bool false],ρ,w,?_,.closedT (by simp[plain]),.refl _ _ _,ag⟩;simp only[execOp,Instr.next,ab,LW,ai,Lz,ae,LN,Nc]
    cases h
  cases h
/-! ### Maps gone through, where the next entry is the only one -/
/-! ### Copies -/
def QAU (size:Nat)(x y:Value)(H:Qa):Option (Value×Qa):=
 match YX size y H with
 | none=>none
 | some (m,news)=>
  match x with
  | .slice none 0 _=>some (.int .i64 0,H)
  | .slice (some a) len _=>
   if Nat.min m len=0 then some (.int .i64 0,H) else
   match H.get a.block with
   | some (.cells c e false)=>
    if a.off+Nat.min m len * size<=c.length∧(news.take (Nat.min m len * size)).all (·.oneCell')=true then some (.int .i64 (Nat.min m len:Nat),H.set a.block (.cells (splice c a.off (news.take (Nat.min m len * size))) e false)) else none
   | _=>none
  | _=>none
def QF8 {t t2 e:TypeId}{x y:Operand}{ag:TypeInfo}{v:Value}{H':Qa}(am:P.underlying t=some (.slice e))(hi:P.info? e=some ag)(h:QAU ag.size (ev A x) (ev A y) H=some (v,H')):
  Qx P ⟨d,.call ⟨.builtin .copy,#[x,y],#[t,t2]⟩,ty,pos,af,g⟩ A H v H':=
 .of_run λρ w s ac aq=>by
  have ae:=aq x (by simp[Op.operands,Call.operands]);have an:=aq y (by simp[Op.operands,Call.operands])
  suffices aG:∃ah ρ' w',(Builtin.copy_ #[t,t2] ty #[s.eval x,s.eval y]).run P w=.ok ah w'∧V ρ' v ah∧St ρ H w ρ' H' w'∧Sim P ρ' H' w' by
   obtain⟨ah,ρ',w',ax,ay,az,aA⟩:=aG;refine⟨ah,ρ',w',?_,ay,az,aA⟩;rw[W8];simp only[builtin,R9,NZ,Bq,LW,ax,Lz,Nc]
  generalize ev A x=u at ae h;generalize ev A y=u2 at an h;generalize s.eval x=x' at ae;generalize s.eval y=y' at an;unfold QAU at h;split at h;·cases h
  rename_i m aL aI;obtain⟨al,aE,aj⟩:=QAR ac an aI;have ak:∀ (b:Option Addr) (ai ao:Nat),Builtin.copy_ #[t,t2] ty #[.slice b ai ao,y']=(do
    let .slice elem <- underlying t | stuck "copy: slice type expected"
    let n:=Nat.min (<- Builtin.lenOf y') ai
    let cells <- Builtin.firstCells (<- sizeOf elem) n y'
    if let some a:=b then storeCells a cells.toList
    pure (goInt n)):=λb ai ao=>rfl
  split at h;·rename_i cap;cases h;rw[ae.plain_eq rfl];obtain⟨c',_,ab⟩:=aj 0 (by omega);refine⟨.int .i64 0,ρ,w,?_,.same _ rfl,.refl _ _ _,ac⟩;rw[ak];have aa:Nat.min m 0=0:=Nat.min_zero m;simp only[LW,LZ am,Lz,al,Wg hi,aa,ab w (λ_=>rfl),Nc,goInt];rfl
  ·rename_i a len cap;obtain⟨i,av,aO,g1,g2,g3,g4,aQ,aP,aR,aS⟩:=ae.slice_inv;rw[g3];split at h
   ·rename_i aa;cases h;obtain⟨c',ad,ab⟩:=aj 0 (by omega);have aD:c'=[]:=by simp at ad;exact ad.unnil
    subst aD;refine⟨.int .i64 0,ρ,w,?_,.same _ rfl,.refl _ _ _,ac⟩;rw[ak];simp only[LW,LZ am,Lz,al,Wg hi,aa,ab w (λ_=>rfl),Nc,goInt];rfl
   rename_i aa;split at h
   ·rename_i c e' ar;split at h
    ·rename_i ap;cases h;obtain⟨c',ad,ab⟩:=aj (Nat.min m len) (Nat.min_le_left _ _);have aF:len≠0:=λe=>aa (by rw[e];exact Nat.min_zero m);have aB:av=i.at_.add a.off:=by rcases g4 with h | ⟨h,_⟩;exact h;exact absurd h aF
     have aJ:(aL.take (Nat.min m len * ag.size)).length=Nat.min m len * ag.size:=by
      rw[Sb,aE];exact BC (Bs _ (Nat.min_le_left _ _))
     obtain⟨w',au,aH,aC⟩:=(ac.live _ _ i ar g1).storeList (off:=a.off) ad (by rw[aJ];exact ap.1) (λu aK=>Li.1 ap.2 u aK);obtain⟨aM,aN⟩:=ac.setBlk g1 ar rfl aH aC;refine⟨.int .i64 (Nat.min m len:Nat),ρ,w',?_,.same _ rfl,aM,aN⟩;rw[ak];rw[<- aB]at au;simp only[LW,LZ am,Lz,al,Wg hi,ab w (λ_=>rfl),au,Nc,goInt]
    cases h
   cases h
  cases h
end
end Go.Ab
