import Derived.Test.YtopkfjiipdjbmaaGreatDoorAbB
import Derived.Test.YtopkfjiipdjbmaaGreatDoorAbA
import Derived.ProofKit
import Derived.OpenShut
set_option linter.defProp false
set_option linter.unusedVariables false
set_option linter.unusedSimpArgs false
noncomputable section
namespace Go.Ab
abbrev CallF:=FuncId->List Value->Qa->Option (Value×Qa)
structure Wx where
 fn:CallF
 yd:CallF
def X9 (H:Qa):Option Value->Option (Cls×Value×Qa)
 | some v=>some (.pure,v,H)
 | none=>none
def Qs0 (P:Program)(k:Bool)(op:BinOp)(t:TypeId)(x y:Value):Option Value:=
 match x,y with
 | .int ik a,.int ik' b=>match op with
  | .shl | .shr=>Qaw op ik a b
  | _=>if ik=ik' then YK op ik a b else none
 | .string a,.string b=>Qcd op (bl a) (bl b)
 | x,y=>Ql8 P k op t x y
def QuV (P:Program)(call:Wx)(A:Env)(H:Qa)(c x y:Operand):Option (Cls×Value×Qa):=
 match ev A c with
  | .bool t=>some (.pure,bif t then ev A x else ev A y,H)
  | _=>none
def Qcg (P:Program)(call:Wx)(A:Env)(H:Qa)(x:Operand):Option (Cls×Value×Qa):=
 bif Qgd (ev A x) then some (.pure,ev A x,H) else none
def QbV (P:Program)(call:Wx)(A:Env)(H:Qa)(op:BinOp)(t:TypeId)(x y:Operand):Option (Cls×Value×Qa):=
 X9 H (Qs0 P (Qic x||Qic y) op t (ev A x) (ev A y))
def QuW (P:Program)(call:Wx)(A:Env)(H:Qa)(op:UnOp)(x:Operand):Option (Cls×Value×Qa):=
 X9 H (QqS op (ev A x))
def V3 (P:Program)(call:Wx)(A:Env)(H:Qa)(src aa:TypeId)(x:Operand):Option (Cls×Value×Qa):=
 match P.underlying src,P.underlying aa,ev A x with
  | some _,some (.slice e),.string s=>match P.underlying e,P.info? e with
   | some (.int .u8),some inf=>match inf.zero with
    | some z=>bif Qge P e inf z&&Nat.beq inf.size 1&&Nat.ble (bl s).length 140737488355328 then
      some (.alloc (.cells (X6 s) e false),.slice (some ⟨H.y,0,none⟩) (bl s).length (UNK+1),H.push (.cells (X6 s) e false)) else none
    | none=>none
   | _,_=>none
  | some (.slice e),some .string,.slice a m c=>match P.underlying e,WB 1 (.slice a m c) H with
   | some (.int .u8),some l=>match Y6 l with
    | some bs=>some (.gen,.string (mkS bs),H)
    | none=>none
   | _,_=>none
  | some (.pointer t),some .unsafePointer,.pointer (some a)=>match P.info? t,H.get a.block with
   | some j,some (.cells c e false)=>if j.size≠0∧a.off<c.length then some (.gen,.pointer (some a),H) else none
   | _,_=>none
  | some .unsafePointer,some (.pointer u),.pointer (some a)=>match P.info? u,H.get a.block with
   | some j,some (.cells c e false)=>if liesAt P P.depth e (c.length / P.cellsOf e) a.off u 1=true then some (.gen,.pointer (some a),H) else none
   | _,_=>none
  | _,_,_=>X9 H (Qqx P src aa (ev A x))
def KL (P:Program)(call:Wx)(A:Env)(H:Qa)(t:TypeId)(x:Operand):Option (Cls×Value×Qa):=
 match P.underlying t with
  | some (.interface _)=>none
  | some _=>some (.pure,.iface t (ev A x),H)
  | none=>none
def Qlg (P:Program)(call:Wx)(A:Env)(H:Qa)(fn:Fn)(first aa:Array Operand):Option (Cls×Value×Qa):=
 bif QbT fn then some (.pure,.func fn (first.map (ev A)) (aa.map (ev A)),H) else none
def Qqz (P:Program)(call:Wx)(A:Env)(H:Qa)(t:TypeId)(x:Operand)(f:Nat):Option (Cls×Value×Qa):=
 match P.underlying t,ev A x with
  | some (.struct fs),.agg cs=>match fs[f]? with
   | some aa=>X9 H (apart P aa.type cs aa.offset)
   | none=>none
  | _,_=>none
def Gg (P:Program)(call:Wx)(A:Env)(H:Qa)(t:TypeId)(x:Operand)(f:Nat):Option (Cls×Value×Qa):=
 match P.underlying t,ev A x with
  | some (.struct fs),.pointer (some a)=>match fs[f]? with
   | some aa=>match P.info? aa.type with
    | some ab=>bif Nat.beq ab.size 0 then none else some (.pure,.pointer (some ⟨a.block,a.off+aa.offset,none⟩),H)
    | none=>none
   | none=>none
  | _,_=>none
def YY (P:Program)(call:Wx)(A:Env)(H:Qa)(t:TypeId)(x ab:Operand):Option (Cls×Value×Qa):=
 match ev A ab with
  | .int _ m=>match P.underlying t,ev A x with
   | some (.slice e),.slice (some a) len _=>match P.info? e with
    | some aa=>if 0<=m∧m<len then some (.pure,.pointer (some ⟨a.block,a.off+m.toNat * aa.size,none⟩),H) else none
    | none=>none
   | some (.array len e),.pointer (some a)=>match P.info? e with
    | some aa=>if 0<=m∧m<len then some (.pure,.pointer (some ⟨a.block,a.off+m.toNat * aa.size,none⟩),H) else none
    | none=>none
   | _,_=>none
  | _=>none
def Qmb (P:Program)(call:Wx)(A:Env)(H:Qa)(t:TypeId)(x ab:Operand):Option (Cls×Value×Qa):=
 match ev A ab with
  | .int _ m=>match P.underlying t,ev A x with
   | some .string,.string s=>if 0<=m then(match (bl s)[m.toNat]? with | some b=>some (.pure,.int .u8 b.toNat,H) | none=>none) else none
   | some (.array len e),.agg cs=>match P.info? e with
    | some aa=>if 0<=m∧m<len then X9 H (apart P e cs (m.toNat * aa.size)) else none
    | none=>none
   | _,_=>none
  | _=>none
def QjD (P:Program)(call:Wx)(A:Env)(H:Qa)(x:Operand)(aa:Nat):Option (Cls×Value×Qa):=
 match ev A x with
  | .tuple vs=>X9 H vs[aa]?
  | _=>none
def QqA (P:Program)(call:Wx)(A:Env)(H:Qa)(t:TypeId)(aa:Array (Nat×Operand)):Option (Cls×Value×Qa):=
 match P.underlying t,P.info? t with
  | some (.struct fs),some inf=>match inf.zero,Ql7 P fs with
   | some z,some pl=>bif z.cells.toList.all plain then X9 H ((QdH (pl[·]?) z.cells.toList (YG A aa)).map λr=>.agg r.toArray) else none
   | _,_=>none
  | some (.array _ e),some inf=>match inf.zero,P.info? e with
   | some z,some inf'=>bif z.cells.toList.all plain then X9 H ((QdH (λi=>some (i * inf'.size,inf'.size)) z.cells.toList (YG A aa)).map λr=>.agg r.toArray) else none
   | _,_=>none
  | _,_=>none
def QbW (P:Program)(call:Wx)(A:Env)(H:Qa)(t:TypeId)(len:Nat)(ab:Array (Nat×Operand)):Option (Cls×Value×Qa):=
 match P.underlying t with
  | some (.slice e)=>match P.info? e with
   | some aa=>match aa.zero with
    | some z=>bif z.cells.toList.all plain&&Nat.blt 0 z.cells.size&&Nat.ble len 16777216&&Nat.ble (len * aa.size) 16777216 then
      match QdH (λi=>some (i * aa.size,aa.size)) (XG z.cells (len * aa.size)) (YG A ab) with
      | some r=>some (.alloc (.cells r e false),.slice (some ⟨H.y,0,none⟩) len len,H.push (.cells r e false))
      | none=>none
     else none
    | none=>none
   | none=>none
  | _=>none
def QqB (P:Program)(call:Wx)(A:Env)(H:Qa)(e:TypeId):Option (Cls×Value×Qa):=
 match P.info? e with
  | some aa=>match aa.zero with
   | some z=>bif z.cells.toList.all plain then some (.alloc (.cells z.cells.toList e false),.pointer (some ⟨H.y,0,none⟩),H.push (.cells z.cells.toList e false)) else none
   | none=>none
  | none=>none
def QDS (P:Program)(call:Wx)(A:Env)(H:Qa)(e:TypeId)(x:Operand):Option (Cls×Value×Qa):=
 some (.alloc (.cells (ev A x).cells.toList e false),.pointer (some ⟨H.y,0,none⟩),H.push (.cells (ev A x).cells.toList e false))
def QdJ (P:Program)(call:Wx)(A:Env)(H:Qa)(t:TypeId)(x y:Operand):Option (Cls×Value×Qa):=
 match P.underlying t,ev A x,ev A y with
  | some (.slice e),.int .i64 l,.int .i64 c=>match P.info? e with
   | some aa=>match aa.zero with
    | some z=>if Qge P e aa z=true∧0<=l∧l<=c∧(aa.bytes:Int) * c<=281474976710656∧c<=9223372036854775807 then
      some (.alloc (.cells (XG z.cells (c.toNat * aa.size)) e false),.slice (some ⟨H.y,0,none⟩) l.toNat c.toNat,H.push (.cells (XG z.cells (c.toNat * aa.size)) e false))
     else none
    | none=>none
   | none=>none
  | _,_,_=>none
def Qgk (P:Program)(call:Wx)(A:Env)(H:Qa)(t:TypeId)(x:Operand)(lo hi mx:Option Operand):Option (Cls×Value×Qa):=
 match P.underlying t with
  | some .string=>match ev A x,mx,QS A lo,QS A hi with
   | .string s,none,some l,some h=>if 0<=l.getD 0∧l.getD 0<=h.getD (bl s).length∧h.getD (bl s).length<=(bl s).length then some (.pure,.string (mkS (((bl s).drop (l.getD 0).toNat).take ((h.getD (bl s).length).toNat - (l.getD 0).toNat))),H) else none
   | _,_,_,_=>none
  | some (.slice e)=>match P.info? e,QS A lo,QS A hi,QS A mx with
   | some aa,some l,some h,some m=>if m.isNone||h.isSome then X9 H (Y3 aa.size (ev A x) l h m) else none
   | _,_,_,_=>none
  | some (.array n e)=>match ev A x,mx,QS A lo,QS A hi with
   | .pointer (some a),none,some l,some h=>match P.info? e with
    | some aa=>if 0<=l.getD 0∧l.getD 0<=h.getD n∧h.getD n<=n∧n<UNK then some (.pure,.slice (some ⟨a.block,a.off+(l.getD 0).toNat * aa.size,none⟩) ((h.getD n).toNat - (l.getD 0).toNat) (n - (l.getD 0).toNat),H) else none
    | none=>none
   | _,_,_,_=>none
  | _=>none
def Qq7 (P:Program)(call:Wx)(A:Env)(H:Qa)(t:TypeId)(x:Operand):Option (Cls×Value×Qa):=
 match ev A x with
  | .pointer (some a)=>match X5 P t a H with
   | some v=>some (.load,v,H)
   | none=>none
  | _=>none
def Qmc (P:Program)(call:Wx)(A:Env)(H:Qa)(t:TypeId)(x y:Operand):Option (Cls×Value×Qa):=
 match ev A x with
  | .pointer (some a)=>match Qlc P t a (ev A y) H with
   | some H'=>some (.gen,undef,H')
   | none=>none
  | _=>none
def QDT:Value->Bool
 | .int .u8 m=>decide (0<=m)&&decide (m<256)
 | _=>false
def QaP (P:Program)(call:Wx)(A:Env)(H:Qa)(c:Call):Option (Cls×Value×Qa):=
 match c with
  | ⟨.builtin b,args,ts⟩=>match b,args.toList,ts.toList with
   | .len,[x],[t]=>match QDG P t (ev A x) with | some m=>some (.pure,.int .i64 (m:Int),H) | none=>none
   | .cap,[x],[t]=>match P.underlying t,ev A x with
    | some (.slice _),.slice _ _ c=>bif Nat.blt c UNK then some (.pure,.int .i64 c,H) else none
    | _,_=>none
   | .max,[x,y],_=>match ev A x,ev A y with
    | .int k a,.int k' b=>if k=k' then some (.pure,.int k (if b>a then b else a),H) else none
    | _,_=>none
   | .min,[x,y],_=>match ev A x,ev A y with
    | .int k a,.int k' b=>if k=k' then some (.pure,.int k (if b<a then b else a),H) else none
    | _,_=>none
   | .append,[x,y],[t,t2]=>match P.underlying t,P.underlying t2 with
    | some (.slice e),some td=>match P.info? e with
     | some aa=>match aa.zero with
      | some z=>bif Qib td&&Qge P e aa z then(QjC e aa (ev A x) (ev A y) H).map λr=>(.gen,r.1,r.2) else none
      | none=>none
     | none=>none
    | _,_=>none
   | .copy,[x,y],[t,_]=>match P.underlying t with
    | some (.slice e)=>match P.info? e with
     | some aa=>(QAU aa.size (ev A x) (ev A y) H).map λr=>(.gen,r.1,r.2)
     | none=>none
    | _=>none
   | .unsafeSliceData,[x],_=>match ev A x with
    | .slice none _ _=>some (.pure,.pointer none,H)
    | .slice (some a) m _=>if m≠0 then some (.pure,.pointer (some a),H) else none
    | _=>none
   | .unsafeString,[x,y],[pt,_]=>match ev A x,ev A y with
    | .pointer none,.int .i64 0=>some (.gen,.string (mkS []),H)
    | .pointer (some a),.int .i64 m=>match P.underlying pt,H.get a.block with
     | some (.pointer e),some (.cells c e' false)=>
      if e=e'∧a=⟨a.block,0,none⟩∧P.cellsOf e=1∧0<m∧m.toNat<=c.length∧m<=9223372036854775807∧(c.take m.toNat).all QDT=true then
       (match Y6 (c.take m.toNat) with
       | some bs=>some (.gen,.string (mkS bs),H.set a.block (.cells c e true))
       | none=>none)
      else none
     | _,_=>none
    | _,_=>none
   | _,_,_=>none
  | ⟨.invoke recv name,args,ts⟩=>match ev A recv with
   | .iface t v=>match Ql9 P t name with
    | some f=>(call.fn f (v::(args.map (ev A)).toList) H).map λr=>(.gen,r.1,r.2)
    | none=>none
   | _=>none
  | ⟨.value (.func f),args,ts⟩=>(call.fn f (args.map (ev A)).toList H).map λr=>(.gen,r.1,r.2)
  | ⟨.value c,args,ts⟩=>match ev A c with
   | .func (.func f) xs ys=>(call.fn f (xs.toList++(args.map (ev A)).toList++ys.toList) H).map λr=>(.gen,r.1,r.2)
   | .func (.yield l) xs ys=>bif Nat.beq xs.size 0&&Nat.beq ys.size 0 then(call.yd l (args.map (ev A)).toList H).map λr=>(.gen,r.1,r.2) else none
   | _=>none
def Qig (P:Program)(call:Wx)(A:Env)(H:Qa)(t:TypeId)(x aa:Operand)(ok:Bool):Option (Cls×Value×Qa):=
 match P.underlying t with
 | some (.map k e)=>(QwP P k e (ev A x) (ev A aa) ok H).map λv=>(.gen,v,H)
 | _=>none
def Qpb (P:Program)(call:Wx)(A:Env)(H:Qa)(t:TypeId)(m k x:Operand):Option (Cls×Value×Qa):=
 match P.underlying t with
 | some (.map kt _)=>(QuT P kt (ev A m) (ev A k) (ev A x) H).map λH'=>(.gen,undef,H')
 | _=>none
def QqC (P:Program)(call:Wx)(A:Env)(H:Qa)(t:TypeId)(x:Operand):Option (Cls×Value×Qa):=
 match P.underlying t,ev A x with
 | some .string,.string s=>some (.alloc (.iter s 0),.pointer (some ⟨H.y,0,none⟩),H.push (.iter s 0))
 | _,_=>none
def aop (P:Program)(call:Wx)(o:Oper)(A:Env)(H:Qa):Option (Cls×Value×Qa):=
 match o.op with
 | .move x=>some (.pure,ev A x,H)
 | .assign x=>some (.pure,ev A x,H)
 | .pick c x y=>QuV P call A H c x y
 | .nilCheck x=>Qcg P call A H x
 | .binOp op t x y _=>QbV P call A H op t x y
 | .unOp op _ x=>QuW P call A H op x
 | .convert src ad x=>V3 P call A H src ad x
 | .makeInterface t x=>KL P call A H t x
 | .makeFunc fn first ac=>Qlg P call A H fn first ac
 | .field t x f=>Qqz P call A H t x f
 | .fieldAddr t x f=>Gg P call A H t x f
 | .indexAddr t x aa=>YY P call A H t x aa
 | .index t x aa=>Qmb P call A H t x aa
 | .extract x aa=>QjD P call A H x aa
 | .build t ab=>QqA P call A H t ab
 | .buildSlice t len ab=>QbW P call A H t len ab
 | .alloc e=>QqB P call A H e
 | .box e x=>QDS P call A H e x
 | .makeSlice t x y=>QdJ P call A H t x y
 | .slice t x lo hi mx=>Qgk P call A H t x lo hi mx
 | .load t x=>Qq7 P call A H t x
 | .store t x y=>Qmc P call A H t x y
 | .call c=>QaP P call A H c
 | .makeMap _ none=>some (.alloc (.map []),.map (some H.y),H.push (.map []))
 | .lookup t x aa ok=>Qig P call A H t x aa ok
 | .mapUpdate t m k x=>Qpb P call A H t m k x
 | .insert t m k x=>Qpb P call A H t m k x
 | .range t x=>QqC P call A H t x
 | .next it true=>(Qt8 H (ev A it)).map λr=>(.gen,r.1,r.2)
 | _=>none
section
variable {P:Program} {n:Nat} {A:Env} {H:Qa}
def Qpc (P:Program)(o:Oper)(A:Env)(H:Qa)(v:Value)(H':Qa):Cls->Prop
 | .pure=>H'=H∧∀h,Qx P o A h v h
 | .load=>H'=H∧∃t x a,o.op=.load t x∧ev A x=.pointer (some a)∧X5 P t a H=some v
 | .alloc b=>H'=H.push b∧∀h,h.y=H.y->Qx P o A h v (h.push b)
 | .gen=>Qx P o A H v H'
def Qpc.does {o:Oper}{v:Value}{H':Qa}{c:Cls}(h:Qpc P o A H v H' c):Qx P o A H v H':=by
 cases c with
 | pure=>obtain⟨rfl,h⟩:=h;exact h _
 | load=>
  obtain⟨rfl,t,x,a,aa,ab,ac⟩:=h;obtain⟨ad,op,ty,pos,af,g⟩:=o;simp only at aa;subst aa;exact QF4 ab ac
 | alloc b=>obtain⟨rfl,h⟩:=h;exact h _ rfl
 | gen=>exact h
def CallOk (P:Program)(call:CallF):Prop:=∀f args H v H',call f args H=some (v,H')->Kd P f args H v H'
structure Qgl (P:Program) (call:Wx):Prop where
 fn:CallOk P call.fn
 yd:∀l args H v H',call.yd l args H=some (v,H')->Qt6 P l args H v H'
def Yv {r:Option Value}{c:Cls}{v:Value}{H':Qa}(h:X9 H r=some (c,v,H')):r=some v∧c=.pure∧H'=H:=by
 cases r with
 | none=>simp[X9]at h
 | some u=>simp[X9]at h;obtain⟨rfl,rfl,rfl⟩:=h;exact⟨rfl,rfl,rfl⟩
def QCd {op:BinOp}{t ac:TypeId}{x y:Operand}{v:Value}{d:Option Nat}{ty:TypeId}{pos:String}{af:Array Edge}{g:Option (Nat×Bool)}(h:Qs0 P (Qic x||Qic y) op t (ev A x) (ev A y)=some v):Qx P ⟨d,.binOp op t x y ac,ty,pos,af,g⟩ A H v H:=by
 unfold Qs0 at h;split at h
 ·rename_i k a ag b aa ab;split at h;·exact QwC aa ab h
  ·exact QwC aa ab h
  split at h;·rename_i e;subst e;exact QIN aa ab h
  cases h
 ·rename_i a b aa ab;exact QIO aa ab h
 rename_i ad ae;exact QKN h
set_option maxHeartbeats 2000000 in
def QnX {call:Wx}(aC:Qgl P call){o:Oper}{c:Cls}{v:Value}{H':Qa}(h:aop P call o A H=some (c,v,H')):Qpc P o A H v H' c:=by
 obtain⟨aM,op,ty,pos,af,g⟩:=o;unfold aop at h;split at h
 case h_1 x hop=>simp only at hop;subst hop;simp only[Lt,LB]at h;obtain⟨rfl,rfl,rfl⟩:=h;exact⟨rfl,λh=>QF1⟩
 case h_2 x hop=>simp only at hop;subst hop;simp only[Lt,LB]at h;obtain⟨rfl,rfl,rfl⟩:=h;exact⟨rfl,λh=>QB2⟩
 case h_3 aH x y hop=>
  simp only at hop;subst hop;unfold QuV at h;split at h;·rename_i t ap;simp only[Lt,LB]at h;obtain⟨rfl,rfl,rfl⟩:=h;refine⟨rfl,λh=>?_⟩;have:=QF2 (P:=P) (H:=h) (d:=aM) (ty:=ty) (pos:=pos) (af:=af) (g:=g) (x:=x) (y:=y) ap;cases t<;>exact this
  cases h
 case h_4 x hop=>
  simp only at hop;subst hop;unfold Qcg at h;cases ae:Qgd (ev A x) with
  | false=>rw[ae]at h;cases h
  | true=>
   rw[ae]at h;simp only[Lq,Lt,LB]at h;obtain⟨rfl,rfl,rfl⟩:=h;exact⟨rfl,λh=>QwB ae⟩
 case h_5 bop t x y t' hop=>
  simp only at hop;subst hop;unfold QbV at h;obtain⟨ag,rfl,rfl⟩:=Yv h;exact⟨rfl,λh=>QCd ag⟩
 case h_6 uop t x hop=>
  simp only at hop;subst hop;unfold QuW at h;obtain⟨ag,rfl,rfl⟩:=Yv h;exact⟨rfl,λh=>QKM ag⟩
 case h_7 src d' x hop=>
  simp only at hop;subst hop;unfold V3 at h;split at h
  ·rename_i u e s am ak ab;split at h
   ·rename_i ah aE hi;split at h
    ·rename_i z ai;cases aa:(Qge P e ah z&&Nat.beq ah.size 1&&Nat.ble (bl s).length 140737488355328) with
     | false=>rw[aa]at h;cases h
     | true=>
      rw[aa]at h;simp only[Lq,Lt,LB]at h;obtain⟨rfl,rfl,rfl⟩:=h;simp only[Lm,Zn,Lv,BL]at aa;refine⟨rfl,λh ae=>?_⟩;rw[<- ae];exact Qy5 am ak aE (V0.mk' hi ai aa.1.1) aa.1.2 ab aa.2
    cases h
   cases h
  ·rename_i e a m aB am ak ab;split at h
   ·rename_i l aE az;split at h;·rename_i bs av;simp only[Lt,LB]at h;obtain⟨rfl,rfl,rfl⟩:=h;exact QDO am aE ak (by rw[ab];exact az) av
    cases h
   cases h
  ·rename_i t a am ak ab;split at h
   ·rename_i j c e hi ax;split at h;·rename_i aa;simp only[Lt,LB]at h;obtain⟨rfl,rfl,rfl⟩:=h;exact QwO ab am ak hi aa.1 ax aa.2
    cases h
   cases h
  ·rename_i u a am ak ab;split at h
   ·rename_i j c e hi ax;split at h;·rename_i aa;simp only[Lt,LB]at h;obtain⟨rfl,rfl,rfl⟩:=h;exact QsZ ab am ak hi ax aa
    cases h
   cases h
  obtain⟨ag,rfl,rfl⟩:=Yv h;exact⟨rfl,λh=>QF3 ag⟩
 case h_8 t x hop=>
  simp only at hop;subst hop;unfold KL at h;split at h;·cases h
  ·rename_i aG aQ aU;simp only[Lt,LB]at h;obtain⟨rfl,rfl,rfl⟩:=h;refine⟨rfl,λh=>QnO aU ?_⟩;cases aG<;>first | rfl | exact absurd rfl (aQ _)
  cases h
 case h_9 fn first captured hop=>
  simp only at hop;subst hop;unfold Qlg at h;cases ae:QbT fn with
  | false=>rw[ae]at h;cases h
  | true=>
   rw[ae]at h;simp only[Lq,Lt,LB]at h;obtain⟨rfl,rfl,rfl⟩:=h;exact⟨rfl,λh=>QwD ae⟩
 case h_10 t x f hop=>
  simp only at hop;subst hop;unfold Qqz at h;split at h
  ·rename_i aI cs ac ab;split at h;·rename_i aO aF;obtain⟨ag,rfl,rfl⟩:=Yv h;exact⟨rfl,λh=>QDD ac aF ab ag⟩
   cases h
  cases h
 case h_11 t x f hop=>
  simp only at hop;subst hop;unfold Gg at h;split at h
  ·rename_i aI a ac ab;split at h
   ·rename_i aO aF;split at h
    ·rename_i ah hi;cases ai:Nat.beq ah.size 0 with
     | true=>rw[ai]at h;cases h
     | false=>
      rw[ai]at h;simp only[Ls,Lt,LB]at h;obtain⟨rfl,rfl,rfl⟩:=h;exact⟨rfl,λh=>QuO ac aF hi ai ab⟩
    cases h
   cases h
  cases h
 case h_12 t x ix hop=>
  simp only at hop;subst hop;unfold YY at h;split at h
  ·rename_i k m ar;split at h
   ·rename_i e a len cap ac ab;split at h
    ·rename_i ah hi;split at h;·rename_i aa;simp only[Lt,LB]at h;obtain⟨rfl,rfl,rfl⟩:=h;exact⟨rfl,λh=>Qld ac hi ab ar aa.1 aa.2⟩
     cases h
    cases h
   ·rename_i len e a ac ab;split at h
    ·rename_i ah hi;split at h;·rename_i aa;simp only[Lt,LB]at h;obtain⟨rfl,rfl,rfl⟩:=h;exact⟨rfl,λh=>Qle ac hi ab ar aa.1 aa.2⟩
     cases h
    cases h
   cases h
  cases h
 case h_13 t x ix hop=>
  simp only at hop;subst hop;unfold Qmb at h;split at h
  ·rename_i k m ar;split at h
   ·rename_i s ac ab;split at h
    ·rename_i aP;split at h;·rename_i b av;simp only[Lt,LB]at h;obtain⟨rfl,rfl,rfl⟩:=h;exact⟨rfl,λh=>QpS ac ab ar aP av⟩
     cases h
    cases h
   ·rename_i len e cs ac ab;split at h
    ·rename_i ah hi;split at h;·rename_i aa;obtain⟨ag,rfl,rfl⟩:=Yv h;exact⟨rfl,λh=>QqT ac hi ab ar aa.1 aa.2 ag⟩
     cases h
    cases h
   cases h
  cases h
 case h_14 x ix hop=>
  simp only at hop;subst hop;unfold QjD at h;split at h;·rename_i vs ab;obtain⟨ag,rfl,rfl⟩:=Yv h;exact⟨rfl,λh=>QyY ab ag⟩
  cases h
 case h_15 t parts hop=>
  simp only at hop;subst hop;unfold QqA at h;split at h
  ·rename_i aI ah ac hi;split at h
   ·rename_i z bd ai aS;cases aa:z.cells.toList.all plain with
    | false=>rw[aa]at h;cases h
    | true=>
     rw[aa]at h;obtain⟨ag,rfl,rfl⟩:=Yv h;simp only[Lx]at ag;obtain⟨r,ad,rfl⟩:=ag;exact⟨rfl,λh=>QpT ac hi ai aa aS ad⟩
   cases h
  ·rename_i len e ah ac hi;split at h
   ·rename_i z ba ai ay;cases aa:z.cells.toList.all plain with
    | false=>rw[aa]at h;cases h
    | true=>
     rw[aa]at h;obtain⟨ag,rfl,rfl⟩:=Yv h;simp only[Lx]at ag;obtain⟨r,ad,rfl⟩:=ag;exact⟨rfl,λh=>QqV ac hi ai aa ay ad⟩
   cases h
  cases h
 case h_16 t len parts hop=>
  simp only at hop;subst hop;unfold QbW at h;split at h
  ·rename_i e ac;split at h
   ·rename_i ah hi;split at h
    ·rename_i z ai;cases aa:(z.cells.toList.all plain&&Nat.blt 0 z.cells.size&&Nat.ble len 16777216&&Nat.ble (len * ah.size) 16777216) with
     | false=>rw[aa]at h;cases h
     | true=>
      rw[aa]at h;simp only[Lq]at h;simp only[Lm]at aa;obtain⟨⟨⟨c1,c2⟩,c3⟩,ao⟩:=aa;split at h;·rename_i r ad;simp only[Lt,LB]at h;obtain⟨rfl,rfl,rfl⟩:=h;refine⟨rfl,λh ae=>?_⟩;rw[<- ae];exact QsX ac hi ai c1 c2 c3 ao ad
      cases h
    cases h
   cases h
  cases h
 case h_17 e hop=>
  simp only at hop;subst hop;unfold QqB at h;split at h
  ·rename_i ah hi;split at h
   ·rename_i z ai;cases aa:z.cells.toList.all plain with
    | false=>rw[aa]at h;cases h
    | true=>
     rw[aa]at h;simp only[Lq,Lt,LB]at h;obtain⟨rfl,rfl,rfl⟩:=h;refine⟨rfl,λh ae=>?_⟩;rw[<- ae];exact QDF hi ai aa
   cases h
  cases h
 case h_18 e x hop=>
  simp only at hop;subst hop;unfold QDS at h;simp only[Lt,LB]at h;obtain⟨rfl,rfl,rfl⟩:=h;refine⟨rfl,λh ae=>?_⟩;rw[<- ae];exact QIP
 case h_19 t x y hop=>
  simp only at hop;subst hop;unfold QdJ at h;split at h
  ·rename_i e l aH ac ab aj;split at h
   ·rename_i ah hi;split at h
    ·rename_i z ai;split at h;·rename_i aa;obtain⟨c0,c1,c2,c3,ao⟩:=aa;simp only[Lt,LB]at h;obtain⟨rfl,rfl,rfl⟩:=h;refine⟨rfl,λh ae=>?_⟩;rw[<- ae];exact QuP ac (V0.mk' hi ai c0) ab aj c1 c2 c3 ao
     cases h
    cases h
   cases h
  cases h
 case h_20 t x lo hi mx hop=>
  simp only at hop;subst hop;unfold Qgk at h;split at h
  ·rename_i ac;split at h
   ·rename_i s l aJ ab au aq;split at h;·rename_i aa;simp only[Lt,LB]at h;obtain⟨rfl,rfl,rfl⟩:=h;exact⟨rfl,λh=>QpU ac ab au aq aa.1 aa.2.1 aa.2.2⟩
    cases h
   cases h
  ·rename_i e ac;split at h
   ·rename_i ah l aJ m ay au aq aD;split at h
    ·rename_i aa;obtain⟨ag,rfl,rfl⟩:=Yv h;refine⟨rfl,λh=>QqW ac ay au aq aD (λal ae=>?_) ag⟩;subst ae;cases m with
     | none=>exact al rfl
     | some m=>simp at aa
    cases h
   cases h
  ·rename_i m e ac;split at h
   ·rename_i a l aJ ab au aq;split at h
    ·rename_i ah ay;split at h;·rename_i aa;simp only[Lt,LB]at h;obtain⟨rfl,rfl,rfl⟩:=h;exact⟨rfl,λh=>Qq6 ac ay ab au aq aa.1 aa.2.1 aa.2.2.1 aa.2.2.2⟩
     cases h
    cases h
   cases h
  cases h
 case h_21 t x hop=>
  simp only at hop;subst hop;unfold Qq7 at h;split at h
  ·rename_i a ab;split at h;·rename_i bi az;simp only[Lt,LB]at h;obtain⟨rfl,rfl,rfl⟩:=h;exact⟨rfl,t,x,a,rfl,ab,az⟩
   cases h
  cases h
 case h_22 t x y hop=>
  simp only at hop;subst hop;unfold Qmc at h;split at h
  ·rename_i a ab;split at h;·rename_i H1 az;simp only[Lt,LB]at h;obtain⟨rfl,rfl,rfl⟩:=h;exact QDE ab az
   cases h
  cases h
 case h_23 aH hop=>
  simp only at hop;subst hop;unfold QaP at h;split at h
  ·rename_i b args aA;obtain⟨args⟩:=args;obtain⟨aA⟩:=aA;simp only at h;split at h
   ·rename_i x t;split at h;·rename_i m al;simp only[Lt,LB]at h;obtain⟨rfl,rfl,rfl⟩:=h;exact⟨rfl,λh=>QIQ al⟩
    cases h
   ·rename_i x t;split at h
    ·rename_i e a m aB ac ab;cases aa:Nat.blt aB UNK with
     | false=>rw[aa]at h;cases h
     | true=>
      rw[aa]at h;simp only[Lq,Lt,LB]at h;obtain⟨rfl,rfl,rfl⟩:=h;exact⟨rfl,λh=>QIR ac ab aa⟩
    cases h
   ·rename_i x y;split at h
    ·rename_i k a aW b' ab aj;split at h;·rename_i e;subst e;simp only[Lt,LB]at h;obtain⟨rfl,rfl,rfl⟩:=h;exact⟨rfl,λh=>QF5 ab aj⟩
     cases h
    cases h
   ·rename_i x y;split at h
    ·rename_i k a aW b' ab aj;split at h;·rename_i e;subst e;simp only[Lt,LB]at h;obtain⟨rfl,rfl,rfl⟩:=h;exact⟨rfl,λh=>QF6 ab aj⟩
     cases h
    cases h
   ·rename_i x y t t2;split at h
    ·rename_i e aG ac aT;split at h
     ·rename_i ah hi;split at h
      ·rename_i z ai;cases aa:(Qib aG&&Qge P e ah z) with
       | false=>rw[aa]at h;cases h
       | true=>
        rw[aa]at h;simp only[Lq,Lx,LB]at h;obtain⟨⟨an,H1⟩,ad,rfl,rfl,rfl⟩:=h;simp only[Lm]at aa;exact QB4 ac aT aa.1 (V0.mk' hi ai aa.2) ad
      cases h
     cases h
    cases h
   ·rename_i x y t t2;split at h
    ·rename_i e ac;split at h;·rename_i ah hi;simp only[Lx,LB]at h;obtain⟨⟨an,H1⟩,ad,rfl,rfl,rfl⟩:=h;exact QF8 ac hi ad
     cases h
    cases h
   ·rename_i x;split at h;·rename_i m aB ab;simp only[Lt,LB]at h;obtain⟨rfl,rfl,rfl⟩:=h;exact⟨rfl,λh=>QnV ab⟩
    ·rename_i a m aB ab;split at h;·rename_i al;simp only[Lt,LB]at h;obtain⟨rfl,rfl,rfl⟩:=h;exact⟨rfl,λh=>QuR ab al⟩
     cases h
    cases h
   ·rename_i x y bg it;split at h;·rename_i ab aj;simp only[Lt,LB]at h;obtain⟨rfl,rfl,rfl⟩:=h;exact QnW ab aj
    ·rename_i a m ab aj;split at h
     ·rename_i e c e' aR ax;split at h
      ·rename_i aa;obtain⟨rfl,c1,c2,c3,ao,aY,aL⟩:=aa;split at h
       ·rename_i bs av;simp only[Lt,LB]at h;obtain⟨rfl,rfl,rfl⟩:=h;have aD:m=(m.toNat:Int):=by omega
        rw[aD]at aj;rw[c1]at ab;exact QuS ab aj aR c2 ax (by omega) ao (by omega) av (λv aV=>by
         have:=Li.1 aL v aV;unfold QDT at this;split at this;·rename_i k;simp only[Lm,Lv]at this;exact⟨k,rfl,this.1,this.2⟩
         cases this)
       cases h
      cases h
     cases h
    cases h
   cases h
  ·rename_i bh bc args aA;split at h
   ·rename_i t bj aN;split at h;·rename_i f al;simp only[Lx,LB]at h;obtain⟨⟨an,H1⟩,ad,rfl,rfl,rfl⟩:=h;exact QCa aN al (aC.fn _ _ _ _ _ ad)
    cases h
   cases h
  ·rename_i f args aA;simp only[Lx,LB]at h;obtain⟨⟨an,H1⟩,ad,rfl,rfl,rfl⟩:=h;exact Qqy (aC.fn _ _ _ _ _ ad)
  rename_i aZ args aA _;split at h;·rename_i f xs aK ap;simp only[Lx,LB]at h;obtain⟨⟨an,H1⟩,ad,rfl,rfl,rfl⟩:=h;exact QwG ap (aC.fn _ _ _ _ _ ad)
  ·rename_i l xs aK ap;cases aa:(Nat.beq xs.size 0&&Nat.beq aK.size 0) with
   | false=>rw[aa]at h;cases h
   | true=>
    rw[aa]at h;simp only[Lm,Zn,Lv,Array.size_eq_zero_iff]at aa;obtain⟨rfl,rfl⟩:=aa;simp only[Lq,Lx,LB]at h;obtain⟨⟨an,H1⟩,ad,rfl,rfl,rfl⟩:=h;exact QwN ap (aC.yd _ _ _ _ _ ad)
  cases h
 case h_24 t hop=>
  simp only at hop;subst hop;simp only[Lt,LB]at h;obtain⟨rfl,rfl,rfl⟩:=h;exact⟨rfl,λh ae=>by rw[<- ae];exact Qy8⟩
 case h_25 t x ix ok hop=>
  simp only at hop;subst hop;unfold Qig at h;split at h;·rename_i k e ac;simp only[Lx,LB]at h;obtain⟨an,ad,rfl,rfl,rfl⟩:=h;exact QCb ac ad
  cases h
 case h_26 t m k x hop=>
  simp only at hop;subst hop;unfold Qpb at h;split at h;·rename_i aX e ac;simp only[Lx,LB]at h;obtain⟨H1,ad,rfl,rfl,rfl⟩:=h;exact QuU ac ad
  cases h
 case h_27 t m k x hop=>
  simp only at hop;subst hop;unfold Qpb at h;split at h;·rename_i aX e ac;simp only[Lx,LB]at h;obtain⟨H1,ad,rfl,rfl,rfl⟩:=h;exact QCc ac ad
  cases h
 case h_28 t x hop=>
  simp only at hop;subst hop;unfold QqC at h;split at h;·rename_i s ac ab;simp only[Lt,LB]at h;obtain⟨rfl,rfl,rfl⟩:=h;exact⟨rfl,λh ae=>by rw[<- ae];exact QDR ac ab⟩
  cases h
 case h_29 it hop=>
  simp only at hop;subst hop;simp only[Lx,LB]at h;obtain⟨⟨an,H1⟩,ad,rfl,rfl,rfl⟩:=h;exact QF7 ad
 case h_30=>cases h
end
inductive D where
 | d0 | d1 | d2 | d3 | d4 | d5 | d6 | d7 | d8 | d9 | d10 | d11 | d12 | d13 | d14 | d15
structure N16 (α:Type) where
 mk ::
 a0:α
 a1:α
 a2:α
 a3:α
 a4:α
 a5:α
 a6:α
 a7:α
 a8:α
 a9:α
 a10:α
 a11:α
 a12:α
 a13:α
 a14:α
 a15:α
def D.num:D->Nat
 | .d0=>0
 | .d1=>1
 | .d2=>2
 | .d3=>3
 | .d4=>4
 | .d5=>5
 | .d6=>6
 | .d7=>7
 | .d8=>8
 | .d9=>9
 | .d10=>10
 | .d11=>11
 | .d12=>12
 | .d13=>13
 | .d14=>14
 | .d15=>15
def dig (n:Nat):D:=bif Nat.beq n 0 then .d0 else bif Nat.beq n 1 then .d1 else bif Nat.beq n 2 then .d2 else bif Nat.beq n 3 then .d3 else bif Nat.beq n 4 then .d4 else bif Nat.beq n 5 then .d5 else bif Nat.beq n 6 then .d6 else bif Nat.beq n 7 then .d7 else bif Nat.beq n 8 then .d8 else bif Nat.beq n 9 then .d9 else bif Nat.beq n 10 then .d10 else bif Nat.beq n 11 then .d11 else bif Nat.beq n 12 then .d12 else bif Nat.beq n 13 then .d13 else bif Nat.beq n 14 then .d14 else .d15
def QqD {n:Nat}(h:n<16):(dig n).num=n:=by
 have:n=0∨n=1∨n=2∨n=3∨n=4∨n=5∨n=6∨n=7∨n=8∨n=9∨n=10∨n=11∨n=12∨n=13∨n=14∨n=15:=by omega
 rcases this with rfl | rfl | rfl | rfl | rfl | rfl | rfl | rfl | rfl | rfl | rfl | rfl | rfl | rfl | rfl | rfl<;>rfl
def QAV {n m:Nat}(ab:n<16)(aa:m<16)(h:dig n=dig m):n=m:=by rw[<- QqD ab,<- QqD aa,h]
def N16.get {α:Type}(n:N16 α)(d:D):α:=D.rec (motive:=λ_=>N16 α->α) N16.a0 N16.a1 N16.a2 N16.a3 N16.a4 N16.a5 N16.a6 N16.a7 N16.a8 N16.a9 N16.a10 N16.a11 N16.a12 N16.a13 N16.a14 N16.a15 d n
def QM1 {α:Type}(f:α->α->α->α->α->α->α->α->α->α->α->α->α->α->α->α->N16 α)(n:N16 α):N16 α:=N16.rec (motive:=λ_=>N16 α) f n
def N16.set0 {α:Type}(v:α):N16 α->N16 α:=QM1 λ_ b c d e f g h i j k l m n o p=>⟨v,b,c,d,e,f,g,h,i,j,k,l,m,n,o,p⟩
def N16.set1 {α:Type}(v:α):N16 α->N16 α:=QM1 λa _ c d e f g h i j k l m n o p=>⟨a,v,c,d,e,f,g,h,i,j,k,l,m,n,o,p⟩
def N16.set2 {α:Type}(v:α):N16 α->N16 α:=QM1 λa b _ d e f g h i j k l m n o p=>⟨a,b,v,d,e,f,g,h,i,j,k,l,m,n,o,p⟩
def N16.set3 {α:Type}(v:α):N16 α->N16 α:=QM1 λa b c _ e f g h i j k l m n o p=>⟨a,b,c,v,e,f,g,h,i,j,k,l,m,n,o,p⟩
def N16.set4 {α:Type}(v:α):N16 α->N16 α:=QM1 λa b c d _ f g h i j k l m n o p=>⟨a,b,c,d,v,f,g,h,i,j,k,l,m,n,o,p⟩
def N16.set5 {α:Type}(v:α):N16 α->N16 α:=QM1 λa b c d e _ g h i j k l m n o p=>⟨a,b,c,d,e,v,g,h,i,j,k,l,m,n,o,p⟩
def N16.set6 {α:Type}(v:α):N16 α->N16 α:=QM1 λa b c d e f _ h i j k l m n o p=>⟨a,b,c,d,e,f,v,h,i,j,k,l,m,n,o,p⟩
def N16.set7 {α:Type}(v:α):N16 α->N16 α:=QM1 λa b c d e f g _ i j k l m n o p=>⟨a,b,c,d,e,f,g,v,i,j,k,l,m,n,o,p⟩
def N16.set8 {α:Type}(v:α):N16 α->N16 α:=QM1 λa b c d e f g h _ j k l m n o p=>⟨a,b,c,d,e,f,g,h,v,j,k,l,m,n,o,p⟩
def N16.set9 {α:Type}(v:α):N16 α->N16 α:=QM1 λa b c d e f g h i _ k l m n o p=>⟨a,b,c,d,e,f,g,h,i,v,k,l,m,n,o,p⟩
def N16.set10 {α:Type}(v:α):N16 α->N16 α:=QM1 λa b c d e f g h i j _ l m n o p=>⟨a,b,c,d,e,f,g,h,i,j,v,l,m,n,o,p⟩
def N16.set11 {α:Type}(v:α):N16 α->N16 α:=QM1 λa b c d e f g h i j k _ m n o p=>⟨a,b,c,d,e,f,g,h,i,j,k,v,m,n,o,p⟩
def N16.set12 {α:Type}(v:α):N16 α->N16 α:=QM1 λa b c d e f g h i j k l _ n o p=>⟨a,b,c,d,e,f,g,h,i,j,k,l,v,n,o,p⟩
def N16.set13 {α:Type}(v:α):N16 α->N16 α:=QM1 λa b c d e f g h i j k l m _ o p=>⟨a,b,c,d,e,f,g,h,i,j,k,l,m,v,o,p⟩
def N16.set14 {α:Type}(v:α):N16 α->N16 α:=QM1 λa b c d e f g h i j k l m n _ p=>⟨a,b,c,d,e,f,g,h,i,j,k,l,m,n,v,p⟩
def N16.set15 {α:Type}(v:α):N16 α->N16 α:=QM1 λa b c d e f g h i j k l m n o _=>⟨a,b,c,d,e,f,g,h,i,j,k,l,m,n,o,v⟩
def N16.put {α:Type}(n:N16 α)(d:D)(v:α):N16 α:=D.rec (motive:=λ_=>α->N16 α->N16 α) N16.set0 N16.set1 N16.set2 N16.set3 N16.set4 N16.set5 N16.set6 N16.set7 N16.set8 N16.set9 N16.set10 N16.set11 N16.set12 N16.set13 N16.set14 N16.set15 d v n
def N16.get_put {α:Type}(n:N16 α)(d aa:D)(v:α)[Decidable (aa=d)]:(n.put d v).get aa=if aa=d then v else n.get aa:=by
 obtain⟨a0,a1,a2,a3,a4,a5,a6,a7,a8,a9,a10,a11,a12,a13,a14,a15⟩:=n;split;·rename_i h;subst h;cases aa<;>rfl
 rename_i h;cases d<;>cases aa<;>first | rfl | exact absurd rfl h
def N16.all {α:Type}(v:α):N16 α:=⟨v,v,v,v,v,v,v,v,v,v,v,v,v,v,v,v⟩
def N16.get_all {α:Type}(v:α)(d:D):(N16.all v).get d=v:=by cases d<;>rfl
abbrev E:=N16 (N16 Value)
def ZE (e:E):Env:=λt=>(e.get (dig (Nat.div t 16))).get (dig (Nat.mod t 16))
def QF9 (e:E)(d:Nat)(v:Value):E:=e.put (dig (Nat.div d 16)) ((e.get (dig (Nat.div d 16))).put (dig (Nat.mod d 16)) v)
def QCe (e:E)(d:Option Nat)(v:Value):E:=Option.rec (motive:=λ_=>E) e (λd=>QF9 e d v) d
def QKP (A B:Env):Prop:=∀t,t<256->A t=B t
open Classical in
def Qt9 (e:E){d t:Nat}(v:Value)(ad:d<256)(ae:t<256):ZE (QF9 e d v) t=upd (ZE e) d v t:=by
 have e1:∀x y:Nat,Nat.div x y=x / y:=λ_ _=>rfl;have e2:∀x y:Nat,Nat.mod x y=x % y:=λ_ _=>rfl;simp only[ZE,QF9,upd,Zn,e1,e2];rw[N16.get_put]
 by_cases h:t=d;·subst h;rw[Lc rfl,N16.get_put,Lc rfl];simp
 simp only[h,NE,Ls]
 by_cases aa:dig (t / 16)=dig (d / 16);·rw[Lc aa,N16.get_put];have ac:=QAV (by omega) (by omega) aa;rw[Le (λab=>h (by have:=QAV (by omega) (by omega) ab;omega)),aa]
 rw[Le aa]
def QwQ (e:E){d:Option Nat}(v:Value)(aa:Ql1 256 d=true):QKP (ZE (QCe e d v)) (J5 (ZE e) d v):=by
 intro t ab;cases d with
 | none=>rfl
 | some d=>exact Qt9 e v (by simpa[Ql1] using aa) ab
def E.none:E:=N16.all (N16.all undef)
def QCf (t:Nat):ZE E.none t=undef:=by simp only[ZE,E.none,N16.get_all]
def Qua:List Value->Nat->E->E
 | [],_,e=>e
 | v::vs,i,e=>Qua vs (i+1) (QF9 e i v)
def Qub:∀ (l:List Value) (i:Nat) (e:E) (j:Nat),i+l.length<=256->j<256->ZE (Qua l i e) j=if i<=j∧j<i+l.length then l.getD (j - i) undef else ZE e j
 | [],i,e,j,_,_=>by simp[Qua];omega
 | v::l,i,e,j,h,hj=>by
  simp only[Lo]at h;simp only[Qua];rw[Qub l (i+1) _ j (by omega) hj,Qt9 e v (by omega) hj];simp only[Lo]
  by_cases aa:j=i;·subst aa;rw[Le (by omega),Lc ⟨by omega,by omega⟩];simp
  by_cases ab:i+1<=j∧j<i+1+l.length;·rw[Lc ab,Lc ⟨by omega,by omega⟩,show j - i=(j - (i+1))+1 by omega];simp
  rw[Le ab,Le (by omega),Qgb _ _ aa]
def QCg {l:List Value}(h:l.length<=256):QKP (ZE (Qua l 0 E.none)) (Qcf l):=by
 intro j aa;rw[Qub l 0 _ j (by omega) aa];simp only[Qcf,L7,Bz,LP,Nat.sub_zero,QCf];split;·rfl
 rename_i ab;simp[List.getD,N7 (by omega:l.length<=j)]
/-! ### Equality of values and blocks, by a run -/
def GJ (aa:Value->Value->Bool):List Value->List Value->Bool
 | [],[]=>true
 | x::xs,y::ys=>aa x y&&GJ aa xs ys
 | _,_=>false
def QjE {ab:Value->Value->Bool}(h:∀x y,ab x y=true->x=y):∀xs aa,GJ ab xs aa=true->xs=aa
 | [],[],_=>rfl
 | x::xs,y::aa,hb=>by
  simp only[GJ,Lm]at hb;rw[h x y hb.1,QjE h xs aa hb.2]
 | [],_::_,hb=>by simp[GJ]at hb
 | _::_,[],hb=>by simp[GJ]at hb
def Qch:Nat->Value->Value->Bool
 | 0,_,_=>false
 | f+1,x,y=>match x,y with
  | .bool a,.bool b=>a==b
  | .int k a,.int k' b=>decide (k=k')&&decide (a=b)
  | .string a,.string b=>decide (bl a=bl b)
  | .pointer a,.pointer b=>decide (a=b)
  | .slice a l c,.slice a' l' c'=>decide (a=a')&&Nat.beq l l'&&Nat.beq c c'
  | .map a,.map b=>decide (a=b)
  | .nilFunc,.nilFunc=>true
  | .nilIface,.nilIface=>true
  | .iface t v,.iface t' v'=>Nat.beq t t'&&Qch f v v'
  | .agg xs,.agg ys=>GJ (Qch f) xs.toList ys.toList
  | .tuple xs,.tuple ys=>GJ (Qch f) xs.toList ys.toList
  | .func fn xs zs,.func fn' ys us=>decide (fn=fn')&&GJ (Qch f) xs.toList ys.toList&&GJ (Qch f) zs.toList us.toList
  | _,_=>false
def GP:∀ (f:Nat) (x y:Value),Qch f x y=true->x=y:=by
 intro f
 induction f with
 | zero=>intro x y h;simp[Qch]at h
 | succ f ab=>
  intro x y h;have aa:∀ {xs ac:Array Value},GJ (Qch f) xs.toList ac.toList=true->xs=ac:=λh=>Ru (QjE ab _ _ h);unfold Qch at h;split at h;·simp at h;rw[h]
  ·simp only[Lm,Lv]at h;rw[h.1,h.2]
  ·rename_i a b;have h':bl a=bl b:=by simpa using h
   rw[<- QqR a,<- QqR b,h']
  ·simp at h;rw[h]
  ·simp only[Lm,Lv,Zn]at h;rw[h.1.1,h.1.2,h.2]
  ·simp at h;rw[h]
  ·rfl
  ·rfl
  ·simp only[Lm,Lv,Zn]at h;rw[h.1,ab _ _ h.2]
  ·rw[aa h]
  ·rw[aa h]
  ·simp only[Lm,Lv]at h;rw[h.1.1,aa h.1.2,aa h.2]
  cases h
def QIT:Option Blk->Option Blk->Bool
 | some (.cells c e r),some (.cells c' e' r')=>Nat.beq e e'&&r==r'&&GJ (Qch 8) c c'
 | none,none=>true
 | _,_=>false
def QGa {x y:Option Blk}(h:QIT x y=true):x=y:=by
 unfold QIT at h;split at h;·simp only[Lm,Zn,Lv,L0]at h;rw[h.1.1,h.1.2,QjE (GP 8) _ _ h.2]
 ·rfl
 cases h
def QGb:Option Value->Value->Bool
 | some x,y=>Qch 8 x y
 | none,_=>false
def QAW {x:Option Value}{y:Value}(h:QGb x y=true):x=some y:=by
 cases x with
 | none=>simp[QGb]at h
 | some x=>rw[GP 8 x y h]
/-! ### Regions that draw their order -/
structure Stp where
 t:Env
 H:Qa
 c:Cls
 v:Value
def Ke (P:Program)(call:Wx)(n:Nat)(ops:Array Oper):List Oper->Env->Qa->Option (List Stp×Env×Qa)
 | [],t,H=>some ([],t,H)
 | o::rest,t,H=>
  bif QhO P n o then
   match X8 n ops t o with
   | some true=>match aop P call o t H with
    | some (c,v,H')=>match Ke P call n ops rest (J5 t o.dst v) H' with
     | some (l,r)=>some (⟨t,H,c,v⟩::l,r)
     | none=>none
    | none=>none
   | some false=>match Ke P call n ops rest (J5 t o.dst undef) H with
    | some (l,r)=>some (⟨t,H,.pure,undef⟩::l,r)
    | none=>none
   | none=>none
  else none
def QGc (o:Oper):Bool:=
 match o.op with
 | .store .. => true
 | .lookup .. => true
 | .mapUpdate .. => true
 | .insert .. => true
 | .next .. => true
 | .entry .. => true
 | .call ⟨.builtin b,_,_⟩=>match b with | .len | .cap | .max | .min | .unsafeSliceData=>false | _=>true
 | .call _=>true
 | _=>false
def W2 (ops:Array Oper)(i:Nat):Bool:=match ops[i]? with | some o=>QGc o | none=>false
def W3 (l:List Stp)(H:Qa)(i:Nat):Qa:=match l[i]? with | some s=>s.H | none=>H
def Qgm (P:Program)(ops:Array Oper)(ms:List Nat)(l:List Stp)(H:Qa)(i:Nat)(s:Stp):Bool:=
 Nat.ble s.H.y (W3 l H (i+1)).y &&
 match s.c with
 | .pure=>true
 | .gen=>W2 ops i
 | .load=>match ops[i]? with
  | some o=>match o.op with
   | .load t x=>match ev (s.t) x with
    | .pointer (some a)=>(List.range ops.size).all λk=>!(W2 ops k)||QG ms i k||QG ms k i ||
      (QGb (X5 P t a (W3 l H k)) s.v&&QGb (X5 P t a (W3 l H (k+1))) s.v&&Qj s.H.y 6 s.v)
    | _=>false
   | _=>false
  | none=>false
 | .alloc b=>(List.range ops.size).all λk=>!(W2 ops k)||!(Nat.blt i k)||QG ms i k||QIT ((W3 l H (k+1)).get s.H.y) ((W3 l H k).get s.H.y)
def QnY (p:Nat->Stp->Bool):Nat->List Stp->Bool
 | _,[]=>true
 | i,s::l=>p i s&&QnY p (i+1) l
def Qpd {p:Nat->Stp->Bool}:∀ (l:List Stp) (i:Nat),QnY p i l=true->∀ (j:Nat) s,l[j]? = some s->p (i+j) s=true
 | [],_,_,j,s,h=>by simp at h
 | x::l,i,h,j,s,hj=>by
  simp only[QnY,Lm]at h;cases j with
  | zero=>simp at hj;subst hj;exact h.1
  | succ j=>have:=Qpd l (i+1) h.2 j s (by simpa using hj);rwa [show i+1+j=i+(j+1) by omega]at this
def QuX:List Oper->List Stp->E->E
 | o::os,s::ss,e=>QuX os ss (QCe e o.dst s.v)
 | _,_,e=>e
def QqE (P:Program)(call:Wx)(n:Nat)(ops:Array Oper)(t:Env)(H:Qa):Option (List Stp×Env×Qa):=
 bif P.follows .mixedOrders&&QeA ops (W2 ops) then
  match Ke P call n ops ops.toList t H with
  | some (l,t1,H1)=>bif QnY (Qgm P ops (QK ops.toList []) l H1) 0 l then some (l,t1,H1) else none
  | none=>none
 else none
section
variable {P:Program} {n:Nat} {Q:Ex->Env->Qa->Prop}
def QDU (P:Program)(call:Wx)(n:Nat)(ops:Array Oper)(o:Oper)(s:Stp)(aa:Env)(H':Qa):Prop:=
 QhO P n o=true∧aa=J5 s.t o.dst s.v∧((X8 n ops (s.t) o=some true∧aop P call o (s.t) s.H=some (s.c,s.v,H'))∨(X8 n ops (s.t) o=some false∧s.c=.pure∧s.v=undef∧H'=s.H))
def Qkd {call:Wx}{ops:Array Oper}:∀ (l:List Oper) (t:Env) (H:Qa) (tr:List Stp) (t1:Env) (H1:Qa),Ke P call n ops l t H=some (tr,t1,H1)->
  tr.length=l.length∧(match tr[0]? with | some s=>s.t=t∧s.H=H | none=>t1=t∧H1=H)∧
  ∀ (j:Nat) o s,l[j]? = some o->tr[j]? = some s->QDU P call n ops o s (match tr[j+1]? with | some aa=>aa.t | none=>t1) (W3 tr H1 (j+1))
 | [],t,H,tr,t1,H1,h=>by simp only[Ke,Lt,LB]at h;obtain⟨rfl,rfl,rfl⟩:=h;exact⟨rfl,⟨rfl,rfl⟩,λj o s ad=>by simp at ad⟩
 | o::rest,t,H,tr,t1,H1,h=>by
  have step:∀ (s:Stp) (l:List Stp) (ag:Env) (H':Qa),s.t=t->s.H=H->Ke P call n ops rest ag H'=some (l,t1,H1)->tr=s::l->QDU P call n ops o s ag H'->
    tr.length=(o::rest).length∧(match tr[0]? with | some s=>s.t=t∧s.H=H | none=>t1=t∧H1=H)∧
    ∀ (j:Nat) o' s,(o::rest)[j]? = some o'->tr[j]? = some s->QDU P call n ops o' s (match tr[j+1]? with | some aa=>aa.t | none=>t1) (W3 tr H1 (j+1)):=by
   intro s l ag H' e1 e2 ae al ab;obtain⟨am,ac,an⟩:=Qkd rest ag H' l t1 H1 ae;subst al;refine⟨by simp[am],by simp[e1,e2],λj o' aa ad ah=>?_⟩;cases j with
   | zero=>
    simp only[Bp,Lt]at ad ah;subst ad;subst ah;have:(match (s::l)[0+1]? with | some aa=>aa.t | none=>t1)=ag∧W3 (s::l) H1 (0+1)=H':=by
     simp only[W3,LP,Bg];cases aj:l[0]? with
     | none=>rw[aj]at ac;exact⟨ac.1,ac.2⟩
     | some ap=>rw[aj]at ac;exact⟨ac.1,ac.2⟩
    rw[this.1,this.2];exact ab
   | succ j=>
    have:=an j o' aa (by simpa using ad) (by simpa using ah);simpa[W3] using this
  unfold Ke at h;cases ab:QhO P n o with
  | false=>rw[ab]at h;cases h
  | true=>
   rw[ab]at h;simp only[Lq]at h;split at h
   ·rename_i ai;split at h
    ·rename_i c v H' ak;split at h;·rename_i l r ae;obtain⟨ao,H1'⟩:=r;simp only[Lt,LB]at h;obtain⟨rfl,rfl,rfl⟩:=h;exact step ⟨t,H,c,v⟩ l _ H' rfl rfl ae rfl ⟨ab,rfl,.inl ⟨ai,ak⟩⟩
     cases h
    cases h
   ·rename_i ai;split at h;·rename_i l r ae;obtain⟨ao,H1'⟩:=r;simp only[Lt,LB]at h;obtain⟨rfl,rfl,rfl⟩:=h;exact step ⟨t,H,.pure,undef⟩ l _ H rfl rfl ae rfl ⟨ab,rfl,.inr ⟨ai,rfl,rfl,rfl⟩⟩
    cases h
   cases h
def Qpe {ops:Array Oper}{g ad:Nat->Bool}(h:∀i,i<ops.size->g i=true->ad i=true)(ac:QeA ops ad=true):QeA ops g=true:=by
 unfold QeA at ac ⊢;simp only[Li,LU]at ac ⊢;intro j ae;have aa:=ac j ae;split;·rfl
 rename_i o aj;rw[aj]at aa;simp only[Lm,Li,LU]at aa ⊢;refine⟨aa.1,λi hi=>?_⟩;have ab:=aa.2 i hi;split;·rfl
 rename_i al ak;rw[ak]at ab;simp only[Lm]at ab ⊢;refine⟨ab.1,?_⟩;have ai:=ab.2;cases ag:g i with
 | false=>simp
 | true=>
  cases ah:g j with
  | false=>simp
  | true=>simpa[h i hi ag,h j ae ah] using ai
def Qs1 {call:Wx}(aJ:Qgl P call){id:Nat}{ops:Array Oper}{t t1:Env}{H H1:Qa}{tr:List Stp}(h:QqE P call n ops t H=some (tr,t1,H1))(aR:Q .normal t1 H1):AWp P n (.region id ops true) Q t H:=by
 unfold QqE at h;cases ak:(P.follows .mixedOrders&&QeA ops (W2 ops)) with
 | false=>rw[ak]at h;cases h
 | true=>
  rw[ak]at h;simp only[Lq]at h;simp only[Lm]at ak;obtain⟨aP,aK⟩:=ak;split at h
  ·rename_i l ay H1' aS;cases am:QnY (Qgm P ops (QK ops.toList []) l H1') 0 l with
   | false=>rw[am]at h;cases h
   | true=>
    rw[am]at h;simp only[Lq,Lt,LB]at h;obtain⟨rfl,rfl,rfl⟩:=h;obtain⟨aU,ah,ax⟩:=Qkd ops.toList t H l ay H1' aS;have aO:l.length=ops.size:=by simpa using aU
    have an:∀ (j:Nat) s,l[j]? = some s->Qgm P ops (QK ops.toList []) l H1' j s=true:=λj s aM=>by have:=Qpd l 0 am j s aM;rwa [LP]at this
    let As:Nat->Env:=λi=>match l[i]? with | some s=>s.t | none=>ay
    let Hs:Nat->Qa:=W3 l H1'
    let vs:Nat->Value:=λi=>match l[i]? with | some s=>s.v | none=>undef
    let ag:Nat->Cls:=λi=>match l[i]? with | some s=>s.c | none=>.pure
    have ai:∀ (i:Nat) o,ops[i]? = some o->∃s,l[i]? = some s:=λi o ad=>by
     have:i<l.length:=by rw[aO];exact(Nj.1 ad).1
     exact⟨l[i],La this⟩
    have ap:∀i,i<ops.size->XH (ag i)=true->W2 ops i=true:=λi hi ao=>by
     obtain⟨s,aa⟩:=ai i ops[i] (Ng hi);have ac:ag i=s.c:=by simp only[ag,aa]
     rw[ac]at ao;have ab:=an i s aa;unfold Qgm at ab;simp only[Lm]at ab;cases ae:s.c with
     | gen=>rw[ae]at ab;exact ab.2
     | _=>rw[ae]at ao;cases ao
    have F:ZW P n ops As Hs vs ag:=by
     refine⟨λi o ad=>?_,λi hi=>?_,λi o ad=>?_,λi o ad=>?_,Qpe ap aK⟩
     ·obtain⟨s,aa⟩:=ai i o ad;have au:=ax i o s (by simpa using ad) aa;have e1:As i=s.t:=by simp only[As,aa]
      have e2:vs i=s.v:=by simp only[vs,aa]
      rw[e1,e2,<- au.2.1]
     ·obtain⟨s,aa⟩:=ai i ops[i] (Ng hi);have ab:=an i s aa;unfold Qgm at ab;simp only[Lm]at ab;have e1:Hs i=s.H:=by simp only[Hs,W3,aa]
      rw[e1];simpa using ab.1
     ·obtain⟨s,aa⟩:=ai i o ad;exact(ax i o s (by simpa using ad) aa).1
     obtain⟨s,aa⟩:=ai i o ad;have au:=ax i o s (by simpa using ad) aa;have ab:=an i s aa;have e1:As i=s.t:=by simp only[As,aa]
     have e2:vs i=s.v:=by simp only[vs,aa]
     have e3:Hs i=s.H:=by simp only[Hs,W3,aa]
     have e4:ag i=s.c:=by simp only[ag,aa]
     unfold Qy3;rw[e1,e2,e3,e4];rcases au.2.2 with⟨av,aG⟩ | ⟨av,aI,aT,aF⟩
     ·right;refine⟨av,?_⟩;have ac:=QnX aJ aG;unfold Qgm at ab;simp only[Lm]at ab;cases ae:s.c with
      | pure=>rw[ae]at ac;exact ac
      | gen=>rw[ae]at ac;exact ac
      | alloc b=>
       rw[ae]at ac ab;refine⟨ac.1,ac.2,λk aj aL aq aQ=>?_⟩;have:=Li.1 ab.2 k (LU.2 aj);have aH:Nat.blt i k=true:=by simpa using aL
       simp only[ap k aj aq,aH,aQ,L8,Nt]at this;exact QGa this
      | load=>
       rw[ae]at ac ab;obtain⟨aE,aV,x,a,aB,az,aN⟩:=ac;refine⟨aE,aV,x,a,aB,az,aN,λk aj aq o1 o2=>?_⟩;have ar:=ab.2;rw[ad]at ar;simp only[aB,az]at ar;have:=Li.1 ar k (LU.2 aj);simp only[ap k aj aq,o1,o2,L8,Nt,Lm]at this;exact⟨QAW this.1.1,QAW this.1.2,this.2⟩
     left;exact⟨av,aT,aF,aI⟩
    have aA:l[ops.size]? = none:=N7 (by omega);have aD:As ops.size=ay:=by simp only[As,aA]
    have aC:Hs ops.size=H1':=by simp only[Hs,W3,aA]
    have e0:As 0=t∧Hs 0=H:=by
     cases al:l[0]? with
     | none=>rw[al]at ah;simp only[As,Hs,W3,al,ah.1,ah.2,RU]
     | some s=>rw[al]at ah;simp only[As,Hs,W3,al,ah.1,ah.2,RU]
    have:=QwL (id:=id) (Q:=Q) aP F (by rw[aD,aC];exact aR);rw[e0.1,e0.2]at this;exact this
  cases h
def QdK {ops:Array Oper}{o:Oper}{ak:List Oper}{A:Env}{H:Qa}{b:Bool}{j:Nat}{az:Bool}(ag:o.guard=some (j,az))(aa:X8 n ops A o=some b)
  (av:b=true->∃v H',Qx P o A H v H'∧Qla P n ops ak Q (J5 A o.dst v) H') (ap:b=false->Qla P n ops ak Q (J5 A o.dst undef) H) (ae:QhO P n o=true):Qla P n ops (o::ak) Q A H:=by
 intro z ρ w a hs he;have ao:Region.wanted o (yielded ops a.tmps)=b:=by
  unfold X8 at aa;rw[ag]at aa;simp only at aa;split at aa
  ·rename_i t au;split at aa
   ·rename_i an;have ab:=he.tmps t an;have ah:t<a.tmps.size:=by rw[he.size];exact an
    rw[N0,Ng ah]at ab;simp only[NB]at ab;have ai:=au;unfold VZ at ai;split at aa
    ·rename_i b0 ac;cases aa;rw[ac]at ab;have ad:a.tmps[t]? = some (.bool b0):=by rw[Ng ah,ab.plain_eq rfl]
     have aj:yielded ops a.tmps j=some b0:=by unfold yielded;rw[ai];simp[ad]
     simp[Region.wanted,ag,aj]
    ·rename_i aA ac;cases aa;rw[ac]at ab;obtain⟨ay,e1,_⟩:=ab.tuple_inv;have ad:a.tmps[t]? = some (.tuple ay):=by rw[Ng ah,e1]
     have aj:yielded ops a.tmps j=none:=by unfold yielded;rw[ai];simp[ad]
     simp[Region.wanted,ag,aj]
    cases aa
   cases aa
  cases aa
 refine wpListIn_step λK al=>?_;cases b with
 | true=>
  obtain⟨v,H',aq,h⟩:=av rfl;rw[Lc ao];refine aq ρ w a hs (he.op hs ae) K _ (λax ρ' w' ab am ar=>?_) z;have:=h z ρ' w' (a.put o.dst ax) ar ((he.step am).putO (Qh8 ae) ab);exact al _ _ (QoZ am this)
 | false=>
  rw[Le (by rw[ao];simp)];exact⟨λ_ _=>trivial,al _ _ (ap rfl z ρ w _ hs (he.putO (Qh8 ae) (.closed (by simp[undef,Xq]))))⟩
end
inductive Sk where
 | i | b | s
inductive R where
 | mv (x:Operand)
 | pick (c x y:Operand)
 | bin (op:BinOp) (x y:Operand)
 | beq (ne:Bool) (x y:Operand)
 | eqs (ne:Bool) (ks:List Sk) (x y:Operand)
 | not (x:Operand)
 | toInt (k:IntKind) (x:Operand)
 | mkIf (t:TypeId) (x:Operand)
 | fld (agg:Bool) (off size:Nat) (x:Operand)
 | fldA (off:Nat) (x:Operand)
 | idxS (size:Nat) (x ix:Operand)
 | chr (x ix:Operand)
 | ext (x:Operand) (i:Nat)
 | build (z:List Value) (parts:List (Nat×Nat×Operand))
 | bslice (e size len:Nat) (z:List Value) (parts:List (Nat×Operand))
 | alloc (e:TypeId) (z:List Value)
 | box (e:TypeId) (x:Operand)
 | mkSl (e size bytes:Nat) (z:List Value) (x y:Operand)
 | slS (size:Nat) (x:Operand) (lo hi:Option Operand)
 | ld (agg:Bool) (size:Nat) (x:Operand)
 | st (size:Nat) (x y:Operand)
 | stf (size:Nat) (x y:Operand) (os:List Operand)
 | lenS (x:Operand)
 | lenT (x:Operand)
 | app (e size bytes:Nat) (x y:Operand)
 | gen (o:Op)
 | call (f:FuncId) (args:List Operand)
 | callv (c:Operand) (args:List Operand)
 | callF (f:FuncId) (args os:List Operand)
 | callG (f:FuncId) (args os:List Operand)
 | appF (e size bytes:Nat) (x y:Operand) (os:List Operand)
def J7:Wx:=⟨λ_ _ _=>none,λ_ _ _=>none⟩
def Qpf (f:Operand->Value):List Value->List (Nat×Nat×Operand)->Option (List Value)
 | cells,[]=>some cells
 | cells,(off,size,x)::rest=>if(f x).cells.toList.length=size∧off+size<=cells.length then Qpf f (splice cells off (f x).cells.toList) rest else none
def Y7 (e size bytes:Nat)(s x:Value)(H:Qa):Option (Value×Qa):=
 match YX size x H with
 | none=>none
 | some (m,news)=>
  if news.all (·.oneCell')=true then
   match s with
   | .slice none 0 0=>
    if m=0 then some (.slice none 0 0,H) else
    if m<=9223372036854775807∧m * bytes<=140737488355328 then some (.slice (some ⟨H.y,0,none⟩) m (UNK+size),H.push (.cells news e false)) else none
   | .slice (some a) len cap=>
    if m=0 then(if UNK<=cap∨len<=cap then some (.slice (some a) len cap,H) else none) else
    match H.get a.block with
    | some (.cells c e' ro)=>
     if a.off+len * size<=c.length∧len+m<=9223372036854775807∧(len+m) * bytes<=140737488355328 then
      if UNK<=cap then
       if ro=false∧e'=e∧a.off=0∧a.off+len * size=c.length then some (.slice (some ⟨H.y,0,none⟩) (len+m) (UNK+size),(H.kill a.block).push (.cells (c.drop a.off++news) e false))
       else if ro=false∧cap=UNK+size∧a.off+(len+m) * size<=c.length then some (.slice (some a) (len+m) cap,H.set a.block (.cells (splice c (a.off+len * size) news) e' false)) else none
      else if len+m<=cap then
       (if ro=false∧a.off+(len+m) * size<=c.length then some (.slice (some a) (len+m) cap,H.set a.block (.cells (splice c (a.off+len * size) news) e' false)) else none)
      else some (.slice (some ⟨H.y,0,none⟩) (len+m) (UNK+size),H.push (.cells ((c.drop a.off).take (len * size)++news) e false))
     else none
    | _=>none
   | _=>none
  else none
def Qza (e:TypeId)(aa:TypeInfo)(s x:Value)(H:Qa):QjC e aa s x H=Y7 e aa.size aa.bytes s x H:=rfl
def QGd:Sk->Value->Value->Option Bool
 | .i,.int k a,.int k' b=>if k=k' then some (a==b) else none
 | .b,.bool a,.bool b=>some (a==b)
 | .s,.string a,.string b=>some (bl a==bl b)
 | _,_,_=>none
def QbX:List Sk->Array Value->Array Value->Nat->Option Bool
 | [],_,_,_=>some true
 | k::ks,xs,ys,i=>match xs[i]?,ys[i]? with
  | some a,some b=>match QGd k a b with
   | some true=>QbX ks xs ys (i+1)
   | r=>r
  | _,_=>none
def KY (op:BinOp)(x y:Value):Option Value:=
 match x,y with
 | .int ik a,.int ik' b=>match op with
  | .shl | .shr=>Qaw op ik a b
  | _=>if ik=ik' then YK op ik a b else none
 | .string a,.string b=>Qcd op (bl a) (bl b)
 | _,_=>none
def Qih (H:Qa):Option Value->Option (Value×Qa)
 | some v=>some (v,H)
 | none=>none
def Quc (f:Operand->Value):Option Operand->Option (Option Int)
 | none=>some none
 | some x=>match f x with | .int _ m=>some (some m) | _=>none
def rop (P:Program)(r:R)(A:Env)(H:Qa):Option (Value×Qa):=
 match r with
 | .mv x=>some (ev A x,H)
 | .pick c x y=>match ev A c with | .bool t=>some (bif t then ev A x else ev A y,H) | _=>none
 | .bin op x y=>Qih H (KY op (ev A x) (ev A y))
 | .beq ne x y=>match ev A x,ev A y with
  | .bool a,.bool b=>some (.bool (bif ne then !(a==b) else a==b),H)
  | _,_=>none
 | .eqs ne m x y=>match ev A x,ev A y with
  | .agg xs,.agg ys=>match QbX m xs ys 0 with | some b=>some (.bool (bif ne then !b else b),H) | none=>none
  | _,_=>none
 | .not x=>match ev A x with | .bool b=>some (.bool !b,H) | _=>none
 | .toInt k x=>match ev A x with | .int _ m=>some (.int k (k.wrap m),H) | _=>none
 | .mkIf t x=>some (.iface t (ev A x),H)
 | .fld agg off size x=>match ev A x with
  | .agg cs=>Qih H (bif agg then some (.agg (cs.extract off (off+size))) else cs[off]?)
  | _=>none
 | .fldA off x=>match ev A x with | .pointer (some a)=>some (.pointer (some ⟨a.block,a.off+off,none⟩),H) | _=>none
 | .idxS size x aa=>match ev A aa,ev A x with
  | .int _ m,.slice (some a) len _=>if 0<=m∧m<len then some (.pointer (some ⟨a.block,a.off+m.toNat * size,none⟩),H) else none
  | _,_=>none
 | .chr x aa=>match ev A aa,ev A x with
  | .int _ m,.string s=>if 0<=m then(match (bl s)[m.toNat]? with | some b=>some (.int .u8 b.toNat,H) | none=>none) else none
  | _,_=>none
 | .ext x i=>match ev A x with | .tuple vs=>Qih H vs[i]? | _=>none
 | .build z ab=>match Qpf (ev A) z ab with | some r=>some (.agg r.toArray,H) | none=>none
 | .bslice e size len z ab=>match QdH (λi=>some (i * size,size)) z (ab.map λp=>(p.1,ev A p.2)) with
  | some r=>some (.slice (some ⟨H.y,0,none⟩) len len,H.push (.cells r e false))
  | none=>none
 | .alloc e z=>some (.pointer (some ⟨H.y,0,none⟩),H.push (.cells z e false))
 | .box e x=>some (.pointer (some ⟨H.y,0,none⟩),H.push (.cells (ev A x).cells.toList e false))
 | .mkSl e size bytes z x y=>match ev A x,ev A y with
  | .int .i64 l,.int .i64 c=>if 0<=l∧l<=c∧(bytes:Int) * c<=281474976710656∧c<=9223372036854775807 then
    some (.slice (some ⟨H.y,0,none⟩) l.toNat c.toNat,H.push (.cells (XG z.toArray (c.toNat * size)) e false)) else none
  | _,_=>none
 | .slS size x lo hi=>match Quc (ev A) lo,Quc (ev A) hi with
  | some l,some h=>Qih H (Y3 size (ev A x) l h none)
  | _,_=>none
 | .ld agg size x=>match ev A x with
  | .pointer (some a)=>match H.get a.block with
   | some (.cells c _ _)=>bif agg then(if a.off+size<=c.length then some (.agg ((c.drop a.off).take size).toArray,H) else none) else Qih H c[a.off]?
   | _=>none
  | _=>none
 | .st size x y=>match ev A x with
  | .pointer (some a)=>match H.get a.block with
   | some (.cells c e false)=>if(ev A y).cells.toList.length=size∧a.off+(ev A y).cells.toList.length<=c.length∧(ev A y).cells.toList.all (·.oneCell')=true then some (undef,H.set a.block (.cells (splice c a.off (ev A y).cells.toList) e false)) else none
   | _=>none
  | _=>none
 | .stf size x y _=>match ev A x with
  | .pointer (some a)=>match H.get a.block with
   | some (.cells c e false)=>if(ev A y).cells.toList.length=size∧a.off+(ev A y).cells.toList.length<=c.length∧(ev A y).cells.toList.all (·.oneCell')=true then some (undef,H.set a.block (.cells (splice c a.off (ev A y).cells.toList) e false)) else none
   | _=>none
  | _=>none
 | .lenS x=>match ev A x with | .slice _ m _=>some (.int .i64 (m:Int),H) | _=>none
 | .lenT x=>match ev A x with | .string s=>some (.int .i64 ((bl s).length:Int),H) | _=>none
 | .app e size bytes x y=>Y7 e size bytes (ev A x) (ev A y) H
 | .gen o=>match aop P J7 ⟨none,o,0, "",#[],none⟩ A H with | some (_,v,H')=>some (v,H') | none=>none
 | .call _ _=>none
 | .callv _ _=>none
 | .callF _ _ _=>none
 | .callG _ _ _=>none
 | .appF _ _ _ _ _ _=>none
/-! ### Resolving -/
def Qmd (P:Program):List Field->Nat->Option (List Sk)
 | [],_=>some []
 | fd::fs,i=>
  if fd.name = "_" ∨ fd.offset≠i then none else
  match P.info? fd.type,Qmd P fs (i+1) with
  | some _,some ks=>match P.underlying fd.type with
   | some (.int _)=>some (.i::ks)
   | some .bool=>some (.b::ks)
   | some .string=>some (.s::ks)
   | _=>none
  | _,_=>none
def Qme (aa:Array (Nat×Nat)):List (Nat×Operand)->Option (List (Nat×Nat×Operand))
 | []=>some []
 | (i,x)::rest=>match aa[i]?,Qme aa rest with
  | some (off,size),some l=>some ((off,size,x)::l)
  | _,_=>none
def Q9 (P:Program)(op:Op):R:=
 match op with
 | .move x=>.mv x
 | .assign x=>.mv x
 | .pick c x y=>.pick c x y
 | .binOp b t x y _=>
  match P.underlying t with
  | some (.int _) | some .string=>.bin b x y
  | some .bool=>match b with | .eql=>.beq false x y | .neq=>.beq true x y | _=>.gen op
  | some (.struct fs)=>if P.stoodInHeld t||P.eqGuardType P.depth t then .gen op else match Qmd P fs.toList 0 with
   | some ks=>(match b with | .eql=>.eqs false ks x y | .neq=>.eqs true ks x y | _=>.gen op)
   | none=>.gen op
  | _=>.gen op
 | .unOp .not _ x=>.not x
 | .convert src ae x=>match P.underlying src,P.underlying ae with
  | some (.int _),some (.int k)=>.toInt k x
  | _,_=>.gen op
 | .makeInterface t x=>match P.underlying t with
  | some (.interface _)=>.gen op
  | some _=>.mkIf t x
  | none=>.gen op
 | .field t x f=>match P.underlying t with
  | some (.struct fs)=>match fs[f]? with
   | some ab=>match P.underlying ab.type,P.info? ab.type with
    | some td,some aa=>.fld (J6 td) ab.offset aa.size x
    | _,_=>.gen op
   | none=>.gen op
  | _=>.gen op
 | .fieldAddr t x f=>match P.underlying t with
  | some (.struct fs)=>match fs[f]? with
   | some ab=>match P.info? ab.type with
    | some aa=>if aa.size=0 then .gen op else .fldA ab.offset x
    | none=>.gen op
   | none=>.gen op
  | _=>.gen op
 | .indexAddr t x ac=>match P.underlying t with
  | some (.slice e)=>match P.info? e with
   | some aa=>.idxS aa.size x ac
   | none=>.gen op
  | _=>.gen op
 | .index t x ac=>match P.underlying t with
  | some .string=>.chr x ac
  | _=>.gen op
 | .extract x i=>.ext x i
 | .build t ad=>match P.underlying t,P.info? t with
  | some (.struct fs),some aa=>match aa.zero,Ql7 P fs with
   | some z,some pl=>if z.cells.toList.all plain then(match Qme pl ad.toList with | some l=>.build z.cells.toList l | none=>.gen op) else .gen op
   | _,_=>.gen op
  | _,_=>.gen op
 | .buildSlice t len ad=>match P.underlying t with
  | some (.slice e)=>match P.info? e with
   | some aa=>match aa.zero with
    | some z=>if z.cells.toList.all plain&&Nat.blt 0 z.cells.size&&Nat.ble len 16777216&&Nat.ble (len * aa.size) 16777216 then .bslice e aa.size len (XG z.cells (len * aa.size)) ad.toList else .gen op
    | none=>.gen op
   | none=>.gen op
  | _=>.gen op
 | .alloc e=>match P.info? e with
  | some aa=>match aa.zero with
   | some z=>if z.cells.toList.all plain then .alloc e z.cells.toList else .gen op
   | none=>.gen op
  | none=>.gen op
 | .makeSlice t x y=>match P.underlying t with
  | some (.slice e)=>match P.info? e with
   | some aa=>match aa.zero with
    | some z=>if Qge P e aa z then .mkSl e aa.size aa.bytes z.cells.toList x y else .gen op
    | none=>.gen op
   | none=>.gen op
  | _=>.gen op
 | .slice t x lo hi none=>match P.underlying t with
  | some (.slice e)=>match P.info? e with
   | some aa=>.slS aa.size x lo hi
   | none=>.gen op
  | _=>.gen op
 | .load t x=>match P.underlying t,P.info? t with
  | some d,some aa=>.ld (J6 d) aa.size x
  | _,_=>.gen op
 | .store t x y=>match P.info? t with
  | some aa=>.st aa.size x y
  | none=>.gen op
 | .call ⟨.builtin .len,args,ts⟩=>match args.toList,ts.toList with
  | [x],[t]=>match P.underlying t with
   | some (.slice _)=>.lenS x
   | some .string=>.lenT x
   | _=>.gen op
  | _,_=>.gen op
 | .call ⟨.builtin .append,args,ts⟩=>match args.toList,ts.toList with
  | [x,y],[t,t2]=>match P.underlying t,P.underlying t2 with
   | some (.slice e),some td=>match P.info? e with
    | some aa=>match aa.zero with
     | some z=>if Qib td&&Qge P e aa z then .app e aa.size aa.bytes x y else .gen op
     | none=>.gen op
    | none=>.gen op
   | _,_=>.gen op
  | _,_=>.gen op
 | .call ⟨.value (.func f),args,_⟩=>.call f args.toList
 | .call ⟨.value c,args,_⟩=>.callv c args.toList
 | .box e x=>.box e x
 | op=>.gen op
section
variable {P:Program} {A:Env} {H:Qa}
def Qud (P:Program)(op:Op)(A:Env)(H:Qa)(v:Value)(H':Qa):Prop:=∃c,aop P J7 ⟨none,op,0, "",#[],none⟩ A H=some (c,v,H')
def QCh {op:Op}{v:Value}{H':Qa}(h:rop P (.gen op) A H=some (v,H')):Qud P op A H v H':=by
 simp only[rop]at h;split at h;·rename_i c ab H1 aa;simp only[Lt,LB]at h;obtain⟨rfl,rfl⟩:=h;exact⟨c,aa⟩
 cases h
def QeZ {r:Option Value}{v:Value}{H':Qa}(h:Qih H r=some (v,H')):r=some v∧H'=H:=by
 cases r with
 | none=>cases h
 | some u=>simp[Qih]at h;exact⟨by rw[h.1],h.2.symm⟩
def QCi {op:BinOp}{t:TypeId}{x y v:Value}{k:Bool}(h:KY op x y=some v):Qs0 P k op t x y=some v:=by
 unfold KY at h;split at h;·exact h
 ·exact h
 cases h
def QGe (P:Program)(t:TypeId):Sk->Prop
 | .i=>∃ik,P.underlying t=some (.int ik)
 | .b=>P.underlying t=some .bool
 | .s=>P.underlying t=some .string
def QwR {f:Nat}{t:TypeId}{k:Sk}{a b:Value}{r:Bool}(h:QGd k a b=some r)(aa:QGe P t k):aeq P (f+1) t a b=some r:=by
 unfold QGd at h;split at h;·obtain⟨ik,ab⟩:=aa;simp only[aeq,ab];exact h
 ·simp only[QGe]at aa;simp only[aeq,aa];exact h
 ·simp only[QGe]at aa;simp only[aeq,aa];exact h
 cases h
def Qpg {f:Nat}:∀ (ac:List Field) (i:Nat) (ks:List Sk) (xs ab:Array Value) (b:Bool),Qmd P ac i=some ks->QbX ks xs ab i=some b->Zy P (aeq P (f+1)) ac xs ab=some b
 | [],i,ks,xs,ab,b,hs,h=>by simp only[Qmd,Lt]at hs;subst hs;simpa[QbX,Zy] using h
 | fd::ac,i,ks,xs,ab,b,hs,h=>by
  unfold Qmd at hs;split at hs;·cases hs
  rename_i ad;simp only[not_or,Decidable.not_not]at ad;split at hs
  ·rename_i ao ai hi an;have ae:∀k,(∀zs:Array Value,apart P fd.type zs fd.offset=zs[i]?)->QGe P fd.type k->
     QbX (k::ai) xs ab i=some b->Zy P (aeq P (f+1)) (fd::ac) xs ab=some b:=λk ag ah h=>by
    unfold QbX at h;unfold Zy;rw[Le ad.1,ag,ag];split at h
    ·rename_i a c aj ak;rw[aj,ak];simp only;split at h;·rename_i al;rw[QwR al ah];exact Qpg ac (i+1) ai xs ab b an h
     rename_i r am;have:=QwR (f:=f) h ah;rw[this];cases b with
     | true=>exact absurd h am
     | false=>rfl
    cases h
   split at hs;·rename_i ik aa;cases hs;exact ae .i (λzs=>by simp[apart,aa,hi,J6,ad.2]) ⟨ik,aa⟩ h
   ·rename_i aa;cases hs;exact ae .b (λzs=>by simp[apart,aa,hi,J6,ad.2]) aa h
   ·rename_i aa;cases hs;exact ae .s (λzs=>by simp[apart,aa,hi,J6,ad.2]) aa h
   cases hs
  cases hs
def Qph {ab:Array (Nat×Nat)}:∀ (aa:List (Nat×Operand)) (l:List (Nat×Nat×Operand)) (cells:List Value),Qme ab aa=some l->QdH (ab[·]?) cells (aa.map λp=>(p.1,ev A p.2))=Qpf (ev A) cells l
 | [],l,cells,h=>by simp only[Qme,Lt]at h;subst h;rfl
 | (i,x)::rest,l,cells,h=>by
  unfold Qme at h;split at h;·rename_i off size ae ac ad;cases h;simp only[NZ,QdH,Qpf,ac];rw[Qph rest ae _ ad]
  cases h
set_option maxHeartbeats 2000000 in
def Qzb {op:Op}{v:Value}{H':Qa}(h:rop P (Q9 P op) A H=some (v,H')):Qud P op A H v H':=by
 have gen:rop P (.gen op) A H=some (v,H')->Qud P op A H v H':=QCh;unfold Q9 at h;split at h
 case h_1 x=>simp only[rop,Lt,LB]at h;obtain⟨rfl,rfl⟩:=h;exact⟨_,rfl⟩
 case h_2 x=>simp only[rop,Lt,LB]at h;obtain⟨rfl,rfl⟩:=h;exact⟨_,rfl⟩
 case h_3 c x y=>
  simp only[rop]at h;split at h;·rename_i t ak;simp only[Lt,LB]at h;obtain⟨rfl,rfl⟩:=h;exact⟨.pure,by simp only[aop,QuV,ak]⟩
  cases h
 case h_4 b t x y yt=>
  have bin:rop P (.bin b x y) A H=some (v,H')->Qud P (.binOp b t x y yt) A H v H':=λh=>by
   obtain⟨ae,rfl⟩:=QeZ h;exact⟨.pure,by simp only[aop,QbV,QCi ae,X9]⟩
  split at h;·exact bin h
  ·exact bin h
  ·rename_i aa;have beq:∀ne:Bool,(b=bif ne then .neq else .eql)->rop P (.beq ne x y) A H=some (v,H')->Qud P (.binOp b t x y yt) A H v H':=λne al h=>by
    simp only[rop]at h;split at h
    ·rename_i p q ah au;simp only[Lt,LB]at h;obtain⟨rfl,rfl⟩:=h;refine⟨.pure,?_⟩;have ai:∀k,Y4 P k t (.bool p) (.bool q)=true:=λk=>by simp[Y4,QjR,QsY]
     simp only[aop,QbV,Qs0,ah,au,Ql8,GO,ai,Bj,N3,al];cases ne<;>simp[aeq,aa,X9]
    cases h
   split at h;·exact beq false rfl h
   ·exact beq true rfl h
   exact gen h
  ·rename_i ap aa;split at h;·exact gen h
   rename_i ac;simp only[Nw,not_or,Bool.not_eq_true]at ac;split at h
   ·rename_i ks aH;have eqs:∀ne:Bool,(b=bif ne then .neq else .eql)->rop P (.eqs ne ks x y) A H=some (v,H')->Qud P (.binOp b t x y yt) A H v H':=λne al h=>by
     simp only[rop]at h;split at h
     ·rename_i p q ah au;split at h
      ·rename_i r ao;simp only[Lt,LB]at h;obtain⟨rfl,rfl⟩:=h;refine⟨.pure,?_⟩;have ai:∀k,Y4 P k t (.agg p) (.agg q)=true:=λk=>by simp[Y4,QjR,ac.2]
       have ab:=Qpg (f:=18) ap.toList 0 ks p q r aH ao;have aA:aeq P 20 t (.agg p) (.agg q)=some r:=by
        unfold aeq;rw[aa];simp only[ac.1,LV,LN];exact ab
       simp only[aop,QbV,Qs0,ah,au,Ql8,GO,ai,Bj,N3,al];cases ne<;>simp[aA,X9]
      cases h
     cases h
    split at h;·exact eqs false rfl h
    ·exact eqs true rfl h
    exact gen h
   exact gen h
  exact gen h
 case h_5 t x=>
  simp only[rop]at h;split at h;·rename_i p ah;simp only[Lt,LB]at h;obtain⟨rfl,rfl⟩:=h;exact⟨.pure,by simp only[aop,QuW,ah,QqS,X9]⟩
  cases h
 case h_6 src dst x=>
  split at h
  ·rename_i ik k av aq;simp only[rop]at h;split at h;·rename_i aN m an;simp only[Lt,LB]at h;obtain⟨rfl,rfl⟩:=h;exact⟨.pure,by simp only[aop,V3,av,aq,an,Qqx,X9]⟩
   cases h
  exact gen h
 case h_7 t x=>
  split at h;·exact gen h
  ·rename_i ax aM aa;simp only[rop,Lt,LB]at h;obtain⟨rfl,rfl⟩:=h;refine⟨.pure,?_⟩;simp only[aop,KL,aa]
  exact gen h
 case h_8 t x f=>
  split at h
  ·rename_i ap aa;split at h
   ·rename_i ay ar;split at h
    ·rename_i ax ad aq hi;simp only[rop]at h;split at h;·rename_i cs aC;obtain⟨ae,rfl⟩:=QeZ h;refine⟨.pure,?_⟩;simp only[aop,Qqz,aa,aC,ar,apart,aq,hi];cases aj:J6 ax<;>rw[aj]at ae<;>simp only[Lq,Ls]at ae<;>simp[ae,X9]
     cases h
    exact gen h
   exact gen h
  exact gen h
 case h_9 t x f=>
  split at h
  ·rename_i ap aa;split at h
   ·rename_i ay ar;split at h
    ·rename_i ad hi;split at h;·exact gen h
     rename_i ag;simp only[rop]at h;split at h
     ·rename_i a ab;simp only[Lt,LB]at h;obtain⟨rfl,rfl⟩:=h;refine⟨.pure,?_⟩;have:Nat.beq ad.size 0=false:=by simp[Zn,ag]
      simp only[aop,Gg,aa,ab,ar,hi,this,Ls]
     cases h
    exact gen h
   exact gen h
  exact gen h
 case h_10 t x ix=>
  split at h
  ·rename_i e aa;split at h
   ·rename_i ad hi;simp only[rop]at h;split at h
    ·rename_i ik m a len cap an ab;split at h;·rename_i ac;simp only[Lt,LB]at h;obtain⟨rfl,rfl⟩:=h;exact⟨.pure,by simp only[aop,YY,an,aa,ab,hi,ac,RU,N3]⟩
     cases h
    cases h
   exact gen h
  exact gen h
 case h_11 t x ix=>
  split at h
  ·rename_i aa;simp only[rop]at h;split at h
   ·rename_i ik m s an av;split at h
    ·rename_i az;split at h;·rename_i b al;simp only[Lt,LB]at h;obtain⟨rfl,rfl⟩:=h;exact⟨.pure,by simp only[aop,Qmb,an,aa,av,az,N3,al]⟩
     cases h
    cases h
   cases h
  exact gen h
 case h_12 x i=>
  simp only[rop]at h;split at h;·rename_i vs aL;obtain⟨ae,rfl⟩:=QeZ h;exact⟨.pure,by simp only[aop,QjD,aL,ae,X9]⟩
  cases h
 case h_13 t parts=>
  split at h
  ·rename_i ap ad aa hi;split at h
   ·rename_i z aO ag aJ;split at h
    ·rename_i ah;split at h
     ·rename_i l am;simp only[rop]at h;split at h;·rename_i r ao;simp only[Lt,LB]at h;obtain⟨rfl,rfl⟩:=h;have:=Qph (A:=A) parts.toList l z.cells.toList am;rw[ao]at this;exact⟨.pure,by simp only[aop,QqA,aa,hi,ag,aJ,ah,Lq,YG,this,Dh,X9]⟩
      cases h
     exact gen h
    exact gen h
   exact gen h
  exact gen h
 case h_14 t len parts=>
  split at h
  ·rename_i e aa;split at h
   ·rename_i ad hi;split at h
    ·rename_i z ag;split at h
     ·rename_i ac;simp only[rop]at h;split at h;·rename_i r ao;simp only[Lt,LB]at h;obtain⟨rfl,rfl⟩:=h;exact⟨.alloc _,by simp only[aop,QbW,aa,hi,ag,ac,Lq,YG,ao];rfl⟩
      cases h
     exact gen h
    exact gen h
   exact gen h
  exact gen h
 case h_15 e=>
  split at h
  ·rename_i ad hi;split at h
   ·rename_i z ag;split at h;·rename_i ah;simp only[rop,Lt,LB]at h;obtain⟨rfl,rfl⟩:=h;exact⟨.alloc _,by simp only[aop,QqB,hi,ag,ah,Lq];rfl⟩
    exact gen h
   exact gen h
  exact gen h
 case h_16 t x y=>
  split at h
  ·rename_i e aa;split at h
   ·rename_i ad hi;split at h
    ·rename_i z ag;split at h
     ·rename_i aD;simp only[rop]at h;split at h
      ·rename_i l c am ac;split at h;·rename_i aB;simp only[Lt,LB]at h;obtain⟨rfl,rfl⟩:=h;refine⟨.alloc (.cells (XG z.cells (c.toNat * ad.size)) e false),?_⟩;simp only[aop,QdJ,aa,am,ac,hi,ag];rw[Lc ⟨aD,aB⟩]
       cases h
      cases h
     exact gen h
    exact gen h
   exact gen h
  exact gen h
 case h_17 t x lo hi=>
  split at h
  ·rename_i e aa;split at h
   ·rename_i ad aG;simp only[rop]at h;split at h
    ·rename_i l aE am aF;obtain⟨ae,rfl⟩:=QeZ h;have e1:QS A lo=some l:=by rw[<- am];cases lo<;>rfl
     have e2:QS A hi=some aE:=by rw[<- aF];cases hi<;>rfl
     have e3:QS A none=some none:=rfl;exact⟨.pure,by simp only[aop,Qgk,aa,aG,e1,e2,e3,RV,N1,N3,ae,X9]⟩
    cases h
   exact gen h
  exact gen h
 case h_18 t x=>
  split at h
  ·rename_i d ad aa hi;simp only[rop]at h;split at h
   ·rename_i a ab;split at h
    ·rename_i c e ro ai;cases aj:J6 d with
     | true=>
      rw[aj]at h;simp only[Lq]at h;split at h;·rename_i aI;simp only[Lt,LB]at h;obtain⟨rfl,rfl⟩:=h;exact⟨.load,by simp only[aop,Qq7,ab,X5,aa,hi,ai,aj,N3,aI]⟩
      cases h
     | false=>
      rw[aj]at h;obtain⟨ae,rfl⟩:=QeZ h;exact⟨.load,by simp only[aop,Qq7,ab,X5,aa,hi,ai,aj,LV,LN,ae]⟩
    cases h
   cases h
  exact gen h
 case h_19 t x y=>
  split at h
  ·rename_i ad hi;simp only[rop]at h;split at h
   ·rename_i a ab;split at h
    ·rename_i c e ai;split at h;·rename_i ac;simp only[Lt,LB]at h;obtain⟨rfl,rfl⟩:=h;refine⟨.gen,?_⟩;simp only[aop,Qmc,ab,Qlc,hi,ai];rw[Lc ac]
     cases h
    cases h
   cases h
  exact gen h
 case h_20 args ts=>
  split at h
  ·rename_i x t ab ak;split at h
   ·rename_i e aa;simp only[rop]at h;split at h;·rename_i q m c hx;simp only[Lt,LB]at h;obtain⟨rfl,rfl⟩:=h;exact⟨.pure,by simp only[aop,QaP,ab,ak,QDG,aa,hx]⟩
    cases h
   ·rename_i aa;simp only[rop]at h;split at h;·rename_i s hx;simp only[Lt,LB]at h;obtain⟨rfl,rfl⟩:=h;exact⟨.pure,by simp only[aop,QaP,ab,ak,QDG,aa,hx]⟩
    cases h
   exact gen h
  exact gen h
 case h_21 args ts=>
  split at h
  ·rename_i x y t t2 ab ak;split at h
   ·rename_i e ax aa aK;split at h
    ·rename_i ad hi;split at h
     ·rename_i z ag;split at h;·rename_i ac;simp only[rop]at h;refine⟨.gen,?_⟩;simp only[aop,QaP,ab,ak,aa,aK,hi,ag,ac,Lq,Qza,h,Dh]
      exact gen h
     exact gen h
    exact gen h
   exact gen h
  exact gen h
 case h_22=>cases h
 case h_23=>cases h
 case h_24 e x=>simp only[rop,Lt,LB]at h;obtain⟨rfl,rfl⟩:=h;exact⟨.alloc _,rfl⟩
 case h_25=>exact gen h
end
def Rep (n:Nat)(A:Env)(e:E):Prop:=∀t,t<n->A t=ZE e t
structure Ks (α:Type) where
 ret:E->Qa->α
 ext:Nat->E->Qa->α
 jmp:Nat->E->Qa->α
 pan:Value->E->Qa->α
abbrev KT (α:Type):=Ks α->(E->Qa->α)->E->Qa->α
section
variable (α:Type) (bad:α) (P:Program) (call:Wx) (n F:Nat)
def QKQ (k:E->Qa->α)(e:E)(d:Option Nat)(r:Cls×Value×Qa):α:=
 Prod.rec (motive:=λ_=>α) (λ_ q=>Prod.rec (motive:=λ_=>α) (λv H=>k (QCe e d v) H) q) r
def QGh (o:Oper)(k:E->Qa->α)(e:E)(H:Qa):α:=
 Option.rec (motive:=λ_=>α) bad (QKQ α k e o.dst) (aop P call o (ZE e) H)
def Qzh (ops:Array Oper)(o:Oper)(k:E->Qa->α)(e:E)(H:Qa):α:=
 Option.rec (motive:=λ_=>α) bad (λb=>Bool.rec (motive:=λ_=>α) (k (QCe e o.dst undef) H) (QGh α bad P call o k e H) b) (X8 n ops (ZE e) o)
def Qzi (ops:Array Oper)(ks:Ks α)(o:Oper)(k:E->Qa->α)(e:E)(H:Qa):α:=
 Bool.rec (motive:=λ_=>α) bad (Option.rec (motive:=λ_=>α) (QGh α bad P call o k e H) (λ_=>Qzh α bad P call n ops o k e H) o.guard) (QhO P n o)
def Que (ops:Array Oper)(ks:Ks α)(l:List Oper):(E->Qa->α)->E->Qa->α:=
 List.rec (motive:=λ_=>(E->Qa->α)->E->Qa->α) (λk=>k) (λo _ aa k=>Qzi α bad P call n ops ks o (aa k)) l
def Qzj (ops:Array Oper)(k:E->Qa->α)(e:E)(H:Qa):α:=
 match QqE P call n ops (ZE e) H with
 | some (l,_,H1)=>k (QuX ops.toList l e) H1
 | none=>bad
def QDW (_:Nat)(ops:Array Oper)(aa:Bool):KT α:=λks k=>
 Bool.rec (motive:=λ_=>E->Qa->α) (Que α bad P call n ops ks ops.toList k) (Qzj α bad P call n ops k) aa
def vb (v:Value)(t f:α):α:=
 match v with
 | .bool b=>Bool.rec (motive:=λ_=>α) f t b
 | _=>bad
def Qzk (x:Operand)(_ _:Code)(aa ab:KT α):KT α:=λks k e H=>
 Bool.rec (motive:=λ_=>α) bad (vb α bad (ev (ZE e) x) (aa ks k e H) (ab ks k e H)) (QdG P n x)
def QDX:KT α:=λ_ k=>k
def QKR (_ _:Code)(aa ab:KT α):KT α:=λks k=>aa ks (ab ks k)
def QGi (id:Nat)(_:Code)(aa:KT α):KT α:=λks k=>
 aa ⟨ks.ret,λj=>Bool.rec (motive:=λ_=>E->Qa->α) (ks.ext j) k (Nat.beq j id),ks.jmp,ks.pan⟩ k
def QIW (_:Code)(aa:KT α):KT α:=λks _=>
 Nat.rec (motive:=λ_=>E->Qa->α) (λ_ _=>bad) (λ_ k=>aa ks k) F
def QAZ:KT α:=λ_ _ _ _=>bad
def QIX (id:Nat):KT α:=λks _=>ks.ext id
def QIY (l:Nat):KT α:=λks _=>ks.jmp l
def QKS:KT α:=λks _=>ks.ret
def Qzl (aa:Code->KT α)(body:Code)(ks:Ks α)(k:E->Qa->α)(m:Nat):Code->E->Qa->α:=
 Nat.rec (motive:=λ_=>Code->E->Qa->α) (λ_ _ _=>bad)
  (λ_ ab ac=>aa ac ⟨ks.ret,ks.ext,λl=>Option.rec (motive:=λ_=>E->Qa->α) (ks.jmp l) ab (findLabel body l),ks.pan⟩ k) m
def QGj (aa:Code->KT α)(body:Code)(_:KT α):KT α:=λks k=>Qzl α bad aa body ks k F body
def Qzm (A:Env)(ks:Ks α)(k:E->Qa->α)(e:E)(l:Nat)(H2:Qa):α:=
 match H2.get l with
 | some (.loop _ _ _ _ _ st)=>(match st with
  | none=>k e (H2.kill l)
  | some .ret=>ks.ret e (H2.kill l)
  | some (.exit id)=>ks.ext id e (H2.kill l)
  | some (.goto t)=>ks.jmp t e (H2.kill l)
  | _=>bad)
 | _=>bad
def Qzn (aa:FuncId)(xs ae:Array Value)(ad:Array Tmp)(ab ac:Code)(ks:Ks α)(k:E->Qa->α)(e:E)(H:Qa):α:=
 Bool.rec (motive:=λ_=>α) bad (Option.rec (motive:=λ_=>α) bad (λr=>Qzm α bad (ZE e) ks k e H.y r.2) (call.fn aa (xs.toList++[.func (.yield H.y) #[] #[]]++ae.toList) (H.push (.loop (ZE e) n ad ab ac none)))) (entered P aa)
def Qij (g:Operand)(ac:Array Tmp)(aa ab:Code)(_ _:KT α):KT α:=λks k e H=>
 Bool.rec (motive:=λ_=>α) bad (match ev (ZE e) g with
  | .func (.func gf) xs ys=>Qzn α bad P call n gf xs ys ac aa ab ks k e H
  | _=>bad) (QdG P n g)
def QIZ (aa:Code->KT α)(c:Code):KT α:=
 Code.rec (motive:=λ_=>KT α) (QDX α) (QDW α bad P call n) (QKR α) (Qzk α bad P n) (QGi α) (QIW α bad F) (Qij α bad P call n) (QIX α) (QGj α bad F aa)
  (λ_=>QDX α) (QIY α) (QKS α) (λ_=>QAZ α bad) c
def exec (G:Nat):Code->KT α:=
 Nat.rec (motive:=λ_=>Code->KT α) (λ_=>QAZ α bad) (λ_ aa=>QIZ α bad P call n F aa) G
end
section
variable {α:Type} {bad:α} {P:Program} {call:Wx} {n F:Nat} {Q:Ex->Env->Qa->Prop} {A B:Env} {H:Qa}
def Qcb.rep {z:Rd}{ρ:Ren}{w:World}{a:Act}(h:∀t,t<n->A t=B t)(aa:Qcb z ρ H w n B a):Qcb z ρ H w n A a:=⟨⟨aa.size,λt ab=>by rw[h t ab];exact aa.tmps t ab⟩,aa.fr⟩
def AWp.rep {c:Code}(h:∀t,t<n->A t=B t)(ac:AWp P n c Q A H):AWp P n c Q B H:=λz ρ w a ab aa=>ac z ρ w a ab (aa.rep h)
def Qla.rep {ops:Array Oper}{l:List Oper}(h:∀t,t<n->A t=B t)(ac:Qla P n ops l Q A H):Qla P n ops l Q B H:=λz ρ w a ab aa=>ac z ρ w a ab (aa.rep h)
def Qif.rep {c:Code}(h:∀t,t<n->A t=B t)(ac:Qif P n c Q A H):Qif P n c Q B H:=λz ρ w a ab aa=>ac z ρ w a ab (aa.rep h)
def QdI.rep {b c:Code}(h:∀t,t<n->A t=B t)(ac:QdI P n b c Q A H):QdI P n b c Q B H:=λz ρ w a ab aa=>ac z ρ w a ab (aa.rep h)
def AWp.post {c:Code}{Q':Ex->Env->Qa->Prop}(h:∀e A H,Q e A H->Q' e A H)(ac:AWp P n c Q A H):AWp P n c Q' A H:=λz ρ w a ab aa=>
 FF (ac z ρ w a ab aa) (λe a' w' ⟨e',ρ',A',H',hq,h1⟩=>⟨e',ρ',A',H',h _ _ _ hq,h1⟩)
def QCm (good:α->Prop)(n:Nat)(ks:Ks α)(k:E->Qa->α):Ex->Env->Qa->Prop
 | .normal,A,H=>∃e,Rep n A e∧good (k e H)
 | .ret,A,H=>∃e,Rep n A e∧good (ks.ret e H)
 | .exit j,A,H=>∃e,Rep n A e∧good (ks.ext j e H)
 | .goto l,A,H=>∃e,Rep n A e∧good (ks.jmp l e H)
 | .panic v,A,H=>∃e,Rep n A e∧good (ks.pan v e H)
def QA0 (ab:n<=256){o:Oper}(h:QhO P n o=true):Ql1 256 o.dst=true:=by
 have:=Qh8 h;cases aa:o.dst with
 | none=>rfl
 | some d=>rw[aa]at this;simp only[Ql1,B5]at this ⊢;omega
variable {good:α->Prop} (hbad:¬good bad) (hn:n<=256) (hcall:Qgl P call)
include hbad hn hcall
def Qpj {ops:Array Oper}{ks:Ks α}{k:E->Qa->α}:∀ (l:List Oper) (e:E) (H:Qa),good (Que α bad P call n ops ks l k e H)->Qla P n ops l (QCm good n ks k) (ZE e) H
 | [],e,H,h=>Qwz ⟨e,λ_ _=>rfl,h⟩
 | o::rest,e,H,h=>by
  have h:good (Qzi α bad P call n ops ks o (Que α bad P call n ops ks rest k) e H):=h;unfold Qzi at h;cases ab:QhO P n o with
  | false=>rw[ab]at h;exact absurd h hbad
  | true=>
   rw[ab]at h;have next:∀v H',good (Que α bad P call n ops ks rest k (QCe e o.dst v) H')->Qla P n ops rest (QCm good n ks k) (J5 (ZE e) o.dst v) H':=λv H' aa=>
    (Qpj rest _ _ aa).rep (λt ak=>QwQ e v (QA0 hn ab) t (by omega))
   have ai:∀ (h:good (QGh α bad P call o (Que α bad P call n ops ks rest k) e H)),∃v H',Qx P o (ZE e) H v H'∧Qla P n ops rest (QCm good n ks k) (J5 (ZE e) o.dst v) H':=λh=>by
    unfold QGh at h;cases ag:aop P call o (ZE e) H with
    | none=>rw[ag]at h;exact absurd h hbad
    | some r=>
     obtain⟨c,v,H'⟩:=r;rw[ag]at h;exact⟨v,H',(QnX hcall ag).does,next v H' h⟩
   cases aa:o.guard with
   | none=>
    rw[aa]at h;obtain⟨v,H',ad,ae⟩:=ai h;exact QtZ aa ad ab ae
   | some aj=>
    rw[aa]at h;obtain⟨j,al⟩:=aj;have h:good (Qzh α bad P call n ops o (Que α bad P call n ops ks rest k) e H):=h;unfold Qzh at h;cases ac:X8 n ops (ZE e) o with
    | none=>rw[ac]at h;exact absurd h hbad
    | some b=>
     rw[ac]at h;cases b with
     | true=>
      obtain⟨v,H',ad,ae⟩:=ai h;exact QdK aa ac (λ_=>⟨v,H',ad,ae⟩) (λah=>by cases ah) ab
     | false=>exact QdK aa ac (λah=>by cases ah) (λ_=>next undef H h) ab
omit hbad hcall in
def Qli:∀ (l:List Oper) (e:E) (A:Env) (H:Qa) (tr:List Stp) (A1:Env) (H1:Qa) {ops:Array Oper},Ke P call n ops l A H=some (tr,A1,H1)->Rep n A e->Rep n A1 (QuX l tr e)
 | [],e,A,H,tr,A1,H1,ops,h,hr=>by
  simp only[Ke,Lt,LB]at h;obtain⟨rfl,rfl,rfl⟩:=h;exact hr
 | o::rest,e,A,H,tr,A1,H1,ops,h,hr=>by
  have step:∀v,QhO P n o=true->Rep n (J5 A o.dst v) (QCe e o.dst v):=λv aa t ae=>by
   rw[QwQ e v (QA0 hn aa) t (by omega)];cases o.dst with
   | none=>exact hr t ae
   | some d=>
    simp only[J5]
    by_cases ab:t=d;·subst ab;simp
    rw[Qgb _ _ ab,Qgb _ _ ab];exact hr t ae
  unfold Ke at h;cases aa:QhO P n o with
  | false=>rw[aa]at h;cases h
  | true=>
   rw[aa]at h;simp only[Lq]at h;split at h
   ·split at h
    ·rename_i c v H' ah;split at h;·rename_i ag r ac;simp only[Lt,LB]at h;obtain⟨rfl,ad⟩:=h;subst ad;exact Qli rest _ _ _ _ _ _ ac (step v aa)
     cases h
    cases h
   ·split at h;·rename_i ag r ac;simp only[Lt,LB]at h;obtain⟨rfl,ad⟩:=h;subst ad;exact Qli rest _ _ _ _ _ _ ac (step undef aa)
    cases h
   cases h
def Qlj:∀ (G:Nat) (c:Code) (ks:Ks α) (k:E->Qa->α) (e:E) (H:Qa),good (exec α bad P call n F G c ks k e H)->AWp P n c (QCm good n ks k) (ZE e) H:=by
 intro G
 induction G with
 | zero=>intro c ks k e H h;exact absurd h hbad
 | succ G aE=>
  intro c
  induction c with
  | skip=>intro ks k e H h;exact QqP ⟨e,λ_ _=>rfl,h⟩
  | label l=>intro ks k e H h;exact QtY ⟨e,λ_ _=>rfl,h⟩
  | ret=>intro ks k e H h;exact QAQ ⟨e,λ_ _=>rfl,h⟩
  | exit id=>intro ks k e H h;exact Qwx ⟨e,λ_ _=>rfl,h⟩
  | goto l=>intro ks k e H h;exact Qwy ⟨e,λ_ _=>rfl,h⟩
  | refuse s=>intro ks k e H h;exact absurd h hbad
  | rangeFunc g av ap aq an ao=>
   intro ks k e H h;have h:good (Qij α bad P call n g av ap aq (QAZ α bad) (QAZ α bad) ks k e H):=h;unfold Qij at h;cases ag:QdG P n g with
   | false=>rw[ag]at h;exact absurd h hbad
   | true=>
    rw[ag]at h;have h:good (match ev (ZE e) g with | .func (.func ak) xs ax=>Qzn α bad P call n ak xs ax av ap aq ks k e H | _=>bad):=h;split at h
    ·rename_i ak xs ax aB;unfold Qzn at h;cases ai:entered P ak with
     | false=>rw[ai]at h;exact absurd h hbad
     | true=>
      rw[ai]at h;cases ah:call.fn ak (xs.toList++[.func (.yield H.y) #[] #[]]++ax.toList) (H.push (.loop (ZE e) n av ap aq none)) with
      | none=>rw[ah]at h;exact absurd h hbad
      | some r=>
       obtain⟨v,H2⟩:=r;rw[ah]at h;have h:good (Qzm α bad (ZE e) ks k e H.y H2):=h;have ab:=(hcall.fn _ _ _ _ _ ah).does ai;unfold Qzm at h;split at h
       ·rename_i A' aI aJ aG aH st aC;refine Qkc ag aB ai (.inl ⟨ai,ab⟩) aC ?_;cases st with
        | none=>exact⟨e,λ_ _=>rfl,h⟩
        | some c=>
         cases c<;>simp only at h<;>first
          | exact⟨e,λ_ _=>rfl,h⟩
          | exact absurd h hbad
       exact absurd h hbad
    exact absurd h hbad
  | region id ops aA=>
   intro ks k e H h;cases aA with
   | false=>
    have:=Qpj (ks:=ks) hbad hn hcall ops.toList e H h;exact QqQ (l:=ops.toList) (by simpa using this)
   | true=>
    have h:good (Qzj α bad P call n ops k e H):=h;unfold Qzj at h;split at h
    ·rename_i l A1 H1 ab;refine Qs1 hcall ab ⟨QuX ops.toList l e,?_,h⟩;unfold QqE at ab;cases ah:(P.follows .mixedOrders&&QeA ops (W2 ops)) with
     | false=>rw[ah]at ab;cases ab
     | true=>
      rw[ah]at ab;simp only[Lq]at ab;split at ab
      ·rename_i az aK H1' aD;cases ay:QnY (Qgm P ops (QK ops.toList []) az H1') 0 az with
       | true=>
        rw[ay]at ab;simp only[Lq,Lt,LB]at ab;obtain⟨rfl,rfl,rfl⟩:=ab;exact Qli hn _ _ _ _ _ _ _ aD (λ_ _=>rfl)
       | false=>rw[ay]at ab;cases ab
      cases ab
    exact absurd h hbad
  | seq a b an ao=>
   intro ks k e H h;refine Ql2 ((an ks _ e H h).post ?_);intro ad A1 H1 ac;cases ad with
   | normal=>
    obtain⟨e1,ae,aa⟩:=ac;exact(ao ks k e1 H1 aa).rep (λt aj=>(ae t aj).symm)
   | _=>exact ac
  | cond x a b an ao=>
   intro ks k e H h;have h:good (Qzk α bad P n x a b (exec α bad P call n F (G+1) a) (exec α bad P call n F (G+1) b) ks k e H):=h;unfold Qzk at h;cases ag:QdG P n x with
   | false=>rw[ag]at h;exact absurd h hbad
   | true=>
    rw[ag]at h;have h:good (vb α bad (ev (ZE e) x) (exec α bad P call n F (G+1) a ks k e H) (exec α bad P call n F (G+1) b ks k e H)):=h;unfold vb at h;split at h
    ·rename_i t ad;cases t with
     | true=>exact Ql3 ag ad (an ks k e H h)
     | false=>exact Ql3 ag ad (ao ks k e H h)
    exact absurd h hbad
  | block id b am=>
   intro ks k e H h;refine Qb8 ((am _ k e H h).post ?_);intro ad A1 H1 ac;cases ad with
   | exit j=>
    obtain⟨e1,ae,aa⟩:=ac;simp only[Ql4];have aa:good (Bool.rec (motive:=λ_=>E->Qa->α) (ks.ext j) k (Nat.beq j id) e1 H1):=aa
    by_cases al:j=id
    ·rw[Lc al];subst al;have:Nat.beq j j=true:=by simp
     rw[this]at aa;exact⟨e1,ae,aa⟩
    rw[Le al];have:Nat.beq j id=false:=by simp[Zn,al]
    rw[this]at aa;exact⟨e1,ae,aa⟩
   | _=>exact ac
  | loop b am=>
   intro ks k e H h;refine Qo6 ?_;have key:∀ (m:Nat) (e:E) (H:Qa),good (Nat.rec (motive:=λ_=>E->Qa->α) (λ_ _=>bad) (λ_ k=>exec α bad P call n F (G+1) b ks k) m e H)->Qif P n b (QCm good n ks k) (ZE e) H:=by
    intro m
    induction m with
    | zero=>intro e H h;exact absurd h hbad
    | succ m au=>
     intro e H h;refine QeW ((am ks _ e H h).post ?_);intro ad A1 H1 ac;cases ad with
     | normal=>
      obtain⟨e1,ae,aa⟩:=ac;exact(au e1 H1 aa).rep (λt aj=>(ae t aj).symm)
     | _=>exact ac
   exact key F e H h
  | scope b am=>
   intro ks k e H h;refine Qgi ?_;have key:∀ (m:Nat) (c:Code) (e:E) (H:Qa),good (Qzl α bad (exec α bad P call n F G) b ks k m c e H)->QdI P n b c (QCm good n ks k) (ZE e) H:=by
    intro m
    induction m with
    | zero=>intro c e H h;exact absurd h hbad
    | succ m au=>
     intro c e H h;refine KX ((aE c _ k e H h).post ?_);intro ad A1 H1 ac;cases ad with
     | goto l=>
      obtain⟨e1,ae,aa⟩:=ac;simp only[QB9];have aa:good (Option.rec (motive:=λ_=>E->Qa->α) (ks.jmp l) (Qzl α bad (exec α bad P call n F G) b ks k m) (findLabel b l) e1 H1):=aa;split;·rename_i aF ar;rw[ar]at aa;exact(au aF e1 H1 aa).rep (λt aj=>(ae t aj).symm)
      rename_i ar;rw[ar]at aa;exact⟨e1,ae,aa⟩
     | _=>exact ac
   exact key F b e H h
end
/-! ### Functions -/
def QwT (P:Program)(fn:Func)(e:E)(H:Qa):Option (Value×Qa):=
 Option.rec (motive:=λ_=>Option (Value×Qa)) none (λv=>some (v,H)) (QhP P fn.ntmps fn.results (ZE e) H)
def Qzo (P:Program)(call:Wx)(F G:Nat)(fn:Func)(args:List Value)(H:Qa)(c:Code):Option (Value×Qa):=
 Bool.rec (motive:=λ_=>Option (Value×Qa)) none
  (exec (Option (Value×Qa)) none P call fn.ntmps F G c ⟨QwT P fn,λ_ _ _=>none,λ_ _ _=>none,λ_ _ _=>none⟩ (QwT P fn) (Qua args 0 E.none) H)
  (Nat.ble fn.ntmps 256&&Nat.ble args.length fn.ntmps)
def QuZ (P:Program)(call:Wx)(F G:Nat)(f:FuncId)(args:List Value)(H:Qa)(fn:Func):Option (Value×Qa):=
 Bool.rec (motive:=λ_=>Option (Value×Qa)) none (Option.rec (motive:=λ_=>Option (Value×Qa)) none (Qzo P call F G fn args H) fn.body) (entered P f)
def QhQ (A:Env)(b:Nat):N16 Value:=⟨A b,A (b+1),A (b+2),A (b+3),A (b+4),A (b+5),A (b+6),A (b+7),A (b+8),A (b+9),A (b+10),A (b+11),A (b+12),A (b+13),A (b+14),A (b+15)⟩
def eOf (A:Env):E:=⟨QhQ A 0,QhQ A 16,QhQ A 32,QhQ A 48,QhQ A 64,QhQ A 80,QhQ A 96,QhQ A 112,QhQ A 128,QhQ A 144,QhQ A 160,QhQ A 176,QhQ A 192,QhQ A 208,QhQ A 224,QhQ A 240⟩
def QDY (A:Env)(b:Nat)(d:D):(QhQ A b).get d=A (b+d.num):=by cases d<;>rfl
def QGk (A:Env)(d:D):(eOf A).get d=QhQ A (16 * d.num):=by cases d<;>rfl
def QDZ (A:Env){t:Nat}(aa:t<256):ZE (eOf A) t=A t:=by
 have e1:∀x y:Nat,Nat.div x y=x / y:=λ_ _=>rfl;have e2:∀x y:Nat,Nat.mod x y=x % y:=λ_ _=>rfl;simp only[ZE,e1,e2];rw[QGk,QDY,QqD (by omega),QqD (by omega)];congr 1;omega
def QwU (l:Nat)(A:Env)(n:Nat)(ac:Array Tmp)(aa ab:Code)(st:Option Code)(b:Bool)(H:Qa):Option (Value×Qa):=some (.bool b,H.set l (.loop A n ac aa ab st))
def QI0 (P:Program)(call:Wx)(F G:Nat)(l:Nat)(A:Env)(n:Nat)(ac:Array Tmp)(ab aa:Code)(e:E)(H:Qa):Option (Value×Qa):=
 exec (Option (Value×Qa)) none P call n F G aa ⟨λ_ H1=>QwU l A n ac ab aa (some .ret) false H1,λj _ H1=>QwU l A n ac ab aa (some (.exit j)) false H1,λj _ H1=>QwU l A n ac ab aa (some (.goto j)) false H1,λ_ _ _=>none⟩
  (λ_ H1=>QwU l A n ac ab aa none true H1) e H
def Qu0 (P:Program)(call:Wx)(F G:Nat)(l:Nat)(args:List Value)(H:Qa):Option (Value×Qa):=
 match H.get l with
 | some (.loop A n ps as bd none)=>
  bif Nat.ble n 256&&Nat.beq args.length ps.size then
   exec (Option (Value×Qa)) none P call n F G as ⟨λ_ _=>none,λ_ _ _=>none,λ_ _ _=>none,λ_ _ _=>none⟩ (QI0 P call F G l A n ps as bd) (eOf (Qo7 A ps.toList args)) (H.kill l)
  else none
 | _=>none
def Qs2 {P:Program}{call:Wx}(ad:Qgl P call){F G:Nat}{l:Nat}{args:List Value}{H H':Qa}{v:Value}(h:Qu0 P call F G l args H=some (v,H')):Qt6 P l args H v H':=by
  unfold Qu0 at h;split at h
  · rename_i A n ao ai aj al
    cases aa:(Nat.ble n 256&&Nat.beq args.length ao.size) with
    | false=>rw[aa]at h;cases h
    | true=>
      rw[aa]at h;simp only[Lq]at h;simp only[Lm,BL,Zn,Lv]at aa;refine Qo8 al aa.2 ?_;have an:=Qlj (good:=λr:Option (Value×Qa)=>r=some (v,H')) (by simp) aa.1 ad G ai _ _ _ (H.kill l) h;refine(an.post ?_).rep (λt ah=>QDZ _ (by omega));intro ac A1 H1 ab;cases ac with
      | normal=>
        obtain⟨e,am,ak⟩:=ab;have body:=Qlj (good:=λr:Option (Value×Qa)=>r=some (v,H')) (by simp) aa.1 ad G aj _ _ _ H1 ak;refine(body.post ?_).rep (λt ah=>(am t ah).symm);intro ac A2 H2 ag;cases ac<;>first
          | (obtain⟨e2,_,ae⟩:=ag
             simp only[QwU,Lt,LB]at ae;obtain⟨g1,g2⟩:=ae;exact⟨g1.symm,by rw[<- g2];exact .refl _⟩)
          | (obtain⟨_,_,hx⟩:=ag;cases hx)
      | ret=>obtain⟨_,_,hx⟩:=ab;cases hx
      | exit j=>obtain⟨_,_,hx⟩:=ab;cases hx
      | goto j=>obtain⟨_,_,hx⟩:=ab;cases hx
      | panic u=>obtain⟨_,_,hx⟩:=ab;cases hx
  · cases h
def run (P:Program)(ab:CallF)(F G:Nat)(k:Nat):Wx:=
 Nat.rec (motive:=λ_=>Wx) ⟨λ_ _ _=>none,λ_ _ _=>none⟩
  (λ_ aa=>⟨λf args H=>Option.rec (motive:=λ_=>Option (Value×Qa)) (Option.rec (motive:=λ_=>Option (Value×Qa)) none (QuZ P aa F G f args H) P.funcs[f]?) some (ab f args H),Qu0 P aa F G⟩) k
def QCn {P:Program}{fn:Func}{A1:Env}{H1 H':Qa}{e:E}{v:Value}(ad:Rep fn.ntmps A1 e)(aa:QwT P fn e H1=some (v,H')):∃ae,Out.ret v=.ret ae∧QhP P fn.ntmps fn.results A1 H1=some ae∧J4 H' H1:=by
 unfold QwT at aa;cases ac:QhP P fn.ntmps fn.results (ZE e) H1 with
 | none=>rw[ac]at aa;cases aa
 | some u=>
  rw[ac]at aa;have aa:some (u,H1)=some (v,H'):=aa;simp only[Lt,LB]at aa;obtain⟨e1,e2⟩:=aa;rw[<- e1,<- e2];refine⟨_,rfl,?_,.refl _⟩;rw[<- ac];have ag:∀r,ZV P fn.ntmps A1 H1 r=ZV P fn.ntmps (ZE e) H1 r:=λr=>by
   cases r with
   | tmp t=>
    simp only[ZV]
    by_cases ab:t<fn.ntmps;·simp only[ab,N3,ad t ab]
    simp only[ab,LN]
   | cell a t=>
    simp only[ZV]
    by_cases ab:a<fn.ntmps;·simp only[ab,N3,ad a ab]
    simp only[ab,LN]
  unfold QhP;rw[show ZV P fn.ntmps A1 H1=ZV P fn.ntmps (ZE e) H1 from funext ag]
def Qu1 {P:Program}{call:Wx}(ai:Qgl P call){F G:Nat}{f:FuncId}{fn:Func}{c:Code}{args:List Value}{H H':Qa}{v:Value}(aj:P.funcs[f]? = some fn)(ah:fn.body=some c)
  (h:Qzo P call F G fn args H c=some (v,H')):Qce P f args H (.ret v) H':=by
 unfold Qzo at h;cases ab:(Nat.ble fn.ntmps 256&&Nat.ble args.length fn.ntmps) with
 | false=>rw[ab]at h;cases h
 | true=>
  rw[ab]at h;simp only[Lm,BL]at ab;have ae:args.length+(fn.ntmps - args.length)=fn.ntmps:=by omega
  refine QqY aj ah ?_;rw[ae];have ak:=Qlj (good:=λr:Option (Value×Qa)=>r=some (v,H')) (by simp) ab.1 ai G c _ _ _ H h;have ac:∀ (A1:Env) (H1:Qa),(∃e,Rep fn.ntmps A1 e∧QwT P fn e H1=some (v,H'))->∃ad,Out.ret v=.ret ad∧QhP P fn.ntmps fn.results A1 H1=some ad∧J4 H' H1:=λA1 H1 ⟨e,hr,hk⟩=>QCn hr hk;refine(ak.post ?_).rep (λt al=>QCg (by omega) t (by omega));intro ag A1 H1 aa;cases ag with
  | normal=>exact ac A1 H1 aa
  | ret=>exact ac A1 H1 aa
  | exit j=>obtain⟨_,_,hx⟩:=aa;cases hx
  | goto j=>obtain⟨_,_,hx⟩:=aa;cases hx
  | panic u=>obtain⟨_,_,hx⟩:=aa;cases hx
def Qe1 {P:Program}{ab:CallF}(ai:CallOk P ab){F G:Nat}:∀k,Qgl P (run P ab F G k):=by
 intro k
 induction k with
 | zero=>exact⟨λf args H v H' h=>(by cases h),λl args H v H' h=>(by cases h)⟩
 | succ k ah=>
  refine⟨λf args H v H' h=>?_,λl args H v H' h=>Qs2 ah h⟩;have h:Option.rec (motive:=λ_=>Option (Value×Qa)) (Option.rec (motive:=λ_=>Option (Value×Qa)) none (QuZ P (run P ab F G k) F G f args H) P.funcs[f]?) some (ab f args H)=some (v,H'):=h;cases ag:ab f args H with
  | some r=>rw[ag]at h;cases h;exact ai f args H v H' ag
  | none=>
   rw[ag]at h;cases ae:P.funcs[f]? with
   | none=>rw[ae]at h;cases h
   | some fn=>
    rw[ae]at h;have aa:QuZ P (run P ab F G k) F G f args H fn=some (v,H'):=h;unfold QuZ at aa;cases ad:entered P f with
    | false=>rw[ad]at aa;cases aa
    | true=>
     rw[ad]at aa;cases ac:fn.body with
     | none=>rw[ac]at aa;cases aa
     | some c=>rw[ac]at aa;exact .inl ⟨ad,Qu1 ah ae ac aa⟩
def xknown (xt:FuncId->Option Xk):CallF:=λf args H=>
 match xt f with
 | some k=>(k.val args).map λv=>(v,H)
 | none=>none
def xknown_ok {P:Program}{xt:FuncId->Option Xk}(h:∀f k,xt f=some k->IsExt P f k):CallOk P (xknown xt):=by
 intro f args H v H' aa;unfold xknown at aa;split at aa;·rename_i k ab;simp only[Lx,LB]at aa;obtain⟨u,ac,rfl,rfl⟩:=aa;exact .inr (QwH (h f k ab) ac)
 cases aa
def shN (G δ id:Nat):Nat:=bif Nat.blt id G then id else id+δ
def shV (G δ:Nat):Nat->Value->Value
 | 0,v=>v
 | f+1,v=>match v with
  | .pointer (some a)=>.pointer (some ⟨shN G δ a.block,a.off,a.spot⟩)
  | .slice (some a) l c=>.slice (some ⟨shN G δ a.block,a.off,a.spot⟩) l c
  | .map (some r)=>.map (some (shN G δ r))
  | .iface t v=>.iface t (shV G δ f v)
  | .agg xs=>.agg (xs.toList.map (shV G δ f)).toArray
  | .tuple xs=>.tuple (xs.toList.map (shV G δ f)).toArray
  | .func fn xs aa=>.func fn (xs.toList.map (shV G δ f)).toArray (aa.toList.map (shV G δ f)).toArray
  | v=>v
def okD:Nat->Value->Bool
 | 0,v=>plain v
 | f+1,v=>match v with
  | .iface _ v=>okD f v
  | .agg xs=>xs.toList.all (okD f)
  | .tuple xs=>xs.toList.all (okD f)
  | .func fn xs aa=>QbT fn&&xs.toList.all (okD f)&&aa.toList.all (okD f)
  | _=>true
def QCP (G δ:Nat):∀ (f:Nat) (v:Value),plain v=true->shV G δ f v=v
 | 0,v,_=>rfl
 | f+1,v,h=>by
  unfold shV;split<;>first | (simp[plain]at h;done) | rfl
def QK4 {ρ ρ':Ren}{G δ:Nat}(aj:∀id i,ρ id=some i->ρ' (shN G δ id)=some i):∀ (f:Nat) {v ae:Value},V ρ v ae->okD f v=true->V ρ' (shV G δ f v) ae:=by
 intro f
 induction f with
 | zero=>
  intro v ae h ab;rw[h.plain_eq ab];exact .same _ ab
 | succ f am=>
  intro v ae h ab;have ah:∀ (xs aa:Array Value),xs.size=aa.size->(∀ (j:Nat) x x',xs[j]? = some x->aa[j]? = some x'->V ρ x x')->xs.toList.all (okD f)=true->
    (xs.toList.map (shV G δ f)).toArray.size=aa.size∧∀ (j:Nat) x x',(xs.toList.map (shV G δ f)).toArray[j]? = some x->aa[j]? = some x'->V ρ' x x':=by
   intro xs aa ac ad ag;refine⟨by simp[ac],λj x x' e e'=>?_⟩;simp only[List.getElem?_toArray,LD,Bl,Lx]at e;obtain⟨y,al,rfl⟩:=e;exact am (ad j y x' al e') (Li.1 ag y (by simpa using BB al))
  cases h with
  | same v ak=>rw[QCP G δ (f+1) v ak];exact .same v ak
  | ptr id off i h=>exact .ptr _ off i (aj id i h)
  | slice id off len cap ap i ao h ac ad aq ag ai=>exact .slice _ off len cap ap i ao (aj id i h) ac ad aq ag ai
  | map id i h=>exact .map _ i (aj id i h)
  | func fn xs ax aa an ar ac ad ag ai=>
   simp only[okD,Lm]at ab;obtain⟨p1,p2⟩:=ah xs aa ac ag ab.1.2;obtain⟨au,av⟩:=ah ax an ad ai ab.2;exact .func fn _ _ aa an ar p1 au p2 av
  | yield l i h=>simp[okD,QbT]at ab
  | iface t v ae h=>exact .iface t _ ae (am h ab)
  | agg xs aa ac ad=>
   obtain⟨p1,p2⟩:=ah xs aa ac ad ab;exact .agg _ aa p1 p2
  | tuple xs aa ac ad=>
   obtain⟨p1,p2⟩:=ah xs aa ac ad ab;exact .tuple _ aa p1 p2
structure Row where
 src:Nat
 c:List Value
 e:TypeId
 ro:Bool
def Row.blk (G δ:Nat)(r:Row):Blk:=.cells (r.c.map (shV G δ 6)) r.e r.ro
def QrA (G δ:Nat):List Row->Qa->Qa
 | [],H=>H
 | r::rs,H=>QrA G δ rs (H.push (r.blk G δ))
def Qp1 (G:Nat)(rs:List Row)(H:Qa):Qa:=QrA G (H.y - G) rs H
def QrB {G δ:Nat}:∀ (rs:List Row) (H:Qa),(QrA G δ rs H).y=H.y+rs.length
 | [],H=>rfl
 | r::rs,H=>by simp only[QrA,QrB rs,Qd,Lo];omega
def Qun {G δ:Nat}:∀ (rs:List Row) (H:Qa) (id:Nat),(QrA G δ rs H).get id=if H.y<=id∧id<H.y+rs.length then(rs[id - H.y]?).map (Row.blk G δ) else H.get id
 | [],H,id=>by simp only[QrA,L9];rw[Le (by omega)]
 | r::rs,H,id=>by
  simp only[QrA,Qun rs,Qd,Lo,Qc]
  by_cases aa:id=H.y;·subst aa;rw[Le (by omega),Lc rfl,Lc ⟨by omega,by omega⟩];simp
  by_cases ab:H.y+1<=id∧id<H.y+1+rs.length;·rw[Lc ab,Lc ⟨by omega,by omega⟩,show id - H.y=(id - (H.y+1))+1 by omega];simp
  rw[Le ab,Le aa,Le (by omega)]
def Qbo (G:Nat)(rs:List Row)(b:Nat):Option Nat:=bif Nat.blt b G then some b else(rs[b - G]?).map (·.src)
def QG3 (o:Option Nat)(a:Nat):Bool:=match o with | some b=>Nat.beq b a | none=>false
def QBc {o:Option Nat}{a:Nat}(h:QG3 o a=true):o=some a:=by
 cases o with
 | none=>cases h
 | some b=>simp only[QG3,Zn,Lv]at h;rw[h]
def Qoc (a:Addr):Bool:=match a.spot with | none=>true | some _=>false
def mtV (σ:Nat->Option Nat):Nat->Value->Value->Bool
 | 0,v,u=>plain v&&Qch 8 v u
 | f+1,v,u=>match v,u with
  | .pointer (some a),.pointer (some b)=>QG3 (σ b.block) a.block&&Nat.beq a.off b.off&&Qoc b
  | .slice (some a) l c,.slice (some b) l' c'=>QG3 (σ b.block) a.block&&Nat.beq a.off b.off&&Qoc b&&Nat.beq l l'&&Nat.beq c c'
  | .iface t v,.iface t' u=>Nat.beq t t'&&mtV σ f v u
  | .agg xs,.agg ys=>GJ (mtV σ f) xs.toList ys.toList
  | .tuple xs,.tuple ys=>GJ (mtV σ f) xs.toList ys.toList
  | v,u=>plain v&&Qch 8 v u
def Qfb {ad:Value->Value->Bool}:∀ {xs aa:List Value},GJ ad xs aa=true->xs.length=aa.length∧∀ (j:Nat) x y,xs[j]? = some x->aa[j]? = some y->ad x y=true
 | [],[],_=>⟨rfl,λj x y h=>by simp at h⟩
 | x::xs,y::aa,h=>by
  simp only[GJ,Lm]at h;obtain⟨ae,ag⟩:=Qfb h.2;refine⟨by simp[ae],λj a b ab ac=>?_⟩;cases j with
  | zero=>simp at ab ac;subst ab;subst ac;exact h.1
  | succ j=>exact ag j a b (by simpa using ab) (by simpa using ac)
 | [],_::_,h=>by simp[GJ]at h
 | _::_,[],h=>by simp[GJ]at h
def QBd {σ:Nat->Option Nat}{ρ ρ':Ren}(an:∀a b i,σ b=some a->ρ a=some i->ρ' b=some i):∀ (f:Nat) {v u ag:Value},mtV σ f v u=true->V ρ v ag->V ρ' u ag:=by
 intro f;have ap:∀ {v u ag:Value},(plain v&&Qch 8 v u)=true->V ρ v ag->V ρ' u ag:=λh ac=>by
  simp only[Lm]at h;rw[<- GP 8 _ _ h.2,ac.plain_eq h.1];exact .same _ h.1
 induction f with
 | zero=>intro v u ag h ac;exact ap h ac
 | succ f ao=>
  intro v u ag h ac;have ak:∀ (xs ad ab:Array Value),xs.size=ab.size->(∀ (j:Nat) x x',xs[j]? = some x->ab[j]? = some x'->V ρ x x')->GJ (mtV σ f) xs.toList ad.toList=true->
    ad.size=ab.size∧∀ (j:Nat) x x',ad[j]? = some x->ab[j]? = some x'->V ρ' x x':=by
   intro xs ad ab ae aa ah;obtain⟨g1,g2⟩:=Qfb ah;simp only[Array.length_toList]at g1;refine⟨by omega,λj x x' e e'=>?_⟩;have am:j<xs.size:=by rw[ae];exact(Nj.1 e').1
   exact ao (g2 j xs[j] x (by simp[am]) (by simpa using e)) (aa j _ x' (Ng am) e')
  unfold mtV at h;split at h
  ·rename_i a b;simp only[Lm,Zn,Lv]at h;obtain⟨⟨ae,aa⟩,ah⟩:=h;obtain⟨i,g1,g2,g3⟩:=ac.ptr_inv;rw[g3,aa];obtain⟨b0,aj,bs⟩:=b;have:bs=none:=by cases bs with | none=>rfl | some _=>cases ah
   subst this;exact .ptr b0 aj i (an _ _ i (QBc ae) g1)
  ·rename_i a l c b aD c';simp only[Lm,Zn,Lv]at h;obtain⟨⟨⟨⟨ae,aa⟩,ah⟩,ay⟩,az⟩:=h;obtain⟨i,aq,ar,g1,g2,g3,g4,av,au,al,ax⟩:=ac.slice_inv;subst ay;subst az;rw[g3];obtain⟨b0,aj,bs⟩:=b;have:bs=none:=by cases bs with | none=>rfl | some _=>cases ah
   subst this;simp only at aa;rw[aa]at g4 al;exact .slice b0 aj l c ar i aq (an _ _ i (QBc ae) g1) g4 av au al ax
  ·rename_i t aF aE aB;simp only[Lm,Zn,Lv]at h;obtain⟨rfl,aa⟩:=h;cases ac with
   | same _ ai=>simp[plain]at ai
   | iface _ _ aC aA=>exact .iface t aB aC (ao aa aA)
  ·rename_i xs ad;cases ac with
   | same _ ai=>simp[plain]at ai
   | agg _ ab ae aa=>obtain⟨p1,p2⟩:=ak xs ad ab ae aa h;exact .agg ad ab p1 p2
  ·rename_i xs ad;cases ac with
   | same _ ai=>simp[plain]at ai
   | tuple _ ab ae aa=>obtain⟨p1,p2⟩:=ak xs ad ab ae aa h;exact .tuple ad ab p1 p2
  exact ap h ac
def QIC (G:Nat)(B:Qa):Prop:=B.y=G∧∀id b,B.get id=some b->∃c e,b=.cells c e true∧c.all plain=true
structure QzO (G:Nat) (H1:Qa) (rs:List Row):Prop where
 row:∀ (k:Nat) (r:Row),rs[k]? = some r->G<=r.src∧r.c.all (okD 6)=true∧∃c1,H1.get r.src=some (.cells c1 r.e r.ro)∧GJ (mtV (Qbo G rs) 6) c1 r.c=true
 inj:∀ (j k:Nat) (r r':Row),rs[j]? = some r->rs[k]? = some r'->j≠k->r.src≠r'.src
def Wv.turn {P:Program}{ρ ρ':Ren}{i:ZD}{w:World}{c u:List Value}{e:TypeId}{ro:Bool}(h:Wv P ρ i w (.cells c e ro))(ae:u.length=c.length)
  (ag:∀ (j:Nat) x y z,c[j]? = some x->u[j]? = some y->V ρ x z->V ρ' y z):Wv P ρ' i w (.cells u e ro):=by
 have hx:∀ (j:Nat) y,u[j]? = some y->∃x,c[j]? = some x:=λj y aa=>by
  have:j<c.length:=by rw[<- ae];exact(Lk.1 aa).1
  exact⟨c[j],La this⟩
 cases ro with
 | true=>
  refine⟨h.1,λj y aa=>?_⟩;obtain⟨x,ab⟩:=hx j y aa;obtain⟨z,ac,ad⟩:=h.2 j x ab;exact⟨z,ac,ag j x y z ab aa ad⟩
 | false=>
  obtain⟨ah,ai,an,ac,ad,ao,aj,ak,al,am⟩:=h;refine⟨ah,ai,an,ac,ad,by omega,λj y aa=>?_,ak,by rw[ae];exact al,am⟩;obtain⟨x,ab⟩:=hx j y aa;obtain⟨z,g1,g2⟩:=aj j x ab;exact⟨z,g1,ag j x y z ab aa g2⟩
def V.closed_eq {ρ:Ren}{v ae:Value}(h:V ρ v ae)(ad:Xq v=true):ae=v:=by
 have ag:∀xs aa:Array Value,xs.all Ab.plain=true->xs.size=aa.size->(∀ (j:Nat) x x',xs[j]? = some x->aa[j]? = some x'->V ρ x x')->aa=xs:=λxs aa hx ah ai=>by
  apply Array.ext ah.symm;intro j ac ab;have:=ai j xs[j] aa[j] (Ng ab) (Ng ac);exact this.plain_eq (B1.1 hx _ (Array.getElem_mem ab))
 cases h with
 | same v aj=>rfl
 | agg xs aa ac ab=>rw[ag xs aa ad ac ab]
 | tuple xs aa ac ab=>rw[ag xs aa ad ac ab]
 | iface t v ae h=>rw[h.plain_eq ad]
 | _=>simp[Xq,Ab.plain]at ad
def QK5 {P:Program}{f:FuncId}{args:List Value}{v u:Value}{B H1:Qa}(hB:QIC P.globals.size B)(bi:Qce P f args B (.ret v) H1)(ba:args.all Xq=true)
  {rs:List Row} (bu:mtV (Qbo P.globals.size rs) 6 v u=true) (br:okD 6 u=true) (ay:QzO P.globals.size H1 rs) (H:Qa) (aZ:∀id b,B.get id=some b->H.get id=some b):
  Qce P f args H (.ret (shV P.globals.size (H.y - P.globals.size) 6 u)) (Qp1 P.globals.size rs H):=by
 intro ρ w args' hs hargs;obtain⟨aY,aF⟩:=hB;have b3:P.globals.size<=H.y:=by
  rcases B6 P.globals.size with h | h;·omega
  obtain⟨i,hi,_⟩:=hs.glob (P.globals.size - 1) (by omega);have:=hs.dom _ _ hi;omega
 have bc:VL (Wk ρ P.globals.size) args args':=⟨hargs.1,λj x x' e e'=>by
  have aA:Xq x=true:=Li.1 ba x (Ln e);rw[(hargs.2 j x x' e e').closed_eq aA];exact .closed aA⟩
 have bq:Sim P (Wk ρ P.globals.size) B w:=by
  refine⟨λid j h=>by rw[aY];exact(W1 h).1,λid b i aa hi=>?_,λah ai b1 aE ao ap ad ae ac aj aB=>?_,λg aC=>?_⟩;·obtain⟨c,e,rfl,bd⟩:=aF id b aa;have:=hs.live id _ i (aZ id _ aa) (W1 hi).2;refine⟨this.1,λj u ax=>?_⟩;obtain⟨b4,ad,ae⟩:=this.2 j u ax;have aA:plain u=true:=Li.1 bd u (Ln ax);rw[ae.plain_eq aA]at ad;exact⟨u,ad,.same u aA⟩
  ·obtain⟨c,e,rfl,_⟩:=aF ah b1 ad;cases aB
  obtain⟨j,ax,e⟩:=hs.glob g aC;exact⟨j,X7 aC ax,e⟩
 refine(bi _ w args' bq bc).mono ?_;rintro e w' ⟨ρ1,aP,an,aQ⟩;have aO:∀id b,B.get id=some b->b.ro=true:=λid b h=>by obtain⟨c,e,rfl,_⟩:=aF id b h;rfl
 have aR:∀b,b<w.heap.size->w'.heap[b]? = w.heap[b]? := λb aa=>an.frame b aa (λid i bl _ ae ac=>by rw[aO id bl ae]at ac;cases ac);have aM:∀id i,ρ1 id=some i->P.globals.size<=id->w.heap.size<=i.at_.block:=λid i h ag=>by
  have bn:Wk ρ P.globals.size id=none:=by unfold Wk;rw[Le (by omega)]
  rcases(an.fresh id i h bn).2 with h | ⟨id0,aV,b0,_,_,ac,aj⟩;·exact h
  rw[aO id0 b0 ac]at aj;cases aj
 have aG:∀id,Nat.blt id P.globals.size=decide (id<P.globals.size):=λid=>by
  cases aa:Nat.blt id P.globals.size with
  | false=>
   by_cases h:id<P.globals.size
   ·have:Nat.blt id P.globals.size=true:=by simpa using h
    rw[aa]at this;cases this
   simp[h]
  | true=>simp only[B5]at aa;simp[aa]
 generalize bx:H.y - P.globals.size=δ;have bp:∀id,shN P.globals.size δ id=if id<P.globals.size then id else id+δ:=λid=>by
  unfold shN;rw[aG];by_cases h:id<P.globals.size<;>simp[h]
 -- the blocks by their new numbers
 let ρc:Ren:=λb=>(Qbo P.globals.size rs b).bind ρ1
 let ρ':Ren:=λid=>if id<H.y then ρ id else ρc (id - δ)
 have bg:∀a b i,Qbo P.globals.size rs b=some a->ρ1 a=some i->ρc b=some i:=λa b i h h'=>by simp only[ρc,h,R8,h']
 have bh:∀b i,ρc b=some i->P.globals.size<=b->∃r,rs[b - P.globals.size]? = some r∧ρ1 r.src=some i:=λb i h aa=>by
  simp only[ρc,Qbo,aG,show ¬b<P.globals.size by omega,NE,Ls]at h;cases ab:rs[b - P.globals.size]? with
  | none=>rw[ab]at h;cases h
  | some r=>rw[ab]at h;exact⟨r,rfl,h⟩
 have bm:∀b i,ρc b=some i->ρ' (shN P.globals.size δ b)=some i:=λb i h=>by
  rw[bp]
  by_cases aa:b<P.globals.size;·simp only[aa,N3,ρ'];rw[Lc (by omega)];simp only[ρc,Qbo,aG,aa,Nf,Lq,R8]at h;obtain⟨aV,aL,_⟩:=hs.glob b aa;have:=an.mono b aV (X7 aa aL);rw[h]at this;cases this;exact aL
  simp only[aa,LN,ρ'];rw[Le (by omega),show b+δ - δ=b by omega];exact h
 have aS:∀ {x y z:Value},mtV (Qbo P.globals.size rs) 6 x y=true->okD 6 y=true->V ρ1 x z->V ρ' (shV P.globals.size δ 6 y) z:=λad ae ac=>QK4 bm 6 (QBd bg 6 ad ac) ae;have aJ:Sub ρ ρ':=λid i h=>by
  simp only[ρ'];rw[Lc (hs.dom id i h)];exact h
 have aK:∀id,(Qp1 P.globals.size rs H).get id=if H.y<=id∧id<H.y+rs.length then(rs[id - H.y]?).map (Row.blk P.globals.size δ) else H.get id:=λid=>by
  unfold Qp1;rw[Qun,bx]
 have aN:(Qp1 P.globals.size rs H).y=H.y+rs.length:=by unfold Qp1;exact QrB rs H
 have bj:∀id,H.y<=id->id - δ - P.globals.size=id - H.y:=λid h=>by omega
 have av:∀id i,ρ' id=some i->H.y<=id->∃r,rs[id - H.y]? = some r∧ρ1 r.src=some i:=λid i hi ag=>by
  simp only[ρ']at hi;rw[Le (by omega)]at hi;have:=bh (id - δ) i hi (by omega);rwa [bj id ag]at this
 have az:∀id i,ρ' id=some i->id<H.y->ρ id=some i:=λid i hi ag=>by
  simp only[ρ']at hi;rwa [Lc ag]at hi
 have au:∀id,id<H.y->(Qp1 P.globals.size rs H).get id=H.get id:=λid ag=>by rw[aK,Le (by omega)]
 have aH:∀id r,H.y<=id->rs[id - H.y]? = some r->(Qp1 P.globals.size rs H).get id=some (r.blk P.globals.size δ):=λid r ag ab=>by
  have:=(Lk.1 ab).1;rw[aK,Lc ⟨ag,by omega⟩,ab];rfl
 refine⟨ρ',?_,⟨aJ,by rw[aN];omega,λid i h h'=>?_,λid i b b' h ad ae ac=>?_,λid i h h'=>?_,an.os,an.tape,an.output,an.size,λb aa _=>aR b aa⟩,
  ⟨λid i h=>?_,λid b i aa hi=>?_,λah ai b1 aE ao ap ad ae ac aj aB aX=>?_,λg aC=>?_⟩⟩
 ·cases e with
  | returned b5=>exact aS bu br aP
  | _=>exact aP.elim
 ·rw[au id (hs.dom id i h)];exact h'
 ·rw[au id (hs.dom id i h),ad]at ac;cases ac;exact ae
 ·have ag:H.y<=id:=by
   rcases Nq id H.y with al | ak;·rw[az id i h al]at h';cases h'
   exact ak
  obtain⟨r,ab,am⟩:=av id i h ag;exact⟨ag,.inl (aM r.src i am (ay.row _ r ab).1)⟩
 ·rw[aN];rcases Nq id H.y with al | ak;·omega
  obtain⟨r,ab,_⟩:=av id i h ak;have:=(Lk.1 ab).1;omega
 ·rcases Nq id H.y with al | ak;·rw[au id al]at aa;have ab:=hs.live id b i aa (az id i hi al);exact ab.mono aJ (aR _ ab.lt)
  obtain⟨r,ab,am⟩:=av id i hi ak;rw[aH id r ak ab]at aa;cases aa;obtain⟨g1,g2,c1,g3,g4⟩:=ay.row _ r ab;obtain⟨bz,b2⟩:=Qfb g4;refine(aQ.live r.src _ i g3 am).turn (by simp[bz]) λj x y z hx aT bw=>?_;simp only[LD,Lx]at aT;obtain⟨aW,aU,rfl⟩:=aT;exact aS (b2 j x aW hx aU) (Li.1 g2 aW (Ln aU)) bw
 ·have old:∀id b i,id<H.y->(Qp1 P.globals.size rs H).get id=some b->ρ' id=some i->i.at_.block<w.heap.size:=λid b i al aa hi=>by
   rw[au id al]at aa;exact(hs.live id b i aa (az id i hi al)).lt
  have new:∀id i,H.y<=id->ρ' id=some i->w.heap.size<=i.at_.block:=λid i ak hi=>by
   obtain⟨r,ab,am⟩:=av id i hi ak;exact aM r.src i am (ay.row _ r ab).1
  rcases Nq ah H.y with aq | aq<;>rcases Nq ai H.y with ar | ar;·rw[au ah aq]at ad;rw[au ai ar]at ae;exact hs.sep ah ai b1 aE ao ap ad ae (az ah ao ac aq) (az ai ap aj ar) aB aX
  ·have a1:=old ah b1 ao aq ad ac;have a2:=new ai ap ar aj;omega
  ·have a1:=new ah ao aq ac;have a2:=old ai aE ap ar ae aj;omega
  obtain⟨r,ab,am⟩:=av ah ao ac aq;obtain⟨aD,aI,bo⟩:=av ai ap aj ar;rw[aH ah r aq ab]at ad;rw[aH ai aD ar aI]at ae;cases ad;cases ae;obtain⟨_,_,c1,g3,_⟩:=ay.row _ r ab;obtain⟨_,_,c2,g4,_⟩:=ay.row _ aD aI;exact aQ.sep r.src aD.src _ _ ao ap g3 g4 am bo aB (ay.inj _ _ r aD ab aI (by omega))
 obtain⟨j,ax,e⟩:=hs.glob g aC;exact⟨j,aJ _ _ ax,e⟩
/-! ### Tables, and calls that are known -/
structure Tab where
 id:Nat
 c:List Value
 e:TypeId
def Xs (G:Nat)(tabs:List Tab):Qa:=⟨G,tabs.foldr (λt tr=>tr.set t.id (some (.cells t.c t.e true))) .nil⟩
def Yh {G:Nat}:∀ {tabs:List Tab} {id:Nat} {b:Blk},(Xs G tabs).get id=some b->∃t∈tabs,id=t.id∧b=.cells t.c t.e true
 | [],id,b,h=>by cases h
 | t::ts,id,b,h=>by
  have h:((Xs G ts).tr.set t.id (some (.cells t.c t.e true))).get id=some b:=h;rw[Tr.get_set]at h
  by_cases e:id=t.id;·rw[Lc e]at h;cases h;exact⟨t,Ny ..,e,rfl⟩
  rw[Le e]at h;obtain⟨ad,aa,ab,ac⟩:=Yh (G:=G) (tabs:=ts) (id:=id) (b:=b) h;exact⟨ad,NA _ aa,ab,ac⟩
def tabsOk (tabs:List Tab):Bool:=tabs.all λt=>t.c.all plain
def QEr {G:Nat}{tabs:List Tab}(h:tabsOk tabs=true):QIC G (Xs G tabs):=
 ⟨rfl,λid b ac=>by
  obtain⟨t,aa,_,ab⟩:=Yh ac;exact⟨t.c,t.e,ab,Li.1 h t aa⟩⟩
def QID (t:Tab)(b:Option Blk):Bool:=
 match b with
 | some (.cells c e true)=>Nat.beq e t.e&&GJ (Qch 8) c t.c
 | _=>false
def Qco (tabs:List Tab)(H:Qa):Bool:=tabs.all λt=>QID t (H.get t.id)
def Qls {G:Nat}{tabs:List Tab}{H:Qa}(h:Qco tabs H=true):∀id b,(Xs G tabs).get id=some b->H.get id=some b:=λid b ad=>by
 obtain⟨t,aa,ab,ac⟩:=Yh ad;have:=Li.1 h t aa;subst ab;subst ac;unfold QID at this;split at this;·rename_i c e ae;simp only[Lm,Zn,Lv]at this;rw[ae,this.1,QjE (GP 8) _ _ this.2]
 cases this
def Qve:List Row->Bool
 | r::aa::rs=>Nat.blt r.src aa.src&&Qve (aa::rs)
 | _=>true
def Qca:∀ (rs:List Row),Qve rs=true->∀ (j k:Nat) (r aa:Row),rs[j]? = some r->rs[k]? = some aa->j<k->r.src<aa.src
 | [],_,j,k,r,aa,h,_,_=>by simp at h
 | [x],_,j,k,r,aa,h,h',hjk=>by
  have:=(Lk.1 h').1;simp at this;omega
 | x::y::rs,hr,j,k,r,aa,h,h',hjk=>by
  simp only[Qve,Lm,B5]at hr;cases k with
  | zero=>omega
  | succ k=>
   have ab:(y::rs)[k]? = some aa:=by simpa using h'
   cases j with
   | zero=>
    simp at h;subst h;cases k with
    | zero=>simp at ab;subst ab;exact hr.1
    | succ k=>exact Nat.lt_trans hr.1 (Qca (y::rs) hr.2 0 (k+1) y aa (by simp) ab (by omega))
   | succ j=>exact Qca (y::rs) hr.2 j k r aa (by simpa using h) ab (by omega)
def QzP (G:Nat)(σ:Nat->Option Nat)(H1:Qa)(r:Row):Bool:=
 Nat.ble G r.src&&r.c.all (okD 6)&&match H1.get r.src with
  | some (.cells c1 e ro)=>Nat.beq e r.e&&(ro==r.ro)&&GJ (mtV σ 6) c1 r.c
  | _=>false
def Qpu (G:Nat)(u:Value)(rs:List Row)(r:Option (Value×Qa)):Bool:=
 match r with
 | some (v,H1)=>mtV (Qbo G rs) 6 v u&&okD 6 u&&Qve rs&&rs.all (QzP G (Qbo G rs) H1)
 | none=>false
def Qxb {P:Program}{ad:CallF}(an:CallOk P ad){F G k:Nat}{f:FuncId}{args:List Value}{tabs:List Tab}{u:Value}{rs:List Row}(al:entered P f=true)(ak:args.all Xq=true)(aq:tabsOk tabs=true)
  (h:Qpu P.globals.size u rs ((run P ad F G k).fn f args (Xs P.globals.size tabs))=true) (H:Qa) (aj:Qco tabs H=true):
  Qce P f args H (.ret (shV P.globals.size (H.y - P.globals.size) 6 u)) (Qp1 P.globals.size rs H):=by
 unfold Qpu at h;split at h
 ·rename_i v H1 ap;simp only[Lm]at h;obtain⟨⟨⟨ag,ah⟩,ab⟩,ai⟩:=h;refine QK5 (QEr aq) (((Qe1 an k).fn f args _ v H1 ap).does al) ak ag ah ⟨λj r aa=>?_,λj m r ae aa ac au=>?_⟩ H (Qls aj)
  ·have:=Li.1 ai r (Ln aa);unfold QzP at this;simp only[Lm,BL]at this;obtain⟨⟨g1,g2⟩,g3⟩:=this;refine⟨g1,g2,?_⟩;split at g3;·rename_i c1 e ro am;simp only[Lm,Zn,Lv,L0]at g3;exact⟨c1,by rw[am,g3.1.1,g3.1.2],g3.2⟩
   cases g3
  rcases Nq j m with ao | ar;·have:=Qca rs ab j m r ae aa ac ao;omega
  have:=Qca rs ab m j ae r ac aa (by omega);omega
 cases h
structure QG4 where
 f:FuncId
 args:List Value
 u:Value
 rs:List Row
def QK6 (P:Program)(tabs:List Tab)(s:QG4):Prop:=
 entered P s.f=true∧∀H,Qco tabs H=true->Qce P s.f s.args H (.ret (shV P.globals.size (H.y - P.globals.size) 6 s.u)) (Qp1 P.globals.size s.rs H)
def Qvf (G:Nat)(tabs:List Tab)(f:FuncId)(args:List Value)(H:Qa):List QG4->Option (Value×Qa)
 | []=>none
 | s::ss=>bif Nat.beq f s.f&&GJ (Qch 8) args s.args&&Qco tabs H then some (shV G (H.y - G) 6 s.u,Qp1 G s.rs H) else Qvf G tabs f args H ss
def Quo {P:Program}{tabs:List Tab}:∀ {ss:List QG4},(∀s∈ss,QK6 P tabs s)->CallOk P (λf args H=>Qvf P.globals.size tabs f args H ss)
 | [],_,f,args,H,v,H',h=>by cases h
 | s::ss,hs,f,args,H,v,H',h=>by
  simp only[Qvf]at h;cases aa:(Nat.beq f s.f&&GJ (Qch 8) args s.args&&Qco tabs H) with
  | false=>
   rw[aa]at h;exact Quo (ss:=ss) (λab h'=>hs ab (NA _ h')) f args H v H' h
  | true=>
   rw[aa]at h;simp only[Lq,Lt,LB]at h;obtain⟨rfl,rfl⟩:=h;simp only[Lm,Zn,Lv]at aa;obtain⟨⟨e1,e2⟩,e3⟩:=aa;obtain⟨g1,g2⟩:=hs s (Ny ..);subst e1;rw[QjE (GP 8) _ _ e2];exact .inl ⟨g1,g2 H e3⟩
def G6 (a b:CallF):CallF:=λf args H=>Option.rec (motive:=λ_=>Option (Value×Qa)) (b f args H) some (a f args H)
def orKnown_ok {P:Program}{a b:CallF}(ab:CallOk P a)(ac:CallOk P b):CallOk P (G6 a b):=by
 intro f args H v H' h;unfold G6 at h;cases aa:a f args H with
 | some r=>rw[aa]at h;cases h;exact ab f args H v H' aa
 | none=>rw[aa]at h;exact ac f args H v H' h
end Go.Ab
namespace Go.Ab
open Go.RowKit
section
variable {P:Program}
def globR (P:Program):Ren:=λg=>if g<P.globals.size then some ⟨⟨g,0,none⟩,0,0⟩ else none
def H0 (P:Program):Qa:=⟨P.globals.size,.nil⟩
def QJr (P:Program)(id:Nat):(H0 P).get id=none:=rfl
def St.below {ρ ρ':Ren}{H H':Qa}{w w':World}(h:St ρ H w ρ' H' w')(ad:∀id b,H.get id=some b->b.ro=true):Below w.heap.size w w':=
 ⟨h.os,h.tape,h.output,h.size,λb ac=>h.frame b ac (λid i bl _ ab aa=>by rw[ad id bl ab]at aa;cases aa)⟩
def Qxc {f:FuncId}{args:List Value}{v:Value}{H1:Qa}(aj:Qce P f args (H0 P) (.ret v) H1)(ag:args.all plain=true)(ae:plain v=true)(H:Qa):Qce P f args H (.ret v) H:=by
 intro ρ w args' hs hargs;have ah:VL (Wk ρ P.globals.size) args args':=⟨hargs.1,λj x x' e e'=>by
  have ad:plain x=true:=Li.1 ag x (Ln e);rw[(hargs.2 j x x' e e').plain_eq ad];exact .same x ad⟩
 have am:Sim P (Wk ρ P.globals.size) (H0 P) w:=Sim.empty (λid j h=>(W1 h).1) (λg ab=>by
  obtain⟨j,ak,e⟩:=hs.glob g ab;exact⟨j,X7 ab ak,e⟩)
 refine(aj _ w args' am ah).mono ?_;rintro e w' ⟨ρ',ac,an,ap⟩;have aa:=an.below (λid b h=>by rw[QJr]at h;cases h);refine⟨ρ,?_,⟨.refl ρ,Lb _,λ_ _ _ h=>h,λ_ _ b b' _ h al h'=>(by rw[h]at h';cases h';exact al),λid i h h'=>(by rw[h']at h;cases h),aa.os,aa.tape,aa.output,aa.size,λb ai _=>aa.block b ai⟩,
  ⟨hs.dom,λid b i h h'=>(hs.live id b i h h').mono (.refl ρ) (aa.block _ (hs.live id b i h h').lt),hs.sep,hs.glob⟩⟩
 cases e with
 | returned ao=>
  have:ao=v:=V.plain_eq ac ae;subst this;exact .same _ ae
 | _=>exact ac.elim
def Qtc {f:FuncId}{args args':List Value}{v:Value}{H H':Qa}(ac:Qce P f args H (.ret v) H'){ρ:Ren}{w:World}(ae:Sim P ρ H w)(ab:VL ρ args args')(ah:plain v=true)(ad:∀id b,H.get id=some b->b.ro=true):
  Calls P f args'.toArray w λe w'=>e=.returned v∧Below w.heap.size w w':=by
 refine(ac ρ w args' ae ab).mono ?_;rintro e w' ⟨ρ',aa,ag,ai⟩;refine⟨?_,ag.below ad⟩;cases e with
 | returned aj=>rw[V.plain_eq aa ah]
 | _=>exact aa.elim
def sim_tabs {tabs:List Tab}{w:World}(ae:∀t∈tabs,t.id<w.heap.size)(ag:∀t∈tabs,∀ (j:Nat) v,t.c[j]? = some v->w.cell? ⟨t.id,j,none⟩=some v)(ah:tabsOk tabs=true):
  Sim P (globR P) (Xs P.globals.size tabs) w:=by
 refine⟨λid j h=>(by unfold globR at h;split at h;(assumption);cases h),λid b i ab hi=>?_,λao ap b1 ai am an aa aj ak al ad=>?_,λg ab=>⟨_,(by unfold globR;rw[Lc ab]),rfl⟩⟩
 ·obtain⟨t,aa,rfl,rfl⟩:=Yh ab;unfold globR at hi;split at hi;·cases hi;refine⟨ae t aa,λj v ac=>⟨v,?_,.same v (Li.1 (Li.1 ah t aa) v (Ln ac))⟩⟩;rw[Qaq,LP];exact ag t aa j v ac
  cases hi
 obtain⟨t,_,_,rfl⟩:=Yh aa;cases ad
def post_below {H:Type}{enc:TypeId×Value->H}{f:Func}{s:ChangeSpec}{fresh ah:Bool}{W W':World}{args:Array Value}{v:Value}{aa gs:List (DataW H)}{ac ad ae:List MemPlace}
  (ag:DataW.Whole enc P f.params.toList s.vars false W args.toList aa gs ac)
  (ak:∀ (b:Nat) (am:Nat->Bool) (aj:Bool),DataW.TrodAll enc P W' b am aj f.resultTypes.toList (v.resultList f.resultTypes.size) (s.fn H (aa++gs)).results [])
  (ai:DataW.TrodAll enc P W' 0 (λb=>decide (b<W.heap.size)) true f.params.toList args.toList (s.fn H (aa++gs)).args ad)
  (al:DataW.TrodVars enc P W' (λb=>decide (b<W.heap.size)) s.vars (s.fn H (aa++gs)).vars ae) (ab:Below W.heap.size W W'):
  s.post enc P f false fresh ah false W args v W':=by
 refine⟨aa,gs,ac,[],ad,ae,ag,ak _ _ _,ai,al,⟨ab.os,ab.output,λi hi=>?_⟩,λh=>by cases h⟩;rw[ab.block i hi];cases hx:W.heap[i]? with
 | none=>simp
 | some o=>cases o<;>simp
end
def QhV (ρ:Ren)(τ:Nat->Nat)(n:Nat):Ren:=λid=>if id<n then ρ (τ id) else none
def Qfc {ρ:Ren}{τ:Nat->Nat}{n id:Nat}{i:ZD}(h:QhV ρ τ n id=some i):id<n∧ρ (τ id)=some i:=by
 unfold QhV at h;split at h;·rename_i aa;exact⟨aa,h⟩
 cases h
def Qgr (τ:Nat->Nat)(n:Nat)(x y:Value):Prop:=∀ρ v,V ρ y v->V (QhV ρ τ n) x v
def Qgr.plain {τ:Nat->Nat}{n:Nat}{x:Value}(h:plain x=true):Qgr τ n x x:=λρ v aa=>by
 rw[aa.plain_eq h];exact .same x h
def Qgr.slice {τ:Nat->Nat}{n id o l c:Nat}(h:id<n):Qgr τ n (.slice (some ⟨id,o,none⟩) l c) (.slice (some ⟨τ id,o,none⟩) l c):=λρ v ak=>by
 cases ak with
 | same _ aj=>simp[Ab.plain]at aj
 | slice _ _ _ _ ab i aa ac ad ae ag ah ai=>exact .slice id o l c ab i aa (by unfold QhV;rw[Lc h];exact ac) ad ae ag ah ai
def Qgr.ptr {τ:Nat->Nat}{n id o:Nat}(h:id<n):Qgr τ n (.pointer (some ⟨id,o,none⟩)) (.pointer (some ⟨τ id,o,none⟩)):=λρ v ac=>by
 cases ac with
 | same _ ab=>simp[Ab.plain]at ab
 | ptr _ _ i aa=>exact .ptr id o i (by unfold QhV;rw[Lc h];exact aa)
def Qgr.agg {τ:Nat->Nat}{n:Nat}{xs aa:List Value}(ae:xs.length=aa.length)(h:∀ (j:Nat) x y,xs[j]? = some x->aa[j]? = some y->Qgr τ n x y):Qgr τ n (.agg xs.toArray) (.agg aa.toArray):=λρ v ah=>by
 cases ah with
 | same _ ag=>simp[Ab.plain]at ag
 | agg _ vs ac ad=>
  refine .agg _ vs (by simpa[ae] using ac) λj x x' hx ai=>?_;have ab:j<aa.length:=by
   have:=(Nj.1 hx).1;simp at this;omega
  exact h j x aa[j] (by simpa using hx) (La ab) ρ x' (ad j _ x' (by simp[ab]) ai)
def shW (aa:Nat->Nat):Nat->Value->Value
 | 0,v=>v
 | f+1,v=>match v with
  | .pointer (some a)=>.pointer (some ⟨aa a.block,a.off,a.spot⟩)
  | .slice (some a) l c=>.slice (some ⟨aa a.block,a.off,a.spot⟩) l c
  | .map (some r)=>.map (some (aa r))
  | .iface t v=>.iface t (shW aa f v)
  | .agg xs=>.agg (xs.toList.map (shW aa f)).toArray
  | .tuple xs=>.tuple (xs.toList.map (shW aa f)).toArray
  | .func fn xs ab=>.func fn (xs.toList.map (shW aa f)).toArray (ab.toList.map (shW aa f)).toArray
  | v=>v
def Qup (aa:Nat->Nat):∀ (f:Nat) (v:Value),plain v=true->shW aa f v=v
 | 0,v,_=>rfl
 | f+1,v,h=>by
  unfold shW;split<;>first | (simp[plain]at h;done) | rfl
def QK7 {ρ ρ':Ren}{ah:Nat->Nat}(ak:∀id i,ρ id=some i->ρ' (ah id)=some i):∀ (f:Nat) {v ae:Value},V ρ v ae->okD f v=true->V ρ' (shW ah f v) ae:=by
 intro f
 induction f with
 | zero=>
  intro v ae h ab;rw[h.plain_eq ab];exact .same _ ab
 | succ f an=>
  intro v ae h ab;have ai:∀ (xs aa:Array Value),xs.size=aa.size->(∀ (j:Nat) x x',xs[j]? = some x->aa[j]? = some x'->V ρ x x')->xs.toList.all (okD f)=true->
    (xs.toList.map (shW ah f)).toArray.size=aa.size∧∀ (j:Nat) x x',(xs.toList.map (shW ah f)).toArray[j]? = some x->aa[j]? = some x'->V ρ' x x':=by
   intro xs aa ac ad ag;refine⟨by simp[ac],λj x x' e e'=>?_⟩;simp only[List.getElem?_toArray,LD,Bl,Lx]at e;obtain⟨y,am,rfl⟩:=e;exact an (ad j y x' am e') (Li.1 ag y (by simpa using BB am))
  cases h with
  | same v al=>rw[Qup ah (f+1) v al];exact .same v al
  | ptr id off i h=>exact .ptr _ off i (ak id i h)
  | slice id off len cap aq i ap h ac ad ar ag aj=>exact .slice _ off len cap aq i ap (ak id i h) ac ad ar ag aj
  | map id i h=>exact .map _ i (ak id i h)
  | func fn xs ay aa ao au ac ad ag aj=>
   simp only[okD,Lm]at ab;obtain⟨p1,p2⟩:=ai xs aa ac ag ab.1.2;obtain⟨av,ax⟩:=ai ay ao ad aj ab.2;exact .func fn _ _ aa ao au p1 av p2 ax
  | yield l i h=>simp[okD,QbT]at ab
  | iface t v ae h=>exact .iface t _ ae (an h ab)
  | agg xs aa ac ad=>
   obtain⟨p1,p2⟩:=ai xs aa ac ad ab;exact .agg _ aa p1 p2
  | tuple xs aa ac ad=>
   obtain⟨p1,p2⟩:=ai xs aa ac ad ab;exact .tuple _ aa p1 p2
def Row.blkW (aa:Nat->Nat)(r:Row):Blk:=.cells (r.c.map (shW aa 6)) r.e r.ro
def G7 (aa:Nat->Nat):List Row->Qa->Qa
 | [],H=>H
 | r::rs,H=>G7 aa rs (H.push (r.blkW aa))
def Qgs {aa:Nat->Nat}:∀ (rs:List Row) (H:Qa),(G7 aa rs H).y=H.y+rs.length
 | [],H=>rfl
 | r::rs,H=>by simp only[G7,Qgs rs,Qd,Lo];omega
def Qfd {ac:Nat->Nat}:∀ (rs:List Row) (H:Qa) (id:Nat),(G7 ac rs H).get id=if H.y<=id∧id<H.y+rs.length then(rs[id - H.y]?).map (Row.blkW ac) else H.get id
 | [],H,id=>by simp only[G7,L9];rw[Le (by omega)]
 | r::rs,H,id=>by
  simp only[G7,Qfd rs,Qd,Lo,Qc]
  by_cases aa:id=H.y;·subst aa;rw[Le (by omega),Lc rfl,Lc ⟨by omega,by omega⟩];simp
  by_cases ab:H.y+1<=id∧id<H.y+1+rs.length;·rw[Lc ab,Lc ⟨by omega,by omega⟩,show id - H.y=(id - (H.y+1))+1 by omega];simp
  rw[Le ab,Le aa,Le (by omega)]
def shM (τ:Nat->Nat)(M n id:Nat):Nat:=bif Nat.blt id M then τ id else n+(id - M)
def Qgt (τ:Nat->Nat)(M b:Nat):Option Nat:=bif Nat.blt b M then some (τ b) else none
def QjL (a b:Nat):Nat.blt a b=decide (a<b):=by
 cases aa:Nat.blt a b with
 | false=>
  by_cases h:a<b
  ·have:Nat.blt a b=true:=by simpa using h
   rw[aa]at this;cases this
  simp[h]
 | true=>simp only[B5]at aa;simp[aa]
def Qxd {ρ:Ren}{τ:Nat->Nat}{n a b:Nat}{i:ZD}(h:Qgt τ n b=some a)(h':ρ a=some i):QhV ρ τ n b=some i:=by
 unfold Qgt at h;rw[QjL]at h;unfold QhV
 by_cases aa:b<n;·simp only[aa,Nf,Lq,Lt]at h;rw[Lc aa,h];exact h'
 simp only[aa,NE,Ls]at h;cases h
def QG5 {τ:Nat->Nat}{n f:Nat}{x y:Value}(h:mtV (Qgt τ n) f y x=true):Qgr τ n x y:=λρ v aa=>QBd (λa b i=>Qxd) f h aa
def QJs {P:Program}{f:FuncId}{args args2:List Value}{v u:Value}{B H1:Qa}{τ:Nat->Nat}(bh:Qce P f args B (.ret v) H1)(aI:P.globals.size<=B.y)(bw:∀g,g<P.globals.size->τ g=g)
  {rs:List Row} (br:mtV (Qbo B.y rs) 6 v u=true) (bq:okD 6 u=true) (ay:QzO B.y H1 rs) (H:Qa)
  (hB:∀id b,B.get id=some b->∃c e c2 e2 ro,b=.cells c e true∧H.get (τ id)=some (.cells c2 e2 ro)∧c.length=c2.length∧∀ (j:Nat) x y,c[j]? = some x->c2[j]? = some y->Qgr τ B.y x y)
  (aX:GJ (mtV (Qgt τ B.y) 6) args2 args=true):
  Qce P f args2 H (.ret (shW (shM τ B.y H.y) 6 u)) (G7 (shM τ B.y H.y) rs H):=by
 intro ρ w args' hs hargs;have bc:=λa b i=>Qxd (ρ:=ρ) (τ:=τ) (n:=B.y) (a:=a) (b:=b) (i:=i);obtain⟨aY,ba⟩:=Qfb aX;have aZ:VL (QhV ρ τ B.y) args args':=⟨by rw[<- aY];exact hargs.1,λj x x' e e'=>by
  have aj:j<args2.length:=by have:=(Lk.1 e).1;omega
  exact QBd bc 6 (ba j args2[j] x (La aj) e) (hargs.2 j _ x' (La aj) e')⟩
 have aF:∀id b,B.get id=some b->b.ro=true:=λid b h=>by obtain⟨c,e,c2,e2,ro,rfl,_⟩:=hB id b h;rfl
 have bp:Sim P (QhV ρ τ B.y) B w:=by
  refine⟨λid j h=>(Qfc h).1,λid b i ab hi=>?_,λag ak b1 aC aq ar ae ac ad al az=>?_,λg ah=>?_⟩
  ·obtain⟨c,e,c2,e2,ro,rfl,bi,b3,hx⟩:=hB id b ab;have aa:=hs.live _ _ i bi (Qfc hi).2;refine⟨aa.lt,λj u aj=>?_⟩;have aK:j<c2.length:=by have:=(Lk.1 aj).1;omega
   obtain⟨aU,ae,ac⟩:=aa.cellAt (La aK);exact⟨aU,ae,hx j u c2[j] aj (La aK) ρ aU ac⟩
  ·rw[aF ag b1 ae]at az;cases az
  obtain⟨j,aj,e⟩:=hs.glob g ah;refine⟨j,?_,e⟩;unfold QhV;rw[Lc (by omega),bw g ah];exact aj
 refine(bh _ w args' bp aZ).mono ?_;rintro e w' ⟨ρ1,aN,ao,aO⟩;have aP:∀b,b<w.heap.size->w'.heap[b]? = w.heap[b]? := λb ab=>ao.frame b ab (λid i bl _ ac ad=>by rw[aF id bl ac]at ad;cases ad);have aL:∀id i,ρ1 id=some i->B.y<=id->w.heap.size<=i.at_.block:=λid i h ai=>by
  have bm:QhV ρ τ B.y id=none:=by unfold QhV;rw[Le (by omega)]
  rcases(ao.fresh id i h bm).2 with h | ⟨id0,aT,b0,_,_,ad,al⟩;·exact h
  rw[aF id0 b0 ad]at al;cases al
 generalize b2:B.y=M at *;have bo:∀id,shM τ M H.y id=if id<M then τ id else H.y+(id - M):=λid=>by
  unfold shM;rw[QjL];by_cases h:id<M<;>simp[h]
 let ρc:Ren:=λb=>(Qbo M rs b).bind ρ1
 let ρ':Ren:=λid=>if id<H.y then ρ id else ρc (M+(id - H.y))
 have bd:∀a b i,Qbo M rs b=some a->ρ1 a=some i->ρc b=some i:=λa b i h h'=>by simp only[ρc,h,R8,h']
 have bg:∀b i,ρc b=some i->M<=b->∃r,rs[b - M]? = some r∧ρ1 r.src=some i:=λb i h ab=>by
  simp only[ρc,Qbo,QjL,show ¬b<M by omega,NE,Ls]at h;cases aa:rs[b - M]? with
  | none=>rw[aa]at h;cases h
  | some r=>rw[aa]at h;exact⟨r,rfl,h⟩
 have bj:∀b i,ρc b=some i->ρ' (shM τ M H.y b)=some i:=λb i h=>by
  rw[bo]
  by_cases ab:b<M
  ·simp only[ab,N3,ρ'];simp only[ρc,Qbo,QjL,ab,Nf,Lq,R8]at h;cases aE:QhV ρ τ M b with
   | none=>
    have:=(ao.fresh b i h aE).1;omega
   | some aT=>
    have:=ao.mono b aT aE;rw[h]at this;cases this;have ac:=(Qfc aE).2;rw[Lc (hs.dom _ _ ac)];exact ac
  simp only[ab,LN,ρ'];rw[Le (by omega),show M+(H.y+(b - M) - H.y)=b by omega];exact h
 have aQ:∀ {x y z:Value},mtV (Qbo M rs) 6 x y=true->okD 6 y=true->V ρ1 x z->V ρ' (shW (shM τ M H.y) 6 y) z:=λae ac ad=>QK7 bj 6 (QBd bd 6 ae ad) ac;have aH:Sub ρ ρ':=λid i h=>by
  simp only[ρ'];rw[Lc (hs.dom id i h)];exact h
 have aJ:∀id,(G7 (shM τ M H.y) rs H).get id=if H.y<=id∧id<H.y+rs.length then(rs[id - H.y]?).map (Row.blkW (shM τ M H.y)) else H.get id:=λid=>Qfd rs H id
 have aM:(G7 (shM τ M H.y) rs H).y=H.y+rs.length:=Qgs rs H;have ax:∀id i,ρ' id=some i->H.y<=id->∃r,rs[id - H.y]? = some r∧ρ1 r.src=some i:=λid i hi ai=>by
  simp only[ρ']at hi;rw[Le (by omega)]at hi;have:=bg _ i hi (by omega);rwa [show M+(id - H.y) - M=id - H.y by omega]at this
 have aA:∀id i,ρ' id=some i->id<H.y->ρ id=some i:=λid i hi ai=>by
  simp only[ρ']at hi;rwa [Lc ai]at hi
 have ah:∀id,id<H.y->(G7 (shM τ M H.y) rs H).get id=H.get id:=λid ai=>by rw[aJ,Le (by omega)]
 have aD:∀id r,H.y<=id->rs[id - H.y]? = some r->(G7 (shM τ M H.y) rs H).get id=some (r.blkW (shM τ M H.y)):=λid r ai aa=>by
  have:=(Lk.1 aa).1;rw[aJ,Lc ⟨ai,by omega⟩,aa];rfl
 refine⟨ρ',?_,⟨aH,by rw[aM];omega,λid i h h'=>?_,λid i b b' h ae ac ad=>?_,λid i h h'=>?_,ao.os,ao.tape,ao.output,ao.size,λb ab _=>aP b ab⟩,
  ⟨λid i h=>?_,λid b i ab hi=>?_,λag ak b1 aC aq ar ae ac ad al az aW=>?_,λg aI=>?_⟩⟩
 ·cases e with
  | returned b4=>exact aQ br bq aN
  | _=>exact aN.elim
 ·rw[ah id (hs.dom id i h)];exact h'
 ·rw[ah id (hs.dom id i h),ae]at ad;cases ad;exact ac
 ·have ai:H.y<=id:=by
   rcases Nq id H.y with an | am;·rw[aA id i h an]at h';cases h'
   exact am
  obtain⟨r,aa,ap⟩:=ax id i h ai;exact⟨ai,.inl (aL r.src i ap (ay.row _ r aa).1)⟩
 ·rw[aM];rcases Nq id H.y with an | am;·omega
  obtain⟨r,aa,_⟩:=ax id i h am;have:=(Lk.1 aa).1;omega
 ·rcases Nq id H.y with an | am;·rw[ah id an]at ab;have aa:=hs.live id b i ab (aA id i hi an);exact aa.mono aH (aP _ aa.lt)
  obtain⟨r,aa,ap⟩:=ax id i hi am;rw[aD id r am aa]at ab;cases ab;obtain⟨g1,g2,c1,g3,g4⟩:=ay.row _ r aa;obtain⟨bx,bz⟩:=Qfb g4;refine(aO.live r.src _ i g3 ap).turn (by simp[bx]) λj x y z hx aR bu=>?_;simp only[LD,Lx]at aR;obtain⟨aV,aS,rfl⟩:=aR;exact aQ (bz j x aV hx aS) (Li.1 g2 aV (Ln aS)) bu
 ·have old:∀id b i,id<H.y->(G7 (shM τ M H.y) rs H).get id=some b->ρ' id=some i->i.at_.block<w.heap.size:=λid b i an ab hi=>by
   rw[ah id an]at ab;exact(hs.live id b i ab (aA id i hi an)).lt
  have new:∀id i,H.y<=id->ρ' id=some i->w.heap.size<=i.at_.block:=λid i am hi=>by
   obtain⟨r,aa,ap⟩:=ax id i hi am;exact aL r.src i ap (ay.row _ r aa).1
  rcases Nq ag H.y with au | au<;>rcases Nq ak H.y with av | av;·rw[ah ag au]at ae;rw[ah ak av]at ac;exact hs.sep ag ak b1 aC aq ar ae ac (aA ag aq ad au) (aA ak ar al av) az aW
  ·have a1:=old ag b1 aq au ae ad;have a2:=new ak ar av al;omega
  ·have a1:=new ag aq au ad;have a2:=old ak aC ar av ac al;omega
  obtain⟨r,aa,ap⟩:=ax ag aq ad au;obtain⟨aB,aG,bn⟩:=ax ak ar al av;rw[aD ag r au aa]at ae;rw[aD ak aB av aG]at ac;cases ae;cases ac;obtain⟨_,_,c1,g3,_⟩:=ay.row _ r aa;obtain⟨_,_,c2,g4,_⟩:=ay.row _ aB aG;exact aO.sep r.src aB.src _ _ aq ar g3 g4 ap bn az (ay.inj _ _ r aB aa aG (by omega))
 obtain⟨j,aj,e⟩:=hs.glob g aI;exact⟨j,aH _ _ aj,e⟩
/-! ### Known calls -/
structure SumI where
 f:FuncId
 args:List Value
 ins:List (List Value×TypeId)
 u:Value
 rs:List Row
def QdN (H:Qa):List (List Value×TypeId)->Qa
 | []=>H
 | c::cs=>QdN (H.push (.cells c.1 c.2 true)) cs
def Qmq:∀ (l:List (List Value×TypeId)) (H:Qa),(QdN H l).y=H.y+l.length
 | [],H=>rfl
 | c::cs,H=>by simp only[QdN,Qmq cs,Qd,Lo];omega
def Qpv:∀ (l:List (List Value×TypeId)) (H:Qa) (id:Nat) (b:Blk),(QdN H l).get id=some b->H.get id=some b∨∃k c,l[k]? = some c∧id=H.y+k∧b=.cells c.1 c.2 true
 | [],H,id,b,h=>.inl h
 | c::cs,H,id,b,h=>by
  rcases Qpv cs _ id b h with h | ⟨k,c',ab,ac,ad⟩
  ·rw[Qc]at h
   by_cases aa:id=H.y;·rw[Lc aa]at h;cases h;exact .inr ⟨0,c,rfl,aa,rfl⟩
   rw[Le aa]at h;exact .inl h
  exact .inr ⟨k+1,c',by simpa using ab,by rw[ac,Qd];omega,ad⟩
def QEs (g:Value->Value->List (Nat×Nat)->List (Nat×Nat)):List Value->List Value->List (Nat×Nat)->List (Nat×Nat)
 | x::xs,y::ys,l=>QEs g xs ys (g x y l)
 | _,_,l=>l
def fnd:Nat->Value->Value->List (Nat×Nat)->List (Nat×Nat)
 | 0,_,_,l=>l
 | f+1,x,y,l=>match x,y with
  | .pointer (some a),.pointer (some b)=>(a.block,b.block)::l
  | .slice (some a) _ _,.slice (some b) _ _=>(a.block,b.block)::l
  | .iface _ x,.iface _ y=>fnd f x y l
  | .agg xs,.agg ys=>QEs (fnd f) xs.toList ys.toList l
  | .tuple xs,.tuple ys=>QEs (fnd f) xs.toList ys.toList l
  | _,_=>l
def asc:List (Nat×Nat)->Nat->Nat
 | [],_=>0
 | p::l,n=>bif Nat.beq p.1 n then p.2 else asc l n
def QEt (H:Qa):List (List Value×TypeId)->Nat->List (Nat×Nat)->List (Nat×Nat)
 | [],_,l=>l
 | c::cs,n,l=>QEt H cs (n+1) (match H.get (asc l n) with | some (.cells c' _ _)=>QEs (fnd 6) c.1 c' l | _=>l)
def QrC (G:Nat)(s:SumI)(args:List Value)(H:Qa)(id:Nat):Nat:=bif Nat.blt id G then id else asc (QEt H s.ins G (QEs (fnd 6) s.args args [])) id
def Quq (τ:Nat->Nat)(M:Nat)(H:Qa):List (List Value×TypeId)->Nat->Bool
 | [],_=>true
 | c::cs,n=>(match H.get (τ n) with | some (.cells c' _ _)=>GJ (mtV (Qgt τ M) 6) c' c.1 | _=>false)&&Quq τ M H cs (n+1)
def Qur {τ:Nat->Nat}{M:Nat}{H:Qa}:∀ (l:List (List Value×TypeId)) (n:Nat),Quq τ M H l n=true->∀ (k:Nat) c,l[k]? = some c->∃c' e' ro,H.get (τ (n+k))=some (.cells c' e' ro)∧GJ (mtV (Qgt τ M) 6) c' c.1=true
 | [],n,_,k,c,hk=>by simp at hk
 | c0::cs,n,h,k,c,hk=>by
  simp only[Quq,Lm]at h;cases k with
  | zero=>
   simp at hk;subst hk;obtain⟨h,_⟩:=h;split at h;·rename_i c' e' ro ac;exact⟨c',e',ro,ac,h⟩
   cases h
  | succ k=>
   obtain⟨c',e',ro,aa,ab⟩:=Qur cs (n+1) h.2 k c (by simpa using hk);exact⟨c',e',ro,by rw[show n+(k+1)=n+1+k by omega];exact aa,ab⟩
def SumIOk (P:Program)(tabs:List Tab)(s:SumI):Prop:=
 entered P s.f=true∧∃v H1,Qce P s.f s.args (QdN (Xs P.globals.size tabs) s.ins) (.ret v) H1∧mtV (Qbo (P.globals.size+s.ins.length) s.rs) 6 v s.u=true∧okD 6 s.u=true∧QzO (P.globals.size+s.ins.length) H1 s.rs
def sumI_ok {P:Program}{ae:CallF}(al:CallOk P ae){F G k:Nat}{tabs:List Tab}{s:SumI}(ac:entered P s.f=true)
  (h:Qpu (P.globals.size+s.ins.length) s.u s.rs ((run P ae F G k).fn s.f s.args (QdN (Xs P.globals.size tabs) s.ins))=true):SumIOk P tabs s:=by
 unfold Qpu at h;split at h
 ·rename_i v H1 an;simp only[Lm]at h;obtain⟨⟨⟨ah,ai⟩,ab⟩,aj⟩:=h;refine⟨ac,v,H1,((Qe1 al k).fn s.f s.args _ v H1 an).does ac,ah,ai,⟨λj r aa=>?_,λj m r ag aa ad ap=>?_⟩⟩
  ·have:=Li.1 aj r (Ln aa);unfold QzP at this;simp only[Lm,BL]at this;obtain⟨⟨g1,g2⟩,g3⟩:=this;refine⟨g1,g2,?_⟩;split at g3;·rename_i c1 e ro ak;simp only[Lm,Zn,Lv,L0]at g3;exact⟨c1,by rw[ak,g3.1.1,g3.1.2],g3.2⟩
   cases g3
  rcases Nq j m with am | ao;·have:=Qca _ ab j m r ag aa ad am;omega
  have:=Qca _ ab m j ag r ad aa (by omega);omega
 cases h
def SumIOk.does {P:Program}{tabs:List Tab}{s:SumI}(ap:SumIOk P tabs s)(aq:tabsOk tabs=true){args:List Value}{H:Qa}{τ:Nat->Nat}(ai:∀g,g<P.globals.size->τ g=g)(ar:∀t∈tabs,t.id<P.globals.size)
  (ak:Qco tabs H=true) (hi:Quq τ (P.globals.size+s.ins.length) H s.ins P.globals.size=true) (ag:GJ (mtV (Qgt τ (P.globals.size+s.ins.length)) 6) args s.args=true):
  Qce P s.f args H (.ret (shW (shM τ (P.globals.size+s.ins.length) H.y) 6 s.u)) (G7 (shM τ (P.globals.size+s.ins.length) H.y) s.rs H):=by
 obtain⟨ax,v,H1,al,ac,aj,ad⟩:=ap;have ae:(QdN (Xs P.globals.size tabs) s.ins).y=P.globals.size+s.ins.length:=Qmq _ _;rw[<- ae]at ac ad hi ag ⊢;refine QJs al (by rw[ae];omega) ai ac aj ad H (λid b aa=>?_) ag;rcases Qpv _ _ _ _ aa with aa | ⟨k,c,ao,an,rfl⟩;·have am:=Qls ak id b aa;obtain⟨t,ah,rfl,rfl⟩:=Yh aa;refine⟨t.c,t.e,t.c,t.e,true,rfl,by rw[ai _ (ar t ah)];exact am,rfl,λj x y hx ab=>?_⟩;rw[hx]at ab;cases ab;exact Qgr.plain (Li.1 (Li.1 aq t ah) x (Ln hx))
 obtain⟨c',e',ro,g1,g2⟩:=Qur _ _ hi k c ao;obtain⟨au,av⟩:=Qfb g2;exact⟨c.1,c.2,c',e',ro,rfl,by rw[an];exact g1,au.symm,λj x y hx ab=>QG5 (av j y x ab hx)⟩
def QqH (G:Nat)(tabs:List Tab)(f:FuncId)(args:List Value)(H:Qa):List SumI->Option (Value×Qa)
 | []=>none
 | s::ss=>bif Nat.beq f s.f&&(GJ (mtV (Qgt (QrC G s args H) (G+s.ins.length)) 6) args s.args&&(Qco tabs H&&Quq (QrC G s args H) (G+s.ins.length) H s.ins G)) then
   some (shW (shM (QrC G s args H) (G+s.ins.length) H.y) 6 s.u,G7 (shM (QrC G s args H) (G+s.ins.length) H.y) s.rs H) else QqH G tabs f args H ss
def QrD {P:Program}{tabs:List Tab}(ac:tabsOk tabs=true)(ad:∀t∈tabs,t.id<P.globals.size){f:FuncId}{args:List Value}{H:Qa}{v:Value}{H':Qa}:∀ {ss:List SumI},(∀s∈ss,SumIOk P tabs s)->QqH P.globals.size tabs f args H ss=some (v,H')->
  entered P f=true∧Qce P f args H (.ret v) H'
 | [],_,h=>by cases h
 | s::ss,hs,h=>by
  simp only[QqH]at h;cases aa:(Nat.beq f s.f&&(GJ (mtV (Qgt (QrC P.globals.size s args H) (P.globals.size+s.ins.length)) 6) args s.args&&(Qco tabs H&&Quq (QrC P.globals.size s args H) (P.globals.size+s.ins.length) H s.ins P.globals.size))) with
  | false=>
   rw[aa]at h;exact QrD ac ad (ss:=ss) (λag h'=>hs ag (NA _ h')) h
  | true=>
   rw[aa]at h;simp only[Lq,Lt,LB]at h;obtain⟨rfl,rfl⟩:=h;simp only[Lm,Zn,Lv]at aa;obtain⟨e1,e2,e3,e4⟩:=aa;have ab:=hs s (Ny ..);subst e1;exact⟨ab.1,ab.does ac (λg ae=>by unfold QrC;rw[QjL];simp[ae]) ad e3 e4 e2⟩
def Qvg (G:Nat)(tabs:List Tab)(aa:FuncId->List SumI):CallF:=λf args H=>QqH G tabs f args H (aa f)
def byFn_ok {P:Program}{tabs:List Tab}(ad:tabsOk tabs=true)(ae:∀t∈tabs,t.id<P.globals.size){aa:FuncId->List SumI}(h:∀f,∀s∈aa f,SumIOk P tabs s):CallOk P (Qvg P.globals.size tabs aa):=λf args H v H' e=>by
 obtain⟨ab,ac⟩:=QrD ad ae (h f) e;exact .inl ⟨ab,ac⟩
end Go.Ab
