/- The interpreter: operations, code, functions; what it gives is so. -/
import Derived.Test.YtmedjaegakinnaaGreatDoorAbB
import Derived.Test.YtmedjaegakinnaaGreatDoorAbA
import Derived.ProofKit
import Derived.OpenShut
set_option linter.defProp false
set_option linter.unusedVariables false
set_option linter.unusedSimpArgs false
noncomputable section
namespace Go.Ab
abbrev CallF:=FuncId->List Value->Qa->Option (Value×Qa)
structure WJ where
 fn:CallF
 yd:CallF
def Zk (H:Qa):Option Value->Option (Cls×Value×Qa)
 | some v=>some (.pure,v,H)
 | none=>none
def Qu1 (P:Program)(k:Bool)(op:BinOp)(t:TypeId)(x y:Value):Option Value:=
 match x,y with
 | .int ik a,.int ik' b=>match op with
  | .shl | .shr=>VB op ik a b
  | _=>if ik=ik' then YK op ik a b else none
 | .string a,.string b=>Qi2 op (bl a) (bl b)
 | x,y=>Qo3 P k op t x y
def QsW (P:Program)(call:WJ)(A:Env)(H:Qa)(c x y:Operand):Option (Cls×Value×Qa):=
 match ev A c with
  | .bool t=>some (.pure,bif t then ev A x else ev A y,H)
  | _=>none
def QaX (P:Program)(call:WJ)(A:Env)(H:Qa)(x:Operand):Option (Cls×Value×Qa):=
 bif Qen (ev A x) then some (.pure,ev A x,H) else none
def Qeu (P:Program)(call:WJ)(A:Env)(H:Qa)(op:BinOp)(t:TypeId)(x y:Operand):Option (Cls×Value×Qa):=
 Zk H (Qu1 P (QhR x||QhR y) op t (ev A x) (ev A y))
def Qxa (P:Program)(call:WJ)(A:Env)(H:Qa)(op:UnOp)(x:Operand):Option (Cls×Value×Qa):=
 Zk H (QrY op (ev A x))
def Qdh (P:Program)(call:WJ)(A:Env)(H:Qa)(src q:TypeId)(x:Operand):Option (Cls×Value×Qa):=
 match P.underlying src,P.underlying q,ev A x with
  | some _,some (.slice e),.string s=>match P.underlying e,P.info? e with
   | some (.int .u8),some inf=>match inf.zero with
    | some z=>bif Qeo P e inf z&&Nat.beq inf.size 1&&Nat.ble (bl s).length 140737488355328 then
      some (.alloc (.cells (YH s) e false),.slice (some ⟨H.y,0,none⟩) (bl s).length (UNK+1),H.push (.cells (YH s) e false)) else none
    | none=>none
   | _,_=>none
  | some (.slice e),some .string,.slice a m c=>match P.underlying e,XA 1 (.slice a m c) H with
   | some (.int .u8),some l=>match Kx l with
    | some bs=>some (.gen,.string (mkS bs),H)
    | none=>none
   | _,_=>none
  | some (.pointer t),some .unsafePointer,.pointer (some a)=>match P.info? t,H.get a.block with
   | some j,some (.cells c e false)=>if j.size≠0∧a.off<c.length then some (.gen,.pointer (some a),H) else none
   | _,_=>none
  | some .unsafePointer,some (.pointer u),.pointer (some a)=>match P.info? u,H.get a.block with
   | some j,some (.cells c e false)=>if liesAt P P.depth e (c.length / P.cellsOf e) a.off u 1=true then some (.gen,.pointer (some a),H) else none
   | _,_=>none
  | _,_,_=>Zk H (Qot P src q (ev A x))
def Ky (P:Program)(call:WJ)(A:Env)(H:Qa)(t:TypeId)(x:Operand):Option (Cls×Value×Qa):=
 match P.underlying t with
  | some (.interface _)=>none
  | some _=>some (.pure,.iface t (ev A x),H)
  | none=>none
def Qi6 (P:Program)(call:WJ)(A:Env)(H:Qa)(fn:Fn)(first q:Array Operand):Option (Cls×Value×Qa):=
 bif QaD fn then some (.pure,.func fn (first.map (ev A)) (q.map (ev A)),H) else none
def Qov (P:Program)(call:WJ)(A:Env)(H:Qa)(t:TypeId)(x:Operand)(f:Nat):Option (Cls×Value×Qa):=
 match P.underlying t,ev A x with
  | some (.struct fs),.agg cs=>match fs[f]? with
   | some fd=>Zk H (Gd P fd.type cs fd.offset)
   | none=>none
  | _,_=>none
def KR (P:Program)(call:WJ)(A:Env)(H:Qa)(t:TypeId)(x:Operand)(f:Nat):Option (Cls×Value×Qa):=
 match P.underlying t,ev A x with
  | some (.struct fs),.pointer (some a)=>match fs[f]? with
   | some fd=>match P.info? fd.type with
    | some q=>bif Nat.beq q.size 0 then none else some (.pure,.pointer (some ⟨a.block,a.off+fd.offset,none⟩),H)
    | none=>none
   | none=>none
  | _,_=>none
def ZV (P:Program)(call:WJ)(A:Env)(H:Qa)(t:TypeId)(x aa:Operand):Option (Cls×Value×Qa):=
 match ev A aa with
  | .int _ m=>match P.underlying t,ev A x with
   | some (.slice e),.slice (some a) len _=>match P.info? e with
    | some q=>if 0<=m∧m<len then some (.pure,.pointer (some ⟨a.block,a.off+m.toNat * q.size,none⟩),H) else none
    | none=>none
   | some (.array len e),.pointer (some a)=>match P.info? e with
    | some q=>if 0<=m∧m<len then some (.pure,.pointer (some ⟨a.block,a.off+m.toNat * q.size,none⟩),H) else none
    | none=>none
   | _,_=>none
  | _=>none
def Qj8 (P:Program)(call:WJ)(A:Env)(H:Qa)(t:TypeId)(x aa:Operand):Option (Cls×Value×Qa):=
 match ev A aa with
  | .int _ m=>match P.underlying t,ev A x with
   | some .string,.string s=>if 0<=m then(match (bl s)[m.toNat]? with | some b=>some (.pure,.int .u8 b.toNat,H) | none=>none) else none
   | some (.array len e),.agg cs=>match P.info? e with
    | some q=>if 0<=m∧m<len then Zk H (Gd P e cs (m.toNat * q.size)) else none
    | none=>none
   | _,_=>none
  | _=>none
def QhC (P:Program)(call:WJ)(A:Env)(H:Qa)(x:Operand)(q:Nat):Option (Cls×Value×Qa):=
 match ev A x with
  | .tuple aa=>Zk H aa[q]?
  | _=>none
def Qow (P:Program)(call:WJ)(A:Env)(H:Qa)(t:TypeId)(q:Array (Nat×Operand)):Option (Cls×Value×Qa):=
 match P.underlying t,P.info? t with
  | some (.struct fs),some inf=>match inf.zero,Qj4 P fs with
   | some z,some pl=>bif z.cells.toList.all plain then Zk H ((Qca (pl[·]?) z.cells.toList (YG A q)).map λr=>.agg r.toArray) else none
   | _,_=>none
  | some (.array _ e),some inf=>match inf.zero,P.info? e with
   | some z,some inf'=>bif z.cells.toList.all plain then Zk H ((Qca (λi=>some (i * inf'.size,inf'.size)) z.cells.toList (YG A q)).map λr=>.agg r.toArray) else none
   | _,_=>none
  | _,_=>none
def QaF (P:Program)(call:WJ)(A:Env)(H:Qa)(t:TypeId)(len:Nat)(aa:Array (Nat×Operand)):Option (Cls×Value×Qa):=
 match P.underlying t with
  | some (.slice e)=>match P.info? e with
   | some q=>match q.zero with
    | some z=>bif z.cells.toList.all plain&&Nat.blt 0 z.cells.size&&Nat.ble len 16777216&&Nat.ble (len * q.size) 16777216 then
      match Qca (λi=>some (i * q.size,q.size)) (XV z.cells (len * q.size)) (YG A aa) with
      | some r=>some (.alloc (.cells r e false),.slice (some ⟨H.y,0,none⟩) len len,H.push (.cells r e false))
      | none=>none
     else none
    | none=>none
   | none=>none
  | _=>none
def Qox (P:Program)(call:WJ)(A:Env)(H:Qa)(e:TypeId):Option (Cls×Value×Qa):=
 match P.info? e with
  | some q=>match q.zero with
   | some z=>bif z.cells.toList.all plain then some (.alloc (.cells z.cells.toList e false),.pointer (some ⟨H.y,0,none⟩),H.push (.cells z.cells.toList e false)) else none
   | none=>none
  | none=>none
def QBT (P:Program)(call:WJ)(A:Env)(H:Qa)(e:TypeId)(x:Operand):Option (Cls×Value×Qa):=
 some (.alloc (.cells (ev A x).cells.toList e false),.pointer (some ⟨H.y,0,none⟩),H.push (.cells (ev A x).cells.toList e false))
def Qcc (P:Program)(call:WJ)(A:Env)(H:Qa)(t:TypeId)(x y:Operand):Option (Cls×Value×Qa):=
 match P.underlying t,ev A x,ev A y with
  | some (.slice e),.int .i64 l,.int .i64 c=>match P.info? e with
   | some q=>match q.zero with
    | some z=>if Qeo P e q z=true∧0<=l∧l<=c∧(q.bytes:Int) * c<=281474976710656∧c<=9223372036854775807 then
      some (.alloc (.cells (XV z.cells (c.toNat * q.size)) e false),.slice (some ⟨H.y,0,none⟩) l.toNat c.toNat,H.push (.cells (XV z.cells (c.toNat * q.size)) e false))
     else none
    | none=>none
   | none=>none
  | _,_,_=>none
def Qj9 (P:Program)(call:WJ)(A:Env)(H:Qa)(t:TypeId)(x:Operand)(lo hi mx:Option Operand):Option (Cls×Value×Qa):=
 match P.underlying t with
  | some .string=>match ev A x,mx,Wx A lo,Wx A hi with
   | .string s,none,some l,some h=>if 0<=l.getD 0∧l.getD 0<=h.getD (bl s).length∧h.getD (bl s).length<=(bl s).length then some (.pure,.string (mkS (((bl s).drop (l.getD 0).toNat).take ((h.getD (bl s).length).toNat - (l.getD 0).toNat))),H) else none
   | _,_,_,_=>none
  | some (.slice e)=>match P.info? e,Wx A lo,Wx A hi,Wx A mx with
   | some q,some l,some h,some m=>if m.isNone||h.isSome then Zk H (Yh q.size (ev A x) l h m) else none
   | _,_,_,_=>none
  | some (.array n e)=>match ev A x,mx,Wx A lo,Wx A hi with
   | .pointer (some a),none,some l,some h=>match P.info? e with
    | some q=>if 0<=l.getD 0∧l.getD 0<=h.getD n∧h.getD n<=n∧n<UNK then some (.pure,.slice (some ⟨a.block,a.off+(l.getD 0).toNat * q.size,none⟩) ((h.getD n).toNat - (l.getD 0).toNat) (n - (l.getD 0).toNat),H) else none
    | none=>none
   | _,_,_,_=>none
  | _=>none
def Qpb (P:Program)(call:WJ)(A:Env)(H:Qa)(t:TypeId)(x:Operand):Option (Cls×Value×Qa):=
 match ev A x with
  | .pointer (some a)=>match Yg P t a H with
   | some v=>some (.load,v,H)
   | none=>none
  | _=>none
def Qka (P:Program)(call:WJ)(A:Env)(H:Qa)(t:TypeId)(x y:Operand):Option (Cls×Value×Qa):=
 match ev A x with
  | .pointer (some a)=>match Qi1 P t a (ev A y) H with
   | some H'=>some (.gen,undef,H')
   | none=>none
  | _=>none
def QJF:Value->Bool
 | .int .u8 m=>decide (0<=m)&&decide (m<256)
 | _=>false
def Qgj (P:Program)(call:WJ)(A:Env)(H:Qa)(c:Call):Option (Cls×Value×Qa):=
 match c with
  | ⟨.builtin b,args,ts⟩=>match b,args.toList,ts.toList with
   | .len,[x],[t]=>match QBG P t (ev A x) with | some m=>some (.pure,.int .i64 (m:Int),H) | none=>none
   | .cap,[x],[t]=>match P.underlying t,ev A x with
    | some (.slice _),.slice _ _ c=>bif Nat.blt c UNK then some (.pure,.int .i64 c,H) else none
    | _,_=>none
   | .max,[x,y],_=>match ev A x,ev A y with
    | .int k a,.int k' b=>if k=k' then some (.pure,.int k (if b>a then b else a),H) else none
    | _,_=>none
   | .min,[x,y],_=>match ev A x,ev A y with
    | .int k a,.int k' b=>if k=k' then some (.pure,.int k (if b<a then b else a),H) else none
    | _,_=>none
   | .append,[x,y],[t,t2]=>match P.underlying t,P.underlying t2 with
    | some (.slice e),some td=>match P.info? e with
     | some q=>match q.zero with
      | some z=>bif Qgg td&&Qeo P e q z then(QhB e q (ev A x) (ev A y) H).map λr=>(.gen,r.1,r.2) else none
      | none=>none
     | none=>none
    | _,_=>none
   | .copy,[x,y],[t,_]=>match P.underlying t with
    | some (.slice e)=>match P.info? e with
     | some q=>(QyV q.size (ev A x) (ev A y) H).map λr=>(.gen,r.1,r.2)
     | none=>none
    | _=>none
   | .unsafeSliceData,[x],_=>match ev A x with
    | .slice none _ _=>some (.pure,.pointer none,H)
    | .slice (some a) m _=>if m≠0 then some (.pure,.pointer (some a),H) else none
    | _=>none
   | .unsafeString,[x,y],[pt,_]=>match ev A x,ev A y with
    | .pointer none,.int .i64 0=>some (.gen,.string (mkS []),H)
    | .pointer (some a),.int .i64 m=>match P.underlying pt,H.get a.block with
     | some (.pointer e),some (.cells c e' false)=>
      if e=e'∧a=⟨a.block,0,none⟩∧P.cellsOf e=1∧0<m∧m.toNat<=c.length∧m<=9223372036854775807∧(c.take m.toNat).all QJF=true then
       (match Kx (c.take m.toNat) with
       | some bs=>some (.gen,.string (mkS bs),H.set a.block (.cells c e true))
       | none=>none)
      else none
     | _,_=>none
    | _,_=>none
   | _,_,_=>none
  | ⟨.invoke recv name,args,ts⟩=>match ev A recv with
   | .iface t v=>match Qj6 P t name with
    | some f=>(call.fn f (v::(args.map (ev A)).toList) H).map λr=>(.gen,r.1,r.2)
    | none=>none
   | _=>none
  | ⟨.value (.func f),args,ts⟩=>(call.fn f (args.map (ev A)).toList H).map λr=>(.gen,r.1,r.2)
  | ⟨.value c,args,ts⟩=>match ev A c with
   | .func (.func f) xs ys=>(call.fn f (xs.toList++(args.map (ev A)).toList++ys.toList) H).map λr=>(.gen,r.1,r.2)
   | .func (.yield l) xs ys=>bif Nat.beq xs.size 0&&Nat.beq ys.size 0 then(call.yd l (args.map (ev A)).toList H).map λr=>(.gen,r.1,r.2) else none
   | _=>none
def Qgk (P:Program)(call:WJ)(A:Env)(H:Qa)(t:TypeId)(x q:Operand)(ok:Bool):Option (Cls×Value×Qa):=
 match P.underlying t with
 | some (.map k e)=>(Qu0 P k e (ev A x) (ev A q) ok H).map λv=>(.gen,v,H)
 | _=>none
def Qne (P:Program)(call:WJ)(A:Env)(H:Qa)(t:TypeId)(m k x:Operand):Option (Cls×Value×Qa):=
 match P.underlying t with
 | some (.map kt _)=>(QsU P kt (ev A m) (ev A k) (ev A x) H).map λH'=>(.gen,undef,H')
 | _=>none
def Qoy (P:Program)(call:WJ)(A:Env)(H:Qa)(t:TypeId)(x:Operand):Option (Cls×Value×Qa):=
 match P.underlying t,ev A x with
 | some .string,.string s=>some (.alloc (.iter s 0),.pointer (some ⟨H.y,0,none⟩),H.push (.iter s 0))
 | _,_=>none
def aop (P:Program)(call:WJ)(o:Oper)(A:Env)(H:Qa):Option (Cls×Value×Qa):=
 match o.op with
 | .move x=>some (.pure,ev A x,H)
 | .assign x=>some (.pure,ev A x,H)
 | .pick c x y=>QsW P call A H c x y
 | .nilCheck x=>QaX P call A H x
 | .binOp op t x y _=>Qeu P call A H op t x y
 | .unOp op _ x=>Qxa P call A H op x
 | .convert src ac x=>Qdh P call A H src ac x
 | .makeInterface t x=>Ky P call A H t x
 | .makeFunc fn first ab=>Qi6 P call A H fn first ab
 | .field t x f=>Qov P call A H t x f
 | .fieldAddr t x f=>KR P call A H t x f
 | .indexAddr t x q=>ZV P call A H t x q
 | .index t x q=>Qj8 P call A H t x q
 | .extract x q=>QhC P call A H x q
 | .build t aa=>Qow P call A H t aa
 | .buildSlice t len aa=>QaF P call A H t len aa
 | .alloc e=>Qox P call A H e
 | .box e x=>QBT P call A H e x
 | .makeSlice t x y=>Qcc P call A H t x y
 | .slice t x lo hi mx=>Qj9 P call A H t x lo hi mx
 | .load t x=>Qpb P call A H t x
 | .store t x y=>Qka P call A H t x y
 | .call c=>Qgj P call A H c
 | .makeMap _ none=>some (.alloc (.map []),.map (some H.y),H.push (.map []))
 | .lookup t x q ok=>Qgk P call A H t x q ok
 | .mapUpdate t m k x=>Qne P call A H t m k x
 | .insert t m k x=>Qne P call A H t m k x
 | .range t x=>Qoy P call A H t x
 | .next it true=>(Qr7 H (ev A it)).map λr=>(.gen,r.1,r.2)
 | _=>none
section
variable {P:Program} {n:Nat} {A:Env} {H:Qa}
def Qnf (P:Program)(o:Oper)(A:Env)(H:Qa)(v:Value)(H':Qa):Cls->Prop
 | .pure=>H'=H∧∀h,Qt P o A h v h
 | .load=>H'=H∧∃t x a,o.op=.load t x∧ev A x=.pointer (some a)∧Yg P t a H=some v
 | .alloc b=>H'=H.push b∧∀h,h.y=H.y->Qt P o A h v (h.push b)
 | .gen=>Qt P o A H v H'
def Qnf.does {o:Oper}{v:Value}{H':Qa}{c:Cls}(h:Qnf P o A H v H' c):Qt P o A H v H':=by
 cases c with
 | pure=>obtain⟨rfl,h⟩:=h;exact h _
 | load=>
  obtain⟨rfl,t,x,a,q,aa,ab⟩:=h;obtain⟨ac,op,ty,pos,af,g⟩:=o;simp only at q;subst q;exact QEr aa ab
 | alloc b=>obtain⟨rfl,h⟩:=h;exact h _ rfl
 | gen=>exact h
def CallOk (P:Program)(call:CallF):Prop:=∀f args H v H',call f args H=some (v,H')->J2 P f args H v H'
structure Qev (P:Program) (call:WJ):Prop where
 fn:CallOk P call.fn
 yd:∀l args H v H',call.yd l args H=some (v,H')->Qr5 P l args H v H'
def Yt {r:Option Value}{c:Cls}{v:Value}{H':Qa}(h:Zk H r=some (c,v,H')):r=some v∧c=.pure∧H'=H:=by
 cases r with
 | none=>simp[Zk]at h
 | some u=>simp[Zk]at h;obtain⟨rfl,rfl,rfl⟩:=h;exact⟨rfl,rfl,rfl⟩
def QAi {op:BinOp}{t ab:TypeId}{x y:Operand}{v:Value}{d:Option Nat}{ty:TypeId}{pos:String}{af:Array Edge}{g:Option (Nat×Bool)}(h:Qu1 P (QhR x||QhR y) op t (ev A x) (ev A y)=some v):Qt P ⟨d,.binOp op t x y ab,ty,pos,af,g⟩ A H v H:=by
 unfold Qu1 at h;split at h
 ·rename_i k a ae b q aa;split at h;·exact QuN q aa h
  ·exact QuN q aa h
  split at h;·rename_i e;subst e;exact QHo q aa h
  cases h
 ·rename_i a b q aa;exact QHp q aa h
 rename_i ac ad;exact QJD h
set_option maxHeartbeats 2000000 in
def Ql2 {call:WJ}(aE:Qev P call){o:Oper}{c:Cls}{v:Value}{H':Qa}(h:aop P call o A H=some (c,v,H')):Qnf P o A H v H' c:=by
 obtain⟨aN,op,ty,pos,af,g⟩:=o;unfold aop at h;split at h
 case h_1 x hop=>simp only at hop;subst hop;simp only[Lt,LB]at h;obtain⟨rfl,rfl,rfl⟩:=h;exact⟨rfl,λh=>QEo⟩
 case h_2 x hop=>simp only at hop;subst hop;simp only[Lt,LB]at h;obtain⟨rfl,rfl,rfl⟩:=h;exact⟨rfl,λh=>Qz7⟩
 case h_3 aJ x y hop=>
  simp only at hop;subst hop;unfold QsW at h;split at h;·rename_i t ar;simp only[Lt,LB]at h;obtain⟨rfl,rfl,rfl⟩:=h;refine⟨rfl,λh=>?_⟩;have:=QEp (P:=P) (H:=h) (d:=aN) (ty:=ty) (pos:=pos) (af:=af) (g:=g) (x:=x) (y:=y) ar;cases t<;>exact this
  cases h
 case h_4 x hop=>
  simp only at hop;subst hop;unfold QaX at h;cases ad:Qen (ev A x) with
  | false=>rw[ad]at h;cases h
  | true=>
   rw[ad]at h;simp only[Lq,Lt,LB]at h;obtain⟨rfl,rfl,rfl⟩:=h;exact⟨rfl,λh=>QuM ad⟩
 case h_5 bop t x y t' hop=>
  simp only at hop;subst hop;unfold Qeu at h;obtain⟨ae,rfl,rfl⟩:=Yt h;exact⟨rfl,λh=>QAi ae⟩
 case h_6 uop t x hop=>
  simp only at hop;subst hop;unfold Qxa at h;obtain⟨ae,rfl,rfl⟩:=Yt h;exact⟨rfl,λh=>QJC ae⟩
 case h_7 src d' x hop=>
  simp only at hop;subst hop;unfold Qdh at h;split at h
  ·rename_i u e s am aj aa;split at h
   ·rename_i ag aG hi;split at h
    ·rename_i z ah;cases q:(Qeo P e ag z&&Nat.beq ag.size 1&&Nat.ble (bl s).length 140737488355328) with
     | false=>rw[q]at h;cases h
     | true=>
      rw[q]at h;simp only[Lq,Lt,LB]at h;obtain⟨rfl,rfl,rfl⟩:=h;simp only[Lm,Zw,Lv,BL]at q;refine⟨rfl,λh ad=>?_⟩;rw[<- ad];exact Qw5 am aj aG (G6.mk' hi ah q.1.1) q.1.2 aa q.2
    cases h
   cases h
  ·rename_i e a m aD am aj aa;split at h
   ·rename_i l aG aA;split at h;·rename_i bs ax;simp only[Lt,LB]at h;obtain⟨rfl,rfl,rfl⟩:=h;exact QBP am aG aj (by rw[aa];exact aA) ax
    cases h
   cases h
  ·rename_i t a am aj aa;split at h
   ·rename_i j c e hi ay;split at h;·rename_i q;simp only[Lt,LB]at h;obtain⟨rfl,rfl,rfl⟩:=h;exact QuZ aa am aj hi q.1 ay q.2
    cases h
   cases h
  ·rename_i u a am aj aa;split at h
   ·rename_i j c e hi ay;split at h;·rename_i q;simp only[Lt,LB]at h;obtain⟨rfl,rfl,rfl⟩:=h;exact Qq0 aa am aj hi ay q
    cases h
   cases h
  obtain⟨ae,rfl,rfl⟩:=Yt h;exact⟨rfl,λh=>QEq ae⟩
 case h_8 t x hop=>
  simp only at hop;subst hop;unfold Ky at h;split at h;·cases h
  ·rename_i aI aQ aU;simp only[Lt,LB]at h;obtain⟨rfl,rfl,rfl⟩:=h;refine⟨rfl,λh=>QlS aU ?_⟩;cases aI<;>first | rfl | exact absurd rfl (aQ _)
  cases h
 case h_9 fn first captured hop=>
  simp only at hop;subst hop;unfold Qi6 at h;cases ad:QaD fn with
  | false=>rw[ad]at h;cases h
  | true=>
   rw[ad]at h;simp only[Lq,Lt,LB]at h;obtain⟨rfl,rfl,rfl⟩:=h;exact⟨rfl,λh=>QuO ad⟩
 case h_10 t x f hop=>
  simp only at hop;subst hop;unfold Qov at h;split at h
  ·rename_i aK cs ab aa;split at h;·rename_i fd aH;obtain⟨ae,rfl,rfl⟩:=Yt h;exact⟨rfl,λh=>QBD ab aH aa ae⟩
   cases h
  cases h
 case h_11 t x f hop=>
  simp only at hop;subst hop;unfold KR at h;split at h
  ·rename_i aK a ab aa;split at h
   ·rename_i fd aH;split at h
    ·rename_i ag hi;cases ah:Nat.beq ag.size 0 with
     | true=>rw[ah]at h;cases h
     | false=>
      rw[ah]at h;simp only[Ls,Lt,LB]at h;obtain⟨rfl,rfl,rfl⟩:=h;exact⟨rfl,λh=>QsP ab aH hi ah aa⟩
    cases h
   cases h
  cases h
 case h_12 t x ix hop=>
  simp only at hop;subst hop;unfold ZV at h;split at h
  ·rename_i k m av;split at h
   ·rename_i e a len cap ab aa;split at h
    ·rename_i ag hi;split at h;·rename_i q;simp only[Lt,LB]at h;obtain⟨rfl,rfl,rfl⟩:=h;exact⟨rfl,λh=>Qi3 ab hi aa av q.1 q.2⟩
     cases h
    cases h
   ·rename_i len e a ab aa;split at h
    ·rename_i ag hi;split at h;·rename_i q;simp only[Lt,LB]at h;obtain⟨rfl,rfl,rfl⟩:=h;exact⟨rfl,λh=>Qi4 ab hi aa av q.1 q.2⟩
     cases h
    cases h
   cases h
  cases h
 case h_13 t x ix hop=>
  simp only at hop;subst hop;unfold Qj8 at h;split at h
  ·rename_i k m av;split at h
   ·rename_i s ab aa;split at h
    ·rename_i aP;split at h;·rename_i b ax;simp only[Lt,LB]at h;obtain⟨rfl,rfl,rfl⟩:=h;exact⟨rfl,λh=>QnT ab aa av aP ax⟩
     cases h
    cases h
   ·rename_i len e cs ab aa;split at h
    ·rename_i ag hi;split at h;·rename_i q;obtain⟨ae,rfl,rfl⟩:=Yt h;exact⟨rfl,λh=>QoW ab hi aa av q.1 q.2 ae⟩
     cases h
    cases h
   cases h
  cases h
 case h_14 x ix hop=>
  simp only at hop;subst hop;unfold QhC at h;split at h;·rename_i bj aa;obtain⟨ae,rfl,rfl⟩:=Yt h;exact⟨rfl,λh=>QwY aa ae⟩
  cases h
 case h_15 t parts hop=>
  simp only at hop;subst hop;unfold Qow at h;split at h
  ·rename_i aK ag ab hi;split at h
   ·rename_i z pl ah aS;cases q:z.cells.toList.all plain with
    | false=>rw[q]at h;cases h
    | true=>
     rw[q]at h;obtain⟨ae,rfl,rfl⟩:=Yt h;simp only[Lx]at ae;obtain⟨r,ac,rfl⟩:=ae;exact⟨rfl,λh=>QnU ab hi ah q aS ac⟩
   cases h
  ·rename_i len e ag ab hi;split at h
   ·rename_i z ba ah az;cases q:z.cells.toList.all plain with
    | false=>rw[q]at h;cases h
    | true=>
     rw[q]at h;obtain⟨ae,rfl,rfl⟩:=Yt h;simp only[Lx]at ae;obtain⟨r,ac,rfl⟩:=ae;exact⟨rfl,λh=>QoY ab hi ah q az ac⟩
   cases h
  cases h
 case h_16 t len parts hop=>
  simp only at hop;subst hop;unfold QaF at h;split at h
  ·rename_i e ab;split at h
   ·rename_i ag hi;split at h
    ·rename_i z ah;cases q:(z.cells.toList.all plain&&Nat.blt 0 z.cells.size&&Nat.ble len 16777216&&Nat.ble (len * ag.size) 16777216) with
     | false=>rw[q]at h;cases h
     | true=>
      rw[q]at h;simp only[Lq]at h;simp only[Lm]at q;obtain⟨⟨⟨ao,ap⟩,aC⟩,aq⟩:=q;split at h;·rename_i r ac;simp only[Lt,LB]at h;obtain⟨rfl,rfl,rfl⟩:=h;refine⟨rfl,λh ad=>?_⟩;rw[<- ad];exact QqZ ab hi ah ao ap aC aq ac
      cases h
    cases h
   cases h
  cases h
 case h_17 e hop=>
  simp only at hop;subst hop;unfold Qox at h;split at h
  ·rename_i ag hi;split at h
   ·rename_i z ah;cases q:z.cells.toList.all plain with
    | false=>rw[q]at h;cases h
    | true=>
     rw[q]at h;simp only[Lq,Lt,LB]at h;obtain⟨rfl,rfl,rfl⟩:=h;refine⟨rfl,λh ad=>?_⟩;rw[<- ad];exact QBF hi ah q
   cases h
  cases h
 case h_18 e x hop=>
  simp only at hop;subst hop;unfold QBT at h;simp only[Lt,LB]at h;obtain⟨rfl,rfl,rfl⟩:=h;refine⟨rfl,λh ad=>?_⟩;rw[<- ad];exact QHq
 case h_19 t x y hop=>
  simp only at hop;subst hop;unfold Qcc at h;split at h
  ·rename_i e l aJ ab aa ai;split at h
   ·rename_i ag hi;split at h
    ·rename_i z ah;split at h;·rename_i q;obtain⟨c0,ao,ap,aC,aq⟩:=q;simp only[Lt,LB]at h;obtain⟨rfl,rfl,rfl⟩:=h;refine⟨rfl,λh ad=>?_⟩;rw[<- ad];exact QsQ ab (G6.mk' hi ah c0) aa ai ao ap aC aq
     cases h
    cases h
   cases h
  cases h
 case h_20 t x lo hi mx hop=>
  simp only at hop;subst hop;unfold Qj9 at h;split at h
  ·rename_i ab;split at h
   ·rename_i s l aL aa aw au;split at h;·rename_i q;simp only[Lt,LB]at h;obtain⟨rfl,rfl,rfl⟩:=h;exact⟨rfl,λh=>QnV ab aa aw au q.1 q.2.1 q.2.2⟩
    cases h
   cases h
  ·rename_i e ab;split at h
   ·rename_i ag l aL m az aw au aF;split at h
    ·rename_i q;obtain⟨ae,rfl,rfl⟩:=Yt h;refine⟨rfl,λh=>QoZ ab az aw au aF (λak ad=>?_) ae⟩;subst ad;cases m with
     | none=>exact ak rfl
     | some m=>simp at q
    cases h
   cases h
  ·rename_i m e ab;split at h
   ·rename_i a l aL aa aw au;split at h
    ·rename_i ag az;split at h;·rename_i q;simp only[Lt,LB]at h;obtain⟨rfl,rfl,rfl⟩:=h;exact⟨rfl,λh=>Qpa ab az aa aw au q.1 q.2.1 q.2.2.1 q.2.2.2⟩
     cases h
    cases h
   cases h
  cases h
 case h_21 t x hop=>
  simp only at hop;subst hop;unfold Qpb at h;split at h
  ·rename_i a aa;split at h;·rename_i bh aA;simp only[Lt,LB]at h;obtain⟨rfl,rfl,rfl⟩:=h;exact⟨rfl,t,x,a,rfl,aa,aA⟩
   cases h
  cases h
 case h_22 t x y hop=>
  simp only at hop;subst hop;unfold Qka at h;split at h
  ·rename_i a aa;split at h;·rename_i H1 aA;simp only[Lt,LB]at h;obtain⟨rfl,rfl,rfl⟩:=h;exact QBE aa aA
   cases h
  cases h
 case h_23 aJ hop=>
  simp only at hop;subst hop;unfold Qgj at h;split at h
  ·rename_i b args aB;obtain⟨args⟩:=args;obtain⟨aB⟩:=aB;simp only at h;split at h
   ·rename_i x t;split at h;·rename_i m ak;simp only[Lt,LB]at h;obtain⟨rfl,rfl,rfl⟩:=h;exact⟨rfl,λh=>QHr ak⟩
    cases h
   ·rename_i x t;split at h
    ·rename_i e a m aD ab aa;cases q:Nat.blt aD UNK with
     | false=>rw[q]at h;cases h
     | true=>
      rw[q]at h;simp only[Lq,Lt,LB]at h;obtain⟨rfl,rfl,rfl⟩:=h;exact⟨rfl,λh=>QHs ab aa q⟩
    cases h
   ·rename_i x y;split at h
    ·rename_i k a aW b' aa ai;split at h;·rename_i e;subst e;simp only[Lt,LB]at h;obtain⟨rfl,rfl,rfl⟩:=h;exact⟨rfl,λh=>QEs aa ai⟩
     cases h
    cases h
   ·rename_i x y;split at h
    ·rename_i k a aW b' aa ai;split at h;·rename_i e;subst e;simp only[Lt,LB]at h;obtain⟨rfl,rfl,rfl⟩:=h;exact⟨rfl,λh=>QEt aa ai⟩
     cases h
    cases h
   ·rename_i x y t t2;split at h
    ·rename_i e aI ab aT;split at h
     ·rename_i ag hi;split at h
      ·rename_i z ah;cases q:(Qgg aI&&Qeo P e ag z) with
       | false=>rw[q]at h;cases h
       | true=>
        rw[q]at h;simp only[Lq,Lx,LB]at h;obtain⟨⟨an,H1⟩,ac,rfl,rfl,rfl⟩:=h;simp only[Lm]at q;exact Qz9 ab aT q.1 (G6.mk' hi ah q.2) ac
      cases h
     cases h
    cases h
   ·rename_i x y t t2;split at h
    ·rename_i e ab;split at h;·rename_i ag hi;simp only[Lx,LB]at h;obtain⟨⟨an,H1⟩,ac,rfl,rfl,rfl⟩:=h;exact QEv ab hi ac
     cases h
    cases h
   ·rename_i x;split at h;·rename_i m aD aa;simp only[Lt,LB]at h;obtain⟨rfl,rfl,rfl⟩:=h;exact⟨rfl,λh=>Ql0 aa⟩
    ·rename_i a m aD aa;split at h;·rename_i ak;simp only[Lt,LB]at h;obtain⟨rfl,rfl,rfl⟩:=h;exact⟨rfl,λh=>QsS aa ak⟩
     cases h
    cases h
   ·rename_i x y bd it;split at h;·rename_i aa ai;simp only[Lt,LB]at h;obtain⟨rfl,rfl,rfl⟩:=h;exact Ql1 aa ai
    ·rename_i a m aa ai;split at h
     ·rename_i e c e' aR ay;split at h
      ·rename_i q;obtain⟨rfl,ao,ap,aC,aq,aY,aM⟩:=q;split at h
       ·rename_i bs ax;simp only[Lt,LB]at h;obtain⟨rfl,rfl,rfl⟩:=h;have aF:m=(m.toNat:Int):=by omega
        rw[aF]at ai;rw[ao]at aa;exact QsT aa ai aR ap ay (by omega) aq (by omega) ax (λv aV=>by
         have:=Li.1 aM v aV;unfold QJF at this;split at this;·rename_i k;simp only[Lm,Lv]at this;exact⟨k,rfl,this.1,this.2⟩
         cases this)
       cases h
      cases h
     cases h
    cases h
   cases h
  ·rename_i bg bc args aB;split at h
   ·rename_i t bi aO;split at h;·rename_i f ak;simp only[Lx,LB]at h;obtain⟨⟨an,H1⟩,ac,rfl,rfl,rfl⟩:=h;exact QAf aO ak (aE.fn _ _ _ _ _ ac)
    cases h
   cases h
  ·rename_i f args aB;simp only[Lx,LB]at h;obtain⟨⟨an,H1⟩,ac,rfl,rfl,rfl⟩:=h;exact Qou (aE.fn _ _ _ _ _ ac)
  rename_i aZ args aB _;split at h;·rename_i f xs ys ar;simp only[Lx,LB]at h;obtain⟨⟨an,H1⟩,ac,rfl,rfl,rfl⟩:=h;exact QuR ar (aE.fn _ _ _ _ _ ac)
  ·rename_i l xs ys ar;cases q:(Nat.beq xs.size 0&&Nat.beq ys.size 0) with
   | false=>rw[q]at h;cases h
   | true=>
    rw[q]at h;simp only[Lm,Zw,Lv,Array.size_eq_zero_iff]at q;obtain⟨rfl,rfl⟩:=q;simp only[Lq,Lx,LB]at h;obtain⟨⟨an,H1⟩,ac,rfl,rfl,rfl⟩:=h;exact QuY ar (aE.yd _ _ _ _ _ ac)
  cases h
 case h_24 t hop=>
  simp only at hop;subst hop;simp only[Lt,LB]at h;obtain⟨rfl,rfl,rfl⟩:=h;exact⟨rfl,λh ad=>by rw[<- ad];exact Qw8⟩
 case h_25 t x ix ok hop=>
  simp only at hop;subst hop;unfold Qgk at h;split at h;·rename_i k e ab;simp only[Lx,LB]at h;obtain⟨an,ac,rfl,rfl,rfl⟩:=h;exact QAg ab ac
  cases h
 case h_26 t m k x hop=>
  simp only at hop;subst hop;unfold Qne at h;split at h;·rename_i aX e ab;simp only[Lx,LB]at h;obtain⟨H1,ac,rfl,rfl,rfl⟩:=h;exact QsV ab ac
  cases h
 case h_27 t m k x hop=>
  simp only at hop;subst hop;unfold Qne at h;split at h;·rename_i aX e ab;simp only[Lx,LB]at h;obtain⟨H1,ac,rfl,rfl,rfl⟩:=h;exact QAh ab ac
  cases h
 case h_28 t x hop=>
  simp only at hop;subst hop;unfold Qoy at h;split at h;·rename_i s ab aa;simp only[Lt,LB]at h;obtain⟨rfl,rfl,rfl⟩:=h;exact⟨rfl,λh ad=>by rw[<- ad];exact QBS ab aa⟩
  cases h
 case h_29 it hop=>
  simp only at hop;subst hop;simp only[Lx,LB]at h;obtain⟨⟨an,H1⟩,ac,rfl,rfl,rfl⟩:=h;exact QEu ac
 case h_30=>cases h
end
inductive D where
 | d0 | d1 | d2 | d3 | d4 | d5 | d6 | d7 | d8 | d9 | d10 | d11 | d12 | d13 | d14 | d15
structure N16 (α:Type) where
 mk ::
 a0:α
 a1:α
 a2:α
 a3:α
 a4:α
 a5:α
 a6:α
 a7:α
 a8:α
 a9:α
 a10:α
 a11:α
 a12:α
 a13:α
 a14:α
 a15:α
def D.num:D->Nat
 | .d0=>0
 | .d1=>1
 | .d2=>2
 | .d3=>3
 | .d4=>4
 | .d5=>5
 | .d6=>6
 | .d7=>7
 | .d8=>8
 | .d9=>9
 | .d10=>10
 | .d11=>11
 | .d12=>12
 | .d13=>13
 | .d14=>14
 | .d15=>15
def dig (n:Nat):D:=bif Nat.beq n 0 then .d0 else bif Nat.beq n 1 then .d1 else bif Nat.beq n 2 then .d2 else bif Nat.beq n 3 then .d3 else bif Nat.beq n 4 then .d4 else bif Nat.beq n 5 then .d5 else bif Nat.beq n 6 then .d6 else bif Nat.beq n 7 then .d7 else bif Nat.beq n 8 then .d8 else bif Nat.beq n 9 then .d9 else bif Nat.beq n 10 then .d10 else bif Nat.beq n 11 then .d11 else bif Nat.beq n 12 then .d12 else bif Nat.beq n 13 then .d13 else bif Nat.beq n 14 then .d14 else .d15
def Qoz {n:Nat}(h:n<16):(dig n).num=n:=by
 have:n=0∨n=1∨n=2∨n=3∨n=4∨n=5∨n=6∨n=7∨n=8∨n=9∨n=10∨n=11∨n=12∨n=13∨n=14∨n=15:=by omega
 rcases this with rfl | rfl | rfl | rfl | rfl | rfl | rfl | rfl | rfl | rfl | rfl | rfl | rfl | rfl | rfl | rfl<;>rfl
def QyW {n m:Nat}(aa:n<16)(q:m<16)(h:dig n=dig m):n=m:=by rw[<- Qoz aa,<- Qoz q,h]
def N16.get {α:Type}(n:N16 α)(d:D):α:=D.rec (motive:=λ_=>N16 α->α) N16.a0 N16.a1 N16.a2 N16.a3 N16.a4 N16.a5 N16.a6 N16.a7 N16.a8 N16.a9 N16.a10 N16.a11 N16.a12 N16.a13 N16.a14 N16.a15 d n
def Qac {α:Type}(f:α->α->α->α->α->α->α->α->α->α->α->α->α->α->α->α->N16 α)(n:N16 α):N16 α:=N16.rec (motive:=λ_=>N16 α) f n
def N16.set0 {α:Type}(v:α):N16 α->N16 α:=Qac λ_ b c d e f g h i j k l m n o p=>⟨v,b,c,d,e,f,g,h,i,j,k,l,m,n,o,p⟩
def N16.set1 {α:Type}(v:α):N16 α->N16 α:=Qac λa _ c d e f g h i j k l m n o p=>⟨a,v,c,d,e,f,g,h,i,j,k,l,m,n,o,p⟩
def N16.set2 {α:Type}(v:α):N16 α->N16 α:=Qac λa b _ d e f g h i j k l m n o p=>⟨a,b,v,d,e,f,g,h,i,j,k,l,m,n,o,p⟩
def N16.set3 {α:Type}(v:α):N16 α->N16 α:=Qac λa b c _ e f g h i j k l m n o p=>⟨a,b,c,v,e,f,g,h,i,j,k,l,m,n,o,p⟩
def N16.set4 {α:Type}(v:α):N16 α->N16 α:=Qac λa b c d _ f g h i j k l m n o p=>⟨a,b,c,d,v,f,g,h,i,j,k,l,m,n,o,p⟩
def N16.set5 {α:Type}(v:α):N16 α->N16 α:=Qac λa b c d e _ g h i j k l m n o p=>⟨a,b,c,d,e,v,g,h,i,j,k,l,m,n,o,p⟩
def N16.set6 {α:Type}(v:α):N16 α->N16 α:=Qac λa b c d e f _ h i j k l m n o p=>⟨a,b,c,d,e,f,v,h,i,j,k,l,m,n,o,p⟩
def N16.set7 {α:Type}(v:α):N16 α->N16 α:=Qac λa b c d e f g _ i j k l m n o p=>⟨a,b,c,d,e,f,g,v,i,j,k,l,m,n,o,p⟩
def N16.set8 {α:Type}(v:α):N16 α->N16 α:=Qac λa b c d e f g h _ j k l m n o p=>⟨a,b,c,d,e,f,g,h,v,j,k,l,m,n,o,p⟩
def N16.set9 {α:Type}(v:α):N16 α->N16 α:=Qac λa b c d e f g h i _ k l m n o p=>⟨a,b,c,d,e,f,g,h,i,v,k,l,m,n,o,p⟩
def N16.set10 {α:Type}(v:α):N16 α->N16 α:=Qac λa b c d e f g h i j _ l m n o p=>⟨a,b,c,d,e,f,g,h,i,j,v,l,m,n,o,p⟩
def N16.set11 {α:Type}(v:α):N16 α->N16 α:=Qac λa b c d e f g h i j k _ m n o p=>⟨a,b,c,d,e,f,g,h,i,j,k,v,m,n,o,p⟩
def N16.set12 {α:Type}(v:α):N16 α->N16 α:=Qac λa b c d e f g h i j k l _ n o p=>⟨a,b,c,d,e,f,g,h,i,j,k,l,v,n,o,p⟩
def N16.set13 {α:Type}(v:α):N16 α->N16 α:=Qac λa b c d e f g h i j k l m _ o p=>⟨a,b,c,d,e,f,g,h,i,j,k,l,m,v,o,p⟩
def N16.set14 {α:Type}(v:α):N16 α->N16 α:=Qac λa b c d e f g h i j k l m n _ p=>⟨a,b,c,d,e,f,g,h,i,j,k,l,m,n,v,p⟩
def N16.set15 {α:Type}(v:α):N16 α->N16 α:=Qac λa b c d e f g h i j k l m n o _=>⟨a,b,c,d,e,f,g,h,i,j,k,l,m,n,o,v⟩
def N16.put {α:Type}(n:N16 α)(d:D)(v:α):N16 α:=D.rec (motive:=λ_=>α->N16 α->N16 α) N16.set0 N16.set1 N16.set2 N16.set3 N16.set4 N16.set5 N16.set6 N16.set7 N16.set8 N16.set9 N16.set10 N16.set11 N16.set12 N16.set13 N16.set14 N16.set15 d v n
def N16.get_put {α:Type}(n:N16 α)(d q:D)(v:α)[Decidable (q=d)]:(n.put d v).get q=if q=d then v else n.get q:=by
 obtain⟨a0,a1,a2,a3,a4,a5,a6,a7,a8,a9,a10,a11,a12,a13,a14,a15⟩:=n;split;·rename_i h;subst h;cases q<;>rfl
 rename_i h;cases d<;>cases q<;>first | rfl | exact absurd rfl h
def N16.all {α:Type}(v:α):N16 α:=⟨v,v,v,v,v,v,v,v,v,v,v,v,v,v,v,v⟩
def N16.get_all {α:Type}(v:α)(d:D):(N16.all v).get d=v:=by cases d<;>rfl
abbrev E:=N16 (N16 Value)
def Zy (e:E):Env:=λt=>(e.get (dig (Nat.div t 16))).get (dig (Nat.mod t 16))
def QEw (e:E)(d:Nat)(v:Value):E:=e.put (dig (Nat.div d 16)) ((e.get (dig (Nat.div d 16))).put (dig (Nat.mod d 16)) v)
def QAj (e:E)(d:Option Nat)(v:Value):E:=Option.rec (motive:=λ_=>E) e (λd=>QEw e d v) d
def QJG (A B:Env):Prop:=∀t,t<256->A t=B t
open Classical in
def Qr8 (e:E){d t:Nat}(v:Value)(ac:d<256)(ad:t<256):Zy (QEw e d v) t=upd (Zy e) d v t:=by
 have e1:∀x y:Nat,Nat.div x y=x / y:=λ_ _=>rfl;have e2:∀x y:Nat,Nat.mod x y=x % y:=λ_ _=>rfl;simp only[Zy,QEw,upd,Zw,e1,e2];rw[N16.get_put]
 by_cases h:t=d;·subst h;rw[Lc rfl,N16.get_put,Lc rfl];simp
 simp only[h,NE,Ls]
 by_cases q:dig (t / 16)=dig (d / 16);·rw[Lc q,N16.get_put];have ab:=QyW (by omega) (by omega) q;rw[Le (λaa=>h (by have:=QyW (by omega) (by omega) aa;omega)),q]
 rw[Le q]
def Qu2 (e:E){d:Option Nat}(v:Value)(q:QjX 256 d=true):QJG (Zy (QAj e d v)) (JQ (Zy e) d v):=by
 intro t aa;cases d with
 | none=>rfl
 | some d=>exact Qr8 e v (by simpa[QjX] using q) aa
def E.none:E:=N16.all (N16.all undef)
def QAk (t:Nat):Zy E.none t=undef:=by simp only[Zy,E.none,N16.get_all]
def Qr9:List Value->Nat->E->E
 | [],_,e=>e
 | v::vs,i,e=>Qr9 vs (i+1) (QEw e i v)
def Qsa:∀ (l:List Value) (i:Nat) (e:E) (j:Nat),i+l.length<=256->j<256->Zy (Qr9 l i e) j=if i<=j∧j<i+l.length then l.getD (j - i) undef else Zy e j
 | [],i,e,j,_,_=>by simp[Qr9];omega
 | v::l,i,e,j,h,hj=>by
  simp only[Lo]at h;simp only[Qr9];rw[Qsa l (i+1) _ j (by omega) hj,Qr8 e v (by omega) hj];simp only[Lo]
  by_cases q:j=i;·subst q;rw[Le (by omega),Lc ⟨by omega,by omega⟩];simp
  by_cases aa:i+1<=j∧j<i+1+l.length;·rw[Lc aa,Lc ⟨by omega,by omega⟩,show j - i=(j - (i+1))+1 by omega];simp
  rw[Le aa,Le (by omega),Qem _ _ q]
def QAl {l:List Value}(h:l.length<=256):QJG (Zy (Qr9 l 0 E.none)) (QaW l):=by
 intro j q;rw[Qsa l 0 _ j (by omega) q];simp only[QaW,L7,Bz,LP,Nat.sub_zero,QAk];split;·rfl
 rename_i aa;simp[List.getD,N7 (by omega:l.length<=j)]
/-! ### Equality of values and blocks, by a run -/
def GU (eq:Value->Value->Bool):List Value->List Value->Bool
 | [],[]=>true
 | x::xs,y::ys=>eq x y&&GU eq xs ys
 | _,_=>false
def Qkb {eq:Value->Value->Bool}(h:∀x y,eq x y=true->x=y):∀xs ys,GU eq xs ys=true->xs=ys
 | [],[],_=>rfl
 | x::xs,y::ys,hb=>by
  simp only[GU,Lm]at hb;rw[h x y hb.1,Qkb h xs ys hb.2]
 | [],_::_,hb=>by simp[GU]at hb
 | _::_,[],hb=>by simp[GU]at hb
def Qdi:Nat->Value->Value->Bool
 | 0,_,_=>false
 | f+1,x,y=>match x,y with
  | .bool a,.bool b=>a==b
  | .int k a,.int k' b=>decide (k=k')&&decide (a=b)
  | .string a,.string b=>decide (bl a=bl b)
  | .pointer a,.pointer b=>decide (a=b)
  | .slice a l c,.slice a' l' c'=>decide (a=a')&&Nat.beq l l'&&Nat.beq c c'
  | .map a,.map b=>decide (a=b)
  | .nilFunc,.nilFunc=>true
  | .nilIface,.nilIface=>true
  | .iface t v,.iface t' v'=>Nat.beq t t'&&Qdi f v v'
  | .agg xs,.agg ys=>GU (Qdi f) xs.toList ys.toList
  | .tuple xs,.tuple ys=>GU (Qdi f) xs.toList ys.toList
  | .func fn xs zs,.func fn' ys us=>decide (fn=fn')&&GU (Qdi f) xs.toList ys.toList&&GU (Qdi f) zs.toList us.toList
  | _,_=>false
def Qcd:∀ (f:Nat) (x y:Value),Qdi f x y=true->x=y:=by
 intro f
 induction f with
 | zero=>intro x y h;simp[Qdi]at h
 | succ f aa=>
  intro x y h;have q:∀ {xs ys:Array Value},GU (Qdi f) xs.toList ys.toList=true->xs=ys:=λh=>Ru (Qkb aa _ _ h);unfold Qdi at h;split at h;·simp at h;rw[h]
  ·simp only[Lm,Lv]at h;rw[h.1,h.2]
  ·rename_i a b;have h':bl a=bl b:=by simpa using h
   rw[<- QsN a,<- QsN b,h']
  ·simp at h;rw[h]
  ·simp only[Lm,Lv,Zw]at h;rw[h.1.1,h.1.2,h.2]
  ·simp at h;rw[h]
  ·rfl
  ·rfl
  ·simp only[Lm,Lv,Zw]at h;rw[h.1,aa _ _ h.2]
  ·rw[q h]
  ·rw[q h]
  ·simp only[Lm,Lv]at h;rw[h.1.1,q h.1.2,q h.2]
  cases h
def QHu:Option Blk->Option Blk->Bool
 | some (.cells c e r),some (.cells c' e' r')=>Nat.beq e e'&&r==r'&&GU (Qdi 8) c c'
 | none,none=>true
 | _,_=>false
def QEx {x y:Option Blk}(h:QHu x y=true):x=y:=by
 unfold QHu at h;split at h;·simp only[Lm,Zw,Lv,L0]at h;rw[h.1.1,h.1.2,Qkb (Qcd 8) _ _ h.2]
 ·rfl
 cases h
def QEy:Option Value->Value->Bool
 | some x,y=>Qdi 8 x y
 | none,_=>false
def QyX {x:Option Value}{y:Value}(h:QEy x y=true):x=some y:=by
 cases x with
 | none=>simp[QEy]at h
 | some x=>rw[Qcd 8 x y h]
/-! ### Regions that draw their order -/
structure Stp where
 t:Env
 H:Qa
 c:Cls
 v:Value
def J3 (P:Program)(call:WJ)(n:Nat)(ops:Array Oper):List Oper->Env->Qa->Option (List Stp×Env×Qa)
 | [],t,H=>some ([],t,H)
 | o::rest,t,H=>
  bif QfV P n o then
   match Yj n ops t o with
   | some true=>match aop P call o t H with
    | some (c,v,H')=>match J3 P call n ops rest (JQ t o.dst v) H' with
     | some (l,r)=>some (⟨t,H,c,v⟩::l,r)
     | none=>none
    | none=>none
   | some false=>match J3 P call n ops rest (JQ t o.dst undef) H with
    | some (l,r)=>some (⟨t,H,.pure,undef⟩::l,r)
    | none=>none
   | none=>none
  else none
def QEz (o:Oper):Bool:=
 match o.op with
 | .store .. => true
 | .lookup .. => true
 | .mapUpdate .. => true
 | .insert .. => true
 | .next .. => true
 | .entry .. => true
 | .call ⟨.builtin b,_,_⟩=>match b with | .len | .cap | .max | .min | .unsafeSliceData=>false | _=>true
 | .call _=>true
 | _=>false
def Xc (ops:Array Oper)(i:Nat):Bool:=match ops[i]? with | some o=>QEz o | none=>false
def Xd (l:List Stp)(H:Qa)(i:Nat):Qa:=match l[i]? with | some s=>s.H | none=>H
def Qew (P:Program)(ops:Array Oper)(ms:List Nat)(l:List Stp)(H:Qa)(i:Nat)(s:Stp):Bool:=
 Nat.ble s.H.y (Xd l H (i+1)).y &&
 match s.c with
 | .pure=>true
 | .gen=>Xc ops i
 | .load=>match ops[i]? with
  | some o=>match o.op with
   | .load t x=>match ev (s.t) x with
    | .pointer (some a)=>(List.range ops.size).all λk=>!(Xc ops k)||QF ms i k||QF ms k i ||
      (QEy (Yg P t a (Xd l H k)) s.v&&QEy (Yg P t a (Xd l H (k+1))) s.v&&Qp s.H.y 6 s.v)
    | _=>false
   | _=>false
  | none=>false
 | .alloc b=>(List.range ops.size).all λk=>!(Xc ops k)||!(Nat.blt i k)||QF ms i k||QHu ((Xd l H (k+1)).get s.H.y) ((Xd l H k).get s.H.y)
def Ql3 (p:Nat->Stp->Bool):Nat->List Stp->Bool
 | _,[]=>true
 | i,s::l=>p i s&&Ql3 p (i+1) l
def Qng {p:Nat->Stp->Bool}:∀ (l:List Stp) (i:Nat),Ql3 p i l=true->∀ (j:Nat) s,l[j]? = some s->p (i+j) s=true
 | [],_,_,j,s,h=>by simp at h
 | x::l,i,h,j,s,hj=>by
  simp only[Ql3,Lm]at h;cases j with
  | zero=>simp at hj;subst hj;exact h.1
  | succ j=>have:=Qng l (i+1) h.2 j s (by simpa using hj);rwa [show i+1+j=i+(j+1) by omega]at this
def QsX:List Oper->List Stp->E->E
 | o::os,s::ss,e=>QsX os ss (QAj e o.dst s.v)
 | _,_,e=>e
def QoA (P:Program)(call:WJ)(n:Nat)(ops:Array Oper)(t:Env)(H:Qa):Option (List Stp×Env×Qa):=
 bif P.follows .mixedOrders&&QcY ops (Xc ops) then
  match J3 P call n ops ops.toList t H with
  | some (l,t1,H1)=>bif Ql3 (Qew P ops (QL ops.toList []) l H1) 0 l then some (l,t1,H1) else none
  | none=>none
 else none
section
variable {P:Program} {n:Nat} {Q:Ex->Env->Qa->Prop}
def QBU (P:Program)(call:WJ)(n:Nat)(ops:Array Oper)(o:Oper)(s:Stp)(q:Env)(H':Qa):Prop:=
 QfV P n o=true∧q=JQ s.t o.dst s.v∧((Yj n ops (s.t) o=some true∧aop P call o (s.t) s.H=some (s.c,s.v,H'))∨(Yj n ops (s.t) o=some false∧s.c=.pure∧s.v=undef∧H'=s.H))
def Qia {call:WJ}{ops:Array Oper}:∀ (l:List Oper) (t:Env) (H:Qa) (tr:List Stp) (t1:Env) (H1:Qa),J3 P call n ops l t H=some (tr,t1,H1)->
  tr.length=l.length∧(match tr[0]? with | some s=>s.t=t∧s.H=H | none=>t1=t∧H1=H)∧
  ∀ (j:Nat) o s,l[j]? = some o->tr[j]? = some s->QBU P call n ops o s (match tr[j+1]? with | some q=>q.t | none=>t1) (Xd tr H1 (j+1))
 | [],t,H,tr,t1,H1,h=>by simp only[J3,Lt,LB]at h;obtain⟨rfl,rfl,rfl⟩:=h;exact⟨rfl,⟨rfl,rfl⟩,λj o s ac=>by simp at ac⟩
 | o::rest,t,H,tr,t1,H1,h=>by
  have step:∀ (s:Stp) (l:List Stp) (ae:Env) (H':Qa),s.t=t->s.H=H->J3 P call n ops rest ae H'=some (l,t1,H1)->tr=s::l->QBU P call n ops o s ae H'->
    tr.length=(o::rest).length∧(match tr[0]? with | some s=>s.t=t∧s.H=H | none=>t1=t∧H1=H)∧
    ∀ (j:Nat) o' s,(o::rest)[j]? = some o'->tr[j]? = some s->QBU P call n ops o' s (match tr[j+1]? with | some q=>q.t | none=>t1) (Xd tr H1 (j+1)):=by
   intro s l ae H' e1 e2 ad ak aa;obtain⟨am,ab,an⟩:=Qia rest ae H' l t1 H1 ad;subst ak;refine⟨by simp[am],by simp[e1,e2],λj o' q ac ag=>?_⟩;cases j with
   | zero=>
    simp only[Bp,Lt]at ac ag;subst ac;subst ag;have:(match (s::l)[0+1]? with | some q=>q.t | none=>t1)=ae∧Xd (s::l) H1 (0+1)=H':=by
     simp only[Xd,LP,Bg];cases ai:l[0]? with
     | none=>rw[ai]at ab;exact⟨ab.1,ab.2⟩
     | some s1=>rw[ai]at ab;exact⟨ab.1,ab.2⟩
    rw[this.1,this.2];exact aa
   | succ j=>
    have:=an j o' q (by simpa using ac) (by simpa using ag);simpa[Xd] using this
  unfold J3 at h;cases aa:QfV P n o with
  | false=>rw[aa]at h;cases h
  | true=>
   rw[aa]at h;simp only[Lq]at h;split at h
   ·rename_i ah;split at h
    ·rename_i c v H' aj;split at h;·rename_i l r ad;obtain⟨ao,H1'⟩:=r;simp only[Lt,LB]at h;obtain⟨rfl,rfl,rfl⟩:=h;exact step ⟨t,H,c,v⟩ l _ H' rfl rfl ad rfl ⟨aa,rfl,.inl ⟨ah,aj⟩⟩
     cases h
    cases h
   ·rename_i ah;split at h;·rename_i l r ad;obtain⟨ao,H1'⟩:=r;simp only[Lt,LB]at h;obtain⟨rfl,rfl,rfl⟩:=h;exact step ⟨t,H,.pure,undef⟩ l _ H rfl rfl ad rfl ⟨aa,rfl,.inr ⟨ah,rfl,rfl,rfl⟩⟩
    cases h
   cases h
def Qnh {ops:Array Oper}{g ac:Nat->Bool}(h:∀i,i<ops.size->g i=true->ac i=true)(ab:QcY ops ac=true):QcY ops g=true:=by
 unfold QcY at ab ⊢;simp only[Li,LU]at ab ⊢;intro j ad;have q:=ab j ad;split;·rfl
 rename_i o ai;rw[ai]at q;simp only[Lm,Li,LU]at q ⊢;refine⟨q.1,λi hi=>?_⟩;have aa:=q.2 i hi;split;·rfl
 rename_i ak aj;rw[aj]at aa;simp only[Lm]at aa ⊢;refine⟨aa.1,?_⟩;have ah:=aa.2;cases ae:g i with
 | false=>simp
 | true=>
  cases ag:g j with
  | false=>simp
  | true=>simpa[h i hi ae,h j ad ag] using ah
def Qq1 {call:WJ}(aH:Qev P call){id:Nat}{ops:Array Oper}{t t1:Env}{H H1:Qa}{tr:List Stp}(h:QoA P call n ops t H=some (tr,t1,H1))(aP:Q .normal t1 H1):AWp P n (.region id ops true) Q t H:=by
 unfold QoA at h;cases aj:(P.follows .mixedOrders&&QcY ops (Xc ops)) with
 | false=>rw[aj]at h;cases h
 | true=>
  rw[aj]at h;simp only[Lq]at h;simp only[Lm]at aj;obtain⟨aN,aI⟩:=aj;split at h
  ·rename_i l aw H1' aQ;cases am:Ql3 (Qew P ops (QL ops.toList []) l H1') 0 l with
   | false=>rw[am]at h;cases h
   | true=>
    rw[am]at h;simp only[Lq,Lt,LB]at h;obtain⟨rfl,rfl,rfl⟩:=h;obtain⟨s1,s2,s3⟩:=Qia ops.toList t H l aw H1' aQ;have aM:l.length=ops.size:=by simpa using s1
    have an:∀ (j:Nat) s,l[j]? = some s->Qew P ops (QL ops.toList []) l H1' j s=true:=λj s aK=>by have:=Qng l 0 am j s aK;rwa [LP]at this
    let As:Nat->Env:=λi=>match l[i]? with | some s=>s.t | none=>aw
    let Hs:Nat->Qa:=Xd l H1'
    let ai:Nat->Value:=λi=>match l[i]? with | some s=>s.v | none=>undef
    let ae:Nat->Cls:=λi=>match l[i]? with | some s=>s.c | none=>.pure
    have ag:∀ (i:Nat) o,ops[i]? = some o->∃s,l[i]? = some s:=λi o ac=>by
     have:i<l.length:=by rw[aM];exact(Nj.1 ac).1
     exact⟨l[i],La this⟩
    have ap:∀i,i<ops.size->XW (ae i)=true->Xc ops i=true:=λi hi ao=>by
     obtain⟨s,q⟩:=ag i ops[i] (Ng hi);have ab:ae i=s.c:=by simp only[ae,q]
     rw[ab]at ao;have aa:=an i s q;unfold Qew at aa;simp only[Lm]at aa;cases ad:s.c with
     | gen=>rw[ad]at aa;exact aa.2
     | _=>rw[ad]at ao;cases ao
    have F:ZU P n ops As Hs ai ae:=by
     refine⟨λi o ac=>?_,λi hi=>?_,λi o ac=>?_,λi o ac=>?_,Qnh ap aI⟩
     ·obtain⟨s,q⟩:=ag i o ac;have au:=s3 i o s (by simpa using ac) q;have e1:As i=s.t:=by simp only[As,q]
      have e2:ai i=s.v:=by simp only[ai,q]
      rw[e1,e2,<- au.2.1]
     ·obtain⟨s,q⟩:=ag i ops[i] (Ng hi);have aa:=an i s q;unfold Qew at aa;simp only[Lm]at aa;have e1:Hs i=s.H:=by simp only[Hs,Xd,q]
      rw[e1];simpa using aa.1
     ·obtain⟨s,q⟩:=ag i o ac;exact(s3 i o s (by simpa using ac) q).1
     obtain⟨s,q⟩:=ag i o ac;have au:=s3 i o s (by simpa using ac) q;have aa:=an i s q;have e1:As i=s.t:=by simp only[As,q]
     have e2:ai i=s.v:=by simp only[ai,q]
     have e3:Hs i=s.H:=by simp only[Hs,Xd,q]
     have e4:ae i=s.c:=by simp only[ae,q]
     unfold Qw3;rw[e1,e2,e3,e4];rcases au.2.2 with⟨av,aE⟩ | ⟨av,aG,aR,aD⟩
     ·right;refine⟨av,?_⟩;have ab:=Ql2 aH aE;unfold Qew at aa;simp only[Lm]at aa;cases ad:s.c with
      | pure=>rw[ad]at ab;exact ab
      | gen=>rw[ad]at ab;exact ab
      | alloc b=>
       rw[ad]at ab aa;refine⟨ab.1,ab.2,λk ah aJ aq aO=>?_⟩;have:=Li.1 aa.2 k (LU.2 ah);have aF:Nat.blt i k=true:=by simpa using aJ
       simp only[ap k ah aq,aF,aO,L8,Nt]at this;exact QEx this
      | load=>
       rw[ad]at ab aa;obtain⟨aC,aS,x,a,az,ax,aL⟩:=ab;refine⟨aC,aS,x,a,az,ax,aL,λk ah aq o1 o2=>?_⟩;have ar:=aa.2;rw[ac]at ar;simp only[az,ax]at ar;have:=Li.1 ar k (LU.2 ah);simp only[ap k ah aq,o1,o2,L8,Nt,Lm]at this;exact⟨QyX this.1.1,QyX this.1.2,this.2⟩
     left;exact⟨av,aR,aD,aG⟩
    have ay:l[ops.size]? = none:=N7 (by omega);have aB:As ops.size=aw:=by simp only[As,ay]
    have aA:Hs ops.size=H1':=by simp only[Hs,Xd,ay]
    have e0:As 0=t∧Hs 0=H:=by
     cases ak:l[0]? with
     | none=>rw[ak]at s2;simp only[As,Hs,Xd,ak,s2.1,s2.2,RU]
     | some s=>rw[ak]at s2;simp only[As,Hs,Xd,ak,s2.1,s2.2,RU]
    have:=QuW (id:=id) (Q:=Q) aN F (by rw[aB,aA];exact aP);rw[e0.1,e0.2]at this;exact this
  cases h
def Qce {ops:Array Oper}{o:Oper}{rest:List Oper}{A:Env}{H:Qa}{b:Bool}{j:Nat}{ax:Bool}(ae:o.guard=some (j,ax))(q:Yj n ops A o=some b)
  (au:b=true->∃v H',Qt P o A H v H'∧QiZ P n ops rest Q (JQ A o.dst v) H') (ao:b=false->QiZ P n ops rest Q (JQ A o.dst undef) H) (ad:QfV P n o=true):QiZ P n ops (o::rest) Q A H:=by
 intro z ρ w a hs he;have an:Region.wanted o (yielded ops a.tmps)=b:=by
  unfold Yj at q;rw[ae]at q;simp only at q;split at q
  ·rename_i t ar;split at q
   ·rename_i am;have aa:=he.tmps t am;have ag:t<a.tmps.size:=by rw[he.size];exact am
    rw[N0,Ng ag]at aa;simp only[NB]at aa;have ah:=ar;unfold G5 at ah;split at q
    ·rename_i b0 ab;cases q;rw[ab]at aa;have ac:a.tmps[t]? = some (.bool b0):=by rw[Ng ag,aa.plain_eq rfl]
     have ai:yielded ops a.tmps j=some b0:=by unfold yielded;rw[ah];simp[ac]
     simp[Region.wanted,ae,ai]
    ·rename_i ay ab;cases q;rw[ab]at aa;obtain⟨aw,e1,_⟩:=aa.tuple_inv;have ac:a.tmps[t]? = some (.tuple aw):=by rw[Ng ag,e1]
     have ai:yielded ops a.tmps j=none:=by unfold yielded;rw[ah];simp[ac]
     simp[Region.wanted,ae,ai]
    cases q
   cases q
  cases q
 refine wpListIn_step λK aj=>?_;cases b with
 | true=>
  obtain⟨v,H',ap,h⟩:=au rfl;rw[Lc an];refine ap ρ w a hs (he.op hs ad) K _ (λav ρ' w' aa ak aq=>?_) z;have:=h z ρ' w' (a.put o.dst av) aq ((he.step ak).putO (Qgd ad) aa);exact aj _ _ (Qm2 ak this)
 | false=>
  rw[Le (by rw[an];simp)];exact⟨λ_ _=>trivial,aj _ _ (ao rfl z ρ w _ hs (he.putO (Qgd ad) (.closed (by simp[undef,X2]))))⟩
end
inductive Sk where
 | i | b | s
inductive R where
 | mv (x:Operand)
 | pick (c x y:Operand)
 | bin (op:BinOp) (x y:Operand)
 | beq (ne:Bool) (x y:Operand)
 | eqs (ne:Bool) (ks:List Sk) (x y:Operand)
 | not (x:Operand)
 | toInt (k:IntKind) (x:Operand)
 | mkIf (t:TypeId) (x:Operand)
 | fld (agg:Bool) (off size:Nat) (x:Operand)
 | fldA (off:Nat) (x:Operand)
 | idxS (size:Nat) (x ix:Operand)
 | chr (x ix:Operand)
 | ext (x:Operand) (i:Nat)
 | build (z:List Value) (parts:List (Nat×Nat×Operand))
 | bslice (e size len:Nat) (z:List Value) (parts:List (Nat×Operand))
 | alloc (e:TypeId) (z:List Value)
 | box (e:TypeId) (x:Operand)
 | mkSl (e size bytes:Nat) (z:List Value) (x y:Operand)
 | slS (size:Nat) (x:Operand) (lo hi:Option Operand)
 | ld (agg:Bool) (size:Nat) (x:Operand)
 | st (size:Nat) (x y:Operand)
 | stf (size:Nat) (x y:Operand) (os:List Operand)
 | lenS (x:Operand)
 | lenT (x:Operand)
 | app (e size bytes:Nat) (x y:Operand)
 | gen (o:Op)
 | call (f:FuncId) (args:List Operand)
 | callv (c:Operand) (args:List Operand)
 | callF (f:FuncId) (args os:List Operand)
 | callG (f:FuncId) (args os:List Operand)
 | appF (e size bytes:Nat) (x y:Operand) (os:List Operand)
def JS:WJ:=⟨λ_ _ _=>none,λ_ _ _=>none⟩
def Qni (f:Operand->Value):List Value->List (Nat×Nat×Operand)->Option (List Value)
 | cells,[]=>some cells
 | cells,(off,size,x)::rest=>if(f x).cells.toList.length=size∧off+size<=cells.length then Qni f (splice cells off (f x).cells.toList) rest else none
def Jr (e size bytes:Nat)(s x:Value)(H:Qa):Option (Value×Qa):=
 match Zx size x H with
 | none=>none
 | some (m,news)=>
  if news.all (·.oneCell')=true then
   match s with
   | .slice none 0 0=>
    if m=0 then some (.slice none 0 0,H) else
    if m<=9223372036854775807∧m * bytes<=140737488355328 then some (.slice (some ⟨H.y,0,none⟩) m (UNK+size),H.push (.cells news e false)) else none
   | .slice (some a) len cap=>
    if m=0 then(if UNK<=cap∨len<=cap then some (.slice (some a) len cap,H) else none) else
    match H.get a.block with
    | some (.cells c e' ro)=>
     if a.off+len * size<=c.length∧len+m<=9223372036854775807∧(len+m) * bytes<=140737488355328 then
      if UNK<=cap then
       if ro=false∧e'=e∧a.off=0∧a.off+len * size=c.length then some (.slice (some ⟨H.y,0,none⟩) (len+m) (UNK+size),(H.kill a.block).push (.cells (c.drop a.off++news) e false))
       else if ro=false∧cap=UNK+size∧a.off+(len+m) * size<=c.length then some (.slice (some a) (len+m) cap,H.set a.block (.cells (splice c (a.off+len * size) news) e' false)) else none
      else if len+m<=cap then
       (if ro=false∧a.off+(len+m) * size<=c.length then some (.slice (some a) (len+m) cap,H.set a.block (.cells (splice c (a.off+len * size) news) e' false)) else none)
      else some (.slice (some ⟨H.y,0,none⟩) (len+m) (UNK+size),H.push (.cells ((c.drop a.off).take (len * size)++news) e false))
     else none
    | _=>none
   | _=>none
  else none
def Qxb (e:TypeId)(q:TypeInfo)(s x:Value)(H:Qa):QhB e q s x H=Jr e q.size q.bytes s x H:=rfl
def QEA:Sk->Value->Value->Option Bool
 | .i,.int k a,.int k' b=>if k=k' then some (a==b) else none
 | .b,.bool a,.bool b=>some (a==b)
 | .s,.string a,.string b=>some (bl a==bl b)
 | _,_,_=>none
def QaG:List Sk->Array Value->Array Value->Nat->Option Bool
 | [],_,_,_=>some true
 | k::ks,xs,ys,i=>match xs[i]?,ys[i]? with
  | some a,some b=>match QEA k a b with
   | some true=>QaG ks xs ys (i+1)
   | r=>r
  | _,_=>none
def G9 (op:BinOp)(x y:Value):Option Value:=
 match x,y with
 | .int ik a,.int ik' b=>match op with
  | .shl | .shr=>VB op ik a b
  | _=>if ik=ik' then YK op ik a b else none
 | .string a,.string b=>Qi2 op (bl a) (bl b)
 | _,_=>none
def Qgl (H:Qa):Option Value->Option (Value×Qa)
 | some v=>some (v,H)
 | none=>none
def Qsb (f:Operand->Value):Option Operand->Option (Option Int)
 | none=>some none
 | some x=>match f x with | .int _ m=>some (some m) | _=>none
def rop (P:Program)(r:R)(A:Env)(H:Qa):Option (Value×Qa):=
 match r with
 | .mv x=>some (ev A x,H)
 | .pick c x y=>match ev A c with | .bool t=>some (bif t then ev A x else ev A y,H) | _=>none
 | .bin op x y=>Qgl H (G9 op (ev A x) (ev A y))
 | .beq ne x y=>match ev A x,ev A y with
  | .bool a,.bool b=>some (.bool (bif ne then !(a==b) else a==b),H)
  | _,_=>none
 | .eqs ne m x y=>match ev A x,ev A y with
  | .agg xs,.agg ys=>match QaG m xs ys 0 with | some b=>some (.bool (bif ne then !b else b),H) | none=>none
  | _,_=>none
 | .not x=>match ev A x with | .bool b=>some (.bool !b,H) | _=>none
 | .toInt k x=>match ev A x with | .int _ m=>some (.int k (k.wrap m),H) | _=>none
 | .mkIf t x=>some (.iface t (ev A x),H)
 | .fld agg off size x=>match ev A x with
  | .agg cs=>Qgl H (bif agg then some (.agg (cs.extract off (off+size))) else cs[off]?)
  | _=>none
 | .fldA off x=>match ev A x with | .pointer (some a)=>some (.pointer (some ⟨a.block,a.off+off,none⟩),H) | _=>none
 | .idxS size x q=>match ev A q,ev A x with
  | .int _ m,.slice (some a) len _=>if 0<=m∧m<len then some (.pointer (some ⟨a.block,a.off+m.toNat * size,none⟩),H) else none
  | _,_=>none
 | .chr x q=>match ev A q,ev A x with
  | .int _ m,.string s=>if 0<=m then(match (bl s)[m.toNat]? with | some b=>some (.int .u8 b.toNat,H) | none=>none) else none
  | _,_=>none
 | .ext x i=>match ev A x with | .tuple ab=>Qgl H ab[i]? | _=>none
 | .build z aa=>match Qni (ev A) z aa with | some r=>some (.agg r.toArray,H) | none=>none
 | .bslice e size len z aa=>match Qca (λi=>some (i * size,size)) z (aa.map λp=>(p.1,ev A p.2)) with
  | some r=>some (.slice (some ⟨H.y,0,none⟩) len len,H.push (.cells r e false))
  | none=>none
 | .alloc e z=>some (.pointer (some ⟨H.y,0,none⟩),H.push (.cells z e false))
 | .box e x=>some (.pointer (some ⟨H.y,0,none⟩),H.push (.cells (ev A x).cells.toList e false))
 | .mkSl e size bytes z x y=>match ev A x,ev A y with
  | .int .i64 l,.int .i64 c=>if 0<=l∧l<=c∧(bytes:Int) * c<=281474976710656∧c<=9223372036854775807 then
    some (.slice (some ⟨H.y,0,none⟩) l.toNat c.toNat,H.push (.cells (XV z.toArray (c.toNat * size)) e false)) else none
  | _,_=>none
 | .slS size x lo hi=>match Qsb (ev A) lo,Qsb (ev A) hi with
  | some l,some h=>Qgl H (Yh size (ev A x) l h none)
  | _,_=>none
 | .ld agg size x=>match ev A x with
  | .pointer (some a)=>match H.get a.block with
   | some (.cells c _ _)=>bif agg then(if a.off+size<=c.length then some (.agg ((c.drop a.off).take size).toArray,H) else none) else Qgl H c[a.off]?
   | _=>none
  | _=>none
 | .st size x y=>match ev A x with
  | .pointer (some a)=>match H.get a.block with
   | some (.cells c e false)=>if(ev A y).cells.toList.length=size∧a.off+(ev A y).cells.toList.length<=c.length∧(ev A y).cells.toList.all (·.oneCell')=true then some (undef,H.set a.block (.cells (splice c a.off (ev A y).cells.toList) e false)) else none
   | _=>none
  | _=>none
 | .stf size x y _=>match ev A x with
  | .pointer (some a)=>match H.get a.block with
   | some (.cells c e false)=>if(ev A y).cells.toList.length=size∧a.off+(ev A y).cells.toList.length<=c.length∧(ev A y).cells.toList.all (·.oneCell')=true then some (undef,H.set a.block (.cells (splice c a.off (ev A y).cells.toList) e false)) else none
   | _=>none
  | _=>none
 | .lenS x=>match ev A x with | .slice _ m _=>some (.int .i64 (m:Int),H) | _=>none
 | .lenT x=>match ev A x with | .string s=>some (.int .i64 ((bl s).length:Int),H) | _=>none
 | .app e size bytes x y=>Jr e size bytes (ev A x) (ev A y) H
 | .gen o=>match aop P JS ⟨none,o,0, "",#[],none⟩ A H with | some (_,v,H')=>some (v,H') | none=>none
 | .call _ _=>none
 | .callv _ _=>none
 | .callF _ _ _=>none
 | .callG _ _ _=>none
 | .appF _ _ _ _ _ _=>none
/-! ### Resolving -/
def Qkc (P:Program):List Field->Nat->Option (List Sk)
 | [],_=>some []
 | fd::fs,i=>
  if fd.name = "_" ∨ fd.offset≠i then none else
  match P.info? fd.type,Qkc P fs (i+1) with
  | some _,some ks=>match P.underlying fd.type with
   | some (.int _)=>some (.i::ks)
   | some .bool=>some (.b::ks)
   | some .string=>some (.s::ks)
   | _=>none
  | _,_=>none
def Qkd (pl:Array (Nat×Nat)):List (Nat×Operand)->Option (List (Nat×Nat×Operand))
 | []=>some []
 | (i,x)::rest=>match pl[i]?,Qkd pl rest with
  | some (off,size),some l=>some ((off,size,x)::l)
  | _,_=>none
def Wk (P:Program)(op:Op):R:=
 match op with
 | .move x=>.mv x
 | .assign x=>.mv x
 | .pick c x y=>.pick c x y
 | .binOp b t x y _=>
  match P.underlying t with
  | some (.int _) | some .string=>.bin b x y
  | some .bool=>match b with | .eql=>.beq false x y | .neq=>.beq true x y | _=>.gen op
  | some (.struct fs)=>if P.stoodInHeld t||P.eqGuardType P.depth t then .gen op else match Qkc P fs.toList 0 with
   | some ks=>(match b with | .eql=>.eqs false ks x y | .neq=>.eqs true ks x y | _=>.gen op)
   | none=>.gen op
  | _=>.gen op
 | .unOp .not _ x=>.not x
 | .convert src ac x=>match P.underlying src,P.underlying ac with
  | some (.int _),some (.int k)=>.toInt k x
  | _,_=>.gen op
 | .makeInterface t x=>match P.underlying t with
  | some (.interface _)=>.gen op
  | some _=>.mkIf t x
  | none=>.gen op
 | .field t x f=>match P.underlying t with
  | some (.struct fs)=>match fs[f]? with
   | some fd=>match P.underlying fd.type,P.info? fd.type with
    | some td,some q=>.fld (JR td) fd.offset q.size x
    | _,_=>.gen op
   | none=>.gen op
  | _=>.gen op
 | .fieldAddr t x f=>match P.underlying t with
  | some (.struct fs)=>match fs[f]? with
   | some fd=>match P.info? fd.type with
    | some q=>if q.size=0 then .gen op else .fldA fd.offset x
    | none=>.gen op
   | none=>.gen op
  | _=>.gen op
 | .indexAddr t x aa=>match P.underlying t with
  | some (.slice e)=>match P.info? e with
   | some q=>.idxS q.size x aa
   | none=>.gen op
  | _=>.gen op
 | .index t x aa=>match P.underlying t with
  | some .string=>.chr x aa
  | _=>.gen op
 | .extract x i=>.ext x i
 | .build t ab=>match P.underlying t,P.info? t with
  | some (.struct fs),some q=>match q.zero,Qj4 P fs with
   | some z,some pl=>if z.cells.toList.all plain then(match Qkd pl ab.toList with | some l=>.build z.cells.toList l | none=>.gen op) else .gen op
   | _,_=>.gen op
  | _,_=>.gen op
 | .buildSlice t len ab=>match P.underlying t with
  | some (.slice e)=>match P.info? e with
   | some q=>match q.zero with
    | some z=>if z.cells.toList.all plain&&Nat.blt 0 z.cells.size&&Nat.ble len 16777216&&Nat.ble (len * q.size) 16777216 then .bslice e q.size len (XV z.cells (len * q.size)) ab.toList else .gen op
    | none=>.gen op
   | none=>.gen op
  | _=>.gen op
 | .alloc e=>match P.info? e with
  | some q=>match q.zero with
   | some z=>if z.cells.toList.all plain then .alloc e z.cells.toList else .gen op
   | none=>.gen op
  | none=>.gen op
 | .makeSlice t x y=>match P.underlying t with
  | some (.slice e)=>match P.info? e with
   | some q=>match q.zero with
    | some z=>if Qeo P e q z then .mkSl e q.size q.bytes z.cells.toList x y else .gen op
    | none=>.gen op
   | none=>.gen op
  | _=>.gen op
 | .slice t x lo hi none=>match P.underlying t with
  | some (.slice e)=>match P.info? e with
   | some q=>.slS q.size x lo hi
   | none=>.gen op
  | _=>.gen op
 | .load t x=>match P.underlying t,P.info? t with
  | some d,some q=>.ld (JR d) q.size x
  | _,_=>.gen op
 | .store t x y=>match P.info? t with
  | some q=>.st q.size x y
  | none=>.gen op
 | .call ⟨.builtin .len,args,ts⟩=>match args.toList,ts.toList with
  | [x],[t]=>match P.underlying t with
   | some (.slice _)=>.lenS x
   | some .string=>.lenT x
   | _=>.gen op
  | _,_=>.gen op
 | .call ⟨.builtin .append,args,ts⟩=>match args.toList,ts.toList with
  | [x,y],[t,t2]=>match P.underlying t,P.underlying t2 with
   | some (.slice e),some td=>match P.info? e with
    | some q=>match q.zero with
     | some z=>if Qgg td&&Qeo P e q z then .app e q.size q.bytes x y else .gen op
     | none=>.gen op
    | none=>.gen op
   | _,_=>.gen op
  | _,_=>.gen op
 | .call ⟨.value (.func f),args,_⟩=>.call f args.toList
 | .call ⟨.value c,args,_⟩=>.callv c args.toList
 | .box e x=>.box e x
 | op=>.gen op
section
variable {P:Program} {A:Env} {H:Qa}
def Qsc (P:Program)(op:Op)(A:Env)(H:Qa)(v:Value)(H':Qa):Prop:=∃c,aop P JS ⟨none,op,0, "",#[],none⟩ A H=some (c,v,H')
def QAm {op:Op}{v:Value}{H':Qa}(h:rop P (.gen op) A H=some (v,H')):Qsc P op A H v H':=by
 simp only[rop]at h;split at h;·rename_i c aa H1 q;simp only[Lt,LB]at h;obtain⟨rfl,rfl⟩:=h;exact⟨c,q⟩
 cases h
def Qdj {r:Option Value}{v:Value}{H':Qa}(h:Qgl H r=some (v,H')):r=some v∧H'=H:=by
 cases r with
 | none=>cases h
 | some u=>simp[Qgl]at h;exact⟨by rw[h.1],h.2.symm⟩
def QAn {op:BinOp}{t:TypeId}{x y v:Value}{k:Bool}(h:G9 op x y=some v):Qu1 P k op t x y=some v:=by
 unfold G9 at h;split at h;·exact h
 ·exact h
 cases h
def QEB (P:Program)(t:TypeId):Sk->Prop
 | .i=>∃ik,P.underlying t=some (.int ik)
 | .b=>P.underlying t=some .bool
 | .s=>P.underlying t=some .string
def Qu3 {f:Nat}{t:TypeId}{k:Sk}{a b:Value}{r:Bool}(h:QEA k a b=some r)(q:QEB P t k):aeq P (f+1) t a b=some r:=by
 unfold QEA at h;split at h;·obtain⟨ik,aa⟩:=q;simp only[aeq,aa];exact h
 ·simp only[QEB]at q;simp only[aeq,q];exact h
 ·simp only[QEB]at q;simp only[aeq,q];exact h
 cases h
def Qnj {f:Nat}:∀ (aa:List Field) (i:Nat) (ks:List Sk) (xs ys:Array Value) (b:Bool),Qkc P aa i=some ks->QaG ks xs ys i=some b->WZ P (aeq P (f+1)) aa xs ys=some b
 | [],i,ks,xs,ys,b,hs,h=>by simp only[Qkc,Lt]at hs;subst hs;simpa[QaG,WZ] using h
 | fd::aa,i,ks,xs,ys,b,hs,h=>by
  unfold Qkc at hs;split at hs;·cases hs
  rename_i ab;simp only[not_or,Decidable.not_not]at ab;split at hs
  ·rename_i an ag hi am;have ac:∀k,(∀zs:Array Value,Gd P fd.type zs fd.offset=zs[i]?)->QEB P fd.type k->
     QaG (k::ag) xs ys i=some b->WZ P (aeq P (f+1)) (fd::aa) xs ys=some b:=λk ad ae h=>by
    unfold QaG at h;unfold WZ;rw[Le ab.1,ad,ad];split at h
    ·rename_i a c ah ai;rw[ah,ai];simp only;split at h;·rename_i aj;rw[Qu3 aj ae];exact Qnj aa (i+1) ag xs ys b am h
     rename_i r ak;have:=Qu3 (f:=f) h ae;rw[this];cases b with
     | true=>exact absurd h ak
     | false=>rfl
    cases h
   split at hs;·rename_i ik q;cases hs;exact ac .i (λzs=>by simp[Gd,q,hi,JR,ab.2]) ⟨ik,q⟩ h
   ·rename_i q;cases hs;exact ac .b (λzs=>by simp[Gd,q,hi,JR,ab.2]) q h
   ·rename_i q;cases hs;exact ac .s (λzs=>by simp[Gd,q,hi,JR,ab.2]) q h
   cases hs
  cases hs
def Qnk {pl:Array (Nat×Nat)}:∀ (q:List (Nat×Operand)) (l:List (Nat×Nat×Operand)) (cells:List Value),Qkd pl q=some l->Qca (pl[·]?) cells (q.map λp=>(p.1,ev A p.2))=Qni (ev A) cells l
 | [],l,cells,h=>by simp only[Qkd,Lt]at h;subst h;rfl
 | (i,x)::rest,l,cells,h=>by
  unfold Qkd at h;split at h;·rename_i off size ac aa ab;cases h;simp only[NZ,Qca,Qni,aa];rw[Qnk rest ac _ ab]
  cases h
set_option maxHeartbeats 2000000 in
def Qxc {op:Op}{v:Value}{H':Qa}(h:rop P (Wk P op) A H=some (v,H')):Qsc P op A H v H':=by
 have gen:rop P (.gen op) A H=some (v,H')->Qsc P op A H v H':=QAm;unfold Wk at h;split at h
 case h_1 x=>simp only[rop,Lt,LB]at h;obtain⟨rfl,rfl⟩:=h;exact⟨_,rfl⟩
 case h_2 x=>simp only[rop,Lt,LB]at h;obtain⟨rfl,rfl⟩:=h;exact⟨_,rfl⟩
 case h_3 c x y=>
  simp only[rop]at h;split at h;·rename_i t ak;simp only[Lt,LB]at h;obtain⟨rfl,rfl⟩:=h;exact⟨.pure,by simp only[aop,QsW,ak]⟩
  cases h
 case h_4 b t x y yt=>
  have bin:rop P (.bin b x y) A H=some (v,H')->Qsc P (.binOp b t x y yt) A H v H':=λh=>by
   obtain⟨ae,rfl⟩:=Qdj h;exact⟨.pure,by simp only[aop,Qeu,QAn ae,Zk]⟩
  split at h;·exact bin h
  ·exact bin h
  ·rename_i aa;have beq:∀ne:Bool,(b=bif ne then .neq else .eql)->rop P (.beq ne x y) A H=some (v,H')->Qsc P (.binOp b t x y yt) A H v H':=λne am h=>by
    simp only[rop]at h;split at h
    ·rename_i p q ah av;simp only[Lt,LB]at h;obtain⟨rfl,rfl⟩:=h;refine⟨.pure,?_⟩;have ai:∀k,ZH P k t (.bool p) (.bool q)=true:=λk=>by simp[ZH,Qj5,QuS]
     simp only[aop,Qeu,Qu1,ah,av,Qo3,VS,ai,Bj,N3,am];cases ne<;>simp[aeq,aa,Zk]
    cases h
   split at h;·exact beq false rfl h
   ·exact beq true rfl h
   exact gen h
  ·rename_i aq aa;split at h;·exact gen h
   rename_i ac;simp only[Nw,not_or,Bool.not_eq_true]at ac;split at h
   ·rename_i ks aG;have eqs:∀ne:Bool,(b=bif ne then .neq else .eql)->rop P (.eqs ne ks x y) A H=some (v,H')->Qsc P (.binOp b t x y yt) A H v H':=λne am h=>by
     simp only[rop]at h;split at h
     ·rename_i p q ah av;split at h
      ·rename_i r ap;simp only[Lt,LB]at h;obtain⟨rfl,rfl⟩:=h;refine⟨.pure,?_⟩;have ai:∀k,ZH P k t (.agg p) (.agg q)=true:=λk=>by simp[ZH,Qj5,ac.2]
       have ab:=Qnj (f:=18) aq.toList 0 ks p q r aG ap;have az:aeq P 20 t (.agg p) (.agg q)=some r:=by
        unfold aeq;rw[aa];simp only[ac.1,LV,LN];exact ab
       simp only[aop,Qeu,Qu1,ah,av,Qo3,VS,ai,Bj,N3,am];cases ne<;>simp[az,Zk]
      cases h
     cases h
    split at h;·exact eqs false rfl h
    ·exact eqs true rfl h
    exact gen h
   exact gen h
  exact gen h
 case h_5 t x=>
  simp only[rop]at h;split at h;·rename_i p ah;simp only[Lt,LB]at h;obtain⟨rfl,rfl⟩:=h;exact⟨.pure,by simp only[aop,Qxa,ah,QrY,Zk]⟩
  cases h
 case h_6 src dst x=>
  split at h
  ·rename_i ik k aw ar;simp only[rop]at h;split at h;·rename_i aM m ao;simp only[Lt,LB]at h;obtain⟨rfl,rfl⟩:=h;exact⟨.pure,by simp only[aop,Qdh,aw,ar,ao,Qot,Zk]⟩
   cases h
  exact gen h
 case h_7 t x=>
  split at h;·exact gen h
  ·rename_i ax aL aa;simp only[rop,Lt,LB]at h;obtain⟨rfl,rfl⟩:=h;refine⟨.pure,?_⟩;simp only[aop,Ky,aa]
  exact gen h
 case h_8 t x f=>
  split at h
  ·rename_i aq aa;split at h
   ·rename_i fd au;split at h
    ·rename_i ax ad ar hi;simp only[rop]at h;split at h;·rename_i cs aB;obtain⟨ae,rfl⟩:=Qdj h;refine⟨.pure,?_⟩;simp only[aop,Qov,aa,aB,au,Gd,ar,hi];cases aj:JR ax<;>rw[aj]at ae<;>simp only[Lq,Ls]at ae<;>simp[ae,Zk]
     cases h
    exact gen h
   exact gen h
  exact gen h
 case h_9 t x f=>
  split at h
  ·rename_i aq aa;split at h
   ·rename_i fd au;split at h
    ·rename_i ad hi;split at h;·exact gen h
     rename_i ag;simp only[rop]at h;split at h
     ·rename_i a ab;simp only[Lt,LB]at h;obtain⟨rfl,rfl⟩:=h;refine⟨.pure,?_⟩;have:Nat.beq ad.size 0=false:=by simp[Zw,ag]
      simp only[aop,KR,aa,ab,au,hi,this,Ls]
     cases h
    exact gen h
   exact gen h
  exact gen h
 case h_10 t x ix=>
  split at h
  ·rename_i e aa;split at h
   ·rename_i ad hi;simp only[rop]at h;split at h
    ·rename_i ik m a len cap ao ab;split at h;·rename_i ac;simp only[Lt,LB]at h;obtain⟨rfl,rfl⟩:=h;exact⟨.pure,by simp only[aop,ZV,ao,aa,ab,hi,ac,RU,N3]⟩
     cases h
    cases h
   exact gen h
  exact gen h
 case h_11 t x ix=>
  split at h
  ·rename_i aa;simp only[rop]at h;split at h
   ·rename_i ik m s ao aw;split at h
    ·rename_i ay;split at h;·rename_i b am;simp only[Lt,LB]at h;obtain⟨rfl,rfl⟩:=h;exact⟨.pure,by simp only[aop,Qj8,ao,aa,aw,ay,N3,am]⟩
     cases h
    cases h
   cases h
  exact gen h
 case h_12 x i=>
  simp only[rop]at h;split at h;·rename_i aN aK;obtain⟨ae,rfl⟩:=Qdj h;exact⟨.pure,by simp only[aop,QhC,aK,ae,Zk]⟩
  cases h
 case h_13 t parts=>
  split at h
  ·rename_i aq ad aa hi;split at h
   ·rename_i z pl ag aI;split at h
    ·rename_i ah;split at h
     ·rename_i l an;simp only[rop]at h;split at h;·rename_i r ap;simp only[Lt,LB]at h;obtain⟨rfl,rfl⟩:=h;have:=Qnk (A:=A) parts.toList l z.cells.toList an;rw[ap]at this;exact⟨.pure,by simp only[aop,Qow,aa,hi,ag,aI,ah,Lq,YG,this,Dh,Zk]⟩
      cases h
     exact gen h
    exact gen h
   exact gen h
  exact gen h
 case h_14 t len parts=>
  split at h
  ·rename_i e aa;split at h
   ·rename_i ad hi;split at h
    ·rename_i z ag;split at h
     ·rename_i ac;simp only[rop]at h;split at h;·rename_i r ap;simp only[Lt,LB]at h;obtain⟨rfl,rfl⟩:=h;exact⟨.alloc _,by simp only[aop,QaF,aa,hi,ag,ac,Lq,YG,ap];rfl⟩
      cases h
     exact gen h
    exact gen h
   exact gen h
  exact gen h
 case h_15 e=>
  split at h
  ·rename_i ad hi;split at h
   ·rename_i z ag;split at h;·rename_i ah;simp only[rop,Lt,LB]at h;obtain⟨rfl,rfl⟩:=h;exact⟨.alloc _,by simp only[aop,Qox,hi,ag,ah,Lq];rfl⟩
    exact gen h
   exact gen h
  exact gen h
 case h_16 t x y=>
  split at h
  ·rename_i e aa;split at h
   ·rename_i ad hi;split at h
    ·rename_i z ag;split at h
     ·rename_i aC;simp only[rop]at h;split at h
      ·rename_i l c an ac;split at h;·rename_i aA;simp only[Lt,LB]at h;obtain⟨rfl,rfl⟩:=h;refine⟨.alloc (.cells (XV z.cells (c.toNat * ad.size)) e false),?_⟩;simp only[aop,Qcc,aa,an,ac,hi,ag];rw[Lc ⟨aC,aA⟩]
       cases h
      cases h
     exact gen h
    exact gen h
   exact gen h
  exact gen h
 case h_17 t x lo hi=>
  split at h
  ·rename_i e aa;split at h
   ·rename_i ad aF;simp only[rop]at h;split at h
    ·rename_i l aD an aE;obtain⟨ae,rfl⟩:=Qdj h;have e1:Wx A lo=some l:=by rw[<- an];cases lo<;>rfl
     have e2:Wx A hi=some aD:=by rw[<- aE];cases hi<;>rfl
     have e3:Wx A none=some none:=rfl;exact⟨.pure,by simp only[aop,Qj9,aa,aF,e1,e2,e3,RV,N1,N3,ae,Zk]⟩
    cases h
   exact gen h
  exact gen h
 case h_18 t x=>
  split at h
  ·rename_i d ad aa hi;simp only[rop]at h;split at h
   ·rename_i a ab;split at h
    ·rename_i c e ro ai;cases aj:JR d with
     | true=>
      rw[aj]at h;simp only[Lq]at h;split at h;·rename_i aH;simp only[Lt,LB]at h;obtain⟨rfl,rfl⟩:=h;exact⟨.load,by simp only[aop,Qpb,ab,Yg,aa,hi,ai,aj,N3,aH]⟩
      cases h
     | false=>
      rw[aj]at h;obtain⟨ae,rfl⟩:=Qdj h;exact⟨.load,by simp only[aop,Qpb,ab,Yg,aa,hi,ai,aj,LV,LN,ae]⟩
    cases h
   cases h
  exact gen h
 case h_19 t x y=>
  split at h
  ·rename_i ad hi;simp only[rop]at h;split at h
   ·rename_i a ab;split at h
    ·rename_i c e ai;split at h;·rename_i ac;simp only[Lt,LB]at h;obtain⟨rfl,rfl⟩:=h;refine⟨.gen,?_⟩;simp only[aop,Qka,ab,Qi1,hi,ai];rw[Lc ac]
     cases h
    cases h
   cases h
  exact gen h
 case h_20 args ts=>
  split at h
  ·rename_i x t ab ak;split at h
   ·rename_i e aa;simp only[rop]at h;split at h;·rename_i q m c hx;simp only[Lt,LB]at h;obtain⟨rfl,rfl⟩:=h;exact⟨.pure,by simp only[aop,Qgj,ab,ak,QBG,aa,hx]⟩
    cases h
   ·rename_i aa;simp only[rop]at h;split at h;·rename_i s hx;simp only[Lt,LB]at h;obtain⟨rfl,rfl⟩:=h;exact⟨.pure,by simp only[aop,Qgj,ab,ak,QBG,aa,hx]⟩
    cases h
   exact gen h
  exact gen h
 case h_21 args ts=>
  split at h
  ·rename_i x y t t2 ab ak;split at h
   ·rename_i e ax aa aJ;split at h
    ·rename_i ad hi;split at h
     ·rename_i z ag;split at h;·rename_i ac;simp only[rop]at h;refine⟨.gen,?_⟩;simp only[aop,Qgj,ab,ak,aa,aJ,hi,ag,ac,Lq,Qxb,h,Dh]
      exact gen h
     exact gen h
    exact gen h
   exact gen h
  exact gen h
 case h_22=>cases h
 case h_23=>cases h
 case h_24 e x=>simp only[rop,Lt,LB]at h;obtain⟨rfl,rfl⟩:=h;exact⟨.alloc _,rfl⟩
 case h_25=>exact gen h
end
def Rep (n:Nat)(A:Env)(e:E):Prop:=∀t,t<n->A t=Zy e t
structure Ks (α:Type) where
 ret:E->Qa->α
 ext:Nat->E->Qa->α
 jmp:Nat->E->Qa->α
 pan:Value->E->Qa->α
abbrev KT (α:Type):=Ks α->(E->Qa->α)->E->Qa->α
section
variable (α:Type) (bad:α) (P:Program) (call:WJ) (n F:Nat)
def QJJ (k:E->Qa->α)(e:E)(d:Option Nat)(r:Cls×Value×Qa):α:=
 Prod.rec (motive:=λ_=>α) (λ_ q=>Prod.rec (motive:=λ_=>α) (λv H=>k (QAj e d v) H) q) r
def QED (o:Oper)(k:E->Qa->α)(e:E)(H:Qa):α:=
 Option.rec (motive:=λ_=>α) bad (QJJ α k e o.dst) (aop P call o (Zy e) H)
def Qxh (ops:Array Oper)(o:Oper)(k:E->Qa->α)(e:E)(H:Qa):α:=
 Option.rec (motive:=λ_=>α) bad (λb=>Bool.rec (motive:=λ_=>α) (k (QAj e o.dst undef) H) (QED α bad P call o k e H) b) (Yj n ops (Zy e) o)
def Qxi (ops:Array Oper)(ks:Ks α)(o:Oper)(k:E->Qa->α)(e:E)(H:Qa):α:=
 Bool.rec (motive:=λ_=>α) bad (Option.rec (motive:=λ_=>α) (QED α bad P call o k e H) (λ_=>Qxh α bad P call n ops o k e H) o.guard) (QfV P n o)
def Qsd (ops:Array Oper)(ks:Ks α)(l:List Oper):(E->Qa->α)->E->Qa->α:=
 List.rec (motive:=λ_=>(E->Qa->α)->E->Qa->α) (λk=>k) (λo _ q k=>Qxi α bad P call n ops ks o (q k)) l
def Qxj (ops:Array Oper)(k:E->Qa->α)(e:E)(H:Qa):α:=
 match QoA P call n ops (Zy e) H with
 | some (l,_,H1)=>k (QsX ops.toList l e) H1
 | none=>bad
def QBW (_:Nat)(ops:Array Oper)(q:Bool):KT α:=λks k=>
 Bool.rec (motive:=λ_=>E->Qa->α) (Qsd α bad P call n ops ks ops.toList k) (Qxj α bad P call n ops k) q
def vb (v:Value)(t f:α):α:=
 match v with
 | .bool b=>Bool.rec (motive:=λ_=>α) f t b
 | _=>bad
def Qxk (x:Operand)(_ _:Code)(q aa:KT α):KT α:=λks k e H=>
 Bool.rec (motive:=λ_=>α) bad (vb α bad (ev (Zy e) x) (q ks k e H) (aa ks k e H)) (Qb8 P n x)
def QBX:KT α:=λ_ k=>k
def QJK (_ _:Code)(q aa:KT α):KT α:=λks k=>q ks (aa ks k)
def QEE (id:Nat)(_:Code)(q:KT α):KT α:=λks k=>
 q ⟨ks.ret,λj=>Bool.rec (motive:=λ_=>E->Qa->α) (ks.ext j) k (Nat.beq j id),ks.jmp,ks.pan⟩ k
def QHy (_:Code)(q:KT α):KT α:=λks _=>
 Nat.rec (motive:=λ_=>E->Qa->α) (λ_ _=>bad) (λ_ k=>q ks k) F
def Qy0:KT α:=λ_ _ _ _=>bad
def QHz (id:Nat):KT α:=λks _=>ks.ext id
def QHA (l:Nat):KT α:=λks _=>ks.jmp l
def QJL:KT α:=λks _=>ks.ret
def Qxl (q:Code->KT α)(body:Code)(ks:Ks α)(k:E->Qa->α)(m:Nat):Code->E->Qa->α:=
 Nat.rec (motive:=λ_=>Code->E->Qa->α) (λ_ _ _=>bad)
  (λ_ aa rest=>q rest ⟨ks.ret,ks.ext,λl=>Option.rec (motive:=λ_=>E->Qa->α) (ks.jmp l) aa (findLabel body l),ks.pan⟩ k) m
def QEF (q:Code->KT α)(body:Code)(_:KT α):KT α:=λks k=>Qxl α bad q body ks k F body
def Qxm (A:Env)(ks:Ks α)(k:E->Qa->α)(e:E)(l:Nat)(H2:Qa):α:=
 match H2.get l with
 | some (.loop _ _ _ _ _ st)=>(match st with
  | none=>k e (H2.kill l)
  | some .ret=>ks.ret e (H2.kill l)
  | some (.exit id)=>ks.ext id e (H2.kill l)
  | some (.goto t)=>ks.jmp t e (H2.kill l)
  | _=>bad)
 | _=>bad
def Qxn (q:FuncId)(xs ys:Array Value)(ac:Array Tmp)(aa ab:Code)(ks:Ks α)(k:E->Qa->α)(e:E)(H:Qa):α:=
 Bool.rec (motive:=λ_=>α) bad (Option.rec (motive:=λ_=>α) bad (λr=>Qxm α bad (Zy e) ks k e H.y r.2) (call.fn q (xs.toList++[.func (.yield H.y) #[] #[]]++ys.toList) (H.push (.loop (Zy e) n ac aa ab none)))) (entered P q)
def Qgn (g:Operand)(ab:Array Tmp)(q aa:Code)(_ _:KT α):KT α:=λks k e H=>
 Bool.rec (motive:=λ_=>α) bad (match ev (Zy e) g with
  | .func (.func gf) xs ys=>Qxn α bad P call n gf xs ys ab q aa ks k e H
  | _=>bad) (Qb8 P n g)
def QHB (q:Code->KT α)(c:Code):KT α:=
 Code.rec (motive:=λ_=>KT α) (QBX α) (QBW α bad P call n) (QJK α) (Qxk α bad P n) (QEE α) (QHy α bad F) (Qgn α bad P call n) (QHz α) (QEF α bad F q)
  (λ_=>QBX α) (QHA α) (QJL α) (λ_=>Qy0 α bad) c
def exec (G:Nat):Code->KT α:=
 Nat.rec (motive:=λ_=>Code->KT α) (λ_=>Qy0 α bad) (λ_ q=>QHB α bad P call n F q) G
end
section
variable {α:Type} {bad:α} {P:Program} {call:WJ} {n F:Nat} {Q:Ex->Env->Qa->Prop} {A B:Env} {H:Qa}
def QaU.rep {z:Rd}{ρ:Ren}{w:World}{a:Act}(h:∀t,t<n->A t=B t)(q:QaU z ρ H w n B a):QaU z ρ H w n A a:=⟨⟨q.size,λt aa=>by rw[h t aa];exact q.tmps t aa⟩,q.fr⟩
def AWp.rep {c:Code}(h:∀t,t<n->A t=B t)(ab:AWp P n c Q A H):AWp P n c Q B H:=λz ρ w a aa q=>ab z ρ w a aa (q.rep h)
def QiZ.rep {ops:Array Oper}{l:List Oper}(h:∀t,t<n->A t=B t)(ab:QiZ P n ops l Q A H):QiZ P n ops l Q B H:=λz ρ w a aa q=>ab z ρ w a aa (q.rep h)
def Qgi.rep {c:Code}(h:∀t,t<n->A t=B t)(ab:Qgi P n c Q A H):Qgi P n c Q B H:=λz ρ w a aa q=>ab z ρ w a aa (q.rep h)
def Qcb.rep {b c:Code}(h:∀t,t<n->A t=B t)(ab:Qcb P n b c Q A H):Qcb P n b c Q B H:=λz ρ w a aa q=>ab z ρ w a aa (q.rep h)
def AWp.post {c:Code}{Q':Ex->Env->Qa->Prop}(h:∀e A H,Q e A H->Q' e A H)(ab:AWp P n c Q A H):AWp P n c Q' A H:=λz ρ w a aa q=>
 FF (ab z ρ w a aa q) (λe a' w' ⟨e',ρ',A',H',hq,h1⟩=>⟨e',ρ',A',H',h _ _ _ hq,h1⟩)
def QAr (good:α->Prop)(n:Nat)(ks:Ks α)(k:E->Qa->α):Ex->Env->Qa->Prop
 | .normal,A,H=>∃e,Rep n A e∧good (k e H)
 | .ret,A,H=>∃e,Rep n A e∧good (ks.ret e H)
 | .exit j,A,H=>∃e,Rep n A e∧good (ks.ext j e H)
 | .goto l,A,H=>∃e,Rep n A e∧good (ks.jmp l e H)
 | .panic v,A,H=>∃e,Rep n A e∧good (ks.pan v e H)
def Qy1 (aa:n<=256){o:Oper}(h:QfV P n o=true):QjX 256 o.dst=true:=by
 have:=Qgd h;cases q:o.dst with
 | none=>rfl
 | some d=>rw[q]at this;simp only[QjX,B5]at this ⊢;omega
variable {good:α->Prop} (hbad:¬good bad) (hn:n<=256) (hcall:Qev P call)
include hbad hn hcall
def Qnm {ops:Array Oper}{ks:Ks α}{k:E->Qa->α}:∀ (l:List Oper) (e:E) (H:Qa),good (Qsd α bad P call n ops ks l k e H)->QiZ P n ops l (QAr good n ks k) (Zy e) H
 | [],e,H,h=>QuK ⟨e,λ_ _=>rfl,h⟩
 | o::rest,e,H,h=>by
  have h:good (Qxi α bad P call n ops ks o (Qsd α bad P call n ops ks rest k) e H):=h;unfold Qxi at h;cases aa:QfV P n o with
  | false=>rw[aa]at h;exact absurd h hbad
  | true=>
   rw[aa]at h;have next:∀v H',good (Qsd α bad P call n ops ks rest k (QAj e o.dst v) H')->QiZ P n ops rest (QAr good n ks k) (JQ (Zy e) o.dst v) H':=λv H' q=>
    (Qnm rest _ _ q).rep (λt aj=>Qu2 e v (Qy1 hn aa) t (by omega))
   have ah:∀ (h:good (QED α bad P call o (Qsd α bad P call n ops ks rest k) e H)),∃v H',Qt P o (Zy e) H v H'∧QiZ P n ops rest (QAr good n ks k) (JQ (Zy e) o.dst v) H':=λh=>by
    unfold QED at h;cases ae:aop P call o (Zy e) H with
    | none=>rw[ae]at h;exact absurd h hbad
    | some r=>
     obtain⟨c,v,H'⟩:=r;rw[ae]at h;exact⟨v,H',(Ql2 hcall ae).does,next v H' h⟩
   cases q:o.guard with
   | none=>
    rw[q]at h;obtain⟨v,H',ac,ad⟩:=ah h;exact QrX q ac aa ad
   | some ai=>
    rw[q]at h;obtain⟨j,ak⟩:=ai;have h:good (Qxh α bad P call n ops o (Qsd α bad P call n ops ks rest k) e H):=h;unfold Qxh at h;cases ab:Yj n ops (Zy e) o with
    | none=>rw[ab]at h;exact absurd h hbad
    | some b=>
     rw[ab]at h;cases b with
     | true=>
      obtain⟨v,H',ac,ad⟩:=ah h;exact Qce q ab (λ_=>⟨v,H',ac,ad⟩) (λag=>by cases ag) aa
     | false=>exact Qce q ab (λag=>by cases ag) (λ_=>next undef H h) aa
omit hbad hcall in
def Qi8:∀ (l:List Oper) (e:E) (A:Env) (H:Qa) (tr:List Stp) (A1:Env) (H1:Qa) {ops:Array Oper},J3 P call n ops l A H=some (tr,A1,H1)->Rep n A e->Rep n A1 (QsX l tr e)
 | [],e,A,H,tr,A1,H1,ops,h,hr=>by
  simp only[J3,Lt,LB]at h;obtain⟨rfl,rfl,rfl⟩:=h;exact hr
 | o::rest,e,A,H,tr,A1,H1,ops,h,hr=>by
  have step:∀v,QfV P n o=true->Rep n (JQ A o.dst v) (QAj e o.dst v):=λv q t ad=>by
   rw[Qu2 e v (Qy1 hn q) t (by omega)];cases o.dst with
   | none=>exact hr t ad
   | some d=>
    simp only[JQ]
    by_cases aa:t=d;·subst aa;simp
    rw[Qem _ _ aa,Qem _ _ aa];exact hr t ad
  unfold J3 at h;cases q:QfV P n o with
  | false=>rw[q]at h;cases h
  | true=>
   rw[q]at h;simp only[Lq]at h;split at h
   ·split at h
    ·rename_i c v H' ag;split at h;·rename_i ae r ab;simp only[Lt,LB]at h;obtain⟨rfl,ac⟩:=h;subst ac;exact Qi8 rest _ _ _ _ _ _ ab (step v q)
     cases h
    cases h
   ·split at h;·rename_i ae r ab;simp only[Lt,LB]at h;obtain⟨rfl,ac⟩:=h;subst ac;exact Qi8 rest _ _ _ _ _ _ ab (step undef q)
    cases h
   cases h
def Qi9:∀ (G:Nat) (c:Code) (ks:Ks α) (k:E->Qa->α) (e:E) (H:Qa),good (exec α bad P call n F G c ks k e H)->AWp P n c (QAr good n ks k) (Zy e) H:=by
 intro G
 induction G with
 | zero=>intro c ks k e H h;exact absurd h hbad
 | succ G aC=>
  intro c
  induction c with
  | skip=>intro ks k e H h;exact QoU ⟨e,λ_ _=>rfl,h⟩
  | label l=>intro ks k e H h;exact QrW ⟨e,λ_ _=>rfl,h⟩
  | ret=>intro ks k e H h;exact QyR ⟨e,λ_ _=>rfl,h⟩
  | exit id=>intro ks k e H h;exact QuI ⟨e,λ_ _=>rfl,h⟩
  | goto l=>intro ks k e H h;exact QuJ ⟨e,λ_ _=>rfl,h⟩
  | refuse s=>intro ks k e H h;exact absurd h hbad
  | rangeFunc g av ap aq an ao=>
   intro ks k e H h;have h:good (Qgn α bad P call n g av ap aq (Qy0 α bad) (Qy0 α bad) ks k e H):=h;unfold Qgn at h;cases ae:Qb8 P n g with
   | false=>rw[ae]at h;exact absurd h hbad
   | true=>
    rw[ae]at h;have h:good (match ev (Zy e) g with | .func (.func aj) xs ys=>Qxn α bad P call n aj xs ys av ap aq ks k e H | _=>bad):=h;split at h
    ·rename_i aj xs ys az;unfold Qxn at h;cases ah:entered P aj with
     | false=>rw[ah]at h;exact absurd h hbad
     | true=>
      rw[ah]at h;cases ag:call.fn aj (xs.toList++[.func (.yield H.y) #[] #[]]++ys.toList) (H.push (.loop (Zy e) n av ap aq none)) with
      | none=>rw[ag]at h;exact absurd h hbad
      | some r=>
       obtain⟨v,H2⟩:=r;rw[ag]at h;have h:good (Qxm α bad (Zy e) ks k e H.y H2):=h;have aa:=(hcall.fn _ _ _ _ _ ag).does ah;unfold Qxm at h;split at h
       ·rename_i A' aF aG aD aE st aA;refine Qh9 ae az ah (.inl ⟨ah,aa⟩) aA ?_;cases st with
        | none=>exact⟨e,λ_ _=>rfl,h⟩
        | some c=>
         cases c<;>simp only at h<;>first
          | exact⟨e,λ_ _=>rfl,h⟩
          | exact absurd h hbad
       exact absurd h hbad
    exact absurd h hbad
  | region id ops ay=>
   intro ks k e H h;cases ay with
   | false=>
    have:=Qnm (ks:=ks) hbad hn hcall ops.toList e H h;exact QoV (l:=ops.toList) (by simpa using this)
   | true=>
    have h:good (Qxj α bad P call n ops k e H):=h;unfold Qxj at h;split at h
    ·rename_i l A1 H1 aa;refine Qq1 hcall aa ⟨QsX ops.toList l e,?_,h⟩;unfold QoA at aa;cases ag:(P.follows .mixedOrders&&QcY ops (Xc ops)) with
     | false=>rw[ag]at aa;cases aa
     | true=>
      rw[ag]at aa;simp only[Lq]at aa;split at aa
      ·rename_i ax aH H1' aB;cases aw:Ql3 (Qew P ops (QL ops.toList []) ax H1') 0 ax with
       | true=>
        rw[aw]at aa;simp only[Lq,Lt,LB]at aa;obtain⟨rfl,rfl,rfl⟩:=aa;exact Qi8 hn _ _ _ _ _ _ _ aB (λ_ _=>rfl)
       | false=>rw[aw]at aa;cases aa
      cases aa
    exact absurd h hbad
  | seq a b an ao=>
   intro ks k e H h;refine QjY ((an ks _ e H h).post ?_);intro ac A1 H1 ab;cases ac with
   | normal=>
    obtain⟨e1,ad,q⟩:=ab;exact(ao ks k e1 H1 q).rep (λt ai=>(ad t ai).symm)
   | _=>exact ab
  | cond x a b an ao=>
   intro ks k e H h;have h:good (Qxk α bad P n x a b (exec α bad P call n F (G+1) a) (exec α bad P call n F (G+1) b) ks k e H):=h;unfold Qxk at h;cases ae:Qb8 P n x with
   | false=>rw[ae]at h;exact absurd h hbad
   | true=>
    rw[ae]at h;have h:good (vb α bad (ev (Zy e) x) (exec α bad P call n F (G+1) a ks k e H) (exec α bad P call n F (G+1) b ks k e H)):=h;unfold vb at h;split at h
    ·rename_i t ac;cases t with
     | true=>exact QjZ ae ac (an ks k e H h)
     | false=>exact QjZ ae ac (ao ks k e H h)
    exact absurd h hbad
  | block id b am=>
   intro ks k e H h;refine QaP ((am _ k e H h).post ?_);intro ac A1 H1 ab;cases ac with
   | exit j=>
    obtain⟨e1,ad,q⟩:=ab;simp only[Qj0];have q:good (Bool.rec (motive:=λ_=>E->Qa->α) (ks.ext j) k (Nat.beq j id) e1 H1):=q
    by_cases ak:j=id
    ·rw[Lc ak];subst ak;have:Nat.beq j j=true:=by simp
     rw[this]at q;exact⟨e1,ad,q⟩
    rw[Le ak];have:Nat.beq j id=false:=by simp[Zw,ak]
    rw[this]at q;exact⟨e1,ad,q⟩
   | _=>exact ab
  | loop b am=>
   intro ks k e H h;refine Qm9 ?_;have key:∀ (m:Nat) (e:E) (H:Qa),good (Nat.rec (motive:=λ_=>E->Qa->α) (λ_ _=>bad) (λ_ k=>exec α bad P call n F (G+1) b ks k) m e H)->Qgi P n b (QAr good n ks k) (Zy e) H:=by
    intro m
    induction m with
    | zero=>intro e H h;exact absurd h hbad
    | succ m au=>
     intro e H h;refine Qde ((am ks _ e H h).post ?_);intro ac A1 H1 ab;cases ac with
     | normal=>
      obtain⟨e1,ad,q⟩:=ab;exact(au e1 H1 q).rep (λt ai=>(ad t ai).symm)
     | _=>exact ab
   exact key F e H h
  | scope b am=>
   intro ks k e H h;refine Qes ?_;have key:∀ (m:Nat) (c:Code) (e:E) (H:Qa),good (Qxl α bad (exec α bad P call n F G) b ks k m c e H)->Qcb P n b c (QAr good n ks k) (Zy e) H:=by
    intro m
    induction m with
    | zero=>intro c e H h;exact absurd h hbad
    | succ m au=>
     intro c e H h;refine KK ((aC c _ k e H h).post ?_);intro ac A1 H1 ab;cases ac with
     | goto l=>
      obtain⟨e1,ad,q⟩:=ab;simp only[QAe];have q:good (Option.rec (motive:=λ_=>E->Qa->α) (ks.jmp l) (Qxl α bad (exec α bad P call n F G) b ks k m) (findLabel b l) e1 H1):=q;split;·rename_i rest ar;rw[ar]at q;exact(au rest e1 H1 q).rep (λt ai=>(ad t ai).symm)
      rename_i ar;rw[ar]at q;exact⟨e1,ad,q⟩
     | _=>exact ab
   exact key F b e H h
end
/-! ### Functions -/
def Qu5 (P:Program)(fn:Func)(e:E)(H:Qa):Option (Value×Qa):=
 Option.rec (motive:=λ_=>Option (Value×Qa)) none (λv=>some (v,H)) (QfW P fn.ntmps fn.results (Zy e) H)
def Qxo (P:Program)(call:WJ)(F G:Nat)(fn:Func)(args:List Value)(H:Qa)(c:Code):Option (Value×Qa):=
 Bool.rec (motive:=λ_=>Option (Value×Qa)) none
  (exec (Option (Value×Qa)) none P call fn.ntmps F G c ⟨Qu5 P fn,λ_ _ _=>none,λ_ _ _=>none,λ_ _ _=>none⟩ (Qu5 P fn) (Qr9 args 0 E.none) H)
  (Nat.ble fn.ntmps 256&&Nat.ble args.length fn.ntmps)
def QsZ (P:Program)(call:WJ)(F G:Nat)(f:FuncId)(args:List Value)(H:Qa)(fn:Func):Option (Value×Qa):=
 Bool.rec (motive:=λ_=>Option (Value×Qa)) none (Option.rec (motive:=λ_=>Option (Value×Qa)) none (Qxo P call F G fn args H) fn.body) (entered P f)
def QfX (A:Env)(b:Nat):N16 Value:=⟨A b,A (b+1),A (b+2),A (b+3),A (b+4),A (b+5),A (b+6),A (b+7),A (b+8),A (b+9),A (b+10),A (b+11),A (b+12),A (b+13),A (b+14),A (b+15)⟩
def eOf (A:Env):E:=⟨QfX A 0,QfX A 16,QfX A 32,QfX A 48,QfX A 64,QfX A 80,QfX A 96,QfX A 112,QfX A 128,QfX A 144,QfX A 160,QfX A 176,QfX A 192,QfX A 208,QfX A 224,QfX A 240⟩
def QBY (A:Env)(b:Nat)(d:D):(QfX A b).get d=A (b+d.num):=by cases d<;>rfl
def QEG (A:Env)(d:D):(eOf A).get d=QfX A (16 * d.num):=by cases d<;>rfl
def QBZ (A:Env){t:Nat}(q:t<256):Zy (eOf A) t=A t:=by
 have e1:∀x y:Nat,Nat.div x y=x / y:=λ_ _=>rfl;have e2:∀x y:Nat,Nat.mod x y=x % y:=λ_ _=>rfl;simp only[Zy,e1,e2];rw[QEG,QBY,Qoz (by omega),Qoz (by omega)];congr 1;omega
def Qu6 (l:Nat)(A:Env)(n:Nat)(ab:Array Tmp)(q aa:Code)(st:Option Code)(b:Bool)(H:Qa):Option (Value×Qa):=some (.bool b,H.set l (.loop A n ab q aa st))
def QHC (P:Program)(call:WJ)(F G:Nat)(l:Nat)(A:Env)(n:Nat)(ab:Array Tmp)(aa q:Code)(e:E)(H:Qa):Option (Value×Qa):=
 exec (Option (Value×Qa)) none P call n F G q ⟨λ_ H1=>Qu6 l A n ab aa q (some .ret) false H1,λj _ H1=>Qu6 l A n ab aa q (some (.exit j)) false H1,λj _ H1=>Qu6 l A n ab aa q (some (.goto j)) false H1,λ_ _ _=>none⟩
  (λ_ H1=>Qu6 l A n ab aa q none true H1) e H
def Qs0 (P:Program)(call:WJ)(F G:Nat)(l:Nat)(args:List Value)(H:Qa):Option (Value×Qa):=
 match H.get l with
 | some (.loop A n ps as bd none)=>
  bif Nat.ble n 256&&Nat.beq args.length ps.size then
   exec (Option (Value×Qa)) none P call n F G as ⟨λ_ _=>none,λ_ _ _=>none,λ_ _ _=>none,λ_ _ _=>none⟩ (QHC P call F G l A n ps as bd) (eOf (Qna A ps.toList args)) (H.kill l)
  else none
 | _=>none
def Qq2 {P:Program}{call:WJ}(ac:Qev P call){F G:Nat}{l:Nat}{args:List Value}{H H':Qa}{v:Value}(h:Qs0 P call F G l args H=some (v,H')):Qr5 P l args H v H':=by
  unfold Qs0 at h;split at h
  · rename_i A n ao ah ai ak
    cases q:(Nat.ble n 256&&Nat.beq args.length ao.size) with
    | false=>rw[q]at h;cases h
    | true=>
      rw[q]at h;simp only[Lq]at h;simp only[Lm,BL,Zw,Lv]at q;refine Qnb ak q.2 ?_;have an:=Qi9 (good:=λr:Option (Value×Qa)=>r=some (v,H')) (by simp) q.1 ac G ah _ _ _ (H.kill l) h;refine(an.post ?_).rep (λt ag=>QBZ _ (by omega));intro ab A1 H1 aa;cases ab with
      | normal=>
        obtain⟨e,am,aj⟩:=aa;have body:=Qi9 (good:=λr:Option (Value×Qa)=>r=some (v,H')) (by simp) q.1 ac G ai _ _ _ H1 aj;refine(body.post ?_).rep (λt ag=>(am t ag).symm);intro ab A2 H2 ae;cases ab<;>first
          | (obtain⟨e2,_,ad⟩:=ae
             simp only[Qu6,Lt,LB]at ad;obtain⟨g1,g2⟩:=ad;exact⟨g1.symm,by rw[<- g2];exact .refl _⟩)
          | (obtain⟨_,_,hx⟩:=ae;cases hx)
      | ret=>obtain⟨_,_,hx⟩:=aa;cases hx
      | exit j=>obtain⟨_,_,hx⟩:=aa;cases hx
      | goto j=>obtain⟨_,_,hx⟩:=aa;cases hx
      | panic u=>obtain⟨_,_,hx⟩:=aa;cases hx
  · cases h
def run (P:Program)(aa:CallF)(F G:Nat)(k:Nat):WJ:=
 Nat.rec (motive:=λ_=>WJ) ⟨λ_ _ _=>none,λ_ _ _=>none⟩
  (λ_ q=>⟨λf args H=>Option.rec (motive:=λ_=>Option (Value×Qa)) (Option.rec (motive:=λ_=>Option (Value×Qa)) none (QsZ P q F G f args H) P.funcs[f]?) some (aa f args H),Qs0 P q F G⟩) k
def QAs {P:Program}{fn:Func}{A1:Env}{H1 H':Qa}{e:E}{v:Value}(ac:Rep fn.ntmps A1 e)(q:Qu5 P fn e H1=some (v,H')):∃ad,Out.ret v=.ret ad∧QfW P fn.ntmps fn.results A1 H1=some ad∧JP H' H1:=by
 unfold Qu5 at q;cases ab:QfW P fn.ntmps fn.results (Zy e) H1 with
 | none=>rw[ab]at q;cases q
 | some u=>
  rw[ab]at q;have q:some (u,H1)=some (v,H'):=q;simp only[Lt,LB]at q;obtain⟨e1,e2⟩:=q;rw[<- e1,<- e2];refine⟨_,rfl,?_,.refl _⟩;rw[<- ab];have ae:∀r,ZT P fn.ntmps A1 H1 r=ZT P fn.ntmps (Zy e) H1 r:=λr=>by
   cases r with
   | tmp t=>
    simp only[ZT]
    by_cases aa:t<fn.ntmps;·simp only[aa,N3,ac t aa]
    simp only[aa,LN]
   | cell a t=>
    simp only[ZT]
    by_cases aa:a<fn.ntmps;·simp only[aa,N3,ac a aa]
    simp only[aa,LN]
  unfold QfW;rw[show ZT P fn.ntmps A1 H1=ZT P fn.ntmps (Zy e) H1 from funext ae]
def Qs1 {P:Program}{call:WJ}(ah:Qev P call){F G:Nat}{f:FuncId}{fn:Func}{c:Code}{args:List Value}{H H':Qa}{v:Value}(ai:P.funcs[f]? = some fn)(ag:fn.body=some c)
  (h:Qxo P call F G fn args H c=some (v,H')):Qdd P f args H (.ret v) H':=by
 unfold Qxo at h;cases aa:(Nat.ble fn.ntmps 256&&Nat.ble args.length fn.ntmps) with
 | false=>rw[aa]at h;cases h
 | true=>
  rw[aa]at h;simp only[Lm,BL]at aa;have ad:args.length+(fn.ntmps - args.length)=fn.ntmps:=by omega
  refine Qo1 ai ag ?_;rw[ad];have aj:=Qi9 (good:=λr:Option (Value×Qa)=>r=some (v,H')) (by simp) aa.1 ah G c _ _ _ H h;have ab:∀ (A1:Env) (H1:Qa),(∃e,Rep fn.ntmps A1 e∧Qu5 P fn e H1=some (v,H'))->∃ac,Out.ret v=.ret ac∧QfW P fn.ntmps fn.results A1 H1=some ac∧JP H' H1:=λA1 H1 ⟨e,hr,hk⟩=>QAs hr hk;refine(aj.post ?_).rep (λt ak=>QAl (by omega) t (by omega));intro ae A1 H1 q;cases ae with
  | normal=>exact ab A1 H1 q
  | ret=>exact ab A1 H1 q
  | exit j=>obtain⟨_,_,hx⟩:=q;cases hx
  | goto j=>obtain⟨_,_,hx⟩:=q;cases hx
  | panic u=>obtain⟨_,_,hx⟩:=q;cases hx
def Ql8 {P:Program}{aa:CallF}(ah:CallOk P aa){F G:Nat}:∀k,Qev P (run P aa F G k):=by
 intro k
 induction k with
 | zero=>exact⟨λf args H v H' h=>(by cases h),λl args H v H' h=>(by cases h)⟩
 | succ k ag=>
  refine⟨λf args H v H' h=>?_,λl args H v H' h=>Qq2 ag h⟩;have h:Option.rec (motive:=λ_=>Option (Value×Qa)) (Option.rec (motive:=λ_=>Option (Value×Qa)) none (QsZ P (run P aa F G k) F G f args H) P.funcs[f]?) some (aa f args H)=some (v,H'):=h;cases ae:aa f args H with
  | some r=>rw[ae]at h;cases h;exact ah f args H v H' ae
  | none=>
   rw[ae]at h;cases ad:P.funcs[f]? with
   | none=>rw[ad]at h;cases h
   | some fn=>
    rw[ad]at h;have q:QsZ P (run P aa F G k) F G f args H fn=some (v,H'):=h;unfold QsZ at q;cases ac:entered P f with
    | false=>rw[ac]at q;cases q
    | true=>
     rw[ac]at q;cases ab:fn.body with
     | none=>rw[ab]at q;cases q
     | some c=>rw[ab]at q;exact .inl ⟨ac,Qs1 ag ad ab q⟩
def xknown (xt:FuncId->Option Xk):CallF:=λf args H=>
 match xt f with
 | some k=>(k.val args).map λv=>(v,H)
 | none=>none
def xknown_ok {P:Program}{xt:FuncId->Option Xk}(h:∀f k,xt f=some k->IsExt P f k):CallOk P (xknown xt):=by
 intro f args H v H' q;unfold xknown at q;split at q;·rename_i k aa;simp only[Lx,LB]at q;obtain⟨u,ab,rfl,rfl⟩:=q;exact .inr (QBI (h f k aa) ab)
 cases q
def shN (G δ id:Nat):Nat:=bif Nat.blt id G then id else id+δ
def shV (G δ:Nat):Nat->Value->Value
 | 0,v=>v
 | f+1,v=>match v with
  | .pointer (some a)=>.pointer (some ⟨shN G δ a.block,a.off,a.spot⟩)
  | .slice (some a) l c=>.slice (some ⟨shN G δ a.block,a.off,a.spot⟩) l c
  | .map (some r)=>.map (some (shN G δ r))
  | .iface t v=>.iface t (shV G δ f v)
  | .agg xs=>.agg (xs.toList.map (shV G δ f)).toArray
  | .tuple xs=>.tuple (xs.toList.map (shV G δ f)).toArray
  | .func fn xs ys=>.func fn (xs.toList.map (shV G δ f)).toArray (ys.toList.map (shV G δ f)).toArray
  | v=>v
def okD:Nat->Value->Bool
 | 0,v=>plain v
 | f+1,v=>match v with
  | .iface _ v=>okD f v
  | .agg xs=>xs.toList.all (okD f)
  | .tuple xs=>xs.toList.all (okD f)
  | .func fn xs ys=>QaD fn&&xs.toList.all (okD f)&&ys.toList.all (okD f)
  | _=>true
def QAN (G δ:Nat):∀ (f:Nat) (v:Value),plain v=true->shV G δ f v=v
 | 0,v,_=>rfl
 | f+1,v,h=>by
  unfold shV;split<;>first | (simp[plain]at h;done) | rfl
def QJW {ρ ρ':Ren}{G δ:Nat}(ak:∀id i,ρ id=some i->ρ' (shN G δ id)=some i):∀ (f:Nat) {v ad:Value},V ρ v ad->okD f v=true->V ρ' (shV G δ f v) ad:=by
 intro f
 induction f with
 | zero=>
  intro v ad h aa;rw[h.plain_eq aa];exact .same _ aa
 | succ f ao=>
  intro v ad h aa;have ai:∀ (xs q:Array Value),xs.size=q.size->(∀ (j:Nat) x x',xs[j]? = some x->q[j]? = some x'->V ρ x x')->xs.toList.all (okD f)=true->
    (xs.toList.map (shV G δ f)).toArray.size=q.size∧∀ (j:Nat) x x',(xs.toList.map (shV G δ f)).toArray[j]? = some x->q[j]? = some x'->V ρ' x x':=by
   intro xs q ab ac ae;refine⟨by simp[ab],λj x x' e e'=>?_⟩;simp only[List.getElem?_toArray,LD,Bl,Lx]at e;obtain⟨y,an,rfl⟩:=e;exact ao (ac j y x' an e') (Li.1 ae y (by simpa using BB an))
  cases h with
  | same v am=>rw[QAN G δ (f+1) v am];exact .same v am
  | ptr id off i h=>exact .ptr _ off i (ak id i h)
  | slice id off len cap ar i aq h ab ac au ae aj=>exact .slice _ off len cap ar i aq (ak id i h) ab ac au ae aj
  | map id i h=>exact .map _ i (ak id i h)
  | func fn xs ys q ap av ab ac ae aj=>
   simp only[okD,Lm]at aa;obtain⟨ag,ah⟩:=ai xs q ab ae aa.1.2;obtain⟨aw,ax⟩:=ai ys ap ac aj aa.2;exact .func fn _ _ q ap av ag aw ah ax
  | yield l i h=>simp[okD,QaD]at aa
  | iface t v ad h=>exact .iface t _ ad (ao h aa)
  | agg xs q ab ac=>
   obtain⟨ag,ah⟩:=ai xs q ab ac aa;exact .agg _ q ag ah
  | tuple xs q ab ac=>
   obtain⟨ag,ah⟩:=ai xs q ab ac aa;exact .tuple _ q ag ah
structure Row where
 src:Nat
 c:List Value
 e:TypeId
 ro:Bool
def Row.blk (G δ:Nat)(r:Row):Blk:=.cells (r.c.map (shV G δ 6)) r.e r.ro
def QpN (G δ:Nat):List Row->Qa->Qa
 | [],H=>H
 | r::rs,H=>QpN G δ rs (H.push (r.blk G δ))
def Qrq (G:Nat)(rs:List Row)(H:Qa):Qa:=QpN G (H.y - G) rs H
def QpO {G δ:Nat}:∀ (rs:List Row) (H:Qa),(QpN G δ rs H).y=H.y+rs.length
 | [],H=>rfl
 | r::rs,H=>by simp only[QpN,QpO rs,Qf,Lo];omega
def Qsi {G δ:Nat}:∀ (rs:List Row) (H:Qa) (id:Nat),(QpN G δ rs H).get id=if H.y<=id∧id<H.y+rs.length then(rs[id - H.y]?).map (Row.blk G δ) else H.get id
 | [],H,id=>by simp only[QpN,L9];rw[Le (by omega)]
 | r::rs,H,id=>by
  simp only[QpN,Qsi rs,Qf,Lo,Qc]
  by_cases q:id=H.y;·subst q;rw[Le (by omega),Lc rfl,Lc ⟨by omega,by omega⟩];simp
  by_cases aa:H.y+1<=id∧id<H.y+1+rs.length;·rw[Lc aa,Lc ⟨by omega,by omega⟩,show id - H.y=(id - (H.y+1))+1 by omega];simp
  rw[Le aa,Le q,Le (by omega)]
def Qay (G:Nat)(rs:List Row)(b:Nat):Option Nat:=bif Nat.blt b G then some b else(rs[b - G]?).map (·.src)
def QFl (o:Option Nat)(a:Nat):Bool:=match o with | some b=>Nat.beq b a | none=>false
def Qy8 {o:Option Nat}{a:Nat}(h:QFl o a=true):o=some a:=by
 cases o with
 | none=>cases h
 | some b=>simp only[QFl,Zw,Lv]at h;rw[h]
def Qmz (a:Addr):Bool:=match a.spot with | none=>true | some _=>false
def mtV (σ:Nat->Option Nat):Nat->Value->Value->Bool
 | 0,v,u=>plain v&&Qdi 8 v u
 | f+1,v,u=>match v,u with
  | .pointer (some a),.pointer (some b)=>QFl (σ b.block) a.block&&Nat.beq a.off b.off&&Qmz b
  | .slice (some a) l c,.slice (some b) l' c'=>QFl (σ b.block) a.block&&Nat.beq a.off b.off&&Qmz b&&Nat.beq l l'&&Nat.beq c c'
  | .iface t v,.iface t' u=>Nat.beq t t'&&mtV σ f v u
  | .agg xs,.agg ys=>GU (mtV σ f) xs.toList ys.toList
  | .tuple xs,.tuple ys=>GU (mtV σ f) xs.toList ys.toList
  | v,u=>plain v&&Qdi 8 v u
def QdM {eq:Value->Value->Bool}:∀ {xs ys:List Value},GU eq xs ys=true->xs.length=ys.length∧∀ (j:Nat) x y,xs[j]? = some x->ys[j]? = some y->eq x y=true
 | [],[],_=>⟨rfl,λj x y h=>by simp at h⟩
 | x::xs,y::ys,h=>by
  simp only[GU,Lm]at h;obtain⟨ab,ac⟩:=QdM h.2;refine⟨by simp[ab],λj a b q aa=>?_⟩;cases j with
  | zero=>simp at q aa;subst q;subst aa;exact h.1
  | succ j=>exact ac j a b (by simpa using q) (by simpa using aa)
 | [],_::_,h=>by simp[GU]at h
 | _::_,[],h=>by simp[GU]at h
def Qy9 {σ:Nat->Option Nat}{ρ ρ':Ren}(ao:∀a b i,σ b=some a->ρ a=some i->ρ' b=some i):∀ (f:Nat) {v u ad:Value},mtV σ f v u=true->V ρ v ad->V ρ' u ad:=by
 intro f;have pl:∀ {v u ad:Value},(plain v&&Qdi 8 v u)=true->V ρ v ad->V ρ' u ad:=λh ab=>by
  simp only[Lm]at h;rw[<- Qcd 8 _ _ h.2,ab.plain_eq h.1];exact .same _ h.1
 induction f with
 | zero=>intro v u ad h ab;exact pl h ab
 | succ f ap=>
  intro v u ad h ab;have ak:∀ (xs ys aa:Array Value),xs.size=aa.size->(∀ (j:Nat) x x',xs[j]? = some x->aa[j]? = some x'->V ρ x x')->GU (mtV σ f) xs.toList ys.toList=true->
    ys.size=aa.size∧∀ (j:Nat) x x',ys[j]? = some x->aa[j]? = some x'->V ρ' x x':=by
   intro xs ys aa ac q ae;obtain⟨g1,g2⟩:=QdM ae;simp only[Array.length_toList]at g1;refine⟨by omega,λj x x' e e'=>?_⟩;have an:j<xs.size:=by rw[ac];exact(Nj.1 e').1
   exact ap (g2 j xs[j] x (by simp[an]) (by simpa using e)) (q j _ x' (Ng an) e')
  unfold mtV at h;split at h
  ·rename_i a b;simp only[Lm,Zw,Lv]at h;obtain⟨⟨ac,q⟩,ae⟩:=h;obtain⟨i,g1,g2,g3⟩:=ab.ptr_inv;rw[g3,q];obtain⟨b0,ah,bs⟩:=b;have:bs=none:=by cases bs with | none=>rfl | some _=>cases ae
   subst this;exact .ptr b0 ah i (ao _ _ i (Qy8 ac) g1)
  ·rename_i a l c b aC c';simp only[Lm,Zw,Lv]at h;obtain⟨⟨⟨⟨ac,q⟩,ae⟩,ax⟩,ay⟩:=h;obtain⟨i,aq,ar,g1,g2,g3,g4,av,au,am,aw⟩:=ab.slice_inv;subst ax;subst ay;rw[g3];obtain⟨b0,ah,bs⟩:=b;have:bs=none:=by cases bs with | none=>rfl | some _=>cases ae
   subst this;simp only at q;rw[q]at g4 am;exact .slice b0 ah l c ar i aq (ao _ _ i (Qy8 ac) g1) g4 av au am aw
  ·rename_i t aE aD aA;simp only[Lm,Zw,Lv]at h;obtain⟨rfl,q⟩:=h;cases ab with
   | same _ ag=>simp[plain]at ag
   | iface _ _ aB az=>exact .iface t aA aB (ap q az)
  ·rename_i xs ys;cases ab with
   | same _ ag=>simp[plain]at ag
   | agg _ aa ac q=>obtain⟨ai,aj⟩:=ak xs ys aa ac q h;exact .agg ys aa ai aj
  ·rename_i xs ys;cases ab with
   | same _ ag=>simp[plain]at ag
   | tuple _ aa ac q=>obtain⟨ai,aj⟩:=ak xs ys aa ac q h;exact .tuple ys aa ai aj
  exact pl h ab
def QG7 (G:Nat)(B:Qa):Prop:=B.y=G∧∀id b,B.get id=some b->∃c e,b=.cells c e true∧c.all plain=true
structure QxO (G:Nat) (H1:Qa) (rs:List Row):Prop where
 row:∀ (k:Nat) (r:Row),rs[k]? = some r->G<=r.src∧r.c.all (okD 6)=true∧∃c1,H1.get r.src=some (.cells c1 r.e r.ro)∧GU (mtV (Qay G rs) 6) c1 r.c=true
 inj:∀ (j k:Nat) (r r':Row),rs[j]? = some r->rs[k]? = some r'->j≠k->r.src≠r'.src
def WH.turn {P:Program}{ρ ρ':Ren}{i:Zv}{w:World}{c u:List Value}{e:TypeId}{ro:Bool}(h:WH P ρ i w (.cells c e ro))(ad:u.length=c.length)
  (ae:∀ (j:Nat) x y z,c[j]? = some x->u[j]? = some y->V ρ x z->V ρ' y z):WH P ρ' i w (.cells u e ro):=by
 have hx:∀ (j:Nat) y,u[j]? = some y->∃x,c[j]? = some x:=λj y q=>by
  have:j<c.length:=by rw[<- ad];exact(Lk.1 q).1
  exact⟨c[j],La this⟩
 cases ro with
 | true=>
  refine⟨h.1,λj y q=>?_⟩;obtain⟨x,aa⟩:=hx j y q;obtain⟨z,ab,ac⟩:=h.2 j x aa;exact⟨z,ab,ae j x y z aa q ac⟩
 | false=>
  obtain⟨ag,ah,an,ab,ac,ao,ai,aj,ak,am⟩:=h;refine⟨ag,ah,an,ab,ac,by omega,λj y q=>?_,aj,by rw[ad];exact ak,am⟩;obtain⟨x,aa⟩:=hx j y q;obtain⟨z,g1,g2⟩:=ai j x aa;exact⟨z,g1,ae j x y z aa q g2⟩
def V.closed_eq {ρ:Ren}{v ad:Value}(h:V ρ v ad)(ac:X2 v=true):ad=v:=by
 have ae:∀xs q:Array Value,xs.all Ab.plain=true->xs.size=q.size->(∀ (j:Nat) x x',xs[j]? = some x->q[j]? = some x'->V ρ x x')->q=xs:=λxs q hx ag ah=>by
  apply Array.ext ag.symm;intro j ab aa;have:=ah j xs[j] q[j] (Ng aa) (Ng ab);exact this.plain_eq (B1.1 hx _ (Array.getElem_mem aa))
 cases h with
 | same v ai=>rfl
 | agg xs q ab aa=>rw[ae xs q ac ab aa]
 | tuple xs q ab aa=>rw[ae xs q ac ab aa]
 | iface t v ad h=>rw[h.plain_eq ac]
 | _=>simp[X2,Ab.plain]at ac
def QJX {P:Program}{f:FuncId}{args:List Value}{v u:Value}{B H1:Qa}(hB:QG7 P.globals.size B)(bh:Qdd P f args B (.ret v) H1)(aZ:args.all X2=true)
  {rs:List Row} (br:mtV (Qay P.globals.size rs) 6 v u=true) (bq:okD 6 u=true) (ax:QxO P.globals.size H1 rs) (H:Qa) (aY:∀id b,B.get id=some b->H.get id=some b):
  Qdd P f args H (.ret (shV P.globals.size (H.y - P.globals.size) 6 u)) (Qrq P.globals.size rs H):=by
 intro ρ w args' hs hargs;obtain⟨aX,aD⟩:=hB;have b8:P.globals.size<=H.y:=by
  rcases B6 P.globals.size with h | h;·omega
  obtain⟨i,hi,_⟩:=hs.glob (P.globals.size - 1) (by omega);have:=hs.dom _ _ hi;omega
 have ba:VL (Ww ρ P.globals.size) args args':=⟨hargs.1,λj x x' e e'=>by
  have az:X2 x=true:=Li.1 aZ x (Ln e);rw[(hargs.2 j x x' e e').closed_eq az];exact .closed az⟩
 have bp:Sim P (Ww ρ P.globals.size) B w:=by
  refine⟨λid j h=>by rw[aX];exact(Xb h).1,λid b i q hi=>?_,λag ah b1 b2 ao ap ac ad ab ai aA=>?_,λg aB=>?_⟩;·obtain⟨c,e,rfl,bc⟩:=aD id b q;have:=hs.live id _ i (aY id _ q) (Xb hi).2;refine⟨this.1,λj u aw=>?_⟩;obtain⟨b9,ac,ad⟩:=this.2 j u aw;have az:plain u=true:=Li.1 bc u (Ln aw);rw[ad.plain_eq az]at ac;exact⟨u,ac,.same u az⟩
  ·obtain⟨c,e,rfl,_⟩:=aD ag b1 ac;cases aA
  obtain⟨j,aw,e⟩:=hs.glob g aB;exact⟨j,Yi aB aw,e⟩
 refine(bh _ w args' bp ba).mono ?_;rintro e w' ⟨ρ1,aN,an,aO⟩;have aM:∀id b,B.get id=some b->b.ro=true:=λid b h=>by obtain⟨c,e,rfl,_⟩:=aD id b h;rfl
 have aP:∀b,b<w.heap.size->w'.heap[b]? = w.heap[b]? := λb q=>an.frame b q (λid i bl _ ad ab=>by rw[aM id bl ad]at ab;cases ab);have aK:∀id i,ρ1 id=some i->P.globals.size<=id->w.heap.size<=i.at_.block:=λid i h ae=>by
  have bm:Ww ρ P.globals.size id=none:=by unfold Ww;rw[Le (by omega)]
  rcases(an.fresh id i h bm).2 with h | ⟨id0,aT,b0,_,_,ab,ai⟩;·exact h
  rw[aM id0 b0 ab]at ai;cases ai
 have aE:∀id,Nat.blt id P.globals.size=decide (id<P.globals.size):=λid=>by
  cases q:Nat.blt id P.globals.size with
  | false=>
   by_cases h:id<P.globals.size
   ·have:Nat.blt id P.globals.size=true:=by simpa using h
    rw[q]at this;cases this
   simp[h]
  | true=>simp only[B5]at q;simp[q]
 generalize bw:H.y - P.globals.size=δ;have bo:∀id,shN P.globals.size δ id=if id<P.globals.size then id else id+δ:=λid=>by
  unfold shN;rw[aE];by_cases h:id<P.globals.size<;>simp[h]
 -- the blocks by their new numbers
 let ρc:Ren:=λb=>(Qay P.globals.size rs b).bind ρ1
 let ρ':Ren:=λid=>if id<H.y then ρ id else ρc (id - δ)
 have bd:∀a b i,Qay P.globals.size rs b=some a->ρ1 a=some i->ρc b=some i:=λa b i h h'=>by simp only[ρc,h,R8,h']
 have bg:∀b i,ρc b=some i->P.globals.size<=b->∃r,rs[b - P.globals.size]? = some r∧ρ1 r.src=some i:=λb i h q=>by
  simp only[ρc,Qay,aE,show ¬b<P.globals.size by omega,NE,Ls]at h;cases aa:rs[b - P.globals.size]? with
  | none=>rw[aa]at h;cases h
  | some r=>rw[aa]at h;exact⟨r,rfl,h⟩
 have bj:∀b i,ρc b=some i->ρ' (shN P.globals.size δ b)=some i:=λb i h=>by
  rw[bo]
  by_cases q:b<P.globals.size;·simp only[q,N3,ρ'];rw[Lc (by omega)];simp only[ρc,Qay,aE,q,Nf,Lq,R8]at h;obtain⟨aT,aJ,_⟩:=hs.glob b q;have:=an.mono b aT (Yi q aJ);rw[h]at this;cases this;exact aJ
  simp only[q,LN,ρ'];rw[Le (by omega),show b+δ - δ=b by omega];exact h
 have aQ:∀ {x y z:Value},mtV (Qay P.globals.size rs) 6 x y=true->okD 6 y=true->V ρ1 x z->V ρ' (shV P.globals.size δ 6 y) z:=λac ad ab=>QJW bj 6 (Qy9 bd 6 ac ab) ad;have aH:Sub ρ ρ':=λid i h=>by
  simp only[ρ'];rw[Lc (hs.dom id i h)];exact h
 have aI:∀id,(Qrq P.globals.size rs H).get id=if H.y<=id∧id<H.y+rs.length then(rs[id - H.y]?).map (Row.blk P.globals.size δ) else H.get id:=λid=>by
  unfold Qrq;rw[Qsi,bw]
 have aL:(Qrq P.globals.size rs H).y=H.y+rs.length:=by unfold Qrq;exact QpO rs H
 have bi:∀id,H.y<=id->id - δ - P.globals.size=id - H.y:=λid h=>by omega
 have av:∀id i,ρ' id=some i->H.y<=id->∃r,rs[id - H.y]? = some r∧ρ1 r.src=some i:=λid i hi ae=>by
  simp only[ρ']at hi;rw[Le (by omega)]at hi;have:=bg (id - δ) i hi (by omega);rwa [bi id ae]at this
 have ay:∀id i,ρ' id=some i->id<H.y->ρ id=some i:=λid i hi ae=>by
  simp only[ρ']at hi;rwa [Lc ae]at hi
 have au:∀id,id<H.y->(Qrq P.globals.size rs H).get id=H.get id:=λid ae=>by rw[aI,Le (by omega)]
 have aF:∀id r,H.y<=id->rs[id - H.y]? = some r->(Qrq P.globals.size rs H).get id=some (r.blk P.globals.size δ):=λid r ae aa=>by
  have:=(Lk.1 aa).1;rw[aI,Lc ⟨ae,by omega⟩,aa];rfl
 refine⟨ρ',?_,⟨aH,by rw[aL];omega,λid i h h'=>?_,λid i b b' h ac ad ab=>?_,λid i h h'=>?_,an.os,an.tape,an.output,an.size,λb q _=>aP b q⟩,
  ⟨λid i h=>?_,λid b i q hi=>?_,λag ah b1 b2 ao ap ac ad ab ai aA aW=>?_,λg aB=>?_⟩⟩
 ·cases e with
  | returned bA=>exact aQ br bq aN
  | _=>exact aN.elim
 ·rw[au id (hs.dom id i h)];exact h'
 ·rw[au id (hs.dom id i h),ac]at ab;cases ab;exact ad
 ·have ae:H.y<=id:=by
   rcases Nq id H.y with ak | aj;·rw[ay id i h ak]at h';cases h'
   exact aj
  obtain⟨r,aa,am⟩:=av id i h ae;exact⟨ae,.inl (aK r.src i am (ax.row _ r aa).1)⟩
 ·rw[aL];rcases Nq id H.y with ak | aj;·omega
  obtain⟨r,aa,_⟩:=av id i h aj;have:=(Lk.1 aa).1;omega
 ·rcases Nq id H.y with ak | aj;·rw[au id ak]at q;have aa:=hs.live id b i q (ay id i hi ak);exact aa.mono aH (aP _ aa.lt)
  obtain⟨r,aa,am⟩:=av id i hi aj;rw[aF id r aj aa]at q;cases q;obtain⟨g1,g2,aV,g3,g4⟩:=ax.row _ r aa;obtain⟨bx,bz⟩:=QdM g4;refine(aO.live r.src _ i g3 am).turn (by simp[bx]) λj x y z hx aR bu=>?_;simp only[LD,Lx]at aR;obtain⟨aU,aS,rfl⟩:=aR;exact aQ (bz j x aU hx aS) (Li.1 g2 aU (Ln aS)) bu
 ·have old:∀id b i,id<H.y->(Qrq P.globals.size rs H).get id=some b->ρ' id=some i->i.at_.block<w.heap.size:=λid b i ak q hi=>by
   rw[au id ak]at q;exact(hs.live id b i q (ay id i hi ak)).lt
  have new:∀id i,H.y<=id->ρ' id=some i->w.heap.size<=i.at_.block:=λid i aj hi=>by
   obtain⟨r,aa,am⟩:=av id i hi aj;exact aK r.src i am (ax.row _ r aa).1
  rcases Nq ag H.y with aq | aq<;>rcases Nq ah H.y with ar | ar;·rw[au ag aq]at ac;rw[au ah ar]at ad;exact hs.sep ag ah b1 b2 ao ap ac ad (ay ag ao ab aq) (ay ah ap ai ar) aA aW
  ·have a1:=old ag b1 ao aq ac ab;have a2:=new ah ap ar ai;omega
  ·have a1:=new ag ao aq ab;have a2:=old ah b2 ap ar ad ai;omega
  obtain⟨r,aa,am⟩:=av ag ao ab aq;obtain⟨aC,aG,bn⟩:=av ah ap ai ar;rw[aF ag r aq aa]at ac;rw[aF ah aC ar aG]at ad;cases ac;cases ad;obtain⟨_,_,aV,g3,_⟩:=ax.row _ r aa;obtain⟨_,_,b7,g4,_⟩:=ax.row _ aC aG;exact aO.sep r.src aC.src _ _ ao ap g3 g4 am bn aA (ax.inj _ _ r aC aa aG (by omega))
 obtain⟨j,aw,e⟩:=hs.glob g aB;exact⟨j,aH _ _ aw,e⟩
/-! ### Tables, and calls that are known -/
structure Tab where
 id:Nat
 c:List Value
 e:TypeId
def Y7 (G:Nat)(tabs:List Tab):Qa:=⟨G,tabs.foldr (λt tr=>tr.set t.id (some (.cells t.c t.e true))) .nil⟩
def Y1 {G:Nat}:∀ {tabs:List Tab} {id:Nat} {b:Blk},(Y7 G tabs).get id=some b->∃t∈tabs,id=t.id∧b=.cells t.c t.e true
 | [],id,b,h=>by cases h
 | t::ts,id,b,h=>by
  have h:((Y7 G ts).tr.set t.id (some (.cells t.c t.e true))).get id=some b:=h;rw[Tr.get_set]at h
  by_cases e:id=t.id;·rw[Lc e]at h;cases h;exact⟨t,Ny ..,e,rfl⟩
  rw[Le e]at h;obtain⟨ac,q,aa,ab⟩:=Y1 (G:=G) (tabs:=ts) (id:=id) (b:=b) h;exact⟨ac,NA _ q,aa,ab⟩
def tabsOk (tabs:List Tab):Bool:=tabs.all λt=>t.c.all plain
def QCo {G:Nat}{tabs:List Tab}(h:tabsOk tabs=true):QG7 G (Y7 G tabs):=
 ⟨rfl,λid b ab=>by
  obtain⟨t,q,_,aa⟩:=Y1 ab;exact⟨t.c,t.e,aa,Li.1 h t q⟩⟩
def QG8 (t:Tab)(b:Option Blk):Bool:=
 match b with
 | some (.cells c e true)=>Nat.beq e t.e&&GU (Qdi 8) c t.c
 | _=>false
def QjG (tabs:List Tab)(H:Qa):Bool:=tabs.all λt=>QG8 t (H.get t.id)
def QpP {G:Nat}{tabs:List Tab}{H:Qa}(h:QjG tabs H=true):∀id b,(Y7 G tabs).get id=some b->H.get id=some b:=λid b ac=>by
 obtain⟨t,q,aa,ab⟩:=Y1 ac;have:=Li.1 h t q;subst aa;subst ab;unfold QG8 at this;split at this;·rename_i c e ad;simp only[Lm,Zw,Lv]at this;rw[ad,this.1,Qkb (Qcd 8) _ _ this.2]
 cases this
def Qtm:List Row->Bool
 | r::q::rs=>Nat.blt r.src q.src&&Qtm (q::rs)
 | _=>true
def QaS:∀ (rs:List Row),Qtm rs=true->∀ (j k:Nat) (r q:Row),rs[j]? = some r->rs[k]? = some q->j<k->r.src<q.src
 | [],_,j,k,r,q,h,_,_=>by simp at h
 | [x],_,j,k,r,q,h,h',hjk=>by
  have:=(Lk.1 h').1;simp at this;omega
 | x::y::rs,hr,j,k,r,q,h,h',hjk=>by
  simp only[Qtm,Lm,B5]at hr;cases k with
  | zero=>omega
  | succ k=>
   have aa:(y::rs)[k]? = some q:=by simpa using h'
   cases j with
   | zero=>
    simp at h;subst h;cases k with
    | zero=>simp at aa;subst aa;exact hr.1
    | succ k=>exact Nat.lt_trans hr.1 (QaS (y::rs) hr.2 0 (k+1) y q (by simp) aa (by omega))
   | succ j=>exact QaS (y::rs) hr.2 j k r q (by simpa using h) aa (by omega)
def QxP (G:Nat)(σ:Nat->Option Nat)(H1:Qa)(r:Row):Bool:=
 Nat.ble G r.src&&r.c.all (okD 6)&&match H1.get r.src with
  | some (.cells c1 e ro)=>Nat.beq e r.e&&(ro==r.ro)&&GU (mtV σ 6) c1 r.c
  | _=>false
def QpQ (G:Nat)(u:Value)(rs:List Row)(r:Option (Value×Qa)):Bool:=
 match r with
 | some (v,H1)=>mtV (Qay G rs) 6 v u&&okD 6 u&&Qtm rs&&rs.all (QxP G (Qay G rs) H1)
 | none=>false
def QCp {P:Program}{ac:CallF}(ao:CallOk P ac){F G k:Nat}{f:FuncId}{args:List Value}{tabs:List Tab}{u:Value}{rs:List Row}(am:entered P f=true)(ak:args.all X2=true)(ar:tabsOk tabs=true)
  (h:QpQ P.globals.size u rs ((run P ac F G k).fn f args (Y7 P.globals.size tabs))=true) (H:Qa) (aj:QjG tabs H=true):
  Qdd P f args H (.ret (shV P.globals.size (H.y - P.globals.size) 6 u)) (Qrq P.globals.size rs H):=by
 unfold QpQ at h;split at h
 ·rename_i v H1 aq;simp only[Lm]at h;obtain⟨⟨⟨ag,ah⟩,aa⟩,ai⟩:=h;refine QJX (QCo ar) (((Ql8 ao k).fn f args _ v H1 aq).does am) ak ag ah ⟨λj r q=>?_,λj m r ad q ab av=>?_⟩ H (QpP aj)
  ·have:=Li.1 ai r (Ln q);unfold QxP at this;simp only[Lm,BL]at this;obtain⟨⟨g1,g2⟩,g3⟩:=this;refine⟨g1,g2,?_⟩;split at g3;·rename_i ae e ro an;simp only[Lm,Zw,Lv,L0]at g3;exact⟨ae,by rw[an,g3.1.1,g3.1.2],g3.2⟩
   cases g3
  rcases Nq j m with ap | au;·have:=QaS rs aa j m r ad q ab ap;omega
  have:=QaS rs aa m j ad r ab q (by omega);omega
 cases h
def Vt (a b:CallF):CallF:=λf args H=>Option.rec (motive:=λ_=>Option (Value×Qa)) (b f args H) some (a f args H)
def orKnown_ok {P:Program}{a b:CallF}(aa:CallOk P a)(ab:CallOk P b):CallOk P (Vt a b):=by
 intro f args H v H' h;unfold Vt at h;cases q:a f args H with
 | some r=>rw[q]at h;cases h;exact aa f args H v H' q
 | none=>rw[q]at h;exact ab f args H v H' h
end Go.Ab
namespace Go.Ab
open Go.RowKit
section
variable {P:Program}
def globR (P:Program):Ren:=λg=>if g<P.globals.size then some ⟨⟨g,0,none⟩,0,0⟩ else none
def H0 (P:Program):Qa:=⟨P.globals.size,.nil⟩
def QH3 (P:Program)(id:Nat):(H0 P).get id=none:=rfl
def St.below {ρ ρ':Ren}{H H':Qa}{w w':World}(h:St ρ H w ρ' H' w')(ac:∀id b,H.get id=some b->b.ro=true):Below w.heap.size w w':=
 ⟨h.os,h.tape,h.output,h.size,λb ab=>h.frame b ab (λid i bl _ aa q=>by rw[ac id bl aa]at q;cases q)⟩
def QCq {f:FuncId}{args:List Value}{v:Value}{H1:Qa}(ai:Qdd P f args (H0 P) (.ret v) H1)(ae:args.all plain=true)(ad:plain v=true)(H:Qa):Qdd P f args H (.ret v) H:=by
 intro ρ w args' hs hargs;have ag:VL (Ww ρ P.globals.size) args args':=⟨hargs.1,λj x x' e e'=>by
  have ac:plain x=true:=Li.1 ae x (Ln e);rw[(hargs.2 j x x' e e').plain_eq ac];exact .same x ac⟩
 have am:Sim P (Ww ρ P.globals.size) (H0 P) w:=Sim.empty (λid j h=>(Xb h).1) (λg aa=>by
  obtain⟨j,aj,e⟩:=hs.glob g aa;exact⟨j,Yi aa aj,e⟩)
 refine(ai _ w args' am ag).mono ?_;rintro e w' ⟨ρ',ab,an,ap⟩;have q:=an.below (λid b h=>by rw[QH3]at h;cases h);refine⟨ρ,?_,⟨.refl ρ,Lb _,λ_ _ _ h=>h,λ_ _ b b' _ h ak h'=>(by rw[h]at h';cases h';exact ak),λid i h h'=>(by rw[h']at h;cases h),q.os,q.tape,q.output,q.size,λb ah _=>q.block b ah⟩,
  ⟨hs.dom,λid b i h h'=>(hs.live id b i h h').mono (.refl ρ) (q.block _ (hs.live id b i h h').lt),hs.sep,hs.glob⟩⟩
 cases e with
 | returned ao=>
  have:ao=v:=V.plain_eq ab ad;subst this;exact .same _ ad
 | _=>exact ab.elim
def Qrr {f:FuncId}{args args':List Value}{v:Value}{H H':Qa}(ab:Qdd P f args H (.ret v) H'){ρ:Ren}{w:World}(ad:Sim P ρ H w)(aa:VL ρ args args')(ag:plain v=true)(ac:∀id b,H.get id=some b->b.ro=true):
  Calls P f args'.toArray w λe w'=>e=.returned v∧Below w.heap.size w w':=by
 refine(ab ρ w args' ad aa).mono ?_;rintro e w' ⟨ρ',q,ae,ah⟩;refine⟨?_,ae.below ac⟩;cases e with
 | returned ai=>rw[V.plain_eq q ag]
 | _=>exact q.elim
def sim_tabs {tabs:List Tab}{w:World}(ad:∀t∈tabs,t.id<w.heap.size)(ae:∀t∈tabs,∀ (j:Nat) v,t.c[j]? = some v->w.cell? ⟨t.id,j,none⟩=some v)(ag:tabsOk tabs=true):
  Sim P (globR P) (Y7 P.globals.size tabs) w:=by
 refine⟨λid j h=>(by unfold globR at h;split at h;(assumption);cases h),λid b i aa hi=>?_,λan ao b1 b2 ak am q ah ai aj ac=>?_,λg aa=>⟨_,(by unfold globR;rw[Lc aa]),rfl⟩⟩
 ·obtain⟨t,q,rfl,rfl⟩:=Y1 aa;unfold globR at hi;split at hi;·cases hi;refine⟨ad t q,λj v ab=>⟨v,?_,.same v (Li.1 (Li.1 ag t q) v (Ln ab))⟩⟩;rw[Vq,LP];exact ae t q j v ab
  cases hi
 obtain⟨t,_,_,rfl⟩:=Y1 q;cases ac
def post_below {H:Type}{enc:TypeId×Value->H}{f:Func}{s:ChangeSpec}{fresh ah:Bool}{W W':World}{args:Array Value}{v:Value}{q aa:List (DataW H)}{ac ad ae:List MemPlace}
  (ag:DataW.Whole enc P f.params.toList s.vars false W args.toList q aa ac)
  (ak:∀ (b:Nat) (an:Nat->Bool) (aj:Bool),DataW.TrodAll enc P W' b an aj f.resultTypes.toList (v.resultList f.resultTypes.size) (s.fn H (q++aa)).results [])
  (ai:DataW.TrodAll enc P W' 0 (λb=>decide (b<W.heap.size)) true f.params.toList args.toList (s.fn H (q++aa)).args ad)
  (am:DataW.TrodVars enc P W' (λb=>decide (b<W.heap.size)) s.vars (s.fn H (q++aa)).vars ae) (ab:Below W.heap.size W W'):
  s.post enc P f false fresh ah false W args v W':=by
 refine⟨q,aa,ac,[],ad,ae,ag,ak _ _ _,ai,am,⟨ab.os,ab.output,λi hi=>?_⟩,λh=>by cases h⟩;rw[ab.block i hi];cases hx:W.heap[i]? with
 | none=>simp
 | some o=>cases o<;>simp
end
def QjH (ρ:Ren)(τ:Nat->Nat)(n:Nat):Ren:=λid=>if id<n then ρ (τ id) else none
def QmA {ρ:Ren}{τ:Nat->Nat}{n id:Nat}{i:Zv}(h:QjH ρ τ n id=some i):id<n∧ρ (τ id)=some i:=by
 unfold QjH at h;split at h;·rename_i q;exact⟨q,h⟩
 cases h
def Qob (τ:Nat->Nat)(n:Nat)(x y:Value):Prop:=∀ρ v,V ρ y v->V (QjH ρ τ n) x v
def Qob.plain {τ:Nat->Nat}{n:Nat}{x:Value}(h:plain x=true):Qob τ n x x:=λρ v q=>by
 rw[q.plain_eq h];exact .same x h
def Qob.slice {τ:Nat->Nat}{n id o l c:Nat}(h:id<n):Qob τ n (.slice (some ⟨id,o,none⟩) l c) (.slice (some ⟨τ id,o,none⟩) l c):=λρ v aj=>by
 cases aj with
 | same _ ai=>simp[Ab.plain]at ai
 | slice _ _ _ _ aa i q ab ac ad ae ag ah=>exact .slice id o l c aa i q (by unfold QjH;rw[Lc h];exact ab) ac ad ae ag ah
def Qob.ptr {τ:Nat->Nat}{n id o:Nat}(h:id<n):Qob τ n (.pointer (some ⟨id,o,none⟩)) (.pointer (some ⟨τ id,o,none⟩)):=λρ v ab=>by
 cases ab with
 | same _ aa=>simp[Ab.plain]at aa
 | ptr _ _ i q=>exact .ptr id o i (by unfold QjH;rw[Lc h];exact q)
def Qob.agg {τ:Nat->Nat}{n:Nat}{xs ys:List Value}(ac:xs.length=ys.length)(h:∀ (j:Nat) x y,xs[j]? = some x->ys[j]? = some y->Qob τ n x y):Qob τ n (.agg xs.toArray) (.agg ys.toArray):=λρ v ae=>by
 cases ae with
 | same _ ad=>simp[Ab.plain]at ad
 | agg _ ah aa ab=>
  refine .agg _ ah (by simpa[ac] using aa) λj x x' hx ag=>?_;have q:j<ys.length:=by
   have:=(Nj.1 hx).1;simp at this;omega
  exact h j x ys[j] (by simpa using hx) (La q) ρ x' (ab j _ x' (by simp[q]) ag)
def shW (q:Nat->Nat):Nat->Value->Value
 | 0,v=>v
 | f+1,v=>match v with
  | .pointer (some a)=>.pointer (some ⟨q a.block,a.off,a.spot⟩)
  | .slice (some a) l c=>.slice (some ⟨q a.block,a.off,a.spot⟩) l c
  | .map (some r)=>.map (some (q r))
  | .iface t v=>.iface t (shW q f v)
  | .agg xs=>.agg (xs.toList.map (shW q f)).toArray
  | .tuple xs=>.tuple (xs.toList.map (shW q f)).toArray
  | .func fn xs ys=>.func fn (xs.toList.map (shW q f)).toArray (ys.toList.map (shW q f)).toArray
  | v=>v
def Qsj (q:Nat->Nat):∀ (f:Nat) (v:Value),plain v=true->shW q f v=v
 | 0,v,_=>rfl
 | f+1,v,h=>by
  unfold shW;split<;>first | (simp[plain]at h;done) | rfl
def QJY {ρ ρ':Ren}{ai:Nat->Nat}(am:∀id i,ρ id=some i->ρ' (ai id)=some i):∀ (f:Nat) {v ad:Value},V ρ v ad->okD f v=true->V ρ' (shW ai f v) ad:=by
 intro f
 induction f with
 | zero=>
  intro v ad h aa;rw[h.plain_eq aa];exact .same _ aa
 | succ f ap=>
  intro v ad h aa;have aj:∀ (xs q:Array Value),xs.size=q.size->(∀ (j:Nat) x x',xs[j]? = some x->q[j]? = some x'->V ρ x x')->xs.toList.all (okD f)=true->
    (xs.toList.map (shW ai f)).toArray.size=q.size∧∀ (j:Nat) x x',(xs.toList.map (shW ai f)).toArray[j]? = some x->q[j]? = some x'->V ρ' x x':=by
   intro xs q ab ac ae;refine⟨by simp[ab],λj x x' e e'=>?_⟩;simp only[List.getElem?_toArray,LD,Bl,Lx]at e;obtain⟨y,ao,rfl⟩:=e;exact ap (ac j y x' ao e') (Li.1 ae y (by simpa using BB ao))
  cases h with
  | same v an=>rw[Qsj ai (f+1) v an];exact .same v an
  | ptr id off i h=>exact .ptr _ off i (am id i h)
  | slice id off len cap au i ar h ab ac av ae ak=>exact .slice _ off len cap au i ar (am id i h) ab ac av ae ak
  | map id i h=>exact .map _ i (am id i h)
  | func fn xs ys q aq aw ab ac ae ak=>
   simp only[okD,Lm]at aa;obtain⟨ag,ah⟩:=aj xs q ab ae aa.1.2;obtain⟨ax,ay⟩:=aj ys aq ac ak aa.2;exact .func fn _ _ q aq aw ag ax ah ay
  | yield l i h=>simp[okD,QaD]at aa
  | iface t v ad h=>exact .iface t _ ad (ap h aa)
  | agg xs q ab ac=>
   obtain⟨ag,ah⟩:=aj xs q ab ac aa;exact .agg _ q ag ah
  | tuple xs q ab ac=>
   obtain⟨ag,ah⟩:=aj xs q ab ac aa;exact .tuple _ q ag ah
def Row.blkW (q:Nat->Nat)(r:Row):Blk:=.cells (r.c.map (shW q 6)) r.e r.ro
def Gz (q:Nat->Nat):List Row->Qa->Qa
 | [],H=>H
 | r::rs,H=>Gz q rs (H.push (r.blkW q))
def QeE {q:Nat->Nat}:∀ (rs:List Row) (H:Qa),(Gz q rs H).y=H.y+rs.length
 | [],H=>rfl
 | r::rs,H=>by simp only[Gz,QeE rs,Qf,Lo];omega
def QdN {ab:Nat->Nat}:∀ (rs:List Row) (H:Qa) (id:Nat),(Gz ab rs H).get id=if H.y<=id∧id<H.y+rs.length then(rs[id - H.y]?).map (Row.blkW ab) else H.get id
 | [],H,id=>by simp only[Gz,L9];rw[Le (by omega)]
 | r::rs,H,id=>by
  simp only[Gz,QdN rs,Qf,Lo,Qc]
  by_cases q:id=H.y;·subst q;rw[Le (by omega),Lc rfl,Lc ⟨by omega,by omega⟩];simp
  by_cases aa:H.y+1<=id∧id<H.y+1+rs.length;·rw[Lc aa,Lc ⟨by omega,by omega⟩,show id - H.y=(id - (H.y+1))+1 by omega];simp
  rw[Le aa,Le q,Le (by omega)]
def shM (τ:Nat->Nat)(M n id:Nat):Nat:=bif Nat.blt id M then τ id else n+(id - M)
def QeF (τ:Nat->Nat)(M b:Nat):Option Nat:=bif Nat.blt b M then some (τ b) else none
def QhH (a b:Nat):Nat.blt a b=decide (a<b):=by
 cases q:Nat.blt a b with
 | false=>
  by_cases h:a<b
  ·have:Nat.blt a b=true:=by simpa using h
   rw[q]at this;cases this
  simp[h]
 | true=>simp only[B5]at q;simp[q]
def Qvu {ρ:Ren}{τ:Nat->Nat}{n a b:Nat}{i:Zv}(h:QeF τ n b=some a)(h':ρ a=some i):QjH ρ τ n b=some i:=by
 unfold QeF at h;rw[QhH]at h;unfold QjH
 by_cases q:b<n;·simp only[q,Nf,Lq,Lt]at h;rw[Lc q,h];exact h'
 simp only[q,NE,Ls]at h;cases h
def QFm {τ:Nat->Nat}{n f:Nat}{x y:Value}(h:mtV (QeF τ n) f y x=true):Qob τ n x y:=λρ v q=>Qy9 (λa b i=>Qvu) f h q
def QH4 {P:Program}{f:FuncId}{args aB:List Value}{v u:Value}{B H1:Qa}{τ:Nat->Nat}(bi:Qdd P f args B (.ret v) H1)(aI:P.globals.size<=B.y)(bx:∀g,g<P.globals.size->τ g=g)
  {rs:List Row} (bu:mtV (Qay B.y rs) 6 v u=true) (br:okD 6 u=true) (ay:QxO B.y H1 rs) (H:Qa)
  (hB:∀id b,B.get id=some b->∃c e ak e2 ro,b=.cells c e true∧H.get (τ id)=some (.cells ak e2 ro)∧c.length=ak.length∧∀ (j:Nat) x y,c[j]? = some x->ak[j]? = some y->Qob τ B.y x y)
  (aY:GU (mtV (QeF τ B.y) 6) aB args=true):
  Qdd P f aB H (.ret (shW (shM τ B.y H.y) 6 u)) (Gz (shM τ B.y H.y) rs H):=by
 intro ρ w args' hs hargs;have bd:=λa b i=>Qvu (ρ:=ρ) (τ:=τ) (n:=B.y) (a:=a) (b:=b) (i:=i);obtain⟨aZ,bc⟩:=QdM aY;have ba:VL (QjH ρ τ B.y) args args':=⟨by rw[<- aZ];exact hargs.1,λj x x' e e'=>by
  have ai:j<aB.length:=by have:=(Lk.1 e).1;omega
  exact Qy9 bd 6 (bc j aB[j] x (La ai) e) (hargs.2 j _ x' (La ai) e')⟩
 have aF:∀id b,B.get id=some b->b.ro=true:=λid b h=>by obtain⟨c,e,ak,e2,ro,rfl,_⟩:=hB id b h;rfl
 have bq:Sim P (QjH ρ τ B.y) B w:=by
  refine⟨λid j h=>(QmA h).1,λid b i aa hi=>?_,λae aj b1 b2 ar au ad ab ac am az=>?_,λg ag=>?_⟩
  ·obtain⟨c,e,ak,e2,ro,rfl,bj,b9,hx⟩:=hB id b aa;have q:=hs.live _ _ i bj (QmA hi).2;refine⟨q.lt,λj u ai=>?_⟩;have aK:j<ak.length:=by have:=(Lk.1 ai).1;omega
   obtain⟨aU,ad,ab⟩:=q.cellAt (La aK);exact⟨aU,ad,hx j u ak[j] ai (La aK) ρ aU ab⟩
  ·rw[aF ae b1 ad]at az;cases az
  obtain⟨j,ai,e⟩:=hs.glob g ag;refine⟨j,?_,e⟩;unfold QjH;rw[Lc (by omega),bx g ag];exact ai
 refine(bi _ w args' bq ba).mono ?_;rintro e w' ⟨ρ1,aN,ap,aO⟩;have aP:∀b,b<w.heap.size->w'.heap[b]? = w.heap[b]? := λb aa=>ap.frame b aa (λid i bl _ ab ac=>by rw[aF id bl ab]at ac;cases ac);have aL:∀id i,ρ1 id=some i->B.y<=id->w.heap.size<=i.at_.block:=λid i h ah=>by
  have bn:QjH ρ τ B.y id=none:=by unfold QjH;rw[Le (by omega)]
  rcases(ap.fresh id i h bn).2 with h | ⟨id0,aT,b0,_,_,ac,am⟩;·exact h
  rw[aF id0 b0 ac]at am;cases am
 generalize b8:B.y=M at *;have bp:∀id,shM τ M H.y id=if id<M then τ id else H.y+(id - M):=λid=>by
  unfold shM;rw[QhH];by_cases h:id<M<;>simp[h]
 let ρc:Ren:=λb=>(Qay M rs b).bind ρ1
 let ρ':Ren:=λid=>if id<H.y then ρ id else ρc (M+(id - H.y))
 have bg:∀a b i,Qay M rs b=some a->ρ1 a=some i->ρc b=some i:=λa b i h h'=>by simp only[ρc,h,R8,h']
 have bh:∀b i,ρc b=some i->M<=b->∃r,rs[b - M]? = some r∧ρ1 r.src=some i:=λb i h aa=>by
  simp only[ρc,Qay,QhH,show ¬b<M by omega,NE,Ls]at h;cases q:rs[b - M]? with
  | none=>rw[q]at h;cases h
  | some r=>rw[q]at h;exact⟨r,rfl,h⟩
 have bm:∀b i,ρc b=some i->ρ' (shM τ M H.y b)=some i:=λb i h=>by
  rw[bp]
  by_cases aa:b<M
  ·simp only[aa,N3,ρ'];simp only[ρc,Qay,QhH,aa,Nf,Lq,R8]at h;cases aE:QjH ρ τ M b with
   | none=>
    have:=(ap.fresh b i h aE).1;omega
   | some aT=>
    have:=ap.mono b aT aE;rw[h]at this;cases this;have ab:=(QmA aE).2;rw[Lc (hs.dom _ _ ab)];exact ab
  simp only[aa,LN,ρ'];rw[Le (by omega),show M+(H.y+(b - M) - H.y)=b by omega];exact h
 have aQ:∀ {x y z:Value},mtV (Qay M rs) 6 x y=true->okD 6 y=true->V ρ1 x z->V ρ' (shW (shM τ M H.y) 6 y) z:=λad ab ac=>QJY bm 6 (Qy9 bg 6 ad ac) ab;have aH:Sub ρ ρ':=λid i h=>by
  simp only[ρ'];rw[Lc (hs.dom id i h)];exact h
 have aJ:∀id,(Gz (shM τ M H.y) rs H).get id=if H.y<=id∧id<H.y+rs.length then(rs[id - H.y]?).map (Row.blkW (shM τ M H.y)) else H.get id:=λid=>QdN rs H id
 have aM:(Gz (shM τ M H.y) rs H).y=H.y+rs.length:=QeE rs H;have ax:∀id i,ρ' id=some i->H.y<=id->∃r,rs[id - H.y]? = some r∧ρ1 r.src=some i:=λid i hi ah=>by
  simp only[ρ']at hi;rw[Le (by omega)]at hi;have:=bh _ i hi (by omega);rwa [show M+(id - H.y) - M=id - H.y by omega]at this
 have aA:∀id i,ρ' id=some i->id<H.y->ρ id=some i:=λid i hi ah=>by
  simp only[ρ']at hi;rwa [Lc ah]at hi
 have ag:∀id,id<H.y->(Gz (shM τ M H.y) rs H).get id=H.get id:=λid ah=>by rw[aJ,Le (by omega)]
 have aD:∀id r,H.y<=id->rs[id - H.y]? = some r->(Gz (shM τ M H.y) rs H).get id=some (r.blkW (shM τ M H.y)):=λid r ah q=>by
  have:=(Lk.1 q).1;rw[aJ,Lc ⟨ah,by omega⟩,q];rfl
 refine⟨ρ',?_,⟨aH,by rw[aM];omega,λid i h h'=>?_,λid i b b' h ad ab ac=>?_,λid i h h'=>?_,ap.os,ap.tape,ap.output,ap.size,λb aa _=>aP b aa⟩,
  ⟨λid i h=>?_,λid b i aa hi=>?_,λae aj b1 b2 ar au ad ab ac am az aX=>?_,λg aI=>?_⟩⟩
 ·cases e with
  | returned bA=>exact aQ bu br aN
  | _=>exact aN.elim
 ·rw[ag id (hs.dom id i h)];exact h'
 ·rw[ag id (hs.dom id i h),ad]at ac;cases ac;exact ab
 ·have ah:H.y<=id:=by
   rcases Nq id H.y with ao | an;·rw[aA id i h ao]at h';cases h'
   exact an
  obtain⟨r,q,aq⟩:=ax id i h ah;exact⟨ah,.inl (aL r.src i aq (ay.row _ r q).1)⟩
 ·rw[aM];rcases Nq id H.y with ao | an;·omega
  obtain⟨r,q,_⟩:=ax id i h an;have:=(Lk.1 q).1;omega
 ·rcases Nq id H.y with ao | an;·rw[ag id ao]at aa;have q:=hs.live id b i aa (aA id i hi ao);exact q.mono aH (aP _ q.lt)
  obtain⟨r,q,aq⟩:=ax id i hi an;rw[aD id r an q]at aa;cases aa;obtain⟨g1,g2,aW,g3,g4⟩:=ay.row _ r q;obtain⟨bz,b7⟩:=QdM g4;refine(aO.live r.src _ i g3 aq).turn (by simp[bz]) λj x y z hx aR bw=>?_;simp only[LD,Lx]at aR;obtain⟨aV,aS,rfl⟩:=aR;exact aQ (b7 j x aV hx aS) (Li.1 g2 aV (Ln aS)) bw
 ·have old:∀id b i,id<H.y->(Gz (shM τ M H.y) rs H).get id=some b->ρ' id=some i->i.at_.block<w.heap.size:=λid b i ao aa hi=>by
   rw[ag id ao]at aa;exact(hs.live id b i aa (aA id i hi ao)).lt
  have new:∀id i,H.y<=id->ρ' id=some i->w.heap.size<=i.at_.block:=λid i an hi=>by
   obtain⟨r,q,aq⟩:=ax id i hi an;exact aL r.src i aq (ay.row _ r q).1
  rcases Nq ae H.y with av | av<;>rcases Nq aj H.y with aw | aw;·rw[ag ae av]at ad;rw[ag aj aw]at ab;exact hs.sep ae aj b1 b2 ar au ad ab (aA ae ar ac av) (aA aj au am aw) az aX
  ·have a1:=old ae b1 ar av ad ac;have a2:=new aj au aw am;omega
  ·have a1:=new ae ar av ac;have a2:=old aj b2 au aw ab am;omega
  obtain⟨r,q,aq⟩:=ax ae ar ac av;obtain⟨aC,aG,bo⟩:=ax aj au am aw;rw[aD ae r av q]at ad;rw[aD aj aC aw aG]at ab;cases ad;cases ab;obtain⟨_,_,aW,g3,_⟩:=ay.row _ r q;obtain⟨_,_,ak,g4,_⟩:=ay.row _ aC aG;exact aO.sep r.src aC.src _ _ ar au g3 g4 aq bo az (ay.inj _ _ r aC q aG (by omega))
 obtain⟨j,ai,e⟩:=hs.glob g aI;exact⟨j,aH _ _ ai,e⟩
/-! ### Known calls -/
structure SumI where
 f:FuncId
 args:List Value
 ins:List (List Value×TypeId)
 u:Value
 rs:List Row
def QcO (H:Qa):List (List Value×TypeId)->Qa
 | []=>H
 | c::cs=>QcO (H.push (.cells c.1 c.2 true)) cs
def Qk8:∀ (l:List (List Value×TypeId)) (H:Qa),(QcO H l).y=H.y+l.length
 | [],H=>rfl
 | c::cs,H=>by simp only[QcO,Qk8 cs,Qf,Lo];omega
def QnC:∀ (l:List (List Value×TypeId)) (H:Qa) (id:Nat) (b:Blk),(QcO H l).get id=some b->H.get id=some b∨∃k c,l[k]? = some c∧id=H.y+k∧b=.cells c.1 c.2 true
 | [],H,id,b,h=>.inl h
 | c::cs,H,id,b,h=>by
  rcases QnC cs _ id b h with h | ⟨k,c',aa,ab,ac⟩
  ·rw[Qc]at h
   by_cases q:id=H.y;·rw[Lc q]at h;cases h;exact .inr ⟨0,c,rfl,q,rfl⟩
   rw[Le q]at h;exact .inl h
  exact .inr ⟨k+1,c',by simpa using aa,by rw[ab,Qf];omega,ac⟩
def QCr (g:Value->Value->List (Nat×Nat)->List (Nat×Nat)):List Value->List Value->List (Nat×Nat)->List (Nat×Nat)
 | x::xs,y::ys,l=>QCr g xs ys (g x y l)
 | _,_,l=>l
def fnd:Nat->Value->Value->List (Nat×Nat)->List (Nat×Nat)
 | 0,_,_,l=>l
 | f+1,x,y,l=>match x,y with
  | .pointer (some a),.pointer (some b)=>(a.block,b.block)::l
  | .slice (some a) _ _,.slice (some b) _ _=>(a.block,b.block)::l
  | .iface _ x,.iface _ y=>fnd f x y l
  | .agg xs,.agg ys=>QCr (fnd f) xs.toList ys.toList l
  | .tuple xs,.tuple ys=>QCr (fnd f) xs.toList ys.toList l
  | _,_=>l
def asc:List (Nat×Nat)->Nat->Nat
 | [],_=>0
 | p::l,n=>bif Nat.beq p.1 n then p.2 else asc l n
def QCs (H:Qa):List (List Value×TypeId)->Nat->List (Nat×Nat)->List (Nat×Nat)
 | [],_,l=>l
 | c::cs,n,l=>QCs H cs (n+1) (match H.get (asc l n) with | some (.cells c' _ _)=>QCr (fnd 6) c.1 c' l | _=>l)
def QpR (G:Nat)(s:SumI)(args:List Value)(H:Qa)(id:Nat):Nat:=bif Nat.blt id G then id else asc (QCs H s.ins G (QCr (fnd 6) s.args args [])) id
def Qsk (τ:Nat->Nat)(M:Nat)(H:Qa):List (List Value×TypeId)->Nat->Bool
 | [],_=>true
 | c::cs,n=>(match H.get (τ n) with | some (.cells c' _ _)=>GU (mtV (QeF τ M) 6) c' c.1 | _=>false)&&Qsk τ M H cs (n+1)
def Qsl {τ:Nat->Nat}{M:Nat}{H:Qa}:∀ (l:List (List Value×TypeId)) (n:Nat),Qsk τ M H l n=true->∀ (k:Nat) c,l[k]? = some c->∃c' e' ro,H.get (τ (n+k))=some (.cells c' e' ro)∧GU (mtV (QeF τ M) 6) c' c.1=true
 | [],n,_,k,c,hk=>by simp at hk
 | c0::cs,n,h,k,c,hk=>by
  simp only[Qsk,Lm]at h;cases k with
  | zero=>
   simp at hk;subst hk;obtain⟨h,_⟩:=h;split at h;·rename_i c' e' ro ab;exact⟨c',e',ro,ab,h⟩
   cases h
  | succ k=>
   obtain⟨c',e',ro,q,aa⟩:=Qsl cs (n+1) h.2 k c (by simpa using hk);exact⟨c',e',ro,by rw[show n+(k+1)=n+1+k by omega];exact q,aa⟩
def SumIOk (P:Program)(tabs:List Tab)(s:SumI):Prop:=
 entered P s.f=true∧∃v H1,Qdd P s.f s.args (QcO (Y7 P.globals.size tabs) s.ins) (.ret v) H1∧mtV (Qay (P.globals.size+s.ins.length) s.rs) 6 v s.u=true∧okD 6 s.u=true∧QxO (P.globals.size+s.ins.length) H1 s.rs
def sumI_ok {P:Program}{ad:CallF}(am:CallOk P ad){F G k:Nat}{tabs:List Tab}{s:SumI}(ab:entered P s.f=true)
  (h:QpQ (P.globals.size+s.ins.length) s.u s.rs ((run P ad F G k).fn s.f s.args (QcO (Y7 P.globals.size tabs) s.ins))=true):SumIOk P tabs s:=by
 unfold QpQ at h;split at h
 ·rename_i v H1 ao;simp only[Lm]at h;obtain⟨⟨⟨ah,ai⟩,aa⟩,aj⟩:=h;refine⟨ab,v,H1,((Ql8 am k).fn s.f s.args _ v H1 ao).does ab,ah,ai,⟨λj r q=>?_,λj m r ae q ac aq=>?_⟩⟩
  ·have:=Li.1 aj r (Ln q);unfold QxP at this;simp only[Lm,BL]at this;obtain⟨⟨g1,g2⟩,g3⟩:=this;refine⟨g1,g2,?_⟩;split at g3;·rename_i ag e ro ak;simp only[Lm,Zw,Lv,L0]at g3;exact⟨ag,by rw[ak,g3.1.1,g3.1.2],g3.2⟩
   cases g3
  rcases Nq j m with an | ap;·have:=QaS _ aa j m r ae q ac an;omega
  have:=QaS _ aa m j ae r ac q (by omega);omega
 cases h
def SumIOk.does {P:Program}{tabs:List Tab}{s:SumI}(ap:SumIOk P tabs s)(aq:tabsOk tabs=true){args:List Value}{H:Qa}{τ:Nat->Nat}(ah:∀g,g<P.globals.size->τ g=g)(ar:∀t∈tabs,t.id<P.globals.size)
  (aj:QjG tabs H=true) (hi:Qsk τ (P.globals.size+s.ins.length) H s.ins P.globals.size=true) (ae:GU (mtV (QeF τ (P.globals.size+s.ins.length)) 6) args s.args=true):
  Qdd P s.f args H (.ret (shW (shM τ (P.globals.size+s.ins.length) H.y) 6 s.u)) (Gz (shM τ (P.globals.size+s.ins.length) H.y) s.rs H):=by
 obtain⟨aw,v,H1,ak,ab,ai,ac⟩:=ap;have ad:(QcO (Y7 P.globals.size tabs) s.ins).y=P.globals.size+s.ins.length:=Qk8 _ _;rw[<- ad]at ab ac hi ae ⊢;refine QH4 ak (by rw[ad];omega) ah ab ai ac H (λid b q=>?_) ae;rcases QnC _ _ _ _ q with q | ⟨k,c,ao,an,rfl⟩;·have am:=QpP aj id b q;obtain⟨t,ag,rfl,rfl⟩:=Y1 q;refine⟨t.c,t.e,t.c,t.e,true,rfl,by rw[ah _ (ar t ag)];exact am,rfl,λj x y hx aa=>?_⟩;rw[hx]at aa;cases aa;exact Qob.plain (Li.1 (Li.1 aq t ag) x (Ln hx))
 obtain⟨c',e',ro,g1,g2⟩:=Qsl _ _ hi k c ao;obtain⟨au,av⟩:=QdM g2;exact⟨c.1,c.2,c',e',ro,rfl,by rw[an];exact g1,au.symm,λj x y hx aa=>QFm (av j y x aa hx)⟩
def QoD (G:Nat)(tabs:List Tab)(f:FuncId)(args:List Value)(H:Qa):List SumI->Option (Value×Qa)
 | []=>none
 | s::ss=>bif Nat.beq f s.f&&(GU (mtV (QeF (QpR G s args H) (G+s.ins.length)) 6) args s.args&&(QjG tabs H&&Qsk (QpR G s args H) (G+s.ins.length) H s.ins G)) then
   some (shW (shM (QpR G s args H) (G+s.ins.length) H.y) 6 s.u,Gz (shM (QpR G s args H) (G+s.ins.length) H.y) s.rs H) else QoD G tabs f args H ss
def QpS {P:Program}{tabs:List Tab}(ab:tabsOk tabs=true)(ac:∀t∈tabs,t.id<P.globals.size){f:FuncId}{args:List Value}{H:Qa}{v:Value}{H':Qa}:∀ {ss:List SumI},(∀s∈ss,SumIOk P tabs s)->QoD P.globals.size tabs f args H ss=some (v,H')->
  entered P f=true∧Qdd P f args H (.ret v) H'
 | [],_,h=>by cases h
 | s::ss,hs,h=>by
  simp only[QoD]at h;cases q:(Nat.beq f s.f&&(GU (mtV (QeF (QpR P.globals.size s args H) (P.globals.size+s.ins.length)) 6) args s.args&&(QjG tabs H&&Qsk (QpR P.globals.size s args H) (P.globals.size+s.ins.length) H s.ins P.globals.size))) with
  | false=>
   rw[q]at h;exact QpS ab ac (ss:=ss) (λae h'=>hs ae (NA _ h')) h
  | true=>
   rw[q]at h;simp only[Lq,Lt,LB]at h;obtain⟨rfl,rfl⟩:=h;simp only[Lm,Zw,Lv]at q;obtain⟨e1,e2,e3,e4⟩:=q;have aa:=hs s (Ny ..);subst e1;exact⟨aa.1,aa.does ab (λg ad=>by unfold QpR;rw[QhH];simp[ad]) ac e3 e4 e2⟩
def Qtn (G:Nat)(tabs:List Tab)(q:FuncId->List SumI):CallF:=λf args H=>QoD G tabs f args H (q f)
def byFn_ok {P:Program}{tabs:List Tab}(ac:tabsOk tabs=true)(ad:∀t∈tabs,t.id<P.globals.size){q:FuncId->List SumI}(h:∀f,∀s∈q f,SumIOk P tabs s):CallOk P (Qtn P.globals.size tabs q):=λf args H v H' e=>by
 obtain⟨aa,ab⟩:=QpS ac ad (h f) e;exact .inl ⟨aa,ab⟩
end Go.Ab
