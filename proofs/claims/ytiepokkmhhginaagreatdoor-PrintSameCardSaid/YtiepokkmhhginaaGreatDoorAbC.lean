/- The interpreter: operations, code, functions; what it gives is so. -/
import Derived.Test.YtiepokkmhhginaaGreatDoorAbB
import Derived.Test.YtiepokkmhhginaaGreatDoorAbA
import Derived.ProofKit
import Derived.OpenShut
set_option linter.unusedVariables false
set_option linter.unusedSimpArgs false
noncomputable section
namespace Go.Ab
abbrev CallF:=FuncId->List Value->Qa->Option (Value×Qa)
structure Ws where
 fn:CallF
 yd:CallF
 pn:CallF
def Yl (H:Qa):Option Value->Option (Cls×Value×Qa)
 | some v=>some (.pure,v,H)
 | none=>none
def Qpw (P:Program) (k:Bool) (op:BinOp) (t:TypeId) (x y:Value):Option Value:=
 match x,y with
 | .int ik a,.int ik' b=>match op with
  | .shl | .shr=>Vy op ik a b
  | _=>if ik=ik' then Yu op ik a b else none
 | .string a,.string b=>Qa2 op (bl a) (bl b)
 | x,y=>Qjz P k op t x y
def Qrh (P:Program) (call:Ws) (A:Env) (H:Qa) (c x y:Operand):Option (Cls×Value×Qa):=
 match ev A c with
  | .bool t=>some (.pure,bif t then ev A x else ev A y,H)
  | _=>none
def Qa6 (P:Program) (call:Ws) (A:Env) (H:Qa) (x:Operand):Option (Cls×Value×Qa):=
 bif Qei (ev A x) then some (.pure,ev A x,H) else none
def QaF (P:Program) (call:Ws) (A:Env) (H:Qa) (op:BinOp) (t:TypeId) (x y:Operand):Option (Cls×Value×Qa):=
 Yl H (Qpw P (QfS x||QfS y) op t (ev A x) (ev A y))
def Qri (P:Program) (call:Ws) (A:Env) (H:Qa) (op:UnOp) (x:Operand):Option (Cls×Value×Qa):=
 Yl H (QnD op (ev A x))
def GF (P:Program) (call:Ws) (A:Env) (H:Qa) (src dst:TypeId) (x:Operand):Option (Cls×Value×Qa):=
 match P.underlying src,P.underlying dst,ev A x with
  | some _,some (.slice e),.string s=>match P.underlying e,P.info? e with
   | some (.int .u8),some inf=>match inf.zero with
    | some z=>bif Qej P e inf z&&Nat.beq inf.size 1&&Nat.ble (bl s).length 140737488355328 then
      some (.alloc (.cells (XX s) e false),.slice (some ⟨H.next,0,none⟩) (bl s).length (UNK+1),H.push (.cells (XX s) e false)) else none
    | none=>none
   | _,_=>none
  | some (.slice e),some .string,.slice a m c=>match P.underlying e,Qa5 1 (.slice a m c) H with
   | some (.int .u8),some l=>match ZS l with
    | some bs=>some (.gen,.string (mkS bs),H)
    | none=>none
   | _,_=>none
  | some (.pointer t),some .unsafePointer,.pointer (some a)=>match P.info? t,H.get a.block with
   | some j,some (.cells c e false)=>if j.size≠0∧a.off<c.length then some (.gen,.pointer (some a),H) else none
   | _,_=>none
  | some .unsafePointer,some (.pointer u),.pointer (some a)=>match P.info? u,H.get a.block with
   | some j,some (.cells c e false)=>if liesAt P P.depth e (c.length / P.cellsOf e) a.off u 1=true then some (.gen,.pointer (some a),H) else none
   | _,_=>none
  | _,_,_=>Yl H (Qnj P src dst (ev A x))
def Jx (P:Program) (call:Ws) (A:Env) (H:Qa) (t:TypeId) (x:Operand):Option (Cls×Value×Qa):=
 match P.underlying t with
  | some (.interface _)=>none
  | some _=>some (.pure,.iface t (ev A x),H)
  | none=>none
def Qiz (P:Program) (call:Ws) (A:Env) (H:Qa) (fn:Fn) (first captured:Array Operand):Option (Cls×Value×Qa):=
 bif QaD fn then some (.pure,.func fn (first.map (ev A)) (captured.map (ev A)),H) else none
def Qnl (P:Program) (call:Ws) (A:Env) (H:Qa) (t:TypeId) (x:Operand) (f:Nat):Option (Cls×Value×Qa):=
 match P.underlying t,ev A x with
  | some (.struct fs),.agg cs=>match fs[f]? with
   | some fd=>Yl H (apart P fd.type cs fd.offset)
   | none=>none
  | _,_=>none
def JV (P:Program) (call:Ws) (A:Env) (H:Qa) (t:TypeId) (x:Operand) (f:Nat):Option (Cls×Value×Qa):=
 match P.underlying t,ev A x with
  | some (.struct fs),.pointer (some a)=>match fs[f]? with
   | some fd=>match P.info? fd.type with
    | some inf=>bif Nat.beq inf.size 0 then none else some (.pure,.pointer (some ⟨a.block,a.off+fd.offset,none⟩),H)
    | none=>none
   | none=>none
  | _,_=>none
def Zy (P:Program) (call:Ws) (A:Env) (H:Qa) (t:TypeId) (x ix:Operand):Option (Cls×Value×Qa):=
 match ev A ix with
  | .int _ m=>match P.underlying t,ev A x with
   | some (.slice e),.slice (some a) len _=>match P.info? e with
    | some inf=>if 0<=m∧m<len then some (.pure,.pointer (some ⟨a.block,a.off+m.toNat * inf.size,none⟩),H) else none
    | none=>none
   | some (.array len e),.pointer (some a)=>match P.info? e with
    | some inf=>if 0<=m∧m<len then some (.pure,.pointer (some ⟨a.block,a.off+m.toNat * inf.size,none⟩),H) else none
    | none=>none
   | _,_=>none
  | _=>none
def Qnm (P:Program) (call:Ws) (A:Env) (H:Qa) (t:TypeId) (x ix:Operand):Option (Cls×Value×Qa):=
 match ev A ix with
  | .int _ m=>match P.underlying t,ev A x with
   | some .string,.string s=>if 0<=m then(match (bl s)[m.toNat]? with | some b=>some (.pure,.int .u8 b.toNat,H) | none=>none) else none
   | some (.array len e),.agg cs=>match P.info? e with
    | some inf=>if 0<=m∧m<len then Yl H (apart P e cs (m.toNat * inf.size)) else none
    | none=>none
   | _,_=>none
  | _=>none
def Qhg (P:Program) (call:Ws) (A:Env) (H:Qa) (x:Operand) (ix:Nat):Option (Cls×Value×Qa):=
 match ev A x with
  | .tuple vs=>Yl H vs[ix]?
  | _=>none
def QGH (P:Program) (call:Ws) (A:Env) (H:Qa) (x:Operand) (t:TypeId) (ok:Bool):Option (Cls×Value×Qa):=
 Yl H (QGQ P (ev A x) t ok)
def Qnn (P:Program) (call:Ws) (A:Env) (H:Qa) (t:TypeId) (parts:Array (Nat×Operand)):Option (Cls×Value×Qa):=
 match P.underlying t,P.info? t with
  | some (.struct fs),some inf=>match inf.zero,Qjy P fs with
   | some z,some pl=>bif z.cells.toList.all plain then Yl H ((Qb0 (pl[·]?) z.cells.toList (Yq A parts)).map λr=>.agg r.toArray) else none
   | _,_=>none
  | some (.array _ e),some inf=>match inf.zero,P.info? e with
   | some z,some inf'=>bif z.cells.toList.all plain then Yl H ((Qb0 (λi=>some (i * inf'.size,inf'.size)) z.cells.toList (Yq A parts)).map λr=>.agg r.toArray) else none
   | _,_=>none
  | _,_=>none
def QaG (P:Program) (call:Ws) (A:Env) (H:Qa) (t:TypeId) (len:Nat) (parts:Array (Nat×Operand)):Option (Cls×Value×Qa):=
 match P.underlying t with
  | some (.slice e)=>match P.info? e with
   | some inf=>match inf.zero with
    | some z=>bif z.cells.toList.all plain&&Nat.blt 0 z.cells.size&&Nat.ble len 16777216&&Nat.ble (len * inf.size) 16777216 then
      match Qb0 (λi=>some (i * inf.size,inf.size)) (Xt z.cells (len * inf.size)) (Yq A parts) with
      | some r=>some (.alloc (.cells r e false),.slice (some ⟨H.next,0,none⟩) len len,H.push (.cells r e false))
      | none=>none
     else none
    | none=>none
   | none=>none
  | _=>none
def Qno (P:Program) (call:Ws) (A:Env) (H:Qa) (e:TypeId):Option (Cls×Value×Qa):=
 match P.info? e with
  | some inf=>match inf.zero with
   | some z=>bif z.cells.toList.all plain then some (.alloc (.cells z.cells.toList e false),.pointer (some ⟨H.next,0,none⟩),H.push (.cells z.cells.toList e false)) else none
   | none=>none
  | none=>none
def Qzr (P:Program) (call:Ws) (A:Env) (H:Qa) (e:TypeId) (x:Operand):Option (Cls×Value×Qa):=
 some (.alloc (.cells (ev A x).cells.toList e false),.pointer (some ⟨H.next,0,none⟩),H.push (.cells (ev A x).cells.toList e false))
def Qb3 (P:Program) (call:Ws) (A:Env) (H:Qa) (t:TypeId) (x y:Operand):Option (Cls×Value×Qa):=
 match P.underlying t,ev A x,ev A y with
  | some (.slice e),.int .i64 l,.int .i64 c=>match P.info? e with
   | some inf=>match inf.zero with
    | some z=>if Qej P e inf z=true∧0<=l∧l<=c∧(inf.bytes:Int) * c<=281474976710656∧c<=9223372036854775807 then
      some (.alloc (.cells (Xt z.cells (c.toNat * inf.size)) e false),.slice (some ⟨H.next,0,none⟩) l.toNat c.toNat,H.push (.cells (Xt z.cells (c.toNat * inf.size)) e false))
     else none
    | none=>none
   | none=>none
  | _,_,_=>none
def Qep (P:Program) (call:Ws) (A:Env) (H:Qa) (t:TypeId) (x:Operand) (lo hi mx:Option Operand):Option (Cls×Value×Qa):=
 match P.underlying t with
  | some .string=>match ev A x,mx,QS A lo,QS A hi with
   | .string s,none,some l,some h=>if 0<=l.getD 0∧l.getD 0<=h.getD (bl s).length∧h.getD (bl s).length<=(bl s).length then some (.pure,.string (mkS (((bl s).drop (l.getD 0).toNat).take ((h.getD (bl s).length).toNat - (l.getD 0).toNat))),H) else none
   | _,_,_,_=>none
  | some (.slice e)=>match P.info? e,QS A lo,QS A hi,QS A mx with
   | some inf,some l,some h,some m=>if m.isNone||h.isSome then Yl H (Ki inf.size (ev A x) l h m) else none
   | _,_,_,_=>none
  | some (.array n e)=>match ev A x,mx,QS A lo,QS A hi with
   | .pointer (some a),none,some l,some h=>match P.info? e with
    | some inf=>if 0<=l.getD 0∧l.getD 0<=h.getD n∧h.getD n<=n∧n<UNK then some (.pure,.slice (some ⟨a.block,a.off+(l.getD 0).toNat * inf.size,none⟩) ((h.getD n).toNat - (l.getD 0).toNat) (n - (l.getD 0).toNat),H) else none
    | none=>none
   | _,_,_,_=>none
  | _=>none
def QnT (P:Program) (call:Ws) (A:Env) (H:Qa) (t:TypeId) (x:Operand):Option (Cls×Value×Qa):=
 match ev A x with
  | .pointer (some a)=>match XW P t a H with
   | some v=>some (.load,v,H)
   | none=>none
  | _=>none
def QjB (P:Program) (call:Ws) (A:Env) (H:Qa) (t:TypeId) (x y:Operand):Option (Cls×Value×Qa):=
 match ev A x with
  | .pointer (some a)=>match Qiu P t a (ev A y) H with
   | some H'=>some (.gen,undef,H')
   | none=>none
  | _=>none
def Qzs:Value->Bool
 | .int .u8 m=>decide (0<=m)&&decide (m<256)
 | _=>false
def Qeq (P:Program) (call:Ws) (A:Env) (H:Qa) (c:Call):Option (Cls×Value×Qa):=
 match c with
  | ⟨.builtin b,args,ts⟩=>match b,args.toList,ts.toList with
   | .len,[x],[t]=>match Qzf P t (ev A x) with | some m=>some (.pure,.int .i64 (m:Int),H) | none=>none
   | .cap,[x],[t]=>match P.underlying t,ev A x with
    | some (.slice _),.slice _ _ c=>bif Nat.blt c UNK then some (.pure,.int .i64 c,H) else none
    | _,_=>none
   | .max,[x,y],_=>match ev A x,ev A y with
    | .int k a,.int k' b=>if k=k' then some (.pure,.int k (if b>a then b else a),H) else none
    | _,_=>none
   | .min,[x,y],_=>match ev A x,ev A y with
    | .int k a,.int k' b=>if k=k' then some (.pure,.int k (if b<a then b else a),H) else none
    | _,_=>none
   | .append,[x,y],[t,t2]=>match P.underlying t,P.underlying t2 with
    | some (.slice e),some td=>match P.info? e with
     | some inf=>match inf.zero with
      | some z=>bif Qf8 td&&Qej P e inf z then(Qhf e inf (ev A x) (ev A y) H).map λr=>(.gen,r.1,r.2) else none
      | none=>none
     | none=>none
    | _,_=>none
   | .copy,[x,y],[t,_]=>match P.underlying t with
    | some (.slice e)=>match P.info? e with
     | some inf=>(QwG inf.size (ev A x) (ev A y) H).map λr=>(.gen,r.1,r.2)
     | none=>none
    | _=>none
   | .unsafeSliceData,[x],_=>match ev A x with
    | .slice none _ _=>some (.pure,.pointer none,H)
    | .slice (some a) m _=>if m≠0 then some (.pure,.pointer (some a),H) else none
    | _=>none
   | .unsafeString,[x,y],[pt,_]=>match ev A x,ev A y with
    | .pointer none,.int .i64 0=>some (.gen,.string (mkS []),H)
    | .pointer (some a),.int .i64 m=>match P.underlying pt,H.get a.block with
     | some (.pointer e),some (.cells c e' false)=>
      if e=e'∧a=⟨a.block,0,none⟩∧P.cellsOf e=1∧0<m∧m.toNat<=c.length∧m<=9223372036854775807∧(c.take m.toNat).all Qzs=true then
       (match ZS (c.take m.toNat) with
       | some bs=>some (.gen,.string (mkS bs),H.set a.block (.cells c e true))
       | none=>none)
      else none
     | _,_=>none
    | _,_=>none
   | _,_,_=>none
  | ⟨.invoke recv name,args,ts⟩=>match ev A recv with
   | .iface t v=>match QjA P t name with
    | some f=>(call.fn f (v::(args.map (ev A)).toList) H).map λr=>(.gen,r.1,r.2)
    | none=>none
   | _=>none
  | ⟨.value (.func f),args,ts⟩=>(call.fn f (args.map (ev A)).toList H).map λr=>(.gen,r.1,r.2)
  | ⟨.value c,args,ts⟩=>match ev A c with
   | .func (.func f) xs ys=>(call.fn f (xs.toList++(args.map (ev A)).toList++ys.toList) H).map λr=>(.gen,r.1,r.2)
   | .func (.yield l) xs ys=>bif Nat.beq xs.size 0&&Nat.beq ys.size 0 then(call.yd l (args.map (ev A)).toList H).map λr=>(.gen,r.1,r.2) else none
   | _=>none
def QjC (P:Program) (call:Ws) (A:Env) (H:Qa) (t:TypeId) (x ix:Operand) (ok:Bool):Option (Cls×Value×Qa):=
 match P.underlying t with
 | some (.map k e)=>(QwD P k e (ev A x) (ev A ix) ok H).map λv=>(.gen,v,H)
 | _=>none
def QnU (P:Program) (call:Ws) (A:Env) (H:Qa) (t:TypeId) (m k x:Operand):Option (Cls×Value×Qa):=
 match P.underlying t with
 | some (.map kt _)=>(Qs8 P kt (ev A m) (ev A k) (ev A x) H).map λH'=>(.gen,undef,H')
 | _=>none
def Qrj (P:Program) (call:Ws) (A:Env) (H:Qa) (t:TypeId) (x:Operand):Option (Cls×Value×Qa):=
 match P.underlying t,ev A x with
 | some .string,.string s=>some (.alloc (.iter s 0),.pointer (some ⟨H.next,0,none⟩),H.push (.iter s 0))
 | some (.map _ _),.map none=>some (.gen,.pointer (some ⟨H.next,0,none⟩),H.push (.miter none 0 [] 0))
 | some (.map _ _),.map (some m)=>match H.get m with
  | some (.map es)=>some (.gen,.pointer (some ⟨H.next,0,none⟩),H.push (.miter (some m) es.length [] es.length))
  | _=>none
 | _,_=>none
def aop (P:Program) (call:Ws) (o:Oper) (A:Env) (H:Qa):Option (Cls×Value×Qa):=
 match o.op with
 | .move x=>some (.pure,ev A x,H)
 | .assign x=>some (.pure,ev A x,H)
 | .pick c x y=>Qrh P call A H c x y
 | .nilCheck x=>Qa6 P call A H x
 | .binOp op t x y _=>QaF P call A H op t x y
 | .unOp op _ x=>Qri P call A H op x
 | .convert src dst x=>GF P call A H src dst x
 | .makeInterface t x=>Jx P call A H t x
 | .makeFunc fn first captured=>Qiz P call A H fn first captured
 | .field t x f=>Qnl P call A H t x f
 | .fieldAddr t x f=>JV P call A H t x f
 | .indexAddr t x ix=>Zy P call A H t x ix
 | .index t x ix=>Qnm P call A H t x ix
 | .extract x ix=>Qhg P call A H x ix
 | .typeAssert x _ t ok=>QGH P call A H x t ok
 | .build t parts=>Qnn P call A H t parts
 | .buildSlice t len parts=>QaG P call A H t len parts
 | .alloc e=>Qno P call A H e
 | .box e x=>Qzr P call A H e x
 | .makeSlice t x y=>Qb3 P call A H t x y
 | .slice t x lo hi mx=>Qep P call A H t x lo hi mx
 | .load t x=>QnT P call A H t x
 | .store t x y=>QjB P call A H t x y
 | .call c=>Qeq P call A H c
 | .makeMap _ none=>some (.alloc (.map []),.map (some H.next),H.push (.map []))
 | .lookup t x ix ok=>QjC P call A H t x ix ok
 | .mapUpdate t m k x=>QnU P call A H t m k x
 | .insert t m k x=>QnU P call A H t m k x
 | .range t x=>Qrj P call A H t x
 | .next it true=>(QwF H (ev A it)).map λr=>(.gen,r.1,r.2)
 | .next it false=>(QG1 H (ev A it)).map λr=>(.gen,r.1,r.2)
 | .entry it=>(QG9 H (ev A it)).map λv=>(.gen,v,H)
 | _=>none
section
variable {P:Program} {n:Nat} {A:Env} {H:Qa}
def Qmd (P:Program) (o:Oper) (A:Env) (H:Qa) (v:Value) (H':Qa):Cls->Prop
 | .pure=>H'=H∧∀h,Qu P o A h v h
 | .load=>H'=H∧∃t x a,o.op=.load t x∧ev A x=.pointer (some a)∧XW P t a H=some v
 | .alloc b=>H'=H.push b∧∀h,h.next=H.next->Qu P o A h v (h.push b)
 | .gen=>Qu P o A H v H'
theorem Qmd.does {o:Oper} {v:Value} {H':Qa} {c:Cls} (h:Qmd P o A H v H' c):Qu P o A H v H':=by
 cases c with
 | pure=>obtain⟨rfl,h⟩:=h;exact h _
 | load=>
  obtain⟨rfl,t,x,a,ho,ex,hl⟩:=h;obtain⟨dst,op,ty,pos,af,g⟩:=o;simp only at ho;subst ho;exact QBa ex hl
 | alloc b=>obtain⟨rfl,h⟩:=h;exact h _ rfl
 | gen=>exact h
def CallOk (P:Program) (call:CallF):Prop:=∀f args H v H',call f args H=some (v,H')->Je P f args H v H'
structure Qer (P:Program) (call:Ws):Prop where
 fn:CallOk P call.fn
 yd:∀l args H v H',call.yd l args H=some (v,H')->Qqs P l args H v H'
 pn:∀f args H v H',call.pn f args H=some (v,H')->entered P f=true∧Qa3 P f args H (.pan v) H'
theorem Yg {r:Option Value} {c:Cls} {v:Value} {H':Qa} (h:Yl H r=some (c,v,H')):r=some v∧c=.pure∧H'=H:=by
 cases r with
 | none=>simp[Yl]at h
 | some u=>simp[Yl]at h;obtain⟨rfl,rfl,rfl⟩:=h;exact⟨rfl,rfl,rfl⟩
theorem QxU {op:BinOp} {t t':TypeId} {x y:Operand} {v:Value} {d:Option Nat} {ty:TypeId} {pos:String} {af:Array Edge} {g:Option (Nat×Bool)} (h:Qpw P (QfS x||QfS y) op t (ev A x) (ev A y)=some v):Qu P ⟨d,.binOp op t x y t',ty,pos,af,g⟩ A H v H:=by
 unfold Qpw at h;split at h
 ·rename_i k a k' b ex ey;split at h
  ·exact QsV ex ey h
  ·exact QsV ex ey h
  ·split at h
   ·rename_i e;subst e;exact QDq ex ey h
   ·cases h
 ·rename_i a b ex ey;exact QDr ex ey h
 ·rename_i h1 h2;exact QE3 h
set_option maxHeartbeats 2000000 in
theorem Qld {call:Ws} (hcall:Qer P call) {o:Oper} {c:Cls} {v:Value} {H':Qa} (h:aop P call o A H=some (c,v,H')):Qmd P o A H v H' c:=by
 obtain⟨dst,op,ty,pos,af,g⟩:=o;unfold aop at h;split at h
 case h_1 x hop=>simp only at hop;subst hop;simp only[Lt,LB]at h;obtain⟨rfl,rfl,rfl⟩:=h;exact⟨rfl,λh=>QA7⟩
 case h_2 x hop=>simp only at hop;subst hop;simp only[Lt,LB]at h;obtain⟨rfl,rfl,rfl⟩:=h;exact⟨rfl,λh=>QxJ⟩
 case h_3 cc x y hop=>
  simp only at hop;subst hop;unfold Qrh at h;split at h
  ·rename_i t ec;simp only[Lt,LB]at h;obtain⟨rfl,rfl,rfl⟩:=h;refine⟨rfl,λh=>?_⟩;have:=QA8 (P:=P) (H:=h) (d:=dst) (ty:=ty) (pos:=pos) (af:=af) (g:=g) (x:=x) (y:=y) ec;cases t<;>exact this
  ·cases h
 case h_4 x hop=>
  simp only at hop;subst hop;unfold Qa6 at h;cases hn:Qei (ev A x) with
  | false=>rw[hn]at h;cases h
  | true=>
   rw[hn]at h;simp only[Lq,Lt,LB]at h;obtain⟨rfl,rfl,rfl⟩:=h;exact⟨rfl,λh=>QsU hn⟩
 case h_5 bop t x y t' hop=>
  simp only at hop;subst hop;unfold QaF at h;obtain⟨h1,rfl,rfl⟩:=Yg h;exact⟨rfl,λh=>QxU h1⟩
 case h_6 uop t x hop=>
  simp only at hop;subst hop;unfold Qri at h;obtain⟨h1,rfl,rfl⟩:=Yg h;exact⟨rfl,λh=>QE2 h1⟩
 case h_7 src d' x hop=>
  simp only at hop;subst hop;unfold GF at h;split at h
  ·rename_i u e s hu hd ex;split at h
   ·rename_i inf h8 hi;split at h
    ·rename_i z hz;cases hc:(Qej P e inf z&&Nat.beq inf.size 1&&Nat.ble (bl s).length 140737488355328) with
     | false=>rw[hc]at h;cases h
     | true=>
      rw[hc]at h;simp only[Lq,Lt,LB]at h;obtain⟨rfl,rfl,rfl⟩:=h;simp only[Lm,Y2,Lv,BL]at hc;refine⟨rfl,λh hn=>?_⟩;rw[<- hn];exact Qu0 hu hd h8 (GC.mk' hi hz hc.1.1) hc.1.2 ex hc.2
    ·cases h
   ·cases h
  ·rename_i e a m cp hu hd ex;split at h
   ·rename_i l h8 hl;split at h
    ·rename_i bs hb;simp only[Lt,LB]at h;obtain⟨rfl,rfl,rfl⟩:=h;exact Qzn hu h8 hd (by rw[ex];exact hl) hb
    ·cases h
   ·cases h
  ·rename_i t a hu hd ex;split at h
   ·rename_i j c e hi hg;split at h
    ·rename_i hc;simp only[Lt,LB]at h;obtain⟨rfl,rfl,rfl⟩:=h;exact Qs7 ex hu hd hi hc.1 hg hc.2
    ·cases h
   ·cases h
  ·rename_i u a hu hd ex;split at h
   ·rename_i j c e hi hg;split at h
    ·rename_i hc;simp only[Lt,LB]at h;obtain⟨rfl,rfl,rfl⟩:=h;exact Qpv ex hu hd hi hg hc
    ·cases h
   ·cases h
  ·obtain⟨h1,rfl,rfl⟩:=Yg h;exact⟨rfl,λh=>QA9 h1⟩
 case h_8 t x hop=>
  simp only at hop;subst hop;unfold Jx at h;split at h
  ·cases h
  ·rename_i td hni htd;simp only[Lt,LB]at h;obtain⟨rfl,rfl,rfl⟩:=h;refine⟨rfl,λh=>Qk4 htd ?_⟩;cases td<;>first | rfl | exact absurd rfl (hni _)
  ·cases h
 case h_9 fn first captured hop=>
  simp only at hop;subst hop;unfold Qiz at h;cases hn:QaD fn with
  | false=>rw[hn]at h;cases h
  | true=>
   rw[hn]at h;simp only[Lq,Lt,LB]at h;obtain⟨rfl,rfl,rfl⟩:=h;exact⟨rfl,λh=>QsW hn⟩
 case h_10 t x f hop=>
  simp only at hop;subst hop;unfold Qnl at h;split at h
  ·rename_i fs cs ht ex;split at h
   ·rename_i fd hf;obtain⟨h1,rfl,rfl⟩:=Yg h;exact⟨rfl,λh=>Qzc ht hf ex h1⟩
   ·cases h
  ·cases h
 case h_11 t x f hop=>
  simp only at hop;subst hop;unfold JV at h;split at h
  ·rename_i fs a ht ex;split at h
   ·rename_i fd hf;split at h
    ·rename_i inf hi;cases hz:Nat.beq inf.size 0 with
     | true=>rw[hz]at h;cases h
     | false=>
      rw[hz]at h;simp only[Ls,Lt,LB]at h;obtain⟨rfl,rfl,rfl⟩:=h;exact⟨rfl,λh=>Qrb ht hf hi hz ex⟩
    ·cases h
   ·cases h
  ·cases h
 case h_12 t x ix hop=>
  simp only at hop;subst hop;unfold Zy at h;split at h
  ·rename_i k m eix;split at h
   ·rename_i e a len cap ht ex;split at h
    ·rename_i inf hi;split at h
     ·rename_i hc;simp only[Lt,LB]at h;obtain⟨rfl,rfl,rfl⟩:=h;exact⟨rfl,λh=>Qiv ht hi ex eix hc.1 hc.2⟩
     ·cases h
    ·cases h
   ·rename_i len e a ht ex;split at h
    ·rename_i inf hi;split at h
     ·rename_i hc;simp only[Lt,LB]at h;obtain⟨rfl,rfl,rfl⟩:=h;exact⟨rfl,λh=>Qiw ht hi ex eix hc.1 hc.2⟩
     ·cases h
    ·cases h
   ·cases h
  ·cases h
 case h_13 t x ix hop=>
  simp only at hop;subst hop;unfold Qnm at h;split at h
  ·rename_i k m eix;split at h
   ·rename_i s ht ex;split at h
    ·rename_i h0;split at h
     ·rename_i b hb;simp only[Lt,LB]at h;obtain⟨rfl,rfl,rfl⟩:=h;exact⟨rfl,λh=>QmQ ht ex eix h0 hb⟩
     ·cases h
    ·cases h
   ·rename_i len e cs ht ex;split at h
    ·rename_i inf hi;split at h
     ·rename_i hc;obtain⟨h1,rfl,rfl⟩:=Yg h;exact⟨rfl,λh=>QnE ht hi ex eix hc.1 hc.2 h1⟩
     ·cases h
    ·cases h
   ·cases h
  ·cases h
 case h_14 x ix hop=>
  simp only at hop;subst hop;unfold Qhg at h;split at h
  ·rename_i vs ex;obtain⟨h1,rfl,rfl⟩:=Yg h;exact⟨rfl,λh=>QuT ex h1⟩
  ·cases h
 case h_15 x xt t ok hop=>
  simp only at hop;subst hop;unfold QGH at h;obtain⟨h1,rfl,rfl⟩:=Yg h;exact⟨rfl,λh=>QHl h1⟩
 case h_16 t parts hop=>
  simp only at hop;subst hop;unfold Qnn at h;split at h
  ·rename_i fs inf ht hi;split at h
   ·rename_i z pl hz hpl;cases hc:z.cells.toList.all plain with
    | false=>rw[hc]at h;cases h
    | true=>
     rw[hc]at h;obtain⟨h1,rfl,rfl⟩:=Yg h;simp only[Lx]at h1;obtain⟨r,hr,rfl⟩:=h1;exact⟨rfl,λh=>QmR ht hi hz hc hpl hr⟩
   ·cases h
  ·rename_i len e inf ht hi;split at h
   ·rename_i z inf' hz hi';cases hc:z.cells.toList.all plain with
    | false=>rw[hc]at h;cases h
    | true=>
     rw[hc]at h;obtain⟨h1,rfl,rfl⟩:=Yg h;simp only[Lx]at h1;obtain⟨r,hr,rfl⟩:=h1;exact⟨rfl,λh=>QnG ht hi hz hc hi' hr⟩
   ·cases h
  ·cases h
 case h_17 t len parts hop=>
  simp only at hop;subst hop;unfold QaG at h;split at h
  ·rename_i e ht;split at h
   ·rename_i inf hi;split at h
    ·rename_i z hz;cases hc:(z.cells.toList.all plain&&Nat.blt 0 z.cells.size&&Nat.ble len 16777216&&Nat.ble (len * inf.size) 16777216) with
     | false=>rw[hc]at h;cases h
     | true=>
      rw[hc]at h;simp only[Lq]at h;simp only[Lm]at hc;obtain⟨⟨⟨c1,c2⟩,c3⟩,c4⟩:=hc;split at h
      ·rename_i r hr;simp only[Lt,LB]at h;obtain⟨rfl,rfl,rfl⟩:=h;refine⟨rfl,λh hn=>?_⟩;rw[<- hn];exact Qpt ht hi hz c1 c2 c3 c4 hr
      ·cases h
    ·cases h
   ·cases h
  ·cases h
 case h_18 e hop=>
  simp only at hop;subst hop;unfold Qno at h;split at h
  ·rename_i inf hi;split at h
   ·rename_i z hz;cases hc:z.cells.toList.all plain with
    | false=>rw[hc]at h;cases h
    | true=>
     rw[hc]at h;simp only[Lq,Lt,LB]at h;obtain⟨rfl,rfl,rfl⟩:=h;refine⟨rfl,λh hn=>?_⟩;rw[<- hn];exact Qze hi hz hc
   ·cases h
  ·cases h
 case h_19 e x hop=>
  simp only at hop;subst hop;unfold Qzr at h;simp only[Lt,LB]at h;obtain⟨rfl,rfl,rfl⟩:=h;refine⟨rfl,λh hn=>?_⟩;rw[<- hn];exact QDs
 case h_20 t x y hop=>
  simp only at hop;subst hop;unfold Qb3 at h;split at h
  ·rename_i e l cc ht ex ey;split at h
   ·rename_i inf hi;split at h
    ·rename_i z hz;split at h
     ·rename_i hc;obtain⟨c0,c1,c2,c3,c4⟩:=hc;simp only[Lt,LB]at h;obtain⟨rfl,rfl,rfl⟩:=h;refine⟨rfl,λh hn=>?_⟩;rw[<- hn];exact Qrc ht (GC.mk' hi hz c0) ex ey c1 c2 c3 c4
     ·cases h
    ·cases h
   ·cases h
  ·cases h
 case h_21 t x lo hi mx hop=>
  simp only at hop;subst hop;unfold Qep at h;split at h
  ·rename_i ht;split at h
   ·rename_i s l hh ex el eh;split at h
    ·rename_i hc;simp only[Lt,LB]at h;obtain⟨rfl,rfl,rfl⟩:=h;exact⟨rfl,λh=>QmS ht ex el eh hc.1 hc.2.1 hc.2.2⟩
    ·cases h
   ·cases h
  ·rename_i e ht;split at h
   ·rename_i inf l hh m hi' el eh em;split at h
    ·rename_i hc;obtain⟨h1,rfl,rfl⟩:=Yg h;refine⟨rfl,λh=>QnH ht hi' el eh em (λhm hn=>?_) h1⟩;subst hn;cases m with
     | none=>exact hm rfl
     | some m=>simp at hc
    ·cases h
   ·cases h
  ·rename_i m e ht;split at h
   ·rename_i a l hh ex el eh;split at h
    ·rename_i inf hi';split at h
     ·rename_i hc;simp only[Lt,LB]at h;obtain⟨rfl,rfl,rfl⟩:=h;exact⟨rfl,λh=>QnR ht hi' ex el eh hc.1 hc.2.1 hc.2.2.1 hc.2.2.2⟩
     ·cases h
    ·cases h
   ·cases h
  ·cases h
 case h_22 t x hop=>
  simp only at hop;subst hop;unfold QnT at h;split at h
  ·rename_i a ex;split at h
   ·rename_i v' hl;simp only[Lt,LB]at h;obtain⟨rfl,rfl,rfl⟩:=h;exact⟨rfl,t,x,a,rfl,ex,hl⟩
   ·cases h
  ·cases h
 case h_23 t x y hop=>
  simp only at hop;subst hop;unfold QjB at h;split at h
  ·rename_i a ex;split at h
   ·rename_i H1 hl;simp only[Lt,LB]at h;obtain⟨rfl,rfl,rfl⟩:=h;exact Qzd ex hl
   ·cases h
  ·cases h
 case h_24 cc hop=>
  simp only at hop;subst hop;unfold Qeq at h;split at h
  ·rename_i b args ts;obtain⟨args⟩:=args;obtain⟨ts⟩:=ts;simp only at h;split at h
   ·rename_i x t;split at h
    ·rename_i m hm;simp only[Lt,LB]at h;obtain⟨rfl,rfl,rfl⟩:=h;exact⟨rfl,λh=>QDt hm⟩
    ·cases h
   ·rename_i x t;split at h
    ·rename_i e a m cp ht ex;cases hc:Nat.blt cp UNK with
     | false=>rw[hc]at h;cases h
     | true=>
      rw[hc]at h;simp only[Lq,Lt,LB]at h;obtain⟨rfl,rfl,rfl⟩:=h;exact⟨rfl,λh=>QDu ht ex hc⟩
    ·cases h
   ·rename_i x y;split at h
    ·rename_i k a k' b' ex ey;split at h
     ·rename_i e;subst e;simp only[Lt,LB]at h;obtain⟨rfl,rfl,rfl⟩:=h;exact⟨rfl,λh=>QHA ex ey⟩
     ·cases h
    ·cases h
   ·rename_i x y;split at h
    ·rename_i k a k' b' ex ey;split at h
     ·rename_i e;subst e;simp only[Lt,LB]at h;obtain⟨rfl,rfl,rfl⟩:=h;exact⟨rfl,λh=>QBb ex ey⟩
     ·cases h
    ·cases h
   ·rename_i x y t t2;split at h
    ·rename_i e td ht ht2;split at h
     ·rename_i inf hi;split at h
      ·rename_i z hz;cases hc:(Qf8 td&&Qej P e inf z) with
       | false=>rw[hc]at h;cases h
       | true=>
        rw[hc]at h;simp only[Lq,Lx,LB]at h;obtain⟨⟨v1,H1⟩,hr,rfl,rfl,rfl⟩:=h;simp only[Lm]at hc;exact QxL ht ht2 hc.1 (GC.mk' hi hz hc.2) hr
      ·cases h
     ·cases h
    ·cases h
   ·rename_i x y t t2;split at h
    ·rename_i e ht;split at h
     ·rename_i inf hi;simp only[Lx,LB]at h;obtain⟨⟨v1,H1⟩,hr,rfl,rfl,rfl⟩:=h;exact QBd ht hi hr
     ·cases h
    ·cases h
   ·rename_i x;split at h
    ·rename_i m cp ex;simp only[Lt,LB]at h;obtain⟨rfl,rfl,rfl⟩:=h;exact⟨rfl,λh=>Qlb ex⟩
    ·rename_i a m cp ex;split at h
     ·rename_i hm;simp only[Lt,LB]at h;obtain⟨rfl,rfl,rfl⟩:=h;exact⟨rfl,λh=>Qre ex hm⟩
     ·cases h
    ·cases h
   ·rename_i x y pt it;split at h
    ·rename_i ex ey;simp only[Lt,LB]at h;obtain⟨rfl,rfl,rfl⟩:=h;exact Qlc ex ey
    ·rename_i a m ex ey;split at h
     ·rename_i e c e' hp hg;split at h
      ·rename_i hc;obtain⟨rfl,c1,c2,c3,c4,c5,c6⟩:=hc;split at h
       ·rename_i bs hb;simp only[Lt,LB]at h;obtain⟨rfl,rfl,rfl⟩:=h;have em:m=(m.toNat:Int):=by omega
        rw[em]at ey;rw[c1]at ex;exact Qrf ex ey hp c2 hg (by omega) c4 (by omega) hb (λv hv=>by
         have:=Li.1 c6 v hv;unfold Qzs at this;split at this
         ·rename_i k;simp only[Lm,Lv]at this;exact⟨k,rfl,this.1,this.2⟩
         ·cases this)
       ·cases h
      ·cases h
     ·cases h
    ·cases h
   ·cases h
  ·rename_i recv name args ts;split at h
   ·rename_i t v0 er;split at h
    ·rename_i f hm;simp only[Lx,LB]at h;obtain⟨⟨v1,H1⟩,hr,rfl,rfl,rfl⟩:=h;exact QxR er hm (hcall.fn _ _ _ _ _ hr)
    ·cases h
   ·cases h
  ·rename_i f args ts;simp only[Lx,LB]at h;obtain⟨⟨v1,H1⟩,hr,rfl,rfl,rfl⟩:=h;exact Qnk (hcall.fn _ _ _ _ _ hr)
  ·rename_i cv args ts _;split at h
   ·rename_i f xs ys ec;simp only[Lx,LB]at h;obtain⟨⟨v1,H1⟩,hr,rfl,rfl,rfl⟩:=h;exact QsZ ec (hcall.fn _ _ _ _ _ hr)
   ·rename_i l xs ys ec;cases hc:(Nat.beq xs.size 0&&Nat.beq ys.size 0) with
    | false=>rw[hc]at h;cases h
    | true=>
     rw[hc]at h;simp only[Lm,Y2,Lv,Array.size_eq_zero_iff]at hc;obtain⟨rfl,rfl⟩:=hc;simp only[Lq,Lx,LB]at h;obtain⟨⟨v1,H1⟩,hr,rfl,rfl,rfl⟩:=h;exact Qs6 ec (hcall.yd _ _ _ _ _ hr)
   ·cases h
 case h_25 t hop=>
  simp only at hop;subst hop;simp only[Lt,LB]at h;obtain⟨rfl,rfl,rfl⟩:=h;exact⟨rfl,λh hn=>by rw[<- hn];exact Qu3⟩
 case h_26 t x ix ok hop=>
  simp only at hop;subst hop;unfold QjC at h;split at h
  ·rename_i k e ht;simp only[Lx,LB]at h;obtain⟨v1,hr,rfl,rfl,rfl⟩:=h;exact QxS ht hr
  ·cases h
 case h_27 t m k x hop=>
  simp only at hop;subst hop;unfold QnU at h;split at h
  ·rename_i kt e ht;simp only[Lx,LB]at h;obtain⟨H1,hr,rfl,rfl,rfl⟩:=h;exact Qrg ht hr
  ·cases h
 case h_28 t m k x hop=>
  simp only at hop;subst hop;unfold QnU at h;split at h
  ·rename_i kt e ht;simp only[Lx,LB]at h;obtain⟨H1,hr,rfl,rfl,rfl⟩:=h;exact QxT ht hr
  ·cases h
 case h_29 t x hop=>
  simp only at hop;subst hop;unfold Qrj at h;split at h
  ·rename_i s ht ex;simp only[Lt,LB]at h;obtain⟨rfl,rfl,rfl⟩:=h;exact⟨rfl,λh hn=>by rw[<- hn];exact Qzq ht ex⟩
  ·rename_i k e ht ex;simp only[Lt,LB]at h;obtain⟨rfl,rfl,rfl⟩:=h;exact QGY ht ex (λid hid=>by cases hid)
  ·rename_i k e m ht ex;split at h
   ·rename_i es hg;simp only[Lt,LB]at h;obtain⟨rfl,rfl,rfl⟩:=h;exact QGY ht ex (λid hid=>by cases hid;exact⟨es,hg,rfl⟩)
   ·cases h
  ·cases h
 case h_30 it hop=>
  simp only at hop;subst hop;simp only[Lx,LB]at h;obtain⟨⟨v1,H1⟩,hr,rfl,rfl,rfl⟩:=h;exact QBc hr
 case h_31 it hop=>
  simp only at hop;subst hop;simp only[Lx,LB]at h;obtain⟨⟨v1,H1⟩,hr,rfl,rfl,rfl⟩:=h;exact QHq hr
 case h_32 it hop=>
  simp only at hop;subst hop;simp only[Lx,LB]at h;obtain⟨v1,hr,rfl,rfl,rfl⟩:=h;exact QHr hr
 case h_33=>cases h
end
inductive D where
 | d0 | d1 | d2 | d3 | d4 | d5 | d6 | d7 | d8 | d9 | d10 | d11 | d12 | d13 | d14 | d15
structure N16 (α:Type) where
 mk ::
 a0:α
 a1:α
 a2:α
 a3:α
 a4:α
 a5:α
 a6:α
 a7:α
 a8:α
 a9:α
 a10:α
 a11:α
 a12:α
 a13:α
 a14:α
 a15:α
def D.num:D->Nat
 | .d0=>0
 | .d1=>1
 | .d2=>2
 | .d3=>3
 | .d4=>4
 | .d5=>5
 | .d6=>6
 | .d7=>7
 | .d8=>8
 | .d9=>9
 | .d10=>10
 | .d11=>11
 | .d12=>12
 | .d13=>13
 | .d14=>14
 | .d15=>15
def dig (n:Nat):D:=bif Nat.beq n 0 then .d0 else bif Nat.beq n 1 then .d1 else bif Nat.beq n 2 then .d2 else bif Nat.beq n 3 then .d3 else bif Nat.beq n 4 then .d4 else bif Nat.beq n 5 then .d5 else bif Nat.beq n 6 then .d6 else bif Nat.beq n 7 then .d7 else bif Nat.beq n 8 then .d8 else bif Nat.beq n 9 then .d9 else bif Nat.beq n 10 then .d10 else bif Nat.beq n 11 then .d11 else bif Nat.beq n 12 then .d12 else bif Nat.beq n 13 then .d13 else bif Nat.beq n 14 then .d14 else .d15
theorem Qnp {n:Nat} (h:n<16):(dig n).num=n:=by
 have:n=0∨n=1∨n=2∨n=3∨n=4∨n=5∨n=6∨n=7∨n=8∨n=9∨n=10∨n=11∨n=12∨n=13∨n=14∨n=15:=by omega
 rcases this with rfl | rfl | rfl | rfl | rfl | rfl | rfl | rfl | rfl | rfl | rfl | rfl | rfl | rfl | rfl | rfl<;>rfl
theorem QwH {n m:Nat} (hn:n<16) (hm:m<16) (h:dig n=dig m):n=m:=by rw[<- Qnp hn,<- Qnp hm,h]
def N16.get {α:Type} (n:N16 α) (d:D):α:=D.rec (motive:=λ_=>N16 α->α) N16.a0 N16.a1 N16.a2 N16.a3 N16.a4 N16.a5 N16.a6 N16.a7 N16.a8 N16.a9 N16.a10 N16.a11 N16.a12 N16.a13 N16.a14 N16.a15 d n
def N16.set0 {α:Type} (v:α) (n:N16 α):N16 α:=N16.rec (motive:=λ_=>N16 α) (λa0 a1 a2 a3 a4 a5 a6 a7 a8 a9 a10 a11 a12 a13 a14 a15=>⟨v,a1,a2,a3,a4,a5,a6,a7,a8,a9,a10,a11,a12,a13,a14,a15⟩) n
def N16.set1 {α:Type} (v:α) (n:N16 α):N16 α:=N16.rec (motive:=λ_=>N16 α) (λa0 a1 a2 a3 a4 a5 a6 a7 a8 a9 a10 a11 a12 a13 a14 a15=>⟨a0,v,a2,a3,a4,a5,a6,a7,a8,a9,a10,a11,a12,a13,a14,a15⟩) n
def N16.set2 {α:Type} (v:α) (n:N16 α):N16 α:=N16.rec (motive:=λ_=>N16 α) (λa0 a1 a2 a3 a4 a5 a6 a7 a8 a9 a10 a11 a12 a13 a14 a15=>⟨a0,a1,v,a3,a4,a5,a6,a7,a8,a9,a10,a11,a12,a13,a14,a15⟩) n
def N16.set3 {α:Type} (v:α) (n:N16 α):N16 α:=N16.rec (motive:=λ_=>N16 α) (λa0 a1 a2 a3 a4 a5 a6 a7 a8 a9 a10 a11 a12 a13 a14 a15=>⟨a0,a1,a2,v,a4,a5,a6,a7,a8,a9,a10,a11,a12,a13,a14,a15⟩) n
def N16.set4 {α:Type} (v:α) (n:N16 α):N16 α:=N16.rec (motive:=λ_=>N16 α) (λa0 a1 a2 a3 a4 a5 a6 a7 a8 a9 a10 a11 a12 a13 a14 a15=>⟨a0,a1,a2,a3,v,a5,a6,a7,a8,a9,a10,a11,a12,a13,a14,a15⟩) n
def N16.set5 {α:Type} (v:α) (n:N16 α):N16 α:=N16.rec (motive:=λ_=>N16 α) (λa0 a1 a2 a3 a4 a5 a6 a7 a8 a9 a10 a11 a12 a13 a14 a15=>⟨a0,a1,a2,a3,a4,v,a6,a7,a8,a9,a10,a11,a12,a13,a14,a15⟩) n
def N16.set6 {α:Type} (v:α) (n:N16 α):N16 α:=N16.rec (motive:=λ_=>N16 α) (λa0 a1 a2 a3 a4 a5 a6 a7 a8 a9 a10 a11 a12 a13 a14 a15=>⟨a0,a1,a2,a3,a4,a5,v,a7,a8,a9,a10,a11,a12,a13,a14,a15⟩) n
def N16.set7 {α:Type} (v:α) (n:N16 α):N16 α:=N16.rec (motive:=λ_=>N16 α) (λa0 a1 a2 a3 a4 a5 a6 a7 a8 a9 a10 a11 a12 a13 a14 a15=>⟨a0,a1,a2,a3,a4,a5,a6,v,a8,a9,a10,a11,a12,a13,a14,a15⟩) n
def N16.set8 {α:Type} (v:α) (n:N16 α):N16 α:=N16.rec (motive:=λ_=>N16 α) (λa0 a1 a2 a3 a4 a5 a6 a7 a8 a9 a10 a11 a12 a13 a14 a15=>⟨a0,a1,a2,a3,a4,a5,a6,a7,v,a9,a10,a11,a12,a13,a14,a15⟩) n
def N16.set9 {α:Type} (v:α) (n:N16 α):N16 α:=N16.rec (motive:=λ_=>N16 α) (λa0 a1 a2 a3 a4 a5 a6 a7 a8 a9 a10 a11 a12 a13 a14 a15=>⟨a0,a1,a2,a3,a4,a5,a6,a7,a8,v,a10,a11,a12,a13,a14,a15⟩) n
def N16.set10 {α:Type} (v:α) (n:N16 α):N16 α:=N16.rec (motive:=λ_=>N16 α) (λa0 a1 a2 a3 a4 a5 a6 a7 a8 a9 a10 a11 a12 a13 a14 a15=>⟨a0,a1,a2,a3,a4,a5,a6,a7,a8,a9,v,a11,a12,a13,a14,a15⟩) n
def N16.set11 {α:Type} (v:α) (n:N16 α):N16 α:=N16.rec (motive:=λ_=>N16 α) (λa0 a1 a2 a3 a4 a5 a6 a7 a8 a9 a10 a11 a12 a13 a14 a15=>⟨a0,a1,a2,a3,a4,a5,a6,a7,a8,a9,a10,v,a12,a13,a14,a15⟩) n
def N16.set12 {α:Type} (v:α) (n:N16 α):N16 α:=N16.rec (motive:=λ_=>N16 α) (λa0 a1 a2 a3 a4 a5 a6 a7 a8 a9 a10 a11 a12 a13 a14 a15=>⟨a0,a1,a2,a3,a4,a5,a6,a7,a8,a9,a10,a11,v,a13,a14,a15⟩) n
def N16.set13 {α:Type} (v:α) (n:N16 α):N16 α:=N16.rec (motive:=λ_=>N16 α) (λa0 a1 a2 a3 a4 a5 a6 a7 a8 a9 a10 a11 a12 a13 a14 a15=>⟨a0,a1,a2,a3,a4,a5,a6,a7,a8,a9,a10,a11,a12,v,a14,a15⟩) n
def N16.set14 {α:Type} (v:α) (n:N16 α):N16 α:=N16.rec (motive:=λ_=>N16 α) (λa0 a1 a2 a3 a4 a5 a6 a7 a8 a9 a10 a11 a12 a13 a14 a15=>⟨a0,a1,a2,a3,a4,a5,a6,a7,a8,a9,a10,a11,a12,a13,v,a15⟩) n
def N16.set15 {α:Type} (v:α) (n:N16 α):N16 α:=N16.rec (motive:=λ_=>N16 α) (λa0 a1 a2 a3 a4 a5 a6 a7 a8 a9 a10 a11 a12 a13 a14 a15=>⟨a0,a1,a2,a3,a4,a5,a6,a7,a8,a9,a10,a11,a12,a13,a14,v⟩) n
def N16.put {α:Type} (n:N16 α) (d:D) (v:α):N16 α:=D.rec (motive:=λ_=>α->N16 α->N16 α) N16.set0 N16.set1 N16.set2 N16.set3 N16.set4 N16.set5 N16.set6 N16.set7 N16.set8 N16.set9 N16.set10 N16.set11 N16.set12 N16.set13 N16.set14 N16.set15 d v n
theorem N16.get_put {α:Type} (n:N16 α) (d dx:D) (v:α) [Decidable (dx=d)]:(n.put d v).get dx=if dx=d then v else n.get dx:=by
 obtain⟨a0,a1,a2,a3,a4,a5,a6,a7,a8,a9,a10,a11,a12,a13,a14,a15⟩:=n;split
 ·rename_i h;subst h;cases dx<;>rfl
 ·rename_i h;cases d<;>cases dx<;>first | rfl | exact absurd rfl h
def N16.all {α:Type} (v:α):N16 α:=⟨v,v,v,v,v,v,v,v,v,v,v,v,v,v,v,v⟩
theorem N16.get_all {α:Type} (v:α) (d:D):(N16.all v).get d=v:=by cases d<;>rfl
abbrev E:=N16 (N16 Value)
def Zd (e:E):Env:=λt=>(e.get (dig (Nat.div t 16))).get (dig (Nat.mod t 16))
def QBe (e:E) (d:Nat) (v:Value):E:=e.put (dig (Nat.div d 16)) ((e.get (dig (Nat.div d 16))).put (dig (Nat.mod d 16)) v)
def QxV (e:E) (d:Option Nat) (v:Value):E:=Option.rec (motive:=λ_=>E) e (λd=>QBe e d v) d
def QE5 (A B:Env):Prop:=∀t,t<256->A t=B t
open Classical in
theorem Qqu (e:E) {d t:Nat} (v:Value) (hd:d<256) (ht:t<256):Zd (QBe e d v) t=upd (Zd e) d v t:=by
 have e1:∀x y:Nat,Nat.div x y=x / y:=λ_ _=>rfl;have e2:∀x y:Nat,Nat.mod x y=x % y:=λ_ _=>rfl;simp only[Zd,QBe,upd,Y2,e1,e2];rw[N16.get_put]
 by_cases h:t=d
 ·subst h;rw[Lc rfl,N16.get_put,Lc rfl];simp
 ·simp only[h,NE,Ls]
  by_cases h1:dig (t / 16)=dig (d / 16)
  ·rw[Lc h1,N16.get_put];have h2:=QwH (by omega) (by omega) h1;rw[Le (λh3=>h (by have:=QwH (by omega) (by omega) h3;omega)),h1]
  ·rw[Le h1]
theorem Qs9 (e:E) {d:Option Nat} (v:Value) (hd:Qjs 256 d=true):QE5 (Zd (QxV e d v)) (Z6 (Zd e) d v):=by
 intro t ht;cases d with
 | none=>rfl
 | some d=>exact Qqu e v (by simpa[Qjs] using hd) ht
def E.none:E:=N16.all (N16.all undef)
theorem QxW (t:Nat):Zd E.none t=undef:=by simp only[Zd,E.none,N16.get_all]
def Qqv:List Value->Nat->E->E
 | [],_,e=>e
 | v::vs,i,e=>Qqv vs (i+1) (QBe e i v)
theorem Qqw:∀ (l:List Value) (i:Nat) (e:E) (j:Nat),i+l.length<=256->j<256->Zd (Qqv l i e) j=if i<=j∧j<i+l.length then l.getD (j - i) undef else Zd e j
 | [],i,e,j,_,_=>by simp[Qqv];omega
 | v::l,i,e,j,h,hj=>by
  simp only[Lo]at h;simp only[Qqv];rw[Qqw l (i+1) _ j (by omega) hj,Qqu e v (by omega) hj];simp only[Lo]
  by_cases h1:j=i
  ·subst h1;rw[Le (by omega),Lc ⟨by omega,by omega⟩];simp
  ·by_cases h2:i+1<=j∧j<i+1+l.length
   ·rw[Lc h2,Lc ⟨by omega,by omega⟩,show j - i=(j - (i+1))+1 by omega];simp
   ·rw[Le h2,Le (by omega),Qeh _ _ h1]
theorem QxX {l:List Value} (h:l.length<=256):QE5 (Zd (Qqv l 0 E.none)) (Qa4 l):=by
 intro j hj;rw[Qqw l 0 _ j (by omega) hj];simp only[Qa4,L7,Bz,LP,Nat.sub_zero,QxW];split
 ·rfl
 ·rename_i h1;simp[List.getD,N7 (by omega:l.length<=j)]
/-! ### Equality of values and blocks, by a run -/
def Kd (eq:Value->Value->Bool):List Value->List Value->Bool
 | [],[]=>true
 | x::xs,y::ys=>eq x y&&Kd eq xs ys
 | _,_=>false
theorem Qhh {eq:Value->Value->Bool} (h:∀x y,eq x y=true->x=y):∀xs ys,Kd eq xs ys=true->xs=ys
 | [],[],_=>rfl
 | x::xs,y::ys,hb=>by
  simp only[Kd,Lm]at hb;rw[h x y hb.1,Qhh h xs ys hb.2]
 | [],_::_,hb=>by simp[Kd]at hb
 | _::_,[],hb=>by simp[Kd]at hb
def Qa7:Nat->Value->Value->Bool
 | 0,_,_=>false
 | f+1,x,y=>match x,y with
  | .bool a,.bool b=>a==b
  | .int k a,.int k' b=>decide (k=k')&&decide (a=b)
  | .string a,.string b=>decide (bl a=bl b)
  | .pointer a,.pointer b=>decide (a=b)
  | .slice a l c,.slice a' l' c'=>decide (a=a')&&Nat.beq l l'&&Nat.beq c c'
  | .map a,.map b=>decide (a=b)
  | .nilFunc,.nilFunc=>true
  | .nilIface,.nilIface=>true
  | .iface t v,.iface t' v'=>Nat.beq t t'&&Qa7 f v v'
  | .agg xs,.agg ys=>Kd (Qa7 f) xs.toList ys.toList
  | .tuple xs,.tuple ys=>Kd (Qa7 f) xs.toList ys.toList
  | .func fn xs zs,.func fn' ys us=>decide (fn=fn')&&Kd (Qa7 f) xs.toList ys.toList&&Kd (Qa7 f) zs.toList us.toList
  | _,_=>false
theorem Kk:∀ (f:Nat) (x y:Value),Qa7 f x y=true->x=y:=by
 intro f
 induction f with
 | zero=>intro x y h;simp[Qa7]at h
 | succ f ih=>
  intro x y h;have harr:∀ {xs ys:Array Value},Kd (Qa7 f) xs.toList ys.toList=true->xs=ys:=λh=>Ru (Qhh ih _ _ h);unfold Qa7 at h;split at h
  ·simp at h;rw[h]
  ·simp only[Lm,Lv]at h;rw[h.1,h.2]
  ·rename_i a b;have h':bl a=bl b:=by simpa using h
   rw[<- QnC a,<- QnC b,h']
  ·simp at h;rw[h]
  ·simp only[Lm,Lv,Y2]at h;rw[h.1.1,h.1.2,h.2]
  ·simp at h;rw[h]
  ·rfl
  ·rfl
  ·simp only[Lm,Lv,Y2]at h;rw[h.1,ih _ _ h.2]
  ·rw[harr h]
  ·rw[harr h]
  ·simp only[Lm,Lv]at h;rw[h.1.1,harr h.1.2,harr h.2]
  ·cases h
def QDw:Option Blk->Option Blk->Bool
 | some (.cells c e r),some (.cells c' e' r')=>Nat.beq e e'&&r==r'&&Kd (Qa7 8) c c'
 | none,none=>true
 | _,_=>false
theorem QBf {x y:Option Blk} (h:QDw x y=true):x=y:=by
 unfold QDw at h;split at h
 ·simp only[Lm,Y2,Lv,L0]at h;rw[h.1.1,h.1.2,Qhh (Kk 8) _ _ h.2]
 ·rfl
 ·cases h
def QBg:Option Value->Value->Bool
 | some x,y=>Qa7 8 x y
 | none,_=>false
theorem QwI {x:Option Value} {y:Value} (h:QBg x y=true):x=some y:=by
 cases x with
 | none=>simp[QBg]at h
 | some x=>rw[Kk 8 x y h]
/-! ### Regions that draw their order -/
structure Stp where
 t:Env
 H:Qa
 c:Cls
 v:Value
def Jf (P:Program) (call:Ws) (n:Nat) (ops:Array Oper):List Oper->Env->Qa->Option (List Stp×Env×Qa)
 | [],t,H=>some ([],t,H)
 | o::rest,t,H=>
  bif QfR P n o then
   match XZ n ops t o with
   | some true=>match aop P call o t H with
    | some (c,v,H')=>match Jf P call n ops rest (Z6 t o.dst v) H' with
     | some (l,r)=>some (⟨t,H,c,v⟩::l,r)
     | none=>none
    | none=>none
   | some false=>match Jf P call n ops rest (Z6 t o.dst undef) H with
    | some (l,r)=>some (⟨t,H,.pure,undef⟩::l,r)
    | none=>none
   | none=>none
  else none
def QDx (o:Oper):Bool:=
 match o.op with
 | .store .. => true
 | .lookup .. => true
 | .mapUpdate .. => true
 | .insert .. => true
 | .next .. => true
 | .entry .. => true
 | .call ⟨.builtin b,_,_⟩=>match b with | .len | .cap | .max | .min | .unsafeSliceData=>false | _=>true
 | .call _=>true
 | _=>false
def WY (ops:Array Oper) (i:Nat):Bool:=match ops[i]? with | some o=>QDx o | none=>false
def WZ (l:List Stp) (H:Qa) (i:Nat):Qa:=match l[i]? with | some s=>s.H | none=>H
def Qes (P:Program) (ops:Array Oper) (ms:List Nat) (l:List Stp) (H:Qa) (i:Nat) (s:Stp):Bool:=
 Nat.ble s.H.next (WZ l H (i+1)).next &&
 match s.c with
 | .pure=>true
 | .gen=>WY ops i
 | .load=>match ops[i]? with
  | some o=>match o.op with
   | .load t x=>match ev (s.t) x with
    | .pointer (some a)=>(List.range ops.size).all λk=>!(WY ops k)||QF ms i k||QF ms k i ||
      (QBg (XW P t a (WZ l H k)) s.v&&QBg (XW P t a (WZ l H (k+1))) s.v&&Qm s.H.next 6 s.v)
    | _=>false
   | _=>false
  | none=>false
 | .alloc b=>(List.range ops.size).all λk=>!(WY ops k)||!(Nat.blt i k)||QF ms i k||QDw ((WZ l H (k+1)).get s.H.next) ((WZ l H k).get s.H.next)
def Qle (p:Nat->Stp->Bool):Nat->List Stp->Bool
 | _,[]=>true
 | i,s::l=>p i s&&Qle p (i+1) l
theorem Qme {p:Nat->Stp->Bool}:∀ (l:List Stp) (i:Nat),Qle p i l=true->∀ (j:Nat) s,l[j]? = some s->p (i+j) s=true
 | [],_,_,j,s,h=>by simp at h
 | x::l,i,h,j,s,hj=>by
  simp only[Qle,Lm]at h;cases j with
  | zero=>simp at hj;subst hj;exact h.1
  | succ j=>have:=Qme l (i+1) h.2 j s (by simpa using hj);rwa [show i+1+j=i+(j+1) by omega]at this
def Qrk:List Oper->List Stp->E->E
 | o::os,s::ss,e=>Qrk os ss (QxV e o.dst s.v)
 | _,_,e=>e
def Qnq (P:Program) (call:Ws) (n:Nat) (ops:Array Oper) (t:Env) (H:Qa):Option (List Stp×Env×Qa):=
 bif P.follows .mixedOrders&&QcT ops (WY ops) then
  match Jf P call n ops ops.toList t H with
  | some (l,t1,H1)=>bif Qle (Qes P ops (QJ ops.toList []) l H1) 0 l then some (l,t1,H1) else none
  | none=>none
 else none
section
variable {P:Program} {n:Nat} {Q:Ex->Env->Qa->Prop}
def Qzt (P:Program) (call:Ws) (n:Nat) (ops:Array Oper) (o:Oper) (s:Stp) (t':Env) (H':Qa):Prop:=
 QfR P n o=true∧t'=Z6 s.t o.dst s.v∧((XZ n ops (s.t) o=some true∧aop P call o (s.t) s.H=some (s.c,s.v,H'))∨(XZ n ops (s.t) o=some false∧s.c=.pure∧s.v=undef∧H'=s.H))
theorem QhP {call:Ws} {ops:Array Oper}:∀ (l:List Oper) (t:Env) (H:Qa) (tr:List Stp) (t1:Env) (H1:Qa),Jf P call n ops l t H=some (tr,t1,H1)->
  tr.length=l.length∧(match tr[0]? with | some s=>s.t=t∧s.H=H | none=>t1=t∧H1=H)∧
  ∀ (j:Nat) o s,l[j]? = some o->tr[j]? = some s->Qzt P call n ops o s (match tr[j+1]? with | some s'=>s'.t | none=>t1) (WZ tr H1 (j+1))
 | [],t,H,tr,t1,H1,h=>by simp only[Jf,Lt,LB]at h;obtain⟨rfl,rfl,rfl⟩:=h;exact⟨rfl,⟨rfl,rfl⟩,λj o s hj=>by simp at hj⟩
 | o::rest,t,H,tr,t1,H1,h=>by
  have step:∀ (s:Stp) (l:List Stp) (t':Env) (H':Qa),s.t=t->s.H=H->Jf P call n ops rest t' H'=some (l,t1,H1)->tr=s::l->Qzt P call n ops o s t' H'->
    tr.length=(o::rest).length∧(match tr[0]? with | some s=>s.t=t∧s.H=H | none=>t1=t∧H1=H)∧
    ∀ (j:Nat) o' s,(o::rest)[j]? = some o'->tr[j]? = some s->Qzt P call n ops o' s (match tr[j+1]? with | some s'=>s'.t | none=>t1) (WZ tr H1 (j+1)):=by
   intro s l t' H' e1 e2 hl htr hok;obtain⟨i1,i2,i3⟩:=QhP rest t' H' l t1 H1 hl;subst htr;refine⟨by simp[i1],by simp[e1,e2],λj o' s' hj hs=>?_⟩;cases j with
   | zero=>
    simp only[Bp,Lt]at hj hs;subst hj;subst hs;have:(match (s::l)[0+1]? with | some s'=>s'.t | none=>t1)=t'∧WZ (s::l) H1 (0+1)=H':=by
     simp only[WZ,LP,Bg];cases hl0:l[0]? with
     | none=>rw[hl0]at i2;exact⟨i2.1,i2.2⟩
     | some s1=>rw[hl0]at i2;exact⟨i2.1,i2.2⟩
    rw[this.1,this.2];exact hok
   | succ j=>
    have:=i3 j o' s' (by simpa using hj) (by simpa using hs);simpa[WZ] using this
  unfold Jf at h;cases hok:QfR P n o with
  | false=>rw[hok]at h;cases h
  | true=>
   rw[hok]at h;simp only[Lq]at h;split at h
   ·rename_i hw;split at h
    ·rename_i c v H' ha;split at h
     ·rename_i l r hl;obtain⟨t1',H1'⟩:=r;simp only[Lt,LB]at h;obtain⟨rfl,rfl,rfl⟩:=h;exact step ⟨t,H,c,v⟩ l _ H' rfl rfl hl rfl ⟨hok,rfl,.inl ⟨hw,ha⟩⟩
     ·cases h
    ·cases h
   ·rename_i hw;split at h
    ·rename_i l r hl;obtain⟨t1',H1'⟩:=r;simp only[Lt,LB]at h;obtain⟨rfl,rfl,rfl⟩:=h;exact step ⟨t,H,.pure,undef⟩ l _ H rfl rfl hl rfl ⟨hok,rfl,.inr ⟨hw,rfl,rfl,rfl⟩⟩
    ·cases h
   ·cases h
theorem Qmf {ops:Array Oper} {g g':Nat->Bool} (h:∀i,i<ops.size->g i=true->g' i=true) (hd:QcT ops g'=true):QcT ops g=true:=by
 unfold QcT at hd ⊢;simp only[Li,LU]at hd ⊢;intro j hj;have h1:=hd j hj;split
 ·rfl
 ·rename_i o ho;rw[ho]at h1;simp only[Lm,Li,LU]at h1 ⊢;refine⟨h1.1,λi hi=>?_⟩;have h2:=h1.2 i hi;split
  ·rfl
  ·rename_i oi hoi;rw[hoi]at h2;simp only[Lm]at h2 ⊢;refine⟨h2.1,?_⟩;have h3:=h2.2;cases gi:g i with
   | false=>simp
   | true=>
    cases gj:g j with
    | false=>simp
    | true=>simpa[h i hi gi,h j hj gj] using h3
theorem Qpx {call:Ws} (hcall:Qer P call) {id:Nat} {ops:Array Oper} {t t1:Env} {H H1:Qa} {tr:List Stp} (h:Qnq P call n ops t H=some (tr,t1,H1)) (hq:Q .normal t1 H1):AWp P n (.region id ops true) Q t H:=by
 unfold Qnq at h;cases hc:(P.follows .mixedOrders&&QcT ops (WY ops)) with
 | false=>rw[hc]at h;cases h
 | true=>
  rw[hc]at h;simp only[Lq]at h;simp only[Lm]at hc;obtain⟨hm,hd⟩:=hc;split at h
  ·rename_i l t1' H1' htr;cases hall:Qle (Qes P ops (QJ ops.toList []) l H1') 0 l with
   | false=>rw[hall]at h;cases h
   | true=>
    rw[hall]at h;simp only[Lq,Lt,LB]at h;obtain⟨rfl,rfl,rfl⟩:=h;obtain⟨s1,s2,s3⟩:=QhP ops.toList t H l t1' H1' htr;have hlen:l.length=ops.size:=by simpa using s1
    have hchk:∀ (j:Nat) s,l[j]? = some s->Qes P ops (QJ ops.toList []) l H1' j s=true:=λj s hj=>by have:=Qme l 0 hall j s hj;rwa [LP]at this
    let As:Nat->Env:=λi=>match l[i]? with | some s=>s.t | none=>t1'
    let Hs:Nat->Qa:=WZ l H1'
    let vs:Nat->Value:=λi=>match l[i]? with | some s=>s.v | none=>undef
    let cls:Nat->Cls:=λi=>match l[i]? with | some s=>s.c | none=>.pure
    have hat:∀ (i:Nat) o,ops[i]? = some o->∃s,l[i]? = some s:=λi o ho=>by
     have:i<l.length:=by rw[hlen];exact(Nj.1 ho).1
     exact⟨l[i],La this⟩
    have hgen:∀i,i<ops.size->Xu (cls i)=true->WY ops i=true:=λi hi hg=>by
     obtain⟨s,hs⟩:=hat i ops[i] (Ng hi);have hcl:cls i=s.c:=by simp only[cls,hs]
     rw[hcl]at hg;have hk:=hchk i s hs;unfold Qes at hk;simp only[Lm]at hk;cases hsc:s.c with
     | gen=>rw[hsc]at hk;exact hk.2
     | _=>rw[hsc]at hg;cases hg
    have F:Zx P n ops ops.size As Hs vs cls:=by
     refine⟨λi o ho=>?_,λi hi=>?_,λi o ho=>?_,λi o ho _=>?_,Qmf hgen hd,λi h h'=>absurd h' (by omega)⟩
     ·obtain⟨s,hs⟩:=hat i o ho;have hok:=s3 i o s (by simpa using ho) hs;have e1:As i=s.t:=by simp only[As,hs]
      have e2:vs i=s.v:=by simp only[vs,hs]
      rw[e1,e2,<- hok.2.1]
     ·obtain⟨s,hs⟩:=hat i ops[i] (Ng hi);have hk:=hchk i s hs;unfold Qes at hk;simp only[Lm]at hk;have e1:Hs i=s.H:=by simp only[Hs,WZ,hs]
      rw[e1];simpa using hk.1
     ·obtain⟨s,hs⟩:=hat i o ho;exact(s3 i o s (by simpa using ho) hs).1
     ·obtain⟨s,hs⟩:=hat i o ho;have hok:=s3 i o s (by simpa using ho) hs;have hk:=hchk i s hs;have e1:As i=s.t:=by simp only[As,hs]
      have e2:vs i=s.v:=by simp only[vs,hs]
      have e3:Hs i=s.H:=by simp only[Hs,WZ,hs]
      have e4:cls i=s.c:=by simp only[cls,hs]
      unfold QuY;rw[e1,e2,e3,e4];rcases hok.2.2 with⟨hw,ha⟩ | ⟨hw,hc0,hv0,hH0⟩
      ·right;refine⟨hw,?_⟩;have hcl:=Qld hcall ha;unfold Qes at hk;simp only[Lm]at hk;cases hsc:s.c with
       | pure=>rw[hsc]at hcl;exact hcl
       | gen=>rw[hsc]at hcl;exact hcl
       | alloc b=>
        rw[hsc]at hcl hk;refine⟨hcl.1,hcl.2,λk hk1 hik hgk ho'=>?_⟩;have:=Li.1 hk.2 k (LU.2 hk1);have hb:Nat.blt i k=true:=by simpa using hik
        simp only[hgen k hk1 hgk,hb,ho',L8,Nt]at this;exact QBf this
       | load=>
        rw[hsc]at hcl hk;obtain⟨h1,tt,x,a,hop,ex,hl⟩:=hcl;refine⟨h1,tt,x,a,hop,ex,hl,λk hk1 hgk o1 o2=>?_⟩;have hk2:=hk.2;rw[ho]at hk2;simp only[hop,ex]at hk2;have:=Li.1 hk2 k (LU.2 hk1);simp only[hgen k hk1 hgk,o1,o2,L8,Nt,Lm]at this;exact⟨QwI this.1.1,QwI this.1.2,this.2⟩
      ·left;exact⟨hw,hv0,hH0,hc0⟩
    have hN:l[ops.size]? = none:=N7 (by omega);have eN:As ops.size=t1':=by simp only[As,hN]
    have eH:Hs ops.size=H1':=by simp only[Hs,WZ,hN]
    have e0:As 0=t∧Hs 0=H:=by
     cases hl0:l[0]? with
     | none=>rw[hl0]at s2;simp only[As,Hs,WZ,hl0,s2.1,s2.2,RU]
     | some s=>rw[hl0]at s2;simp only[As,Hs,WZ,hl0,s2.1,s2.2,RU]
    have:=Qs4 (id:=id) (Q:=Q) hm F (by rw[eN,eH];exact hq);rw[e0.1,e0.2]at this;exact this
  ·cases h
/-! ### A panic in such a region -/
def QGJ (P:Program) (call:Ws) (n:Nat) (ops:Array Oper):List Oper->Env->Qa->Nat
 | [],_,_=>0
 | o::rest,t,H=>match XZ n ops t o with
  | some true=>(match aop P call o t H with
   | some (_,v,H')=>QGJ P call n ops rest (Z6 t o.dst v) H'+1
   | none=>0)
  | some false=>QGJ P call n ops rest (Z6 t o.dst undef) H+1
  | none=>0
def QHs:Cls->Bool
 | .pure=>true
 | .load=>true
 | _=>false
def QG2 (P:Program) (call:Ws) (n:Nat) (ops:Array Oper) (t:Env) (H:Qa):Option (Nat×Oper×Env):=
 match ops[QGJ P call n ops ops.toList t H]?,Jf P call n ops (ops.toList.take (QGJ P call n ops ops.toList t H)) t H with
 | some o,some (l,t1,_)=>
  bif P.follows .mixedOrders&&QcT ops (WY ops)&&ops.toList.all (QfR P n)&&o.guard.isNone&&l.all (λs=>QHs s.c)&&(List.range ops.size).all (λk=>Nat.ble k (QGJ P call n ops ops.toList t H)||QF (QJ ops.toList []) (QGJ P call n ops ops.toList t H) k)
  then some (QGJ P call n ops ops.toList t H,o,t1) else none
 | _,_=>none
theorem QGK {call:Ws} (hcall:Qer P call) {id:Nat} {ops:Array Oper} {t t1:Env} {H H':Qa} {p:Nat} {o:Oper} {v:Value} (h:QG2 P call n ops t H=some (p,o,t1)) (hp:QGN P o t1 H v H')
  (hq:∀A',(∀s,s<n->(∃ok∈ops.toList.take p,ok.dst=some s)∨A' s=t s)->Q (.panic v) A' H'):AWp P n (.region id ops true) Q t H∧∀ok∈ops.toList,QfR P n ok=true:=by
 unfold QG2 at h;generalize QGJ P call n ops ops.toList t H=q at h;split at h
 ·rename_i o' l t1' H1 ho htr;cases hc:(P.follows .mixedOrders&&QcT ops (WY ops)&&ops.toList.all (QfR P n)&&o'.guard.isNone&&l.all (λs=>QHs s.c)&&(List.range ops.size).all (λk=>Nat.ble k q||QF (QJ ops.toList []) q k)) with
  | false=>rw[hc]at h;cases h
  | true=>
   rw[hc]at h;simp only[Lq,Lt,LB]at h;obtain⟨rfl,rfl,rfl⟩:=h;simp only[Lm,Li,Option.isNone_iff_eq_none,LU,Nw,BL]at hc;obtain⟨⟨⟨⟨⟨hm,hd⟩,hok⟩,hg⟩,hqu⟩,haf⟩:=hc;have hql:q<ops.size:=(Nj.1 ho).1;obtain⟨s1,s2,s3⟩:=QhP (ops.toList.take q) t H l t1' H1 htr;have hlen:l.length=q:=by rw[s1,Sb,Array.length_toList];omega
   have hat:∀i,i<q->∃s,l[i]? = some s:=λi hi=>⟨l[i]'(by omega),La (by omega)⟩;have hopt:∀ (i:Nat) ok,i<q->ops[i]? = some ok->(ops.toList.take q)[i]? = some ok:=λi ok hi hk=>by
    rw[Nl,Lc hi,Bl];exact hk
   have hstep:∀ (i:Nat) s ok,l[i]? = some s->ops[i]? = some ok->s.H=H->WZ l H1 (i+1)=H:=λi s ok hs hk hH=>by
    have hi:i<q:=by rw[<- hlen];exact(Lk.1 hs).1
    have st:=s3 i ok s (hopt i ok hi hk) hs;rcases st.2.2 with⟨_,ha⟩ | ⟨_,_,_,ha⟩
    ·have hcl:=Qld hcall ha;have hqc:=hqu s (Ln hs);cases hsc:s.c with
     | pure=>rw[hsc]at hcl;rw[hcl.1,hH]
     | load=>rw[hsc]at hcl;rw[hcl.1,hH]
     | gen=>rw[hsc]at hqc;cases hqc
     | alloc b=>rw[hsc]at hqc;cases hqc
    ·rw[ha,hH]
   have hH:∀ (i:Nat) s,l[i]? = some s->s.H=H:=by
    intro i
    induction i with
    | zero=>intro s hs;rw[hs]at s2;exact s2.2
    | succ i ih=>
     intro s hs;have hi:i+1<q:=by rw[<- hlen];exact(Lk.1 hs).1
     obtain⟨s',hs'⟩:=hat i (by omega);have:=hstep i s' ops[i] hs' (Ng (by omega)) (ih s' hs');simp only[WZ,hs]at this;exact this
   let tail:Nat->Env:=λj=>Nat.rec (motive:=λ_=>Env) t1' (λj A=>match ops[q+j]? with | some ok=>Z6 A ok.dst undef | none=>A) j
   let As:Nat->Env:=λi=>if i<q then(match l[i]? with | some s=>s.t | none=>t1') else tail (i - q)
   let vs:Nat->Value:=λi=>match l[i]? with | some s=>s.v | none=>undef
   let cls:Nat->Cls:=λi=>match l[i]? with | some s=>s.c | none=>.pure
   have hfar:∀i,q<=i->l[i]? = none:=λi hi=>N7 (by omega);have hcls:∀i,Xu (cls i)=false:=λi=>by
    cases hs:l[i]? with
    | none=>simp only[cls,hs];rfl
    | some s=>
     simp only[cls,hs];have:=hqu s (Ln hs);cases hsc:s.c<;>rw[hsc]at this<;>first | rfl | cases this
   have F:Zx P n ops q As (λ_=>H) vs cls:=by
    refine⟨λi ok hk=>?_,λi hi=>Lb _,λi ok hk=>hok ok (Ln (by rw[Bl];exact hk)),λi ok hk hi=>?_,Qmf (λi hi hgi=>by rw[hcls i]at hgi;cases hgi) hd,λi hi _=>⟨rfl,hcls i⟩⟩
    ·by_cases hi:i<q
     ·obtain⟨s,hs⟩:=hat i hi;have st:=s3 i ok s (hopt i ok hi hk) hs;have e1:As i=s.t:=by simp only[As,Lc hi,hs]
      have e2:vs i=s.v:=by simp only[vs,hs]
      rw[e1,e2,<- st.2.1]
      by_cases hi2:i+1<q
      ·simp only[As,Lc hi2]
      ·have:i+1=q:=by omega
       simp only[As,Le hi2,hfar (i+1) (by omega)];rw[show i+1 - q=0 by omega];rfl
     ·have e2:vs i=undef:=by simp only[vs,hfar i (by omega)]
      have e3:i+1 - q=(i - q)+1:=by omega
      have e4:ops[q+(i - q)]? = some ok:=by rw[show q+(i - q)=i by omega];exact hk
      simp only[As,Le hi,Le (show ¬i+1<q by omega),e3,tail,e4,e2]
    ·obtain⟨s,hs⟩:=hat i hi;have st:=s3 i ok s (hopt i ok hi hk) hs;have hsH:=hH i s hs;have hnx:=hstep i s ok hs hk hsH;have e1:As i=s.t:=by simp only[As,Lc hi,hs]
     have e2:vs i=s.v:=by simp only[vs,hs]
     have e4:cls i=s.c:=by simp only[cls,hs]
     unfold QuY;rw[e1,e2,e4];rcases st.2.2 with⟨hw,ha⟩ | ⟨hw,hc0,hv0,hH0⟩
     ·right;refine⟨hw,?_⟩;have hcl:=Qld hcall ha;have hqc:=hqu s (Ln hs);cases hsc:s.c with
      | pure=>rw[hsc]at hcl;exact⟨rfl,hcl.2⟩
      | load=>
       rw[hsc]at hcl;obtain⟨_,tt,x,a,hop,ex,hl⟩:=hcl;rw[hsH]at hl;exact⟨rfl,tt,x,a,hop,ex,hl,λk _ hgk _ _=>by rw[hcls k]at hgk;cases hgk⟩
      | gen=>rw[hsc]at hqc;cases hqc
      | alloc b=>rw[hsc]at hqc;cases hqc
     ·left;exact⟨hw,hv0,rfl,hc0⟩
   have eQ:As q=t1':=by
    simp only[As,Le (NX q),BJ];rfl
   have e0:As 0=t:=by
    by_cases h0:0<q
    ·obtain⟨s,hs⟩:=hat 0 h0;rw[hs]at s2;simp only[As,Lc h0,hs,s2.1]
    ·have hq0:q=0:=by omega
     have hn:=hfar 0 (by omega);rw[hn]at s2;show(if 0<q then _ else tail (0 - q))=t;rw[Le h0,Nat.zero_sub,<- s2.1];rfl
   have:=QG0 (id:=id) (Q:=Q) hm F ho hg (λk hk1 hk2=>by
    rcases haf k hk2 with h | h
    ·omega
    ·exact h) (by rw[eQ];exact hp) (λA' hA=>hq A' λs hs=>by
    rcases hA s hs with⟨k,ok,k1,k2,k3⟩ | h
    ·exact .inl ⟨ok,Ln (hopt k ok k1 k2),k3⟩
    ·exact .inr (by rw[h,e0]))
   rw[e0]at this;exact⟨this,hok⟩
 ·cases h
theorem Qb4 {ops:Array Oper} {o:Oper} {rest:List Oper} {A:Env} {H:Qa} {b:Bool} {j:Nat} {want:Bool} (hg:o.guard=some (j,want)) (hw:XZ n ops A o=some b)
  (hyes:b=true->∃v H',Qu P o A H v H'∧Qis P n ops rest Q (Z6 A o.dst v) H') (hno:b=false->Qis P n ops rest Q (Z6 A o.dst undef) H) (hd:QfR P n o=true):Qis P n ops (o::rest) Q A H:=by
 intro z ρ w a hs he;have hwc:Region.wanted o (yielded ops a.tmps)=b:=by
  unfold XZ at hw;rw[hg]at hw;simp only at hw;split at hw
  ·rename_i t hsl;split at hw
   ·rename_i htn;have hv:=he.tmps t htn;have hlt:t<a.tmps.size:=by rw[he.size];exact htn
    rw[N0,Ng hlt]at hv;simp only[NB]at hv;have hsl':=hsl;unfold QaW at hsl';split at hw
    ·rename_i b0 eb;cases hw;rw[eb]at hv;have hcb:a.tmps[t]? = some (.bool b0):=by rw[Ng hlt,hv.plain_eq rfl]
     have hy:yielded ops a.tmps j=some b0:=by unfold yielded;rw[hsl'];simp[hcb]
     simp[Region.wanted,hg,hy]
    ·rename_i vs0 eb;cases hw;rw[eb]at hv;obtain⟨vs1,e1,_⟩:=hv.tuple_inv;have hcb:a.tmps[t]? = some (.tuple vs1):=by rw[Ng hlt,e1]
     have hy:yielded ops a.tmps j=none:=by unfold yielded;rw[hsl'];simp[hcb]
     simp[Region.wanted,hg,hy]
    ·cases hw
   ·cases hw
  ·cases hw
 refine wpListIn_step λK hK=>?_;cases b with
 | true=>
  obtain⟨v,H',ho,h⟩:=hyes rfl;rw[Lc hwc];refine ho ρ w a hs (he.op hs hd) K _ (λv' ρ' w' hv hst hs'=>?_) z;have:=h z ρ' w' (a.put o.dst v') hs' ((he.step hst).putO (Qf5 hd) hv);exact hK _ _ (Ql1 hst this)
 | false=>
  rw[Le (by rw[hwc];simp)];exact⟨λ_ _=>trivial,hK _ _ (hno rfl z ρ w _ hs (he.putO (Qf5 hd) (.closed (by simp[undef,XA]))))⟩
end
inductive Sk where
 | i | b | s
inductive R where
 | mv (x:Operand)
 | pick (c x y:Operand)
 | bin (op:BinOp) (x y:Operand)
 | beq (ne:Bool) (x y:Operand)
 | eqs (ne:Bool) (ks:List Sk) (x y:Operand)
 | not (x:Operand)
 | toInt (k:IntKind) (x:Operand)
 | mkIf (t:TypeId) (x:Operand)
 | fld (agg:Bool) (off size:Nat) (x:Operand)
 | fldA (off:Nat) (x:Operand)
 | idxS (size:Nat) (x ix:Operand)
 | chr (x ix:Operand)
 | ext (x:Operand) (i:Nat)
 | asrt (t:TypeId) (z:Value) (ok:Bool) (x:Operand)
 | build (z:List Value) (parts:List (Nat×Nat×Operand))
 | bslice (e size len:Nat) (z:List Value) (parts:List (Nat×Operand))
 | alloc (e:TypeId) (z:List Value)
 | box (e:TypeId) (x:Operand)
 | mkSl (e size bytes:Nat) (z:List Value) (x y:Operand)
 | slS (size:Nat) (x:Operand) (lo hi:Option Operand)
 | ld (agg:Bool) (size:Nat) (x:Operand)
 | st (size:Nat) (x y:Operand)
 | stf (size:Nat) (x y:Operand) (os:List Operand)
 | lenS (x:Operand)
 | lenT (x:Operand)
 | app (e size bytes:Nat) (x y:Operand)
 | gen (o:Op)
 | call (f:FuncId) (args:List Operand)
 | callv (c:Operand) (args:List Operand)
 | callF (f:FuncId) (args os:List Operand)
 | callG (f:FuncId) (args os:List Operand)
 | appF (e size bytes:Nat) (x y:Operand) (os:List Operand)
def Z8:Ws:=⟨λ_ _ _=>none,λ_ _ _=>none,λ_ _ _=>none⟩
def Qmg (f:Operand->Value):List Value->List (Nat×Nat×Operand)->Option (List Value)
 | cells,[]=>some cells
 | cells,(off,size,x)::rest=>if(f x).cells.toList.length=size∧off+size<=cells.length then Qmg f (splice cells off (f x).cells.toList) rest else none
def YN (e size bytes:Nat) (s x:Value) (H:Qa):Option (Value×Qa):=
 match ZQ size x H with
 | none=>none
 | some (m,news)=>
  if news.all (·.oneCell')=true then
   match s with
   | .slice none 0 0=>
    if m=0 then some (.slice none 0 0,H) else
    if m<=9223372036854775807∧m * bytes<=140737488355328 then some (.slice (some ⟨H.next,0,none⟩) m (UNK+size),H.push (.cells news e false)) else none
   | .slice (some a) len cap=>
    if m=0 then(if UNK<=cap∨len<=cap then some (.slice (some a) len cap,H) else none) else
    match H.get a.block with
    | some (.cells c e' ro)=>
     if a.off+len * size<=c.length∧len+m<=9223372036854775807∧(len+m) * bytes<=140737488355328 then
      if UNK<=cap then
       if ro=false∧e'=e∧a.off=0∧a.off+len * size=c.length then some (.slice (some ⟨H.next,0,none⟩) (len+m) (UNK+size),(H.kill a.block).push (.cells (c.drop a.off++news) e false))
       else if ro=false∧cap=UNK+size∧a.off+(len+m) * size<=c.length then some (.slice (some a) (len+m) cap,H.set a.block (.cells (splice c (a.off+len * size) news) e' false)) else none
      else if len+m<=cap then
       (if ro=false∧a.off+(len+m) * size<=c.length then some (.slice (some a) (len+m) cap,H.set a.block (.cells (splice c (a.off+len * size) news) e' false)) else none)
      else some (.slice (some ⟨H.next,0,none⟩) (len+m) (UNK+size),H.push (.cells ((c.drop a.off).take (len * size)++news) e false))
     else none
    | _=>none
   | _=>none
  else none
theorem Qu5 (e:TypeId) (inf:TypeInfo) (s x:Value) (H:Qa):Qhf e inf s x H=YN e inf.size inf.bytes s x H:=rfl
def QBh:Sk->Value->Value->Option Bool
 | .i,.int k a,.int k' b=>if k=k' then some (a==b) else none
 | .b,.bool a,.bool b=>some (a==b)
 | .s,.string a,.string b=>some (bl a==bl b)
 | _,_,_=>none
def QaH:List Sk->Array Value->Array Value->Nat->Option Bool
 | [],_,_,_=>some true
 | k::ks,xs,ys,i=>match xs[i]?,ys[i]? with
  | some a,some b=>match QBh k a b with
   | some true=>QaH ks xs ys (i+1)
   | r=>r
  | _,_=>none
def JG (op:BinOp) (x y:Value):Option Value:=
 match x,y with
 | .int ik a,.int ik' b=>match op with
  | .shl | .shr=>Vy op ik a b
  | _=>if ik=ik' then Yu op ik a b else none
 | .string a,.string b=>Qa2 op (bl a) (bl b)
 | _,_=>none
def Qgc (H:Qa):Option Value->Option (Value×Qa)
 | some v=>some (v,H)
 | none=>none
def Qqx (f:Operand->Value):Option Operand->Option (Option Int)
 | none=>some none
 | some x=>match f x with | .int _ m=>some (some m) | _=>none
def rop (P:Program) (r:R) (A:Env) (H:Qa):Option (Value×Qa):=
 match r with
 | .mv x=>some (ev A x,H)
 | .pick c x y=>match ev A c with | .bool t=>some (bif t then ev A x else ev A y,H) | _=>none
 | .bin op x y=>Qgc H (JG op (ev A x) (ev A y))
 | .beq ne x y=>match ev A x,ev A y with
  | .bool a,.bool b=>some (.bool (bif ne then !(a==b) else a==b),H)
  | _,_=>none
 | .eqs ne m x y=>match ev A x,ev A y with
  | .agg xs,.agg ys=>match QaH m xs ys 0 with | some b=>some (.bool (bif ne then !b else b),H) | none=>none
  | _,_=>none
 | .not x=>match ev A x with | .bool b=>some (.bool !b,H) | _=>none
 | .toInt k x=>match ev A x with | .int _ m=>some (.int k (k.wrap m),H) | _=>none
 | .mkIf t x=>some (.iface t (ev A x),H)
 | .fld agg off size x=>match ev A x with
  | .agg cs=>Qgc H (bif agg then some (.agg (cs.extract off (off+size))) else cs[off]?)
  | _=>none
 | .fldA off x=>match ev A x with | .pointer (some a)=>some (.pointer (some ⟨a.block,a.off+off,none⟩),H) | _=>none
 | .idxS size x ix=>match ev A ix,ev A x with
  | .int _ m,.slice (some a) len _=>if 0<=m∧m<len then some (.pointer (some ⟨a.block,a.off+m.toNat * size,none⟩),H) else none
  | _,_=>none
 | .chr x ix=>match ev A ix,ev A x with
  | .int _ m,.string s=>if 0<=m then(match (bl s)[m.toNat]? with | some b=>some (.int .u8 b.toNat,H) | none=>none) else none
  | _,_=>none
 | .ext x i=>match ev A x with | .tuple vs=>Qgc H vs[i]? | _=>none
 | .asrt t z ok x=>match ev A x with
  | .nilIface=>bif ok then some (.tuple #[z,.bool false],H) else none
  | .iface u v=>if u=t then some (bif ok then .tuple #[v,.bool true] else v,H) else(bif ok then some (.tuple #[z,.bool false],H) else none)
  | _=>none
 | .build z parts=>match Qmg (ev A) z parts with | some r=>some (.agg r.toArray,H) | none=>none
 | .bslice e size len z parts=>match Qb0 (λi=>some (i * size,size)) z (parts.map λp=>(p.1,ev A p.2)) with
  | some r=>some (.slice (some ⟨H.next,0,none⟩) len len,H.push (.cells r e false))
  | none=>none
 | .alloc e z=>some (.pointer (some ⟨H.next,0,none⟩),H.push (.cells z e false))
 | .box e x=>some (.pointer (some ⟨H.next,0,none⟩),H.push (.cells (ev A x).cells.toList e false))
 | .mkSl e size bytes z x y=>match ev A x,ev A y with
  | .int .i64 l,.int .i64 c=>if 0<=l∧l<=c∧(bytes:Int) * c<=281474976710656∧c<=9223372036854775807 then
    some (.slice (some ⟨H.next,0,none⟩) l.toNat c.toNat,H.push (.cells (Xt z.toArray (c.toNat * size)) e false)) else none
  | _,_=>none
 | .slS size x lo hi=>match Qqx (ev A) lo,Qqx (ev A) hi with
  | some l,some h=>Qgc H (Ki size (ev A x) l h none)
  | _,_=>none
 | .ld agg size x=>match ev A x with
  | .pointer (some a)=>match H.get a.block with
   | some (.cells c _ _)=>bif agg then(if a.off+size<=c.length then some (.agg ((c.drop a.off).take size).toArray,H) else none) else Qgc H c[a.off]?
   | _=>none
  | _=>none
 | .st size x y=>match ev A x with
  | .pointer (some a)=>match H.get a.block with
   | some (.cells c e false)=>if(ev A y).cells.toList.length=size∧a.off+(ev A y).cells.toList.length<=c.length∧(ev A y).cells.toList.all (·.oneCell')=true then some (undef,H.set a.block (.cells (splice c a.off (ev A y).cells.toList) e false)) else none
   | _=>none
  | _=>none
 | .stf size x y _=>match ev A x with
  | .pointer (some a)=>match H.get a.block with
   | some (.cells c e false)=>if(ev A y).cells.toList.length=size∧a.off+(ev A y).cells.toList.length<=c.length∧(ev A y).cells.toList.all (·.oneCell')=true then some (undef,H.set a.block (.cells (splice c a.off (ev A y).cells.toList) e false)) else none
   | _=>none
  | _=>none
 | .lenS x=>match ev A x with | .slice _ m _=>some (.int .i64 (m:Int),H) | _=>none
 | .lenT x=>match ev A x with | .string s=>some (.int .i64 ((bl s).length:Int),H) | _=>none
 | .app e size bytes x y=>YN e size bytes (ev A x) (ev A y) H
 | .gen o=>match aop P Z8 ⟨none,o,0, "",#[],none⟩ A H with | some (_,v,H')=>some (v,H') | none=>none
 | .call _ _=>none
 | .callv _ _=>none
 | .callF _ _ _=>none
 | .callG _ _ _=>none
 | .appF _ _ _ _ _ _=>none
/-! ### Resolving -/
def QjD (P:Program):List Field->Nat->Option (List Sk)
 | [],_=>some []
 | fd::fs,i=>
  if fd.name = "_" ∨ fd.offset≠i then none else
  match P.info? fd.type,QjD P fs (i+1) with
  | some _,some ks=>match P.underlying fd.type with
   | some (.int _)=>some (.i::ks)
   | some .bool=>some (.b::ks)
   | some .string=>some (.s::ks)
   | _=>none
  | _,_=>none
def QjE (pl:Array (Nat×Nat)):List (Nat×Operand)->Option (List (Nat×Nat×Operand))
 | []=>some []
 | (i,x)::rest=>match pl[i]?,QjE pl rest with
  | some (off,size),some l=>some ((off,size,x)::l)
  | _,_=>none
def Q3 (P:Program) (op:Op):R:=
 match op with
 | .move x=>.mv x
 | .assign x=>.mv x
 | .pick c x y=>.pick c x y
 | .binOp b t x y _=>
  match P.underlying t with
  | some (.int _) | some .string=>.bin b x y
  | some .bool=>match b with | .eql=>.beq false x y | .neq=>.beq true x y | _=>.gen op
  | some (.struct fs)=>if P.stoodInHeld t||P.eqGuardType P.depth t then .gen op else match QjD P fs.toList 0 with
   | some ks=>(match b with | .eql=>.eqs false ks x y | .neq=>.eqs true ks x y | _=>.gen op)
   | none=>.gen op
  | _=>.gen op
 | .unOp .not _ x=>.not x
 | .convert src dst x=>match P.underlying src,P.underlying dst with
  | some (.int _),some (.int k)=>.toInt k x
  | _,_=>.gen op
 | .makeInterface t x=>match P.underlying t with
  | some (.interface _)=>.gen op
  | some _=>.mkIf t x
  | none=>.gen op
 | .field t x f=>match P.underlying t with
  | some (.struct fs)=>match fs[f]? with
   | some fd=>match P.underlying fd.type,P.info? fd.type with
    | some td,some inf=>.fld (Z7 td) fd.offset inf.size x
    | _,_=>.gen op
   | none=>.gen op
  | _=>.gen op
 | .fieldAddr t x f=>match P.underlying t with
  | some (.struct fs)=>match fs[f]? with
   | some fd=>match P.info? fd.type with
    | some inf=>if inf.size=0 then .gen op else .fldA fd.offset x
    | none=>.gen op
   | none=>.gen op
  | _=>.gen op
 | .indexAddr t x ix=>match P.underlying t with
  | some (.slice e)=>match P.info? e with
   | some inf=>.idxS inf.size x ix
   | none=>.gen op
  | _=>.gen op
 | .index t x ix=>match P.underlying t with
  | some .string=>.chr x ix
  | _=>.gen op
 | .extract x i=>.ext x i
 | .typeAssert x _ t ok=>match P.underlying t,P.info? t with
  | some td,some inf=>match inf.zero with
   | some z=>if XA z then(match td with | .interface _=>.gen op | _=>.asrt t z ok x) else .gen op
   | none=>.gen op
  | _,_=>.gen op
 | .build t parts=>match P.underlying t,P.info? t with
  | some (.struct fs),some inf=>match inf.zero,Qjy P fs with
   | some z,some pl=>if z.cells.toList.all plain then(match QjE pl parts.toList with | some l=>.build z.cells.toList l | none=>.gen op) else .gen op
   | _,_=>.gen op
  | _,_=>.gen op
 | .buildSlice t len parts=>match P.underlying t with
  | some (.slice e)=>match P.info? e with
   | some inf=>match inf.zero with
    | some z=>if z.cells.toList.all plain&&Nat.blt 0 z.cells.size&&Nat.ble len 16777216&&Nat.ble (len * inf.size) 16777216 then .bslice e inf.size len (Xt z.cells (len * inf.size)) parts.toList else .gen op
    | none=>.gen op
   | none=>.gen op
  | _=>.gen op
 | .alloc e=>match P.info? e with
  | some inf=>match inf.zero with
   | some z=>if z.cells.toList.all plain then .alloc e z.cells.toList else .gen op
   | none=>.gen op
  | none=>.gen op
 | .makeSlice t x y=>match P.underlying t with
  | some (.slice e)=>match P.info? e with
   | some inf=>match inf.zero with
    | some z=>if Qej P e inf z then .mkSl e inf.size inf.bytes z.cells.toList x y else .gen op
    | none=>.gen op
   | none=>.gen op
  | _=>.gen op
 | .slice t x lo hi none=>match P.underlying t with
  | some (.slice e)=>match P.info? e with
   | some inf=>.slS inf.size x lo hi
   | none=>.gen op
  | _=>.gen op
 | .load t x=>match P.underlying t,P.info? t with
  | some d,some inf=>.ld (Z7 d) inf.size x
  | _,_=>.gen op
 | .store t x y=>match P.info? t with
  | some inf=>.st inf.size x y
  | none=>.gen op
 | .call ⟨.builtin .len,args,ts⟩=>match args.toList,ts.toList with
  | [x],[t]=>match P.underlying t with
   | some (.slice _)=>.lenS x
   | some .string=>.lenT x
   | _=>.gen op
  | _,_=>.gen op
 | .call ⟨.builtin .append,args,ts⟩=>match args.toList,ts.toList with
  | [x,y],[t,t2]=>match P.underlying t,P.underlying t2 with
   | some (.slice e),some td=>match P.info? e with
    | some inf=>match inf.zero with
     | some z=>if Qf8 td&&Qej P e inf z then .app e inf.size inf.bytes x y else .gen op
     | none=>.gen op
    | none=>.gen op
   | _,_=>.gen op
  | _,_=>.gen op
 | .call ⟨.value (.func f),args,_⟩=>.call f args.toList
 | .call ⟨.value c,args,_⟩=>.callv c args.toList
 | .box e x=>.box e x
 | op=>.gen op
section
variable {P:Program} {A:Env} {H:Qa}
def Qqy (P:Program) (op:Op) (A:Env) (H:Qa) (v:Value) (H':Qa):Prop:=∃c,aop P Z8 ⟨none,op,0, "",#[],none⟩ A H=some (c,v,H')
theorem QxY {op:Op} {v:Value} {H':Qa} (h:rop P (.gen op) A H=some (v,H')):Qqy P op A H v H':=by
 simp only[rop]at h;split at h
 ·rename_i c v1 H1 he;simp only[Lt,LB]at h;obtain⟨rfl,rfl⟩:=h;exact⟨c,he⟩
 ·cases h
theorem Qdm {r:Option Value} {v:Value} {H':Qa} (h:Qgc H r=some (v,H')):r=some v∧H'=H:=by
 cases r with
 | none=>cases h
 | some u=>simp[Qgc]at h;exact⟨by rw[h.1],h.2.symm⟩
theorem QxZ {op:BinOp} {t:TypeId} {x y v:Value} {k:Bool} (h:JG op x y=some v):Qpw P k op t x y=some v:=by
 unfold JG at h;split at h
 ·exact h
 ·exact h
 ·cases h
def QBi (P:Program) (t:TypeId):Sk->Prop
 | .i=>∃ik,P.underlying t=some (.int ik)
 | .b=>P.underlying t=some .bool
 | .s=>P.underlying t=some .string
theorem Qta {f:Nat} {t:TypeId} {k:Sk} {a b:Value} {r:Bool} (h:QBh k a b=some r) (hk:QBi P t k):aeq P (f+1) t a b=some r:=by
 unfold QBh at h;split at h
 ·obtain⟨ik,hu⟩:=hk;simp only[aeq,hu];exact h
 ·simp only[QBi]at hk;simp only[aeq,hk];exact h
 ·simp only[QBi]at hk;simp only[aeq,hk];exact h
 ·cases h
theorem Qmh {f:Nat}:∀ (fs:List Field) (i:Nat) (ks:List Sk) (xs ys:Array Value) (b:Bool),QjD P fs i=some ks->QaH ks xs ys i=some b->WO P (aeq P (f+1)) fs xs ys=some b
 | [],i,ks,xs,ys,b,hs,h=>by simp only[QjD,Lt]at hs;subst hs;simpa[QaH,WO] using h
 | fd::fs,i,ks,xs,ys,b,hs,h=>by
  unfold QjD at hs;split at hs
  ·cases hs
  ·rename_i h1;simp only[not_or,Decidable.not_not]at h1;split at hs
   ·rename_i inf ks1 hi hs1;have main:∀k,(∀zs:Array Value,apart P fd.type zs fd.offset=zs[i]?)->QBi P fd.type k->
      QaH (k::ks1) xs ys i=some b->WO P (aeq P (f+1)) (fd::fs) xs ys=some b:=λk hap hk h=>by
     unfold QaH at h;unfold WO;rw[Le h1.1,hap,hap];split at h
     ·rename_i a c ha hc;rw[ha,hc];simp only;split at h
      ·rename_i he;rw[Qta he hk];exact Qmh fs (i+1) ks1 xs ys b hs1 h
      ·rename_i r hr;have:=Qta (f:=f) h hk;rw[this];cases b with
       | true=>exact absurd h hr
       | false=>rfl
     ·cases h
    split at hs
    ·rename_i ik hu;cases hs;exact main .i (λzs=>by simp[apart,hu,hi,Z7,h1.2]) ⟨ik,hu⟩ h
    ·rename_i hu;cases hs;exact main .b (λzs=>by simp[apart,hu,hi,Z7,h1.2]) hu h
    ·rename_i hu;cases hs;exact main .s (λzs=>by simp[apart,hu,hi,Z7,h1.2]) hu h
    ·cases hs
   ·cases hs
theorem Qmi {pl:Array (Nat×Nat)}:∀ (parts:List (Nat×Operand)) (l:List (Nat×Nat×Operand)) (cells:List Value),QjE pl parts=some l->Qb0 (pl[·]?) cells (parts.map λp=>(p.1,ev A p.2))=Qmg (ev A) cells l
 | [],l,cells,h=>by simp only[QjE,Lt]at h;subst h;rfl
 | (i,x)::rest,l,cells,h=>by
  unfold QjE at h;split at h
  ·rename_i off size l1 hp hr;cases h;simp only[NZ,Qb0,Qmg,hp];rw[Qmi rest l1 _ hr]
  ·cases h
set_option maxHeartbeats 2000000 in
theorem Qu6 {op:Op} {v:Value} {H':Qa} (h:rop P (Q3 P op) A H=some (v,H')):Qqy P op A H v H':=by
 have gen:rop P (.gen op) A H=some (v,H')->Qqy P op A H v H':=QxY;unfold Q3 at h;split at h
 case h_1 x=>simp only[rop,Lt,LB]at h;obtain⟨rfl,rfl⟩:=h;exact⟨_,rfl⟩
 case h_2 x=>simp only[rop,Lt,LB]at h;obtain⟨rfl,rfl⟩:=h;exact⟨_,rfl⟩
 case h_3 c x y=>
  simp only[rop]at h;split at h
  ·rename_i t ht;simp only[Lt,LB]at h;obtain⟨rfl,rfl⟩:=h;exact⟨.pure,by simp only[aop,Qrh,ht]⟩
  ·cases h
 case h_4 b t x y yt=>
  have bin:rop P (.bin b x y) A H=some (v,H')->Qqy P (.binOp b t x y yt) A H v H':=λh=>by
   obtain⟨h1,rfl⟩:=Qdm h;exact⟨.pure,by simp only[aop,QaF,QxZ h1,Yl]⟩
  split at h
  ·exact bin h
  ·exact bin h
  ·rename_i hu;have beq:∀ne:Bool,(b=bif ne then .neq else .eql)->rop P (.beq ne x y) A H=some (v,H')->Qqy P (.binOp b t x y yt) A H v H':=λne hb h=>by
    simp only[rop]at h;split at h
    ·rename_i p q hp hq;simp only[Lt,LB]at h;obtain⟨rfl,rfl⟩:=h;refine⟨.pure,?_⟩;have hg:∀k,Yr P k t (.bool p) (.bool q)=true:=λk=>by simp[Yr,Qhy,Qpu]
     simp only[aop,QaF,Qpw,hp,hq,Qjz,Kj,hg,Bj,N3,hb];cases ne<;>simp[aeq,hu,Yl]
    ·cases h
   split at h
   ·exact beq false rfl h
   ·exact beq true rfl h
   ·exact gen h
  ·rename_i fs hu;split at h
   ·exact gen h
   ·rename_i hc;simp only[Nw,not_or,Bool.not_eq_true]at hc;split at h
    ·rename_i ks hks;have eqs:∀ne:Bool,(b=bif ne then .neq else .eql)->rop P (.eqs ne ks x y) A H=some (v,H')->Qqy P (.binOp b t x y yt) A H v H':=λne hb h=>by
      simp only[rop]at h;split at h
      ·rename_i p q hp hq;split at h
       ·rename_i r hr;simp only[Lt,LB]at h;obtain⟨rfl,rfl⟩:=h;refine⟨.pure,?_⟩;have hg:∀k,Yr P k t (.agg p) (.agg q)=true:=λk=>by simp[Yr,Qhy,hc.2]
        have ha:=Qmh (f:=18) fs.toList 0 ks p q r hks hr;have ha2:aeq P 20 t (.agg p) (.agg q)=some r:=by
         unfold aeq;rw[hu];simp only[hc.1,LV,LN];exact ha
        simp only[aop,QaF,Qpw,hp,hq,Qjz,Kj,hg,Bj,N3,hb];cases ne<;>simp[ha2,Yl]
       ·cases h
      ·cases h
     split at h
     ·exact eqs false rfl h
     ·exact eqs true rfl h
     ·exact gen h
    ·exact gen h
  ·exact gen h
 case h_5 t x=>
  simp only[rop]at h;split at h
  ·rename_i p hp;simp only[Lt,LB]at h;obtain⟨rfl,rfl⟩:=h;exact⟨.pure,by simp only[aop,Qri,hp,QnD,Yl]⟩
  ·cases h
 case h_6 src dst x=>
  split at h
  ·rename_i ik k hs hd;simp only[rop]at h;split at h
   ·rename_i k0 m hm;simp only[Lt,LB]at h;obtain⟨rfl,rfl⟩:=h;exact⟨.pure,by simp only[aop,GF,hs,hd,hm,Qnj,Yl]⟩
   ·cases h
  ·exact gen h
 case h_7 t x=>
  split at h
  ·exact gen h
  ·rename_i td hni hu;simp only[rop,Lt,LB]at h;obtain⟨rfl,rfl⟩:=h;refine⟨.pure,?_⟩;simp only[aop,Jx,hu]
  ·exact gen h
 case h_8 t x f=>
  split at h
  ·rename_i fs hu;split at h
   ·rename_i fd hf;split at h
    ·rename_i td inf hd hi;simp only[rop]at h;split at h
     ·rename_i cs hcs;obtain⟨h1,rfl⟩:=Qdm h;refine⟨.pure,?_⟩;simp only[aop,Qnl,hu,hcs,hf,apart,hd,hi];cases hag:Z7 td<;>rw[hag]at h1<;>simp only[Lq,Ls]at h1<;>simp[h1,Yl]
     ·cases h
    ·exact gen h
   ·exact gen h
  ·exact gen h
 case h_9 t x f=>
  split at h
  ·rename_i fs hu;split at h
   ·rename_i fd hf;split at h
    ·rename_i inf hi;split at h
     ·exact gen h
     ·rename_i hz;simp only[rop]at h;split at h
      ·rename_i a ha;simp only[Lt,LB]at h;obtain⟨rfl,rfl⟩:=h;refine⟨.pure,?_⟩;have:Nat.beq inf.size 0=false:=by simp[Y2,hz]
       simp only[aop,JV,hu,ha,hf,hi,this,Ls]
      ·cases h
    ·exact gen h
   ·exact gen h
  ·exact gen h
 case h_10 t x ix=>
  split at h
  ·rename_i e hu;split at h
   ·rename_i inf hi;simp only[rop]at h;split at h
    ·rename_i ik m a len cap hm ha;split at h
     ·rename_i hc;simp only[Lt,LB]at h;obtain⟨rfl,rfl⟩:=h;exact⟨.pure,by simp only[aop,Zy,hm,hu,ha,hi,hc,RU,N3]⟩
     ·cases h
    ·cases h
   ·exact gen h
  ·exact gen h
 case h_11 t x ix=>
  split at h
  ·rename_i hu;simp only[rop]at h;split at h
   ·rename_i ik m s hm hs;split at h
    ·rename_i h0;split at h
     ·rename_i b hb;simp only[Lt,LB]at h;obtain⟨rfl,rfl⟩:=h;exact⟨.pure,by simp only[aop,Qnm,hm,hu,hs,h0,N3,hb]⟩
     ·cases h
    ·cases h
   ·cases h
  ·exact gen h
 case h_12 x i=>
  simp only[rop]at h;split at h
  ·rename_i vs hv;obtain⟨h1,rfl⟩:=Qdm h;exact⟨.pure,by simp only[aop,Qhg,hv,h1,Yl]⟩
  ·cases h
 case h_13 x xt t ok=>
  split at h
  ·rename_i td inf hu hi;split at h
   ·rename_i z hz;split at h
    ·rename_i hcl;split at h
     ·exact gen h
     ·rename_i hni;simp only[rop]at h;refine⟨.pure,?_⟩;simp only[aop,QGH,QGQ,hu,hi,hz,hcl,N3];split at h
      ·rename_i hx;cases ok with
       | true=>
        simp only[Lq,Lt,LB]at h;obtain⟨rfl,rfl⟩:=h;simp only[hx];cases td<;>first | rfl | exact absurd rfl (hni _)
       | false=>cases h
      ·rename_i u w hx;simp only[hx];split at h
       ·rename_i e;simp only[Lt,LB]at h;obtain⟨rfl,rfl⟩:=h;cases td<;>first | exact absurd rfl (hni _) | (cases ok<;>simp[e,Yl])
       ·rename_i e;cases ok with
        | true=>
         simp only[Lq,Lt,LB]at h;obtain⟨rfl,rfl⟩:=h;cases td<;>first | exact absurd rfl (hni _) | simp[e,Yl]
        | false=>cases h
      ·cases h
    ·exact gen h
   ·exact gen h
  ·exact gen h
 case h_14 t parts=>
  split at h
  ·rename_i fs inf hu hi;split at h
   ·rename_i z pl hz hpl;split at h
    ·rename_i hp;split at h
     ·rename_i l hl;simp only[rop]at h;split at h
      ·rename_i r hr;simp only[Lt,LB]at h;obtain⟨rfl,rfl⟩:=h;have:=Qmi (A:=A) parts.toList l z.cells.toList hl;rw[hr]at this;exact⟨.pure,by simp only[aop,Qnn,hu,hi,hz,hpl,hp,Lq,Yq,this,Dh,Yl]⟩
      ·cases h
     ·exact gen h
    ·exact gen h
   ·exact gen h
  ·exact gen h
 case h_15 t len parts=>
  split at h
  ·rename_i e hu;split at h
   ·rename_i inf hi;split at h
    ·rename_i z hz;split at h
     ·rename_i hc;simp only[rop]at h;split at h
      ·rename_i r hr;simp only[Lt,LB]at h;obtain⟨rfl,rfl⟩:=h;exact⟨.alloc _,by simp only[aop,QaG,hu,hi,hz,hc,Lq,Yq,hr];rfl⟩
      ·cases h
     ·exact gen h
    ·exact gen h
   ·exact gen h
  ·exact gen h
 case h_16 e=>
  split at h
  ·rename_i inf hi;split at h
   ·rename_i z hz;split at h
    ·rename_i hp;simp only[rop,Lt,LB]at h;obtain⟨rfl,rfl⟩:=h;exact⟨.alloc _,by simp only[aop,Qno,hi,hz,hp,Lq];rfl⟩
    ·exact gen h
   ·exact gen h
  ·exact gen h
 case h_17 t x y=>
  split at h
  ·rename_i e hu;split at h
   ·rename_i inf hi;split at h
    ·rename_i z hz;split at h
     ·rename_i hel;simp only[rop]at h;split at h
      ·rename_i l c hl hc;split at h
       ·rename_i hcond;simp only[Lt,LB]at h;obtain⟨rfl,rfl⟩:=h;refine⟨.alloc (.cells (Xt z.cells (c.toNat * inf.size)) e false),?_⟩;simp only[aop,Qb3,hu,hl,hc,hi,hz];rw[Lc ⟨hel,hcond⟩]
       ·cases h
      ·cases h
     ·exact gen h
    ·exact gen h
   ·exact gen h
  ·exact gen h
 case h_18 t x lo hi=>
  split at h
  ·rename_i e hu;split at h
   ·rename_i inf hin;simp only[rop]at h;split at h
    ·rename_i l hh hl hhi;obtain⟨h1,rfl⟩:=Qdm h;have e1:QS A lo=some l:=by rw[<- hl];cases lo<;>rfl
     have e2:QS A hi=some hh:=by rw[<- hhi];cases hi<;>rfl
     have e3:QS A none=some none:=rfl;exact⟨.pure,by simp only[aop,Qep,hu,hin,e1,e2,e3,RV,N1,N3,h1,Yl]⟩
    ·cases h
   ·exact gen h
  ·exact gen h
 case h_19 t x=>
  split at h
  ·rename_i d inf hu hi;simp only[rop]at h;split at h
   ·rename_i a ha;split at h
    ·rename_i c e ro hg;cases hag:Z7 d with
     | true=>
      rw[hag]at h;simp only[Lq]at h;split at h
      ·rename_i hle;simp only[Lt,LB]at h;obtain⟨rfl,rfl⟩:=h;exact⟨.load,by simp only[aop,QnT,ha,XW,hu,hi,hg,hag,N3,hle]⟩
      ·cases h
     | false=>
      rw[hag]at h;obtain⟨h1,rfl⟩:=Qdm h;exact⟨.load,by simp only[aop,QnT,ha,XW,hu,hi,hg,hag,LV,LN,h1]⟩
    ·cases h
   ·cases h
  ·exact gen h
 case h_20 t x y=>
  split at h
  ·rename_i inf hi;simp only[rop]at h;split at h
   ·rename_i a ha;split at h
    ·rename_i c e hg;split at h
     ·rename_i hc;simp only[Lt,LB]at h;obtain⟨rfl,rfl⟩:=h;refine⟨.gen,?_⟩;simp only[aop,QjB,ha,Qiu,hi,hg];rw[Lc hc]
     ·cases h
    ·cases h
   ·cases h
  ·exact gen h
 case h_21 args ts=>
  split at h
  ·rename_i x t ha ht;split at h
   ·rename_i e hu;simp only[rop]at h;split at h
    ·rename_i q m c hx;simp only[Lt,LB]at h;obtain⟨rfl,rfl⟩:=h;exact⟨.pure,by simp only[aop,Qeq,ha,ht,Qzf,hu,hx]⟩
    ·cases h
   ·rename_i hu;simp only[rop]at h;split at h
    ·rename_i s hx;simp only[Lt,LB]at h;obtain⟨rfl,rfl⟩:=h;exact⟨.pure,by simp only[aop,Qeq,ha,ht,Qzf,hu,hx]⟩
    ·cases h
   ·exact gen h
  ·exact gen h
 case h_22 args ts=>
  split at h
  ·rename_i x y t t2 ha ht;split at h
   ·rename_i e td hu hu2;split at h
    ·rename_i inf hi;split at h
     ·rename_i z hz;split at h
      ·rename_i hc;simp only[rop]at h;refine⟨.gen,?_⟩;simp only[aop,Qeq,ha,ht,hu,hu2,hi,hz,hc,Lq,Qu5,h,Dh]
      ·exact gen h
     ·exact gen h
    ·exact gen h
   ·exact gen h
  ·exact gen h
 case h_23=>cases h
 case h_24=>cases h
 case h_25 e x=>simp only[rop,Lt,LB]at h;obtain⟨rfl,rfl⟩:=h;exact⟨.alloc _,rfl⟩
 case h_26=>exact gen h
end
def Rep (n:Nat) (A:Env) (e:E):Prop:=∀t,t<n->A t=Zd e t
structure Ks (α:Type) where
 ret:E->Qa->α
 ext:Nat->E->Qa->α
 jmp:Nat->E->Qa->α
 pan:Value->E->Qa->α
abbrev KT (α:Type):=Ks α->(E->Qa->α)->E->Qa->α
section
variable (α:Type) (bad:α) (P:Program) (call:Ws) (n F:Nat)
def QE6 (k:E->Qa->α) (e:E) (d:Option Nat) (r:Cls×Value×Qa):α:=
 Prod.rec (motive:=λ_=>α) (λ_ q=>Prod.rec (motive:=λ_=>α) (λv H=>k (QxV e d v) H) q) r
def QHF (ks:Ks α) (e:E) (r:Option (Value×Qa)):α:=
 Option.rec (motive:=λ_=>α) bad (λq=>Prod.rec (motive:=λ_=>α) (λv H=>ks.pan v e H) q) r
def QHi (o:Oper) (ks:Ks α) (t:Env) (e:E) (H:Qa):α:=
 match o.op with
 | .panic x=>(match ev t x with
  | .iface ty v=>ks.pan (.iface ty v) e H
  | _=>bad)
 | .call ⟨.value (.func f),args,_⟩=>QHF α bad ks e (call.pn f (args.map (ev t)).toList H)
 | .call ⟨.value c,args,_⟩=>(match ev t c with
  | .func (.func f) xs ys=>QHF α bad ks e (call.pn f (xs.toList++(args.map (ev t)).toList++ys.toList) H)
  | _=>bad)
 | _=>bad
def QBl (o:Oper) (k:E->Qa->α) (e:E) (H:Qa):α:=
 Option.rec (motive:=λ_=>α) bad (QE6 α k e o.dst) (aop P call o (Zd e) H)
def QHv (o:Oper) (ks:Ks α) (k:E->Qa->α) (e:E) (H:Qa):α:=
 Option.rec (motive:=λ_=>α) (QHi α bad call o ks (Zd e) e H) (QE6 α k e o.dst) (aop P call o (Zd e) H)
def Qvd (ops:Array Oper) (o:Oper) (k:E->Qa->α) (e:E) (H:Qa):α:=
 Option.rec (motive:=λ_=>α) bad (λb=>Bool.rec (motive:=λ_=>α) (k (QxV e o.dst undef) H) (QBl α bad P call o k e H) b) (XZ n ops (Zd e) o)
def Qve (ops:Array Oper) (ks:Ks α) (o:Oper) (k:E->Qa->α) (e:E) (H:Qa):α:=
 Bool.rec (motive:=λ_=>α) bad (Option.rec (motive:=λ_=>α) (QHv α bad P call o ks k e H) (λ_=>Qvd α bad P call n ops o k e H) o.guard) (QfR P n o)
def Qqz (ops:Array Oper) (ks:Ks α) (l:List Oper):(E->Qa->α)->E->Qa->α:=
 List.rec (motive:=λ_=>(E->Qa->α)->E->Qa->α) (λk=>k) (λo _ ih k=>Qve α bad P call n ops ks o (ih k)) l
def QHw:List Oper->E->E
 | [],e=>e
 | o::l,e=>QHw l (QxV e o.dst undef)
def QHj (ops:Array Oper) (ks:Ks α) (e:E) (H:Qa):α:=
 match QG2 P call n ops (Zd e) H with
 | some (p,o,t)=>QHi α bad call o ks t (QHw (ops.toList.take p) e) H
 | none=>bad
def Qvf (ops:Array Oper) (ks:Ks α) (k:E->Qa->α) (e:E) (H:Qa):α:=
 match Qnq P call n ops (Zd e) H with
 | some (l,_,H1)=>k (Qrk ops.toList l e) H1
 | none=>QHj α bad P call n ops ks e H
def Qzu (_:Nat) (ops:Array Oper) (draw:Bool):KT α:=λks k=>
 Bool.rec (motive:=λ_=>E->Qa->α) (Qqz α bad P call n ops ks ops.toList k) (Qvf α bad P call n ops ks k) draw
def vb (v:Value) (t f:α):α:=
 match v with
 | .bool b=>Bool.rec (motive:=λ_=>α) f t b
 | _=>bad
def Qvg (x:Operand) (_ _:Code) (iha ihb:KT α):KT α:=λks k e H=>
 Bool.rec (motive:=λ_=>α) bad (vb α bad (ev (Zd e) x) (iha ks k e H) (ihb ks k e H)) (QbY P n x)
def Qzv:KT α:=λ_ k=>k
def QE7 (_ _:Code) (iha ihb:KT α):KT α:=λks k=>iha ks (ihb ks k)
def QBm (id:Nat) (_:Code) (ih:KT α):KT α:=λks k=>
 ih ⟨ks.ret,λj=>Bool.rec (motive:=λ_=>E->Qa->α) (ks.ext j) k (Nat.beq j id),ks.jmp,ks.pan⟩ k
def QDB (_:Code) (ih:KT α):KT α:=λks _=>
 Nat.rec (motive:=λ_=>E->Qa->α) (λ_ _=>bad) (λ_ k=>ih ks k) F
def QwL:KT α:=λ_ _ _ _=>bad
def QDC (id:Nat):KT α:=λks _=>ks.ext id
def QDD (l:Nat):KT α:=λks _=>ks.jmp l
def QE8:KT α:=λks _=>ks.ret
def Qvh (ex:Code->KT α) (body:Code) (ks:Ks α) (k:E->Qa->α) (m:Nat):Code->E->Qa->α:=
 Nat.rec (motive:=λ_=>Code->E->Qa->α) (λ_ _ _=>bad)
  (λ_ ih rest=>ex rest ⟨ks.ret,ks.ext,λl=>Option.rec (motive:=λ_=>E->Qa->α) (ks.jmp l) ih (findLabel body l),ks.pan⟩ k) m
def QBn (ex:Code->KT α) (body:Code) (_:KT α):KT α:=λks k=>Qvh α bad ex body ks k F body
def Qvi (A:Env) (ks:Ks α) (k:E->Qa->α) (e:E) (l:Nat) (H2:Qa):α:=
 match H2.get l with
 | some (.loop _ _ _ _ _ st)=>(match st with
  | none=>k e (H2.kill l)
  | some .ret=>ks.ret e (H2.kill l)
  | some (.exit id)=>ks.ext id e (H2.kill l)
  | some (.goto t)=>ks.jmp t e (H2.kill l)
  | _=>bad)
 | _=>bad
def Qvj (gf:FuncId) (xs ys:Array Value) (ps:Array Tmp) (as bd:Code) (ks:Ks α) (k:E->Qa->α) (e:E) (H:Qa):α:=
 Bool.rec (motive:=λ_=>α) bad (Option.rec (motive:=λ_=>α) bad (λr=>Qvi α bad (Zd e) ks k e H.next r.2) (call.fn gf (xs.toList++[.func (.yield H.next) #[] #[]]++ys.toList) (H.push (.loop (Zd e) n ps as bd none)))) (entered P gf)
def Qge (g:Operand) (ps:Array Tmp) (as bd:Code) (_ _:KT α):KT α:=λks k e H=>
 Bool.rec (motive:=λ_=>α) bad (match ev (Zd e) g with
  | .func (.func gf) xs ys=>Qvj α bad P call n gf xs ys ps as bd ks k e H
  | _=>bad) (QbY P n g)
def QDE (ex:Code->KT α) (c:Code):KT α:=
 Code.rec (motive:=λ_=>KT α) (Qzv α) (Qzu α bad P call n) (QE7 α) (Qvg α bad P n) (QBm α) (QDB α bad F) (Qge α bad P call n) (QDC α) (QBn α bad F ex)
  (λ_=>Qzv α) (QDD α) (QE8 α) (λ_=>QwL α bad) c
def exec (G:Nat):Code->KT α:=
 Nat.rec (motive:=λ_=>Code->KT α) (λ_=>QwL α bad) (λ_ ex=>QDE α bad P call n F ex) G
end
section
variable {α:Type} {bad:α} {P:Program} {call:Ws} {n F:Nat} {Q:Ex->Env->Qa->Prop} {A B:Env} {H:Qa}
theorem Qa0.rep {z:Rd} {ρ:Ren} {w:World} {a:Act} (h:∀t,t<n->A t=B t) (he:Qa0 z ρ H w n B a):Qa0 z ρ H w n A a:=⟨⟨he.size,λt ht=>by rw[h t ht];exact he.tmps t ht⟩,he.fr⟩
theorem AWp.rep {c:Code} (h:∀t,t<n->A t=B t) (hw:AWp P n c Q A H):AWp P n c Q B H:=λz ρ w a hs he=>hw z ρ w a hs (he.rep h)
theorem Qis.rep {ops:Array Oper} {l:List Oper} (h:∀t,t<n->A t=B t) (hw:Qis P n ops l Q A H):Qis P n ops l Q B H:=λz ρ w a hs he=>hw z ρ w a hs (he.rep h)
theorem Qgb.rep {c:Code} (h:∀t,t<n->A t=B t) (hw:Qgb P n c Q A H):Qgb P n c Q B H:=λz ρ w a hs he=>hw z ρ w a hs (he.rep h)
theorem Qb1.rep {b c:Code} (h:∀t,t<n->A t=B t) (hw:Qb1 P n b c Q A H):Qb1 P n b c Q B H:=λz ρ w a hs he=>hw z ρ w a hs (he.rep h)
theorem AWp.post {c:Code} {Q':Ex->Env->Qa->Prop} (h:∀e A H,Q e A H->Q' e A H) (hw:AWp P n c Q A H):AWp P n c Q' A H:=λz ρ w a hs he=>
 FF (hw z ρ w a hs he) (λe a' w' ⟨e',ρ',A',H',hq,h1⟩=>⟨e',ρ',A',H',h _ _ _ hq,h1⟩)
def QHG (n:Nat) (A:Env) (e:E):Prop:=∀t,t<n->A t=Zd e t∨Zd e t=undef
def Qx3 (good:α->Prop) (n:Nat) (ks:Ks α) (k:E->Qa->α):Ex->Env->Qa->Prop
 | .normal,A,H=>∃e,Rep n A e∧good (k e H)
 | .ret,A,H=>∃e,Rep n A e∧good (ks.ret e H)
 | .exit j,A,H=>∃e,Rep n A e∧good (ks.ext j e H)
 | .goto l,A,H=>∃e,Rep n A e∧good (ks.jmp l e H)
 | .panic v,A,H=>∃e,QHG n A e∧good (ks.pan v e H)
theorem QwM (hn:n<=256) {o:Oper} (h:QfR P n o=true):Qjs 256 o.dst=true:=by
 have:=Qf5 h;cases hd:o.dst with
 | none=>rfl
 | some d=>rw[hd]at this;simp only[Qjs,B5]at this ⊢;omega
variable {good:α->Prop} (hbad:¬good bad) (hn:n<=256) (hcall:Qer P call)
include hbad hn hcall
omit hn in
theorem QGP {o:Oper} {ks:Ks α} {t:Env} {e:E} {H:Qa} (h:good (QHi α bad call o ks t e H)):∃v H',QGN P o t H v H'∧good (ks.pan v e H'):=by
 obtain⟨dst,op,ty,pos,af,g⟩:=o;have hpn:∀r,good (QHF α bad ks e r)->∃v H',r=some (v,H')∧good (ks.pan v e H'):=λr hr=>by
  cases r with
  | none=>exact absurd hr hbad
  | some q=>exact⟨q.1,q.2,rfl,hr⟩
 unfold QHi at h;split at h
 ·rename_i x hop;simp only at hop;subst hop;split at h
  ·rename_i ty v ex;exact⟨_,H,QHo ex,h⟩
  ·exact absurd h hbad
 ·rename_i f args ts hop;simp only at hop;subst hop;obtain⟨v,H',hr,hg⟩:=hpn _ h;obtain⟨h1,h2⟩:=hcall.pn _ _ _ _ _ hr;exact⟨v,H',QHB h1 h2,hg⟩
 ·rename_i c args ts hne hop;simp only at hop;subst hop;split at h
  ·rename_i f xs ys ec;obtain⟨v,H',hr,hg⟩:=hpn _ h;obtain⟨h1,h2⟩:=hcall.pn _ _ _ _ _ hr;exact⟨v,H',QHn ec h1 h2,hg⟩
  ·exact absurd h hbad
 ·exact absurd h hbad
theorem Qmk {ops:Array Oper} {ks:Ks α} {k:E->Qa->α}:∀ (l:List Oper) (e:E) (H:Qa),good (Qqz α bad P call n ops ks l k e H)->Qis P n ops l (Qx3 good n ks k) (Zd e) H
 | [],e,H,h=>QsS ⟨e,λ_ _=>rfl,h⟩
 | o::rest,e,H,h=>by
  have h:good (Qve α bad P call n ops ks o (Qqz α bad P call n ops ks rest k) e H):=h;unfold Qve at h;cases hok:QfR P n o with
  | false=>rw[hok]at h;exact absurd h hbad
  | true=>
   rw[hok]at h;have next:∀v H',good (Qqz α bad P call n ops ks rest k (QxV e o.dst v) H')->Qis P n ops rest (Qx3 good n ks k) (Z6 (Zd e) o.dst v) H':=λv H' hg=>
    (Qmk rest _ _ hg).rep (λt ht=>Qs9 e v (QwM hn hok) t (by omega))
   have hop:∀ (h:good (QBl α bad P call o (Qqz α bad P call n ops ks rest k) e H)),∃v H',Qu P o (Zd e) H v H'∧Qis P n ops rest (Qx3 good n ks k) (Z6 (Zd e) o.dst v) H':=λh=>by
    unfold QBl at h;cases ha:aop P call o (Zd e) H with
    | none=>rw[ha]at h;exact absurd h hbad
    | some r=>
     obtain⟨c,v,H'⟩:=r;rw[ha]at h;exact⟨v,H',(Qld hcall ha).does,next v H' h⟩
   cases hg:o.guard with
   | none=>
    rw[hg]at h;have h:good (QHv α bad P call o ks (Qqz α bad P call n ops ks rest k) e H):=h;unfold QHv at h;cases ha:aop P call o (Zd e) H with
    | none=>
     rw[ha]at h;obtain⟨v,H',h1,h2⟩:=QGP hbad hcall h;exact QG8 hg h1 hok ⟨e,λ_ _=>.inl rfl,h2⟩
    | some r=>
     obtain⟨c,v,H'⟩:=r;rw[ha]at h;exact Qql hg (Qld hcall ha).does hok (next v H' h)
   | some jw=>
    rw[hg]at h;obtain⟨j,want⟩:=jw;have h:good (Qvd α bad P call n ops o (Qqz α bad P call n ops ks rest k) e H):=h;unfold Qvd at h;cases hw:XZ n ops (Zd e) o with
    | none=>rw[hw]at h;exact absurd h hbad
    | some b=>
     rw[hw]at h;cases b with
     | true=>
      obtain⟨v,H',h1,h2⟩:=hop h;exact Qb4 hg hw (λ_=>⟨v,H',h1,h2⟩) (λhh=>by cases hh) hok
     | false=>exact Qb4 hg hw (λhh=>by cases hh) (λ_=>next undef H h) hok
omit hbad hcall in
theorem QiB:∀ (l:List Oper) (e:E) (A:Env) (H:Qa) (tr:List Stp) (A1:Env) (H1:Qa) {ops:Array Oper},Jf P call n ops l A H=some (tr,A1,H1)->Rep n A e->Rep n A1 (Qrk l tr e)
 | [],e,A,H,tr,A1,H1,ops,h,hr=>by
  simp only[Jf,Lt,LB]at h;obtain⟨rfl,rfl,rfl⟩:=h;exact hr
 | o::rest,e,A,H,tr,A1,H1,ops,h,hr=>by
  have step:∀v,QfR P n o=true->Rep n (Z6 A o.dst v) (QxV e o.dst v):=λv hok t ht=>by
   rw[Qs9 e v (QwM hn hok) t (by omega)];cases o.dst with
   | none=>exact hr t ht
   | some d=>
    simp only[Z6]
    by_cases hd:t=d
    ·subst hd;simp
    ·rw[Qeh _ _ hd,Qeh _ _ hd];exact hr t ht
  unfold Jf at h;cases hok:QfR P n o with
  | false=>rw[hok]at h;cases h
  | true=>
   rw[hok]at h;simp only[Lq]at h;split at h
   ·split at h
    ·rename_i c v H' ha;split at h
     ·rename_i l' r hl;simp only[Lt,LB]at h;obtain⟨rfl,hr1⟩:=h;subst hr1;exact QiB rest _ _ _ _ _ _ hl (step v hok)
     ·cases h
    ·cases h
   ·split at h
    ·rename_i l' r hl;simp only[Lt,LB]at h;obtain⟨rfl,hr1⟩:=h;subst hr1;exact QiB rest _ _ _ _ _ _ hl (step undef hok)
    ·cases h
   ·cases h
omit hbad hcall in
theorem QGZ:∀ (l:List Oper),(∀ok∈l,QfR P n ok=true)->∀ (e:E) (s:Nat),s<n->Zd (QHw l e) s=undef∨(Zd (QHw l e) s=Zd e s∧∀ok∈l,ok.dst≠some s)
 | [],_,e,s,_=>.inr ⟨rfl,λok h=>by cases h⟩
 | o::l,h,e,s,hs=>by
  have hput:=Qs9 e undef (QwM hn (h o (Ny ..))) s (by omega);rcases QGZ l (λok hk=>h ok (NA _ hk)) (QxV e o.dst undef) s hs with hu | ⟨hu,hne⟩
  ·exact .inl hu
  ·have hu:Zd (QHw (o::l) e) s=Zd (QxV e o.dst undef) s:=hu
   by_cases hd:o.dst=some s
   ·left;rw[hu,hput,hd];simp[Z6]
   ·right;refine⟨?_,λok hk=>?_⟩
    ·rw[hu,hput];cases ho:o.dst with
     | none=>rfl
     | some d=>exact Qeh _ _ (λe=>hd (by rw[ho,e]))
    ·rcases LK.1 hk with rfl | hk
     ·exact hd
     ·exact hne ok hk
theorem QiC:∀ (G:Nat) (c:Code) (ks:Ks α) (k:E->Qa->α) (e:E) (H:Qa),good (exec α bad P call n F G c ks k e H)->AWp P n c (Qx3 good n ks k) (Zd e) H:=by
 intro G
 induction G with
 | zero=>intro c ks k e H h;exact absurd h hbad
 | succ G ihG=>
  intro c
  induction c with
  | skip=>intro ks k e H h;exact QnA ⟨e,λ_ _=>rfl,h⟩
  | label l=>intro ks k e H h;exact Qqk ⟨e,λ_ _=>rfl,h⟩
  | ret=>intro ks k e H h;exact QwA ⟨e,λ_ _=>rfl,h⟩
  | exit id=>intro ks k e H h;exact QsQ ⟨e,λ_ _=>rfl,h⟩
  | goto l=>intro ks k e H h;exact QsR ⟨e,λ_ _=>rfl,h⟩
  | refuse s=>intro ks k e H h;exact absurd h hbad
  | rangeFunc g ps as bd iha ihb=>
   intro ks k e H h;have h:good (Qge α bad P call n g ps as bd (QwL α bad) (QwL α bad) ks k e H):=h;unfold Qge at h;cases hok:QbY P n g with
   | false=>rw[hok]at h;exact absurd h hbad
   | true=>
    rw[hok]at h;have h:good (match ev (Zd e) g with | .func (.func gf) xs ys=>Qvj α bad P call n gf xs ys ps as bd ks k e H | _=>bad):=h;split at h
    ·rename_i gf xs ys eg;unfold Qvj at h;cases hen:entered P gf with
     | false=>rw[hen]at h;exact absurd h hbad
     | true=>
      rw[hen]at h;cases hc:call.fn gf (xs.toList++[.func (.yield H.next) #[] #[]]++ys.toList) (H.push (.loop (Zd e) n ps as bd none)) with
      | none=>rw[hc]at h;exact absurd h hbad
      | some r=>
       obtain⟨v,H2⟩:=r;rw[hc]at h;have h:good (Qvi α bad (Zd e) ks k e H.next H2):=h;have hd:=(hcall.fn _ _ _ _ _ hc).does hen;unfold Qvi at h;split at h
       ·rename_i A' n' ps' as' bd' st hl;refine QhO hok eg hen (.inl ⟨hen,hd⟩) hl ?_;cases st with
        | none=>exact⟨e,λ_ _=>rfl,h⟩
        | some c=>
         cases c<;>simp only at h<;>first
          | exact⟨e,λ_ _=>rfl,h⟩
          | exact absurd h hbad
       ·exact absurd h hbad
    ·exact absurd h hbad
  | region id ops draw=>
   intro ks k e H h;cases draw with
   | false=>
    have:=Qmk (ks:=ks) hbad hn hcall ops.toList e H h;exact QnB (l:=ops.toList) (by simpa using this)
   | true=>
    have h:good (Qvf α bad P call n ops ks k e H):=h;unfold Qvf at h;split at h
    ·rename_i l A1 H1 hd;refine Qpx hcall hd ⟨Qrk ops.toList l e,?_,h⟩;unfold Qnq at hd;cases hc:(P.follows .mixedOrders&&QcT ops (WY ops)) with
     | false=>rw[hc]at hd;cases hd
     | true=>
      rw[hc]at hd;simp only[Lq]at hd;split at hd
      ·rename_i l' t1' H1' htr;cases hall:Qle (Qes P ops (QJ ops.toList []) l' H1') 0 l' with
       | true=>
        rw[hall]at hd;simp only[Lq,Lt,LB]at hd;obtain⟨rfl,rfl,rfl⟩:=hd;exact QiB hn _ _ _ _ _ _ _ htr (λ_ _=>rfl)
       | false=>rw[hall]at hd;cases hd
      ·cases hd
    ·unfold QHj at h;split at h
     ·rename_i p o t hp;obtain⟨v,H',h1,h2⟩:=QGP hbad hcall h;refine(QGK (id:=id) (v:=v) (H':=H') hcall hp h1 λA' hA=>⟨_,λs hs=>?_,h2⟩).1;have hok:∀ok∈ops.toList,QfR P n ok=true:=(QGK (Q:=λ_ _ _=>True) (id:=id) hcall hp h1 (λ_ _=>trivial)).2;rcases QGZ hn (ops.toList.take p) (λok hk=>hok ok (List.mem_of_mem_take hk)) e s hs with hu | ⟨hu,hne⟩
      ·exact .inr hu
      ·rcases hA s hs with⟨ok,hk,hd⟩ | hA
       ·exact absurd hd (hne ok hk)
       ·exact .inl (hA.trans hu.symm)
     ·exact absurd h hbad
  | seq a b iha ihb=>
   intro ks k e H h;refine Qjt ((iha ks _ e H h).post ?_);intro ex A1 H1 hq;cases ex with
   | normal=>
    obtain⟨e1,hr,hg⟩:=hq;exact(ihb ks k e1 H1 hg).rep (λt ht=>(hr t ht).symm)
   | _=>exact hq
  | cond x a b iha ihb=>
   intro ks k e H h;have h:good (Qvg α bad P n x a b (exec α bad P call n F (G+1) a) (exec α bad P call n F (G+1) b) ks k e H):=h;unfold Qvg at h;cases hok:QbY P n x with
   | false=>rw[hok]at h;exact absurd h hbad
   | true=>
    rw[hok]at h;have h:good (vb α bad (ev (Zd e) x) (exec α bad P call n F (G+1) a ks k e H) (exec α bad P call n F (G+1) b ks k e H)):=h;unfold vb at h;split at h
    ·rename_i t ex;cases t with
     | true=>exact Qju hok ex (iha ks k e H h)
     | false=>exact Qju hok ex (ihb ks k e H h)
    ·exact absurd h hbad
  | block id b ih=>
   intro ks k e H h;refine QaV ((ih _ k e H h).post ?_);intro ex A1 H1 hq;cases ex with
   | exit j=>
    obtain⟨e1,hr,hg⟩:=hq;simp only[Qjv];have hg:good (Bool.rec (motive:=λ_=>E->Qa->α) (ks.ext j) k (Nat.beq j id) e1 H1):=hg
    by_cases hj:j=id
    ·rw[Lc hj];subst hj;have:Nat.beq j j=true:=by simp
     rw[this]at hg;exact⟨e1,hr,hg⟩
    ·rw[Le hj];have:Nat.beq j id=false:=by simp[Y2,hj]
     rw[this]at hg;exact⟨e1,hr,hg⟩
   | _=>exact hq
  | loop b ih=>
   intro ks k e H h;refine Ql8 ?_;have key:∀ (m:Nat) (e:E) (H:Qa),good (Nat.rec (motive:=λ_=>E->Qa->α) (λ_ _=>bad) (λ_ k=>exec α bad P call n F (G+1) b ks k) m e H)->Qgb P n b (Qx3 good n ks k) (Zd e) H:=by
    intro m
    induction m with
    | zero=>intro e H h;exact absurd h hbad
    | succ m ihm=>
     intro e H h;refine Qdj ((ih ks _ e H h).post ?_);intro ex A1 H1 hq;cases ex with
     | normal=>
      obtain⟨e1,hr,hg⟩:=hq;exact(ihm e1 H1 hg).rep (λt ht=>(hr t ht).symm)
     | _=>exact hq
   exact key F e H h
  | scope b ih=>
   intro ks k e H h;refine Qen ?_;have key:∀ (m:Nat) (c:Code) (e:E) (H:Qa),good (Qvh α bad (exec α bad P call n F G) b ks k m c e H)->Qb1 P n b c (Qx3 good n ks k) (Zd e) H:=by
    intro m
    induction m with
    | zero=>intro c e H h;exact absurd h hbad
    | succ m ihm=>
     intro c e H h;refine JF ((ihG c _ k e H h).post ?_);intro ex A1 H1 hq;cases ex with
     | goto l=>
      obtain⟨e1,hr,hg⟩:=hq;simp only[QxQ];have hg:good (Option.rec (motive:=λ_=>E->Qa->α) (ks.jmp l) (Qvh α bad (exec α bad P call n F G) b ks k m) (findLabel b l) e1 H1):=hg;split
      ·rename_i rest hf;rw[hf]at hg;exact(ihm rest e1 H1 hg).rep (λt ht=>(hr t ht).symm)
      ·rename_i hf;rw[hf]at hg;exact⟨e1,hr,hg⟩
     | _=>exact hq
   exact key F b e H h
end
/-! ### Functions -/
def Qtc (P:Program) (fn:Func) (e:E) (H:Qa):Option (Value×Qa):=
 Option.rec (motive:=λ_=>Option (Value×Qa)) none (λv=>some (v,H)) (Qix P fn.ntmps fn.results (Zd e) H)
def Qvk (P:Program) (call:Ws) (F G:Nat) (fn:Func) (args:List Value) (H:Qa) (c:Code):Option (Value×Qa):=
 Bool.rec (motive:=λ_=>Option (Value×Qa)) none
  (exec (Option (Value×Qa)) none P call fn.ntmps F G c ⟨Qtc P fn,λ_ _ _=>none,λ_ _ _=>none,λ_ _ _=>none⟩ (Qtc P fn) (Qqv args 0 E.none) H)
  (Nat.ble fn.ntmps 256&&Nat.ble args.length fn.ntmps)
def Qrm (P:Program) (call:Ws) (F G:Nat) (f:FuncId) (args:List Value) (H:Qa) (fn:Func):Option (Value×Qa):=
 Bool.rec (motive:=λ_=>Option (Value×Qa)) none (Option.rec (motive:=λ_=>Option (Value×Qa)) none (Qvk P call F G fn args H) fn.body) (entered P f)
def QfT (A:Env) (b:Nat):N16 Value:=⟨A b,A (b+1),A (b+2),A (b+3),A (b+4),A (b+5),A (b+6),A (b+7),A (b+8),A (b+9),A (b+10),A (b+11),A (b+12),A (b+13),A (b+14),A (b+15)⟩
def eOf (A:Env):E:=⟨QfT A 0,QfT A 16,QfT A 32,QfT A 48,QfT A 64,QfT A 80,QfT A 96,QfT A 112,QfT A 128,QfT A 144,QfT A 160,QfT A 176,QfT A 192,QfT A 208,QfT A 224,QfT A 240⟩
theorem Qzw (A:Env) (b:Nat) (d:D):(QfT A b).get d=A (b+d.num):=by cases d<;>rfl
theorem QBo (A:Env) (d:D):(eOf A).get d=QfT A (16 * d.num):=by cases d<;>rfl
theorem Qzx (A:Env) {t:Nat} (ht:t<256):Zd (eOf A) t=A t:=by
 have e1:∀x y:Nat,Nat.div x y=x / y:=λ_ _=>rfl;have e2:∀x y:Nat,Nat.mod x y=x % y:=λ_ _=>rfl;simp only[Zd,e1,e2];rw[QBo,Qzw,Qnp (by omega),Qnp (by omega)];congr 1;omega
def Qtd (l:Nat) (A:Env) (n:Nat) (ps:Array Tmp) (as bd:Code) (st:Option Code) (b:Bool) (H:Qa):Option (Value×Qa):=some (.bool b,H.set l (.loop A n ps as bd st))
def QDF (P:Program) (call:Ws) (F G:Nat) (l:Nat) (A:Env) (n:Nat) (ps:Array Tmp) (as bd:Code) (e:E) (H:Qa):Option (Value×Qa):=
 exec (Option (Value×Qa)) none P call n F G bd ⟨λ_ H1=>Qtd l A n ps as bd (some .ret) false H1,λj _ H1=>Qtd l A n ps as bd (some (.exit j)) false H1,λj _ H1=>Qtd l A n ps as bd (some (.goto j)) false H1,λ_ _ _=>none⟩
  (λ_ H1=>Qtd l A n ps as bd none true H1) e H
def Qrn (P:Program) (call:Ws) (F G:Nat) (l:Nat) (args:List Value) (H:Qa):Option (Value×Qa):=
 match H.get l with
 | some (.loop A n ps as bd none)=>
  bif Nat.ble n 256&&Nat.beq args.length ps.size then
   exec (Option (Value×Qa)) none P call n F G as ⟨λ_ _=>none,λ_ _ _=>none,λ_ _ _=>none,λ_ _ _=>none⟩ (QDF P call F G l A n ps as bd) (eOf (Ql9 A ps.toList args)) (H.kill l)
  else none
 | _=>none
theorem Qpz {P:Program} {call:Ws} (hcall:Qer P call) {F G:Nat} {l:Nat} {args:List Value} {H H':Qa} {v:Value} (h:Qrn P call F G l args H=some (v,H')):Qqs P l args H v H':=by
  unfold Qrn at h;split at h
  · rename_i A n ps as bd hl
    cases hc:(Nat.ble n 256&&Nat.beq args.length ps.size) with
    | false=>rw[hc]at h;cases h
    | true=>
      rw[hc]at h;simp only[Lq]at h;simp only[Lm,BL,Y2,Lv]at hc;refine Qma hl hc.2 ?_;have main:=QiC (good:=λr:Option (Value×Qa)=>r=some (v,H')) (by simp) hc.1 hcall G as _ _ _ (H.kill l) h;refine(main.post ?_).rep (λt ht=>Qzx _ (by omega));intro ex A1 H1 hq;cases ex with
      | normal=>
        obtain⟨e,hr,hg⟩:=hq;have body:=QiC (good:=λr:Option (Value×Qa)=>r=some (v,H')) (by simp) hc.1 hcall G bd _ _ _ H1 hg;refine(body.post ?_).rep (λt ht=>(hr t ht).symm);intro ex A2 H2 hq2;cases ex<;>first
          | (obtain⟨e2,_,hg2⟩:=hq2
             simp only[Qtd,Lt,LB]at hg2;obtain⟨g1,g2⟩:=hg2;exact⟨g1.symm,by rw[<- g2];exact .refl _⟩)
          | (obtain⟨_,_,hx⟩:=hq2;cases hx)
      | ret=>obtain⟨_,_,hx⟩:=hq;cases hx
      | exit j=>obtain⟨_,_,hx⟩:=hq;cases hx
      | goto j=>obtain⟨_,_,hx⟩:=hq;cases hx
      | panic u=>obtain⟨_,_,hx⟩:=hq;cases hx
  · cases h
def QG4 (P:Program) (call:Ws) (F G:Nat) (fn:Func) (args:List Value) (H:Qa) (c:Code):Option (Value×Qa):=
 Bool.rec (motive:=λ_=>Option (Value×Qa)) none
  (exec (Option (Value×Qa)) none P call fn.ntmps F G c ⟨λ_ _=>none,λ_ _ _=>none,λ_ _ _=>none,λv _ H=>some (v,H)⟩ (λ_ _=>none) (Qqv args 0 E.none) H)
  (Nat.ble fn.ntmps 256&&Nat.ble args.length fn.ntmps)
def QGR (P:Program) (call:Ws) (F G:Nat) (f:FuncId) (args:List Value) (H:Qa) (fn:Func):Option (Value×Qa):=
 Bool.rec (motive:=λ_=>Option (Value×Qa)) none (Option.rec (motive:=λ_=>Option (Value×Qa)) none (QG4 P call F G fn args H) fn.body) (entered P f)
def QHx (α:Type) (bad:α) (P:Program) (call:Ws) (F G:Nat) (fn:Func) (args:List Value) (r:Value) (k:Qa->α) (H:Qa):Code->α
 | .seq (.region _ ops false) rest=>match ops.toList with
  | o::l=>bif QHh o&&Nat.ble fn.ntmps 256&&Nat.ble args.length fn.ntmps&&Qjs fn.ntmps o.dst&&fn.results.isEmpty then
    Qqz α bad P call fn.ntmps ops ⟨λ_ _=>bad,λ_ _ _=>bad,λ_ _ _=>bad,λ_ _ _=>bad⟩ l (exec α bad P call fn.ntmps F G rest ⟨λ_ H=>k H,λ_ _ _=>bad,λ_ _ _=>bad,λ_ _ _=>bad⟩ (λ_ H=>k H)) (QxV (Qqv args 0 E.none) o.dst r) H
   else bad
  | []=>bad
 | _=>bad
def QHb (α:Type) (bad:α) (P:Program) (call:Ws) (F G:Nat) (g:FuncId) (args:List Value) (r:Value) (k:Qa->α) (H:Qa):α:=
 bif entered P g then(match P.funcs[g]? with
  | some fn=>(match fn.body with
   | some c=>QHx α bad P call F G fn args r k H c
   | none=>bad)
  | none=>bad) else bad
def QHk (P:Program) (call:Ws) (F G:Nat) (fn:Func) (g:FuncId) (args:List Value) (r:Value) (e:E) (H:Qa):Option (Value×Qa):=
 QHb (Option (Value×Qa)) none P call F G g args r (λH2=>Qtc P fn e H2) H
def QGS (rs:Array ResultVar):Bool:=rs.toList.all λr=>match r with | .cell _ _=>true | .tmp _=>false
def QHc (P:Program) (call:Ws) (F G:Nat) (fn:Func) (g:FuncId) (args:List Value) (r:Value) (e:E) (H:Qa):Option (Value×Qa):=
 bif QGS fn.results then QHk P call F G fn g args r e H else none
def QHy (P:Program) (call:Ws) (F G:Nat) (fn:Func) (rest:Code) (t:Nat) (e:E) (H:Qa):Option (Value×Qa):=
 match Zd e t with
 | .func (.func g) xs ys=>bif !entered P g then none else exec (Option (Value×Qa)) none P call fn.ntmps F G rest
   ⟨QHk P call F G fn g (xs.toList++ys.toList) .nilIface,λ_ _ _=>none,λ_ _ _=>none,λv e H=>QHc P call F G fn g (xs.toList++ys.toList) v e H⟩ (QHk P call F G fn g (xs.toList++ys.toList) .nilIface) e H
 | _=>none
def QHd (P:Program) (call:Ws) (F G:Nat) (fn:Func) (args:List Value) (H:Qa) (c:Code):Option (Value×Qa):=
 match c with
 | .seq c0 (.seq (.region _ ops false) rest)=>(match ops.toList.getLast? with
  | some o=>(match QHu o with
   | some t=>bif Nat.ble fn.ntmps 256&&Nat.ble args.length fn.ntmps&&Nat.blt t fn.ntmps then
     exec (Option (Value×Qa)) none P call fn.ntmps F G c0 ⟨λ_ _=>none,λ_ _ _=>none,λ_ _ _=>none,λ_ _ _=>none⟩
      (Qqz (Option (Value×Qa)) none P call fn.ntmps ops ⟨λ_ _=>none,λ_ _ _=>none,λ_ _ _=>none,λ_ _ _=>none⟩ ops.toList.dropLast (QHy P call F G fn rest t)) (Qqv args 0 E.none) H
    else none
   | none=>none)
  | none=>none)
 | _=>none
def QHe (P:Program) (call:Ws) (F G:Nat) (f:FuncId) (args:List Value) (H:Qa) (fn:Func):Option (Value×Qa):=
 Bool.rec (motive:=λ_=>Option (Value×Qa)) none (Option.rec (motive:=λ_=>Option (Value×Qa)) none (QHd P call F G fn args H) fn.body) (entered P f)
def QGT (P:Program) (call:Ws) (F G:Nat) (f:FuncId) (args:List Value) (H:Qa) (fn:Func):Option (Value×Qa):=
 Option.rec (motive:=λ_=>Option (Value×Qa)) (QHe P call F G f args H fn) some (Qrm P call F G f args H fn)
def run (P:Program) (known:CallF) (F G:Nat) (k:Nat):Ws:=
 Nat.rec (motive:=λ_=>Ws) ⟨λ_ _ _=>none,λ_ _ _=>none,λ_ _ _=>none⟩
  (λ_ ih=>⟨λf args H=>Option.rec (motive:=λ_=>Option (Value×Qa)) (Option.rec (motive:=λ_=>Option (Value×Qa)) none (QGT P ih F G f args H) P.funcs[f]?) some (known f args H),Qrn P ih F G,
   λf args H=>Option.rec (motive:=λ_=>Option (Value×Qa)) none (QGR P ih F G f args H) P.funcs[f]?⟩) k
theorem Qx4 {P:Program} {fn:Func} {A1:Env} {H1 H':Qa} {e:E} {v:Value} (hr:Rep fn.ntmps A1 e) (hk:Qtc P fn e H1=some (v,H')):∃v1,Out.ret v=.ret v1∧Qix P fn.ntmps fn.results A1 H1=some v1∧Z5 H' H1:=by
 unfold Qtc at hk;cases ha:Qix P fn.ntmps fn.results (Zd e) H1 with
 | none=>rw[ha]at hk;cases hk
 | some u=>
  rw[ha]at hk;have hk:some (u,H1)=some (v,H'):=hk;simp only[Lt,LB]at hk;obtain⟨e1,e2⟩:=hk;rw[<- e1,<- e2];refine⟨_,rfl,?_,.refl _⟩;rw[<- ha];have h1:∀r,Vz P fn.ntmps A1 H1 r=Vz P fn.ntmps (Zd e) H1 r:=λr=>by
   cases r with
   | tmp t=>
    simp only[Vz]
    by_cases ht:t<fn.ntmps
    ·simp only[ht,N3,hr t ht]
    ·simp only[ht,LN]
   | cell a t=>
    simp only[Vz]
    by_cases ht:a<fn.ntmps
    ·simp only[ht,N3,hr a ht]
    ·simp only[ht,LN]
  unfold Qix;rw[show Vz P fn.ntmps A1 H1=Vz P fn.ntmps (Zd e) H1 from funext h1]
theorem QHH {P:Program} {n:Nat} {rs:Array ResultVar} {A:Env} {e:E} {H:Qa} {u:Value} (hr:QHG n A e) (hc:QGS rs=true) (h:Qix P n rs (Zd e) H=some u):Qix P n rs A H=some u:=by
 have h1:∀r∈rs.toList,∀x,Vz P n (Zd e) H r=some x->Vz P n A H r=some x:=λr hm x hx=>by
  have:=Li.1 hc r hm;cases r with
  | tmp t=>cases this
  | cell a t=>
   simp only[Vz]at hx ⊢;split at hx
   ·rename_i ha;rw[Lc ha];rcases hr a ha with hA | hA
    ·rw[hA];exact hx
    ·rw[hA]at hx;simp[undef]at hx
   ·cases hx
 have hl:∀ (l:List ResultVar),(∀r∈l,∀x,Vz P n (Zd e) H r=some x->Vz P n A H r=some x)->∀vs,l.mapM (Vz P n (Zd e) H)=some vs->l.mapM (Vz P n A H)=some vs:=by
  intro l
  induction l with
  | nil=>intro _ vs h;exact h
  | cons r l ih=>
   intro hh vs h;simp only[Ra,BV,BY,Rx,Lt]at h ⊢;obtain⟨v,hv,vs0,hvs,rfl⟩:=h;exact⟨v,hh r (Ny ..) v hv,vs0,ih (λr hr=>hh r (NA _ hr)) vs0 hvs,rfl⟩
 unfold Qix at h ⊢;split at h
 ·rename_i r hrs;rw[hrs]at h1;exact h1 r (List.mem_singleton_self _) u h
 ·rename_i hne;simp only[Lx]at h;obtain⟨vs,hvs,rfl⟩:=h;rw[hl _ h1 vs hvs];rfl
theorem QHf {P:Program} {fn:Func} {A1:Env} {H1 H':Qa} {e:E} {v:Value} (hr:QHG fn.ntmps A1 e) (hc:QGS fn.results=true) (hk:Qtc P fn e H1=some (v,H')):∃v1,Out.ret v=.ret v1∧Qix P fn.ntmps fn.results A1 H1=some v1∧Z5 H' H1:=by
 unfold Qtc at hk;cases ha:Qix P fn.ntmps fn.results (Zd e) H1 with
 | none=>rw[ha]at hk;cases hk
 | some u=>
  rw[ha]at hk;have hk:some (u,H1)=some (v,H'):=hk;simp only[Lt,LB]at hk;obtain⟨e1,e2⟩:=hk;rw[<- e1,<- e2];exact⟨_,rfl,QHH hr hc ha,.refl _⟩
theorem Qro {P:Program} {call:Ws} (hcall:Qer P call) {F G:Nat} {f:FuncId} {fn:Func} {c:Code} {args:List Value} {H H':Qa} {v:Value} (hf:P.funcs[f]? = some fn) (hb:fn.body=some c)
  (h:Qvk P call F G fn args H c=some (v,H')):Qa3 P f args H (.ret v) H':=by
 unfold Qvk at h;cases hc:(Nat.ble fn.ntmps 256&&Nat.ble args.length fn.ntmps) with
 | false=>rw[hc]at h;cases h
 | true=>
  rw[hc]at h;simp only[Lm,BL]at hc;have en:args.length+(fn.ntmps - args.length)=fn.ntmps:=by omega
  refine QnJ hf hb ?_;rw[en];have main:=QiC (good:=λr:Option (Value×Qa)=>r=some (v,H')) (by simp) hc.1 hcall G c _ _ _ H h;have hres:∀ (A1:Env) (H1:Qa),(∃e,Rep fn.ntmps A1 e∧Qtc P fn e H1=some (v,H'))->∃v1,Out.ret v=.ret v1∧Qix P fn.ntmps fn.results A1 H1=some v1∧Z5 H' H1:=λA1 H1 ⟨e,hr,hk⟩=>Qx4 hr hk;refine(main.post ?_).rep (λt ht=>QxX (by omega) t (by omega));intro ex A1 H1 hq;cases ex with
  | normal=>exact hres A1 H1 hq
  | ret=>exact hres A1 H1 hq
  | exit j=>obtain⟨_,_,hx⟩:=hq;cases hx
  | goto j=>obtain⟨_,_,hx⟩:=hq;cases hx
  | panic u=>obtain⟨_,_,hx⟩:=hq;cases hx
theorem Qis.post {P:Program} {n:Nat} {ops:Array Oper} {l:List Oper} {Q Q':Ex->Env->Qa->Prop} {A:Env} {H:Qa} (h:∀e A H,Q e A H->Q' e A H) (hw:Qis P n ops l Q A H):Qis P n ops l Q' A H:=λz ρ w a hs he=>
 GB (λe a' w' ⟨e',ρ',A',H',hq,h1⟩=>⟨e',ρ',A',H',h _ _ _ hq,h1⟩) _ _ _ (hw z ρ w a hs he)
theorem QGX {P:Program} {call:Ws} (hcall:Qer P call) {F G:Nat} {f:FuncId} {fn:Func} {c:Code} {args:List Value} {H H':Qa} {v:Value} (hf:P.funcs[f]? = some fn) (hb:fn.body=some c)
  (h:QG4 P call F G fn args H c=some (v,H')):Qa3 P f args H (.pan v) H':=by
 unfold QG4 at h;cases hc:(Nat.ble fn.ntmps 256&&Nat.ble args.length fn.ntmps) with
 | false=>rw[hc]at h;cases h
 | true=>
  rw[hc]at h;simp only[Lm,BL]at hc;have en:args.length+(fn.ntmps - args.length)=fn.ntmps:=by omega
  refine QnJ hf hb ?_;rw[en];have main:=QiC (good:=λr:Option (Value×Qa)=>r=some (v,H')) (by simp) hc.1 hcall G c _ _ _ H h;refine(main.post ?_).rep (λt ht=>QxX (by omega) t (by omega));intro ex A1 H1 hq;cases ex with
  | normal=>obtain⟨_,_,hx⟩:=hq;cases hx
  | ret=>obtain⟨_,_,hx⟩:=hq;cases hx
  | exit j=>obtain⟨_,_,hx⟩:=hq;cases hx
  | goto j=>obtain⟨_,_,hx⟩:=hq;cases hx
  | panic u=>
   obtain⟨_,_,hx⟩:=hq;simp only[Lt,LB]at hx;obtain⟨e1,e2⟩:=hx;rw[<- e1,<- e2];exact⟨rfl,.refl _⟩
theorem QGM {α:Type} {bad:α} {good:α->Prop} (hbad:¬good bad) {P:Program} {call:Ws} (hcall:Qer P call) {F G:Nat} {g:FuncId} {args:List Value} {r:Value} {k:Qa->α} {H:Qa}
  (h:good (QHb α bad P call F G g args r k H)):QGV P g args H r (λH2=>good (k H2)):=by
 unfold QHb at h;cases he:entered P g with
 | false=>rw[he]at h;exact absurd h hbad
 | true=>
  rw[he]at h;simp only[Lq]at h;split at h
  ·rename_i fn hf;split at h
   ·rename_i c hb;unfold QHx at h;split at h
    ·rename_i id ops rest;split at h
     ·rename_i o l hl;cases hc:(QHh o&&Nat.ble fn.ntmps 256&&Nat.ble args.length fn.ntmps&&Qjs fn.ntmps o.dst&&fn.results.isEmpty) with
      | false=>rw[hc]at h;exact absurd h hbad
      | true=>
      rw[hc]at h;simp only[Lm,BL]at hc;obtain⟨⟨⟨⟨h1,h2⟩,h3⟩,h4⟩,h5⟩:=hc;have en:args.length+(fn.ntmps - args.length)=fn.ntmps:=by omega
      refine QG7 hf hb hl h1 (by rw[en];exact h4) (by simpa using h5) ?_;rw[en];have main:=Qmk (n:=fn.ntmps) hbad h2 hcall l _ H h;have d256:Qjs 256 o.dst=true:=by
       cases hd:o.dst with
       | none=>rfl
       | some d=>rw[hd]at h4;simp only[Qjs,B5]at h4 ⊢;omega
      refine(main.post ?_).rep (λt ht=>?_)
      ·intro ex A1 H1 hq;cases ex with
       | normal=>
        obtain⟨e,hr,hg⟩:=hq;have body:=QiC hbad h2 hcall G rest _ _ e H1 hg;refine(body.post ?_).rep (λt ht=>(hr t ht).symm);intro ex A2 H2 hq2;cases ex<;>obtain⟨_,_,hx⟩:=hq2<;>first
         | exact hx
         | exact absurd hx hbad
       | _=>obtain⟨_,_,hx⟩:=hq;exact absurd hx hbad
      ·rw[Qs9 _ _ d256 t (by omega)];cases o.dst with
       | none=>exact QxX (by omega) t (by omega)
       | some d=>
        simp only[Z6]
        by_cases hd:t=d
        ·subst hd;simp
        ·rw[Qeh _ _ hd,Qeh _ _ hd];exact QxX (by omega) t (by omega)
     ·exact absurd h hbad
    ·exact absurd h hbad
   ·exact absurd h hbad
  ·exact absurd h hbad
theorem QG5 {P:Program} {call:Ws} (hcall:Qer P call) {F G:Nat} {f:FuncId} {fn:Func} {c:Code} {args:List Value} {H H':Qa} {v:Value} (hf:P.funcs[f]? = some fn) (hb:fn.body=some c)
  (h:QHd P call F G fn args H c=some (v,H')):Qa3 P f args H (.ret v) H':=by
 unfold QHd at h;split at h
 ·rename_i c0 id ops rest;split at h
  ·rename_i o hlast;split at h
   ·rename_i t hd;cases hc:(Nat.ble fn.ntmps 256&&Nat.ble args.length fn.ntmps&&Nat.blt t fn.ntmps) with
    | false=>rw[hc]at h;cases h
    | true=>
    rw[hc]at h;simp only[Lm,BL,B5]at hc;obtain⟨⟨h1,h2⟩,h3⟩:=hc;have en:args.length+(fn.ntmps - args.length)=fn.ntmps:=by omega
    have hbad:¬ (λr:Option (Value×Qa)=>r=some (v,H')) none:=by simp
    refine QG3 hf hb (init:=ops.toList.dropLast) (o:=o) ?_ hd (by rw[en];exact h3) ?_
    ·obtain⟨ys,hys⟩:=List.getLast?_eq_some_iff.1 hlast;rw[hys,List.dropLast_concat]
    ·rw[en];have main:=QiC (good:=λr:Option (Value×Qa)=>r=some (v,H')) hbad h1 hcall G c0 _ _ _ H h;refine(main.post ?_).rep (λt ht=>QxX (by omega) t (by omega));intro ex A1 H1 hq;cases ex with
     | normal=>
      obtain⟨e,hr,hg⟩:=hq;have hops:=Qmk (good:=λr:Option (Value×Qa)=>r=some (v,H')) (n:=fn.ntmps) hbad h1 hcall ops.toList.dropLast e H1 hg;refine(hops.post ?_).rep (λt ht=>(hr t ht).symm);intro ex A2 H2 hq2;cases ex with
      | normal=>
       obtain⟨e2,hr2,hg2⟩:=hq2;unfold QHy at hg2;split at hg2
       ·rename_i g xs ys eg;have hentered:entered P g=true:=by
         cases hh:entered P g with
         | true=>rfl
         | false=>rw[hh]at hg2;cases hg2
        rw[hentered]at hg2;refine⟨g,xs,ys,(hr2 t h3).trans eg,hentered,?_⟩;have body:=QiC (good:=λr:Option (Value×Qa)=>r=some (v,H')) hbad h1 hcall G rest _ _ e2 H2 hg2;refine(body.post ?_).rep (λt ht=>(hr2 t ht).symm);have hend:∀ (r:Value) (A3:Env) (H3:Qa),(∃e3,Rep fn.ntmps A3 e3∧QHk P call F G fn g (xs.toList++ys.toList) r e3 H3=some (v,H'))->
          QGV P g (xs.toList++ys.toList) H3 r (λH2=>∃v1,Out.ret v=.ret v1∧Qix P fn.ntmps fn.results A3 H2=some v1∧Z5 H' H2):=by
         rintro r A3 H3 ⟨e3,hr3,hg3⟩;have:=QGM (good:=λr:Option (Value×Qa)=>r=some (v,H')) hbad hcall hg3;intro z ρ w args' u u' r' q1 q2 q3 q4;refine(this z ρ w args' u u' r' q1 q2 q3 q4).mono ?_;rintro e4 u4 w4 ⟨k1,k2,ρ',H4,k3,k4,k5⟩;exact⟨k1,k2,ρ',H4,Qx4 hr3 k3,k4,k5⟩
        intro ex A3 H3 hq3;cases ex with
        | normal=>exact hend _ A3 H3 hq3
        | ret=>exact hend _ A3 H3 hq3
        | panic u=>
         obtain⟨e3,hr3,hg3⟩:=hq3;have hg3:QHc P call F G fn g (xs.toList++ys.toList) u e3 H3=some (v,H'):=hg3;unfold QHc at hg3;cases hcl:QGS fn.results with
         | false=>rw[hcl]at hg3;cases hg3
         | true=>
          rw[hcl]at hg3;have:=QGM (good:=λr:Option (Value×Qa)=>r=some (v,H')) hbad hcall hg3;intro z ρ w args' u1 u' r' q1 q2 q3 q4;refine(this z ρ w args' u1 u' r' q1 q2 q3 q4).mono ?_;rintro e4 u4 w4 ⟨k1,k2,ρ',H4,k3,k4,k5⟩;exact⟨k1,k2,ρ',H4,QHf hr3 hcl k3,k4,k5⟩
        | exit j=>obtain⟨_,_,hx⟩:=hq3;cases hx
        | goto j=>obtain⟨_,_,hx⟩:=hq3;cases hx
       ·cases hg2
      | _=>obtain⟨_,_,hx⟩:=hq2;cases hx
     | _=>obtain⟨_,_,hx⟩:=hq;cases hx
   ·cases h
  ·cases h
 ·cases h
theorem Qdn {P:Program} {known:CallF} (hk:CallOk P known) {F G:Nat}:∀k,Qer P (run P known F G k):=by
 intro k
 induction k with
 | zero=>exact⟨λf args H v H' h=>(by cases h),λl args H v H' h=>(by cases h),λf args H v H' h=>(by cases h)⟩
 | succ k ih=>
  refine⟨λf args H v H' h=>?_,λl args H v H' h=>Qpz ih h,λf args H v H' h=>?_⟩
  ·have h:Option.rec (motive:=λ_=>Option (Value×Qa)) (Option.rec (motive:=λ_=>Option (Value×Qa)) none (QGT P (run P known F G k) F G f args H) P.funcs[f]?) some (known f args H)=some (v,H'):=h;cases hkn:known f args H with
   | some r=>rw[hkn]at h;cases h;exact hk f args H v H' hkn
   | none=>
    rw[hkn]at h;cases hf:P.funcs[f]? with
    | none=>rw[hf]at h;cases h
    | some fn=>
     rw[hf]at h;have h:QGT P (run P known F G k) F G f args H fn=some (v,H'):=h;unfold QGT at h;cases hr:Qrm P (run P known F G k) F G f args H fn with
     | some q=>
      rw[hr]at h;cases h;unfold Qrm at hr;cases he:entered P f with
      | false=>rw[he]at hr;cases hr
      | true=>
       rw[he]at hr;cases hb:fn.body with
       | none=>rw[hb]at hr;cases hr
       | some c=>rw[hb]at hr;exact .inl ⟨he,Qro ih hf hb hr⟩
     | none=>
      rw[hr]at h;have h:QHe P (run P known F G k) F G f args H fn=some (v,H'):=h;unfold QHe at h;cases he:entered P f with
      | false=>rw[he]at h;cases h
      | true=>
       rw[he]at h;cases hb:fn.body with
       | none=>rw[hb]at h;cases h
       | some c=>rw[hb]at h;exact .inl ⟨he,QG5 ih hf hb h⟩
  ·have h:Option.rec (motive:=λ_=>Option (Value×Qa)) none (QGR P (run P known F G k) F G f args H) P.funcs[f]? = some (v,H'):=h;cases hf:P.funcs[f]? with
   | none=>rw[hf]at h;cases h
   | some fn=>
    rw[hf]at h;have h:QGR P (run P known F G k) F G f args H fn=some (v,H'):=h;unfold QGR at h;cases he:entered P f with
    | false=>rw[he]at h;cases h
    | true=>
     rw[he]at h;cases hb:fn.body with
     | none=>rw[hb]at h;cases h
     | some c=>rw[hb]at h;exact⟨rfl,QGX ih hf hb h⟩
def xknown (xt:FuncId->Option Xk):CallF:=λf args H=>
 match xt f with
 | some k=>(k.val args).map λv=>(v,H)
 | none=>none
theorem xknown_ok {P:Program} {xt:FuncId->Option Xk} (h:∀f k,xt f=some k->IsExt P f k):CallOk P (xknown xt):=by
 intro f args H v H' hr;unfold xknown at hr;split at hr
 ·rename_i k hk;simp only[Lx,LB]at hr;obtain⟨u,hu,rfl,rfl⟩:=hr;exact .inr (Qs0 (h f k hk) hu)
 ·cases hr
def shN (G δ id:Nat):Nat:=bif Nat.blt id G then id else id+δ
def shV (G δ:Nat):Nat->Value->Value
 | 0,v=>v
 | f+1,v=>match v with
  | .pointer (some a)=>.pointer (some ⟨shN G δ a.block,a.off,a.spot⟩)
  | .slice (some a) l c=>.slice (some ⟨shN G δ a.block,a.off,a.spot⟩) l c
  | .map (some r)=>.map (some (shN G δ r))
  | .iface t v=>.iface t (shV G δ f v)
  | .agg xs=>.agg (xs.toList.map (shV G δ f)).toArray
  | .tuple xs=>.tuple (xs.toList.map (shV G δ f)).toArray
  | .func fn xs ys=>.func fn (xs.toList.map (shV G δ f)).toArray (ys.toList.map (shV G δ f)).toArray
  | v=>v
def okD:Nat->Value->Bool
 | 0,v=>plain v
 | f+1,v=>match v with
  | .iface _ v=>okD f v
  | .agg xs=>xs.toList.all (okD f)
  | .tuple xs=>xs.toList.all (okD f)
  | .func fn xs ys=>QaD fn&&xs.toList.all (okD f)&&ys.toList.all (okD f)
  | _=>true
theorem Qyy (G δ:Nat):∀ (f:Nat) (v:Value),plain v=true->shV G δ f v=v
 | 0,v,_=>rfl
 | f+1,v,h=>by
  unfold shV;split<;>first | (simp[plain]at h;done) | rfl
theorem QFk {ρ ρ':Ren} {G δ:Nat} (hr:∀id i,ρ id=some i->ρ' (shN G δ id)=some i):∀ (f:Nat) {v v':Value},V ρ v v'->okD f v=true->V ρ' (shV G δ f v) v':=by
 intro f
 induction f with
 | zero=>
  intro v v' h hk;rw[h.plain_eq hk];exact .same _ hk
 | succ f ih=>
  intro v v' h hk;have arr:∀ (xs xs':Array Value),xs.size=xs'.size->(∀ (j:Nat) x x',xs[j]? = some x->xs'[j]? = some x'->V ρ x x')->xs.toList.all (okD f)=true->
    (xs.toList.map (shV G δ f)).toArray.size=xs'.size∧∀ (j:Nat) x x',(xs.toList.map (shV G δ f)).toArray[j]? = some x->xs'[j]? = some x'->V ρ' x x':=by
   intro xs xs' h1 h2 h3;refine⟨by simp[h1],λj x x' e e'=>?_⟩;simp only[List.getElem?_toArray,LD,Bl,Lx]at e;obtain⟨y,hy,rfl⟩:=e;exact ih (h2 j y x' hy e') (Li.1 h3 y (by simpa using BB hy))
  cases h with
  | same v hp=>rw[Qyy G δ (f+1) v hp];exact .same v hp
  | ptr id off i h=>exact .ptr _ off i (hr id i h)
  | slice id off len cap cap' i a' h h1 h2 h0 h3 h4=>exact .slice _ off len cap cap' i a' (hr id i h) h1 h2 h0 h3 h4
  | map id i h=>exact .map _ i (hr id i h)
  | func fn xs ys xs' ys' hn h1 h2 h3 h4=>
   simp only[okD,Lm]at hk;obtain⟨p1,p2⟩:=arr xs xs' h1 h3 hk.1.2;obtain⟨q1,q2⟩:=arr ys ys' h2 h4 hk.2;exact .func fn _ _ xs' ys' hn p1 q1 p2 q2
  | yield l i h=>simp[okD,QaD]at hk
  | iface t v v' h=>exact .iface t _ v' (ih h hk)
  | agg xs xs' h1 h2=>
   obtain⟨p1,p2⟩:=arr xs xs' h1 h2 hk;exact .agg _ xs' p1 p2
  | tuple xs xs' h1 h2=>
   obtain⟨p1,p2⟩:=arr xs xs' h1 h2 hk;exact .tuple _ xs' p1 p2
structure Row where
 src:Nat
 c:List Value
 e:TypeId
 ro:Bool
def Row.blk (G δ:Nat) (r:Row):Blk:=.cells (r.c.map (shV G δ 6)) r.e r.ro
def Qok (G δ:Nat):List Row->Qa->Qa
 | [],H=>H
 | r::rs,H=>Qok G δ rs (H.push (r.blk G δ))
def QmW (G:Nat) (rs:List Row) (H:Qa):Qa:=Qok G (H.next - G) rs H
theorem Qol {G δ:Nat}:∀ (rs:List Row) (H:Qa),(Qok G δ rs H).next=H.next+rs.length
 | [],H=>rfl
 | r::rs,H=>by simp only[Qok,Qol rs,Qe,Lo];omega
theorem QqI {G δ:Nat}:∀ (rs:List Row) (H:Qa) (id:Nat),(Qok G δ rs H).get id=if H.next<=id∧id<H.next+rs.length then(rs[id - H.next]?).map (Row.blk G δ) else H.get id
 | [],H,id=>by simp only[Qok,L9];rw[Le (by omega)]
 | r::rs,H,id=>by
  simp only[Qok,QqI rs,Qe,Lo,Qd]
  by_cases h1:id=H.next
  ·subst h1;rw[Le (by omega),Lc rfl,Lc ⟨by omega,by omega⟩];simp
  ·by_cases h2:H.next+1<=id∧id<H.next+1+rs.length
   ·rw[Lc h2,Lc ⟨by omega,by omega⟩,show id - H.next=(id - (H.next+1))+1 by omega];simp
   ·rw[Le h2,Le h1,Le (by omega)]
def Qas (G:Nat) (rs:List Row) (b:Nat):Option Nat:=bif Nat.blt b G then some b else(rs[b - G]?).map (·.src)
def QB7 (o:Option Nat) (a:Nat):Bool:=match o with | some b=>Nat.beq b a | none=>false
theorem QwZ {o:Option Nat} {a:Nat} (h:QB7 o a=true):o=some a:=by
 cases o with
 | none=>cases h
 | some b=>simp only[QB7,Y2,Lv]at h;rw[h]
def Qlr (a:Addr):Bool:=match a.spot with | none=>true | some _=>false
def mtV (σ:Nat->Option Nat):Nat->Value->Value->Bool
 | 0,v,u=>plain v&&Qa7 8 v u
 | f+1,v,u=>match v,u with
  | .pointer (some a),.pointer (some b)=>QB7 (σ b.block) a.block&&Nat.beq a.off b.off&&Qlr b
  | .slice (some a) l c,.slice (some b) l' c'=>QB7 (σ b.block) a.block&&Nat.beq a.off b.off&&Qlr b&&Nat.beq l l'&&Nat.beq c c'
  | .iface t v,.iface t' u=>Nat.beq t t'&&mtV σ f v u
  | .agg xs,.agg ys=>Kd (mtV σ f) xs.toList ys.toList
  | .tuple xs,.tuple ys=>Kd (mtV σ f) xs.toList ys.toList
  | v,u=>plain v&&Qa7 8 v u
theorem Qdu {eq:Value->Value->Bool}:∀ {xs ys:List Value},Kd eq xs ys=true->xs.length=ys.length∧∀ (j:Nat) x y,xs[j]? = some x->ys[j]? = some y->eq x y=true
 | [],[],_=>⟨rfl,λj x y h=>by simp at h⟩
 | x::xs,y::ys,h=>by
  simp only[Kd,Lm]at h;obtain⟨h1,h2⟩:=Qdu h.2;refine⟨by simp[h1],λj a b ha hb=>?_⟩;cases j with
  | zero=>simp at ha hb;subst ha;subst hb;exact h.1
  | succ j=>exact h2 j a b (by simpa using ha) (by simpa using hb)
 | [],_::_,h=>by simp[Kd]at h
 | _::_,[],h=>by simp[Kd]at h
theorem Qw0 {σ:Nat->Option Nat} {ρ ρ':Ren} (hr:∀a b i,σ b=some a->ρ a=some i->ρ' b=some i):∀ (f:Nat) {v u v':Value},mtV σ f v u=true->V ρ v v'->V ρ' u v':=by
 intro f;have pl:∀ {v u v':Value},(plain v&&Qa7 8 v u)=true->V ρ v v'->V ρ' u v':=λh hv=>by
  simp only[Lm]at h;rw[<- Kk 8 _ _ h.2,hv.plain_eq h.1];exact .same _ h.1
 induction f with
 | zero=>intro v u v' h hv;exact pl h hv
 | succ f ih=>
  intro v u v' h hv;have arr:∀ (xs ys xs':Array Value),xs.size=xs'.size->(∀ (j:Nat) x x',xs[j]? = some x->xs'[j]? = some x'->V ρ x x')->Kd (mtV σ f) xs.toList ys.toList=true->
    ys.size=xs'.size∧∀ (j:Nat) x x',ys[j]? = some x->xs'[j]? = some x'->V ρ' x x':=by
   intro xs ys xs' h1 h2 h3;obtain⟨g1,g2⟩:=Qdu h3;simp only[Array.length_toList]at g1;refine⟨by omega,λj x x' e e'=>?_⟩;have hj:j<xs.size:=by rw[h1];exact(Nj.1 e').1
   exact ih (g2 j xs[j] x (by simp[hj]) (by simpa using e)) (h2 j _ x' (Ng hj) e')
  unfold mtV at h;split at h
  ·rename_i a b;simp only[Lm,Y2,Lv]at h;obtain⟨⟨h1,h2⟩,h3⟩:=h;obtain⟨i,g1,g2,g3⟩:=hv.ptr_inv;rw[g3,h2];obtain⟨b0,bo,bs⟩:=b;have:bs=none:=by cases bs with | none=>rfl | some _=>cases h3
   subst this;exact .ptr b0 bo i (hr _ _ i (QwZ h1) g1)
  ·rename_i a l c b l' c';simp only[Lm,Y2,Lv]at h;obtain⟨⟨⟨⟨h1,h2⟩,h3⟩,h4⟩,h5⟩:=h;obtain⟨i,a',cap',g1,g2,g3,g4,g5,g0,g6,g7⟩:=hv.slice_inv;subst h4;subst h5;rw[g3];obtain⟨b0,bo,bs⟩:=b;have:bs=none:=by cases bs with | none=>rfl | some _=>cases h3
   subst this;simp only at h2;rw[h2]at g4 g6;exact .slice b0 bo l c cap' i a' (hr _ _ i (QwZ h1) g1) g4 g5 g0 g6 g7
  ·rename_i t v0 t' u0;simp only[Lm,Y2,Lv]at h;obtain⟨rfl,h2⟩:=h;cases hv with
   | same _ hp=>simp[plain]at hp
   | iface _ _ v1 hv1=>exact .iface t u0 v1 (ih h2 hv1)
  ·rename_i xs ys;cases hv with
   | same _ hp=>simp[plain]at hp
   | agg _ xs' h1 h2=>obtain⟨p1,p2⟩:=arr xs ys xs' h1 h2 h;exact .agg ys xs' p1 p2
  ·rename_i xs ys;cases hv with
   | same _ hp=>simp[plain]at hp
   | tuple _ xs' h1 h2=>obtain⟨p1,p2⟩:=arr xs ys xs' h1 h2 h;exact .tuple ys xs' p1 p2
  ·exact pl h hv
def QDh (G:Nat) (B:Qa):Prop:=B.next=G∧∀id b,B.get id=some b->∃c e,b=.cells c e true∧c.all plain=true
structure QvI (G:Nat) (H1:Qa) (rs:List Row):Prop where
 row:∀ (k:Nat) (r:Row),rs[k]? = some r->G<=r.src∧r.c.all (okD 6)=true∧∃c1,H1.get r.src=some (.cells c1 r.e r.ro)∧Kd (mtV (Qas G rs) 6) c1 r.c=true
 inj:∀ (j k:Nat) (r r':Row),rs[j]? = some r->rs[k]? = some r'->j≠k->r.src≠r'.src
theorem Wq.turn {P:Program} {ρ ρ':Ren} {i:Zc} {w:World} {c u:List Value} {e:TypeId} {ro:Bool} (h:Wq P ρ i w (.cells c e ro)) (hl:u.length=c.length)
  (hv:∀ (j:Nat) x y z,c[j]? = some x->u[j]? = some y->V ρ x z->V ρ' y z):Wq P ρ' i w (.cells u e ro):=by
 have hx:∀ (j:Nat) y,u[j]? = some y->∃x,c[j]? = some x:=λj y hj=>by
  have:j<c.length:=by rw[<- hl];exact(Lk.1 hj).1
  exact⟨c[j],La this⟩
 cases ro with
 | true=>
  refine⟨h.1,λj y hj=>?_⟩;obtain⟨x,hxj⟩:=hx j y hj;obtain⟨z,h1,h2⟩:=h.2 j x hxj;exact⟨z,h1,hv j x y z hxj hj h2⟩
 | false=>
  obtain⟨cur,fz,hh,h1,h2,h3,h4,h5,h6,h7⟩:=h;refine⟨cur,fz,hh,h1,h2,by omega,λj y hj=>?_,h5,by rw[hl];exact h6,h7⟩;obtain⟨x,hxj⟩:=hx j y hj;obtain⟨z,g1,g2⟩:=h4 j x hxj;exact⟨z,g1,hv j x y z hxj hj g2⟩
theorem V.closed_eq {ρ:Ren} {v v':Value} (h:V ρ v v') (hc:XA v=true):v'=v:=by
 have arr:∀xs xs':Array Value,xs.all Ab.plain=true->xs.size=xs'.size->(∀ (j:Nat) x x',xs[j]? = some x->xs'[j]? = some x'->V ρ x x')->xs'=xs:=λxs xs' hx hs hv=>by
  apply Array.ext hs.symm;intro j h1 h2;have:=hv j xs[j] xs'[j] (Ng h2) (Ng h1);exact this.plain_eq (B1.1 hx _ (Array.getElem_mem h2))
 cases h with
 | same v hp=>rfl
 | agg xs xs' h1 h2=>rw[arr xs xs' hc h1 h2]
 | tuple xs xs' h1 h2=>rw[arr xs xs' hc h1 h2]
 | iface t v v' h=>rw[h.plain_eq hc]
 | _=>simp[XA,Ab.plain]at hc
theorem QFl {P:Program} {f:FuncId} {args:List Value} {v u:Value} {B H1:Qa} (hB:QDh P.globals.size B) (hd:Qa3 P f args B (.ret v) H1) (ha:args.all XA=true)
  {rs:List Row} (hv:mtV (Qas P.globals.size rs) 6 v u=true) (hu:okD 6 u=true) (hrs:QvI P.globals.size H1 rs) (H:Qa) (hH:∀id b,B.get id=some b->H.get id=some b):
  Qa3 P f args H (.ret (shV P.globals.size (H.next - P.globals.size) 6 u)) (QmW P.globals.size rs H):=by
 intro ρ w args' hs hargs;obtain⟨hBn,hBt⟩:=hB;have hG:P.globals.size<=H.next:=by
  rcases B6 P.globals.size with h | h
  ·omega
  ·obtain⟨i,hi,_⟩:=hs.glob (P.globals.size - 1) (by omega);have:=hs.dom _ _ hi;omega
 have hargs0:VL (We ρ P.globals.size) args args':=⟨hargs.1,λj x x' e e'=>by
  have hp:XA x=true:=Li.1 ha x (Ln e);rw[(hargs.2 j x x' e e').closed_eq hp];exact .closed hp⟩
 have hsim:Sim P (We ρ P.globals.size) B w:=by
  refine⟨λid j h=>by rw[hBn];exact(WX h).1,λid b i hb hi=>?_,λid1 id2 b1 b2 i1 i2 h1 h2 h3 h4 h5=>?_,λg hg=>?_⟩
  ·obtain⟨c,e,rfl,hc⟩:=hBt id b hb;have:=hs.live id _ i (hH id _ hb) (WX hi).2;refine⟨this.1,λj u hj=>?_⟩;obtain⟨u',h1,h2⟩:=this.2 j u hj;have hp:plain u=true:=Li.1 hc u (Ln hj);rw[h2.plain_eq hp]at h1;exact⟨u,h1,.same u hp⟩
  ·obtain⟨c,e,rfl,_⟩:=hBt id1 b1 h1;cases h5
  ·obtain⟨j,hj,e⟩:=hs.glob g hg;exact⟨j,XY hg hj,e⟩
 refine(hd _ w args' hsim hargs0).mono ?_;rintro e w' ⟨ρ1,ho,hst,hs1⟩;have hnro:∀id b,B.get id=some b->b.ro=true:=λid b h=>by obtain⟨c,e,rfl,_⟩:=hBt id b h;rfl
 have hsame:∀b,b<w.heap.size->w'.heap[b]? = w.heap[b]? := λb hb=>hst.frame b hb (λid i bl _ h2 h3=>by rw[hnro id bl h2]at h3;cases h3);have hnew:∀id i,ρ1 id=some i->P.globals.size<=id->w.heap.size<=i.at_.block:=λid i h hid=>by
  have hn:We ρ P.globals.size id=none:=by unfold We;rw[Le (by omega)]
  rcases(hst.fresh id i h hn).2 with h | ⟨id0,i0,b0,_,_,h3,h4⟩
  ·exact h
  ·rw[hnro id0 b0 h3]at h4;cases h4
 have hblt:∀id,Nat.blt id P.globals.size=decide (id<P.globals.size):=λid=>by
  cases hb:Nat.blt id P.globals.size with
  | false=>
   by_cases h:id<P.globals.size
   ·have:Nat.blt id P.globals.size=true:=by simpa using h
    rw[hb]at this;cases this
   ·simp[h]
  | true=>simp only[B5]at hb;simp[hb]
 generalize hδ:H.next - P.globals.size=δ;have hsh:∀id,shN P.globals.size δ id=if id<P.globals.size then id else id+δ:=λid=>by
  unfold shN;rw[hblt];by_cases h:id<P.globals.size<;>simp[h]
 -- the blocks by their new numbers
 let ρc:Ren:=λb=>(Qas P.globals.size rs b).bind ρ1
 let ρ':Ren:=λid=>if id<H.next then ρ id else ρc (id - δ)
 have hc1:∀a b i,Qas P.globals.size rs b=some a->ρ1 a=some i->ρc b=some i:=λa b i h h'=>by simp only[ρc,h,R8,h']
 have hcin:∀b i,ρc b=some i->P.globals.size<=b->∃r,rs[b - P.globals.size]? = some r∧ρ1 r.src=some i:=λb i h hb=>by
  simp only[ρc,Qas,hblt,show ¬b<P.globals.size by omega,NE,Ls]at h;cases hr:rs[b - P.globals.size]? with
  | none=>rw[hr]at h;cases h
  | some r=>rw[hr]at h;exact⟨r,rfl,h⟩
 have hmap:∀b i,ρc b=some i->ρ' (shN P.globals.size δ b)=some i:=λb i h=>by
  rw[hsh]
  by_cases hb:b<P.globals.size
  ·simp only[hb,N3,ρ'];rw[Lc (by omega)];simp only[ρc,Qas,hblt,hb,Nf,Lq,R8]at h;obtain⟨i0,hi0,_⟩:=hs.glob b hb;have:=hst.mono b i0 (XY hb hi0);rw[h]at this;cases this;exact hi0
  ·simp only[hb,LN,ρ'];rw[Le (by omega),show b+δ - δ=b by omega];exact h
 have hval:∀ {x y z:Value},mtV (Qas P.globals.size rs) 6 x y=true->okD 6 y=true->V ρ1 x z->V ρ' (shV P.globals.size δ 6 y) z:=λh1 h2 h3=>QFk hmap 6 (Qw0 hc1 6 h1 h3) h2;have hsub:Sub ρ ρ':=λid i h=>by
  simp only[ρ'];rw[Lc (hs.dom id i h)];exact h
 have hget:∀id,(QmW P.globals.size rs H).get id=if H.next<=id∧id<H.next+rs.length then(rs[id - H.next]?).map (Row.blk P.globals.size δ) else H.get id:=λid=>by
  unfold QmW;rw[QqI,hδ]
 have hnext:(QmW P.globals.size rs H).next=H.next+rs.length:=by unfold QmW;exact Qol rs H
 have hidx:∀id,H.next<=id->id - δ - P.globals.size=id - H.next:=λid h=>by omega
 have hhigh:∀id i,ρ' id=some i->H.next<=id->∃r,rs[id - H.next]? = some r∧ρ1 r.src=some i:=λid i hi hid=>by
  simp only[ρ']at hi;rw[Le (by omega)]at hi;have:=hcin (id - δ) i hi (by omega);rwa [hidx id hid]at this
 have hlow:∀id i,ρ' id=some i->id<H.next->ρ id=some i:=λid i hi hid=>by
  simp only[ρ']at hi;rwa [Lc hid]at hi
 have hgl:∀id,id<H.next->(QmW P.globals.size rs H).get id=H.get id:=λid hid=>by rw[hget,Le (by omega)]
 have hgh:∀id r,H.next<=id->rs[id - H.next]? = some r->(QmW P.globals.size rs H).get id=some (r.blk P.globals.size δ):=λid r hid hr=>by
  have:=(Lk.1 hr).1;rw[hget,Lc ⟨hid,by omega⟩,hr];rfl
 refine⟨ρ',?_,⟨hsub,by rw[hnext];omega,λid i h h'=>?_,λid i b b' h h1 h2 h3=>?_,λid i h h'=>?_,hst.os,hst.tape,hst.output,hst.size,λb hb _=>hsame b hb⟩,
  ⟨λid i h=>?_,λid b i hb hi=>?_,λid1 id2 b1 b2 i1 i2 h1 h2 h3 h4 h5 h6=>?_,λg hg=>?_⟩⟩
 ·cases e with
  | returned v'=>exact hval hv hu ho
  | _=>exact ho.elim
 ·rw[hgl id (hs.dom id i h)];exact h'
 ·rw[hgl id (hs.dom id i h),h1]at h3;cases h3;exact h2
 ·have hid:H.next<=id:=by
   rcases Nq id H.next with hlt | hge
   ·rw[hlow id i h hlt]at h';cases h'
   ·exact hge
  obtain⟨r,hr,hr1⟩:=hhigh id i h hid;exact⟨hid,.inl (hnew r.src i hr1 (hrs.row _ r hr).1)⟩
 ·rw[hnext];rcases Nq id H.next with hlt | hge
  ·omega
  ·obtain⟨r,hr,_⟩:=hhigh id i h hge;have:=(Lk.1 hr).1;omega
 ·rcases Nq id H.next with hlt | hge
  ·rw[hgl id hlt]at hb;have hr:=hs.live id b i hb (hlow id i hi hlt);exact hr.mono hsub (hsame _ hr.lt)
  ·obtain⟨r,hr,hr1⟩:=hhigh id i hi hge;rw[hgh id r hge hr]at hb;cases hb;obtain⟨g1,g2,c1,g3,g4⟩:=hrs.row _ r hr;obtain⟨q1,q2⟩:=Qdu g4;refine(hs1.live r.src _ i g3 hr1).turn (by simp[q1]) λj x y z hx hy hz=>?_;simp only[LD,Lx]at hy;obtain⟨y0,hy0,rfl⟩:=hy;exact hval (q2 j x y0 hx hy0) (Li.1 g2 y0 (Ln hy0)) hz
 ·have old:∀id b i,id<H.next->(QmW P.globals.size rs H).get id=some b->ρ' id=some i->i.at_.block<w.heap.size:=λid b i hlt hb hi=>by
   rw[hgl id hlt]at hb;exact(hs.live id b i hb (hlow id i hi hlt)).lt
  have new:∀id i,H.next<=id->ρ' id=some i->w.heap.size<=i.at_.block:=λid i hge hi=>by
   obtain⟨r,hr,hr1⟩:=hhigh id i hi hge;exact hnew r.src i hr1 (hrs.row _ r hr).1
  rcases Nq id1 H.next with l1 | l1<;>rcases Nq id2 H.next with l2 | l2
  ·rw[hgl id1 l1]at h1;rw[hgl id2 l2]at h2;exact hs.sep id1 id2 b1 b2 i1 i2 h1 h2 (hlow id1 i1 h3 l1) (hlow id2 i2 h4 l2) h5 h6
  ·have a1:=old id1 b1 i1 l1 h1 h3;have a2:=new id2 i2 l2 h4;omega
  ·have a1:=new id1 i1 l1 h3;have a2:=old id2 b2 i2 l2 h2 h4;omega
  ·obtain⟨r,hr,hr1⟩:=hhigh id1 i1 h3 l1;obtain⟨r',hr',hr1'⟩:=hhigh id2 i2 h4 l2;rw[hgh id1 r l1 hr]at h1;rw[hgh id2 r' l2 hr']at h2;cases h1;cases h2;obtain⟨_,_,c1,g3,_⟩:=hrs.row _ r hr;obtain⟨_,_,c2,g4,_⟩:=hrs.row _ r' hr';exact hs1.sep r.src r'.src _ _ i1 i2 g3 g4 hr1 hr1' h5 (hrs.inj _ _ r r' hr hr' (by omega))
 ·obtain⟨j,hj,e⟩:=hs.glob g hg;exact⟨j,hsub _ _ hj,e⟩
/-! ### Tables, and calls that are known -/
structure Tab where
 id:Nat
 c:List Value
 e:TypeId
def Xc (G:Nat) (tabs:List Tab):Qa:=⟨G,tabs.foldr (λt tr=>tr.set t.id (some (.cells t.c t.e true))) .nil⟩
theorem Ya {G:Nat}:∀ {tabs:List Tab} {id:Nat} {b:Blk},(Xc G tabs).get id=some b->∃t∈tabs,id=t.id∧b=.cells t.c t.e true
 | [],id,b,h=>by cases h
 | t::ts,id,b,h=>by
  have h:((Xc G ts).tr.set t.id (some (.cells t.c t.e true))).get id=some b:=h;rw[Tr.get_set]at h
  by_cases e:id=t.id
  ·rw[Lc e]at h;cases h;exact⟨t,Ny ..,e,rfl⟩
  ·rw[Le e]at h;obtain⟨t',h1,h2,h3⟩:=Ya (G:=G) (tabs:=ts) (id:=id) (b:=b) h;exact⟨t',NA _ h1,h2,h3⟩
def tabsOk (tabs:List Tab):Bool:=tabs.all λt=>t.c.all plain
theorem Qz0 {G:Nat} {tabs:List Tab} (h:tabsOk tabs=true):QDh G (Xc G tabs):=
 ⟨rfl,λid b hb=>by
  obtain⟨t,h1,_,h3⟩:=Ya hb;exact⟨t.c,t.e,h3,Li.1 h t h1⟩⟩
def QDi (t:Tab) (b:Option Blk):Bool:=
 match b with
 | some (.cells c e true)=>Nat.beq e t.e&&Kd (Qa7 8) c t.c
 | _=>false
def Qbi (tabs:List Tab) (H:Qa):Bool:=tabs.all λt=>QDi t (H.get t.id)
theorem QiN {G:Nat} {tabs:List Tab} {H:Qa} (h:Qbi tabs H=true):∀id b,(Xc G tabs).get id=some b->H.get id=some b:=λid b hb=>by
 obtain⟨t,h1,h2,h3⟩:=Ya hb;have:=Li.1 h t h1;subst h2;subst h3;unfold QDi at this;split at this
 ·rename_i c e hg;simp only[Lm,Y2,Lv]at this;rw[hg,this.1,Qhh (Kk 8) _ _ this.2]
 ·cases this
def QrC:List Row->Bool
 | r::r'::rs=>Nat.blt r.src r'.src&&QrC (r'::rs)
 | _=>true
theorem QaZ:∀ (rs:List Row),QrC rs=true->∀ (j k:Nat) (r r':Row),rs[j]? = some r->rs[k]? = some r'->j<k->r.src<r'.src
 | [],_,j,k,r,r',h,_,_=>by simp at h
 | [x],_,j,k,r,r',h,h',hjk=>by
  have:=(Lk.1 h').1;simp at this;omega
 | x::y::rs,hr,j,k,r,r',h,h',hjk=>by
  simp only[QrC,Lm,B5]at hr;cases k with
  | zero=>omega
  | succ k=>
   have hk:(y::rs)[k]? = some r':=by simpa using h'
   cases j with
   | zero=>
    simp at h;subst h;cases k with
    | zero=>simp at hk;subst hk;exact hr.1
    | succ k=>exact Nat.lt_trans hr.1 (QaZ (y::rs) hr.2 0 (k+1) y r' (by simp) hk (by omega))
   | succ j=>exact QaZ (y::rs) hr.2 j k r r' (by simpa using h) hk (by omega)
def QvJ (G:Nat) (σ:Nat->Option Nat) (H1:Qa) (r:Row):Bool:=
 Nat.ble G r.src&&r.c.all (okD 6)&&match H1.get r.src with
  | some (.cells c1 e ro)=>Nat.beq e r.e&&(ro==r.ro)&&Kd (mtV σ 6) c1 r.c
  | _=>false
def Qmv (G:Nat) (u:Value) (rs:List Row) (r:Option (Value×Qa)):Bool:=
 match r with
 | some (v,H1)=>mtV (Qas G rs) 6 v u&&okD 6 u&&QrC rs&&rs.all (QvJ G (Qas G rs) H1)
 | none=>false
theorem Qtu {P:Program} {known:CallF} (hk:CallOk P known) {F G k:Nat} {f:FuncId} {args:List Value} {tabs:List Tab} {u:Value} {rs:List Row} (he:entered P f=true) (ha:args.all XA=true) (ht:tabsOk tabs=true)
  (h:Qmv P.globals.size u rs ((run P known F G k).fn f args (Xc P.globals.size tabs))=true) (H:Qa) (hH:Qbi tabs H=true):
  Qa3 P f args H (.ret (shV P.globals.size (H.next - P.globals.size) 6 u)) (QmW P.globals.size rs H):=by
 unfold Qmv at h;split at h
 ·rename_i v H1 hr;simp only[Lm]at h;obtain⟨⟨⟨h1,h2⟩,h3⟩,h4⟩:=h;refine QFl (Qz0 ht) (((Qdn hk k).fn f args _ v H1 hr).does he) ha h1 h2 ⟨λj r hj=>?_,λj m r r' hj hm hne=>?_⟩ H (QiN hH)
  ·have:=Li.1 h4 r (Ln hj);unfold QvJ at this;simp only[Lm,BL]at this;obtain⟨⟨g1,g2⟩,g3⟩:=this;refine⟨g1,g2,?_⟩;split at g3
   ·rename_i c1 e ro hg;simp only[Lm,Y2,Lv,L0]at g3;exact⟨c1,by rw[hg,g3.1.1,g3.1.2],g3.2⟩
   ·cases g3
  ·rcases Nq j m with hlt | hge
   ·have:=QaZ rs h3 j m r r' hj hm hlt;omega
   ·have:=QaZ rs h3 m j r' r hm hj (by omega);omega
 ·cases h
structure QB8 where
 f:FuncId
 args:List Value
 u:Value
 rs:List Row
def QFm (P:Program) (tabs:List Tab) (s:QB8):Prop:=
 entered P s.f=true∧∀H,Qbi tabs H=true->Qa3 P s.f s.args H (.ret (shV P.globals.size (H.next - P.globals.size) 6 s.u)) (QmW P.globals.size s.rs H)
def QrD (G:Nat) (tabs:List Tab) (f:FuncId) (args:List Value) (H:Qa):List QB8->Option (Value×Qa)
 | []=>none
 | s::ss=>bif Nat.beq f s.f&&Kd (Qa7 8) args s.args&&Qbi tabs H then some (shV G (H.next - G) 6 s.u,QmW G s.rs H) else QrD G tabs f args H ss
theorem QqJ {P:Program} {tabs:List Tab}:∀ {ss:List QB8},(∀s∈ss,QFm P tabs s)->CallOk P (λf args H=>QrD P.globals.size tabs f args H ss)
 | [],_,f,args,H,v,H',h=>by cases h
 | s::ss,hs,f,args,H,v,H',h=>by
  simp only[QrD]at h;cases hc:(Nat.beq f s.f&&Kd (Qa7 8) args s.args&&Qbi tabs H) with
  | false=>
   rw[hc]at h;exact QqJ (ss:=ss) (λs' h'=>hs s' (NA _ h')) f args H v H' h
  | true=>
   rw[hc]at h;simp only[Lq,Lt,LB]at h;obtain⟨rfl,rfl⟩:=h;simp only[Lm,Y2,Lv]at hc;obtain⟨⟨e1,e2⟩,e3⟩:=hc;obtain⟨g1,g2⟩:=hs s (Ny ..);subst e1;rw[Qhh (Kk 8) _ _ e2];exact .inl ⟨g1,g2 H e3⟩
def KB (a b:CallF):CallF:=λf args H=>Option.rec (motive:=λ_=>Option (Value×Qa)) (b f args H) some (a f args H)
theorem orKnown_ok {P:Program} {a b:CallF} (ha:CallOk P a) (hb:CallOk P b):CallOk P (KB a b):=by
 intro f args H v H' h;unfold KB at h;cases he:a f args H with
 | some r=>rw[he]at h;cases h;exact ha f args H v H' he
 | none=>rw[he]at h;exact hb f args H v H' h
end Go.Ab
namespace Go.Ab
open Go.RowKit
section
variable {P:Program}
def globR (P:Program):Ren:=λg=>if g<P.globals.size then some ⟨⟨g,0,none⟩,0,0⟩ else none
def H0 (P:Program):Qa:=⟨P.globals.size,.nil⟩
theorem QD6 (P:Program) (id:Nat):(H0 P).get id=none:=rfl
theorem St.below {ρ ρ':Ren} {H H':Qa} {w w':World} (h:St ρ H w ρ' H' w') (hro:∀id b,H.get id=some b->b.ro=true):Below w.heap.size w w':=
 ⟨h.os,h.tape,h.output,h.size,λb hb=>h.frame b hb (λid i bl _ h2 h3=>by rw[hro id bl h2]at h3;cases h3)⟩
theorem Qtv {f:FuncId} {args:List Value} {v:Value} {H1:Qa} (hd:Qa3 P f args (H0 P) (.ret v) H1) (ha:args.all plain=true) (hv:plain v=true) (H:Qa):Qa3 P f args H (.ret v) H:=by
 intro ρ w args' hs hargs;have hargs':VL (We ρ P.globals.size) args args':=⟨hargs.1,λj x x' e e'=>by
  have hp:plain x=true:=Li.1 ha x (Ln e);rw[(hargs.2 j x x' e e').plain_eq hp];exact .same x hp⟩
 have hsim:Sim P (We ρ P.globals.size) (H0 P) w:=Sim.empty (λid j h=>(WX h).1) (λg hg=>by
  obtain⟨j,hj,e⟩:=hs.glob g hg;exact⟨j,XY hg hj,e⟩)
 refine(hd _ w args' hsim hargs').mono ?_;rintro e w' ⟨ρ',ho,hst,hs'⟩;have hbel:=hst.below (λid b h=>by rw[QD6]at h;cases h);refine⟨ρ,?_,⟨.refl ρ,Lb _,λ_ _ _ h=>h,λ_ _ b b' _ h hr h'=>(by rw[h]at h';cases h';exact hr),λid i h h'=>(by rw[h']at h;cases h),hbel.os,hbel.tape,hbel.output,hbel.size,λb hb _=>hbel.block b hb⟩,
  ⟨hs.dom,λid b i h h'=>(hs.live id b i h h').mono (.refl ρ) (hbel.block _ (hs.live id b i h h').lt),hs.sep,hs.glob⟩⟩
 cases e with
 | returned v'=>
  have:v'=v:=V.plain_eq ho hv;subst this;exact .same _ hv
 | _=>exact ho.elim
theorem QpI {f:FuncId} {args args':List Value} {v:Value} {H H':Qa} (hd:Qa3 P f args H (.ret v) H') {ρ:Ren} {w:World} (hs:Sim P ρ H w) (ha:VL ρ args args') (hv:plain v=true) (hro:∀id b,H.get id=some b->b.ro=true):
  Calls P f args'.toArray w λe w'=>e=.returned v∧Below w.heap.size w w':=by
 refine(hd ρ w args' hs ha).mono ?_;rintro e w' ⟨ρ',ho,hst,hs'⟩;refine⟨?_,hst.below hro⟩;cases e with
 | returned v'=>rw[V.plain_eq ho hv]
 | _=>exact ho.elim
theorem sim_tabs {tabs:List Tab} {w:World} (hb:∀t∈tabs,t.id<w.heap.size) (hc:∀t∈tabs,∀ (j:Nat) v,t.c[j]? = some v->w.cell? ⟨t.id,j,none⟩=some v) (hp:tabsOk tabs=true):
  Sim P (globR P) (Xc P.globals.size tabs) w:=by
 refine⟨λid j h=>(by unfold globR at h;split at h;(assumption);cases h),λid b i hg hi=>?_,λid1 id2 b1 b2 i1 i2 h1 h2 h3 h4 h5=>?_,λg hg=>⟨_,(by unfold globR;rw[Lc hg]),rfl⟩⟩
 ·obtain⟨t,h1,rfl,rfl⟩:=Ya hg;unfold globR at hi;split at hi
  ·cases hi;refine⟨hb t h1,λj v hj=>⟨v,?_,.same v (Li.1 (Li.1 hp t h1) v (Ln hj))⟩⟩;rw[Vo,LP];exact hc t h1 j v hj
  ·cases hi
 ·obtain⟨t,_,_,rfl⟩:=Ya h1;cases h5
theorem post_below {H:Type} {enc:TypeId×Value->H} {f:Func} {s:ChangeSpec} {fresh handsOn:Bool} {W W':World} {args:Array Value} {v:Value} {ds gs:List (DataW H)} {before pa pv:List MemPlace}
  (hW:DataW.Whole enc P f.params.toList s.vars false W args.toList ds gs before)
  (hres:∀ (b:Nat) (sp:Nat->Bool) (hd:Bool),DataW.TrodAll enc P W' b sp hd f.resultTypes.toList (v.resultList f.resultTypes.size) (s.fn H (ds++gs)).results [])
  (hargs:DataW.TrodAll enc P W' 0 (λb=>decide (b<W.heap.size)) true f.params.toList args.toList (s.fn H (ds++gs)).args pa)
  (hvars:DataW.TrodVars enc P W' (λb=>decide (b<W.heap.size)) s.vars (s.fn H (ds++gs)).vars pv) (hb:Below W.heap.size W W'):
  s.post enc P f false fresh handsOn false W args v W':=by
 refine⟨ds,gs,before,[],pa,pv,hW,hres _ _ _,hargs,hvars,⟨hb.os,hb.output,λi hi=>?_⟩,λh=>by cases h⟩;rw[hb.block i hi];cases hx:W.heap[i]? with
 | none=>simp
 | some o=>cases o<;>simp
end
def back (ρ:Ren) (τ:Nat->Nat) (n:Nat):Ren:=λid=>if id<n then ρ (τ id) else none
theorem Qdw {ρ:Ren} {τ:Nat->Nat} {n id:Nat} {i:Zc} (h:back ρ τ n id=some i):id<n∧ρ (τ id)=some i:=by
 unfold back at h;split at h
 ·rename_i hl;exact⟨hl,h⟩
 ·cases h
def QeO (τ:Nat->Nat) (n:Nat) (x y:Value):Prop:=∀ρ v,V ρ y v->V (back ρ τ n) x v
theorem QeO.plain {τ:Nat->Nat} {n:Nat} {x:Value} (h:plain x=true):QeO τ n x x:=λρ v hv=>by
 rw[hv.plain_eq h];exact .same x h
theorem QeO.slice {τ:Nat->Nat} {n id o l c:Nat} (h:id<n):QeO τ n (.slice (some ⟨id,o,none⟩) l c) (.slice (some ⟨τ id,o,none⟩) l c):=λρ v hv=>by
 cases hv with
 | same _ hp=>simp[Ab.plain]at hp
 | slice _ _ _ _ cap' i a' h0 h1 h2 h3 h4 h5=>exact .slice id o l c cap' i a' (by unfold back;rw[Lc h];exact h0) h1 h2 h3 h4 h5
theorem QeO.ptr {τ:Nat->Nat} {n id o:Nat} (h:id<n):QeO τ n (.pointer (some ⟨id,o,none⟩)) (.pointer (some ⟨τ id,o,none⟩)):=λρ v hv=>by
 cases hv with
 | same _ hp=>simp[Ab.plain]at hp
 | ptr _ _ i h0=>exact .ptr id o i (by unfold back;rw[Lc h];exact h0)
theorem QeO.agg {τ:Nat->Nat} {n:Nat} {xs ys:List Value} (hl:xs.length=ys.length) (h:∀ (j:Nat) x y,xs[j]? = some x->ys[j]? = some y->QeO τ n x y):QeO τ n (.agg xs.toArray) (.agg ys.toArray):=λρ v hv=>by
 cases hv with
 | same _ hp=>simp[Ab.plain]at hp
 | agg _ vs h1 h2=>
  refine .agg _ vs (by simpa[hl] using h1) λj x x' hx hx'=>?_;have hj:j<ys.length:=by
   have:=(Nj.1 hx).1;simp at this;omega
  exact h j x ys[j] (by simpa using hx) (La hj) ρ x' (h2 j _ x' (by simp[hj]) hx')
def shW (sh:Nat->Nat):Nat->Value->Value
 | 0,v=>v
 | f+1,v=>match v with
  | .pointer (some a)=>.pointer (some ⟨sh a.block,a.off,a.spot⟩)
  | .slice (some a) l c=>.slice (some ⟨sh a.block,a.off,a.spot⟩) l c
  | .map (some r)=>.map (some (sh r))
  | .iface t v=>.iface t (shW sh f v)
  | .agg xs=>.agg (xs.toList.map (shW sh f)).toArray
  | .tuple xs=>.tuple (xs.toList.map (shW sh f)).toArray
  | .func fn xs ys=>.func fn (xs.toList.map (shW sh f)).toArray (ys.toList.map (shW sh f)).toArray
  | v=>v
theorem QqK (sh:Nat->Nat):∀ (f:Nat) (v:Value),plain v=true->shW sh f v=v
 | 0,v,_=>rfl
 | f+1,v,h=>by
  unfold shW;split<;>first | (simp[plain]at h;done) | rfl
theorem QFn {ρ ρ':Ren} {sh:Nat->Nat} (hr:∀id i,ρ id=some i->ρ' (sh id)=some i):∀ (f:Nat) {v v':Value},V ρ v v'->okD f v=true->V ρ' (shW sh f v) v':=by
 intro f
 induction f with
 | zero=>
  intro v v' h hk;rw[h.plain_eq hk];exact .same _ hk
 | succ f ih=>
  intro v v' h hk;have arr:∀ (xs xs':Array Value),xs.size=xs'.size->(∀ (j:Nat) x x',xs[j]? = some x->xs'[j]? = some x'->V ρ x x')->xs.toList.all (okD f)=true->
    (xs.toList.map (shW sh f)).toArray.size=xs'.size∧∀ (j:Nat) x x',(xs.toList.map (shW sh f)).toArray[j]? = some x->xs'[j]? = some x'->V ρ' x x':=by
   intro xs xs' h1 h2 h3;refine⟨by simp[h1],λj x x' e e'=>?_⟩;simp only[List.getElem?_toArray,LD,Bl,Lx]at e;obtain⟨y,hy,rfl⟩:=e;exact ih (h2 j y x' hy e') (Li.1 h3 y (by simpa using BB hy))
  cases h with
  | same v hp=>rw[QqK sh (f+1) v hp];exact .same v hp
  | ptr id off i h=>exact .ptr _ off i (hr id i h)
  | slice id off len cap cap' i a' h h1 h2 h0 h3 h4=>exact .slice _ off len cap cap' i a' (hr id i h) h1 h2 h0 h3 h4
  | map id i h=>exact .map _ i (hr id i h)
  | func fn xs ys xs' ys' hn h1 h2 h3 h4=>
   simp only[okD,Lm]at hk;obtain⟨p1,p2⟩:=arr xs xs' h1 h3 hk.1.2;obtain⟨q1,q2⟩:=arr ys ys' h2 h4 hk.2;exact .func fn _ _ xs' ys' hn p1 q1 p2 q2
  | yield l i h=>simp[okD,QaD]at hk
  | iface t v v' h=>exact .iface t _ v' (ih h hk)
  | agg xs xs' h1 h2=>
   obtain⟨p1,p2⟩:=arr xs xs' h1 h2 hk;exact .agg _ xs' p1 p2
  | tuple xs xs' h1 h2=>
   obtain⟨p1,p2⟩:=arr xs xs' h1 h2 hk;exact .tuple _ xs' p1 p2
def Row.blkW (sh:Nat->Nat) (r:Row):Blk:=.cells (r.c.map (shW sh 6)) r.e r.ro
def KD (sh:Nat->Nat):List Row->Qa->Qa
 | [],H=>H
 | r::rs,H=>KD sh rs (H.push (r.blkW sh))
theorem QeP {sh:Nat->Nat}:∀ (rs:List Row) (H:Qa),(KD sh rs H).next=H.next+rs.length
 | [],H=>rfl
 | r::rs,H=>by simp only[KD,QeP rs,Qe,Lo];omega
theorem Qdx {sh:Nat->Nat}:∀ (rs:List Row) (H:Qa) (id:Nat),(KD sh rs H).get id=if H.next<=id∧id<H.next+rs.length then(rs[id - H.next]?).map (Row.blkW sh) else H.get id
 | [],H,id=>by simp only[KD,L9];rw[Le (by omega)]
 | r::rs,H,id=>by
  simp only[KD,Qdx rs,Qe,Lo,Qd]
  by_cases h1:id=H.next
  ·subst h1;rw[Le (by omega),Lc rfl,Lc ⟨by omega,by omega⟩];simp
  ·by_cases h2:H.next+1<=id∧id<H.next+1+rs.length
   ·rw[Lc h2,Lc ⟨by omega,by omega⟩,show id - H.next=(id - (H.next+1))+1 by omega];simp
   ·rw[Le h2,Le h1,Le (by omega)]
def shM (τ:Nat->Nat) (M n id:Nat):Nat:=bif Nat.blt id M then τ id else n+(id - M)
def QeQ (τ:Nat->Nat) (M b:Nat):Option Nat:=bif Nat.blt b M then some (τ b) else none
theorem Qhp (a b:Nat):Nat.blt a b=decide (a<b):=by
 cases hb:Nat.blt a b with
 | false=>
  by_cases h:a<b
  ·have:Nat.blt a b=true:=by simpa using h
   rw[hb]at this;cases this
  ·simp[h]
 | true=>simp only[B5]at hb;simp[hb]
theorem Qtw {ρ:Ren} {τ:Nat->Nat} {n a b:Nat} {i:Zc} (h:QeQ τ n b=some a) (h':ρ a=some i):back ρ τ n b=some i:=by
 unfold QeQ at h;rw[Qhp]at h;unfold back
 by_cases hb:b<n
 ·simp only[hb,Nf,Lq,Lt]at h;rw[Lc hb,h];exact h'
 ·simp only[hb,NE,Ls]at h;cases h
theorem QB9 {τ:Nat->Nat} {n f:Nat} {x y:Value} (h:mtV (QeQ τ n) f y x=true):QeO τ n x y:=λρ v hv=>Qw0 (λa b i=>Qtw) f h hv
theorem QD7 {P:Program} {f:FuncId} {args args2:List Value} {v u:Value} {B H1:Qa} {τ:Nat->Nat} (hd:Qa3 P f args B (.ret v) H1) (hg:P.globals.size<=B.next) (hτ:∀g,g<P.globals.size->τ g=g)
  {rs:List Row} (hv:mtV (Qas B.next rs) 6 v u=true) (hu:okD 6 u=true) (hrs:QvI B.next H1 rs) (H:Qa)
  (hB:∀id b,B.get id=some b->∃c e c2 e2 ro,b=.cells c e true∧H.get (τ id)=some (.cells c2 e2 ro)∧c.length=c2.length∧∀ (j:Nat) x y,c[j]? = some x->c2[j]? = some y->QeO τ B.next x y)
  (ha:Kd (mtV (QeQ τ B.next) 6) args2 args=true):
  Qa3 P f args2 H (.ret (shW (shM τ B.next H.next) 6 u)) (KD (shM τ B.next H.next) rs H):=by
 intro ρ w args' hs hargs;have hbk:=λa b i=>Qtw (ρ:=ρ) (τ:=τ) (n:=B.next) (a:=a) (b:=b) (i:=i);obtain⟨hal,hav⟩:=Qdu ha;have hargs':VL (back ρ τ B.next) args args':=⟨by rw[<- hal];exact hargs.1,λj x x' e e'=>by
  have hj:j<args2.length:=by have:=(Lk.1 e).1;omega
  exact Qw0 hbk 6 (hav j args2[j] x (La hj) e) (hargs.2 j _ x' (La hj) e')⟩
 have hnro:∀id b,B.get id=some b->b.ro=true:=λid b h=>by obtain⟨c,e,c2,e2,ro,rfl,_⟩:=hB id b h;rfl
 have hsim:Sim P (back ρ τ B.next) B w:=by
  refine⟨λid j h=>(Qdw h).1,λid b i hb hi=>?_,λid1 id2 b1 b2 i1 i2 h1 h2 h3 h4 h5=>?_,λg hgl=>?_⟩
  ·obtain⟨c,e,c2,e2,ro,rfl,hh,hc,hx⟩:=hB id b hb;have hr:=hs.live _ _ i hh (Qdw hi).2;refine⟨hr.lt,λj u hj=>?_⟩;have hj2:j<c2.length:=by have:=(Lk.1 hj).1;omega
   obtain⟨u',h1,h2⟩:=hr.cellAt (La hj2);exact⟨u',h1,hx j u c2[j] hj (La hj2) ρ u' h2⟩
  ·rw[hnro id1 b1 h1]at h5;cases h5
  ·obtain⟨j,hj,e⟩:=hs.glob g hgl;refine⟨j,?_,e⟩;unfold back;rw[Lc (by omega),hτ g hgl];exact hj
 refine(hd _ w args' hsim hargs').mono ?_;rintro e w' ⟨ρ1,ho,hst,hs1⟩;have hsame:∀b,b<w.heap.size->w'.heap[b]? = w.heap[b]? := λb hb=>hst.frame b hb (λid i bl _ h2 h3=>by rw[hnro id bl h2]at h3;cases h3);have hnew:∀id i,ρ1 id=some i->B.next<=id->w.heap.size<=i.at_.block:=λid i h hid=>by
  have hn:back ρ τ B.next id=none:=by unfold back;rw[Le (by omega)]
  rcases(hst.fresh id i h hn).2 with h | ⟨id0,i0,b0,_,_,h3,h4⟩
  ·exact h
  ·rw[hnro id0 b0 h3]at h4;cases h4
 generalize hM:B.next=M at *;have hsh:∀id,shM τ M H.next id=if id<M then τ id else H.next+(id - M):=λid=>by
  unfold shM;rw[Qhp];by_cases h:id<M<;>simp[h]
 let ρc:Ren:=λb=>(Qas M rs b).bind ρ1
 let ρ':Ren:=λid=>if id<H.next then ρ id else ρc (M+(id - H.next))
 have hc1:∀a b i,Qas M rs b=some a->ρ1 a=some i->ρc b=some i:=λa b i h h'=>by simp only[ρc,h,R8,h']
 have hcin:∀b i,ρc b=some i->M<=b->∃r,rs[b - M]? = some r∧ρ1 r.src=some i:=λb i h hb=>by
  simp only[ρc,Qas,Qhp,show ¬b<M by omega,NE,Ls]at h;cases hr:rs[b - M]? with
  | none=>rw[hr]at h;cases h
  | some r=>rw[hr]at h;exact⟨r,rfl,h⟩
 have hmap:∀b i,ρc b=some i->ρ' (shM τ M H.next b)=some i:=λb i h=>by
  rw[hsh]
  by_cases hb:b<M
  ·simp only[hb,N3,ρ'];simp only[ρc,Qas,Qhp,hb,Nf,Lq,R8]at h;cases hk:back ρ τ M b with
   | none=>
    have:=(hst.fresh b i h hk).1;omega
   | some i0=>
    have:=hst.mono b i0 hk;rw[h]at this;cases this;have h2:=(Qdw hk).2;rw[Lc (hs.dom _ _ h2)];exact h2
  ·simp only[hb,LN,ρ'];rw[Le (by omega),show M+(H.next+(b - M) - H.next)=b by omega];exact h
 have hval:∀ {x y z:Value},mtV (Qas M rs) 6 x y=true->okD 6 y=true->V ρ1 x z->V ρ' (shW (shM τ M H.next) 6 y) z:=λh1 h2 h3=>QFn hmap 6 (Qw0 hc1 6 h1 h3) h2;have hsub:Sub ρ ρ':=λid i h=>by
  simp only[ρ'];rw[Lc (hs.dom id i h)];exact h
 have hget:∀id,(KD (shM τ M H.next) rs H).get id=if H.next<=id∧id<H.next+rs.length then(rs[id - H.next]?).map (Row.blkW (shM τ M H.next)) else H.get id:=λid=>Qdx rs H id
 have hnext:(KD (shM τ M H.next) rs H).next=H.next+rs.length:=QeP rs H;have hhigh:∀id i,ρ' id=some i->H.next<=id->∃r,rs[id - H.next]? = some r∧ρ1 r.src=some i:=λid i hi hid=>by
  simp only[ρ']at hi;rw[Le (by omega)]at hi;have:=hcin _ i hi (by omega);rwa [show M+(id - H.next) - M=id - H.next by omega]at this
 have hlow:∀id i,ρ' id=some i->id<H.next->ρ id=some i:=λid i hi hid=>by
  simp only[ρ']at hi;rwa [Lc hid]at hi
 have hgl:∀id,id<H.next->(KD (shM τ M H.next) rs H).get id=H.get id:=λid hid=>by rw[hget,Le (by omega)]
 have hgh:∀id r,H.next<=id->rs[id - H.next]? = some r->(KD (shM τ M H.next) rs H).get id=some (r.blkW (shM τ M H.next)):=λid r hid hr=>by
  have:=(Lk.1 hr).1;rw[hget,Lc ⟨hid,by omega⟩,hr];rfl
 refine⟨ρ',?_,⟨hsub,by rw[hnext];omega,λid i h h'=>?_,λid i b b' h h1 h2 h3=>?_,λid i h h'=>?_,hst.os,hst.tape,hst.output,hst.size,λb hb _=>hsame b hb⟩,
  ⟨λid i h=>?_,λid b i hb hi=>?_,λid1 id2 b1 b2 i1 i2 h1 h2 h3 h4 h5 h6=>?_,λg hg=>?_⟩⟩
 ·cases e with
  | returned v'=>exact hval hv hu ho
  | _=>exact ho.elim
 ·rw[hgl id (hs.dom id i h)];exact h'
 ·rw[hgl id (hs.dom id i h),h1]at h3;cases h3;exact h2
 ·have hid:H.next<=id:=by
   rcases Nq id H.next with hlt | hge
   ·rw[hlow id i h hlt]at h';cases h'
   ·exact hge
  obtain⟨r,hr,hr1⟩:=hhigh id i h hid;exact⟨hid,.inl (hnew r.src i hr1 (hrs.row _ r hr).1)⟩
 ·rw[hnext];rcases Nq id H.next with hlt | hge
  ·omega
  ·obtain⟨r,hr,_⟩:=hhigh id i h hge;have:=(Lk.1 hr).1;omega
 ·rcases Nq id H.next with hlt | hge
  ·rw[hgl id hlt]at hb;have hr:=hs.live id b i hb (hlow id i hi hlt);exact hr.mono hsub (hsame _ hr.lt)
  ·obtain⟨r,hr,hr1⟩:=hhigh id i hi hge;rw[hgh id r hge hr]at hb;cases hb;obtain⟨g1,g2,c1,g3,g4⟩:=hrs.row _ r hr;obtain⟨q1,q2⟩:=Qdu g4;refine(hs1.live r.src _ i g3 hr1).turn (by simp[q1]) λj x y z hx hy hz=>?_;simp only[LD,Lx]at hy;obtain⟨y0,hy0,rfl⟩:=hy;exact hval (q2 j x y0 hx hy0) (Li.1 g2 y0 (Ln hy0)) hz
 ·have old:∀id b i,id<H.next->(KD (shM τ M H.next) rs H).get id=some b->ρ' id=some i->i.at_.block<w.heap.size:=λid b i hlt hb hi=>by
   rw[hgl id hlt]at hb;exact(hs.live id b i hb (hlow id i hi hlt)).lt
  have new:∀id i,H.next<=id->ρ' id=some i->w.heap.size<=i.at_.block:=λid i hge hi=>by
   obtain⟨r,hr,hr1⟩:=hhigh id i hi hge;exact hnew r.src i hr1 (hrs.row _ r hr).1
  rcases Nq id1 H.next with l1 | l1<;>rcases Nq id2 H.next with l2 | l2
  ·rw[hgl id1 l1]at h1;rw[hgl id2 l2]at h2;exact hs.sep id1 id2 b1 b2 i1 i2 h1 h2 (hlow id1 i1 h3 l1) (hlow id2 i2 h4 l2) h5 h6
  ·have a1:=old id1 b1 i1 l1 h1 h3;have a2:=new id2 i2 l2 h4;omega
  ·have a1:=new id1 i1 l1 h3;have a2:=old id2 b2 i2 l2 h2 h4;omega
  ·obtain⟨r,hr,hr1⟩:=hhigh id1 i1 h3 l1;obtain⟨r',hr',hr1'⟩:=hhigh id2 i2 h4 l2;rw[hgh id1 r l1 hr]at h1;rw[hgh id2 r' l2 hr']at h2;cases h1;cases h2;obtain⟨_,_,c1,g3,_⟩:=hrs.row _ r hr;obtain⟨_,_,c2,g4,_⟩:=hrs.row _ r' hr';exact hs1.sep r.src r'.src _ _ i1 i2 g3 g4 hr1 hr1' h5 (hrs.inj _ _ r r' hr hr' (by omega))
 ·obtain⟨j,hj,e⟩:=hs.glob g hg;exact⟨j,hsub _ _ hj,e⟩
/-! ### Known calls -/
structure SumI where
 f:FuncId
 args:List Value
 ins:List (List Value×TypeId)
 u:Value
 rs:List Row
def Qcb (H:Qa):List (List Value×TypeId)->Qa
 | []=>H
 | c::cs=>Qcb (H.push (.cells c.1 c.2 true)) cs
theorem QjS:∀ (l:List (List Value×TypeId)) (H:Qa),(Qcb H l).next=H.next+l.length
 | [],H=>rfl
 | c::cs,H=>by simp only[Qcb,QjS cs,Qe,Lo];omega
theorem Qmw:∀ (l:List (List Value×TypeId)) (H:Qa) (id:Nat) (b:Blk),(Qcb H l).get id=some b->H.get id=some b∨∃k c,l[k]? = some c∧id=H.next+k∧b=.cells c.1 c.2 true
 | [],H,id,b,h=>.inl h
 | c::cs,H,id,b,h=>by
  rcases Qmw cs _ id b h with h | ⟨k,c',h1,h2,h3⟩
  ·rw[Qd]at h
   by_cases hid:id=H.next
   ·rw[Lc hid]at h;cases h;exact .inr ⟨0,c,rfl,hid,rfl⟩
   ·rw[Le hid]at h;exact .inl h
  ·exact .inr ⟨k+1,c',by simpa using h1,by rw[h2,Qe];omega,h3⟩
def Qz1 (g:Value->Value->List (Nat×Nat)->List (Nat×Nat)):List Value->List Value->List (Nat×Nat)->List (Nat×Nat)
 | x::xs,y::ys,l=>Qz1 g xs ys (g x y l)
 | _,_,l=>l
def fnd:Nat->Value->Value->List (Nat×Nat)->List (Nat×Nat)
 | 0,_,_,l=>l
 | f+1,x,y,l=>match x,y with
  | .pointer (some a),.pointer (some b)=>(a.block,b.block)::l
  | .slice (some a) _ _,.slice (some b) _ _=>(a.block,b.block)::l
  | .iface _ x,.iface _ y=>fnd f x y l
  | .agg xs,.agg ys=>Qz1 (fnd f) xs.toList ys.toList l
  | .tuple xs,.tuple ys=>Qz1 (fnd f) xs.toList ys.toList l
  | _,_=>l
def asc:List (Nat×Nat)->Nat->Nat
 | [],_=>0
 | p::l,n=>bif Nat.beq p.1 n then p.2 else asc l n
def Qz2 (H:Qa):List (List Value×TypeId)->Nat->List (Nat×Nat)->List (Nat×Nat)
 | [],_,l=>l
 | c::cs,n,l=>Qz2 H cs (n+1) (match H.get (asc l n) with | some (.cells c' _ _)=>Qz1 (fnd 6) c.1 c' l | _=>l)
def Qom (G:Nat) (s:SumI) (args:List Value) (H:Qa) (id:Nat):Nat:=bif Nat.blt id G then id else asc (Qz2 H s.ins G (Qz1 (fnd 6) s.args args [])) id
def QqL (τ:Nat->Nat) (M:Nat) (H:Qa):List (List Value×TypeId)->Nat->Bool
 | [],_=>true
 | c::cs,n=>(match H.get (τ n) with | some (.cells c' _ _)=>Kd (mtV (QeQ τ M) 6) c' c.1 | _=>false)&&QqL τ M H cs (n+1)
theorem QqM {τ:Nat->Nat} {M:Nat} {H:Qa}:∀ (l:List (List Value×TypeId)) (n:Nat),QqL τ M H l n=true->∀ (k:Nat) c,l[k]? = some c->∃c' e' ro,H.get (τ (n+k))=some (.cells c' e' ro)∧Kd (mtV (QeQ τ M) 6) c' c.1=true
 | [],n,_,k,c,hk=>by simp at hk
 | c0::cs,n,h,k,c,hk=>by
  simp only[QqL,Lm]at h;cases k with
  | zero=>
   simp at hk;subst hk;obtain⟨h,_⟩:=h;split at h
   ·rename_i c' e' ro hg;exact⟨c',e',ro,hg,h⟩
   ·cases h
  | succ k=>
   obtain⟨c',e',ro,h1,h2⟩:=QqM cs (n+1) h.2 k c (by simpa using hk);exact⟨c',e',ro,by rw[show n+(k+1)=n+1+k by omega];exact h1,h2⟩
def SumIOk (P:Program) (tabs:List Tab) (s:SumI):Prop:=
 entered P s.f=true∧∃v H1,Qa3 P s.f s.args (Qcb (Xc P.globals.size tabs) s.ins) (.ret v) H1∧mtV (Qas (P.globals.size+s.ins.length) s.rs) 6 v s.u=true∧okD 6 s.u=true∧QvI (P.globals.size+s.ins.length) H1 s.rs
theorem sumI_ok {P:Program} {known:CallF} (hk:CallOk P known) {F G k:Nat} {tabs:List Tab} {s:SumI} (he:entered P s.f=true)
  (h:Qmv (P.globals.size+s.ins.length) s.u s.rs ((run P known F G k).fn s.f s.args (Qcb (Xc P.globals.size tabs) s.ins))=true):SumIOk P tabs s:=by
 unfold Qmv at h;split at h
 ·rename_i v H1 hr;simp only[Lm]at h;obtain⟨⟨⟨h1,h2⟩,h3⟩,h4⟩:=h;refine⟨he,v,H1,((Qdn hk k).fn s.f s.args _ v H1 hr).does he,h1,h2,⟨λj r hj=>?_,λj m r r' hj hm hne=>?_⟩⟩
  ·have:=Li.1 h4 r (Ln hj);unfold QvJ at this;simp only[Lm,BL]at this;obtain⟨⟨g1,g2⟩,g3⟩:=this;refine⟨g1,g2,?_⟩;split at g3
   ·rename_i c1 e ro hg;simp only[Lm,Y2,Lv,L0]at g3;exact⟨c1,by rw[hg,g3.1.1,g3.1.2],g3.2⟩
   ·cases g3
  ·rcases Nq j m with hlt | hge
   ·have:=QaZ _ h3 j m r r' hj hm hlt;omega
   ·have:=QaZ _ h3 m j r' r hm hj (by omega);omega
 ·cases h
theorem SumIOk.does {P:Program} {tabs:List Tab} {s:SumI} (hs:SumIOk P tabs s) (ht:tabsOk tabs=true) {args:List Value} {H:Qa} {τ:Nat->Nat} (hτ:∀g,g<P.globals.size->τ g=g) (htab:∀t∈tabs,t.id<P.globals.size)
  (hH:Qbi tabs H=true) (hi:QqL τ (P.globals.size+s.ins.length) H s.ins P.globals.size=true) (ha:Kd (mtV (QeQ τ (P.globals.size+s.ins.length)) 6) args s.args=true):
  Qa3 P s.f args H (.ret (shW (shM τ (P.globals.size+s.ins.length) H.next) 6 s.u)) (KD (shM τ (P.globals.size+s.ins.length) H.next) s.rs H):=by
 obtain⟨he,v,H1,hd,h1,h2,h3⟩:=hs;have hM:(Qcb (Xc P.globals.size tabs) s.ins).next=P.globals.size+s.ins.length:=QjS _ _;rw[<- hM]at h1 h3 hi ha ⊢;refine QD7 hd (by rw[hM];omega) hτ h1 h2 h3 H (λid b hb=>?_) ha;rcases Qmw _ _ _ _ hb with hb | ⟨k,c,hk,hid,rfl⟩
 ·have hg:=QiN hH id b hb;obtain⟨t,ht1,rfl,rfl⟩:=Ya hb;refine⟨t.c,t.e,t.c,t.e,true,rfl,by rw[hτ _ (htab t ht1)];exact hg,rfl,λj x y hx hy=>?_⟩;rw[hx]at hy;cases hy;exact QeO.plain (Li.1 (Li.1 ht t ht1) x (Ln hx))
 ·obtain⟨c',e',ro,g1,g2⟩:=QqM _ _ hi k c hk;obtain⟨q1,q2⟩:=Qdu g2;exact⟨c.1,c.2,c',e',ro,rfl,by rw[hid];exact g1,q1.symm,λj x y hx hy=>QB9 (q2 j y x hy hx)⟩
def Qnt (G:Nat) (tabs:List Tab) (f:FuncId) (args:List Value) (H:Qa):List SumI->Option (Value×Qa)
 | []=>none
 | s::ss=>bif Nat.beq f s.f&&(Kd (mtV (QeQ (Qom G s args H) (G+s.ins.length)) 6) args s.args&&(Qbi tabs H&&QqL (Qom G s args H) (G+s.ins.length) H s.ins G)) then
   some (shW (shM (Qom G s args H) (G+s.ins.length) H.next) 6 s.u,KD (shM (Qom G s args H) (G+s.ins.length) H.next) s.rs H) else Qnt G tabs f args H ss
theorem Qon {P:Program} {tabs:List Tab} (ht:tabsOk tabs=true) (htab:∀t∈tabs,t.id<P.globals.size) {f:FuncId} {args:List Value} {H:Qa} {v:Value} {H':Qa}:∀ {ss:List SumI},(∀s∈ss,SumIOk P tabs s)->Qnt P.globals.size tabs f args H ss=some (v,H')->
  entered P f=true∧Qa3 P f args H (.ret v) H'
 | [],_,h=>by cases h
 | s::ss,hs,h=>by
  simp only[Qnt]at h;cases hc:(Nat.beq f s.f&&(Kd (mtV (QeQ (Qom P.globals.size s args H) (P.globals.size+s.ins.length)) 6) args s.args&&(Qbi tabs H&&QqL (Qom P.globals.size s args H) (P.globals.size+s.ins.length) H s.ins P.globals.size))) with
  | false=>
   rw[hc]at h;exact Qon ht htab (ss:=ss) (λs' h'=>hs s' (NA _ h')) h
  | true=>
   rw[hc]at h;simp only[Lq,Lt,LB]at h;obtain⟨rfl,rfl⟩:=h;simp only[Lm,Y2,Lv]at hc;obtain⟨e1,e2,e3,e4⟩:=hc;have hs0:=hs s (Ny ..);subst e1;exact⟨hs0.1,hs0.does ht (λg hg=>by unfold Qom;rw[Qhp];simp[hg]) htab e3 e4 e2⟩
def QrE (G:Nat) (tabs:List Tab) (sel:FuncId->List SumI):CallF:=λf args H=>Qnt G tabs f args H (sel f)
theorem byFn_ok {P:Program} {tabs:List Tab} (ht:tabsOk tabs=true) (htab:∀t∈tabs,t.id<P.globals.size) {sel:FuncId->List SumI} (h:∀f,∀s∈sel f,SumIOk P tabs s):CallOk P (QrE P.globals.size tabs sel):=λf args H v H' e=>by
 obtain⟨h1,h2⟩:=Qon ht htab (h f) e;exact .inl ⟨h1,h2⟩
end Go.Ab
