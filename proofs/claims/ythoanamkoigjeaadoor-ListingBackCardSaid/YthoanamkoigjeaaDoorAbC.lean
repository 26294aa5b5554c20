/- The interpreter: operations, code, functions; what it gives is so. -/
import Derived.Test.YthoanamkoigjeaaDoorAbB
import Derived.Test.YthoanamkoigjeaaDoorAbA
import Derived.ProofKit
import Derived.OpenShut
set_option linter.unusedVariables false
noncomputable section
namespace Go.Ab
abbrev Qd8:=FuncId→List Value→Qa→Option (Value×Qa)
structure Qu where
 fn:Qd8
 yd:Qd8
 pn:Qd8
def WE (H:Qa):Option Value→Option (Cls×Value×Qa)
 | some v=>some (.pure,v,H)
 | none=>none
def Qe0 (P:Program) (k:Bool) (op:BinOp) (t:TypeId) (x y:Value):Option Value:=
 match x,y with
 | .int ik a,.int ik' b=>match op with
  | .shl | .shr=>JQ op ik a b
  | _=>if ik=ik' then Xu op ik a b else none
 | .string a,.string b=>KL op (bl a) (bl b)
 | x,y=>QbQ P k op t x y
def Qgj (P:Program) (call:Qu) (A:Env) (H:Qa) (c x y:Operand):Option (Cls×Value×Qa):=
 match ev A c with
  | .bool t=>some (.pure,bif t then ev A x else ev A y,H)
  | _=>none
def Qbq (P:Program) (call:Qu) (A:Env) (H:Qa) (x:Operand):Option (Cls×Value×Qa):=
 bif Qaf (ev A x) then some (.pure,ev A x,H) else none
def Ky (P:Program) (call:Qu) (A:Env) (H:Qa) (op:BinOp) (t:TypeId) (x y:Operand):Option (Cls×Value×Qa):=
 WE H (Qe0 P (Qak x||Qak y) op t (ev A x) (ev A y))
def Qgk (P:Program) (call:Qu) (A:Env) (H:Qa) (op:UnOp) (x:Operand):Option (Cls×Value×Qa):=
 WE H (QdT op (ev A x))
def JD (P:Program) (call:Qu) (A:Env) (H:Qa) (src dst:TypeId) (x:Operand):Option (Cls×Value×Qa):=
 match P.underlying src,P.underlying dst,ev A x with
  | some _,some (.slice e),.string s=>match P.underlying e,P.info? e with
   | some (.int .u8),some inf=>match inf.zero with
    | some z=>bif VA P e inf z&&Nat.beq inf.size 1&&Nat.ble (bl s).length 140737488355328 then
      some (.alloc (.cells (W0 s) e false),.slice (some ⟨H.next,0,none⟩) (bl s).length (UNK+1),H.push (.cells (W0 s) e false)) else none
    | none=>none
   | _,_=>none
  | some (.slice e),some .string,.slice a m c=>match P.underlying e,Wp 1 (.slice a m c) H with
   | some (.int .u8),some l=>match YJ l with
    | some bs=>some (.gen,.string (mkS bs),H)
    | none=>none
   | _,_=>none
  | some (.pointer t),some .unsafePointer,.pointer (some a)=>match P.info? t,H.get a.block with
   | some j,some (.cells c e false)=>if j.size≠0∧a.off<c.length then some (.gen,.pointer (some a),H) else none
   | _,_=>none
  | some .unsafePointer,some (.pointer u),.pointer (some a)=>match P.info? u,H.get a.block with
   | some j,some (.cells c e false)=>if liesAt P P.depth e (c.length / P.cellsOf e) a.off u 1=true then some (.gen,.pointer (some a),H) else none
   | _,_=>none
  | _,_,_=>WE H (QdB P src dst (ev A x))
def Zb (P:Program) (call:Qu) (A:Env) (H:Qa) (t:TypeId) (x:Operand):Option (Cls×Value×Qa):=
 match P.underlying t with
  | some (.interface _)=>none
  | some _=>some (.pure,.iface t (ev A x),H)
  | none=>none
def Qbr (P:Program) (call:Qu) (A:Env) (H:Qa) (fn:Fn) (first captured:Array Operand):Option (Cls×Value×Qa):=
 bif Gt fn then some (.pure,.func fn (first.map (ev A)) (captured.map (ev A)),H) else none
def QdD (P:Program) (call:Qu) (A:Env) (H:Qa) (t:TypeId) (x:Operand) (f:Nat):Option (Cls×Value×Qa):=
 match P.underlying t,ev A x with
  | some (.struct fs),.agg cs=>match fs[f]? with
   | some fd=>WE H (Gv P fd.type cs fd.offset)
   | none=>none
  | _,_=>none
def Zx (P:Program) (call:Qu) (A:Env) (H:Qa) (t:TypeId) (x:Operand) (f:Nat):Option (Cls×Value×Qa):=
 match P.underlying t,ev A x with
  | some (.struct fs),.pointer (some a)=>match fs[f]? with
   | some fd=>match P.info? fd.type with
    | some inf=>bif Nat.beq inf.size 0 then none else some (.pure,.pointer (some ⟨a.block,a.off+fd.offset,none⟩),H)
    | none=>none
   | none=>none
  | _,_=>none
def Ys (P:Program) (call:Qu) (A:Env) (H:Qa) (t:TypeId) (x ix:Operand):Option (Cls×Value×Qa):=
 match ev A ix with
  | .int _ m=>match P.underlying t,ev A x with
   | some (.slice e),.slice (some a) len _=>match P.info? e with
    | some inf=>if 0≤m∧m<len then some (.pure,.pointer (some ⟨a.block,a.off+m.toNat * inf.size,none⟩),H) else none
    | none=>none
   | some (.array len e),.pointer (some a)=>match P.info? e with
    | some inf=>if 0≤m∧m<len then some (.pure,.pointer (some ⟨a.block,a.off+m.toNat * inf.size,none⟩),H) else none
    | none=>none
   | _,_=>none
  | _=>none
def QdE (P:Program) (call:Qu) (A:Env) (H:Qa) (t:TypeId) (x ix:Operand):Option (Cls×Value×Qa):=
 match ev A ix with
  | .int _ m=>match P.underlying t,ev A x with
   | some .string,.string s=>if 0≤m then(match (bl s)[m.toNat]? with | some b=>some (.pure,.int .u8 b.toNat,H) | none=>none) else none
   | some (.array len e),.agg cs=>match P.info? e with
    | some inf=>if 0≤m∧m<len then WE H (Gv P e cs (m.toNat * inf.size)) else none
    | none=>none
   | _,_=>none
  | _=>none
def QaP (P:Program) (call:Qu) (A:Env) (H:Qa) (x:Operand) (ix:Nat):Option (Cls×Value×Qa):=
 match ev A x with
  | .tuple vs=>WE H vs[ix]?
  | _=>none
def VH (P:Program) (call:Qu) (A:Env) (H:Qa) (x:Operand) (t:TypeId) (ok:Bool):Option (Cls×Value×Qa):=
 WE H (QdC P (ev A x) t ok)
def QdF (P:Program) (call:Qu) (A:Env) (H:Qa) (t:TypeId) (parts:Array (Nat×Operand)):Option (Cls×Value×Qa):=
 match P.underlying t,P.info? t with
  | some (.struct fs),some inf=>match inf.zero,QbP P fs with
   | some z,some pl=>bif z.cells.toList.all plain then WE H ((Gw (pl[·]?) z.cells.toList (Xr A parts)).map fun r=>.agg r.toArray) else none
   | _,_=>none
  | some (.array _ e),some inf=>match inf.zero,P.info? e with
   | some z,some inf'=>bif z.cells.toList.all plain then WE H ((Gw (fun i=>some (i * inf'.size,inf'.size)) z.cells.toList (Xr A parts)).map fun r=>.agg r.toArray) else none
   | _,_=>none
  | _,_=>none
def Kz (P:Program) (call:Qu) (A:Env) (H:Qa) (t:TypeId) (len:Nat) (parts:Array (Nat×Operand)):Option (Cls×Value×Qa):=
 match P.underlying t with
  | some (.slice e)=>match P.info? e with
   | some inf=>match inf.zero with
    | some z=>bif z.cells.toList.all plain&&Nat.blt 0 z.cells.size&&Nat.ble len 16777216&&Nat.ble (len * inf.size) 16777216 then
      match Gw (fun i=>some (i * inf.size,inf.size)) (Xn z.cells (len * inf.size)) (Xr A parts) with
      | some r=>some (.alloc (.cells r e false),.slice (some ⟨H.next,0,none⟩) len len,H.push (.cells r e false))
      | none=>none
     else none
    | none=>none
   | none=>none
  | _=>none
def QdG (P:Program) (call:Qu) (A:Env) (H:Qa) (e:TypeId):Option (Cls×Value×Qa):=
 match P.info? e with
  | some inf=>match inf.zero with
   | some z=>bif z.cells.toList.all plain then some (.alloc (.cells z.cells.toList e false),.pointer (some ⟨H.next,0,none⟩),H.push (.cells z.cells.toList e false)) else none
   | none=>none
  | none=>none
def Qk3 (P:Program) (call:Qu) (A:Env) (H:Qa) (e:TypeId) (x:Operand):Option (Cls×Value×Qa):=
 some (.alloc (.cells (ev A x).cells.toList e false),.pointer (some ⟨H.next,0,none⟩),H.push (.cells (ev A x).cells.toList e false))
def Gy (P:Program) (call:Qu) (A:Env) (H:Qa) (t:TypeId) (x y:Operand):Option (Cls×Value×Qa):=
 match P.underlying t,ev A x,ev A y with
  | some (.slice e),.int .i64 l,.int .i64 c=>match P.info? e with
   | some inf=>match inf.zero with
    | some z=>if VA P e inf z=true∧0≤l∧l≤c∧(inf.bytes:Int) * c≤281474976710656∧c≤9223372036854775807 then
      some (.alloc (.cells (Xn z.cells (c.toNat * inf.size)) e false),.slice (some ⟨H.next,0,none⟩) l.toNat c.toNat,H.push (.cells (Xn z.cells (c.toNat * inf.size)) e false))
     else none
    | none=>none
   | none=>none
  | _,_,_=>none
def QaQ (P:Program) (call:Qu) (A:Env) (H:Qa) (t:TypeId) (x:Operand) (lo hi mx:Option Operand):Option (Cls×Value×Qa):=
 match P.underlying t with
  | some .string=>match ev A x,mx,Qp A lo,Qp A hi with
   | .string s,none,some l,some h=>if 0≤l.getD 0∧l.getD 0≤h.getD (bl s).length∧h.getD (bl s).length≤(bl s).length then some (.pure,.string (mkS (((bl s).drop (l.getD 0).toNat).take ((h.getD (bl s).length).toNat - (l.getD 0).toNat))),H) else none
   | _,_,_,_=>none
  | some (.slice e)=>match P.info? e,Qp A lo,Qp A hi,Qp A mx with
   | some inf,some l,some h,some m=>if m.isNone||h.isSome then WE H (ZL inf.size (ev A x) l h m) else none
   | _,_,_,_=>none
  | some (.array n e)=>match ev A x,mx,Qp A lo,Qp A hi with
   | .pointer (some a),none,some l,some h=>match P.info? e with
    | some inf=>if 0≤l.getD 0∧l.getD 0≤h.getD n∧h.getD n≤n∧n<UNK then some (.pure,.slice (some ⟨a.block,a.off+(l.getD 0).toNat * inf.size,none⟩) ((h.getD n).toNat - (l.getD 0).toNat) (n - (l.getD 0).toNat),H) else none
    | none=>none
   | _,_,_,_=>none
  | _=>none
def Qd9 (P:Program) (call:Qu) (A:Env) (H:Qa) (t:TypeId) (x:Operand):Option (Cls×Value×Qa):=
 match ev A x with
  | .pointer (some a)=>match WZ P t a H with
   | some v=>some (.load,v,H)
   | none=>none
  | _=>none
def QbS (P:Program) (call:Qu) (A:Env) (H:Qa) (t:TypeId) (x y:Operand):Option (Cls×Value×Qa):=
 match ev A x with
  | .pointer (some a)=>match Qbk P t a (ev A y) H with
   | some H'=>some (.gen,undef,H')
   | none=>none
  | _=>none
def Qk4:Value→Bool
 | .int .u8 m=>decide (0≤m)&&decide (m<256)
 | _=>false
def GW (P:Program) (call:Qu) (A:Env) (H:Qa) (c:Call):Option (Cls×Value×Qa):=
 match c with
  | ⟨.builtin b,args,ts⟩=>match b,args.toList,ts.toList with
   | .len,[x],[t]=>match QkL P t (ev A x) with | some m=>some (.pure,.int .i64 (m:Int),H) | none=>none
   | .cap,[x],[t]=>match P.underlying t,ev A x with
    | some (.slice _),.slice _ _ c=>bif Nat.blt c UNK then some (.pure,.int .i64 c,H) else none
    | _,_=>none
   | .max,[x,y],_=>match ev A x,ev A y with
    | .int k a,.int k' b=>if k=k' then some (.pure,.int k (if b>a then b else a),H) else none
    | _,_=>none
   | .min,[x,y],_=>match ev A x,ev A y with
    | .int k a,.int k' b=>if k=k' then some (.pure,.int k (if b<a then b else a),H) else none
    | _,_=>none
   | .append,[x,y],[t,t2]=>match P.underlying t,P.underlying t2 with
    | some (.slice e),some td=>match P.info? e with
     | some inf=>match inf.zero with
      | some z=>bif Qah td&&VA P e inf z then(QaO e inf (ev A x) (ev A y) H).map fun r=>(.gen,r.1,r.2) else none
      | none=>none
     | none=>none
    | _,_=>none
   | .copy,[x,y],[t,_]=>match P.underlying t with
    | some (.slice e)=>match P.info? e with
     | some inf=>(Qjg inf.size (ev A x) (ev A y) H).map fun r=>(.gen,r.1,r.2)
     | none=>none
    | _=>none
   | .unsafeSliceData,[x],_=>match ev A x with
    | .slice none _ _=>some (.pure,.pointer none,H)
    | .slice (some a) m _=>if m≠0 then some (.pure,.pointer (some a),H) else none
    | _=>none
   | .unsafeString,[x,y],[pt,_]=>match ev A x,ev A y with
    | .pointer none,.int .i64 0=>some (.gen,.string (mkS []),H)
    | .pointer (some a),.int .i64 m=>match P.underlying pt,H.get a.block with
     | some (.pointer e),some (.cells c e' false)=>
      if e=e'∧a=⟨a.block,0,none⟩∧P.cellsOf e=1∧0<m∧m.toNat≤c.length∧m≤9223372036854775807∧(c.take m.toNat).all Qk4=true then
       (match YJ (c.take m.toNat) with
       | some bs=>some (.gen,.string (mkS bs),H.set a.block (.cells c e true))
       | none=>none)
      else none
     | _,_=>none
    | _,_=>none
   | _,_,_=>none
  | ⟨.invoke recv name,args,ts⟩=>match ev A recv with
   | .iface t v=>match QbR P t name with
    | some f=>(call.fn f (v::(args.map (ev A)).toList) H).map fun r=>(.gen,r.1,r.2)
    | none=>none
   | _=>none
  | ⟨.value (.func f),args,ts⟩=>(call.fn f (args.map (ev A)).toList H).map fun r=>(.gen,r.1,r.2)
  | ⟨.value c,args,ts⟩=>match ev A c with
   | .func (.func f) xs ys=>(call.fn f (xs.toList++(args.map (ev A)).toList++ys.toList) H).map fun r=>(.gen,r.1,r.2)
   | .func (.yield l) xs ys=>bif Nat.beq xs.size 0&&Nat.beq ys.size 0 then(call.yd l (args.map (ev A)).toList H).map fun r=>(.gen,r.1,r.2) else none
   | _=>none
def Qea (P:Program) (call:Qu) (A:Env) (H:Qa) (t:TypeId) (x ix:Operand) (ok:Bool):Option (Cls×Value×Qa):=
 match P.underlying t with
 | some (.map k e)=>(QkX P k e (ev A x) (ev A ix) ok H).map fun v=>(.gen,v,H)
 | _=>none
def Qfw (P:Program) (call:Qu) (A:Env) (H:Qa) (t:TypeId) (m k x:Operand):Option (Cls×Value×Qa):=
 match P.underlying t with
 | some (.map kt _)=>(Qh7 P kt (ev A m) (ev A k) (ev A x) H).map fun H'=>(.gen,undef,H')
 | _=>none
def Qgl (P:Program) (call:Qu) (A:Env) (H:Qa) (t:TypeId) (x:Operand):Option (Cls×Value×Qa):=
 match P.underlying t,ev A x with
 | some .string,.string s=>some (.alloc (.iter s 0),.pointer (some ⟨H.next,0,none⟩),H.push (.iter s 0))
 | some (.map _ _),.map none=>some (.gen,.pointer (some ⟨H.next,0,none⟩),H.push (.miter none 0 [] 0))
 | some (.map _ _),.map (some m)=>match H.get m with
  | some (.map es)=>some (.gen,.pointer (some ⟨H.next,0,none⟩),H.push (.miter (some m) es.length [] es.length))
  | _=>none
 | _,_=>none
def aop (P:Program) (call:Qu) (o:Oper) (A:Env) (H:Qa):Option (Cls×Value×Qa):=
 match o.op with
 | .move x=>some (.pure,ev A x,H)
 | .assign x=>some (.pure,ev A x,H)
 | .pick c x y=>Qgj P call A H c x y
 | .nilCheck x=>Qbq P call A H x
 | .binOp op t x y _=>Ky P call A H op t x y
 | .unOp op _ x=>Qgk P call A H op x
 | .convert src dst x=>JD P call A H src dst x
 | .makeInterface t x=>Zb P call A H t x
 | .makeFunc fn first captured=>Qbr P call A H fn first captured
 | .field t x f=>QdD P call A H t x f
 | .fieldAddr t x f=>Zx P call A H t x f
 | .indexAddr t x ix=>Ys P call A H t x ix
 | .index t x ix=>QdE P call A H t x ix
 | .extract x ix=>QaP P call A H x ix
 | .typeAssert x _ t ok=>VH P call A H x t ok
 | .build t parts=>QdF P call A H t parts
 | .buildSlice t len parts=>Kz P call A H t len parts
 | .alloc e=>QdG P call A H e
 | .box e x=>Qk3 P call A H e x
 | .makeSlice t x y=>Gy P call A H t x y
 | .slice t x lo hi mx=>QaQ P call A H t x lo hi mx
 | .load t x=>Qd9 P call A H t x
 | .store t x y=>QbS P call A H t x y
 | .call c=>GW P call A H c
 | .makeMap _ none=>some (.alloc (.map []),.map (some H.next),H.push (.map []))
 | .lookup t x ix ok=>Qea P call A H t x ix ok
 | .mapUpdate t m k x=>Qfw P call A H t m k x
 | .insert t m k x=>Qfw P call A H t m k x
 | .range t x=>Qgl P call A H t x
 | .next it true=>(Qjf H (ev A it)).map fun r=>(.gen,r.1,r.2)
 | .next it false=>(Qgi H (ev A it)).map fun r=>(.gen,r.1,r.2)
 | .entry it=>(Qh9 H (ev A it)).map fun v=>(.gen,v,H)
 | _=>none
section
variable {P:Program} {n:Nat} {A:Env} {H:Qa}
def Qda (P:Program) (o:Oper) (A:Env) (H:Qa) (v:Value) (H':Qa):Cls→Prop
 | .pure=>H'=H∧∀h,Qd P o A h v h
 | .load=>H'=H∧∃t x a,o.op=.load t x∧ev A x=.pointer (some a)∧WZ P t a H=some v
 | .alloc b=>H'=H.push b∧∀h,h.next=H.next→Qd P o A h v (h.push b)
 | .gen=>Qd P o A H v H'
theorem Qda.does {o:Oper} {v:Value} {H':Qa} {c:Cls} (h:Qda P o A H v H' c):Qd P o A H v H':=by
 cases c with
 | pure=>obtain⟨rfl,h⟩:=h;exact h _
 | load=>
  obtain⟨rfl,t,x,a,ho,ex,hl⟩:=h
  obtain⟨dst,op,ty,pos,af,g⟩:=o
  simp only at ho
  subst ho
  exact Qmn ex hl
 | alloc b=>obtain⟨rfl,h⟩:=h;exact h _ rfl
 | gen=>exact h
def Qib (P:Program) (call:Qd8):Prop:=∀f args H v H',call f args H=some (v,H')→ZM P f args H v H'
structure JO (P:Program) (call:Qu):Prop where
 fn:Qib P call.fn
 yd:∀l args H v H',call.yd l args H=some (v,H')→Qjd P l args H v H'
 pn:∀f args H v H',call.pn f args H=some (v,H')→Qv P f=true∧J7 P f args H (.pan v) H'
theorem WF {r:Option Value} {c:Cls} {v:Value} {H':Qa} (h:WE H r=some (c,v,H')):r=some v∧c=.pure∧H'=H:=by
 cases r with
 | none=>simp[WE]at h
 | some u=>simp[WE]at h;obtain⟨rfl,rfl,rfl⟩:=h;exact⟨rfl,rfl,rfl⟩
theorem QjZ {op:BinOp} {t t':TypeId} {x y:Operand} {v:Value} {d:Option Nat} {ty:TypeId} {pos:String} {af:Array Edge} {g:Option (Nat×Bool)} (h:Qe0 P (Qak x||Qak y) op t (ev A x) (ev A y)=some v):Qd P ⟨d,.binOp op t x y t',ty,pos,af,g⟩ A H v H:=by
 unfold Qe0 at h
 split at h
 ·rename_i k a k' b ex ey
  split at h
  ·exact QgZ ex ey h
  ·exact QgZ ex ey h
  ·split at h
   ·rename_i e;subst e;exact QnQ ex ey h
   ·cases h
 ·rename_i a b ex ey;exact QnR ex ey h
 ·rename_i h1 h2;exact QoJ h
set_option maxHeartbeats 2000000 in
theorem QaR {call:Qu} (hcall:JO P call) {o:Oper} {c:Cls} {v:Value} {H':Qa} (h:aop P call o A H=some (c,v,H')):Qda P o A H v H' c:=by
 obtain⟨dst,op,ty,pos,af,g⟩:=o
 unfold aop at h
 split at h
 case h_1 x hop=>simp only at hop;subst hop;simp only[Option.some.injEq,Prod.mk.injEq]at h;obtain⟨rfl,rfl,rfl⟩:=h;exact⟨rfl,fun h=>Qmk⟩
 case h_2 x hop=>simp only at hop;subst hop;simp only[Option.some.injEq,Prod.mk.injEq]at h;obtain⟨rfl,rfl,rfl⟩:=h;exact⟨rfl,fun h=>QjN⟩
 case h_3 cc x y hop=>
  simp only at hop;subst hop;unfold Qgj at h
  split at h
  ·rename_i t ec
   simp only[Option.some.injEq,Prod.mk.injEq]at h;obtain⟨rfl,rfl,rfl⟩:=h
   refine⟨rfl,fun h=>?_⟩
   have:=Qml (P:=P) (H:=h) (d:=dst) (ty:=ty) (pos:=pos) (af:=af) (g:=g) (x:=x) (y:=y) ec
   cases t<;>exact this
  ·cases h
 case h_4 x hop=>
  simp only at hop;subst hop;unfold Qbq at h
  cases hn:Qaf (ev A x) with
  | false=>rw[hn]at h;cases h
  | true=>
   rw[hn]at h
   simp only[cond_true,Option.some.injEq,Prod.mk.injEq]at h;obtain⟨rfl,rfl,rfl⟩:=h
   exact⟨rfl,fun h=>QgY hn⟩
 case h_5 bop t x y t' hop=>
  simp only at hop;subst hop;unfold Ky at h
  obtain⟨h1,rfl,rfl⟩:=WF h
  exact⟨rfl,fun h=>QjZ h1⟩
 case h_6 uop t x hop=>
  simp only at hop;subst hop;unfold Qgk at h
  obtain⟨h1,rfl,rfl⟩:=WF h
  exact⟨rfl,fun h=>QoI h1⟩
 case h_7 src d' x hop=>
  simp only at hop;subst hop;unfold JD at h
  split at h
  ·rename_i u e s hu hd ex
   split at h
   ·rename_i inf h8 hi
    split at h
    ·rename_i z hz
     cases hc:(VA P e inf z&&Nat.beq inf.size 1&&Nat.ble (bl s).length 140737488355328) with
     | false=>rw[hc]at h;cases h
     | true=>
      rw[hc]at h
      simp only[cond_true,Option.some.injEq,Prod.mk.injEq]at h;obtain⟨rfl,rfl,rfl⟩:=h
      simp only[Bool.and_eq_true,YW,decide_eq_true_eq,Nat.ble_eq]at hc
      refine⟨rfl,fun h hn=>?_⟩
      rw[← hn]
      exact Qh3 hu hd h8 (JA.mk' hi hz hc.1.1) hc.1.2 ex hc.2
    ·cases h
   ·cases h
  ·rename_i e a m cp hu hd ex
   split at h
   ·rename_i l h8 hl
    split at h
    ·rename_i bs hb
     simp only[Option.some.injEq,Prod.mk.injEq]at h;obtain⟨rfl,rfl,rfl⟩:=h
     exact QkV hu h8 hd (by rw[ex];exact hl) hb
    ·cases h
   ·cases h
  ·rename_i t a hu hd ex
   split at h
   ·rename_i j c e hi hg
    split at h
    ·rename_i hc
     simp only[Option.some.injEq,Prod.mk.injEq]at h;obtain⟨rfl,rfl,rfl⟩:=h
     exact Qhc ex hu hd hi hc.1 hg hc.2
    ·cases h
   ·cases h
  ·rename_i u a hu hd ex
   split at h
   ·rename_i j c e hi hg
    split at h
    ·rename_i hc
     simp only[Option.some.injEq,Prod.mk.injEq]at h;obtain⟨rfl,rfl,rfl⟩:=h
     exact QeZ ex hu hd hi hg hc
    ·cases h
   ·cases h
  ·obtain⟨h1,rfl,rfl⟩:=WF h
   exact⟨rfl,fun h=>Qmm h1⟩
 case h_8 t x hop=>
  simp only at hop;subst hop;unfold Zb at h
  split at h
  ·cases h
  ·rename_i td hni htd
   simp only[Option.some.injEq,Prod.mk.injEq]at h;obtain⟨rfl,rfl,rfl⟩:=h
   refine⟨rfl,fun h=>Qcj htd ?_⟩
   cases td<;>first | rfl | exact absurd rfl (hni _)
  ·cases h
 case h_9 fn first captured hop=>
  simp only at hop;subst hop;unfold Qbr at h
  cases hn:Gt fn with
  | false=>rw[hn]at h;cases h
  | true=>
   rw[hn]at h
   simp only[cond_true,Option.some.injEq,Prod.mk.injEq]at h;obtain⟨rfl,rfl,rfl⟩:=h
   exact⟨rfl,fun h=>Qg0 hn⟩
 case h_10 t x f hop=>
  simp only at hop;subst hop;unfold QdD at h
  split at h
  ·rename_i fs cs ht ex
   split at h
   ·rename_i fd hf
    obtain⟨h1,rfl,rfl⟩:=WF h
    exact⟨rfl,fun h=>QkI ht hf ex h1⟩
   ·cases h
  ·cases h
 case h_11 t x f hop=>
  simp only at hop;subst hop;unfold Zx at h
  split at h
  ·rename_i fs a ht ex
   split at h
   ·rename_i fd hf
    split at h
    ·rename_i inf hi
     cases hz:Nat.beq inf.size 0 with
     | true=>rw[hz]at h;cases h
     | false=>
      rw[hz]at h
      simp only[cond_false,Option.some.injEq,Prod.mk.injEq]at h;obtain⟨rfl,rfl,rfl⟩:=h
      exact⟨rfl,fun h=>Qgc ht hf hi hz ex⟩
    ·cases h
   ·cases h
  ·cases h
 case h_12 t x ix hop=>
  simp only at hop;subst hop;unfold Ys at h
  split at h
  ·rename_i k m eix
   split at h
   ·rename_i e a len cap ht ex
    split at h
    ·rename_i inf hi
     split at h
     ·rename_i hc
      simp only[Option.some.injEq,Prod.mk.injEq]at h;obtain⟨rfl,rfl,rfl⟩:=h
      exact⟨rfl,fun h=>Qbl ht hi ex eix hc.1 hc.2⟩
     ·cases h
    ·cases h
   ·rename_i len e a ht ex
    split at h
    ·rename_i inf hi
     split at h
     ·rename_i hc
      simp only[Option.some.injEq,Prod.mk.injEq]at h;obtain⟨rfl,rfl,rfl⟩:=h
      exact⟨rfl,fun h=>Qbm ht hi ex eix hc.1 hc.2⟩
     ·cases h
    ·cases h
   ·cases h
  ·cases h
 case h_13 t x ix hop=>
  simp only at hop;subst hop;unfold QdE at h
  split at h
  ·rename_i k m eix
   split at h
   ·rename_i s ht ex
    split at h
    ·rename_i h0
     split at h
     ·rename_i b hb
      simp only[Option.some.injEq,Prod.mk.injEq]at h;obtain⟨rfl,rfl,rfl⟩:=h
      exact⟨rfl,fun h=>Qdp ht ex eix h0 hb⟩
     ·cases h
    ·cases h
   ·rename_i len e cs ht ex
    split at h
    ·rename_i inf hi
     split at h
     ·rename_i hc
      obtain⟨h1,rfl,rfl⟩:=WF h
      exact⟨rfl,fun h=>QdU ht hi ex eix hc.1 hc.2 h1⟩
     ·cases h
    ·cases h
   ·cases h
  ·cases h
 case h_14 x ix hop=>
  simp only at hop;subst hop;unfold QaP at h
  split at h
  ·rename_i vs ex
   obtain⟨h1,rfl,rfl⟩:=WF h
   exact⟨rfl,fun h=>QhW ex h1⟩
  ·cases h
 case h_15 x xt t ok hop=>
  simp only at hop;subst hop;unfold VH at h
  obtain⟨h1,rfl,rfl⟩:=WF h
  exact⟨rfl,fun h=>QjT h1⟩
 case h_16 t parts hop=>
  simp only at hop;subst hop;unfold QdF at h
  split at h
  ·rename_i fs inf ht hi
   split at h
   ·rename_i z pl hz hpl
    cases hc:z.cells.toList.all plain with
    | false=>rw[hc]at h;cases h
    | true=>
     rw[hc]at h
     obtain⟨h1,rfl,rfl⟩:=WF h
     simp only[Option.map_eq_some_iff]at h1
     obtain⟨r,hr,rfl⟩:=h1
     exact⟨rfl,fun h=>Qdq ht hi hz hc hpl hr⟩
   ·cases h
  ·rename_i len e inf ht hi
   split at h
   ·rename_i z inf' hz hi'
    cases hc:z.cells.toList.all plain with
    | false=>rw[hc]at h;cases h
    | true=>
     rw[hc]at h
     obtain⟨h1,rfl,rfl⟩:=WF h
     simp only[Option.map_eq_some_iff]at h1
     obtain⟨r,hr,rfl⟩:=h1
     exact⟨rfl,fun h=>QdW ht hi hz hc hi' hr⟩
   ·cases h
  ·cases h
 case h_17 t len parts hop=>
  simp only at hop;subst hop;unfold Kz at h
  split at h
  ·rename_i e ht
   split at h
   ·rename_i inf hi
    split at h
    ·rename_i z hz
     cases hc:(z.cells.toList.all plain&&Nat.blt 0 z.cells.size&&Nat.ble len 16777216&&Nat.ble (len * inf.size) 16777216) with
     | false=>rw[hc]at h;cases h
     | true=>
      rw[hc]at h
      simp only[cond_true]at h
      simp only[Bool.and_eq_true]at hc
      obtain⟨⟨⟨c1,c2⟩,c3⟩,c4⟩:=hc
      split at h
      ·rename_i r hr
       simp only[Option.some.injEq,Prod.mk.injEq]at h;obtain⟨rfl,rfl,rfl⟩:=h
       refine⟨rfl,fun h hn=>?_⟩
       rw[← hn]
       exact QeW ht hi hz c1 c2 c3 c4 hr
      ·cases h
    ·cases h
   ·cases h
  ·cases h
 case h_18 e hop=>
  simp only at hop;subst hop;unfold QdG at h
  split at h
  ·rename_i inf hi
   split at h
   ·rename_i z hz
    cases hc:z.cells.toList.all plain with
    | false=>rw[hc]at h;cases h
    | true=>
     rw[hc]at h
     simp only[cond_true,Option.some.injEq,Prod.mk.injEq]at h;obtain⟨rfl,rfl,rfl⟩:=h
     refine⟨rfl,fun h hn=>?_⟩
     rw[← hn]
     exact QkK hi hz hc
   ·cases h
  ·cases h
 case h_19 e x hop=>
  simp only at hop;subst hop;unfold Qk3 at h
  simp only[Option.some.injEq,Prod.mk.injEq]at h;obtain⟨rfl,rfl,rfl⟩:=h
  refine⟨rfl,fun h hn=>?_⟩
  rw[← hn]
  exact QnS
 case h_20 t x y hop=>
  simp only at hop;subst hop;unfold Gy at h
  split at h
  ·rename_i e l cc ht ex ey
   split at h
   ·rename_i inf hi
    split at h
    ·rename_i z hz
     split at h
     ·rename_i hc
      obtain⟨c0,c1,c2,c3,c4⟩:=hc
      simp only[Option.some.injEq,Prod.mk.injEq]at h;obtain⟨rfl,rfl,rfl⟩:=h
      refine⟨rfl,fun h hn=>?_⟩
      rw[← hn]
      exact Qgd ht (JA.mk' hi hz c0) ex ey c1 c2 c3 c4
     ·cases h
    ·cases h
   ·cases h
  ·cases h
 case h_21 t x lo hi mx hop=>
  simp only at hop;subst hop;unfold QaQ at h
  split at h
  ·rename_i ht
   split at h
   ·rename_i s l hh ex el eh
    split at h
    ·rename_i hc
     simp only[Option.some.injEq,Prod.mk.injEq]at h;obtain⟨rfl,rfl,rfl⟩:=h
     exact⟨rfl,fun h=>Qdr ht ex el eh hc.1 hc.2.1 hc.2.2⟩
    ·cases h
   ·cases h
  ·rename_i e ht
   split at h
   ·rename_i inf l hh m hi' el eh em
    split at h
    ·rename_i hc
     obtain⟨h1,rfl,rfl⟩:=WF h
     refine⟨rfl,fun h=>QdX ht hi' el eh em (fun hm hn=>?_) h1⟩
     subst hn
     cases m with
     | none=>exact hm rfl
     | some m=>simp at hc
    ·cases h
   ·cases h
  ·rename_i m e ht
   split at h
   ·rename_i a l hh ex el eh
    split at h
    ·rename_i inf hi'
     split at h
     ·rename_i hc
      simp only[Option.some.injEq,Prod.mk.injEq]at h;obtain⟨rfl,rfl,rfl⟩:=h
      exact⟨rfl,fun h=>Qd7 ht hi' ex el eh hc.1 hc.2.1 hc.2.2.1 hc.2.2.2⟩
     ·cases h
    ·cases h
   ·cases h
  ·cases h
 case h_22 t x hop=>
  simp only at hop;subst hop;unfold Qd9 at h
  split at h
  ·rename_i a ex
   split at h
   ·rename_i v' hl
    simp only[Option.some.injEq,Prod.mk.injEq]at h;obtain⟨rfl,rfl,rfl⟩:=h
    exact⟨rfl,t,x,a,rfl,ex,hl⟩
   ·cases h
  ·cases h
 case h_23 t x y hop=>
  simp only at hop;subst hop;unfold QbS at h
  split at h
  ·rename_i a ex
   split at h
   ·rename_i H1 hl
    simp only[Option.some.injEq,Prod.mk.injEq]at h;obtain⟨rfl,rfl,rfl⟩:=h
    exact QkJ ex hl
   ·cases h
  ·cases h
 case h_24 cc hop=>
  simp only at hop;subst hop;unfold GW at h
  split at h
  ·rename_i b args ts
   obtain⟨args⟩:=args
   obtain⟨ts⟩:=ts
   simp only at h
   split at h
   ·rename_i x t
    split at h
    ·rename_i m hm
     simp only[Option.some.injEq,Prod.mk.injEq]at h;obtain⟨rfl,rfl,rfl⟩:=h
     exact⟨rfl,fun h=>QnT hm⟩
    ·cases h
   ·rename_i x t
    split at h
    ·rename_i e a m cp ht ex
     cases hc:Nat.blt cp UNK with
     | false=>rw[hc]at h;cases h
     | true=>
      rw[hc]at h
      simp only[cond_true,Option.some.injEq,Prod.mk.injEq]at h;obtain⟨rfl,rfl,rfl⟩:=h
      exact⟨rfl,fun h=>QnU ht ex hc⟩
    ·cases h
   ·rename_i x y
    split at h
    ·rename_i k a k' b' ex ey
     split at h
     ·rename_i e;subst e
      simp only[Option.some.injEq,Prod.mk.injEq]at h;obtain⟨rfl,rfl,rfl⟩:=h
      exact⟨rfl,fun h=>Qmo ex ey⟩
     ·cases h
    ·cases h
   ·rename_i x y
    split at h
    ·rename_i k a k' b' ex ey
     split at h
     ·rename_i e;subst e
      simp only[Option.some.injEq,Prod.mk.injEq]at h;obtain⟨rfl,rfl,rfl⟩:=h
      exact⟨rfl,fun h=>Qmp ex ey⟩
     ·cases h
    ·cases h
   ·rename_i x y t t2
    split at h
    ·rename_i e td ht ht2
     split at h
     ·rename_i inf hi
      split at h
      ·rename_i z hz
       cases hc:(Qah td&&VA P e inf z) with
       | false=>rw[hc]at h;cases h
       | true=>
        rw[hc]at h
        simp only[cond_true,Option.map_eq_some_iff,Prod.mk.injEq]at h
        obtain⟨⟨v1,H1⟩,hr,rfl,rfl,rfl⟩:=h
        simp only[Bool.and_eq_true]at hc
        exact QjP ht ht2 hc.1 (JA.mk' hi hz hc.2) hr
      ·cases h
     ·cases h
    ·cases h
   ·rename_i x y t t2
    split at h
    ·rename_i e ht
     split at h
     ·rename_i inf hi
      simp only[Option.map_eq_some_iff,Prod.mk.injEq]at h
      obtain⟨⟨v1,H1⟩,hr,rfl,rfl,rfl⟩:=h
      exact Qms ht hi hr
     ·cases h
    ·cases h
   ·rename_i x
    split at h
    ·rename_i m cp ex
     simp only[Option.some.injEq,Prod.mk.injEq]at h;obtain⟨rfl,rfl,rfl⟩:=h
     exact⟨rfl,fun h=>Qcq ex⟩
    ·rename_i a m cp ex
     split at h
     ·rename_i hm
      simp only[Option.some.injEq,Prod.mk.injEq]at h;obtain⟨rfl,rfl,rfl⟩:=h
      exact⟨rfl,fun h=>Qgf ex hm⟩
     ·cases h
    ·cases h
   ·rename_i x y pt it
    split at h
    ·rename_i ex ey
     simp only[Option.some.injEq,Prod.mk.injEq]at h;obtain⟨rfl,rfl,rfl⟩:=h
     exact Qcr ex ey
    ·rename_i a m ex ey
     split at h
     ·rename_i e c e' hp hg
      split at h
      ·rename_i hc
       obtain⟨rfl,c1,c2,c3,c4,c5,c6⟩:=hc
       split at h
       ·rename_i bs hb
        simp only[Option.some.injEq,Prod.mk.injEq]at h;obtain⟨rfl,rfl,rfl⟩:=h
        have em:m=(m.toNat:Int):=by omega
        rw[em]at ey
        rw[c1]at ex
        exact Qgg ex ey hp c2 hg (by omega) c4 (by omega) hb (fun v hv=>by
         have:=List.all_eq_true.1 c6 v hv
         unfold Qk4 at this
         split at this
         ·rename_i k
          simp only[Bool.and_eq_true,decide_eq_true_eq]at this
          exact⟨k,rfl,this.1,this.2⟩
         ·cases this)
       ·cases h
      ·cases h
     ·cases h
    ·cases h
   ·cases h
  ·rename_i recv name args ts
   split at h
   ·rename_i t v0 er
    split at h
    ·rename_i f hm
     simp only[Option.map_eq_some_iff,Prod.mk.injEq]at h
     obtain⟨⟨v1,H1⟩,hr,rfl,rfl,rfl⟩:=h
     exact QjW er hm (hcall.fn _ _ _ _ _ hr)
    ·cases h
   ·cases h
  ·rename_i f args ts
   simp only[Option.map_eq_some_iff,Prod.mk.injEq]at h
   obtain⟨⟨v1,H1⟩,hr,rfl,rfl,rfl⟩:=h
   exact Qge (hcall.fn _ _ _ _ _ hr)
  ·rename_i cv args ts _
   split at h
   ·rename_i f xs ys ec
    simp only[Option.map_eq_some_iff,Prod.mk.injEq]at h
    obtain⟨⟨v1,H1⟩,hr,rfl,rfl,rfl⟩:=h
    exact Qg3 ec (hcall.fn _ _ _ _ _ hr)
   ·rename_i l xs ys ec
    cases hc:(Nat.beq xs.size 0&&Nat.beq ys.size 0) with
    | false=>rw[hc]at h;cases h
    | true=>
     rw[hc]at h
     simp only[Bool.and_eq_true,YW,decide_eq_true_eq,Array.size_eq_zero_iff]at hc
     obtain⟨rfl,rfl⟩:=hc
     simp only[cond_true,Option.map_eq_some_iff,Prod.mk.injEq]at h
     obtain⟨⟨v1,H1⟩,hr,rfl,rfl,rfl⟩:=h
     exact QkU ec (hcall.yd _ _ _ _ _ hr)
   ·cases h
 case h_25 t hop=>
  simp only at hop;subst hop
  simp only[Option.some.injEq,Prod.mk.injEq]at h;obtain⟨rfl,rfl,rfl⟩:=h
  exact⟨rfl,fun h hn=>by rw[← hn];exact Qh6⟩
 case h_26 t x ix ok hop=>
  simp only at hop;subst hop;unfold Qea at h
  split at h
  ·rename_i k e ht
   simp only[Option.map_eq_some_iff,Prod.mk.injEq]at h
   obtain⟨v1,hr,rfl,rfl,rfl⟩:=h
   exact QjX ht hr
  ·cases h
 case h_27 t m k x hop=>
  simp only at hop;subst hop;unfold Qfw at h
  split at h
  ·rename_i kt e ht
   simp only[Option.map_eq_some_iff,Prod.mk.injEq]at h
   obtain⟨H1,hr,rfl,rfl,rfl⟩:=h
   exact Qgh ht hr
  ·cases h
 case h_28 t m k x hop=>
  simp only at hop;subst hop;unfold Qfw at h
  split at h
  ·rename_i kt e ht
   simp only[Option.map_eq_some_iff,Prod.mk.injEq]at h
   obtain⟨H1,hr,rfl,rfl,rfl⟩:=h
   exact QjY ht hr
  ·cases h
 case h_29 t x hop=>
  simp only at hop;subst hop;unfold Qgl at h
  split at h
  ·rename_i s ht ex
   simp only[Option.some.injEq,Prod.mk.injEq]at h;obtain⟨rfl,rfl,rfl⟩:=h
   exact⟨rfl,fun h hn=>by rw[← hn];exact QkZ ht ex⟩
  ·rename_i k e ht ex
   simp only[Option.some.injEq,Prod.mk.injEq]at h;obtain⟨rfl,rfl,rfl⟩:=h
   exact Qfv ht ex (fun id hid=>by cases hid)
  ·rename_i k e m ht ex
   split at h
   ·rename_i es hg
    simp only[Option.some.injEq,Prod.mk.injEq]at h;obtain⟨rfl,rfl,rfl⟩:=h
    exact Qfv ht ex (fun id hid=>by cases hid;exact⟨es,hg,rfl⟩)
   ·cases h
  ·cases h
 case h_30 it hop=>
  simp only at hop;subst hop
  simp only[Option.map_eq_some_iff,Prod.mk.injEq]at h
  obtain⟨⟨v1,H1⟩,hr,rfl,rfl,rfl⟩:=h
  exact Qmr hr
 case h_31 it hop=>
  simp only at hop;subst hop
  simp only[Option.map_eq_some_iff,Prod.mk.injEq]at h
  obtain⟨⟨v1,H1⟩,hr,rfl,rfl,rfl⟩:=h
  exact Qk1 hr
 case h_32 it hop=>
  simp only at hop;subst hop
  simp only[Option.map_eq_some_iff,Prod.mk.injEq]at h
  obtain⟨v1,hr,rfl,rfl,rfl⟩:=h
  exact Qk2 hr
 case h_33=>cases h
end
inductive D where
 | d0 | d1 | d2 | d3 | d4 | d5 | d6 | d7 | d8 | d9 | d10 | d11 | d12 | d13 | d14 | d15
structure N16 (α:Type) where
 mk ::
 a0:α
 a1:α
 a2:α
 a3:α
 a4:α
 a5:α
 a6:α
 a7:α
 a8:α
 a9:α
 a10:α
 a11:α
 a12:α
 a13:α
 a14:α
 a15:α
def D.num:D→Nat
 | .d0=>0
 | .d1=>1
 | .d2=>2
 | .d3=>3
 | .d4=>4
 | .d5=>5
 | .d6=>6
 | .d7=>7
 | .d8=>8
 | .d9=>9
 | .d10=>10
 | .d11=>11
 | .d12=>12
 | .d13=>13
 | .d14=>14
 | .d15=>15
def dig (n:Nat):D:=bif Nat.beq n 0 then .d0 else bif Nat.beq n 1 then .d1 else bif Nat.beq n 2 then .d2 else bif Nat.beq n 3 then .d3 else bif Nat.beq n 4 then .d4 else bif Nat.beq n 5 then .d5 else bif Nat.beq n 6 then .d6 else bif Nat.beq n 7 then .d7 else bif Nat.beq n 8 then .d8 else bif Nat.beq n 9 then .d9 else bif Nat.beq n 10 then .d10 else bif Nat.beq n 11 then .d11 else bif Nat.beq n 12 then .d12 else bif Nat.beq n 13 then .d13 else bif Nat.beq n 14 then .d14 else .d15
theorem QdH {n:Nat} (h:n<16):(dig n).num=n:=by
 have:n=0∨n=1∨n=2∨n=3∨n=4∨n=5∨n=6∨n=7∨n=8∨n=9∨n=10∨n=11∨n=12∨n=13∨n=14∨n=15:=by omega
 rcases this with rfl | rfl | rfl | rfl | rfl | rfl | rfl | rfl | rfl | rfl | rfl | rfl | rfl | rfl | rfl | rfl<;>rfl
theorem Qjh {n m:Nat} (hn:n<16) (hm:m<16) (h:dig n=dig m):n=m:=by rw[← QdH hn,← QdH hm,h]
def N16.get {α:Type} (n:N16 α) (d:D):α:=D.rec (motive:=fun _=>N16 α→α) N16.a0 N16.a1 N16.a2 N16.a3 N16.a4 N16.a5 N16.a6 N16.a7 N16.a8 N16.a9 N16.a10 N16.a11 N16.a12 N16.a13 N16.a14 N16.a15 d n
def N16.set0 {α:Type} (v:α) (n:N16 α):N16 α:=N16.rec (motive:=fun _=>N16 α) (fun a0 a1 a2 a3 a4 a5 a6 a7 a8 a9 a10 a11 a12 a13 a14 a15=>⟨v,a1,a2,a3,a4,a5,a6,a7,a8,a9,a10,a11,a12,a13,a14,a15⟩) n
def N16.set1 {α:Type} (v:α) (n:N16 α):N16 α:=N16.rec (motive:=fun _=>N16 α) (fun a0 a1 a2 a3 a4 a5 a6 a7 a8 a9 a10 a11 a12 a13 a14 a15=>⟨a0,v,a2,a3,a4,a5,a6,a7,a8,a9,a10,a11,a12,a13,a14,a15⟩) n
def N16.set2 {α:Type} (v:α) (n:N16 α):N16 α:=N16.rec (motive:=fun _=>N16 α) (fun a0 a1 a2 a3 a4 a5 a6 a7 a8 a9 a10 a11 a12 a13 a14 a15=>⟨a0,a1,v,a3,a4,a5,a6,a7,a8,a9,a10,a11,a12,a13,a14,a15⟩) n
def N16.set3 {α:Type} (v:α) (n:N16 α):N16 α:=N16.rec (motive:=fun _=>N16 α) (fun a0 a1 a2 a3 a4 a5 a6 a7 a8 a9 a10 a11 a12 a13 a14 a15=>⟨a0,a1,a2,v,a4,a5,a6,a7,a8,a9,a10,a11,a12,a13,a14,a15⟩) n
def N16.set4 {α:Type} (v:α) (n:N16 α):N16 α:=N16.rec (motive:=fun _=>N16 α) (fun a0 a1 a2 a3 a4 a5 a6 a7 a8 a9 a10 a11 a12 a13 a14 a15=>⟨a0,a1,a2,a3,v,a5,a6,a7,a8,a9,a10,a11,a12,a13,a14,a15⟩) n
def N16.set5 {α:Type} (v:α) (n:N16 α):N16 α:=N16.rec (motive:=fun _=>N16 α) (fun a0 a1 a2 a3 a4 a5 a6 a7 a8 a9 a10 a11 a12 a13 a14 a15=>⟨a0,a1,a2,a3,a4,v,a6,a7,a8,a9,a10,a11,a12,a13,a14,a15⟩) n
def N16.set6 {α:Type} (v:α) (n:N16 α):N16 α:=N16.rec (motive:=fun _=>N16 α) (fun a0 a1 a2 a3 a4 a5 a6 a7 a8 a9 a10 a11 a12 a13 a14 a15=>⟨a0,a1,a2,a3,a4,a5,v,a7,a8,a9,a10,a11,a12,a13,a14,a15⟩) n
def N16.set7 {α:Type} (v:α) (n:N16 α):N16 α:=N16.rec (motive:=fun _=>N16 α) (fun a0 a1 a2 a3 a4 a5 a6 a7 a8 a9 a10 a11 a12 a13 a14 a15=>⟨a0,a1,a2,a3,a4,a5,a6,v,a8,a9,a10,a11,a12,a13,a14,a15⟩) n
def N16.set8 {α:Type} (v:α) (n:N16 α):N16 α:=N16.rec (motive:=fun _=>N16 α) (fun a0 a1 a2 a3 a4 a5 a6 a7 a8 a9 a10 a11 a12 a13 a14 a15=>⟨a0,a1,a2,a3,a4,a5,a6,a7,v,a9,a10,a11,a12,a13,a14,a15⟩) n
def N16.set9 {α:Type} (v:α) (n:N16 α):N16 α:=N16.rec (motive:=fun _=>N16 α) (fun a0 a1 a2 a3 a4 a5 a6 a7 a8 a9 a10 a11 a12 a13 a14 a15=>⟨a0,a1,a2,a3,a4,a5,a6,a7,a8,v,a10,a11,a12,a13,a14,a15⟩) n
def N16.set10 {α:Type} (v:α) (n:N16 α):N16 α:=N16.rec (motive:=fun _=>N16 α) (fun a0 a1 a2 a3 a4 a5 a6 a7 a8 a9 a10 a11 a12 a13 a14 a15=>⟨a0,a1,a2,a3,a4,a5,a6,a7,a8,a9,v,a11,a12,a13,a14,a15⟩) n
def N16.set11 {α:Type} (v:α) (n:N16 α):N16 α:=N16.rec (motive:=fun _=>N16 α) (fun a0 a1 a2 a3 a4 a5 a6 a7 a8 a9 a10 a11 a12 a13 a14 a15=>⟨a0,a1,a2,a3,a4,a5,a6,a7,a8,a9,a10,v,a12,a13,a14,a15⟩) n
def N16.set12 {α:Type} (v:α) (n:N16 α):N16 α:=N16.rec (motive:=fun _=>N16 α) (fun a0 a1 a2 a3 a4 a5 a6 a7 a8 a9 a10 a11 a12 a13 a14 a15=>⟨a0,a1,a2,a3,a4,a5,a6,a7,a8,a9,a10,a11,v,a13,a14,a15⟩) n
def N16.set13 {α:Type} (v:α) (n:N16 α):N16 α:=N16.rec (motive:=fun _=>N16 α) (fun a0 a1 a2 a3 a4 a5 a6 a7 a8 a9 a10 a11 a12 a13 a14 a15=>⟨a0,a1,a2,a3,a4,a5,a6,a7,a8,a9,a10,a11,a12,v,a14,a15⟩) n
def N16.set14 {α:Type} (v:α) (n:N16 α):N16 α:=N16.rec (motive:=fun _=>N16 α) (fun a0 a1 a2 a3 a4 a5 a6 a7 a8 a9 a10 a11 a12 a13 a14 a15=>⟨a0,a1,a2,a3,a4,a5,a6,a7,a8,a9,a10,a11,a12,a13,v,a15⟩) n
def N16.set15 {α:Type} (v:α) (n:N16 α):N16 α:=N16.rec (motive:=fun _=>N16 α) (fun a0 a1 a2 a3 a4 a5 a6 a7 a8 a9 a10 a11 a12 a13 a14 a15=>⟨a0,a1,a2,a3,a4,a5,a6,a7,a8,a9,a10,a11,a12,a13,a14,v⟩) n
def N16.put {α:Type} (n:N16 α) (d:D) (v:α):N16 α:=D.rec (motive:=fun _=>α→N16 α→N16 α) N16.set0 N16.set1 N16.set2 N16.set3 N16.set4 N16.set5 N16.set6 N16.set7 N16.set8 N16.set9 N16.set10 N16.set11 N16.set12 N16.set13 N16.set14 N16.set15 d v n
theorem N16.get_put {α:Type} (n:N16 α) (d dx:D) (v:α) [Decidable (dx=d)]:(n.put d v).get dx=if dx=d then v else n.get dx:=by
 obtain⟨a0,a1,a2,a3,a4,a5,a6,a7,a8,a9,a10,a11,a12,a13,a14,a15⟩:=n
 split
 ·rename_i h;subst h;cases dx<;>rfl
 ·rename_i h;cases d<;>cases dx<;>first | rfl | exact absurd rfl h
def N16.all {α:Type} (v:α):N16 α:=⟨v,v,v,v,v,v,v,v,v,v,v,v,v,v,v,v⟩
theorem N16.get_all {α:Type} (v:α) (d:D):(N16.all v).get d=v:=by cases d<;>rfl
abbrev E:=N16 (N16 Value)
def WT (e:E):Env:=fun t=>(e.get (dig (Nat.div t 16))).get (dig (Nat.mod t 16))
def Qmt (e:E) (d:Nat) (v:Value):E:=e.put (dig (Nat.div d 16)) ((e.get (dig (Nat.div d 16))).put (dig (Nat.mod d 16)) v)
def Qic (e:E) (d:Option Nat) (v:Value):E:=Option.rec (motive:=fun _=>E) e (fun d=>Qmt e d v) d
def QoL (A B:Env):Prop:=∀t,t<256→A t=B t
open Classical in
theorem Qfx (e:E) {d t:Nat} (v:Value) (hd:d<256) (ht:t<256):WT (Qmt e d v) t=upd (WT e) d v t:=by
 have e1:∀x y:Nat,Nat.div x y=x / y:=fun _ _=>rfl
 have e2:∀x y:Nat,Nat.mod x y=x % y:=fun _ _=>rfl
 simp only[WT,Qmt,upd,YW,e1,e2]
 rw[N16.get_put]
 by_cases h:t=d
 ·subst h;rw[if_pos rfl,N16.get_put,if_pos rfl];simp
 ·simp only[h,decide_false,cond_false]
  by_cases h1:dig (t / 16)=dig (d / 16)
  ·rw[if_pos h1,N16.get_put]
   have h2:=Qjh (by omega) (by omega) h1
   rw[if_neg (fun h3=>h (by have:=Qjh (by omega) (by omega) h3;omega)),h1]
  ·rw[if_neg h1]
theorem Qeb (e:E) {d:Option Nat} (v:Value) (hd:Gu 256 d=true):QoL (WT (Qic e d v)) (Yp (WT e) d v):=by
 intro t ht
 cases d with
 | none=>rfl
 | some d=>exact Qfx e v (by simpa[Gu] using hd) ht
def E.none:E:=N16.all (N16.all undef)
theorem Qj0 (t:Nat):WT E.none t=undef:=by simp only[WT,E.none,N16.get_all]
def QbT:List Value→Nat→E→E
 | [],_,e=>e
 | v::vs,i,e=>QbT vs (i+1) (Qmt e i v)
theorem Qfy:∀ (l:List Value) (i:Nat) (e:E) (j:Nat),i+l.length≤256→j<256→WT (QbT l i e) j=if i≤j∧j<i+l.length then l.getD (j - i) undef else WT e j
 | [],i,e,j,_,_=>by simp[QbT];omega
 | v::l,i,e,j,h,hj=>by
  simp only[List.length_cons]at h
  simp only[QbT]
  rw[Qfy l (i+1) _ j (by omega) hj,Qfx e v (by omega) hj]
  simp only[List.length_cons]
  by_cases h1:j=i
  ·subst h1;rw[if_neg (by omega),if_pos ⟨by omega,by omega⟩];simp
  ·by_cases h2:i+1≤j∧j<i+1+l.length
   ·rw[if_pos h2,if_pos ⟨by omega,by omega⟩,show j - i=(j - (i+1))+1 by omega];simp
   ·rw[if_neg h2,if_neg (by omega),J6 _ _ h1]
theorem Vf {l:List Value} (h:l.length≤256):QoL (WT (QbT l 0 E.none)) (Zu l):=by
 intro j hj
 rw[Qfy l 0 _ j (by omega) hj]
 simp only[Zu,Nat.zero_le,true_and,Nat.zero_add,Nat.sub_zero,Qj0]
 split
 ·rfl
 ·rename_i h1;simp[List.getD,List.getElem?_eq_none (by omega:l.length≤j)]
/-! ### Equality of values and blocks, by a run -/
def KA (eq:Value→Value→Bool):List Value→List Value→Bool
 | [],[]=>true
 | x::xs,y::ys=>eq x y&&KA eq xs ys
 | _,_=>false
theorem QdI {eq:Value→Value→Bool} (h:∀x y,eq x y=true→x=y):∀xs ys,KA eq xs ys=true→xs=ys
 | [],[],_=>rfl
 | x::xs,y::ys,hb=>by
  simp only[KA,Bool.and_eq_true]at hb
  rw[h x y hb.1,QdI h xs ys hb.2]
 | [],_::_,hb=>by simp[KA]at hb
 | _::_,[],hb=>by simp[KA]at hb
def QaZ:Nat→Value→Value→Bool
 | 0,_,_=>false
 | f+1,x,y=>match x,y with
  | .bool a,.bool b=>a==b
  | .int k a,.int k' b=>decide (k=k')&&decide (a=b)
  | .string a,.string b=>decide (bl a=bl b)
  | .pointer a,.pointer b=>decide (a=b)
  | .slice a l c,.slice a' l' c'=>decide (a=a')&&Nat.beq l l'&&Nat.beq c c'
  | .map a,.map b=>decide (a=b)
  | .nilFunc,.nilFunc=>true
  | .nilIface,.nilIface=>true
  | .iface t v,.iface t' v'=>Nat.beq t t'&&QaZ f v v'
  | .agg xs,.agg ys=>KA (QaZ f) xs.toList ys.toList
  | .tuple xs,.tuple ys=>KA (QaZ f) xs.toList ys.toList
  | .func fn xs zs,.func fn' ys us=>decide (fn=fn')&&KA (QaZ f) xs.toList ys.toList&&KA (QaZ f) zs.toList us.toList
  | _,_=>false
theorem QaS:∀ (f:Nat) (x y:Value),QaZ f x y=true→x=y:=by
 intro f
 induction f with
 | zero=>intro x y h;simp[QaZ]at h
 | succ f ih=>
  intro x y h
  have harr:∀ {xs ys:Array Value},KA (QaZ f) xs.toList ys.toList=true→xs=ys:=fun h=>Array.ext' (QdI ih _ _ h)
  unfold QaZ at h
  split at h
  ·simp at h;rw[h]
  ·simp only[Bool.and_eq_true,decide_eq_true_eq]at h;rw[h.1,h.2]
  ·rename_i a b
   have h':bl a=bl b:=by simpa using h
   rw[← QdS a,← QdS b,h']
  ·simp at h;rw[h]
  ·simp only[Bool.and_eq_true,decide_eq_true_eq,YW]at h;rw[h.1.1,h.1.2,h.2]
  ·simp at h;rw[h]
  ·rfl
  ·rfl
  ·simp only[Bool.and_eq_true,decide_eq_true_eq,YW]at h;rw[h.1,ih _ _ h.2]
  ·rw[harr h]
  ·rw[harr h]
  ·simp only[Bool.and_eq_true,decide_eq_true_eq]at h;rw[h.1.1,harr h.1.2,harr h.2]
  ·cases h
def QnW:Option Blk→Option Blk→Bool
 | some (.cells c e r),some (.cells c' e' r')=>Nat.beq e e'&&r==r'&&KA (QaZ 8) c c'
 | none,none=>true
 | _,_=>false
theorem Qmu {x y:Option Blk} (h:QnW x y=true):x=y:=by
 unfold QnW at h
 split at h
 ·simp only[Bool.and_eq_true,YW,decide_eq_true_eq,beq_iff_eq]at h
  rw[h.1.1,h.1.2,QdI (QaS 8) _ _ h.2]
 ·rfl
 ·cases h
def Qmv:Option Value→Value→Bool
 | some x,y=>QaZ 8 x y
 | none,_=>false
theorem Qji {x:Option Value} {y:Value} (h:Qmv x y=true):x=some y:=by
 cases x with
 | none=>simp[Qmv]at h
 | some x=>rw[QaS 8 x y h]
/-! ### Regions that draw their order -/
structure Stp where
 t:Env
 H:Qa
 c:Cls
 v:Value
def YY (P:Program) (call:Qu) (n:Nat) (ops:Array Oper):List Oper→Env→Qa→Option (List Stp×Env×Qa)
 | [],t,H=>some ([],t,H)
 | o::rest,t,H=>
  bif Vz P n o then
   match W2 n ops t o with
   | some true=>match aop P call o t H with
    | some (c,v,H')=>match YY P call n ops rest (Yp t o.dst v) H' with
     | some (l,r)=>some (⟨t,H,c,v⟩::l,r)
     | none=>none
    | none=>none
   | some false=>match YY P call n ops rest (Yp t o.dst undef) H with
    | some (l,r)=>some (⟨t,H,.pure,undef⟩::l,r)
    | none=>none
   | none=>none
  else none
def QnX (o:Oper):Bool:=
 match o.op with
 | .store .. => true
 | .lookup .. => true
 | .mapUpdate .. => true
 | .insert .. => true
 | .next .. => true
 | .entry .. => true
 | .call ⟨.builtin b,_,_⟩=>match b with | .len | .cap | .max | .min | .unsafeSliceData=>false | _=>true
 | .call _=>true
 | _=>false
def Wb (ops:Array Oper) (i:Nat):Bool:=match ops[i]? with | some o=>QnX o | none=>false
def Wc (l:List Stp) (H:Qa) (i:Nat):Qa:=match l[i]? with | some s=>s.H | none=>H
def VI (P:Program) (ops:Array Oper) (ms:List Nat) (l:List Stp) (H:Qa) (i:Nat) (s:Stp):Bool:=
 Nat.ble s.H.next (Wc l H (i+1)).next &&
 match s.c with
 | .pure=>true
 | .gen=>Wb ops i
 | .load=>match ops[i]? with
  | some o=>match o.op with
   | .load t x=>match ev (s.t) x with
    | .pointer (some a)=>(List.range ops.size).all fun k=>!(Wb ops k)||Ql ms i k||Ql ms k i ||
      (Qmv (WZ P t a (Wc l H k)) s.v&&Qmv (WZ P t a (Wc l H (k+1))) s.v&&QH s.H.next 6 s.v)
    | _=>false
   | _=>false
  | none=>false
 | .alloc b=>(List.range ops.size).all fun k=>!(Wb ops k)||!(Nat.blt i k)||Ql ms i k||QnW ((Wc l H (k+1)).get s.H.next) ((Wc l H k).get s.H.next)
def Qcs (p:Nat→Stp→Bool):Nat→List Stp→Bool
 | _,[]=>true
 | i,s::l=>p i s&&Qcs p (i+1) l
theorem Qdb {p:Nat→Stp→Bool}:∀ (l:List Stp) (i:Nat),Qcs p i l=true→∀ (j:Nat) s,l[j]? = some s→p (i+j) s=true
 | [],_,_,j,s,h=>by simp at h
 | x::l,i,h,j,s,hj=>by
  simp only[Qcs,Bool.and_eq_true]at h
  cases j with
  | zero=>simp at hj;subst hj;exact h.1
  | succ j=>have:=Qdb l (i+1) h.2 j s (by simpa using hj);rwa [show i+1+j=i+(j+1) by omega]at this
def Qgm:List Oper→List Stp→E→E
 | o::os,s::ss,e=>Qgm os ss (Qic e o.dst s.v)
 | _,_,e=>e
def QdJ (P:Program) (call:Qu) (n:Nat) (ops:Array Oper) (t:Env) (H:Qa):Option (List Stp×Env×Qa):=
 bif P.follows .mixedOrders&&GV ops (Wb ops) then
  match YY P call n ops ops.toList t H with
  | some (l,t1,H1)=>bif Qcs (VI P ops (Qq ops.toList []) l H1) 0 l then some (l,t1,H1) else none
  | none=>none
 else none
section
variable {P:Program} {n:Nat} {Q:Ex→Env→Qa→Prop}
def Qk5 (P:Program) (call:Qu) (n:Nat) (ops:Array Oper) (o:Oper) (s:Stp) (t':Env) (H':Qa):Prop:=
 Vz P n o=true∧t'=Yp s.t o.dst s.v∧((W2 n ops (s.t) o=some true∧aop P call o (s.t) s.H=some (s.c,s.v,H'))∨(W2 n ops (s.t) o=some false∧s.c=.pure∧s.v=undef∧H'=s.H))
theorem Qbd {call:Qu} {ops:Array Oper}:∀ (l:List Oper) (t:Env) (H:Qa) (tr:List Stp) (t1:Env) (H1:Qa),YY P call n ops l t H=some (tr,t1,H1)→
  tr.length=l.length∧(match tr[0]? with | some s=>s.t=t∧s.H=H | none=>t1=t∧H1=H)∧
  ∀ (j:Nat) o s,l[j]? = some o→tr[j]? = some s→Qk5 P call n ops o s (match tr[j+1]? with | some s'=>s'.t | none=>t1) (Wc tr H1 (j+1))
 | [],t,H,tr,t1,H1,h=>by simp only[YY,Option.some.injEq,Prod.mk.injEq]at h;obtain⟨rfl,rfl,rfl⟩:=h;exact⟨rfl,⟨rfl,rfl⟩,fun j o s hj=>by simp at hj⟩
 | o::rest,t,H,tr,t1,H1,h=>by
  have step:∀ (s:Stp) (l:List Stp) (t':Env) (H':Qa),s.t=t→s.H=H→YY P call n ops rest t' H'=some (l,t1,H1)→tr=s::l→Qk5 P call n ops o s t' H'→
    tr.length=(o::rest).length∧(match tr[0]? with | some s=>s.t=t∧s.H=H | none=>t1=t∧H1=H)∧
    ∀ (j:Nat) o' s,(o::rest)[j]? = some o'→tr[j]? = some s→Qk5 P call n ops o' s (match tr[j+1]? with | some s'=>s'.t | none=>t1) (Wc tr H1 (j+1)):=by
   intro s l t' H' e1 e2 hl htr hok
   obtain⟨i1,i2,i3⟩:=Qbd rest t' H' l t1 H1 hl
   subst htr
   refine⟨by simp[i1],by simp[e1,e2],fun j o' s' hj hs=>?_⟩
   cases j with
   | zero=>
    simp only[List.getElem?_cons_zero,Option.some.injEq]at hj hs
    subst hj;subst hs
    have:(match (s::l)[0+1]? with | some s'=>s'.t | none=>t1)=t'∧Wc (s::l) H1 (0+1)=H':=by
     simp only[Wc,Nat.zero_add,List.getElem?_cons_succ]
     cases hl0:l[0]? with
     | none=>rw[hl0]at i2;exact⟨i2.1,i2.2⟩
     | some s1=>rw[hl0]at i2;exact⟨i2.1,i2.2⟩
    rw[this.1,this.2]
    exact hok
   | succ j=>
    have:=i3 j o' s' (by simpa using hj) (by simpa using hs)
    simpa[Wc] using this
  unfold YY at h
  cases hok:Vz P n o with
  | false=>rw[hok]at h;cases h
  | true=>
   rw[hok]at h
   simp only[cond_true]at h
   split at h
   ·rename_i hw
    split at h
    ·rename_i c v H' ha
     split at h
     ·rename_i l r hl
      obtain⟨t1',H1'⟩:=r
      simp only[Option.some.injEq,Prod.mk.injEq]at h
      obtain⟨rfl,rfl,rfl⟩:=h
      exact step ⟨t,H,c,v⟩ l _ H' rfl rfl hl rfl ⟨hok,rfl,.inl ⟨hw,ha⟩⟩
     ·cases h
    ·cases h
   ·rename_i hw
    split at h
    ·rename_i l r hl
     obtain⟨t1',H1'⟩:=r
     simp only[Option.some.injEq,Prod.mk.injEq]at h
     obtain⟨rfl,rfl,rfl⟩:=h
     exact step ⟨t,H,.pure,undef⟩ l _ H rfl rfl hl rfl ⟨hok,rfl,.inr ⟨hw,rfl,rfl,rfl⟩⟩
    ·cases h
   ·cases h
theorem Qdc {ops:Array Oper} {g g':Nat→Bool} (h:∀i,i<ops.size→g i=true→g' i=true) (hd:GV ops g'=true):GV ops g=true:=by
 unfold GV at hd ⊢
 simp only[List.all_eq_true,List.mem_range]at hd ⊢
 intro j hj
 have h1:=hd j hj
 split
 ·rfl
 ·rename_i o ho
  rw[ho]at h1
  simp only[Bool.and_eq_true,List.all_eq_true,List.mem_range]at h1 ⊢
  refine⟨h1.1,fun i hi=>?_⟩
  have h2:=h1.2 i hi
  split
  ·rfl
  ·rename_i oi hoi
   rw[hoi]at h2
   simp only[Bool.and_eq_true]at h2 ⊢
   refine⟨h2.1,?_⟩
   have h3:=h2.2
   cases gi:g i with
   | false=>simp
   | true=>
    cases gj:g j with
    | false=>simp
    | true=>simpa[h i hi gi,h j hj gj] using h3
theorem Qe1 {call:Qu} (hcall:JO P call) {id:Nat} {ops:Array Oper} {t t1:Env} {H H1:Qa} {tr:List Stp} (h:QdJ P call n ops t H=some (tr,t1,H1)) (hq:Q .normal t1 H1):AWp P n (.region id ops true) Q t H:=by
 unfold QdJ at h
 cases hc:(P.follows .mixedOrders&&GV ops (Wb ops)) with
 | false=>rw[hc]at h;cases h
 | true=>
  rw[hc]at h
  simp only[cond_true]at h
  simp only[Bool.and_eq_true]at hc
  obtain⟨hm,hd⟩:=hc
  split at h
  ·rename_i l t1' H1' htr
   cases hall:Qcs (VI P ops (Qq ops.toList []) l H1') 0 l with
   | false=>rw[hall]at h;cases h
   | true=>
    rw[hall]at h
    simp only[cond_true,Option.some.injEq,Prod.mk.injEq]at h
    obtain⟨rfl,rfl,rfl⟩:=h
    obtain⟨s1,s2,s3⟩:=Qbd ops.toList t H l t1' H1' htr
    have hlen:l.length=ops.size:=by simpa using s1
    have hchk:∀ (j:Nat) s,l[j]? = some s→VI P ops (Qq ops.toList []) l H1' j s=true:=fun j s hj=>by have:=Qdb l 0 hall j s hj;rwa [Nat.zero_add]at this
    let As:Nat→Env:=fun i=>match l[i]? with | some s=>s.t | none=>t1'
    let Hs:Nat→Qa:=Wc l H1'
    let vs:Nat→Value:=fun i=>match l[i]? with | some s=>s.v | none=>undef
    let cls:Nat→Cls:=fun i=>match l[i]? with | some s=>s.c | none=>.pure
    have hat:∀ (i:Nat) o,ops[i]? = some o→∃s,l[i]? = some s:=fun i o ho=>by
     have:i<l.length:=by rw[hlen];exact(Array.getElem?_eq_some_iff.1 ho).1
     exact⟨l[i],List.getElem?_eq_getElem this⟩
    have hgen:∀i,i<ops.size→WD (cls i)=true→Wb ops i=true:=fun i hi hg=>by
     obtain⟨s,hs⟩:=hat i ops[i] (Array.getElem?_eq_getElem hi)
     have hcl:cls i=s.c:=by simp only[cls,hs]
     rw[hcl]at hg
     have hk:=hchk i s hs
     unfold VI at hk
     simp only[Bool.and_eq_true]at hk
     cases hsc:s.c with
     | gen=>rw[hsc]at hk;exact hk.2
     | _=>rw[hsc]at hg;cases hg
    have F:Yr P n ops As Hs vs cls:=by
     refine⟨fun i o ho=>?_,fun i hi=>?_,fun i o ho=>?_,fun i o ho=>?_,Qdc hgen hd⟩
     ·obtain⟨s,hs⟩:=hat i o ho
      have hok:=s3 i o s (by simpa using ho) hs
      have e1:As i=s.t:=by simp only[As,hs]
      have e2:vs i=s.v:=by simp only[vs,hs]
      rw[e1,e2,← hok.2.1]
     ·obtain⟨s,hs⟩:=hat i ops[i] (Array.getElem?_eq_getElem hi)
      have hk:=hchk i s hs
      unfold VI at hk
      simp only[Bool.and_eq_true]at hk
      have e1:Hs i=s.H:=by simp only[Hs,Wc,hs]
      rw[e1]
      simpa using hk.1
     ·obtain⟨s,hs⟩:=hat i o ho
      exact(s3 i o s (by simpa using ho) hs).1
     ·obtain⟨s,hs⟩:=hat i o ho
      have hok:=s3 i o s (by simpa using ho) hs
      have hk:=hchk i s hs
      have e1:As i=s.t:=by simp only[As,hs]
      have e2:vs i=s.v:=by simp only[vs,hs]
      have e3:Hs i=s.H:=by simp only[Hs,Wc,hs]
      have e4:cls i=s.c:=by simp only[cls,hs]
      unfold Qh1
      rw[e1,e2,e3,e4]
      rcases hok.2.2 with⟨hw,ha⟩ | ⟨hw,hc0,hv0,hH0⟩
      ·right
       refine⟨hw,?_⟩
       have hcl:=QaR hcall ha
       unfold VI at hk
       simp only[Bool.and_eq_true]at hk
       cases hsc:s.c with
       | pure=>rw[hsc]at hcl;exact hcl
       | gen=>rw[hsc]at hcl;exact hcl
       | alloc b=>
        rw[hsc]at hcl hk
        refine⟨hcl.1,hcl.2,fun k hk1 hik hgk ho'=>?_⟩
        have:=List.all_eq_true.1 hk.2 k (List.mem_range.2 hk1)
        have hb:Nat.blt i k=true:=by simpa using hik
        simp only[hgen k hk1 hgk,hb,ho',Bool.not_true,Bool.false_or]at this
        exact Qmu this
       | load=>
        rw[hsc]at hcl hk
        obtain⟨h1,tt,x,a,hop,ex,hl⟩:=hcl
        refine⟨h1,tt,x,a,hop,ex,hl,fun k hk1 hgk o1 o2=>?_⟩
        have hk2:=hk.2
        rw[ho]at hk2
        simp only[hop,ex]at hk2
        have:=List.all_eq_true.1 hk2 k (List.mem_range.2 hk1)
        simp only[hgen k hk1 hgk,o1,o2,Bool.not_true,Bool.false_or,Bool.and_eq_true]at this
        exact⟨Qji this.1.1,Qji this.1.2,this.2⟩
      ·left
       exact⟨hw,hv0,hH0,hc0⟩
    have hN:l[ops.size]? = none:=List.getElem?_eq_none (by omega)
    have eN:As ops.size=t1':=by simp only[As,hN]
    have eH:Hs ops.size=H1':=by simp only[Hs,Wc,hN]
    have e0:As 0=t∧Hs 0=H:=by
     cases hl0:l[0]? with
     | none=>rw[hl0]at s2;simp only[As,Hs,Wc,hl0,s2.1,s2.2,and_self]
     | some s=>rw[hl0]at s2;simp only[As,Hs,Wc,hl0,s2.1,s2.2,and_self]
    have:=Qg8 (id:=id) (Q:=Q) hm F (by rw[eN,eH];exact hq)
    rw[e0.1,e0.2]at this
    exact this
  ·cases h
theorem Gz {ops:Array Oper} {o:Oper} {rest:List Oper} {A:Env} {H:Qa} {b:Bool} {j:Nat} {want:Bool} (hg:o.guard=some (j,want)) (hw:W2 n ops A o=some b)
  (hyes:b=true→∃v H',Qd P o A H v H'∧GT P n ops rest Q (Yp A o.dst v) H') (hno:b=false→GT P n ops rest Q (Yp A o.dst undef) H) (hd:Vz P n o=true):GT P n ops (o::rest) Q A H:=by
 intro z ρ w a hs he
 have hwc:Region.wanted o (yielded ops a.tmps)=b:=by
  unfold W2 at hw
  rw[hg]at hw
  simp only at hw
  split at hw
  ·rename_i t hsl
   split at hw
   ·rename_i htn
    have hv:=he.tmps t htn
    have hlt:t<a.tmps.size:=by rw[he.size];exact htn
    rw[Array.getD_eq_getD_getElem?,Array.getElem?_eq_getElem hlt]at hv
    simp only[Option.getD_some]at hv
    have hsl':=hsl
    unfold KH at hsl'
    split at hw
    ·rename_i b0 eb
     cases hw
     rw[eb]at hv
     have hcb:a.tmps[t]? = some (.bool b0):=by rw[Array.getElem?_eq_getElem hlt,hv.plain_eq rfl]
     have hy:yielded ops a.tmps j=some b0:=by unfold yielded;rw[hsl'];simp[hcb]
     simp[Region.wanted,hg,hy]
    ·rename_i vs0 eb
     cases hw
     rw[eb]at hv
     obtain⟨vs1,e1,_⟩:=hv.tuple_inv
     have hcb:a.tmps[t]? = some (.tuple vs1):=by rw[Array.getElem?_eq_getElem hlt,e1]
     have hy:yielded ops a.tmps j=none:=by unfold yielded;rw[hsl'];simp[hcb]
     simp[Region.wanted,hg,hy]
    ·cases hw
   ·cases hw
  ·cases hw
 refine wpListIn_step fun K hK=>?_
 cases b with
 | true=>
  obtain⟨v,H',ho,h⟩:=hyes rfl
  rw[if_pos hwc]
  refine ho ρ w a hs (he.op hs hd) K _ (fun v' ρ' w' hv hst hs'=>?_) z
  have:=h z ρ' w' (a.put o.dst v') hs' ((he.step hst).putO (Qad hd) hv)
  exact hK _ _ (Qc0 hst this)
 | false=>
  rw[if_neg (by rw[hwc];simp)]
  exact⟨fun _ _=>trivial,hK _ _ (hno rfl z ρ w _ hs (he.putO (Qad hd) (.closed (by simp[undef,Za]))))⟩
end
inductive Sk where
 | i | b | s
inductive R where
 | mv (x:Operand)
 | pick (c x y:Operand)
 | bin (op:BinOp) (x y:Operand)
 | beq (ne:Bool) (x y:Operand)
 | eqs (ne:Bool) (ks:List Sk) (x y:Operand)
 | not (x:Operand)
 | toInt (k:IntKind) (x:Operand)
 | mkIf (t:TypeId) (x:Operand)
 | fld (agg:Bool) (off size:Nat) (x:Operand)
 | fldA (off:Nat) (x:Operand)
 | idxS (size:Nat) (x ix:Operand)
 | chr (x ix:Operand)
 | ext (x:Operand) (i:Nat)
 | asrt (t:TypeId) (z:Value) (ok:Bool) (x:Operand)
 | build (z:List Value) (parts:List (Nat×Nat×Operand))
 | bslice (e size len:Nat) (z:List Value) (parts:List (Nat×Operand))
 | alloc (e:TypeId) (z:List Value)
 | box (e:TypeId) (x:Operand)
 | mkSl (e size bytes:Nat) (z:List Value) (x y:Operand)
 | slS (size:Nat) (x:Operand) (lo hi:Option Operand)
 | ld (agg:Bool) (size:Nat) (x:Operand)
 | st (size:Nat) (x y:Operand)
 | stf (size:Nat) (x y:Operand) (os:List Operand)
 | lenS (x:Operand)
 | lenT (x:Operand)
 | app (e size bytes:Nat) (x y:Operand)
 | gen (o:Op)
 | call (f:FuncId) (args:List Operand)
 | callv (c:Operand) (args:List Operand)
 | callF (f:FuncId) (args os:List Operand)
def Zh:Qu:=⟨fun _ _ _=>none,fun _ _ _=>none,fun _ _ _=>none⟩
def Qdd (f:Operand→Value):List Value→List (Nat×Nat×Operand)→Option (List Value)
 | cells,[]=>some cells
 | cells,(off,size,x)::rest=>if(f x).cells.toList.length=size∧off+size≤cells.length then Qdd f (splice cells off (f x).cells.toList) rest else none
def KB (e size bytes:Nat) (s x:Value) (H:Qa):Option (Value×Qa):=
 match VB size x H with
 | none=>none
 | some (m,news)=>
  if news.all (·.oneCell')=true then
   match s with
   | .slice none 0 0=>
    if m=0 then some (.slice none 0 0,H) else
    if m≤9223372036854775807∧m * bytes≤140737488355328 then some (.slice (some ⟨H.next,0,none⟩) m (UNK+size),H.push (.cells news e false)) else none
   | .slice (some a) len cap=>
    if m=0 then(if UNK≤cap∨len≤cap then some (.slice (some a) len cap,H) else none) else
    match H.get a.block with
    | some (.cells c e' ro)=>
     if a.off+len * size≤c.length∧len+m≤9223372036854775807∧(len+m) * bytes≤140737488355328 then
      if UNK≤cap then
       if ro=false∧e'=e∧a.off=0∧a.off+len * size=c.length then some (.slice (some ⟨H.next,0,none⟩) (len+m) (UNK+size),(H.kill a.block).push (.cells (c.drop a.off++news) e false))
       else if ro=false∧cap=UNK+size∧a.off+(len+m) * size≤c.length then some (.slice (some a) (len+m) cap,H.set a.block (.cells (splice c (a.off+len * size) news) e' false)) else none
      else if len+m≤cap then
       (if ro=false∧a.off+(len+m) * size≤c.length then some (.slice (some a) (len+m) cap,H.set a.block (.cells (splice c (a.off+len * size) news) e' false)) else none)
      else some (.slice (some ⟨H.next,0,none⟩) (len+m) (UNK+size),H.push (.cells ((c.drop a.off).take (len * size)++news) e false))
     else none
    | _=>none
   | _=>none
  else none
theorem Qid (e:TypeId) (inf:TypeInfo) (s x:Value) (H:Qa):QaO e inf s x H=KB e inf.size inf.bytes s x H:=rfl
def Qe2:Sk→Value→Value→Option Bool
 | .i,.int k a,.int k' b=>if k=k' then some (a==b) else none
 | .b,.bool a,.bool b=>some (a==b)
 | .s,.string a,.string b=>some (bl a==bl b)
 | _,_,_=>none
def YK:List Sk→Array Value→Array Value→Nat→Option Bool
 | [],_,_,_=>some true
 | k::ks,xs,ys,i=>match xs[i]?,ys[i]? with
  | some a,some b=>match Qe2 k a b with
   | some true=>YK ks xs ys (i+1)
   | r=>r
  | _,_=>none
def Zi (op:BinOp) (x y:Value):Option Value:=
 match x,y with
 | .int ik a,.int ik' b=>match op with
  | .shl | .shr=>JQ op ik a b
  | _=>if ik=ik' then Xu op ik a b else none
 | .string a,.string b=>KL op (bl a) (bl b)
 | _,_=>none
def Qao (H:Qa):Option Value→Option (Value×Qa)
 | some v=>some (v,H)
 | none=>none
def Qfz (f:Operand→Value):Option Operand→Option (Option Int)
 | none=>some none
 | some x=>match f x with | .int _ m=>some (some m) | _=>none
def rop (P:Program) (r:R) (A:Env) (H:Qa):Option (Value×Qa):=
 match r with
 | .mv x=>some (ev A x,H)
 | .pick c x y=>match ev A c with | .bool t=>some (bif t then ev A x else ev A y,H) | _=>none
 | .bin op x y=>Qao H (Zi op (ev A x) (ev A y))
 | .beq ne x y=>match ev A x,ev A y with
  | .bool a,.bool b=>some (.bool (bif ne then !(a==b) else a==b),H)
  | _,_=>none
 | .eqs ne m x y=>match ev A x,ev A y with
  | .agg xs,.agg ys=>match YK m xs ys 0 with | some b=>some (.bool (bif ne then !b else b),H) | none=>none
  | _,_=>none
 | .not x=>match ev A x with | .bool b=>some (.bool !b,H) | _=>none
 | .toInt k x=>match ev A x with | .int _ m=>some (.int k (k.wrap m),H) | _=>none
 | .mkIf t x=>some (.iface t (ev A x),H)
 | .fld agg off size x=>match ev A x with
  | .agg cs=>Qao H (bif agg then some (.agg (cs.extract off (off+size))) else cs[off]?)
  | _=>none
 | .fldA off x=>match ev A x with | .pointer (some a)=>some (.pointer (some ⟨a.block,a.off+off,none⟩),H) | _=>none
 | .idxS size x ix=>match ev A ix,ev A x with
  | .int _ m,.slice (some a) len _=>if 0≤m∧m<len then some (.pointer (some ⟨a.block,a.off+m.toNat * size,none⟩),H) else none
  | _,_=>none
 | .chr x ix=>match ev A ix,ev A x with
  | .int _ m,.string s=>if 0≤m then(match (bl s)[m.toNat]? with | some b=>some (.int .u8 b.toNat,H) | none=>none) else none
  | _,_=>none
 | .ext x i=>match ev A x with | .tuple vs=>Qao H vs[i]? | _=>none
 | .asrt t z ok x=>match ev A x with
  | .nilIface=>bif ok then some (.tuple #[z,.bool false],H) else none
  | .iface u v=>if u=t then some (bif ok then .tuple #[v,.bool true] else v,H) else(bif ok then some (.tuple #[z,.bool false],H) else none)
  | _=>none
 | .build z parts=>match Qdd (ev A) z parts with | some r=>some (.agg r.toArray,H) | none=>none
 | .bslice e size len z parts=>match Gw (fun i=>some (i * size,size)) z (parts.map fun p=>(p.1,ev A p.2)) with
  | some r=>some (.slice (some ⟨H.next,0,none⟩) len len,H.push (.cells r e false))
  | none=>none
 | .alloc e z=>some (.pointer (some ⟨H.next,0,none⟩),H.push (.cells z e false))
 | .box e x=>some (.pointer (some ⟨H.next,0,none⟩),H.push (.cells (ev A x).cells.toList e false))
 | .mkSl e size bytes z x y=>match ev A x,ev A y with
  | .int .i64 l,.int .i64 c=>if 0≤l∧l≤c∧(bytes:Int) * c≤281474976710656∧c≤9223372036854775807 then
    some (.slice (some ⟨H.next,0,none⟩) l.toNat c.toNat,H.push (.cells (Xn z.toArray (c.toNat * size)) e false)) else none
  | _,_=>none
 | .slS size x lo hi=>match Qfz (ev A) lo,Qfz (ev A) hi with
  | some l,some h=>Qao H (ZL size (ev A x) l h none)
  | _,_=>none
 | .ld agg size x=>match ev A x with
  | .pointer (some a)=>match H.get a.block with
   | some (.cells c _ _)=>bif agg then(if a.off+size≤c.length then some (.agg ((c.drop a.off).take size).toArray,H) else none) else Qao H c[a.off]?
   | _=>none
  | _=>none
 | .st size x y=>match ev A x with
  | .pointer (some a)=>match H.get a.block with
   | some (.cells c e false)=>if(ev A y).cells.toList.length=size∧a.off+(ev A y).cells.toList.length≤c.length∧(ev A y).cells.toList.all (·.oneCell')=true then some (undef,H.set a.block (.cells (splice c a.off (ev A y).cells.toList) e false)) else none
   | _=>none
  | _=>none
 | .stf size x y _=>match ev A x with
  | .pointer (some a)=>match H.get a.block with
   | some (.cells c e false)=>if(ev A y).cells.toList.length=size∧a.off+(ev A y).cells.toList.length≤c.length∧(ev A y).cells.toList.all (·.oneCell')=true then some (undef,H.set a.block (.cells (splice c a.off (ev A y).cells.toList) e false)) else none
   | _=>none
  | _=>none
 | .lenS x=>match ev A x with | .slice _ m _=>some (.int .i64 (m:Int),H) | _=>none
 | .lenT x=>match ev A x with | .string s=>some (.int .i64 ((bl s).length:Int),H) | _=>none
 | .app e size bytes x y=>KB e size bytes (ev A x) (ev A y) H
 | .gen o=>match aop P Zh ⟨none,o,0, "",#[],none⟩ A H with | some (_,v,H')=>some (v,H') | none=>none
 | .call _ _=>none
 | .callv _ _=>none
 | .callF _ _ _=>none
/-! ### Resolving -/
def QbU (P:Program):List Field→Nat→Option (List Sk)
 | [],_=>some []
 | fd::fs,i=>
  if fd.name = "_" ∨ fd.offset≠i then none else
  match P.info? fd.type,QbU P fs (i+1) with
  | some _,some ks=>match P.underlying fd.type with
   | some (.int _)=>some (.i::ks)
   | some .bool=>some (.b::ks)
   | some .string=>some (.s::ks)
   | _=>none
  | _,_=>none
def QbV (pl:Array (Nat×Nat)):List (Nat×Operand)→Option (List (Nat×Nat×Operand))
 | []=>some []
 | (i,x)::rest=>match pl[i]?,QbV pl rest with
  | some (off,size),some l=>some ((off,size,x)::l)
  | _,_=>none
def QV (P:Program) (op:Op):R:=
 match op with
 | .move x=>.mv x
 | .assign x=>.mv x
 | .pick c x y=>.pick c x y
 | .binOp b t x y _=>
  match P.underlying t with
  | some (.int _) | some .string=>.bin b x y
  | some .bool=>match b with | .eql=>.beq false x y | .neq=>.beq true x y | _=>.gen op
  | some (.struct fs)=>if P.stoodInHeld t||P.eqGuardType P.depth t then .gen op else match QbU P fs.toList 0 with
   | some ks=>(match b with | .eql=>.eqs false ks x y | .neq=>.eqs true ks x y | _=>.gen op)
   | none=>.gen op
  | _=>.gen op
 | .unOp .not _ x=>.not x
 | .convert src dst x=>match P.underlying src,P.underlying dst with
  | some (.int _),some (.int k)=>.toInt k x
  | _,_=>.gen op
 | .makeInterface t x=>match P.underlying t with
  | some (.interface _)=>.gen op
  | some _=>.mkIf t x
  | none=>.gen op
 | .field t x f=>match P.underlying t with
  | some (.struct fs)=>match fs[f]? with
   | some fd=>match P.underlying fd.type,P.info? fd.type with
    | some td,some inf=>.fld (YP td) fd.offset inf.size x
    | _,_=>.gen op
   | none=>.gen op
  | _=>.gen op
 | .fieldAddr t x f=>match P.underlying t with
  | some (.struct fs)=>match fs[f]? with
   | some fd=>match P.info? fd.type with
    | some inf=>if inf.size=0 then .gen op else .fldA fd.offset x
    | none=>.gen op
   | none=>.gen op
  | _=>.gen op
 | .indexAddr t x ix=>match P.underlying t with
  | some (.slice e)=>match P.info? e with
   | some inf=>.idxS inf.size x ix
   | none=>.gen op
  | _=>.gen op
 | .index t x ix=>match P.underlying t with
  | some .string=>.chr x ix
  | _=>.gen op
 | .extract x i=>.ext x i
 | .typeAssert x _ t ok=>match P.underlying t,P.info? t with
  | some td,some inf=>match inf.zero with
   | some z=>if Za z then(match td with | .interface _=>.gen op | _=>.asrt t z ok x) else .gen op
   | none=>.gen op
  | _,_=>.gen op
 | .build t parts=>match P.underlying t,P.info? t with
  | some (.struct fs),some inf=>match inf.zero,QbP P fs with
   | some z,some pl=>if z.cells.toList.all plain then(match QbV pl parts.toList with | some l=>.build z.cells.toList l | none=>.gen op) else .gen op
   | _,_=>.gen op
  | _,_=>.gen op
 | .buildSlice t len parts=>match P.underlying t with
  | some (.slice e)=>match P.info? e with
   | some inf=>match inf.zero with
    | some z=>if z.cells.toList.all plain&&Nat.blt 0 z.cells.size&&Nat.ble len 16777216&&Nat.ble (len * inf.size) 16777216 then .bslice e inf.size len (Xn z.cells (len * inf.size)) parts.toList else .gen op
    | none=>.gen op
   | none=>.gen op
  | _=>.gen op
 | .alloc e=>match P.info? e with
  | some inf=>match inf.zero with
   | some z=>if z.cells.toList.all plain then .alloc e z.cells.toList else .gen op
   | none=>.gen op
  | none=>.gen op
 | .makeSlice t x y=>match P.underlying t with
  | some (.slice e)=>match P.info? e with
   | some inf=>match inf.zero with
    | some z=>if VA P e inf z then .mkSl e inf.size inf.bytes z.cells.toList x y else .gen op
    | none=>.gen op
   | none=>.gen op
  | _=>.gen op
 | .slice t x lo hi none=>match P.underlying t with
  | some (.slice e)=>match P.info? e with
   | some inf=>.slS inf.size x lo hi
   | none=>.gen op
  | _=>.gen op
 | .load t x=>match P.underlying t,P.info? t with
  | some d,some inf=>.ld (YP d) inf.size x
  | _,_=>.gen op
 | .store t x y=>match P.info? t with
  | some inf=>.st inf.size x y
  | none=>.gen op
 | .call ⟨.builtin .len,args,ts⟩=>match args.toList,ts.toList with
  | [x],[t]=>match P.underlying t with
   | some (.slice _)=>.lenS x
   | some .string=>.lenT x
   | _=>.gen op
  | _,_=>.gen op
 | .call ⟨.builtin .append,args,ts⟩=>match args.toList,ts.toList with
  | [x,y],[t,t2]=>match P.underlying t,P.underlying t2 with
   | some (.slice e),some td=>match P.info? e with
    | some inf=>match inf.zero with
     | some z=>if Qah td&&VA P e inf z then .app e inf.size inf.bytes x y else .gen op
     | none=>.gen op
    | none=>.gen op
   | _,_=>.gen op
  | _,_=>.gen op
 | .call ⟨.value (.func f),args,_⟩=>.call f args.toList
 | .call ⟨.value c,args,_⟩=>.callv c args.toList
 | .box e x=>.box e x
 | op=>.gen op
section
variable {P:Program} {A:Env} {H:Qa}
def QfA (P:Program) (op:Op) (A:Env) (H:Qa) (v:Value) (H':Qa):Prop:=∃c,aop P Zh ⟨none,op,0, "",#[],none⟩ A H=some (c,v,H')
theorem Qj1 {op:Op} {v:Value} {H':Qa} (h:rop P (.gen op) A H=some (v,H')):QfA P op A H v H':=by
 simp only[rop]at h
 split at h
 ·rename_i c v1 H1 he
  simp only[Option.some.injEq,Prod.mk.injEq]at h
  obtain⟨rfl,rfl⟩:=h
  exact⟨c,he⟩
 ·cases h
theorem Vg {r:Option Value} {v:Value} {H':Qa} (h:Qao H r=some (v,H')):r=some v∧H'=H:=by
 cases r with
 | none=>cases h
 | some u=>simp[Qao]at h;exact⟨by rw[h.1],h.2.symm⟩
theorem Qj2 {op:BinOp} {t:TypeId} {x y v:Value} {k:Bool} (h:Zi op x y=some v):Qe0 P k op t x y=some v:=by
 unfold Zi at h
 split at h
 ·exact h
 ·exact h
 ·cases h
def Qmw (P:Program) (t:TypeId):Sk→Prop
 | .i=>∃ik,P.underlying t=some (.int ik)
 | .b=>P.underlying t=some .bool
 | .s=>P.underlying t=some .string
theorem Qhe {f:Nat} {t:TypeId} {k:Sk} {a b:Value} {r:Bool} (h:Qe2 k a b=some r) (hk:Qmw P t k):aeq P (f+1) t a b=some r:=by
 unfold Qe2 at h
 split at h
 ·obtain⟨ik,hu⟩:=hk;simp only[aeq,hu];exact h
 ·simp only[Qmw]at hk;simp only[aeq,hk];exact h
 ·simp only[Qmw]at hk;simp only[aeq,hk];exact h
 ·cases h
theorem Qde {f:Nat}:∀ (fs:List Field) (i:Nat) (ks:List Sk) (xs ys:Array Value) (b:Bool),QbU P fs i=some ks→YK ks xs ys i=some b→X9 P (aeq P (f+1)) fs xs ys=some b
 | [],i,ks,xs,ys,b,hs,h=>by simp only[QbU,Option.some.injEq]at hs;subst hs;simpa[YK,X9] using h
 | fd::fs,i,ks,xs,ys,b,hs,h=>by
  unfold QbU at hs
  split at hs
  ·cases hs
  ·rename_i h1
   simp only[not_or,Decidable.not_not]at h1
   split at hs
   ·rename_i inf ks1 hi hs1
    have main:∀k,(∀zs:Array Value,Gv P fd.type zs fd.offset=zs[i]?)→Qmw P fd.type k→
      YK (k::ks1) xs ys i=some b→X9 P (aeq P (f+1)) (fd::fs) xs ys=some b:=fun k hap hk h=>by
     unfold YK at h
     unfold X9
     rw[if_neg h1.1,hap,hap]
     split at h
     ·rename_i a c ha hc
      rw[ha,hc]
      simp only
      split at h
      ·rename_i he
       rw[Qhe he hk]
       exact Qde fs (i+1) ks1 xs ys b hs1 h
      ·rename_i r hr
       have:=Qhe (f:=f) h hk
       rw[this]
       cases b with
       | true=>exact absurd h hr
       | false=>rfl
     ·cases h
    split at hs
    ·rename_i ik hu;cases hs;exact main .i (fun zs=>by simp[Gv,hu,hi,YP,h1.2]) ⟨ik,hu⟩ h
    ·rename_i hu;cases hs;exact main .b (fun zs=>by simp[Gv,hu,hi,YP,h1.2]) hu h
    ·rename_i hu;cases hs;exact main .s (fun zs=>by simp[Gv,hu,hi,YP,h1.2]) hu h
    ·cases hs
   ·cases hs
theorem Qdf {pl:Array (Nat×Nat)}:∀ (parts:List (Nat×Operand)) (l:List (Nat×Nat×Operand)) (cells:List Value),QbV pl parts=some l→Gw (pl[·]?) cells (parts.map fun p=>(p.1,ev A p.2))=Qdd (ev A) cells l
 | [],l,cells,h=>by simp only[QbV,Option.some.injEq]at h;subst h;rfl
 | (i,x)::rest,l,cells,h=>by
  unfold QbV at h
  split at h
  ·rename_i off size l1 hp hr
   cases h
   simp only[List.map_cons,Gw,Qdd,hp]
   rw[Qdf rest l1 _ hr]
  ·cases h
set_option maxHeartbeats 2000000 in
theorem Qie {op:Op} {v:Value} {H':Qa} (h:rop P (QV P op) A H=some (v,H')):QfA P op A H v H':=by
 have gen:rop P (.gen op) A H=some (v,H')→QfA P op A H v H':=Qj1
 unfold QV at h
 split at h
 case h_1 x=>simp only[rop,Option.some.injEq,Prod.mk.injEq]at h;obtain⟨rfl,rfl⟩:=h;exact⟨_,rfl⟩
 case h_2 x=>simp only[rop,Option.some.injEq,Prod.mk.injEq]at h;obtain⟨rfl,rfl⟩:=h;exact⟨_,rfl⟩
 case h_3 c x y=>
  simp only[rop]at h
  split at h
  ·rename_i t ht
   simp only[Option.some.injEq,Prod.mk.injEq]at h;obtain⟨rfl,rfl⟩:=h
   exact⟨.pure,by simp only[aop,Qgj,ht]⟩
  ·cases h
 case h_4 b t x y yt=>
  have bin:rop P (.bin b x y) A H=some (v,H')→QfA P (.binOp b t x y yt) A H v H':=fun h=>by
   obtain⟨h1,rfl⟩:=Vg h
   exact⟨.pure,by simp only[aop,Ky,Qj2 h1,WE]⟩
  split at h
  ·exact bin h
  ·exact bin h
  ·rename_i hu
   have beq:∀ne:Bool,(b=bif ne then .neq else .eql)→rop P (.beq ne x y) A H=some (v,H')→QfA P (.binOp b t x y yt) A H v H':=fun ne hb h=>by
    simp only[rop]at h
    split at h
    ·rename_i p q hp hq
     simp only[Option.some.injEq,Prod.mk.injEq]at h;obtain⟨rfl,rfl⟩:=h
     refine⟨.pure,?_⟩
     have hg:∀k,XP P k t (.bool p) (.bool q)=true:=fun k=>by simp[XP,QaY,QeX]
     simp only[aop,Ky,Qe0,hp,hq,QbQ,ZN,hg,Bool.and_self,if_true,hb]
     cases ne<;>simp[aeq,hu,WE]
    ·cases h
   split at h
   ·exact beq false rfl h
   ·exact beq true rfl h
   ·exact gen h
  ·rename_i fs hu
   split at h
   ·exact gen h
   ·rename_i hc
    simp only[Bool.or_eq_true,not_or,Bool.not_eq_true]at hc
    split at h
    ·rename_i ks hks
     have eqs:∀ne:Bool,(b=bif ne then .neq else .eql)→rop P (.eqs ne ks x y) A H=some (v,H')→QfA P (.binOp b t x y yt) A H v H':=fun ne hb h=>by
      simp only[rop]at h
      split at h
      ·rename_i p q hp hq
       split at h
       ·rename_i r hr
        simp only[Option.some.injEq,Prod.mk.injEq]at h;obtain⟨rfl,rfl⟩:=h
        refine⟨.pure,?_⟩
        have hg:∀k,XP P k t (.agg p) (.agg q)=true:=fun k=>by simp[XP,QaY,hc.2]
        have ha:=Qde (f:=18) fs.toList 0 ks p q r hks hr
        have ha2:aeq P 20 t (.agg p) (.agg q)=some r:=by
         unfold aeq
         rw[hu]
         simp only[hc.1,Bool.false_eq_true,if_false]
         exact ha
        simp only[aop,Ky,Qe0,hp,hq,QbQ,ZN,hg,Bool.and_self,if_true,hb]
        cases ne<;>simp[ha2,WE]
       ·cases h
      ·cases h
     split at h
     ·exact eqs false rfl h
     ·exact eqs true rfl h
     ·exact gen h
    ·exact gen h
  ·exact gen h
 case h_5 t x=>
  simp only[rop]at h
  split at h
  ·rename_i p hp
   simp only[Option.some.injEq,Prod.mk.injEq]at h;obtain⟨rfl,rfl⟩:=h
   exact⟨.pure,by simp only[aop,Qgk,hp,QdT,WE]⟩
  ·cases h
 case h_6 src dst x=>
  split at h
  ·rename_i ik k hs hd
   simp only[rop]at h
   split at h
   ·rename_i k0 m hm
    simp only[Option.some.injEq,Prod.mk.injEq]at h;obtain⟨rfl,rfl⟩:=h
    exact⟨.pure,by simp only[aop,JD,hs,hd,hm,QdB,WE]⟩
   ·cases h
  ·exact gen h
 case h_7 t x=>
  split at h
  ·exact gen h
  ·rename_i td hni hu
   simp only[rop,Option.some.injEq,Prod.mk.injEq]at h;obtain⟨rfl,rfl⟩:=h
   refine⟨.pure,?_⟩
   simp only[aop,Zb,hu]
  ·exact gen h
 case h_8 t x f=>
  split at h
  ·rename_i fs hu
   split at h
   ·rename_i fd hf
    split at h
    ·rename_i td inf hd hi
     simp only[rop]at h
     split at h
     ·rename_i cs hcs
      obtain⟨h1,rfl⟩:=Vg h
      refine⟨.pure,?_⟩
      simp only[aop,QdD,hu,hcs,hf,Gv,hd,hi]
      cases hag:YP td<;>rw[hag]at h1<;>simp only[cond_true,cond_false]at h1<;>simp[h1,WE]
     ·cases h
    ·exact gen h
   ·exact gen h
  ·exact gen h
 case h_9 t x f=>
  split at h
  ·rename_i fs hu
   split at h
   ·rename_i fd hf
    split at h
    ·rename_i inf hi
     split at h
     ·exact gen h
     ·rename_i hz
      simp only[rop]at h
      split at h
      ·rename_i a ha
       simp only[Option.some.injEq,Prod.mk.injEq]at h;obtain⟨rfl,rfl⟩:=h
       refine⟨.pure,?_⟩
       have:Nat.beq inf.size 0=false:=by simp[YW,hz]
       simp only[aop,Zx,hu,ha,hf,hi,this,cond_false]
      ·cases h
    ·exact gen h
   ·exact gen h
  ·exact gen h
 case h_10 t x ix=>
  split at h
  ·rename_i e hu
   split at h
   ·rename_i inf hi
    simp only[rop]at h
    split at h
    ·rename_i ik m a len cap hm ha
     split at h
     ·rename_i hc
      simp only[Option.some.injEq,Prod.mk.injEq]at h;obtain⟨rfl,rfl⟩:=h
      exact⟨.pure,by simp only[aop,Ys,hm,hu,ha,hi,hc,and_self,if_true]⟩
     ·cases h
    ·cases h
   ·exact gen h
  ·exact gen h
 case h_11 t x ix=>
  split at h
  ·rename_i hu
   simp only[rop]at h
   split at h
   ·rename_i ik m s hm hs
    split at h
    ·rename_i h0
     split at h
     ·rename_i b hb
      simp only[Option.some.injEq,Prod.mk.injEq]at h;obtain⟨rfl,rfl⟩:=h
      exact⟨.pure,by simp only[aop,QdE,hm,hu,hs,h0,if_true,hb]⟩
     ·cases h
    ·cases h
   ·cases h
  ·exact gen h
 case h_12 x i=>
  simp only[rop]at h
  split at h
  ·rename_i vs hv
   obtain⟨h1,rfl⟩:=Vg h
   exact⟨.pure,by simp only[aop,QaP,hv,h1,WE]⟩
  ·cases h
 case h_13 x xt t ok=>
  split at h
  ·rename_i td inf hu hi
   split at h
   ·rename_i z hz
    split at h
    ·rename_i hcl
     split at h
     ·exact gen h
     ·rename_i hni
      simp only[rop]at h
      refine⟨.pure,?_⟩
      simp only[aop,VH,QdC,hu,hi,hz,hcl,if_true]
      split at h
      ·rename_i hx
       cases ok with
       | true=>
        simp only[cond_true,Option.some.injEq,Prod.mk.injEq]at h;obtain⟨rfl,rfl⟩:=h
        simp only[hx]
        cases td<;>first | rfl | exact absurd rfl (hni _)
       | false=>cases h
      ·rename_i u w hx
       simp only[hx]
       split at h
       ·rename_i e
        simp only[Option.some.injEq,Prod.mk.injEq]at h;obtain⟨rfl,rfl⟩:=h
        cases td<;>first | exact absurd rfl (hni _) | (cases ok<;>simp[e,WE])
       ·rename_i e
        cases ok with
        | true=>
         simp only[cond_true,Option.some.injEq,Prod.mk.injEq]at h;obtain⟨rfl,rfl⟩:=h
         cases td<;>first | exact absurd rfl (hni _) | simp[e,WE]
        | false=>cases h
      ·cases h
    ·exact gen h
   ·exact gen h
  ·exact gen h
 case h_14 t parts=>
  split at h
  ·rename_i fs inf hu hi
   split at h
   ·rename_i z pl hz hpl
    split at h
    ·rename_i hp
     split at h
     ·rename_i l hl
      simp only[rop]at h
      split at h
      ·rename_i r hr
       simp only[Option.some.injEq,Prod.mk.injEq]at h;obtain⟨rfl,rfl⟩:=h
       have:=Qdf (A:=A) parts.toList l z.cells.toList hl
       rw[hr]at this
       exact⟨.pure,by simp only[aop,QdF,hu,hi,hz,hpl,hp,cond_true,Xr,this,Option.map_some,WE]⟩
      ·cases h
     ·exact gen h
    ·exact gen h
   ·exact gen h
  ·exact gen h
 case h_15 t len parts=>
  split at h
  ·rename_i e hu
   split at h
   ·rename_i inf hi
    split at h
    ·rename_i z hz
     split at h
     ·rename_i hc
      simp only[rop]at h
      split at h
      ·rename_i r hr
       simp only[Option.some.injEq,Prod.mk.injEq]at h;obtain⟨rfl,rfl⟩:=h
       exact⟨.alloc _,by simp only[aop,Kz,hu,hi,hz,hc,cond_true,Xr,hr];rfl⟩
      ·cases h
     ·exact gen h
    ·exact gen h
   ·exact gen h
  ·exact gen h
 case h_16 e=>
  split at h
  ·rename_i inf hi
   split at h
   ·rename_i z hz
    split at h
    ·rename_i hp
     simp only[rop,Option.some.injEq,Prod.mk.injEq]at h;obtain⟨rfl,rfl⟩:=h
     exact⟨.alloc _,by simp only[aop,QdG,hi,hz,hp,cond_true];rfl⟩
    ·exact gen h
   ·exact gen h
  ·exact gen h
 case h_17 t x y=>
  split at h
  ·rename_i e hu
   split at h
   ·rename_i inf hi
    split at h
    ·rename_i z hz
     split at h
     ·rename_i hel
      simp only[rop]at h
      split at h
      ·rename_i l c hl hc
       split at h
       ·rename_i hcond
        simp only[Option.some.injEq,Prod.mk.injEq]at h;obtain⟨rfl,rfl⟩:=h
        refine⟨.alloc (.cells (Xn z.cells (c.toNat * inf.size)) e false),?_⟩
        simp only[aop,Gy,hu,hl,hc,hi,hz]
        rw[if_pos ⟨hel,hcond⟩]
       ·cases h
      ·cases h
     ·exact gen h
    ·exact gen h
   ·exact gen h
  ·exact gen h
 case h_18 t x lo hi=>
  split at h
  ·rename_i e hu
   split at h
   ·rename_i inf hin
    simp only[rop]at h
    split at h
    ·rename_i l hh hl hhi
     obtain⟨h1,rfl⟩:=Vg h
     have e1:Qp A lo=some l:=by rw[← hl];cases lo<;>rfl
     have e2:Qp A hi=some hh:=by rw[← hhi];cases hi<;>rfl
     have e3:Qp A none=some none:=rfl
     exact⟨.pure,by simp only[aop,QaQ,hu,hin,e1,e2,e3,Option.isNone_none,Bool.true_or,if_true,h1,WE]⟩
    ·cases h
   ·exact gen h
  ·exact gen h
 case h_19 t x=>
  split at h
  ·rename_i d inf hu hi
   simp only[rop]at h
   split at h
   ·rename_i a ha
    split at h
    ·rename_i c e ro hg
     cases hag:YP d with
     | true=>
      rw[hag]at h
      simp only[cond_true]at h
      split at h
      ·rename_i hle
       simp only[Option.some.injEq,Prod.mk.injEq]at h;obtain⟨rfl,rfl⟩:=h
       exact⟨.load,by simp only[aop,Qd9,ha,WZ,hu,hi,hg,hag,if_true,hle]⟩
      ·cases h
     | false=>
      rw[hag]at h
      obtain⟨h1,rfl⟩:=Vg h
      exact⟨.load,by simp only[aop,Qd9,ha,WZ,hu,hi,hg,hag,Bool.false_eq_true,if_false,h1]⟩
    ·cases h
   ·cases h
  ·exact gen h
 case h_20 t x y=>
  split at h
  ·rename_i inf hi
   simp only[rop]at h
   split at h
   ·rename_i a ha
    split at h
    ·rename_i c e hg
     split at h
     ·rename_i hc
      simp only[Option.some.injEq,Prod.mk.injEq]at h;obtain⟨rfl,rfl⟩:=h
      refine⟨.gen,?_⟩
      simp only[aop,QbS,ha,Qbk,hi,hg]
      rw[if_pos hc]
     ·cases h
    ·cases h
   ·cases h
  ·exact gen h
 case h_21 args ts=>
  split at h
  ·rename_i x t ha ht
   split at h
   ·rename_i e hu
    simp only[rop]at h
    split at h
    ·rename_i q m c hx
     simp only[Option.some.injEq,Prod.mk.injEq]at h;obtain⟨rfl,rfl⟩:=h
     exact⟨.pure,by simp only[aop,GW,ha,ht,QkL,hu,hx]⟩
    ·cases h
   ·rename_i hu
    simp only[rop]at h
    split at h
    ·rename_i s hx
     simp only[Option.some.injEq,Prod.mk.injEq]at h;obtain⟨rfl,rfl⟩:=h
     exact⟨.pure,by simp only[aop,GW,ha,ht,QkL,hu,hx]⟩
    ·cases h
   ·exact gen h
  ·exact gen h
 case h_22 args ts=>
  split at h
  ·rename_i x y t t2 ha ht
   split at h
   ·rename_i e td hu hu2
    split at h
    ·rename_i inf hi
     split at h
     ·rename_i z hz
      split at h
      ·rename_i hc
       simp only[rop]at h
       refine⟨.gen,?_⟩
       simp only[aop,GW,ha,ht,hu,hu2,hi,hz,hc,cond_true,Qid,h,Option.map_some]
      ·exact gen h
     ·exact gen h
    ·exact gen h
   ·exact gen h
  ·exact gen h
 case h_23=>cases h
 case h_24=>cases h
 case h_25 e x=>simp only[rop,Option.some.injEq,Prod.mk.injEq]at h;obtain⟨rfl,rfl⟩:=h;exact⟨.alloc _,rfl⟩
 case h_26=>exact gen h
end
def Rep (n:Nat) (A:Env) (e:E):Prop:=∀t,t<n→A t=WT e t
structure Ks (α:Type) where
 ret:E→Qa→α
 ext:Nat→E→Qa→α
 jmp:Nat→E→Qa→α
 pan:Value→E→Qa→α
abbrev KT (α:Type):=Ks α→(E→Qa→α)→E→Qa→α
section
variable (α:Type) (bad:α) (P:Program) (call:Qu) (n F:Nat)
def QnF (k:E→Qa→α) (e:E) (d:Option Nat) (r:Cls×Value×Qa):α:=
 Prod.rec (motive:=fun _=>α) (fun _ q=>Prod.rec (motive:=fun _=>α) (fun v H=>k (Qic e d v) H) q) r
def Qn0 (ks:Ks α) (e:E) (r:Option (Value×Qa)):α:=
 Option.rec (motive:=fun _=>α) bad (fun q=>Prod.rec (motive:=fun _=>α) (fun v H=>ks.pan v e H) q) r
def Qk8 (o:Oper) (ks:Ks α) (e:E) (H:Qa):α:=
 match o.op with
 | .panic x=>(match ev (WT e) x with
  | .iface t v=>ks.pan (.iface t v) e H
  | _=>bad)
 | .call ⟨.value (.func f),args,_⟩=>Qn0 α bad ks e (call.pn f (args.map (ev (WT e))).toList H)
 | .call ⟨.value c,args,_⟩=>(match ev (WT e) c with
  | .func (.func f) xs ys=>Qn0 α bad ks e (call.pn f (xs.toList++(args.map (ev (WT e))).toList++ys.toList) H)
  | _=>bad)
 | _=>bad
def Qn1 (o:Oper) (k:E→Qa→α) (e:E) (H:Qa):α:=
 Option.rec (motive:=fun _=>α) bad (QnF α k e o.dst) (aop P call o (WT e) H)
def Qk9 (o:Oper) (ks:Ks α) (k:E→Qa→α) (e:E) (H:Qa):α:=
 Option.rec (motive:=fun _=>α) (Qk8 α bad call o ks e H) (QnF α k e o.dst) (aop P call o (WT e) H)
def Qik (ops:Array Oper) (o:Oper) (k:E→Qa→α) (e:E) (H:Qa):α:=
 Option.rec (motive:=fun _=>α) bad (fun b=>Bool.rec (motive:=fun _=>α) (k (Qic e o.dst undef) H) (Qn1 α bad P call o k e H) b) (W2 n ops (WT e) o)
def Qil (ops:Array Oper) (ks:Ks α) (o:Oper) (k:E→Qa→α) (e:E) (H:Qa):α:=
 Bool.rec (motive:=fun _=>α) bad (Option.rec (motive:=fun _=>α) (Qk9 α bad P call o ks k e H) (fun _=>Qik α bad P call n ops o k e H) o.guard) (Vz P n o)
def QbZ (ops:Array Oper) (ks:Ks α) (l:List Oper):(E→Qa→α)→E→Qa→α:=
 List.rec (motive:=fun _=>(E→Qa→α)→E→Qa→α) (fun k=>k) (fun o _ ih k=>Qil α bad P call n ops ks o (ih k)) l
def Qim (ops:Array Oper) (k:E→Qa→α) (e:E) (H:Qa):α:=
 match QdJ P call n ops (WT e) H with
 | some (l,_,H1)=>k (Qgm ops.toList l e) H1
 | none=>bad
def Qla (_:Nat) (ops:Array Oper) (draw:Bool):KT α:=fun ks k=>
 Bool.rec (motive:=fun _=>E→Qa→α) (QbZ α bad P call n ops ks ops.toList k) (Qim α bad P call n ops k) draw
def vb (v:Value) (t f:α):α:=
 match v with
 | .bool b=>Bool.rec (motive:=fun _=>α) f t b
 | _=>bad
def Qin (x:Operand) (_ _:Code) (iha ihb:KT α):KT α:=fun ks k e H=>
 Bool.rec (motive:=fun _=>α) bad (vb α bad (ev (WT e) x) (iha ks k e H) (ihb ks k e H)) (G9 P n x)
def Qlb:KT α:=fun _ k=>k
def QoN (_ _:Code) (iha ihb:KT α):KT α:=fun ks k=>iha ks (ihb ks k)
def Qmy (id:Nat) (_:Code) (ih:KT α):KT α:=fun ks k=>
 ih ⟨ks.ret,fun j=>Bool.rec (motive:=fun _=>E→Qa→α) (ks.ext j) k (Nat.beq j id),ks.jmp,ks.pan⟩ k
def Qn2 (_:Code) (ih:KT α):KT α:=fun ks _=>
 Nat.rec (motive:=fun _=>E→Qa→α) (fun _ _=>bad) (fun _ k=>ih ks k) F
def Qjl:KT α:=fun _ _ _ _=>bad
def Qn3 (id:Nat):KT α:=fun ks _=>ks.ext id
def Qn4 (l:Nat):KT α:=fun ks _=>ks.jmp l
def QoO:KT α:=fun ks _=>ks.ret
def Qio (ex:Code→KT α) (body:Code) (ks:Ks α) (k:E→Qa→α) (m:Nat):Code→E→Qa→α:=
 Nat.rec (motive:=fun _=>Code→E→Qa→α) (fun _ _ _=>bad)
  (fun _ ih rest=>ex rest ⟨ks.ret,ks.ext,fun l=>Option.rec (motive:=fun _=>E→Qa→α) (ks.jmp l) ih (findLabel body l),ks.pan⟩ k) m
def Qmz (ex:Code→KT α) (body:Code) (_:KT α):KT α:=fun ks k=>Qio α bad ex body ks k F body
def Qip (A:Env) (ks:Ks α) (k:E→Qa→α) (e:E) (l:Nat) (H2:Qa):α:=
 match H2.get l with
 | some (.loop _ _ _ _ _ st)=>(match st with
  | none=>k e (H2.kill l)
  | some .ret=>ks.ret e (H2.kill l)
  | some (.exit id)=>ks.ext id e (H2.kill l)
  | some (.goto t)=>ks.jmp t e (H2.kill l)
  | _=>bad)
 | _=>bad
def Qiq (gf:FuncId) (xs ys:Array Value) (ps:Array Tmp) (as bd:Code) (ks:Ks α) (k:E→Qa→α) (e:E) (H:Qa):α:=
 Bool.rec (motive:=fun _=>α) bad (Option.rec (motive:=fun _=>α) bad (fun r=>Qip α bad (WT e) ks k e H.next r.2) (call.fn gf (xs.toList++[.func (.yield H.next) #[] #[]]++ys.toList) (H.push (.loop (WT e) n ps as bd none)))) (Qv P gf)
def Qar (g:Operand) (ps:Array Tmp) (as bd:Code) (_ _:KT α):KT α:=fun ks k e H=>
 Bool.rec (motive:=fun _=>α) bad (match ev (WT e) g with
  | .func (.func gf) xs ys=>Qiq α bad P call n gf xs ys ps as bd ks k e H
  | _=>bad) (G9 P n g)
def Qn5 (ex:Code→KT α) (c:Code):KT α:=
 Code.rec (motive:=fun _=>KT α) (Qlb α) (Qla α bad P call n) (QoN α) (Qin α bad P n) (Qmy α) (Qn2 α bad F) (Qar α bad P call n) (Qn3 α) (Qmz α bad F ex)
  (fun _=>Qlb α) (Qn4 α) (QoO α) (fun _=>Qjl α bad) c
def exec (G:Nat):Code→KT α:=
 Nat.rec (motive:=fun _=>Code→KT α) (fun _=>Qjl α bad) (fun _ ex=>Qn5 α bad P call n F ex) G
end
section
variable {α:Type} {bad:α} {P:Program} {call:Qu} {n F:Nat} {Q:Ex→Env→Qa→Prop} {A B:Env} {H:Qa}
theorem Jm.rep {z:Rd} {ρ:Ren} {w:World} {a:Act} (h:∀t,t<n→A t=B t) (he:Jm z ρ H w n B a):Jm z ρ H w n A a:=⟨⟨he.size,fun t ht=>by rw[h t ht];exact he.tmps t ht⟩,he.fr⟩
theorem AWp.rep {c:Code} (h:∀t,t<n→A t=B t) (hw:AWp P n c Q A H):AWp P n c Q B H:=fun z ρ w a hs he=>hw z ρ w a hs (he.rep h)
theorem GT.rep {ops:Array Oper} {l:List Oper} (h:∀t,t<n→A t=B t) (hw:GT P n ops l Q A H):GT P n ops l Q B H:=fun z ρ w a hs he=>hw z ρ w a hs (he.rep h)
theorem Qam.rep {c:Code} (h:∀t,t<n→A t=B t) (hw:Qam P n c Q A H):Qam P n c Q B H:=fun z ρ w a hs he=>hw z ρ w a hs (he.rep h)
theorem Gx.rep {b c:Code} (h:∀t,t<n→A t=B t) (hw:Gx P n b c Q A H):Gx P n b c Q B H:=fun z ρ w a hs he=>hw z ρ w a hs (he.rep h)
theorem AWp.post {c:Code} {Q':Ex→Env→Qa→Prop} (h:∀e A H,Q e A H→Q' e A H) (hw:AWp P n c Q A H):AWp P n c Q' A H:=fun z ρ w a hs he=>
 wpIn_mono (hw z ρ w a hs he) (fun e a' w' ⟨e',ρ',A',H',hq,h1⟩=>⟨e',ρ',A',H',h _ _ _ hq,h1⟩)
def Qj5 (good:α→Prop) (n:Nat) (ks:Ks α) (k:E→Qa→α):Ex→Env→Qa→Prop
 | .normal,A,H=>∃e,Rep n A e∧good (k e H)
 | .ret,A,H=>∃e,Rep n A e∧good (ks.ret e H)
 | .exit j,A,H=>∃e,Rep n A e∧good (ks.ext j e H)
 | .goto l,A,H=>∃e,Rep n A e∧good (ks.jmp l e H)
 | .panic v,A,H=>∃e,Rep n A e∧good (ks.pan v e H)
theorem Qjm (hn:n≤256) {o:Oper} (h:Vz P n o=true):Gu 256 o.dst=true:=by
 have:=Qad h
 cases hd:o.dst with
 | none=>rfl
 | some d=>rw[hd]at this;simp only[Gu,Nat.blt_eq]at this ⊢;omega
variable {good:α→Prop} (hbad:¬good bad) (hn:n≤256) (hcall:JO P call)
include hbad hn hcall
omit hn in
theorem Qhi {o:Oper} {ks:Ks α} {e:E} {H:Qa} (h:good (Qk8 α bad call o ks e H)):∃v H',Qfp P o (WT e) H v H'∧good (ks.pan v e H'):=by
 obtain⟨dst,op,ty,pos,af,g⟩:=o
 have hpn:∀r,good (Qn0 α bad ks e r)→∃v H',r=some (v,H')∧good (ks.pan v e H'):=fun r hr=>by
  cases r with
  | none=>exact absurd hr hbad
  | some q=>exact⟨q.1,q.2,rfl,hr⟩
 unfold Qk8 at h
 split at h
 ·rename_i x hop
  simp only at hop
  subst hop
  split at h
  ·rename_i t v ex
   exact⟨_,H,QkN ex,h⟩
  ·exact absurd h hbad
 ·rename_i f args ts hop
  simp only at hop
  subst hop
  obtain⟨v,H',hr,hg⟩:=hpn _ h
  obtain⟨h1,h2⟩:=hcall.pn _ _ _ _ _ hr
  exact⟨v,H',Qmq h1 h2,hg⟩
 ·rename_i c args ts hne hop
  simp only at hop
  subst hop
  split at h
  ·rename_i f xs ys ec
   obtain⟨v,H',hr,hg⟩:=hpn _ h
   obtain⟨h1,h2⟩:=hcall.pn _ _ _ _ _ hr
   exact⟨v,H',QkM ec h1 h2,hg⟩
  ·exact absurd h hbad
 ·exact absurd h hbad
theorem GB {ops:Array Oper} {ks:Ks α} {k:E→Qa→α}:∀ (l:List Oper) (e:E) (H:Qa),good (QbZ α bad P call n ops ks l k e H)→GT P n ops l (Qj5 good n ks k) (WT e) H
 | [],e,H,h=>QgW ⟨e,fun _ _=>rfl,h⟩
 | o::rest,e,H,h=>by
  have h:good (Qil α bad P call n ops ks o (QbZ α bad P call n ops ks rest k) e H):=h
  unfold Qil at h
  cases hok:Vz P n o with
  | false=>rw[hok]at h;exact absurd h hbad
  | true=>
   rw[hok]at h
   have next:∀v H',good (QbZ α bad P call n ops ks rest k (Qic e o.dst v) H')→GT P n ops rest (Qj5 good n ks k) (Yp (WT e) o.dst v) H':=fun v H' hg=>
    (GB rest _ _ hg).rep (fun t ht=>Qeb e v (Qjm hn hok) t (by omega))
   have hop:∀ (h:good (Qn1 α bad P call o (QbZ α bad P call n ops ks rest k) e H)),∃v H',Qd P o (WT e) H v H'∧GT P n ops rest (Qj5 good n ks k) (Yp (WT e) o.dst v) H':=fun h=>by
    unfold Qn1 at h
    cases ha:aop P call o (WT e) H with
    | none=>rw[ha]at h;exact absurd h hbad
    | some r=>
     obtain⟨c,v,H'⟩:=r
     rw[ha]at h
     exact⟨v,H',(QaR hcall ha).does,next v H' h⟩
   cases hg:o.guard with
   | none=>
    rw[hg]at h
    have h:good (Qk9 α bad P call o ks (QbZ α bad P call n ops ks rest k) e H):=h
    unfold Qk9 at h
    cases ha:aop P call o (WT e) H with
    | none=>
     rw[ha]at h
     obtain⟨v,H',h1,h2⟩:=Qhi hbad hcall h
     exact QhY hg h1 hok ⟨e,fun _ _=>rfl,h2⟩
    | some r=>
     obtain⟨c,v,H'⟩:=r
     rw[ha]at h
     exact Qfn hg (QaR hcall ha).does hok (next v H' h)
   | some jw=>
    rw[hg]at h
    obtain⟨j,want⟩:=jw
    have h:good (Qik α bad P call n ops o (QbZ α bad P call n ops ks rest k) e H):=h
    unfold Qik at h
    cases hw:W2 n ops (WT e) o with
    | none=>rw[hw]at h;exact absurd h hbad
    | some b=>
     rw[hw]at h
     cases b with
     | true=>
      obtain⟨v,H',h1,h2⟩:=hop h
      exact Gz hg hw (fun _=>⟨v,H',h1,h2⟩) (fun hh=>by cases hh) hok
     | false=>exact Gz hg hw (fun hh=>by cases hh) (fun _=>next undef H h) hok
omit hbad hcall in
theorem Qbt:∀ (l:List Oper) (e:E) (A:Env) (H:Qa) (tr:List Stp) (A1:Env) (H1:Qa) {ops:Array Oper},YY P call n ops l A H=some (tr,A1,H1)→Rep n A e→Rep n A1 (Qgm l tr e)
 | [],e,A,H,tr,A1,H1,ops,h,hr=>by
  simp only[YY,Option.some.injEq,Prod.mk.injEq]at h;obtain⟨rfl,rfl,rfl⟩:=h;exact hr
 | o::rest,e,A,H,tr,A1,H1,ops,h,hr=>by
  have step:∀v,Vz P n o=true→Rep n (Yp A o.dst v) (Qic e o.dst v):=fun v hok t ht=>by
   rw[Qeb e v (Qjm hn hok) t (by omega)]
   cases o.dst with
   | none=>exact hr t ht
   | some d=>
    simp only[Yp]
    by_cases hd:t=d
    ·subst hd;simp
    ·rw[J6 _ _ hd,J6 _ _ hd];exact hr t ht
  unfold YY at h
  cases hok:Vz P n o with
  | false=>rw[hok]at h;cases h
  | true=>
   rw[hok]at h
   simp only[cond_true]at h
   split at h
   ·split at h
    ·rename_i c v H' ha
     split at h
     ·rename_i l' r hl
      simp only[Option.some.injEq,Prod.mk.injEq]at h
      obtain⟨rfl,hr1⟩:=h
      subst hr1
      exact Qbt rest _ _ _ _ _ _ hl (step v hok)
     ·cases h
    ·cases h
   ·split at h
    ·rename_i l' r hl
     simp only[Option.some.injEq,Prod.mk.injEq]at h
     obtain⟨rfl,hr1⟩:=h
     subst hr1
     exact Qbt rest _ _ _ _ _ _ hl (step undef hok)
    ·cases h
   ·cases h
theorem Zj:∀ (G:Nat) (c:Code) (ks:Ks α) (k:E→Qa→α) (e:E) (H:Qa),good (exec α bad P call n F G c ks k e H)→AWp P n c (Qj5 good n ks k) (WT e) H:=by
 intro G
 induction G with
 | zero=>intro c ks k e H h;exact absurd h hbad
 | succ G ihG=>
  intro c
  induction c with
  | skip=>intro ks k e H h;exact QdQ ⟨e,fun _ _=>rfl,h⟩
  | label l=>intro ks k e H h;exact Qfm ⟨e,fun _ _=>rfl,h⟩
  | ret=>intro ks k e H h;exact Qja ⟨e,fun _ _=>rfl,h⟩
  | exit id=>intro ks k e H h;exact QgU ⟨e,fun _ _=>rfl,h⟩
  | goto l=>intro ks k e H h;exact QgV ⟨e,fun _ _=>rfl,h⟩
  | refuse s=>intro ks k e H h;exact absurd h hbad
  | rangeFunc g ps as bd iha ihb=>
   intro ks k e H h
   have h:good (Qar α bad P call n g ps as bd (Qjl α bad) (Qjl α bad) ks k e H):=h
   unfold Qar at h
   cases hok:G9 P n g with
   | false=>rw[hok]at h;exact absurd h hbad
   | true=>
    rw[hok]at h
    have h:good (match ev (WT e) g with | .func (.func gf) xs ys=>Qiq α bad P call n gf xs ys ps as bd ks k e H | _=>bad):=h
    split at h
    ·rename_i gf xs ys eg
     unfold Qiq at h
     cases hen:Qv P gf with
     | false=>rw[hen]at h;exact absurd h hbad
     | true=>
      rw[hen]at h
      cases hc:call.fn gf (xs.toList++[.func (.yield H.next) #[] #[]]++ys.toList) (H.push (.loop (WT e) n ps as bd none)) with
      | none=>rw[hc]at h;exact absurd h hbad
      | some r=>
       obtain⟨v,H2⟩:=r
       rw[hc]at h
       have h:good (Qip α bad (WT e) ks k e H.next H2):=h
       have hd:=(hcall.fn _ _ _ _ _ hc).does hen
       unfold Qip at h
       split at h
       ·rename_i A' n' ps' as' bd' st hl
        refine QeY hok eg hen hd hl ?_
        cases st with
        | none=>exact⟨e,fun _ _=>rfl,h⟩
        | some c=>
         cases c<;>simp only at h<;>first
          | exact⟨e,fun _ _=>rfl,h⟩
          | exact absurd h hbad
       ·exact absurd h hbad
    ·exact absurd h hbad
  | region id ops draw=>
   intro ks k e H h
   cases draw with
   | false=>
    have:=GB (ks:=ks) hbad hn hcall ops.toList e H h
    exact QdR (l:=ops.toList) (by simpa using this)
   | true=>
    have h:good (Qim α bad P call n ops k e H):=h
    unfold Qim at h
    split at h
    ·rename_i l A1 H1 hd
     refine Qe1 hcall hd ⟨Qgm ops.toList l e,?_,h⟩
     unfold QdJ at hd
     cases hc:(P.follows .mixedOrders&&GV ops (Wb ops)) with
     | false=>rw[hc]at hd;cases hd
     | true=>
      rw[hc]at hd
      simp only[cond_true]at hd
      split at hd
      ·rename_i l' t1' H1' htr
       cases hall:Qcs (VI P ops (Qq ops.toList []) l' H1') 0 l' with
       | true=>
        rw[hall]at hd
        simp only[cond_true,Option.some.injEq,Prod.mk.injEq]at hd
        obtain⟨rfl,rfl,rfl⟩:=hd
        exact Qbt hn _ _ _ _ _ _ _ htr (fun _ _=>rfl)
       | false=>rw[hall]at hd;cases hd
      ·cases hd
    ·exact absurd h hbad
  | seq a b iha ihb=>
   intro ks k e H h
   refine QbJ ((iha ks _ e H h).post ?_)
   intro ex A1 H1 hq
   cases ex with
   | normal=>
    obtain⟨e1,hr,hg⟩:=hq
    exact(ihb ks k e1 H1 hg).rep (fun t ht=>(hr t ht).symm)
   | _=>exact hq
  | cond x a b iha ihb=>
   intro ks k e H h
   have h:good (Qin α bad P n x a b (exec α bad P call n F (G+1) a) (exec α bad P call n F (G+1) b) ks k e H):=h
   unfold Qin at h
   cases hok:G9 P n x with
   | false=>rw[hok]at h;exact absurd h hbad
   | true=>
    rw[hok]at h
    have h:good (vb α bad (ev (WT e) x) (exec α bad P call n F (G+1) a ks k e H) (exec α bad P call n F (G+1) b ks k e H)):=h
    unfold vb at h
    split at h
    ·rename_i t ex
     cases t with
     | true=>exact QbK hok ex (iha ks k e H h)
     | false=>exact QbK hok ex (ihb ks k e H h)
    ·exact absurd h hbad
  | block id b ih=>
   intro ks k e H h
   refine KG ((ih _ k e H h).post ?_)
   intro ex A1 H1 hq
   cases ex with
   | exit j=>
    obtain⟨e1,hr,hg⟩:=hq
    simp only[QbL]
    have hg:good (Bool.rec (motive:=fun _=>E→Qa→α) (ks.ext j) k (Nat.beq j id) e1 H1):=hg
    by_cases hj:j=id
    ·rw[if_pos hj]
     subst hj
     have:Nat.beq j j=true:=by simp
     rw[this]at hg
     exact⟨e1,hr,hg⟩
    ·rw[if_neg hj]
     have:Nat.beq j id=false:=by simp[YW,hj]
     rw[this]at hg
     exact⟨e1,hr,hg⟩
   | _=>exact hq
  | loop b ih=>
   intro ks k e H h
   refine Qc7 ?_
   have key:∀ (m:Nat) (e:E) (H:Qa),good (Nat.rec (motive:=fun _=>E→Qa→α) (fun _ _=>bad) (fun _ k=>exec α bad P call n F (G+1) b ks k) m e H)→Qam P n b (Qj5 good n ks k) (WT e) H:=by
    intro m
    induction m with
    | zero=>intro e H h;exact absurd h hbad
    | succ m ihm=>
     intro e H h
     refine Vc ((ih ks _ e H h).post ?_)
     intro ex A1 H1 hq
     cases ex with
     | normal=>
      obtain⟨e1,hr,hg⟩:=hq
      exact(ihm e1 H1 hg).rep (fun t ht=>(hr t ht).symm)
     | _=>exact hq
   exact key F e H h
  | scope b ih=>
   intro ks k e H h
   refine VF ?_
   have key:∀ (m:Nat) (c:Code) (e:E) (H:Qa),good (Qio α bad (exec α bad P call n F G) b ks k m c e H)→Gx P n b c (Qj5 good n ks k) (WT e) H:=by
    intro m
    induction m with
    | zero=>intro c e H h;exact absurd h hbad
    | succ m ihm=>
     intro c e H h
     refine Zg ((ihG c _ k e H h).post ?_)
     intro ex A1 H1 hq
     cases ex with
     | goto l=>
      obtain⟨e1,hr,hg⟩:=hq
      simp only[QjV]
      have hg:good (Option.rec (motive:=fun _=>E→Qa→α) (ks.jmp l) (Qio α bad (exec α bad P call n F G) b ks k m) (findLabel b l) e1 H1):=hg
      split
      ·rename_i rest hf
       rw[hf]at hg
       exact(ihm rest e1 H1 hg).rep (fun t ht=>(hr t ht).symm)
      ·rename_i hf
       rw[hf]at hg
       exact⟨e1,hr,hg⟩
     | _=>exact hq
   exact key F b e H h
end
/-! ### Functions -/
def QfB (P:Program) (fn:Func) (e:E) (H:Qa):Option (Value×Qa):=
 Option.rec (motive:=fun _=>Option (Value×Qa)) none (fun v=>some (v,H)) (GU P fn.ntmps fn.results (WT e) H)
def Qir (P:Program) (call:Qu) (F G:Nat) (fn:Func) (args:List Value) (H:Qa) (c:Code):Option (Value×Qa):=
 Bool.rec (motive:=fun _=>Option (Value×Qa)) none
  (exec (Option (Value×Qa)) none P call fn.ntmps F G c ⟨QfB P fn,fun _ _ _=>none,fun _ _ _=>none,fun _ _ _=>none⟩ (QfB P fn) (QbT args 0 E.none) H)
  (Nat.ble fn.ntmps 256&&Nat.ble args.length fn.ntmps)
def Qis (P:Program) (call:Qu) (F G:Nat) (f:FuncId) (args:List Value) (H:Qa) (fn:Func):Option (Value×Qa):=
 Bool.rec (motive:=fun _=>Option (Value×Qa)) none (Option.rec (motive:=fun _=>Option (Value×Qa)) none (Qir P call F G fn args H) fn.body) (Qv P f)
def V5 (A:Env) (b:Nat):N16 Value:=⟨A b,A (b+1),A (b+2),A (b+3),A (b+4),A (b+5),A (b+6),A (b+7),A (b+8),A (b+9),A (b+10),A (b+11),A (b+12),A (b+13),A (b+14),A (b+15)⟩
def eOf (A:Env):E:=⟨V5 A 0,V5 A 16,V5 A 32,V5 A 48,V5 A 64,V5 A 80,V5 A 96,V5 A 112,V5 A 128,V5 A 144,V5 A 160,V5 A 176,V5 A 192,V5 A 208,V5 A 224,V5 A 240⟩
theorem Qlc (A:Env) (b:Nat) (d:D):(V5 A b).get d=A (b+d.num):=by cases d<;>rfl
theorem QmA (A:Env) (d:D):(eOf A).get d=V5 A (16 * d.num):=by cases d<;>rfl
theorem Qld (A:Env) {t:Nat} (ht:t<256):WT (eOf A) t=A t:=by
 have e1:∀x y:Nat,Nat.div x y=x / y:=fun _ _=>rfl
 have e2:∀x y:Nat,Nat.mod x y=x % y:=fun _ _=>rfl
 simp only[WT,e1,e2]
 rw[QmA,Qlc,QdH (by omega),QdH (by omega)]
 congr 1
 omega
def Qhj (l:Nat) (A:Env) (n:Nat) (ps:Array Tmp) (as bd:Code) (st:Option Code) (b:Bool) (H:Qa):Option (Value×Qa):=some (.bool b,H.set l (.loop A n ps as bd st))
def Qn6 (P:Program) (call:Qu) (F G:Nat) (l:Nat) (A:Env) (n:Nat) (ps:Array Tmp) (as bd:Code) (e:E) (H:Qa):Option (Value×Qa):=
 exec (Option (Value×Qa)) none P call n F G bd ⟨fun _ H1=>Qhj l A n ps as bd (some .ret) false H1,fun j _ H1=>Qhj l A n ps as bd (some (.exit j)) false H1,fun j _ H1=>Qhj l A n ps as bd (some (.goto j)) false H1,fun _ _ _=>none⟩
  (fun _ H1=>Qhj l A n ps as bd none true H1) e H
def Qgq (P:Program) (call:Qu) (F G:Nat) (l:Nat) (args:List Value) (H:Qa):Option (Value×Qa):=
 match H.get l with
 | some (.loop A n ps as bd none)=>
  bif Nat.ble n 256&&Nat.beq args.length ps.size then
   exec (Option (Value×Qa)) none P call n F G as ⟨fun _ _=>none,fun _ _ _=>none,fun _ _ _=>none,fun _ _ _=>none⟩ (Qn6 P call F G l A n ps as bd) (eOf (QkT A ps.toList args)) (H.kill l)
  else none
 | _=>none
theorem Qe4 {P:Program} {call:Qu} (hcall:JO P call) {F G:Nat} {l:Nat} {args:List Value} {H H':Qa} {v:Value} (h:Qgq P call F G l args H=some (v,H')):Qjd P l args H v H':=by
  unfold Qgq at h
  split at h
  · rename_i A n ps as bd hl
    cases hc:(Nat.ble n 256&&Nat.beq args.length ps.size) with
    | false=>rw[hc]at h;cases h
    | true=>
      rw[hc]at h
      simp only[cond_true]at h
      simp only[Bool.and_eq_true,Nat.ble_eq,YW,decide_eq_true_eq]at hc
      refine Qhb hl hc.2 ?_
      have main:=Zj (good:=fun r:Option (Value×Qa)=>r=some (v,H')) (by simp) hc.1 hcall G as _ _ _ (H.kill l) h
      refine(main.post ?_).rep (fun t ht=>Qld _ (by omega))
      intro ex A1 H1 hq
      cases ex with
      | normal=>
        obtain⟨e,hr,hg⟩:=hq
        have body:=Zj (good:=fun r:Option (Value×Qa)=>r=some (v,H')) (by simp) hc.1 hcall G bd _ _ _ H1 hg
        refine(body.post ?_).rep (fun t ht=>(hr t ht).symm)
        intro ex A2 H2 hq2
        cases ex<;>first
          | (obtain⟨e2,_,hg2⟩:=hq2
             simp only[Qhj,Option.some.injEq,Prod.mk.injEq]at hg2
             obtain⟨g1,g2⟩:=hg2
             exact⟨g1.symm,by rw[← g2];exact .refl _⟩)
          | (obtain⟨_,_,hx⟩:=hq2;cases hx)
      | ret=>obtain⟨_,_,hx⟩:=hq;cases hx
      | exit j=>obtain⟨_,_,hx⟩:=hq;cases hx
      | goto j=>obtain⟨_,_,hx⟩:=hq;cases hx
      | panic u=>obtain⟨_,_,hx⟩:=hq;cases hx
  · cases h
def Qgr (P:Program) (call:Qu) (F G:Nat) (fn:Func) (args:List Value) (H:Qa) (c:Code):Option (Value×Qa):=
 Bool.rec (motive:=fun _=>Option (Value×Qa)) none
  (exec (Option (Value×Qa)) none P call fn.ntmps F G c ⟨fun _ _=>none,fun _ _ _=>none,fun _ _ _=>none,fun v _ H=>some (v,H)⟩ (fun _ _=>none) (QbT args 0 E.none) H)
  (Nat.ble fn.ntmps 256&&Nat.ble args.length fn.ntmps)
def QdK (P:Program) (call:Qu) (F G:Nat) (f:FuncId) (args:List Value) (H:Qa) (fn:Func):Option (Value×Qa):=
 Bool.rec (motive:=fun _=>Option (Value×Qa)) none (Option.rec (motive:=fun _=>Option (Value×Qa)) none (Qgr P call F G fn args H) fn.body) (Qv P f)
def Qle (α:Type) (bad:α) (P:Program) (call:Qu) (F G:Nat) (fn:Func) (args:List Value) (r:Value) (k:Qa→α) (H:Qa):Code→α
 | .seq (.region _ ops false) rest=>match ops.toList with
  | o::l=>bif Qjk o&&Nat.ble fn.ntmps 256&&Nat.ble args.length fn.ntmps&&Gu fn.ntmps o.dst&&fn.results.isEmpty then
    QbZ α bad P call fn.ntmps ops ⟨fun _ _=>bad,fun _ _ _=>bad,fun _ _ _=>bad,fun _ _ _=>bad⟩ l (exec α bad P call fn.ntmps F G rest ⟨fun _ H=>k H,fun _ _ _=>bad,fun _ _ _=>bad,fun _ _ _=>bad⟩ (fun _ H=>k H)) (Qic (QbT args 0 E.none) o.dst r) H
   else bad
  | []=>bad
 | _=>bad
def Qit (α:Type) (bad:α) (P:Program) (call:Qu) (F G:Nat) (g:FuncId) (args:List Value) (r:Value) (k:Qa→α) (H:Qa):α:=
 bif Qv P g then(match P.funcs[g]? with
  | some fn=>(match fn.body with
   | some c=>Qle α bad P call F G fn args r k H c
   | none=>bad)
  | none=>bad) else bad
def Qjn (P:Program) (call:Qu) (F G:Nat) (fn:Func) (g:FuncId) (args:List Value) (r:Value) (e:E) (H:Qa):Option (Value×Qa):=
 Qit (Option (Value×Qa)) none P call F G g args r (fun H2=>QfB P fn e H2) H
def Qlf (P:Program) (call:Qu) (F G:Nat) (fn:Func) (rest:Code) (t:Nat) (e:E) (H:Qa):Option (Value×Qa):=
 match WT e t with
 | .func (.func g) xs ys=>bif !Qv P g then none else exec (Option (Value×Qa)) none P call fn.ntmps F G rest
   ⟨Qjn P call F G fn g (xs.toList++ys.toList) .nilIface,fun _ _ _=>none,fun _ _ _=>none,fun v e H=>Qjn P call F G fn g (xs.toList++ys.toList) v e H⟩ (Qjn P call F G fn g (xs.toList++ys.toList) .nilIface) e H
 | _=>none
def Qiu (P:Program) (call:Qu) (F G:Nat) (fn:Func) (args:List Value) (H:Qa) (c:Code):Option (Value×Qa):=
 match c with
 | .seq c0 (.seq (.region _ ops false) rest)=>(match ops.toList.getLast? with
  | some o=>(match Qk7 o with
   | some t=>bif Nat.ble fn.ntmps 256&&Nat.ble args.length fn.ntmps&&Nat.blt t fn.ntmps then
     exec (Option (Value×Qa)) none P call fn.ntmps F G c0 ⟨fun _ _=>none,fun _ _ _=>none,fun _ _ _=>none,fun _ _ _=>none⟩
      (QbZ (Option (Value×Qa)) none P call fn.ntmps ops ⟨fun _ _=>none,fun _ _ _=>none,fun _ _ _=>none,fun _ _ _=>none⟩ ops.toList.dropLast (Qlf P call F G fn rest t)) (QbT args 0 E.none) H
    else none
   | none=>none)
  | none=>none)
 | _=>none
def Qiv (P:Program) (call:Qu) (F G:Nat) (f:FuncId) (args:List Value) (H:Qa) (fn:Func):Option (Value×Qa):=
 Bool.rec (motive:=fun _=>Option (Value×Qa)) none (Option.rec (motive:=fun _=>Option (Value×Qa)) none (Qiu P call F G fn args H) fn.body) (Qv P f)
def QdL (P:Program) (call:Qu) (F G:Nat) (f:FuncId) (args:List Value) (H:Qa) (fn:Func):Option (Value×Qa):=
 Option.rec (motive:=fun _=>Option (Value×Qa)) (Qiv P call F G f args H fn) some (Qis P call F G f args H fn)
def run (P:Program) (known:Qd8) (F G:Nat) (k:Nat):Qu:=
 Nat.rec (motive:=fun _=>Qu) ⟨fun _ _ _=>none,fun _ _ _=>none,fun _ _ _=>none⟩
  (fun _ ih=>⟨fun f args H=>Option.rec (motive:=fun _=>Option (Value×Qa)) (Option.rec (motive:=fun _=>Option (Value×Qa)) none (QdL P ih F G f args H) P.funcs[f]?) some (known f args H),Qgq P ih F G,
   fun f args H=>Option.rec (motive:=fun _=>Option (Value×Qa)) none (QdK P ih F G f args H) P.funcs[f]?⟩) k
theorem QfC {P:Program} {fn:Func} {A1:Env} {H1 H':Qa} {e:E} {v:Value} (hr:Rep fn.ntmps A1 e) (hk:QfB P fn e H1=some (v,H')):∃v1,Out.ret v=.ret v1∧GU P fn.ntmps fn.results A1 H1=some v1∧Yo H' H1:=by
 unfold QfB at hk
 cases ha:GU P fn.ntmps fn.results (WT e) H1 with
 | none=>rw[ha]at hk;cases hk
 | some u=>
  rw[ha]at hk
  have hk:some (u,H1)=some (v,H'):=hk
  simp only[Option.some.injEq,Prod.mk.injEq]at hk
  obtain⟨e1,e2⟩:=hk
  rw[← e1,← e2]
  refine⟨_,rfl,?_,.refl _⟩
  rw[← ha]
  have h1:∀r,Zv P fn.ntmps A1 H1 r=Zv P fn.ntmps (WT e) H1 r:=fun r=>by
   cases r with
   | tmp t=>
    simp only[Zv]
    by_cases ht:t<fn.ntmps
    ·simp only[ht,if_true,hr t ht]
    ·simp only[ht,if_false]
   | cell a t=>
    simp only[Zv]
    by_cases ht:a<fn.ntmps
    ·simp only[ht,if_true,hr a ht]
    ·simp only[ht,if_false]
  unfold GU
  rw[show Zv P fn.ntmps A1 H1=Zv P fn.ntmps (WT e) H1 from funext h1]
theorem Qgs {P:Program} {call:Qu} (hcall:JO P call) {F G:Nat} {f:FuncId} {fn:Func} {c:Code} {args:List Value} {H H':Qa} {v:Value} (hf:P.funcs[f]? = some fn) (hb:fn.body=some c)
  (h:Qir P call F G fn args H c=some (v,H')):J7 P f args H (.ret v) H':=by
 unfold Qir at h
 cases hc:(Nat.ble fn.ntmps 256&&Nat.ble args.length fn.ntmps) with
 | false=>rw[hc]at h;cases h
 | true=>
  rw[hc]at h
  simp only[Bool.and_eq_true,Nat.ble_eq]at hc
  have en:args.length+(fn.ntmps - args.length)=fn.ntmps:=by omega
  refine Qbn hf hb ?_
  rw[en]
  have main:=Zj (good:=fun r:Option (Value×Qa)=>r=some (v,H')) (by simp) hc.1 hcall G c _ _ _ H h
  have hres:∀ (A1:Env) (H1:Qa),(∃e,Rep fn.ntmps A1 e∧QfB P fn e H1=some (v,H'))→∃v1,Out.ret v=.ret v1∧GU P fn.ntmps fn.results A1 H1=some v1∧Yo H' H1:=fun A1 H1 ⟨e,hr,hk⟩=>QfC hr hk
  refine(main.post ?_).rep (fun t ht=>Vf (by omega) t (by omega))
  intro ex A1 H1 hq
  cases ex with
  | normal=>exact hres A1 H1 hq
  | ret=>exact hres A1 H1 hq
  | exit j=>obtain⟨_,_,hx⟩:=hq;cases hx
  | goto j=>obtain⟨_,_,hx⟩:=hq;cases hx
  | panic u=>obtain⟨_,_,hx⟩:=hq;cases hx
theorem GT.post {P:Program} {n:Nat} {ops:Array Oper} {l:List Oper} {Q Q':Ex→Env→Qa→Prop} {A:Env} {H:Qa} (h:∀e A H,Q e A H→Q' e A H) (hw:GT P n ops l Q A H):GT P n ops l Q' A H:=fun z ρ w a hs he=>
 Xt (fun e a' w' ⟨e',ρ',A',H',hq,h1⟩=>⟨e',ρ',A',H',h _ _ _ hq,h1⟩) _ _ _ (hw z ρ w a hs he)
theorem Qe5 {P:Program} {call:Qu} (hcall:JO P call) {F G:Nat} {f:FuncId} {fn:Func} {c:Code} {args:List Value} {H H':Qa} {v:Value} (hf:P.funcs[f]? = some fn) (hb:fn.body=some c)
  (h:Qgr P call F G fn args H c=some (v,H')):J7 P f args H (.pan v) H':=by
 unfold Qgr at h
 cases hc:(Nat.ble fn.ntmps 256&&Nat.ble args.length fn.ntmps) with
 | false=>rw[hc]at h;cases h
 | true=>
  rw[hc]at h
  simp only[Bool.and_eq_true,Nat.ble_eq]at hc
  have en:args.length+(fn.ntmps - args.length)=fn.ntmps:=by omega
  refine Qbn hf hb ?_
  rw[en]
  have main:=Zj (good:=fun r:Option (Value×Qa)=>r=some (v,H')) (by simp) hc.1 hcall G c _ _ _ H h
  refine(main.post ?_).rep (fun t ht=>Vf (by omega) t (by omega))
  intro ex A1 H1 hq
  cases ex with
  | normal=>obtain⟨_,_,hx⟩:=hq;cases hx
  | ret=>obtain⟨_,_,hx⟩:=hq;cases hx
  | exit j=>obtain⟨_,_,hx⟩:=hq;cases hx
  | goto j=>obtain⟨_,_,hx⟩:=hq;cases hx
  | panic u=>
   obtain⟨_,_,hx⟩:=hq
   simp only[Option.some.injEq,Prod.mk.injEq]at hx
   obtain⟨e1,e2⟩:=hx
   rw[← e1,← e2]
   exact⟨rfl,.refl _⟩
theorem Qgt {α:Type} {bad:α} {good:α→Prop} (hbad:¬good bad) {P:Program} {call:Qu} (hcall:JO P call) {F G:Nat} {g:FuncId} {args:List Value} {r:Value} {k:Qa→α} {H:Qa}
  (h:good (Qit α bad P call F G g args r k H)):Qej P g args H r (fun H2=>good (k H2)):=by
 unfold Qit at h
 cases he:Qv P g with
 | false=>rw[he]at h;exact absurd h hbad
 | true=>
  rw[he]at h
  simp only[cond_true]at h
  split at h
  ·rename_i fn hf
   split at h
   ·rename_i c hb
    unfold Qle at h
    split at h
    ·rename_i id ops rest
     split at h
     ·rename_i o l hl
      cases hc:(Qjk o&&Nat.ble fn.ntmps 256&&Nat.ble args.length fn.ntmps&&Gu fn.ntmps o.dst&&fn.results.isEmpty) with
      | false=>rw[hc]at h;exact absurd h hbad
      | true=>
      rw[hc]at h
      simp only[Bool.and_eq_true,Nat.ble_eq]at hc
      obtain⟨⟨⟨⟨h1,h2⟩,h3⟩,h4⟩,h5⟩:=hc
      have en:args.length+(fn.ntmps - args.length)=fn.ntmps:=by omega
      refine Qhh hf hb hl h1 (by rw[en];exact h4) (by simpa using h5) ?_
      rw[en]
      have main:=GB (n:=fn.ntmps) hbad h2 hcall l _ H h
      have d256:Gu 256 o.dst=true:=by
       cases hd:o.dst with
       | none=>rfl
       | some d=>rw[hd]at h4;simp only[Gu,Nat.blt_eq]at h4 ⊢;omega
      refine(main.post ?_).rep (fun t ht=>?_)
      ·intro ex A1 H1 hq
       cases ex with
       | normal=>
        obtain⟨e,hr,hg⟩:=hq
        have body:=Zj hbad h2 hcall G rest _ _ e H1 hg
        refine(body.post ?_).rep (fun t ht=>(hr t ht).symm)
        intro ex A2 H2 hq2
        cases ex<;>obtain⟨_,_,hx⟩:=hq2<;>first
         | exact hx
         | exact absurd hx hbad
       | _=>obtain⟨_,_,hx⟩:=hq;exact absurd hx hbad
      ·rw[Qeb _ _ d256 t (by omega)]
       cases o.dst with
       | none=>exact Vf (by omega) t (by omega)
       | some d=>
        simp only[Yp]
        by_cases hd:t=d
        ·subst hd;simp
        ·rw[J6 _ _ hd,J6 _ _ hd];exact Vf (by omega) t (by omega)
     ·exact absurd h hbad
    ·exact absurd h hbad
   ·exact absurd h hbad
  ·exact absurd h hbad
theorem Qgu {P:Program} {call:Qu} (hcall:JO P call) {F G:Nat} {f:FuncId} {fn:Func} {c:Code} {args:List Value} {H H':Qa} {v:Value} (hf:P.funcs[f]? = some fn) (hb:fn.body=some c)
  (h:Qiu P call F G fn args H c=some (v,H')):J7 P f args H (.ret v) H':=by
 unfold Qiu at h
 split at h
 ·rename_i c0 id ops rest
  split at h
  ·rename_i o hlast
   split at h
   ·rename_i t hd
    cases hc:(Nat.ble fn.ntmps 256&&Nat.ble args.length fn.ntmps&&Nat.blt t fn.ntmps) with
    | false=>rw[hc]at h;cases h
    | true=>
    rw[hc]at h
    simp only[Bool.and_eq_true,Nat.ble_eq,Nat.blt_eq]at hc
    obtain⟨⟨h1,h2⟩,h3⟩:=hc
    have en:args.length+(fn.ntmps - args.length)=fn.ntmps:=by omega
    have hbad:¬ (fun r:Option (Value×Qa)=>r=some (v,H')) none:=by simp
    refine Qgp hf hb (init:=ops.toList.dropLast) (o:=o) ?_ hd (by rw[en];exact h3) ?_
    ·obtain⟨ys,hys⟩:=List.getLast?_eq_some_iff.1 hlast
     rw[hys,List.dropLast_concat]
    ·rw[en]
     have main:=Zj (good:=fun r:Option (Value×Qa)=>r=some (v,H')) hbad h1 hcall G c0 _ _ _ H h
     refine(main.post ?_).rep (fun t ht=>Vf (by omega) t (by omega))
     intro ex A1 H1 hq
     cases ex with
     | normal=>
      obtain⟨e,hr,hg⟩:=hq
      have hops:=GB (good:=fun r:Option (Value×Qa)=>r=some (v,H')) (n:=fn.ntmps) hbad h1 hcall ops.toList.dropLast e H1 hg
      refine(hops.post ?_).rep (fun t ht=>(hr t ht).symm)
      intro ex A2 H2 hq2
      cases ex with
      | normal=>
       obtain⟨e2,hr2,hg2⟩:=hq2
       unfold Qlf at hg2
       split at hg2
       ·rename_i g xs ys eg
        have hentered:Qv P g=true:=by
         cases hh:Qv P g with
         | true=>rfl
         | false=>rw[hh]at hg2;cases hg2
        rw[hentered]at hg2
        refine⟨g,xs,ys,(hr2 t h3).trans eg,hentered,?_⟩
        have body:=Zj (good:=fun r:Option (Value×Qa)=>r=some (v,H')) hbad h1 hcall G rest _ _ e2 H2 hg2
        refine(body.post ?_).rep (fun t ht=>(hr2 t ht).symm)
        have hend:∀ (r:Value) (A3:Env) (H3:Qa),(∃e3,Rep fn.ntmps A3 e3∧Qjn P call F G fn g (xs.toList++ys.toList) r e3 H3=some (v,H'))→
          Qej P g (xs.toList++ys.toList) H3 r (fun H2=>∃v1,Out.ret v=.ret v1∧GU P fn.ntmps fn.results A3 H2=some v1∧Yo H' H2):=by
         rintro r A3 H3 ⟨e3,hr3,hg3⟩
         have:=Qgt (good:=fun r:Option (Value×Qa)=>r=some (v,H')) hbad hcall hg3
         intro z ρ w args' u u' r' q1 q2 q3 q4
         refine(this z ρ w args' u u' r' q1 q2 q3 q4).mono ?_
         rintro e4 u4 w4 ⟨k1,k2,ρ',H4,k3,k4,k5⟩
         exact⟨k1,k2,ρ',H4,QfC hr3 k3,k4,k5⟩
        intro ex A3 H3 hq3
        cases ex with
        | normal=>exact hend _ A3 H3 hq3
        | ret=>exact hend _ A3 H3 hq3
        | panic u=>exact hend _ A3 H3 hq3
        | exit j=>obtain⟨_,_,hx⟩:=hq3;cases hx
        | goto j=>obtain⟨_,_,hx⟩:=hq3;cases hx
       ·cases hg2
      | _=>obtain⟨_,_,hx⟩:=hq2;cases hx
     | _=>obtain⟨_,_,hx⟩:=hq;cases hx
   ·cases h
  ·cases h
 ·cases h
theorem QfD {P:Program} {known:Qd8} (hk:Qib P known) {F G:Nat}:∀k,JO P (run P known F G k):=by
 intro k
 induction k with
 | zero=>exact⟨fun f args H v H' h=>(by cases h),fun l args H v H' h=>(by cases h),fun f args H v H' h=>(by cases h)⟩
 | succ k ih=>
  refine⟨fun f args H v H' h=>?_,fun l args H v H' h=>Qe4 ih h,fun f args H v H' h=>?_⟩
  ·have h:Option.rec (motive:=fun _=>Option (Value×Qa)) (Option.rec (motive:=fun _=>Option (Value×Qa)) none (QdL P (run P known F G k) F G f args H) P.funcs[f]?) some (known f args H)=some (v,H'):=h
   cases hkn:known f args H with
   | some r=>rw[hkn]at h;cases h;exact hk f args H v H' hkn
   | none=>
    rw[hkn]at h
    cases hf:P.funcs[f]? with
    | none=>rw[hf]at h;cases h
    | some fn=>
     rw[hf]at h
     have h:QdL P (run P known F G k) F G f args H fn=some (v,H'):=h
     unfold QdL at h
     cases hr:Qis P (run P known F G k) F G f args H fn with
     | some q=>
      rw[hr]at h
      cases h
      unfold Qis at hr
      cases he:Qv P f with
      | false=>rw[he]at hr;cases hr
      | true=>
       rw[he]at hr
       cases hb:fn.body with
       | none=>rw[hb]at hr;cases hr
       | some c=>rw[hb]at hr;exact .inl ⟨he,Qgs ih hf hb hr⟩
     | none=>
      rw[hr]at h
      have h:Qiv P (run P known F G k) F G f args H fn=some (v,H'):=h
      unfold Qiv at h
      cases he:Qv P f with
      | false=>rw[he]at h;cases h
      | true=>
       rw[he]at h
       cases hb:fn.body with
       | none=>rw[hb]at h;cases h
       | some c=>rw[hb]at h;exact .inl ⟨he,Qgu ih hf hb h⟩
  ·have h:Option.rec (motive:=fun _=>Option (Value×Qa)) none (QdK P (run P known F G k) F G f args H) P.funcs[f]? = some (v,H'):=h
   cases hf:P.funcs[f]? with
   | none=>rw[hf]at h;cases h
   | some fn=>
    rw[hf]at h
    have h:QdK P (run P known F G k) F G f args H fn=some (v,H'):=h
    unfold QdK at h
    cases he:Qv P f with
    | false=>rw[he]at h;cases h
    | true=>
     rw[he]at h
     cases hb:fn.body with
     | none=>rw[hb]at h;cases h
     | some c=>rw[hb]at h;exact⟨rfl,Qe5 ih hf hb h⟩
def Qcu (xt:FuncId→Option Xk):Qd8:=fun f args H=>
 match xt f with
 | some k=>(k.val args).map fun v=>(v,H)
 | none=>none
theorem QfE {P:Program} {xt:FuncId→Option Xk} (h:∀f k,xt f=some k→Qc5 P f k):Qib P (Qcu xt):=by
 intro f args H v H' hr
 unfold Qcu at hr
 split at hr
 ·rename_i k hk
  simp only[Option.map_eq_some_iff,Prod.mk.injEq]at hr
  obtain⟨u,hu,rfl,rfl⟩:=hr
  exact .inr (Qg4 (h f k hk) hu)
 ·cases hr
def shN (G δ id:Nat):Nat:=bif Nat.blt id G then id else id+δ
def shV (G δ:Nat):Nat→Value→Value
 | 0,v=>v
 | f+1,v=>match v with
  | .pointer (some a)=>.pointer (some ⟨shN G δ a.block,a.off,a.spot⟩)
  | .slice (some a) l c=>.slice (some ⟨shN G δ a.block,a.off,a.spot⟩) l c
  | .map (some r)=>.map (some (shN G δ r))
  | .iface t v=>.iface t (shV G δ f v)
  | .agg xs=>.agg (xs.toList.map (shV G δ f)).toArray
  | .tuple xs=>.tuple (xs.toList.map (shV G δ f)).toArray
  | .func fn xs ys=>.func fn (xs.toList.map (shV G δ f)).toArray (ys.toList.map (shV G δ f)).toArray
  | v=>v
def okD:Nat→Value→Bool
 | 0,v=>plain v
 | f+1,v=>match v with
  | .iface _ v=>okD f v
  | .agg xs=>xs.toList.all (okD f)
  | .tuple xs=>xs.toList.all (okD f)
  | .func fn xs ys=>Gt fn&&xs.toList.all (okD f)&&ys.toList.all (okD f)
  | _=>true
structure Row where
 src:Nat
 c:List Value
 e:TypeId
 ro:Bool
def Row.blk (G δ:Nat) (r:Row):Blk:=.cells (r.c.map (shV G δ 6)) r.e r.ro
def Qdi (G:Nat) (rs:List Row) (b:Nat):Option Nat:=bif Nat.blt b G then some b else(rs[b - G]?).map (·.src)
def Qnl (o:Option Nat) (a:Nat):Bool:=match o with | some b=>Nat.beq b a | none=>false
theorem Qjx {o:Option Nat} {a:Nat} (h:Qnl o a=true):o=some a:=by
 cases o with
 | none=>cases h
 | some b=>simp only[Qnl,YW,decide_eq_true_eq]at h;rw[h]
def QlM (a:Addr):Bool:=match a.spot with | none=>true | some _=>false
def mtV (σ:Nat→Option Nat):Nat→Value→Value→Bool
 | 0,v,u=>plain v&&QaZ 8 v u
 | f+1,v,u=>match v,u with
  | .pointer (some a),.pointer (some b)=>Qnl (σ b.block) a.block&&Nat.beq a.off b.off&&QlM b
  | .slice (some a) l c,.slice (some b) l' c'=>Qnl (σ b.block) a.block&&Nat.beq a.off b.off&&QlM b&&Nat.beq l l'&&Nat.beq c c'
  | .iface t v,.iface t' u=>Nat.beq t t'&&mtV σ f v u
  | .agg xs,.agg ys=>KA (mtV σ f) xs.toList ys.toList
  | .tuple xs,.tuple ys=>KA (mtV σ f) xs.toList ys.toList
  | v,u=>plain v&&QaZ 8 v u
theorem QaC {eq:Value→Value→Bool}:∀ {xs ys:List Value},KA eq xs ys=true→xs.length=ys.length∧∀ (j:Nat) x y,xs[j]? = some x→ys[j]? = some y→eq x y=true
 | [],[],_=>⟨rfl,fun j x y h=>by simp at h⟩
 | x::xs,y::ys,h=>by
  simp only[KA,Bool.and_eq_true]at h
  obtain⟨h1,h2⟩:=QaC h.2
  refine⟨by simp[h1],fun j a b ha hb=>?_⟩
  cases j with
  | zero=>simp at ha hb;subst ha;subst hb;exact h.1
  | succ j=>exact h2 j a b (by simpa using ha) (by simpa using hb)
 | [],_::_,h=>by simp[KA]at h
 | _::_,[],h=>by simp[KA]at h
theorem QlN {σ:Nat→Option Nat} {ρ ρ':Ren} (hr:∀a b i,σ b=some a→ρ a=some i→ρ' b=some i):∀ (f:Nat) {v u v':Value},mtV σ f v u=true→V ρ v v'→V ρ' u v':=by
 intro f
 have pl:∀ {v u v':Value},(plain v&&QaZ 8 v u)=true→V ρ v v'→V ρ' u v':=fun h hv=>by
  simp only[Bool.and_eq_true]at h
  rw[← QaS 8 _ _ h.2,hv.plain_eq h.1]
  exact .same _ h.1
 induction f with
 | zero=>intro v u v' h hv;exact pl h hv
 | succ f ih=>
  intro v u v' h hv
  have arr:∀ (xs ys xs':Array Value),xs.size=xs'.size→(∀ (j:Nat) x x',xs[j]? = some x→xs'[j]? = some x'→V ρ x x')→KA (mtV σ f) xs.toList ys.toList=true→
    ys.size=xs'.size∧∀ (j:Nat) x x',ys[j]? = some x→xs'[j]? = some x'→V ρ' x x':=by
   intro xs ys xs' h1 h2 h3
   obtain⟨g1,g2⟩:=QaC h3
   simp only[Array.length_toList]at g1
   refine⟨by omega,fun j x x' e e'=>?_⟩
   have hj:j<xs.size:=by rw[h1];exact(Array.getElem?_eq_some_iff.1 e').1
   exact ih (g2 j xs[j] x (by simp[hj]) (by simpa using e)) (h2 j _ x' (Array.getElem?_eq_getElem hj) e')
  unfold mtV at h
  split at h
  ·rename_i a b
   simp only[Bool.and_eq_true,YW,decide_eq_true_eq]at h
   obtain⟨⟨h1,h2⟩,h3⟩:=h
   obtain⟨i,g1,g2,g3⟩:=hv.ptr_inv
   rw[g3,h2]
   obtain⟨b0,bo,bs⟩:=b
   have:bs=none:=by cases bs with | none=>rfl | some _=>cases h3
   subst this
   exact .ptr b0 bo i (hr _ _ i (Qjx h1) g1)
  ·rename_i a l c b l' c'
   simp only[Bool.and_eq_true,YW,decide_eq_true_eq]at h
   obtain⟨⟨⟨⟨h1,h2⟩,h3⟩,h4⟩,h5⟩:=h
   obtain⟨i,a',cap',g1,g2,g3,g4,g5,g0,g6,g7⟩:=hv.slice_inv
   subst h4;subst h5
   rw[g3]
   obtain⟨b0,bo,bs⟩:=b
   have:bs=none:=by cases bs with | none=>rfl | some _=>cases h3
   subst this
   simp only at h2
   rw[h2]at g4 g6
   exact .slice b0 bo l c cap' i a' (hr _ _ i (Qjx h1) g1) g4 g5 g0 g6 g7
  ·rename_i t v0 t' u0
   simp only[Bool.and_eq_true,YW,decide_eq_true_eq]at h
   obtain⟨rfl,h2⟩:=h
   cases hv with
   | same _ hp=>simp[plain]at hp
   | iface _ _ v1 hv1=>exact .iface t u0 v1 (ih h2 hv1)
  ·rename_i xs ys
   cases hv with
   | same _ hp=>simp[plain]at hp
   | agg _ xs' h1 h2=>obtain⟨p1,p2⟩:=arr xs ys xs' h1 h2 h;exact .agg ys xs' p1 p2
  ·rename_i xs ys
   cases hv with
   | same _ hp=>simp[plain]at hp
   | tuple _ xs' h1 h2=>obtain⟨p1,p2⟩:=arr xs ys xs' h1 h2 h;exact .tuple ys xs' p1 p2
  ·exact pl h hv
structure QlO (G:Nat) (H1:Qa) (rs:List Row):Prop where
 row:∀ (k:Nat) (r:Row),rs[k]? = some r→G≤r.src∧r.c.all (okD 6)=true∧∃c1,H1.get r.src=some (.cells c1 r.e r.ro)∧KA (mtV (Qdi G rs) 6) c1 r.c=true
 inj:∀ (j k:Nat) (r r':Row),rs[j]? = some r→rs[k]? = some r'→j≠k→r.src≠r'.src
theorem QP.turn {P:Program} {ρ ρ':Ren} {i:Yb} {w:World} {c u:List Value} {e:TypeId} {ro:Bool} (h:QP P ρ i w (.cells c e ro)) (hl:u.length=c.length)
  (hv:∀ (j:Nat) x y z,c[j]? = some x→u[j]? = some y→V ρ x z→V ρ' y z):QP P ρ' i w (.cells u e ro):=by
 have hx:∀ (j:Nat) y,u[j]? = some y→∃x,c[j]? = some x:=fun j y hj=>by
  have:j<c.length:=by rw[← hl];exact(List.getElem?_eq_some_iff.1 hj).1
  exact⟨c[j],List.getElem?_eq_getElem this⟩
 cases ro with
 | true=>
  refine⟨h.1,fun j y hj=>?_⟩
  obtain⟨x,hxj⟩:=hx j y hj
  obtain⟨z,h1,h2⟩:=h.2 j x hxj
  exact⟨z,h1,hv j x y z hxj hj h2⟩
 | false=>
  obtain⟨cur,fz,hh,h1,h2,h3,h4,h5,h6,h7⟩:=h
  refine⟨cur,fz,hh,h1,h2,by omega,fun j y hj=>?_,h5,by rw[hl];exact h6,h7⟩
  obtain⟨x,hxj⟩:=hx j y hj
  obtain⟨z,g1,g2⟩:=h4 j x hxj
  exact⟨z,g1,hv j x y z hxj hj g2⟩
/-! ### Tables, and calls that are known -/
structure Tab where
 id:Nat
 c:List Value
 e:TypeId
def KF (G:Nat) (tabs:List Tab):Qa:=⟨G,tabs.foldr (fun t tr=>tr.set t.id (some (.cells t.c t.e true))) .nil⟩
theorem GP {G:Nat}:∀ {tabs:List Tab} {id:Nat} {b:Blk},(KF G tabs).get id=some b→∃t∈tabs,id=t.id∧b=.cells t.c t.e true
 | [],id,b,h=>by cases h
 | t::ts,id,b,h=>by
  have h:((KF G ts).tr.set t.id (some (.cells t.c t.e true))).get id=some b:=h
  rw[Tr.get_set]at h
  by_cases e:id=t.id
  ·rw[if_pos e]at h;cases h;exact⟨t,List.mem_cons_self ..,e,rfl⟩
  ·rw[if_neg e]at h
   obtain⟨t',h1,h2,h3⟩:=GP (G:=G) (tabs:=ts) (id:=id) (b:=b) h
   exact⟨t',List.mem_cons_of_mem _ h1,h2,h3⟩
def tabsOk (tabs:List Tab):Bool:=tabs.all fun t=>t.c.all plain
def QnM (t:Tab) (b:Option Blk):Bool:=
 match b with
 | some (.cells c e true)=>Nat.beq e t.e&&KA (QaZ 8) c t.c
 | _=>false
def QgH (tabs:List Tab) (H:Qa):Bool:=tabs.all fun t=>QnM t (H.get t.id)
theorem QbD {G:Nat} {tabs:List Tab} {H:Qa} (h:QgH tabs H=true):∀id b,(KF G tabs).get id=some b→H.get id=some b:=fun id b hb=>by
 obtain⟨t,h1,h2,h3⟩:=GP hb
 have:=List.all_eq_true.1 h t h1
 subst h2;subst h3
 unfold QnM at this
 split at this
 ·rename_i c e hg
  simp only[Bool.and_eq_true,YW,decide_eq_true_eq]at this
  rw[hg,this.1,QdI (QaS 8) _ _ this.2]
 ·cases this
end Go.Ab
namespace Go.Ab
open Go.RowKit
section
variable {P:Program}
def globR (P:Program):Ren:=fun g=>if g<P.globals.size then some ⟨⟨g,0,none⟩,0,0⟩ else none
def H0 (P:Program):Qa:=⟨P.globals.size,.nil⟩
theorem Qow (P:Program) (id:Nat):(H0 P).get id=none:=rfl
theorem St.below {ρ ρ':Ren} {H H':Qa} {w w':World} (h:St ρ H w ρ' H' w') (hro:∀id b,H.get id=some b→b.ro=true):Below w.heap.size w w':=
 ⟨h.os,h.tape,h.output,h.size,fun b hb=>h.frame b hb (fun id i bl _ h2 h3=>by rw[hro id bl h2]at h3;cases h3)⟩
theorem QlP {f:FuncId} {args:List Value} {v:Value} {H1:Qa} (hd:J7 P f args (H0 P) (.ret v) H1) (ha:args.all plain=true) (hv:plain v=true) (H:Qa):J7 P f args H (.ret v) H:=by
 intro ρ w args' hs hargs
 have hargs':VL (QN ρ P.globals.size) args args':=⟨hargs.1,fun j x x' e e'=>by
  have hp:plain x=true:=List.all_eq_true.1 ha x (List.mem_of_getElem? e)
  rw[(hargs.2 j x x' e e').plain_eq hp]
  exact .same x hp⟩
 have hsim:Sim P (QN ρ P.globals.size) (H0 P) w:=Sim.empty (fun id j h=>(WC h).1) (fun g hg=>by
  obtain⟨j,hj,e⟩:=hs.glob g hg
  exact⟨j,XY hg hj,e⟩)
 refine(hd _ w args' hsim hargs').mono ?_
 rintro e w' ⟨ρ',ho,hst,hs'⟩
 have hbel:=hst.below (fun id b h=>by rw[Qow]at h;cases h)
 refine⟨ρ,?_,⟨.refl ρ,Nat.le_refl _,fun _ _ _ h=>h,fun _ _ b b' _ h hr h'=>(by rw[h]at h';cases h';exact hr),fun id i h h'=>(by rw[h']at h;cases h),hbel.os,hbel.tape,hbel.output,hbel.size,fun b hb _=>hbel.block b hb⟩,
  ⟨hs.dom,fun id b i h h'=>(hs.live id b i h h').mono (.refl ρ) (hbel.block _ (hs.live id b i h h').lt),hs.sep,hs.glob⟩⟩
 cases e with
 | returned v'=>
  have:v'=v:=V.plain_eq ho hv
  subst this
  exact .same _ hv
 | _=>exact ho.elim
theorem Qpv {f:FuncId} {args args':List Value} {v:Value} {H H':Qa} (hd:J7 P f args H (.ret v) H') {ρ:Ren} {w:World} (hs:Sim P ρ H w) (ha:VL ρ args args') (hv:plain v=true) (hro:∀id b,H.get id=some b→b.ro=true):
  Calls P f args'.toArray w fun e w'=>e=.returned v∧Below w.heap.size w w':=by
 refine(hd ρ w args' hs ha).mono ?_
 rintro e w' ⟨ρ',ho,hst,hs'⟩
 refine⟨?_,hst.below hro⟩
 cases e with
 | returned v'=>rw[V.plain_eq ho hv]
 | _=>exact ho.elim
theorem sim_tabs {tabs:List Tab} {w:World} (hb:∀t∈tabs,t.id<w.heap.size) (hc:∀t∈tabs,∀ (j:Nat) v,t.c[j]? = some v→w.cell? ⟨t.id,j,none⟩=some v) (hp:tabsOk tabs=true):
  Sim P (globR P) (KF P.globals.size tabs) w:=by
 refine⟨fun id j h=>(by unfold globR at h;split at h;(assumption);cases h),fun id b i hg hi=>?_,fun id1 id2 b1 b2 i1 i2 h1 h2 h3 h4 h5=>?_,fun g hg=>⟨_,(by unfold globR;rw[if_pos hg]),rfl⟩⟩
 ·obtain⟨t,h1,rfl,rfl⟩:=GP hg
  unfold globR at hi
  split at hi
  ·cases hi
   refine⟨hb t h1,fun j v hj=>⟨v,?_,.same v (List.all_eq_true.1 (List.all_eq_true.1 hp t h1) v (List.mem_of_getElem? hj))⟩⟩
   rw[Kw,Nat.zero_add]
   exact hc t h1 j v hj
  ·cases hi
 ·obtain⟨t,_,_,rfl⟩:=GP h1
  cases h5
theorem post_below {H:Type} {enc:TypeId×Value→H} {f:Func} {s:ChangeSpec} {fresh handsOn:Bool} {W W':World} {args:Array Value} {v:Value} {ds gs:List (DataW H)} {before pa pv:List MemPlace}
  (hW:DataW.Whole enc P f.params.toList s.vars false W args.toList ds gs before)
  (hres:∀ (b:Nat) (sp:Nat→Bool) (hd:Bool),DataW.TrodAll enc P W' b sp hd f.resultTypes.toList (v.resultList f.resultTypes.size) (s.fn H (ds++gs)).results [])
  (hargs:DataW.TrodAll enc P W' 0 (fun b=>decide (b<W.heap.size)) true f.params.toList args.toList (s.fn H (ds++gs)).args pa)
  (hvars:DataW.TrodVars enc P W' (fun b=>decide (b<W.heap.size)) s.vars (s.fn H (ds++gs)).vars pv) (hb:Below W.heap.size W W'):
  s.post enc P f false fresh handsOn false W args v W':=by
 refine⟨ds,gs,before,[],pa,pv,hW,hres _ _ _,hargs,hvars,⟨hb.os,hb.output,fun i hi=>?_⟩,fun h=>by cases h⟩
 rw[hb.block i hi]
 cases hx:W.heap[i]? with
 | none=>simp
 | some o=>cases o<;>simp
end
def back (ρ:Ren) (τ:Nat→Nat) (n:Nat):Ren:=fun id=>if id<n then ρ (τ id) else none
theorem Vr {ρ:Ren} {τ:Nat→Nat} {n id:Nat} {i:Yb} (h:back ρ τ n id=some i):id<n∧ρ (τ id)=some i:=by
 unfold back at h
 split at h
 ·rename_i hl;exact⟨hl,h⟩
 ·cases h
def Qa9 (τ:Nat→Nat) (n:Nat) (x y:Value):Prop:=∀ρ v,V ρ y v→V (back ρ τ n) x v
theorem Qa9.plain {τ:Nat→Nat} {n:Nat} {x:Value} (h:plain x=true):Qa9 τ n x x:=fun ρ v hv=>by
 rw[hv.plain_eq h];exact .same x h
theorem Qa9.slice {τ:Nat→Nat} {n id o l c:Nat} (h:id<n):Qa9 τ n (.slice (some ⟨id,o,none⟩) l c) (.slice (some ⟨τ id,o,none⟩) l c):=fun ρ v hv=>by
 cases hv with
 | same _ hp=>simp[Ab.plain]at hp
 | slice _ _ _ _ cap' i a' h0 h1 h2 h3 h4 h5=>exact .slice id o l c cap' i a' (by unfold back;rw[if_pos h];exact h0) h1 h2 h3 h4 h5
theorem Qa9.ptr {τ:Nat→Nat} {n id o:Nat} (h:id<n):Qa9 τ n (.pointer (some ⟨id,o,none⟩)) (.pointer (some ⟨τ id,o,none⟩)):=fun ρ v hv=>by
 cases hv with
 | same _ hp=>simp[Ab.plain]at hp
 | ptr _ _ i h0=>exact .ptr id o i (by unfold back;rw[if_pos h];exact h0)
theorem Qa9.agg {τ:Nat→Nat} {n:Nat} {xs ys:List Value} (hl:xs.length=ys.length) (h:∀ (j:Nat) x y,xs[j]? = some x→ys[j]? = some y→Qa9 τ n x y):Qa9 τ n (.agg xs.toArray) (.agg ys.toArray):=fun ρ v hv=>by
 cases hv with
 | same _ hp=>simp[Ab.plain]at hp
 | agg _ vs h1 h2=>
  refine .agg _ vs (by simpa[hl] using h1) fun j x x' hx hx'=>?_
  have hj:j<ys.length:=by
   have:=(Array.getElem?_eq_some_iff.1 hx).1
   simp at this;omega
  exact h j x ys[j] (by simpa using hx) (List.getElem?_eq_getElem hj) ρ x' (h2 j _ x' (by simp[hj]) hx')
def shW (sh:Nat→Nat):Nat→Value→Value
 | 0,v=>v
 | f+1,v=>match v with
  | .pointer (some a)=>.pointer (some ⟨sh a.block,a.off,a.spot⟩)
  | .slice (some a) l c=>.slice (some ⟨sh a.block,a.off,a.spot⟩) l c
  | .map (some r)=>.map (some (sh r))
  | .iface t v=>.iface t (shW sh f v)
  | .agg xs=>.agg (xs.toList.map (shW sh f)).toArray
  | .tuple xs=>.tuple (xs.toList.map (shW sh f)).toArray
  | .func fn xs ys=>.func fn (xs.toList.map (shW sh f)).toArray (ys.toList.map (shW sh f)).toArray
  | v=>v
theorem Qkt (sh:Nat→Nat):∀ (f:Nat) (v:Value),plain v=true→shW sh f v=v
 | 0,v,_=>rfl
 | f+1,v,h=>by
  unfold shW
  split<;>first | (simp[plain]at h;done) | rfl
theorem Qo3 {ρ ρ':Ren} {sh:Nat→Nat} (hr:∀id i,ρ id=some i→ρ' (sh id)=some i):∀ (f:Nat) {v v':Value},V ρ v v'→okD f v=true→V ρ' (shW sh f v) v':=by
 intro f
 induction f with
 | zero=>
  intro v v' h hk
  rw[h.plain_eq hk]
  exact .same _ hk
 | succ f ih=>
  intro v v' h hk
  have arr:∀ (xs xs':Array Value),xs.size=xs'.size→(∀ (j:Nat) x x',xs[j]? = some x→xs'[j]? = some x'→V ρ x x')→xs.toList.all (okD f)=true→
    (xs.toList.map (shW sh f)).toArray.size=xs'.size∧∀ (j:Nat) x x',(xs.toList.map (shW sh f)).toArray[j]? = some x→xs'[j]? = some x'→V ρ' x x':=by
   intro xs xs' h1 h2 h3
   refine⟨by simp[h1],fun j x x' e e'=>?_⟩
   simp only[List.getElem?_toArray,List.getElem?_map,Array.getElem?_toList,Option.map_eq_some_iff]at e
   obtain⟨y,hy,rfl⟩:=e
   exact ih (h2 j y x' hy e') (List.all_eq_true.1 h3 y (by simpa using Array.mem_of_getElem? hy))
  cases h with
  | same v hp=>rw[Qkt sh (f+1) v hp];exact .same v hp
  | ptr id off i h=>exact .ptr _ off i (hr id i h)
  | slice id off len cap cap' i a' h h1 h2 h0 h3 h4=>exact .slice _ off len cap cap' i a' (hr id i h) h1 h2 h0 h3 h4
  | map id i h=>exact .map _ i (hr id i h)
  | func fn xs ys xs' ys' hn h1 h2 h3 h4=>
   simp only[okD,Bool.and_eq_true]at hk
   obtain⟨p1,p2⟩:=arr xs xs' h1 h3 hk.1.2
   obtain⟨q1,q2⟩:=arr ys ys' h2 h4 hk.2
   exact .func fn _ _ xs' ys' hn p1 q1 p2 q2
  | yield l i h=>simp[okD,Gt]at hk
  | iface t v v' h=>exact .iface t _ v' (ih h hk)
  | agg xs xs' h1 h2=>
   obtain⟨p1,p2⟩:=arr xs xs' h1 h2 hk
   exact .agg _ xs' p1 p2
  | tuple xs xs' h1 h2=>
   obtain⟨p1,p2⟩:=arr xs xs' h1 h2 hk
   exact .tuple _ xs' p1 p2
def Row.blkW (sh:Nat→Nat) (r:Row):Blk:=.cells (r.c.map (shW sh 6)) r.e r.ro
def Vs (sh:Nat→Nat):List Row→Qa→Qa
 | [],H=>H
 | r::rs,H=>Vs sh rs (H.push (r.blkW sh))
theorem Qew {sh:Nat→Nat}:∀ (rs:List Row) (H:Qa),(Vs sh rs H).next=H.next+rs.length
 | [],H=>rfl
 | r::rs,H=>by simp only[Vs,Qew rs,Qa.next_push,List.length_cons];omega
theorem QfP {sh:Nat→Nat}:∀ (rs:List Row) (H:Qa) (id:Nat),(Vs sh rs H).get id=if H.next≤id∧id<H.next+rs.length then(rs[id - H.next]?).map (Row.blkW sh) else H.get id
 | [],H,id=>by simp only[Vs,List.length_nil];rw[if_neg (by omega)]
 | r::rs,H,id=>by
  simp only[Vs,QfP rs,Qa.next_push,List.length_cons,Qa.get_push]
  by_cases h1:id=H.next
  ·subst h1;rw[if_neg (by omega),if_pos rfl,if_pos ⟨by omega,by omega⟩];simp
  ·by_cases h2:H.next+1≤id∧id<H.next+1+rs.length
   ·rw[if_pos h2,if_pos ⟨by omega,by omega⟩,show id - H.next=(id - (H.next+1))+1 by omega];simp
   ·rw[if_neg h2,if_neg h1,if_neg (by omega)]
def shM (τ:Nat→Nat) (M n id:Nat):Nat:=bif Nat.blt id M then τ id else n+(id - M)
def QbE (τ:Nat→Nat) (M b:Nat):Option Nat:=bif Nat.blt b M then some (τ b) else none
theorem Z6 (a b:Nat):Nat.blt a b=decide (a<b):=by
 cases hb:Nat.blt a b with
 | false=>
  by_cases h:a<b
  ·have:Nat.blt a b=true:=by simpa using h
   rw[hb]at this;cases this
  ·simp[h]
 | true=>simp only[Nat.blt_eq]at hb;simp[hb]
theorem QhA {ρ:Ren} {τ:Nat→Nat} {n a b:Nat} {i:Yb} (h:QbE τ n b=some a) (h':ρ a=some i):back ρ τ n b=some i:=by
 unfold QbE at h
 rw[Z6]at h
 unfold back
 by_cases hb:b<n
 ·simp only[hb,decide_true,cond_true,Option.some.injEq]at h
  rw[if_pos hb,h];exact h'
 ·simp only[hb,decide_false,cond_false]at h;cases h
theorem Qnm {τ:Nat→Nat} {n f:Nat} {x y:Value} (h:mtV (QbE τ n) f y x=true):Qa9 τ n x y:=fun ρ v hv=>QlN (fun a b i=>QhA) f h hv
theorem Qox {P:Program} {f:FuncId} {args args2:List Value} {v u:Value} {B H1:Qa} {τ:Nat→Nat} (hd:J7 P f args B (.ret v) H1) (hg:P.globals.size≤B.next) (hτ:∀g,g<P.globals.size→τ g=g)
  {rs:List Row} (hv:mtV (Qdi B.next rs) 6 v u=true) (hu:okD 6 u=true) (hrs:QlO B.next H1 rs) (H:Qa)
  (hB:∀id b,B.get id=some b→∃c e c2 e2 ro,b=.cells c e true∧H.get (τ id)=some (.cells c2 e2 ro)∧c.length=c2.length∧∀ (j:Nat) x y,c[j]? = some x→c2[j]? = some y→Qa9 τ B.next x y)
  (ha:KA (mtV (QbE τ B.next) 6) args2 args=true):
  J7 P f args2 H (.ret (shW (shM τ B.next H.next) 6 u)) (Vs (shM τ B.next H.next) rs H):=by
 intro ρ w args' hs hargs
 have hbk:=fun a b i=>QhA (ρ:=ρ) (τ:=τ) (n:=B.next) (a:=a) (b:=b) (i:=i)
 obtain⟨hal,hav⟩:=QaC ha
 have hargs':VL (back ρ τ B.next) args args':=⟨by rw[← hal];exact hargs.1,fun j x x' e e'=>by
  have hj:j<args2.length:=by have:=(List.getElem?_eq_some_iff.1 e).1;omega
  exact QlN hbk 6 (hav j args2[j] x (List.getElem?_eq_getElem hj) e) (hargs.2 j _ x' (List.getElem?_eq_getElem hj) e')⟩
 have hnro:∀id b,B.get id=some b→b.ro=true:=fun id b h=>by obtain⟨c,e,c2,e2,ro,rfl,_⟩:=hB id b h;rfl
 have hsim:Sim P (back ρ τ B.next) B w:=by
  refine⟨fun id j h=>(Vr h).1,fun id b i hb hi=>?_,fun id1 id2 b1 b2 i1 i2 h1 h2 h3 h4 h5=>?_,fun g hgl=>?_⟩
  ·obtain⟨c,e,c2,e2,ro,rfl,hh,hc,hx⟩:=hB id b hb
   have hr:=hs.live _ _ i hh (Vr hi).2
   refine⟨hr.lt,fun j u hj=>?_⟩
   have hj2:j<c2.length:=by have:=(List.getElem?_eq_some_iff.1 hj).1;omega
   obtain⟨u',h1,h2⟩:=hr.cellAt (List.getElem?_eq_getElem hj2)
   exact⟨u',h1,hx j u c2[j] hj (List.getElem?_eq_getElem hj2) ρ u' h2⟩
  ·rw[hnro id1 b1 h1]at h5;cases h5
  ·obtain⟨j,hj,e⟩:=hs.glob g hgl
   refine⟨j,?_,e⟩
   unfold back
   rw[if_pos (by omega),hτ g hgl];exact hj
 refine(hd _ w args' hsim hargs').mono ?_
 rintro e w' ⟨ρ1,ho,hst,hs1⟩
 have hsame:∀b,b<w.heap.size→w'.heap[b]? = w.heap[b]? := fun b hb=>hst.frame b hb (fun id i bl _ h2 h3=>by rw[hnro id bl h2]at h3;cases h3)
 have hnew:∀id i,ρ1 id=some i→B.next≤id→w.heap.size≤i.at_.block:=fun id i h hid=>by
  have hn:back ρ τ B.next id=none:=by unfold back;rw[if_neg (by omega)]
  rcases(hst.fresh id i h hn).2 with h | ⟨id0,i0,b0,_,_,h3,h4⟩
  ·exact h
  ·rw[hnro id0 b0 h3]at h4;cases h4
 generalize hM:B.next=M at *
 have hsh:∀id,shM τ M H.next id=if id<M then τ id else H.next+(id - M):=fun id=>by
  unfold shM;rw[Z6];by_cases h:id<M<;>simp[h]
 let ρc:Ren:=fun b=>(Qdi M rs b).bind ρ1
 let ρ':Ren:=fun id=>if id<H.next then ρ id else ρc (M+(id - H.next))
 have hc1:∀a b i,Qdi M rs b=some a→ρ1 a=some i→ρc b=some i:=fun a b i h h'=>by simp only[ρc,h,Option.bind_some,h']
 have hcin:∀b i,ρc b=some i→M≤b→∃r,rs[b - M]? = some r∧ρ1 r.src=some i:=fun b i h hb=>by
  simp only[ρc,Qdi,Z6,show ¬b<M by omega,decide_false,cond_false]at h
  cases hr:rs[b - M]? with
  | none=>rw[hr]at h;cases h
  | some r=>rw[hr]at h;exact⟨r,rfl,h⟩
 have hmap:∀b i,ρc b=some i→ρ' (shM τ M H.next b)=some i:=fun b i h=>by
  rw[hsh]
  by_cases hb:b<M
  ·simp only[hb,if_true,ρ']
   simp only[ρc,Qdi,Z6,hb,decide_true,cond_true,Option.bind_some]at h
   cases hk:back ρ τ M b with
   | none=>
    have:=(hst.fresh b i h hk).1
    omega
   | some i0=>
    have:=hst.mono b i0 hk
    rw[h]at this
    cases this
    have h2:=(Vr hk).2
    rw[if_pos (hs.dom _ _ h2)]
    exact h2
  ·simp only[hb,if_false,ρ']
   rw[if_neg (by omega),show M+(H.next+(b - M) - H.next)=b by omega]
   exact h
 have hval:∀ {x y z:Value},mtV (Qdi M rs) 6 x y=true→okD 6 y=true→V ρ1 x z→V ρ' (shW (shM τ M H.next) 6 y) z:=fun h1 h2 h3=>Qo3 hmap 6 (QlN hc1 6 h1 h3) h2
 have hsub:Sub ρ ρ':=fun id i h=>by
  simp only[ρ']
  rw[if_pos (hs.dom id i h)]
  exact h
 have hget:∀id,(Vs (shM τ M H.next) rs H).get id=if H.next≤id∧id<H.next+rs.length then(rs[id - H.next]?).map (Row.blkW (shM τ M H.next)) else H.get id:=fun id=>QfP rs H id
 have hnext:(Vs (shM τ M H.next) rs H).next=H.next+rs.length:=Qew rs H
 have hhigh:∀id i,ρ' id=some i→H.next≤id→∃r,rs[id - H.next]? = some r∧ρ1 r.src=some i:=fun id i hi hid=>by
  simp only[ρ']at hi
  rw[if_neg (by omega)]at hi
  have:=hcin _ i hi (by omega)
  rwa [show M+(id - H.next) - M=id - H.next by omega]at this
 have hlow:∀id i,ρ' id=some i→id<H.next→ρ id=some i:=fun id i hi hid=>by
  simp only[ρ']at hi
  rwa [if_pos hid]at hi
 have hgl:∀id,id<H.next→(Vs (shM τ M H.next) rs H).get id=H.get id:=fun id hid=>by rw[hget,if_neg (by omega)]
 have hgh:∀id r,H.next≤id→rs[id - H.next]? = some r→(Vs (shM τ M H.next) rs H).get id=some (r.blkW (shM τ M H.next)):=fun id r hid hr=>by
  have:=(List.getElem?_eq_some_iff.1 hr).1
  rw[hget,if_pos ⟨hid,by omega⟩,hr];rfl
 refine⟨ρ',?_,⟨hsub,by rw[hnext];omega,fun id i h h'=>?_,fun id i b b' h h1 h2 h3=>?_,fun id i h h'=>?_,hst.os,hst.tape,hst.output,hst.size,fun b hb _=>hsame b hb⟩,
  ⟨fun id i h=>?_,fun id b i hb hi=>?_,fun id1 id2 b1 b2 i1 i2 h1 h2 h3 h4 h5 h6=>?_,fun g hg=>?_⟩⟩
 ·cases e with
  | returned v'=>exact hval hv hu ho
  | _=>exact ho.elim
 ·rw[hgl id (hs.dom id i h)];exact h'
 ·rw[hgl id (hs.dom id i h),h1]at h3;cases h3;exact h2
 ·have hid:H.next≤id:=by
   rcases Nat.lt_or_ge id H.next with hlt | hge
   ·rw[hlow id i h hlt]at h';cases h'
   ·exact hge
  obtain⟨r,hr,hr1⟩:=hhigh id i h hid
  exact⟨hid,.inl (hnew r.src i hr1 (hrs.row _ r hr).1)⟩
 ·rw[hnext]
  rcases Nat.lt_or_ge id H.next with hlt | hge
  ·omega
  ·obtain⟨r,hr,_⟩:=hhigh id i h hge
   have:=(List.getElem?_eq_some_iff.1 hr).1
   omega
 ·rcases Nat.lt_or_ge id H.next with hlt | hge
  ·rw[hgl id hlt]at hb
   have hr:=hs.live id b i hb (hlow id i hi hlt)
   exact hr.mono hsub (hsame _ hr.lt)
  ·obtain⟨r,hr,hr1⟩:=hhigh id i hi hge
   rw[hgh id r hge hr]at hb
   cases hb
   obtain⟨g1,g2,c1,g3,g4⟩:=hrs.row _ r hr
   obtain⟨q1,q2⟩:=QaC g4
   refine(hs1.live r.src _ i g3 hr1).turn (by simp[q1]) fun j x y z hx hy hz=>?_
   simp only[List.getElem?_map,Option.map_eq_some_iff]at hy
   obtain⟨y0,hy0,rfl⟩:=hy
   exact hval (q2 j x y0 hx hy0) (List.all_eq_true.1 g2 y0 (List.mem_of_getElem? hy0)) hz
 ·have old:∀id b i,id<H.next→(Vs (shM τ M H.next) rs H).get id=some b→ρ' id=some i→i.at_.block<w.heap.size:=fun id b i hlt hb hi=>by
   rw[hgl id hlt]at hb
   exact(hs.live id b i hb (hlow id i hi hlt)).lt
  have new:∀id i,H.next≤id→ρ' id=some i→w.heap.size≤i.at_.block:=fun id i hge hi=>by
   obtain⟨r,hr,hr1⟩:=hhigh id i hi hge
   exact hnew r.src i hr1 (hrs.row _ r hr).1
  rcases Nat.lt_or_ge id1 H.next with l1 | l1<;>rcases Nat.lt_or_ge id2 H.next with l2 | l2
  ·rw[hgl id1 l1]at h1;rw[hgl id2 l2]at h2
   exact hs.sep id1 id2 b1 b2 i1 i2 h1 h2 (hlow id1 i1 h3 l1) (hlow id2 i2 h4 l2) h5 h6
  ·have a1:=old id1 b1 i1 l1 h1 h3
   have a2:=new id2 i2 l2 h4
   omega
  ·have a1:=new id1 i1 l1 h3
   have a2:=old id2 b2 i2 l2 h2 h4
   omega
  ·obtain⟨r,hr,hr1⟩:=hhigh id1 i1 h3 l1
   obtain⟨r',hr',hr1'⟩:=hhigh id2 i2 h4 l2
   rw[hgh id1 r l1 hr]at h1
   rw[hgh id2 r' l2 hr']at h2
   cases h1;cases h2
   obtain⟨_,_,c1,g3,_⟩:=hrs.row _ r hr
   obtain⟨_,_,c2,g4,_⟩:=hrs.row _ r' hr'
   exact hs1.sep r.src r'.src _ _ i1 i2 g3 g4 hr1 hr1' h5 (hrs.inj _ _ r r' hr hr' (by omega))
 ·obtain⟨j,hj,e⟩:=hs.glob g hg
  exact⟨j,hsub _ _ hj,e⟩
/-! ### Known calls -/
structure Qo4 where
 f:FuncId
 args:List Value
 ins:List (List Value×TypeId)
 u:Value
 rs:List Row
def QaW (H:Qa):List (List Value×TypeId)→Qa
 | []=>H
 | c::cs=>QaW (H.push (.cells c.1 c.2 true)) cs
theorem Qb9:∀ (l:List (List Value×TypeId)) (H:Qa),(QaW H l).next=H.next+l.length
 | [],H=>rfl
 | c::cs,H=>by simp only[QaW,Qb9 cs,Qa.next_push,List.length_cons];omega
theorem Qdj:∀ (l:List (List Value×TypeId)) (H:Qa) (id:Nat) (b:Blk),(QaW H l).get id=some b→H.get id=some b∨∃k c,l[k]? = some c∧id=H.next+k∧b=.cells c.1 c.2 true
 | [],H,id,b,h=>.inl h
 | c::cs,H,id,b,h=>by
  rcases Qdj cs _ id b h with h | ⟨k,c',h1,h2,h3⟩
  ·rw[Qa.get_push]at h
   by_cases hid:id=H.next
   ·rw[if_pos hid]at h;cases h;exact .inr ⟨0,c,rfl,hid,rfl⟩
   ·rw[if_neg hid]at h;exact .inl h
  ·exact .inr ⟨k+1,c',by simpa using h1,by rw[h2,Qa.next_push];omega,h3⟩
def Qjy (τ:Nat→Nat) (M:Nat) (H:Qa):List (List Value×TypeId)→Nat→Bool
 | [],_=>true
 | c::cs,n=>(match H.get (τ n) with | some (.cells c' _ _)=>KA (mtV (QbE τ M) 6) c' c.1 | _=>false)&&Qjy τ M H cs (n+1)
theorem QfQ {τ:Nat→Nat} {M:Nat} {H:Qa}:∀ (l:List (List Value×TypeId)) (n:Nat),Qjy τ M H l n=true→∀ (k:Nat) c,l[k]? = some c→∃c' e' ro,H.get (τ (n+k))=some (.cells c' e' ro)∧KA (mtV (QbE τ M) 6) c' c.1=true
 | [],n,_,k,c,hk=>by simp at hk
 | c0::cs,n,h,k,c,hk=>by
  simp only[Qjy,Bool.and_eq_true]at h
  cases k with
  | zero=>
   simp at hk;subst hk
   obtain⟨h,_⟩:=h
   split at h
   ·rename_i c' e' ro hg
    exact⟨c',e',ro,hg,h⟩
   ·cases h
  | succ k=>
   obtain⟨c',e',ro,h1,h2⟩:=QfQ cs (n+1) h.2 k c (by simpa using hk)
   exact⟨c',e',ro,by rw[show n+(k+1)=n+1+k by omega];exact h1,h2⟩
def QlQ (P:Program) (tabs:List Tab) (s:Qo4):Prop:=
 Qv P s.f=true∧∃v H1,J7 P s.f s.args (QaW (KF P.globals.size tabs) s.ins) (.ret v) H1∧mtV (Qdi (P.globals.size+s.ins.length) s.rs) 6 v s.u=true∧okD 6 s.u=true∧QlO (P.globals.size+s.ins.length) H1 s.rs
theorem QlQ.does {P:Program} {tabs:List Tab} {s:Qo4} (hs:QlQ P tabs s) (ht:tabsOk tabs=true) {args:List Value} {H:Qa} {τ:Nat→Nat} (hτ:∀g,g<P.globals.size→τ g=g) (htab:∀t∈tabs,t.id<P.globals.size)
  (hH:QgH tabs H=true) (hi:Qjy τ (P.globals.size+s.ins.length) H s.ins P.globals.size=true) (ha:KA (mtV (QbE τ (P.globals.size+s.ins.length)) 6) args s.args=true):
  J7 P s.f args H (.ret (shW (shM τ (P.globals.size+s.ins.length) H.next) 6 s.u)) (Vs (shM τ (P.globals.size+s.ins.length) H.next) s.rs H):=by
 obtain⟨he,v,H1,hd,h1,h2,h3⟩:=hs
 have hM:(QaW (KF P.globals.size tabs) s.ins).next=P.globals.size+s.ins.length:=Qb9 _ _
 rw[← hM]at h1 h3 hi ha ⊢
 refine Qox hd (by rw[hM];omega) hτ h1 h2 h3 H (fun id b hb=>?_) ha
 rcases Qdj _ _ _ _ hb with hb | ⟨k,c,hk,hid,rfl⟩
 ·have hg:=QbD hH id b hb
  obtain⟨t,ht1,rfl,rfl⟩:=GP hb
  refine⟨t.c,t.e,t.c,t.e,true,rfl,by rw[hτ _ (htab t ht1)];exact hg,rfl,fun j x y hx hy=>?_⟩
  rw[hx]at hy
  cases hy
  exact Qa9.plain (List.all_eq_true.1 (List.all_eq_true.1 ht t ht1) x (List.mem_of_getElem? hx))
 ·obtain⟨c',e',ro,g1,g2⟩:=QfQ _ _ hi k c hk
  obtain⟨q1,q2⟩:=QaC g2
  exact⟨c.1,c.2,c',e',ro,rfl,by rw[hid];exact g1,q1.symm,fun j x y hx hy=>Qnm (q2 j y x hy hx)⟩
end Go.Ab
