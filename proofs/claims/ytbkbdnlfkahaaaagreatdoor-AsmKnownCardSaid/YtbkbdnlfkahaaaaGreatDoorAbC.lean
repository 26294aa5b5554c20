/- The interpreter: operations, code, functions; what it gives is so. -/
import Derived.Test.YtbkbdnlfkahaaaaGreatDoorAbB
import Derived.Test.YtbkbdnlfkahaaaaGreatDoorAbA
import Derived.ProofKit
import Derived.OpenShut
set_option linter.unusedVariables false
set_option linter.unusedSimpArgs false
noncomputable section
namespace Go.Ab
abbrev CallF:=FuncId->List Value->Qa->Option (Value×Qa)
structure Qk where
 fn:CallF
 yd:CallF
 pn:CallF
def Q3 (H:Qa):Option Value->Option (Cls×Value×Qa)
 | some v=>some (.pure,v,H)
 | none=>none
def QeD (P:Program) (k:Bool) (op:BinOp) (t:TypeId) (x y:Value):Option Value:=
 match x,y with
 | .int ik a,.int ik' b=>match op with
  | .shl | .shr=>W8 op ik a b
  | _=>if ik=ik' then QX op ik a b else none
 | .string a,.string b=>ZN op (bl a) (bl b)
 | x,y=>QaT P k op t x y
def VW (P:Program) (call:Qk) (A:Env) (H:Qa) (c x y:Operand):Option (Cls×Value×Qa):=
 match ev A c with
  | .bool t=>some (.pure,bif t then ev A x else ev A y,H)
  | _=>none
def XD (P:Program) (call:Qk) (A:Env) (H:Qa) (x:Operand):Option (Cls×Value×Qa):=
 bif Yq (ev A x) then some (.pure,ev A x,H) else none
def Jc (P:Program) (call:Qk) (A:Env) (H:Qa) (op:BinOp) (t:TypeId) (x y:Operand):Option (Cls×Value×Qa):=
 Q3 H (QeD P (JD x||JD y) op t (ev A x) (ev A y))
def Qcj (P:Program) (call:Qk) (A:Env) (H:Qa) (op:UnOp) (x:Operand):Option (Cls×Value×Qa):=
 Q3 H (Vk op (ev A x))
def Zr (P:Program) (call:Qk) (A:Env) (H:Qa) (src dst:TypeId) (x:Operand):Option (Cls×Value×Qa):=
 match P.underlying src,P.underlying dst,ev A x with
  | some _,some (.slice e),.string s=>match P.underlying e,P.info? e with
   | some (.int .u8),some inf=>match inf.zero with
    | some z=>bif Yr P e inf z&&Nat.beq inf.size 1&&Nat.ble (bl s).length 140737488355328 then
      some (.alloc (.cells (Qw s) e false),.slice (some ⟨H.next,0,none⟩) (bl s).length (UNK+1),H.push (.cells (Qw s) e false)) else none
    | none=>none
   | _,_=>none
  | some (.slice e),some .string,.slice a m c=>match P.underlying e,ZS 1 (.slice a m c) H with
   | some (.int .u8),some l=>match Xq l with
    | some bs=>some (.gen,.string (mkS bs),H)
    | none=>none
   | _,_=>none
  | some (.pointer t),some .unsafePointer,.pointer (some a)=>match P.info? t,H.get a.block with
   | some j,some (.cells c e false)=>if j.size≠0∧a.off<c.length then some (.gen,.pointer (some a),H) else none
   | _,_=>none
  | some .unsafePointer,some (.pointer u),.pointer (some a)=>match P.info? u,H.get a.block with
   | some j,some (.cells c e false)=>if liesAt P P.depth e (c.length / P.cellsOf e) a.off u 1=true then some (.gen,.pointer (some a),H) else none
   | _,_=>none
  | _,_,_=>Q3 H (KA P src dst (ev A x))
def Wz (P:Program) (call:Qk) (A:Env) (H:Qa) (t:TypeId) (x:Operand):Option (Cls×Value×Qa):=
 match P.underlying t with
  | some (.interface _)=>none
  | some _=>some (.pure,.iface t (ev A x),H)
  | none=>none
def ZT (P:Program) (call:Qk) (A:Env) (H:Qa) (fn:Fn) (first captured:Array Operand):Option (Cls×Value×Qa):=
 bif XM fn then some (.pure,.func fn (first.map (ev A)) (captured.map (ev A)),H) else none
def KD (P:Program) (call:Qk) (A:Env) (H:Qa) (t:TypeId) (x:Operand) (f:Nat):Option (Cls×Value×Qa):=
 match P.underlying t,ev A x with
  | some (.struct fs),.agg cs=>match fs[f]? with
   | some fd=>Q3 H (Ya P fd.type cs fd.offset)
   | none=>none
  | _,_=>none
def WJ (P:Program) (call:Qk) (A:Env) (H:Qa) (t:TypeId) (x:Operand) (f:Nat):Option (Cls×Value×Qa):=
 match P.underlying t,ev A x with
  | some (.struct fs),.pointer (some a)=>match fs[f]? with
   | some fd=>match P.info? fd.type with
    | some inf=>bif Nat.beq inf.size 0 then none else some (.pure,.pointer (some ⟨a.block,a.off+fd.offset,none⟩),H)
    | none=>none
   | none=>none
  | _,_=>none
def WK (P:Program) (call:Qk) (A:Env) (H:Qa) (t:TypeId) (x ix:Operand):Option (Cls×Value×Qa):=
 match ev A ix with
  | .int _ m=>match P.underlying t,ev A x with
   | some (.slice e),.slice (some a) len _=>match P.info? e with
    | some inf=>if 0<=m∧m<len then some (.pure,.pointer (some ⟨a.block,a.off+m.toNat * inf.size,none⟩),H) else none
    | none=>none
   | some (.array len e),.pointer (some a)=>match P.info? e with
    | some inf=>if 0<=m∧m<len then some (.pure,.pointer (some ⟨a.block,a.off+m.toNat * inf.size,none⟩),H) else none
    | none=>none
   | _,_=>none
  | _=>none
def KE (P:Program) (call:Qk) (A:Env) (H:Qa) (t:TypeId) (x ix:Operand):Option (Cls×Value×Qa):=
 match ev A ix with
  | .int _ m=>match P.underlying t,ev A x with
   | some .string,.string s=>if 0<=m then(match (bl s)[m.toNat]? with | some b=>some (.pure,.int .u8 b.toNat,H) | none=>none) else none
   | some (.array len e),.agg cs=>match P.info? e with
    | some inf=>if 0<=m∧m<len then Q3 H (Ya P e cs (m.toNat * inf.size)) else none
    | none=>none
   | _,_=>none
  | _=>none
def Zs (P:Program) (call:Qk) (A:Env) (H:Qa) (x:Operand) (ix:Nat):Option (Cls×Value×Qa):=
 match ev A x with
  | .tuple vs=>Q3 H vs[ix]?
  | _=>none
def Yx (P:Program) (call:Qk) (A:Env) (H:Qa) (x:Operand) (t:TypeId) (ok:Bool):Option (Cls×Value×Qa):=
 Q3 H (KC P (ev A x) t ok)
def KF (P:Program) (call:Qk) (A:Env) (H:Qa) (t:TypeId) (parts:Array (Nat×Operand)):Option (Cls×Value×Qa):=
 match P.underlying t,P.info? t with
  | some (.struct fs),some inf=>match inf.zero,Ja P fs with
   | some z,some pl=>bif z.cells.toList.all plain then Q3 H ((XP (pl[·]?) z.cells.toList (QU A parts)).map λr=>.agg r.toArray) else none
   | _,_=>none
  | some (.array _ e),some inf=>match inf.zero,P.info? e with
   | some z,some inf'=>bif z.cells.toList.all plain then Q3 H ((XP (λi=>some (i * inf'.size,inf'.size)) z.cells.toList (QU A parts)).map λr=>.agg r.toArray) else none
   | _,_=>none
  | _,_=>none
def Xr (P:Program) (call:Qk) (A:Env) (H:Qa) (t:TypeId) (len:Nat) (parts:Array (Nat×Operand)):Option (Cls×Value×Qa):=
 match P.underlying t with
  | some (.slice e)=>match P.info? e with
   | some inf=>match inf.zero with
    | some z=>bif z.cells.toList.all plain&&Nat.blt 0 z.cells.size&&Nat.ble len 16777216&&Nat.ble (len * inf.size) 16777216 then
      match XP (λi=>some (i * inf.size,inf.size)) (Q0 z.cells (len * inf.size)) (QU A parts) with
      | some r=>some (.alloc (.cells r e false),.slice (some ⟨H.next,0,none⟩) len len,H.push (.cells r e false))
      | none=>none
     else none
    | none=>none
   | none=>none
  | _=>none
def KG (P:Program) (call:Qk) (A:Env) (H:Qa) (e:TypeId):Option (Cls×Value×Qa):=
 match P.info? e with
  | some inf=>match inf.zero with
   | some z=>bif z.cells.toList.all plain then some (.alloc (.cells z.cells.toList e false),.pointer (some ⟨H.next,0,none⟩),H.push (.cells z.cells.toList e false)) else none
   | none=>none
  | none=>none
def Qga (P:Program) (call:Qk) (A:Env) (H:Qa) (e:TypeId) (x:Operand):Option (Cls×Value×Qa):=
 some (.alloc (.cells (ev A x).cells.toList e false),.pointer (some ⟨H.next,0,none⟩),H.push (.cells (ev A x).cells.toList e false))
def XS (P:Program) (call:Qk) (A:Env) (H:Qa) (t:TypeId) (x y:Operand):Option (Cls×Value×Qa):=
 match P.underlying t,ev A x,ev A y with
  | some (.slice e),.int .i64 l,.int .i64 c=>match P.info? e with
   | some inf=>match inf.zero with
    | some z=>if Yr P e inf z=true∧0<=l∧l<=c∧(inf.bytes:Int) * c<=281474976710656∧c<=9223372036854775807 then
      some (.alloc (.cells (Q0 z.cells (c.toNat * inf.size)) e false),.slice (some ⟨H.next,0,none⟩) l.toNat c.toNat,H.push (.cells (Q0 z.cells (c.toNat * inf.size)) e false))
     else none
    | none=>none
   | none=>none
  | _,_,_=>none
def KH (P:Program) (call:Qk) (A:Env) (H:Qa) (t:TypeId) (x:Operand) (lo hi mx:Option Operand):Option (Cls×Value×Qa):=
 match P.underlying t with
  | some .string=>match ev A x,mx,Qz A lo,Qz A hi with
   | .string s,none,some l,some h=>if 0<=l.getD 0∧l.getD 0<=h.getD (bl s).length∧h.getD (bl s).length<=(bl s).length then some (.pure,.string (mkS (((bl s).drop (l.getD 0).toNat).take ((h.getD (bl s).length).toNat - (l.getD 0).toNat))),H) else none
   | _,_,_,_=>none
  | some (.slice e)=>match P.info? e,Qz A lo,Qz A hi,Qz A mx with
   | some inf,some l,some h,some m=>if m.isNone||h.isSome then Q3 H (Zo inf.size (ev A x) l h m) else none
   | _,_,_,_=>none
  | some (.array n e)=>match ev A x,mx,Qz A lo,Qz A hi with
   | .pointer (some a),none,some l,some h=>match P.info? e with
    | some inf=>if 0<=l.getD 0∧l.getD 0<=h.getD n∧h.getD n<=n∧n<UNK then some (.pure,.slice (some ⟨a.block,a.off+(l.getD 0).toNat * inf.size,none⟩) ((h.getD n).toNat - (l.getD 0).toNat) (n - (l.getD 0).toNat),H) else none
    | none=>none
   | _,_,_,_=>none
  | _=>none
def Ga (P:Program) (call:Qk) (A:Env) (H:Qa) (t:TypeId) (x:Operand):Option (Cls×Value×Qa):=
 match ev A x with
  | .pointer (some a)=>match QZ P t a H with
   | some v=>some (.load,v,H)
   | none=>none
  | _=>none
def Jd (P:Program) (call:Qk) (A:Env) (H:Qa) (t:TypeId) (x y:Operand):Option (Cls×Value×Qa):=
 match ev A x with
  | .pointer (some a)=>match ZM P t a (ev A y) H with
   | some H'=>some (.gen,undef,H')
   | none=>none
  | _=>none
def QkW:Value->Bool
 | .int .u8 m=>decide (0<=m)&&decide (m<256)
 | _=>false
def ZU (P:Program) (call:Qk) (A:Env) (H:Qa) (c:Call):Option (Cls×Value×Qa):=
 match c with
  | ⟨.builtin b,args,ts⟩=>match b,args.toList,ts.toList with
   | .len,[x],[t]=>match QfT P t (ev A x) with | some m=>some (.pure,.int .i64 (m:Int),H) | none=>none
   | .cap,[x],[t]=>match P.underlying t,ev A x with
    | some (.slice _),.slice _ _ c=>bif Nat.blt c UNK then some (.pure,.int .i64 c,H) else none
    | _,_=>none
   | .max,[x,y],_=>match ev A x,ev A y with
    | .int k a,.int k' b=>if k=k' then some (.pure,.int k (if b>a then b else a),H) else none
    | _,_=>none
   | .min,[x,y],_=>match ev A x,ev A y with
    | .int k a,.int k' b=>if k=k' then some (.pure,.int k (if b<a then b else a),H) else none
    | _,_=>none
   | .append,[x,y],[t,t2]=>match P.underlying t,P.underlying t2 with
    | some (.slice e),some td=>match P.info? e with
     | some inf=>match inf.zero with
      | some z=>bif Y1 td&&Yr P e inf z then(Zp e inf (ev A x) (ev A y) H).map λr=>(.gen,r.1,r.2) else none
      | none=>none
     | none=>none
    | _,_=>none
   | .copy,[x,y],[t,_]=>match P.underlying t with
    | some (.slice e)=>match P.info? e with
     | some inf=>(QdG inf.size (ev A x) (ev A y) H).map λr=>(.gen,r.1,r.2)
     | none=>none
    | _=>none
   | .unsafeSliceData,[x],_=>match ev A x with
    | .slice none _ _=>some (.pure,.pointer none,H)
    | .slice (some a) m _=>if m≠0 then some (.pure,.pointer (some a),H) else none
    | _=>none
   | .unsafeString,[x,y],[pt,_]=>match ev A x,ev A y with
    | .pointer none,.int .i64 0=>some (.gen,.string (mkS []),H)
    | .pointer (some a),.int .i64 m=>match P.underlying pt,H.get a.block with
     | some (.pointer e),some (.cells c e' false)=>
      if e=e'∧a=⟨a.block,0,none⟩∧P.cellsOf e=1∧0<m∧m.toNat<=c.length∧m<=9223372036854775807∧(c.take m.toNat).all QkW=true then
       (match Xq (c.take m.toNat) with
       | some bs=>some (.gen,.string (mkS bs),H.set a.block (.cells c e true))
       | none=>none)
      else none
     | _,_=>none
    | _,_=>none
   | _,_,_=>none
  | ⟨.invoke recv name,args,ts⟩=>match ev A recv with
   | .iface t v=>match Jb P t name with
    | some f=>(call.fn f (v::(args.map (ev A)).toList) H).map λr=>(.gen,r.1,r.2)
    | none=>none
   | _=>none
  | ⟨.value (.func f),args,ts⟩=>(call.fn f (args.map (ev A)).toList H).map λr=>(.gen,r.1,r.2)
  | ⟨.value c,args,ts⟩=>match ev A c with
   | .func (.func f) xs ys=>(call.fn f (xs.toList++(args.map (ev A)).toList++ys.toList) H).map λr=>(.gen,r.1,r.2)
   | .func (.yield l) xs ys=>bif Nat.beq xs.size 0&&Nat.beq ys.size 0 then(call.yd l (args.map (ev A)).toList H).map λr=>(.gen,r.1,r.2) else none
   | _=>none
def Je (P:Program) (call:Qk) (A:Env) (H:Qa) (t:TypeId) (x ix:Operand) (ok:Bool):Option (Cls×Value×Qa):=
 match P.underlying t with
 | some (.map k e)=>(QdD P k e (ev A x) (ev A ix) ok H).map λv=>(.gen,v,H)
 | _=>none
def Gd (P:Program) (call:Qk) (A:Env) (H:Qa) (t:TypeId) (m k x:Operand):Option (Cls×Value×Qa):=
 match P.underlying t with
 | some (.map kt _)=>(Qa1 P kt (ev A m) (ev A k) (ev A x) H).map λH'=>(.gen,undef,H')
 | _=>none
def VX (P:Program) (call:Qk) (A:Env) (H:Qa) (t:TypeId) (x:Operand):Option (Cls×Value×Qa):=
 match P.underlying t,ev A x with
 | some .string,.string s=>some (.alloc (.iter s 0),.pointer (some ⟨H.next,0,none⟩),H.push (.iter s 0))
 | some (.map _ _),.map none=>some (.gen,.pointer (some ⟨H.next,0,none⟩),H.push (.miter none 0 [] 0))
 | some (.map _ _),.map (some m)=>match H.get m with
  | some (.map es)=>some (.gen,.pointer (some ⟨H.next,0,none⟩),H.push (.miter (some m) es.length [] es.length))
  | _=>none
 | _,_=>none
def aop (P:Program) (call:Qk) (o:Oper) (A:Env) (H:Qa):Option (Cls×Value×Qa):=
 match o.op with
 | .move x=>some (.pure,ev A x,H)
 | .assign x=>some (.pure,ev A x,H)
 | .pick c x y=>VW P call A H c x y
 | .nilCheck x=>XD P call A H x
 | .binOp op t x y _=>Jc P call A H op t x y
 | .unOp op _ x=>Qcj P call A H op x
 | .convert src dst x=>Zr P call A H src dst x
 | .makeInterface t x=>Wz P call A H t x
 | .makeFunc fn first captured=>ZT P call A H fn first captured
 | .field t x f=>KD P call A H t x f
 | .fieldAddr t x f=>WJ P call A H t x f
 | .indexAddr t x ix=>WK P call A H t x ix
 | .index t x ix=>KE P call A H t x ix
 | .extract x ix=>Zs P call A H x ix
 | .typeAssert x _ t ok=>Yx P call A H x t ok
 | .build t parts=>KF P call A H t parts
 | .buildSlice t len parts=>Xr P call A H t len parts
 | .alloc e=>KG P call A H e
 | .box e x=>Qga P call A H e x
 | .makeSlice t x y=>XS P call A H t x y
 | .slice t x lo hi mx=>KH P call A H t x lo hi mx
 | .load t x=>Ga P call A H t x
 | .store t x y=>Jd P call A H t x y
 | .call c=>ZU P call A H c
 | .makeMap _ none=>some (.alloc (.map []),.map (some H.next),H.push (.map []))
 | .lookup t x ix ok=>Je P call A H t x ix ok
 | .mapUpdate t m k x=>Gd P call A H t m k x
 | .insert t m k x=>Gd P call A H t m k x
 | .range t x=>VX P call A H t x
 | .next it true=>(QdF H (ev A it)).map λr=>(.gen,r.1,r.2)
 | .next it false=>(VV H (ev A it)).map λr=>(.gen,r.1,r.2)
 | .entry it=>(Qch H (ev A it)).map λv=>(.gen,v,H)
 | _=>none
section
variable {P:Program} {n:Nat} {A:Env} {H:Qa}
def J4 (P:Program) (o:Oper) (A:Env) (H:Qa) (v:Value) (H':Qa):Cls->Prop
 | .pure=>H'=H∧∀h,Qc P o A h v h
 | .load=>H'=H∧∃t x a,o.op=.load t x∧ev A x=.pointer (some a)∧QZ P t a H=some v
 | .alloc b=>H'=H.push b∧∀h,h.next=H.next->Qc P o A h v (h.push b)
 | .gen=>Qc P o A H v H'
theorem J4.does {o:Oper} {v:Value} {H':Qa} {c:Cls} (h:J4 P o A H v H' c):Qc P o A H v H':=by
 cases c with
 | pure=>obtain⟨rfl,h⟩:=h;exact h _
 | load=>
  obtain⟨rfl,t,x,a,ho,ex,hl⟩:=h;obtain⟨dst,op,ty,pos,af,g⟩:=o;simp only at ho;subst ho;exact Qin ex hl
 | alloc b=>obtain⟨rfl,h⟩:=h;exact h _ rfl
 | gen=>exact h
def CallOk (P:Program) (call:CallF):Prop:=∀f args H v H',call f args H=some (v,H')->Wk P f args H v H'
structure WP (P:Program) (call:Qk):Prop where
 fn:CallOk P call.fn
 yd:∀l args H v H',call.yd l args H=some (v,H')->Vq P l args H v H'
 pn:∀f args H v H',call.pn f args H=some (v,H')->entered P f=true∧Xo P f args H (.pan v) H'
theorem QM {r:Option Value} {c:Cls} {v:Value} {H':Qa} (h:Q3 H r=some (c,v,H')):r=some v∧c=.pure∧H'=H:=by
 cases r with
 | none=>simp[Q3]at h
 | some u=>simp[Q3]at h;obtain⟨rfl,rfl,rfl⟩:=h;exact⟨rfl,rfl,rfl⟩
theorem QeE {op:BinOp} {t t':TypeId} {x y:Operand} {v:Value} {d:Option Nat} {ty:TypeId} {pos:String} {af:Array Edge} {g:Option (Nat×Bool)} (h:QeD P (JD x||JD y) op t (ev A x) (ev A y)=some v):Qc P ⟨d,.binOp op t x y t',ty,pos,af,g⟩ A H v H:=by
 unfold QeD at h;split at h
 ·rename_i k a k' b ex ey;split at h
  ·exact QaO ex ey h
  ·exact QaO ex ey h
  ·split at h
   ·rename_i e;subst e;exact QjP ex ey h
   ·cases h
 ·rename_i a b ex ey;exact QjQ ex ey h
 ·rename_i h1 h2;exact QkU h
set_option maxHeartbeats 2000000 in
theorem Xx {call:Qk} (hcall:WP P call) {o:Oper} {c:Cls} {v:Value} {H':Qa} (h:aop P call o A H=some (c,v,H')):J4 P o A H v H' c:=by
 obtain⟨dst,op,ty,pos,af,g⟩:=o;unfold aop at h;split at h
 case h_1 x hop=>simp only at hop;subst hop;simp only[Lt,LB]at h;obtain⟨rfl,rfl,rfl⟩:=h;exact⟨rfl,λh=>Qik⟩
 case h_2 x hop=>simp only at hop;subst hop;simp only[Lt,LB]at h;obtain⟨rfl,rfl,rfl⟩:=h;exact⟨rfl,λh=>Qeq⟩
 case h_3 cc x y hop=>
  simp only at hop;subst hop;unfold VW at h;split at h
  ·rename_i t ec;simp only[Lt,LB]at h;obtain⟨rfl,rfl,rfl⟩:=h;refine⟨rfl,λh=>?_⟩;have:=Qil (P:=P) (H:=h) (d:=dst) (ty:=ty) (pos:=pos) (af:=af) (g:=g) (x:=x) (y:=y) ec;cases t<;>exact this
  ·cases h
 case h_4 x hop=>
  simp only at hop;subst hop;unfold XD at h;cases hn:Yq (ev A x) with
  | false=>rw[hn]at h;cases h
  | true=>
   rw[hn]at h;simp only[Lq,Lt,LB]at h;obtain⟨rfl,rfl,rfl⟩:=h;exact⟨rfl,λh=>QaN hn⟩
 case h_5 bop t x y t' hop=>
  simp only at hop;subst hop;unfold Jc at h;obtain⟨h1,rfl,rfl⟩:=QM h;exact⟨rfl,λh=>QeE h1⟩
 case h_6 uop t x hop=>
  simp only at hop;subst hop;unfold Qcj at h;obtain⟨h1,rfl,rfl⟩:=QM h;exact⟨rfl,λh=>QkT h1⟩
 case h_7 src d' x hop=>
  simp only at hop;subst hop;unfold Zr at h;split at h
  ·rename_i u e s hu hd ex;split at h
   ·rename_i inf h8 hi;split at h
    ·rename_i z hz;cases hc:(Yr P e inf z&&Nat.beq inf.size 1&&Nat.ble (bl s).length 140737488355328) with
     | false=>rw[hc]at h;cases h
     | true=>
      rw[hc]at h;simp only[Lq,Lt,LB]at h;obtain⟨rfl,rfl,rfl⟩:=h;simp only[Lm,QV,Lv,BL]at hc;refine⟨rfl,λh hn=>?_⟩;rw[<- hn];exact Qcc hu hd h8 (WX.mk' hi hz hc.1.1) hc.1.2 ex hc.2
    ·cases h
   ·cases h
  ·rename_i e a m cp hu hd ex;split at h
   ·rename_i l h8 hl;split at h
    ·rename_i bs hb;simp only[Lt,LB]at h;obtain⟨rfl,rfl,rfl⟩:=h;exact Qf3 hu h8 hd (by rw[ex];exact hl) hb
    ·cases h
   ·cases h
  ·rename_i t a hu hd ex;split at h
   ·rename_i j c e hi hg;split at h
    ·rename_i hc;simp only[Lt,LB]at h;obtain⟨rfl,rfl,rfl⟩:=h;exact Qa0 ex hu hd hi hc.1 hg hc.2
    ·cases h
   ·cases h
  ·rename_i u a hu hd ex;split at h
   ·rename_i j c e hi hg;split at h
    ·rename_i hc;simp only[Lt,LB]at h;obtain⟨rfl,rfl,rfl⟩:=h;exact GW ex hu hd hi hg hc
    ·cases h
   ·cases h
  ·obtain⟨h1,rfl,rfl⟩:=QM h;exact⟨rfl,λh=>Qim h1⟩
 case h_8 t x hop=>
  simp only at hop;subst hop;unfold Wz at h;split at h
  ·cases h
  ·rename_i td hni htd;simp only[Lt,LB]at h;obtain⟨rfl,rfl,rfl⟩:=h;refine⟨rfl,λh=>Jx htd ?_⟩;cases td<;>first | rfl | exact absurd rfl (hni _)
  ·cases h
 case h_9 fn first captured hop=>
  simp only at hop;subst hop;unfold ZT at h;cases hn:XM fn with
  | false=>rw[hn]at h;cases h
  | true=>
   rw[hn]at h;simp only[Lq,Lt,LB]at h;obtain⟨rfl,rfl,rfl⟩:=h;exact⟨rfl,λh=>QaP hn⟩
 case h_10 t x f hop=>
  simp only at hop;subst hop;unfold KD at h;split at h
  ·rename_i fs cs ht ex;split at h
   ·rename_i fd hf;obtain⟨h1,rfl,rfl⟩:=QM h;exact⟨rfl,λh=>QfQ ht hf ex h1⟩
   ·cases h
  ·cases h
 case h_11 t x f hop=>
  simp only at hop;subst hop;unfold WJ at h;split at h
  ·rename_i fs a ht ex;split at h
   ·rename_i fd hf;split at h
    ·rename_i inf hi;cases hz:Nat.beq inf.size 0 with
     | true=>rw[hz]at h;cases h
     | false=>
      rw[hz]at h;simp only[Ls,Lt,LB]at h;obtain⟨rfl,rfl,rfl⟩:=h;exact⟨rfl,λh=>VO ht hf hi hz ex⟩
    ·cases h
   ·cases h
  ·cases h
 case h_12 t x ix hop=>
  simp only at hop;subst hop;unfold WK at h;split at h
  ·rename_i k m eix;split at h
   ·rename_i e a len cap ht ex;split at h
    ·rename_i inf hi;split at h
     ·rename_i hc;simp only[Lt,LB]at h;obtain⟨rfl,rfl,rfl⟩:=h;exact⟨rfl,λh=>ZO ht hi ex eix hc.1 hc.2⟩
     ·cases h
    ·cases h
   ·rename_i len e a ht ex;split at h
    ·rename_i inf hi;split at h
     ·rename_i hc;simp only[Lt,LB]at h;obtain⟨rfl,rfl,rfl⟩:=h;exact⟨rfl,λh=>ZP ht hi ex eix hc.1 hc.2⟩
     ·cases h
    ·cases h
   ·cases h
  ·cases h
 case h_13 t x ix hop=>
  simp only at hop;subst hop;unfold KE at h;split at h
  ·rename_i k m eix;split at h
   ·rename_i s ht ex;split at h
    ·rename_i h0;split at h
     ·rename_i b hb;simp only[Lt,LB]at h;obtain⟨rfl,rfl,rfl⟩:=h;exact⟨rfl,λh=>Kk ht ex eix h0 hb⟩
     ·cases h
    ·cases h
   ·rename_i len e cs ht ex;split at h
    ·rename_i inf hi;split at h
     ·rename_i hc;obtain⟨h1,rfl,rfl⟩:=QM h;exact⟨rfl,λh=>KV ht hi ex eix hc.1 hc.2 h1⟩
     ·cases h
    ·cases h
   ·cases h
  ·cases h
 case h_14 x ix hop=>
  simp only at hop;subst hop;unfold Zs at h;split at h
  ·rename_i vs ex;obtain⟨h1,rfl,rfl⟩:=QM h;exact⟨rfl,λh=>Qb6 ex h1⟩
  ·cases h
 case h_15 x xt t ok hop=>
  simp only at hop;subst hop;unfold Yx at h;obtain⟨h1,rfl,rfl⟩:=QM h;exact⟨rfl,λh=>Qex h1⟩
 case h_16 t parts hop=>
  simp only at hop;subst hop;unfold KF at h;split at h
  ·rename_i fs inf ht hi;split at h
   ·rename_i z pl hz hpl;cases hc:z.cells.toList.all plain with
    | false=>rw[hc]at h;cases h
    | true=>
     rw[hc]at h;obtain⟨h1,rfl,rfl⟩:=QM h;simp only[Lx]at h1;obtain⟨r,hr,rfl⟩:=h1;exact⟨rfl,λh=>Kl ht hi hz hc hpl hr⟩
   ·cases h
  ·rename_i len e inf ht hi;split at h
   ·rename_i z inf' hz hi';cases hc:z.cells.toList.all plain with
    | false=>rw[hc]at h;cases h
    | true=>
     rw[hc]at h;obtain⟨h1,rfl,rfl⟩:=QM h;simp only[Lx]at h1;obtain⟨r,hr,rfl⟩:=h1;exact⟨rfl,λh=>KX ht hi hz hc hi' hr⟩
   ·cases h
  ·cases h
 case h_17 t len parts hop=>
  simp only at hop;subst hop;unfold Xr at h;split at h
  ·rename_i e ht;split at h
   ·rename_i inf hi;split at h
    ·rename_i z hz;cases hc:(z.cells.toList.all plain&&Nat.blt 0 z.cells.size&&Nat.ble len 16777216&&Nat.ble (len * inf.size) 16777216) with
     | false=>rw[hc]at h;cases h
     | true=>
      rw[hc]at h;simp only[Lq]at h;simp only[Lm]at hc;obtain⟨⟨⟨c1,c2⟩,c3⟩,c4⟩:=hc;split at h
      ·rename_i r hr;simp only[Lt,LB]at h;obtain⟨rfl,rfl,rfl⟩:=h;refine⟨rfl,λh hn=>?_⟩;rw[<- hn];exact GV ht hi hz c1 c2 c3 c4 hr
      ·cases h
    ·cases h
   ·cases h
  ·cases h
 case h_18 e hop=>
  simp only at hop;subst hop;unfold KG at h;split at h
  ·rename_i inf hi;split at h
   ·rename_i z hz;cases hc:z.cells.toList.all plain with
    | false=>rw[hc]at h;cases h
    | true=>
     rw[hc]at h;simp only[Lq,Lt,LB]at h;obtain⟨rfl,rfl,rfl⟩:=h;refine⟨rfl,λh hn=>?_⟩;rw[<- hn];exact QfS hi hz hc
   ·cases h
  ·cases h
 case h_19 e x hop=>
  simp only at hop;subst hop;unfold Qga at h;simp only[Lt,LB]at h;obtain⟨rfl,rfl,rfl⟩:=h;refine⟨rfl,λh hn=>?_⟩;rw[<- hn];exact QjR
 case h_20 t x y hop=>
  simp only at hop;subst hop;unfold XS at h;split at h
  ·rename_i e l cc ht ex ey;split at h
   ·rename_i inf hi;split at h
    ·rename_i z hz;split at h
     ·rename_i hc;obtain⟨c0,c1,c2,c3,c4⟩:=hc;simp only[Lt,LB]at h;obtain⟨rfl,rfl,rfl⟩:=h;refine⟨rfl,λh hn=>?_⟩;rw[<- hn];exact VP ht (WX.mk' hi hz c0) ex ey c1 c2 c3 c4
     ·cases h
    ·cases h
   ·cases h
  ·cases h
 case h_21 t x lo hi mx hop=>
  simp only at hop;subst hop;unfold KH at h;split at h
  ·rename_i ht;split at h
   ·rename_i s l hh ex el eh;split at h
    ·rename_i hc;simp only[Lt,LB]at h;obtain⟨rfl,rfl,rfl⟩:=h;exact⟨rfl,λh=>Km ht ex el eh hc.1 hc.2.1 hc.2.2⟩
    ·cases h
   ·cases h
  ·rename_i e ht;split at h
   ·rename_i inf l hh m hi' el eh em;split at h
    ·rename_i hc;obtain⟨h1,rfl,rfl⟩:=QM h;refine⟨rfl,λh=>KY ht hi' el eh em (λhm hn=>?_) h1⟩;subst hn;cases m with
     | none=>exact hm rfl
     | some m=>simp at hc
    ·cases h
   ·cases h
  ·rename_i m e ht;split at h
   ·rename_i a l hh ex el eh;split at h
    ·rename_i inf hi';split at h
     ·rename_i hc;simp only[Lt,LB]at h;obtain⟨rfl,rfl,rfl⟩:=h;exact⟨rfl,λh=>K8 ht hi' ex el eh hc.1 hc.2.1 hc.2.2.1 hc.2.2.2⟩
     ·cases h
    ·cases h
   ·cases h
  ·cases h
 case h_22 t x hop=>
  simp only at hop;subst hop;unfold Ga at h;split at h
  ·rename_i a ex;split at h
   ·rename_i v' hl;simp only[Lt,LB]at h;obtain⟨rfl,rfl,rfl⟩:=h;exact⟨rfl,t,x,a,rfl,ex,hl⟩
   ·cases h
  ·cases h
 case h_23 t x y hop=>
  simp only at hop;subst hop;unfold Jd at h;split at h
  ·rename_i a ex;split at h
   ·rename_i H1 hl;simp only[Lt,LB]at h;obtain⟨rfl,rfl,rfl⟩:=h;exact QfR ex hl
   ·cases h
  ·cases h
 case h_24 cc hop=>
  simp only at hop;subst hop;unfold ZU at h;split at h
  ·rename_i b args ts;obtain⟨args⟩:=args;obtain⟨ts⟩:=ts;simp only at h;split at h
   ·rename_i x t;split at h
    ·rename_i m hm;simp only[Lt,LB]at h;obtain⟨rfl,rfl,rfl⟩:=h;exact⟨rfl,λh=>QjS hm⟩
    ·cases h
   ·rename_i x t;split at h
    ·rename_i e a m cp ht ex;cases hc:Nat.blt cp UNK with
     | false=>rw[hc]at h;cases h
     | true=>
      rw[hc]at h;simp only[Lq,Lt,LB]at h;obtain⟨rfl,rfl,rfl⟩:=h;exact⟨rfl,λh=>QjT ht ex hc⟩
    ·cases h
   ·rename_i x y;split at h
    ·rename_i k a k' b' ex ey;split at h
     ·rename_i e;subst e;simp only[Lt,LB]at h;obtain⟨rfl,rfl,rfl⟩:=h;exact⟨rfl,λh=>Qio ex ey⟩
     ·cases h
    ·cases h
   ·rename_i x y;split at h
    ·rename_i k a k' b' ex ey;split at h
     ·rename_i e;subst e;simp only[Lt,LB]at h;obtain⟨rfl,rfl,rfl⟩:=h;exact⟨rfl,λh=>Qip ex ey⟩
     ·cases h
    ·cases h
   ·rename_i x y t t2;split at h
    ·rename_i e td ht ht2;split at h
     ·rename_i inf hi;split at h
      ·rename_i z hz;cases hc:(Y1 td&&Yr P e inf z) with
       | false=>rw[hc]at h;cases h
       | true=>
        rw[hc]at h;simp only[Lq,Lx,LB]at h;obtain⟨⟨v1,H1⟩,hr,rfl,rfl,rfl⟩:=h;simp only[Lm]at hc;exact Qes ht ht2 hc.1 (WX.mk' hi hz hc.2) hr
      ·cases h
     ·cases h
    ·cases h
   ·rename_i x y t t2;split at h
    ·rename_i e ht;split at h
     ·rename_i inf hi;simp only[Lx,LB]at h;obtain⟨⟨v1,H1⟩,hr,rfl,rfl,rfl⟩:=h;exact Qis ht hi hr
     ·cases h
    ·cases h
   ·rename_i x;split at h
    ·rename_i m cp ex;simp only[Lt,LB]at h;obtain⟨rfl,rfl,rfl⟩:=h;exact⟨rfl,λh=>JG ex⟩
    ·rename_i a m cp ex;split at h
     ·rename_i hm;simp only[Lt,LB]at h;obtain⟨rfl,rfl,rfl⟩:=h;exact⟨rfl,λh=>VS ex hm⟩
     ·cases h
    ·cases h
   ·rename_i x y pt it;split at h
    ·rename_i ex ey;simp only[Lt,LB]at h;obtain⟨rfl,rfl,rfl⟩:=h;exact JH ex ey
    ·rename_i a m ex ey;split at h
     ·rename_i e c e' hp hg;split at h
      ·rename_i hc;obtain⟨rfl,c1,c2,c3,c4,c5,c6⟩:=hc;split at h
       ·rename_i bs hb;simp only[Lt,LB]at h;obtain⟨rfl,rfl,rfl⟩:=h;have em:m=(m.toNat:Int):=by omega
        rw[em]at ey;rw[c1]at ex;exact VT ex ey hp c2 hg (by omega) c4 (by omega) hb (λv hv=>by
         have:=Li.1 c6 v hv;unfold QkW at this;split at this
         ·rename_i k;simp only[Lm,Lv]at this;exact⟨k,rfl,this.1,this.2⟩
         ·cases this)
       ·cases h
      ·cases h
     ·cases h
    ·cases h
   ·cases h
  ·rename_i recv name args ts;split at h
   ·rename_i t v0 er;split at h
    ·rename_i f hm;simp only[Lx,LB]at h;obtain⟨⟨v1,H1⟩,hr,rfl,rfl,rfl⟩:=h;exact QeA er hm (hcall.fn _ _ _ _ _ hr)
    ·cases h
   ·cases h
  ·rename_i f args ts;simp only[Lx,LB]at h;obtain⟨⟨v1,H1⟩,hr,rfl,rfl,rfl⟩:=h;exact KB (hcall.fn _ _ _ _ _ hr)
  ·rename_i cv args ts _;split at h
   ·rename_i f xs ys ec;simp only[Lx,LB]at h;obtain⟨⟨v1,H1⟩,hr,rfl,rfl,rfl⟩:=h;exact QaS ec (hcall.fn _ _ _ _ _ hr)
   ·rename_i l xs ys ec;cases hc:(Nat.beq xs.size 0&&Nat.beq ys.size 0) with
    | false=>rw[hc]at h;cases h
    | true=>
     rw[hc]at h;simp only[Lm,QV,Lv,Array.size_eq_zero_iff]at hc;obtain⟨rfl,rfl⟩:=hc;simp only[Lq,Lx,LB]at h;obtain⟨⟨v1,H1⟩,hr,rfl,rfl,rfl⟩:=h;exact QaZ ec (hcall.yd _ _ _ _ _ hr)
   ·cases h
 case h_25 t hop=>
  simp only at hop;subst hop;simp only[Lt,LB]at h;obtain⟨rfl,rfl,rfl⟩:=h;exact⟨rfl,λh hn=>by rw[<- hn];exact Qcf⟩
 case h_26 t x ix ok hop=>
  simp only at hop;subst hop;unfold Je at h;split at h
  ·rename_i k e ht;simp only[Lx,LB]at h;obtain⟨v1,hr,rfl,rfl,rfl⟩:=h;exact QeB ht hr
  ·cases h
 case h_27 t m k x hop=>
  simp only at hop;subst hop;unfold Gd at h;split at h
  ·rename_i kt e ht;simp only[Lx,LB]at h;obtain⟨H1,hr,rfl,rfl,rfl⟩:=h;exact VU ht hr
  ·cases h
 case h_28 t m k x hop=>
  simp only at hop;subst hop;unfold Gd at h;split at h
  ·rename_i kt e ht;simp only[Lx,LB]at h;obtain⟨H1,hr,rfl,rfl,rfl⟩:=h;exact QeC ht hr
  ·cases h
 case h_29 t x hop=>
  simp only at hop;subst hop;unfold VX at h;split at h
  ·rename_i s ht ex;simp only[Lt,LB]at h;obtain⟨rfl,rfl,rfl⟩:=h;exact⟨rfl,λh hn=>by rw[<- hn];exact Qf6 ht ex⟩
  ·rename_i k e ht ex;simp only[Lt,LB]at h;obtain⟨rfl,rfl,rfl⟩:=h;exact Vs ht ex (λid hid=>by cases hid)
  ·rename_i k e m ht ex;split at h
   ·rename_i es hg;simp only[Lt,LB]at h;obtain⟨rfl,rfl,rfl⟩:=h;exact Vs ht ex (λid hid=>by cases hid;exact⟨es,hg,rfl⟩)
   ·cases h
  ·cases h
 case h_30 it hop=>
  simp only at hop;subst hop;simp only[Lx,LB]at h;obtain⟨⟨v1,H1⟩,hr,rfl,rfl,rfl⟩:=h;exact Qir hr
 case h_31 it hop=>
  simp only at hop;subst hop;simp only[Lx,LB]at h;obtain⟨⟨v1,H1⟩,hr,rfl,rfl,rfl⟩:=h;exact Qf8 hr
 case h_32 it hop=>
  simp only at hop;subst hop;simp only[Lx,LB]at h;obtain⟨v1,hr,rfl,rfl,rfl⟩:=h;exact Qf9 hr
 case h_33=>cases h
end
inductive D where
 | d0 | d1 | d2 | d3 | d4 | d5 | d6 | d7 | d8 | d9 | d10 | d11 | d12 | d13 | d14 | d15
structure N16 (α:Type) where
 mk ::
 a0:α
 a1:α
 a2:α
 a3:α
 a4:α
 a5:α
 a6:α
 a7:α
 a8:α
 a9:α
 a10:α
 a11:α
 a12:α
 a13:α
 a14:α
 a15:α
def D.num:D->Nat
 | .d0=>0
 | .d1=>1
 | .d2=>2
 | .d3=>3
 | .d4=>4
 | .d5=>5
 | .d6=>6
 | .d7=>7
 | .d8=>8
 | .d9=>9
 | .d10=>10
 | .d11=>11
 | .d12=>12
 | .d13=>13
 | .d14=>14
 | .d15=>15
def dig (n:Nat):D:=bif Nat.beq n 0 then .d0 else bif Nat.beq n 1 then .d1 else bif Nat.beq n 2 then .d2 else bif Nat.beq n 3 then .d3 else bif Nat.beq n 4 then .d4 else bif Nat.beq n 5 then .d5 else bif Nat.beq n 6 then .d6 else bif Nat.beq n 7 then .d7 else bif Nat.beq n 8 then .d8 else bif Nat.beq n 9 then .d9 else bif Nat.beq n 10 then .d10 else bif Nat.beq n 11 then .d11 else bif Nat.beq n 12 then .d12 else bif Nat.beq n 13 then .d13 else bif Nat.beq n 14 then .d14 else .d15
theorem KI {n:Nat} (h:n<16):(dig n).num=n:=by
 have:n=0∨n=1∨n=2∨n=3∨n=4∨n=5∨n=6∨n=7∨n=8∨n=9∨n=10∨n=11∨n=12∨n=13∨n=14∨n=15:=by omega
 rcases this with rfl | rfl | rfl | rfl | rfl | rfl | rfl | rfl | rfl | rfl | rfl | rfl | rfl | rfl | rfl | rfl<;>rfl
theorem QdH {n m:Nat} (hn:n<16) (hm:m<16) (h:dig n=dig m):n=m:=by rw[<- KI hn,<- KI hm,h]
def N16.get {α:Type} (n:N16 α) (d:D):α:=D.rec (motive:=λ_=>N16 α->α) N16.a0 N16.a1 N16.a2 N16.a3 N16.a4 N16.a5 N16.a6 N16.a7 N16.a8 N16.a9 N16.a10 N16.a11 N16.a12 N16.a13 N16.a14 N16.a15 d n
def N16.set0 {α:Type} (v:α) (n:N16 α):N16 α:=N16.rec (motive:=λ_=>N16 α) (λa0 a1 a2 a3 a4 a5 a6 a7 a8 a9 a10 a11 a12 a13 a14 a15=>⟨v,a1,a2,a3,a4,a5,a6,a7,a8,a9,a10,a11,a12,a13,a14,a15⟩) n
def N16.set1 {α:Type} (v:α) (n:N16 α):N16 α:=N16.rec (motive:=λ_=>N16 α) (λa0 a1 a2 a3 a4 a5 a6 a7 a8 a9 a10 a11 a12 a13 a14 a15=>⟨a0,v,a2,a3,a4,a5,a6,a7,a8,a9,a10,a11,a12,a13,a14,a15⟩) n
def N16.set2 {α:Type} (v:α) (n:N16 α):N16 α:=N16.rec (motive:=λ_=>N16 α) (λa0 a1 a2 a3 a4 a5 a6 a7 a8 a9 a10 a11 a12 a13 a14 a15=>⟨a0,a1,v,a3,a4,a5,a6,a7,a8,a9,a10,a11,a12,a13,a14,a15⟩) n
def N16.set3 {α:Type} (v:α) (n:N16 α):N16 α:=N16.rec (motive:=λ_=>N16 α) (λa0 a1 a2 a3 a4 a5 a6 a7 a8 a9 a10 a11 a12 a13 a14 a15=>⟨a0,a1,a2,v,a4,a5,a6,a7,a8,a9,a10,a11,a12,a13,a14,a15⟩) n
def N16.set4 {α:Type} (v:α) (n:N16 α):N16 α:=N16.rec (motive:=λ_=>N16 α) (λa0 a1 a2 a3 a4 a5 a6 a7 a8 a9 a10 a11 a12 a13 a14 a15=>⟨a0,a1,a2,a3,v,a5,a6,a7,a8,a9,a10,a11,a12,a13,a14,a15⟩) n
def N16.set5 {α:Type} (v:α) (n:N16 α):N16 α:=N16.rec (motive:=λ_=>N16 α) (λa0 a1 a2 a3 a4 a5 a6 a7 a8 a9 a10 a11 a12 a13 a14 a15=>⟨a0,a1,a2,a3,a4,v,a6,a7,a8,a9,a10,a11,a12,a13,a14,a15⟩) n
def N16.set6 {α:Type} (v:α) (n:N16 α):N16 α:=N16.rec (motive:=λ_=>N16 α) (λa0 a1 a2 a3 a4 a5 a6 a7 a8 a9 a10 a11 a12 a13 a14 a15=>⟨a0,a1,a2,a3,a4,a5,v,a7,a8,a9,a10,a11,a12,a13,a14,a15⟩) n
def N16.set7 {α:Type} (v:α) (n:N16 α):N16 α:=N16.rec (motive:=λ_=>N16 α) (λa0 a1 a2 a3 a4 a5 a6 a7 a8 a9 a10 a11 a12 a13 a14 a15=>⟨a0,a1,a2,a3,a4,a5,a6,v,a8,a9,a10,a11,a12,a13,a14,a15⟩) n
def N16.set8 {α:Type} (v:α) (n:N16 α):N16 α:=N16.rec (motive:=λ_=>N16 α) (λa0 a1 a2 a3 a4 a5 a6 a7 a8 a9 a10 a11 a12 a13 a14 a15=>⟨a0,a1,a2,a3,a4,a5,a6,a7,v,a9,a10,a11,a12,a13,a14,a15⟩) n
def N16.set9 {α:Type} (v:α) (n:N16 α):N16 α:=N16.rec (motive:=λ_=>N16 α) (λa0 a1 a2 a3 a4 a5 a6 a7 a8 a9 a10 a11 a12 a13 a14 a15=>⟨a0,a1,a2,a3,a4,a5,a6,a7,a8,v,a10,a11,a12,a13,a14,a15⟩) n
def N16.set10 {α:Type} (v:α) (n:N16 α):N16 α:=N16.rec (motive:=λ_=>N16 α) (λa0 a1 a2 a3 a4 a5 a6 a7 a8 a9 a10 a11 a12 a13 a14 a15=>⟨a0,a1,a2,a3,a4,a5,a6,a7,a8,a9,v,a11,a12,a13,a14,a15⟩) n
def N16.set11 {α:Type} (v:α) (n:N16 α):N16 α:=N16.rec (motive:=λ_=>N16 α) (λa0 a1 a2 a3 a4 a5 a6 a7 a8 a9 a10 a11 a12 a13 a14 a15=>⟨a0,a1,a2,a3,a4,a5,a6,a7,a8,a9,a10,v,a12,a13,a14,a15⟩) n
def N16.set12 {α:Type} (v:α) (n:N16 α):N16 α:=N16.rec (motive:=λ_=>N16 α) (λa0 a1 a2 a3 a4 a5 a6 a7 a8 a9 a10 a11 a12 a13 a14 a15=>⟨a0,a1,a2,a3,a4,a5,a6,a7,a8,a9,a10,a11,v,a13,a14,a15⟩) n
def N16.set13 {α:Type} (v:α) (n:N16 α):N16 α:=N16.rec (motive:=λ_=>N16 α) (λa0 a1 a2 a3 a4 a5 a6 a7 a8 a9 a10 a11 a12 a13 a14 a15=>⟨a0,a1,a2,a3,a4,a5,a6,a7,a8,a9,a10,a11,a12,v,a14,a15⟩) n
def N16.set14 {α:Type} (v:α) (n:N16 α):N16 α:=N16.rec (motive:=λ_=>N16 α) (λa0 a1 a2 a3 a4 a5 a6 a7 a8 a9 a10 a11 a12 a13 a14 a15=>⟨a0,a1,a2,a3,a4,a5,a6,a7,a8,a9,a10,a11,a12,a13,v,a15⟩) n
def N16.set15 {α:Type} (v:α) (n:N16 α):N16 α:=N16.rec (motive:=λ_=>N16 α) (λa0 a1 a2 a3 a4 a5 a6 a7 a8 a9 a10 a11 a12 a13 a14 a15=>⟨a0,a1,a2,a3,a4,a5,a6,a7,a8,a9,a10,a11,a12,a13,a14,v⟩) n
def N16.put {α:Type} (n:N16 α) (d:D) (v:α):N16 α:=D.rec (motive:=λ_=>α->N16 α->N16 α) N16.set0 N16.set1 N16.set2 N16.set3 N16.set4 N16.set5 N16.set6 N16.set7 N16.set8 N16.set9 N16.set10 N16.set11 N16.set12 N16.set13 N16.set14 N16.set15 d v n
theorem N16.get_put {α:Type} (n:N16 α) (d dx:D) (v:α) [Decidable (dx=d)]:(n.put d v).get dx=if dx=d then v else n.get dx:=by
 obtain⟨a0,a1,a2,a3,a4,a5,a6,a7,a8,a9,a10,a11,a12,a13,a14,a15⟩:=n;split
 ·rename_i h;subst h;cases dx<;>rfl
 ·rename_i h;cases d<;>cases dx<;>first | rfl | exact absurd rfl h
def N16.all {α:Type} (v:α):N16 α:=⟨v,v,v,v,v,v,v,v,v,v,v,v,v,v,v,v⟩
theorem N16.get_all {α:Type} (v:α) (d:D):(N16.all v).get d=v:=by cases d<;>rfl
abbrev E:=N16 (N16 Value)
def QI (e:E):Env:=λt=>(e.get (dig (Nat.div t 16))).get (dig (Nat.mod t 16))
def Qit (e:E) (d:Nat) (v:Value):E:=e.put (dig (Nat.div d 16)) ((e.get (dig (Nat.div d 16))).put (dig (Nat.mod d 16)) v)
def GX (e:E) (d:Option Nat) (v:Value):E:=Option.rec (motive:=λ_=>E) e (λd=>Qit e d v) d
def QkX (A B:Env):Prop:=∀t,t<256->A t=B t
open Classical in
theorem Vt (e:E) {d t:Nat} (v:Value) (hd:d<256) (ht:t<256):QI (Qit e d v) t=upd (QI e) d v t:=by
 have e1:∀x y:Nat,Nat.div x y=x / y:=λ_ _=>rfl;have e2:∀x y:Nat,Nat.mod x y=x % y:=λ_ _=>rfl;simp only[QI,Qit,upd,QV,e1,e2];rw[N16.get_put]
 by_cases h:t=d
 ·subst h;rw[Lc rfl,N16.get_put,Lc rfl];simp
 ·simp only[h,NE,Ls]
  by_cases h1:dig (t / 16)=dig (d / 16)
  ·rw[Lc h1,N16.get_put];have h2:=QdH (by omega) (by omega) h1;rw[Le (λh3=>h (by have:=QdH (by omega) (by omega) h3;omega)),h1]
  ·rw[Le h1]
theorem Jf (e:E) {d:Option Nat} (v:Value) (hd:XN 256 d=true):QkX (QI (GX e d v)) (Q6 (QI e) d v):=by
 intro t ht;cases d with
 | none=>rfl
 | some d=>exact Vt e v (by simpa[XN] using hd) ht
def E.none:E:=N16.all (N16.all undef)
theorem QeF (t:Nat):QI E.none t=undef:=by simp only[QI,E.none,N16.get_all]
def Jg:List Value->Nat->E->E
 | [],_,e=>e
 | v::vs,i,e=>Jg vs (i+1) (Qit e i v)
theorem Vu:∀ (l:List Value) (i:Nat) (e:E) (j:Nat),i+l.length<=256->j<256->QI (Jg l i e) j=if i<=j∧j<i+l.length then l.getD (j - i) undef else QI e j
 | [],i,e,j,_,_=>by simp[Jg];omega
 | v::l,i,e,j,h,hj=>by
  simp only[Lo]at h;simp only[Jg];rw[Vu l (i+1) _ j (by omega) hj,Vt e v (by omega) hj];simp only[Lo]
  by_cases h1:j=i
  ·subst h1;rw[Le (by omega),Lc ⟨by omega,by omega⟩];simp
  ·by_cases h2:i+1<=j∧j<i+1+l.length
   ·rw[Lc h2,Lc ⟨by omega,by omega⟩,show j - i=(j - (i+1))+1 by omega];simp
   ·rw[Le h2,Le (by omega),Xd _ _ h1]
theorem Yg {l:List Value} (h:l.length<=256):QkX (QI (Jg l 0 E.none)) (W9 l):=by
 intro j hj;rw[Vu l 0 _ j (by omega) hj];simp only[W9,L7,Bz,LP,Nat.sub_zero,QeF];split
 ·rfl
 ·rename_i h1;simp[List.getD,N7 (by omega:l.length<=j)]
section
variable {α β:Type}
def tlF (l:List α):List α:=List.rec (motive:=λ_=>List α) [] (λ_ t _=>t) l
def tl8 (l:List α):List α:=tlF (tlF (tlF (tlF (tlF (tlF (tlF (tlF l)))))))
def Qmo (l:List α):List α:=tl8 (tl8 (tl8 (tl8 (tl8 (tl8 (tl8 (tl8 l)))))))
def itF (f:List α->List α) (n:Nat):List α->List α:=Nat.rec (motive:=λ_=>List α->List α) (λl=>l) (λ_ ih l=>ih (f l)) n
def Ql0 (n:Nat) (l:List α):List α:=itF tlF (Nat.mod n 8) (itF tl8 (Nat.mod (Nat.div n 8) 8) (itF Qmo (Nat.div n 64) l))
def hdF (l:List α):Option α:=List.rec (motive:=λ_=>Option α) none (λx _ _=>some x) l
def appF (xs ys:List α):List α:=List.rec (motive:=λ_=>List α) ys (λx _ ih=>x::ih) xs
def Ql8 (l:List α):Bool:=List.rec (motive:=λ_=>Bool) true (λ_ _ _=>false) l
def Qmf (l:List α):Bool:=List.rec (motive:=λ_=>Bool) false (λ_ t _=>Ql8 t) l
def Ql6 (n:Nat) (l:List α):Bool:=Nat.rec (motive:=λ_=>Bool) (Ql8 l) (λm _=>Qmf (Ql0 m l)) n
def Qmg (f:α->β) (l:List α):List β:=List.rec (motive:=λ_=>List β) [] (λx _ ih=>f x::ih) l
theorem Ql9 (l:List α):tlF l=l.drop 1:=by cases l<;>rfl
theorem Qma (l:List α):tl8 l=l.drop 8:=by simp only[tl8,Ql9,Rc]
theorem Qmh (l:List α):Qmo l=l.drop 64:=by simp only[Qmo,Qma,Rc]
theorem Ql1 {f:List α->List α} {k:Nat} (hf:∀l,f l=l.drop k):∀ (n:Nat) (l:List α),itF f n l=l.drop (k * n)
 | 0,l=>rfl
 | n+1,l=>by
  show itF f n (f l)=_;rw[Ql1 hf n,hf,Rc];congr 1;rw[Nat.mul_succ];omega
theorem QlY (n:Nat) (l:List α):Ql0 n l=l.drop n:=by
 unfold Ql0;rw[Ql1 Ql9,Ql1 Qma,Ql1 Qmh,Rc,Rc];congr 1;show 64 * (n / 64)+(8 * (n / 8 % 8)+1 * (n % 8))=n;omega
theorem Qmb (n:Nat) (l:List α):hdF (l.drop n)=l[n]? := by
 rw[<- List.head?_drop];cases l.drop n<;>rfl
theorem Qmi (xs ys:List α):appF xs ys=xs++ys:=by
 induction xs with
 | nil=>rfl
 | cons x xs ih=>show x::appF xs ys=_;rw[ih];rfl
theorem Ql7 (l:List α):Ql8 l=decide (l.length=0):=by cases l<;>simp[Ql8]
theorem Qmj (l:List α):Qmf l=decide (l.length=1):=by
 cases l with
 | nil=>simp[Qmf]
 | cons x l=>show Ql8 l=_;rw[Ql7];simp
theorem Ql4 (n:Nat) (l:List α):Ql6 n l=decide (l.length=n):=by
 cases n with
 | zero=>exact Ql7 l
 | succ n=>
  show Qmf (Ql0 n l)=_;rw[Qmj,QlY,NT];exact BD.2 (by omega)
theorem Qmk (f:α->β) (l:List α):Qmg f l=l.map f:=by
 induction l with
 | nil=>rfl
 | cons x l ih=>show f x::Qmg f l=_;rw[ih];rfl
end
def Qmn (n:Nat) (l:List Value):Option Value:=bif Ql6 n (l.take n) then some (.agg (l.take n).toArray) else none
def QlW (P:Program) (t:TypeId) (a:Addr) (H:Qa):Option Value:=
 match P.underlying t,P.info? t,H.get a.block with
 | some d,some inf,some (.cells c _ _)=>
  bif XA d then(bif Nat.beq inf.size 0 then QZ P t a H else Qmn inf.size (Ql0 a.off c)) else hdF (Ql0 a.off c)
 | _,_,_=>none
theorem QlX (P:Program) (t:TypeId) (a:Addr) (H:Qa):QlW P t a H=QZ P t a H:=by
 cases hu:P.underlying t with
 | none=>simp only[QlW,QZ,hu]
 | some d=>
  cases hi:P.info? t with
  | none=>simp only[QlW,QZ,hu,hi]
  | some inf=>
   cases hg:H.get a.block with
   | none=>simp only[QlW,QZ,hu,hi,hg]
   | some b=>
    cases b with
    | cells c e ro=>
     simp only[QlW,hu,hi,hg];cases hd:XA d with
     | false=>simp only[QZ,hu,hi,hg,hd,Ls,QlY,Qmb];rfl
     | true=>
      cases hz:Nat.beq inf.size 0 with
      | true=>rfl
      | false=>
       have hz':inf.size≠0:=λh=>by rw[h]at hz;cases hz
       simp only[QZ,hu,hi,hg,hd,Lq,Ls,Qmn,Ql4,QlY,N3]
       by_cases h:a.off+inf.size<=c.length
       ·rw[Lc h,Lp (by rw[Sb,NT];omega)];rfl
       ·rw[Le h,Lj (by rw[Sb,NT];omega)];rfl
    | _=>simp only[QlW,QZ,hu,hi,hg]
def QlZ (e:TypeId) (inf:TypeInfo) (s x:Value) (H:Qa):Option (Value×Qa):=
 match JA inf.size x H with
 | some (m,news)=>match s with
  | .slice (some a) len cap=>match H.get a.block with
   | some (.cells c e' false)=>
    bif Nat.ble 1 m&&(Nat.ble UNK cap&&(Nat.beq e' e&&(Nat.beq a.off 0&&(Nat.ble (len+m) 9223372036854775807&&(Nat.ble ((len+m) * inf.bytes) 140737488355328&&(news.all (·.oneCell')&&Ql6 (len * inf.size) c)))))) then
     some (.slice (some ⟨H.next,0,none⟩) (len+m) (UNK+inf.size),(H.kill a.block).push (.cells (appF c news) e false))
    else Zp e inf s x H
   | _=>Zp e inf s x H
  | _=>Zp e inf s x H
 | none=>none
theorem Ql5 (e:TypeId) (inf:TypeInfo) (s x:Value) (H:Qa):QlZ e inf s x H=Zp e inf s x H:=by
 unfold QlZ;split
 ·rename_i m news hs;split
  ·rename_i a len cap;split
   ·rename_i c e' hg;cases hc:(Nat.ble 1 m&&(Nat.ble UNK cap&&(Nat.beq e' e&&(Nat.beq a.off 0&&(Nat.ble (len+m) 9223372036854775807&&(Nat.ble ((len+m) * inf.bytes) 140737488355328&&(news.all (·.oneCell')&&Ql6 (len * inf.size) c))))))) with
    | false=>rfl
    | true=>
     simp only[Lm,QV,Ql4,Lv,BL]at hc;obtain⟨h1,h2,h3,h4,h5,h6,h7,h8⟩:=hc;unfold Zp;simp only[hs,h7,N3,hg];rw[Le (show ¬m=0 by omega),Lc ⟨by omega,h5,h6⟩,Lc h2,Lc ⟨trivial,h3,h4,by omega⟩];simp only[Lq,h4,Lw,Qmi]
   ·rfl
  ·rfl
 ·rename_i hs;unfold Zp;simp only[hs]
def leF {α:Type} (n:Nat) (l:List α):Bool:=Nat.rec (motive:=λ_=>Bool) true (λm _=>Bool.rec (motive:=λ_=>Bool) true false (Ql8 (Ql0 m l))) n
theorem Qmz {α:Type} (n:Nat) (l:List α):leF n l=decide (n<=l.length):=by
 cases n with
 | zero=>rw[Lp (L7 _)];rfl
 | succ n=>
  show Bool.rec (motive:=λ_=>Bool) true false (Ql8 (Ql0 n l))=_;rw[Ql7,QlY,NT]
  by_cases h:l.length - n=0
  ·rw[Lp h,Lj (by omega)]
  ·rw[Lj h,Lp (by omega)]
def Qmv (vs:List Value) (p:Nat):List Value->List Value:=Nat.rec (motive:=λ_=>List Value->List Value) (λc=>appF vs (Ql0 vs.length c)) (λ_ ih c=>List.rec (motive:=λ_=>List Value) [] (λx t _=>x::ih t) c) p
theorem Qms (vs:List Value):∀ (p:Nat) (c:List Value),p<=c.length->Qmv vs p c=splice c p vs
 | 0,c,_=>by show appF vs (Ql0 vs.length c)=_;rw[Qmi,QlY];simp[splice]
 | p+1,[],h=>by simp at h
 | p+1,x::t,h=>by
  show x::Qmv vs p t=_;rw[Qms vs p t (by simpa using h)];simp[splice,show p+1+vs.length=(p+vs.length)+1 by omega]
def Qmw (P:Program) (t:TypeId) (a:Addr) (v:Value) (H:Qa):Option Qa:=
 match P.info? t,H.get a.block with
 | some inf,some (.cells c e false)=>
  bif Ql6 inf.size v.cells.toList&&(leF (a.off+inf.size) c&&v.cells.toList.all (·.oneCell')) then some (H.set a.block (.cells (Qmv v.cells.toList a.off c) e false)) else none
 | _,_=>none
theorem Qmx (P:Program) (t:TypeId) (a:Addr) (v:Value) (H:Qa):Qmw P t a v H=ZM P t a v H:=by
 unfold Qmw;split
 ·rename_i inf c e h1 h2;unfold ZM;simp only[h1,h2]
  by_cases h:v.cells.toList.length=inf.size∧a.off+v.cells.toList.length<=c.length∧v.cells.toList.all (·.oneCell')=true
  ·obtain⟨h3,h4,h5⟩:=h;have e1:(Ql6 inf.size v.cells.toList&&(leF (a.off+inf.size) c&&v.cells.toList.all (·.oneCell')))=true:=by
    rw[Ql4,Qmz,Lp h3,Lp (by omega),h5];rfl
   rw[e1,Lc ⟨h3,h4,h5⟩,Qms _ _ _ (by omega)];rfl
  ·have e1:(Ql6 inf.size v.cells.toList&&(leF (a.off+inf.size) c&&v.cells.toList.all (·.oneCell')))=false:=by
    cases hb:(Ql6 inf.size v.cells.toList&&(leF (a.off+inf.size) c&&v.cells.toList.all (·.oneCell'))) with
    | false=>rfl
    | true=>
     simp only[Lm,Ql4,Qmz,Lv]at hb;exact absurd ⟨hb.1,by omega,hb.2.2⟩ h
   rw[e1,Le h];rfl
 ·rename_i h;unfold ZM;split
  ·rename_i inf c e h1 h2;exact absurd h2 (h inf c e h1)
  ·rfl
abbrev FOp:=Program->Qk->Env->Qa->Option (Cls×Value×Qa)
def QlV (op:Op):FOp:=λP call A H=>aop P call ⟨none,op,0, "",#[],none⟩ A H
def Qmc (t:TypeId) (x:Operand):FOp:=λP call A H=>match ev A x with
 | .pointer (some a)=>match QlW P t a H with
  | some v=>some (.load,v,H)
  | none=>none
 | _=>none
def Qmy (t:TypeId) (x y:Operand):FOp:=λP call A H=>match ev A x with
 | .pointer (some a)=>match Qmw P t a (ev A y) H with
  | some H'=>some (.gen,undef,H')
  | none=>none
 | _=>none
def Ql2 (args:List Operand) (ts:List TypeId):FOp:=λP call A H=>match args,ts with
 | [x,y],[t,t2]=>match P.underlying t,P.underlying t2 with
  | some (.slice e),some td=>match P.info? e with
   | some inf=>match inf.zero with
    | some z=>bif Y1 td&&Yr P e inf z then(QlZ e inf (ev A x) (ev A y) H).map λr=>(.gen,r.1,r.2) else none
    | none=>none
   | none=>none
  | _,_=>none
 | _,_=>none
def Qmp (args:List Operand) (ts:List TypeId):FOp:=λP call A H=>match args,ts with
 | [x],[t]=>match QfT P t (ev A x) with | some m=>some (.pure,.int .i64 (m:Int),H) | none=>none
 | _,_=>none
def Qmq (r:Option (Value×Qa)):Option (Cls×Value×Qa):=Option.rec (motive:=λ_=>Option (Cls×Value×Qa)) none (λr=>some (.gen,r.1,r.2)) r
def fnF (f:FuncId) (args:Array Operand):FOp:=λ_ call A H=>Qmq (call.fn f (Qmg (ev A) args.toList) H)
def Qmr (b:Builtin) (args:Array Operand) (ts:Array TypeId):FOp:=match b with
 | .append=>Ql2 args.toList ts.toList
 | .len=>Qmp args.toList ts.toList
 | b=>QlV (.call ⟨.builtin b,args,ts⟩)
def callF (c:Call):FOp:=Callee.rec (motive:=λ_=>Array Operand->Array TypeId->FOp)
 (λf=>Operand.rec (motive:=λ_=>Array Operand->Array TypeId->FOp) (λt args ts=>QlV (.call ⟨.value (.tmp t),args,ts⟩)) (λv args ts=>QlV (.call ⟨.value (.const v),args,ts⟩))
  (λg args ts=>QlV (.call ⟨.value (.global g),args,ts⟩)) (λf args _=>fnF f args) f)
 (λr m args ts=>QlV (.call ⟨.invoke r m,args,ts⟩)) Qmr c.callee c.args c.argTypes
def Qml (P:Program) (call:Qk) (o:Oper) (A:Env) (H:Qa):Option (Cls×Value×Qa):=
 Op.rec (motive:=λ_=>FOp)
  (λx _ _ A H=>some (.pure,ev A x,H))
  (λx _ _ A H=>some (.pure,ev A x,H))
  (λc x y P call A H=>VW P call A H c x y)
  (λe P call A H=>KG P call A H e)
  (λe x P call A H=>Qga P call A H e x)
  (λt ps P call A H=>KF P call A H t ps)
  (λt l ps P call A H=>Xr P call A H t l ps)
  (λt m k x P call A H=>Gd P call A H t m k x)
  Qmc
  Qmy
  (λg=>QlV (.ready g))
  (λg=>QlV (.waits g))
  (λx P call A H=>XD P call A H x)
  (λop t x y _ P call A H=>Jc P call A H op t x y)
  (λop _ x P call A H=>Qcj P call A H op x)
  (λs d x P call A H=>Zr P call A H s d x)
  (λd x=>QlV (.sliceToArrayPointer d x))
  (λt x P call A H=>Wz P call A H t x)
  (λf a b P call A H=>ZT P call A H f a b)
  (λt r=>QlV (.makeMap t r))
  (λt x=>QlV (.makeChan t x))
  (λt x y P call A H=>XS P call A H t x y)
  (λt x l h m P call A H=>KH P call A H t x l h m)
  (λt x f P call A H=>WJ P call A H t x f)
  (λt x f P call A H=>KD P call A H t x f)
  (λt x i P call A H=>WK P call A H t x i)
  (λt x i P call A H=>KE P call A H t x i)
  (λt x i k P call A H=>Je P call A H t x i k)
  (λt m k x P call A H=>Gd P call A H t m k x)
  (λt m k=>QlV (.mapEntry t m k))
  (λt m k x=>QlV (.entryStore t m k x))
  (λt x P call A H=>VX P call A H t x)
  (λx b=>QlV (.next x b))
  (λx=>QlV (.entry x))
  (λx _ t k P call A H=>Yx P call A H x t k)
  (λx i P call A H=>Zs P call A H x i)
  callF
  (λc=>QlV (.go c))
  (λc=>QlV (.defer c))
  (λx=>QlV (.panic x))
  (λx y=>QlV (.send x y))
  (λt x k=>QlV (.recv t x k))
  (λcs b=>QlV (.select cs b)) o.op P call A H
theorem Qmm (r:Option (Value×Qa)):Qmq r=r.map λr=>(.gen,r.1,r.2):=by cases r<;>rfl
theorem Qmd (f:Operand->Value) (l:Array Operand):Qmg f l.toList=(l.map f).toList:=by rw[Qmk,Array.toList_map]
theorem Qme (P:Program) (call:Qk) (A:Env) (H:Qa) (c:Call):callF c P call A H=ZU P call A H c:=by
 obtain⟨cal,args,ts⟩:=c;cases cal with
 | value f=>
  cases f with
  | func f=>show fnF f args P call A H=_;unfold fnF;rw[Qmm,Qmd];rfl
  | _=>rfl
 | invoke r m=>rfl
 | builtin b=>
  cases b with
  | append=>
   show Ql2 args.toList ts.toList P call A H=_;unfold Ql2 ZU;simp only[Ql5];rcases args.toList with _ | ⟨x,_ | ⟨y,_ | ⟨z,l⟩⟩⟩<;>rcases ts.toList with _ | ⟨t,_ | ⟨t2,_ | ⟨t3,l2⟩⟩⟩<;>rfl
  | len=>
   show Qmp args.toList ts.toList P call A H=_;unfold Qmp ZU;simp only;rcases args.toList with _ | ⟨x,_ | ⟨y,_ | ⟨z,l⟩⟩⟩<;>rcases ts.toList with _ | ⟨t,_ | ⟨t2,_ | ⟨t3,l2⟩⟩⟩<;>rfl
  | _=>rfl
theorem Ql3 (P:Program) (call:Qk) (o:Oper) (A:Env) (H:Qa):Qml P call o A H=aop P call o A H:=by
 obtain⟨dst,op,ty,pos,af,g⟩:=o;cases op with
 | load t x=>
  show Qmc t x P call A H=Ga P call A H t x;unfold Qmc Ga;simp only[QlX]<;>rfl
 | store t x y=>
  show Qmy t x y P call A H=Jd P call A H t x y;unfold Qmy Jd;simp only[Qmx]<;>rfl
 | call c=>exact Qme P call A H c
 | _=>rfl
/-! ### Equality of values and blocks, by a run -/
def Wv (eq:Value->Value->Bool):List Value->List Value->Bool
 | [],[]=>true
 | x::xs,y::ys=>eq x y&&Wv eq xs ys
 | _,_=>false
theorem Jh {eq:Value->Value->Bool} (h:∀x y,eq x y=true->x=y):∀xs ys,Wv eq xs ys=true->xs=ys
 | [],[],_=>rfl
 | x::xs,y::ys,hb=>by
  simp only[Wv,Lm]at hb;rw[h x y hb.1,Jh h xs ys hb.2]
 | [],_::_,hb=>by simp[Wv]at hb
 | _::_,[],hb=>by simp[Wv]at hb
def Yh:Nat->Value->Value->Bool
 | 0,_,_=>false
 | f+1,x,y=>match x,y with
  | .bool a,.bool b=>a==b
  | .int k a,.int k' b=>decide (k=k')&&decide (a=b)
  | .string a,.string b=>decide (bl a=bl b)
  | .pointer a,.pointer b=>decide (a=b)
  | .slice a l c,.slice a' l' c'=>decide (a=a')&&Nat.beq l l'&&Nat.beq c c'
  | .map a,.map b=>decide (a=b)
  | .nilFunc,.nilFunc=>true
  | .nilIface,.nilIface=>true
  | .iface t v,.iface t' v'=>Nat.beq t t'&&Yh f v v'
  | .agg xs,.agg ys=>Wv (Yh f) xs.toList ys.toList
  | .tuple xs,.tuple ys=>Wv (Yh f) xs.toList ys.toList
  | .func fn xs zs,.func fn' ys us=>decide (fn=fn')&&Wv (Yh f) xs.toList ys.toList&&Wv (Yh f) zs.toList us.toList
  | _,_=>false
theorem Yy:∀ (f:Nat) (x y:Value),Yh f x y=true->x=y:=by
 intro f
 induction f with
 | zero=>intro x y h;simp[Yh]at h
 | succ f ih=>
  intro x y h;have harr:∀ {xs ys:Array Value},Wv (Yh f) xs.toList ys.toList=true->xs=ys:=λh=>Ru (Jh ih _ _ h);unfold Yh at h;split at h
  ·simp at h;rw[h]
  ·simp only[Lm,Lv]at h;rw[h.1,h.2]
  ·rename_i a b;have h':bl a=bl b:=by simpa using h
   rw[<- VM a,<- VM b,h']
  ·simp at h;rw[h]
  ·simp only[Lm,Lv,QV]at h;rw[h.1.1,h.1.2,h.2]
  ·simp at h;rw[h]
  ·rfl
  ·rfl
  ·simp only[Lm,Lv,QV]at h;rw[h.1,ih _ _ h.2]
  ·rw[harr h]
  ·rw[harr h]
  ·simp only[Lm,Lv]at h;rw[h.1.1,harr h.1.2,harr h.2]
  ·cases h
def QjV:Option Blk->Option Blk->Bool
 | some (.cells c e r),some (.cells c' e' r')=>Nat.beq e e'&&r==r'&&Wv (Yh 8) c c'
 | none,none=>true
 | _,_=>false
theorem Qiu {x y:Option Blk} (h:QjV x y=true):x=y:=by
 unfold QjV at h;split at h
 ·simp only[Lm,QV,Lv,L0]at h;rw[h.1.1,h.1.2,Jh (Yy 8) _ _ h.2]
 ·rfl
 ·cases h
def Qiv:Option Value->Value->Bool
 | some x,y=>Yh 8 x y
 | none,_=>false
theorem QdI {x:Option Value} {y:Value} (h:Qiv x y=true):x=some y:=by
 cases x with
 | none=>simp[Qiv]at h
 | some x=>rw[Yy 8 x y h]
/-! ### Regions that draw their order -/
structure Stp where
 t:Env
 H:Qa
 c:Cls
 v:Value
def Wl (P:Program) (call:Qk) (n:Nat) (ops:Array Oper):List Oper->Env->Qa->Option (List Stp×Env×Qa)
 | [],t,H=>some ([],t,H)
 | o::rest,t,H=>
  bif Xn P n o then
   match QN n ops t o with
   | some true=>match Qml P call o t H with
    | some (c,v,H')=>match Wl P call n ops rest (Q6 t o.dst v) H' with
     | some (l,r)=>some (⟨t,H,c,v⟩::l,r)
     | none=>none
    | none=>none
   | some false=>match Wl P call n ops rest (Q6 t o.dst undef) H with
    | some (l,r)=>some (⟨t,H,.pure,undef⟩::l,r)
    | none=>none
   | none=>none
  else none
def QjW (o:Oper):Bool:=
 match o.op with
 | .store .. => true
 | .lookup .. => true
 | .mapUpdate .. => true
 | .insert .. => true
 | .next .. => true
 | .entry .. => true
 | .call ⟨.builtin b,_,_⟩=>match b with | .len | .cap | .max | .min | .unsafeSliceData=>false | _=>true
 | .call _=>true
 | _=>false
def QA (ops:Array Oper) (i:Nat):Bool:=match ops[i]? with | some o=>QjW o | none=>false
def QB (l:List Stp) (H:Qa) (i:Nat):Qa:=match l[i]? with | some s=>s.H | none=>H
def Qmt (l:List Stp) (H:Qa) (i:Nat):Qa:=Option.rec (motive:=λ_=>Qa) H (λs=>s.H) (hdF (Ql0 i l))
theorem Qmu (l:List Stp) (H:Qa) (i:Nat):Qmt l H i=QB l H i:=by
 unfold Qmt QB;rw[QlY,Qmb];cases l[i]?<;>rfl
def Yz (P:Program) (ops:Array Oper) (ms:List Nat) (l:List Stp) (H:Qa) (i:Nat) (s:Stp):Bool:=
 Nat.ble s.H.next (Qmt l H (i+1)).next &&
 match s.c with
 | .pure=>true
 | .gen=>QA ops i
 | .load=>match ops[i]? with
  | some o=>match o.op with
   | .load t x=>match ev (s.t) x with
    | .pointer (some a)=>(List.range ops.size).all λk=>!(QA ops k)||Qd ms i k||Qd ms k i ||
      (Qiv (QlW P t a (Qmt l H k)) s.v&&Qiv (QlW P t a (Qmt l H (k+1))) s.v&&Qx s.H.next 6 s.v)
    | _=>false
   | _=>false
  | none=>false
 | .alloc b=>(List.range ops.size).all λk=>!(QA ops k)||!(Nat.blt i k)||Qd ms i k||QjV ((Qmt l H (k+1)).get s.H.next) ((Qmt l H k).get s.H.next)
def JI (p:Nat->Stp->Bool):Nat->List Stp->Bool
 | _,[]=>true
 | i,s::l=>p i s&&JI p (i+1) l
theorem J5 {p:Nat->Stp->Bool}:∀ (l:List Stp) (i:Nat),JI p i l=true->∀ (j:Nat) s,l[j]? = some s->p (i+j) s=true
 | [],_,_,j,s,h=>by simp at h
 | x::l,i,h,j,s,hj=>by
  simp only[JI,Lm]at h;cases j with
  | zero=>simp at hj;subst hj;exact h.1
  | succ j=>have:=J5 l (i+1) h.2 j s (by simpa using hj);rwa [show i+1+j=i+(j+1) by omega]at this
def VY:List Oper->List Stp->E->E
 | o::os,s::ss,e=>VY os ss (GX e o.dst s.v)
 | _,_,e=>e
def KJ (P:Program) (call:Qk) (n:Nat) (ops:Array Oper) (t:Env) (H:Qa):Option (List Stp×Env×Qa):=
 bif P.follows .mixedOrders&&Xf ops (QA ops) then
  match Wl P call n ops ops.toList t H with
  | some (l,t1,H1)=>bif JI (Yz P ops (Qf ops.toList []) l H1) 0 l then some (l,t1,H1) else none
  | none=>none
 else none
section
variable {P:Program} {n:Nat} {Q:Ex->Env->Qa->Prop}
def Qgb (P:Program) (call:Qk) (n:Nat) (ops:Array Oper) (o:Oper) (s:Stp) (t':Env) (H':Qa):Prop:=
 Xn P n o=true∧t'=Q6 s.t o.dst s.v∧((QN n ops (s.t) o=some true∧aop P call o (s.t) s.H=some (s.c,s.v,H'))∨(QN n ops (s.t) o=some false∧s.c=.pure∧s.v=undef∧H'=s.H))
theorem X3 {call:Qk} {ops:Array Oper}:∀ (l:List Oper) (t:Env) (H:Qa) (tr:List Stp) (t1:Env) (H1:Qa),Wl P call n ops l t H=some (tr,t1,H1)->
  tr.length=l.length∧(match tr[0]? with | some s=>s.t=t∧s.H=H | none=>t1=t∧H1=H)∧
  ∀ (j:Nat) o s,l[j]? = some o->tr[j]? = some s->Qgb P call n ops o s (match tr[j+1]? with | some s'=>s'.t | none=>t1) (QB tr H1 (j+1))
 | [],t,H,tr,t1,H1,h=>by simp only[Wl,Lt,LB]at h;obtain⟨rfl,rfl,rfl⟩:=h;exact⟨rfl,⟨rfl,rfl⟩,λj o s hj=>by simp at hj⟩
 | o::rest,t,H,tr,t1,H1,h=>by
  have step:∀ (s:Stp) (l:List Stp) (t':Env) (H':Qa),s.t=t->s.H=H->Wl P call n ops rest t' H'=some (l,t1,H1)->tr=s::l->Qgb P call n ops o s t' H'->
    tr.length=(o::rest).length∧(match tr[0]? with | some s=>s.t=t∧s.H=H | none=>t1=t∧H1=H)∧
    ∀ (j:Nat) o' s,(o::rest)[j]? = some o'->tr[j]? = some s->Qgb P call n ops o' s (match tr[j+1]? with | some s'=>s'.t | none=>t1) (QB tr H1 (j+1)):=by
   intro s l t' H' e1 e2 hl htr hok;obtain⟨i1,i2,i3⟩:=X3 rest t' H' l t1 H1 hl;subst htr;refine⟨by simp[i1],by simp[e1,e2],λj o' s' hj hs=>?_⟩;cases j with
   | zero=>
    simp only[Bp,Lt]at hj hs;subst hj;subst hs;have:(match (s::l)[0+1]? with | some s'=>s'.t | none=>t1)=t'∧QB (s::l) H1 (0+1)=H':=by
     simp only[QB,LP,Bg];cases hl0:l[0]? with
     | none=>rw[hl0]at i2;exact⟨i2.1,i2.2⟩
     | some s1=>rw[hl0]at i2;exact⟨i2.1,i2.2⟩
    rw[this.1,this.2];exact hok
   | succ j=>
    have:=i3 j o' s' (by simpa using hj) (by simpa using hs);simpa[QB] using this
  unfold Wl at h;cases hok:Xn P n o with
  | false=>rw[hok]at h;cases h
  | true=>
   rw[hok]at h;simp only[Lq]at h;split at h
   ·rename_i hw;split at h
    ·rename_i c v H' ha;split at h
     ·rename_i l r hl;obtain⟨t1',H1'⟩:=r;simp only[Lt,LB]at h;obtain⟨rfl,rfl,rfl⟩:=h;exact step ⟨t,H,c,v⟩ l _ H' rfl rfl hl rfl ⟨hok,rfl,.inl ⟨hw,(Ql3 ..).symm.trans ha⟩⟩
     ·cases h
    ·cases h
   ·rename_i hw;split at h
    ·rename_i l r hl;obtain⟨t1',H1'⟩:=r;simp only[Lt,LB]at h;obtain⟨rfl,rfl,rfl⟩:=h;exact step ⟨t,H,.pure,undef⟩ l _ H rfl rfl hl rfl ⟨hok,rfl,.inr ⟨hw,rfl,rfl,rfl⟩⟩
    ·cases h
   ·cases h
theorem Y6 {ops:Array Oper} {g g':Nat->Bool} (h:∀i,i<ops.size->g i=true->g' i=true) (hd:Xf ops g'=true):Xf ops g=true:=by
 unfold Xf at hd ⊢;simp only[Li,LU]at hd ⊢;intro j hj;have h1:=hd j hj;split
 ·rfl
 ·rename_i o ho;rw[ho]at h1;simp only[Lm,Li,LU]at h1 ⊢;refine⟨h1.1,λi hi=>?_⟩;have h2:=h1.2 i hi;split
  ·rfl
  ·rename_i oi hoi;rw[hoi]at h2;simp only[Lm]at h2 ⊢;refine⟨h2.1,?_⟩;have h3:=h2.2;cases gi:g i with
   | false=>simp
   | true=>
    cases gj:g j with
    | false=>simp
    | true=>simpa[h i hi gi,h j hj gj] using h3
theorem GY {call:Qk} (hcall:WP P call) {id:Nat} {ops:Array Oper} {t t1:Env} {H H1:Qa} {tr:List Stp} (h:KJ P call n ops t H=some (tr,t1,H1)) (hq:Q .normal t1 H1):AWp P n (.region id ops true) Q t H:=by
 unfold KJ at h;cases hc:(P.follows .mixedOrders&&Xf ops (QA ops)) with
 | false=>rw[hc]at h;cases h
 | true=>
  rw[hc]at h;simp only[Lq]at h;simp only[Lm]at hc;obtain⟨hm,hd⟩:=hc;split at h
  ·rename_i l t1' H1' htr;cases hall:JI (Yz P ops (Qf ops.toList []) l H1') 0 l with
   | false=>rw[hall]at h;cases h
   | true=>
    rw[hall]at h;simp only[Lq,Lt,LB]at h;obtain⟨rfl,rfl,rfl⟩:=h;obtain⟨s1,s2,s3⟩:=X3 ops.toList t H l t1' H1' htr;have hlen:l.length=ops.size:=by simpa using s1
    have hchk:∀ (j:Nat) s,l[j]? = some s->Yz P ops (Qf ops.toList []) l H1' j s=true:=λj s hj=>by have:=J5 l 0 hall j s hj;rwa [LP]at this
    let As:Nat->Env:=λi=>match l[i]? with | some s=>s.t | none=>t1'
    let Hs:Nat->Qa:=QB l H1'
    let vs:Nat->Value:=λi=>match l[i]? with | some s=>s.v | none=>undef
    let cls:Nat->Cls:=λi=>match l[i]? with | some s=>s.c | none=>.pure
    have hat:∀ (i:Nat) o,ops[i]? = some o->∃s,l[i]? = some s:=λi o ho=>by
     have:i<l.length:=by rw[hlen];exact(Nj.1 ho).1
     exact⟨l[i],La this⟩
    have hgen:∀i,i<ops.size->QK (cls i)=true->QA ops i=true:=λi hi hg=>by
     obtain⟨s,hs⟩:=hat i ops[i] (Ng hi);have hcl:cls i=s.c:=by simp only[cls,hs]
     rw[hcl]at hg;have hk:=hchk i s hs;unfold Yz at hk;simp only[Lm,Qmu]at hk;cases hsc:s.c with
     | gen=>rw[hsc]at hk;exact hk.2
     | _=>rw[hsc]at hg;cases hg
    have F:Wd P n ops ops.size As Hs vs cls:=by
     refine⟨λi o ho=>?_,λi hi=>?_,λi o ho=>?_,λi o ho _=>?_,Y6 hgen hd,λi h h'=>absurd h' (by omega)⟩
     ·obtain⟨s,hs⟩:=hat i o ho;have hok:=s3 i o s (by simpa using ho) hs;have e1:As i=s.t:=by simp only[As,hs]
      have e2:vs i=s.v:=by simp only[vs,hs]
      rw[e1,e2,<- hok.2.1]
     ·obtain⟨s,hs⟩:=hat i ops[i] (Ng hi);have hk:=hchk i s hs;unfold Yz at hk;simp only[Lm,Qmu]at hk;have e1:Hs i=s.H:=by simp only[Hs,QB,hs]
      rw[e1];simpa using hk.1
     ·obtain⟨s,hs⟩:=hat i o ho;exact(s3 i o s (by simpa using ho) hs).1
     ·obtain⟨s,hs⟩:=hat i o ho;have hok:=s3 i o s (by simpa using ho) hs;have hk:=hchk i s hs;have e1:As i=s.t:=by simp only[As,hs]
      have e2:vs i=s.v:=by simp only[vs,hs]
      have e3:Hs i=s.H:=by simp only[Hs,QB,hs]
      have e4:cls i=s.c:=by simp only[cls,hs]
      unfold VQ;rw[e1,e2,e3,e4];rcases hok.2.2 with⟨hw,ha⟩ | ⟨hw,hc0,hv0,hH0⟩
      ·right;refine⟨hw,?_⟩;have hcl:=Xx hcall ha;unfold Yz at hk;simp only[Lm,Qmu]at hk;cases hsc:s.c with
       | pure=>rw[hsc]at hcl;exact hcl
       | gen=>rw[hsc]at hcl;exact hcl
       | alloc b=>
        rw[hsc]at hcl hk;refine⟨hcl.1,hcl.2,λk hk1 hik hgk ho'=>?_⟩;have:=Li.1 hk.2 k (LU.2 hk1);have hb:Nat.blt i k=true:=by simpa using hik
        simp only[hgen k hk1 hgk,hb,ho',L8,Nt]at this;exact Qiu this
       | load=>
        rw[hsc]at hcl hk;obtain⟨h1,tt,x,a,hop,ex,hl⟩:=hcl;refine⟨h1,tt,x,a,hop,ex,hl,λk hk1 hgk o1 o2=>?_⟩;have hk2:=hk.2;rw[ho]at hk2;simp only[hop,ex]at hk2;have:=Li.1 hk2 k (LU.2 hk1);simp only[hgen k hk1 hgk,o1,o2,L8,Nt,Lm]at this;exact⟨QdI (QlX ..▸this.1.1),QdI (QlX ..▸this.1.2),this.2⟩
      ·left;exact⟨hw,hv0,hH0,hc0⟩
    have hN:l[ops.size]? = none:=N7 (by omega);have eN:As ops.size=t1':=by simp only[As,hN]
    have eH:Hs ops.size=H1':=by simp only[Hs,QB,hN]
    have e0:As 0=t∧Hs 0=H:=by
     cases hl0:l[0]? with
     | none=>rw[hl0]at s2;simp only[As,Hs,QB,hl0,s2.1,s2.2,RU]
     | some s=>rw[hl0]at s2;simp only[As,Hs,QB,hl0,s2.1,s2.2,RU]
    have:=QaX (id:=id) (Q:=Q) hm F (by rw[eN,eH];exact hq);rw[e0.1,e0.2]at this;exact this
  ·cases h
/-! ### A panic in such a region -/
def Y7 (P:Program) (call:Qk) (n:Nat) (ops:Array Oper):List Oper->Env->Qa->Nat
 | [],_,_=>0
 | o::rest,t,H=>match QN n ops t o with
  | some true=>(match aop P call o t H with
   | some (_,v,H')=>Y7 P call n ops rest (Q6 t o.dst v) H'+1
   | none=>0)
  | some false=>Y7 P call n ops rest (Q6 t o.dst undef) H+1
  | none=>0
def Qgc:Cls->Bool
 | .pure=>true
 | .load=>true
 | _=>false
def VZ (P:Program) (call:Qk) (n:Nat) (ops:Array Oper) (t:Env) (H:Qa):Option (Nat×Oper×Env):=
 match ops[Y7 P call n ops ops.toList t H]?,Wl P call n ops (ops.toList.take (Y7 P call n ops ops.toList t H)) t H with
 | some o,some (l,t1,_)=>
  bif P.follows .mixedOrders&&Xf ops (QA ops)&&ops.toList.all (Xn P n)&&o.guard.isNone&&l.all (λs=>Qgc s.c)&&(List.range ops.size).all (λk=>Nat.ble k (Y7 P call n ops ops.toList t H)||Qd (Qf ops.toList []) (Y7 P call n ops ops.toList t H) k)
  then some (Y7 P call n ops ops.toList t H,o,t1) else none
 | _,_=>none
theorem ZC {call:Qk} (hcall:WP P call) {id:Nat} {ops:Array Oper} {t t1:Env} {H H':Qa} {p:Nat} {o:Oper} {v:Value} (h:VZ P call n ops t H=some (p,o,t1)) (hp:JX P o t1 H v H')
  (hq:∀A',(∀s,s<n->(∃ok∈ops.toList.take p,ok.dst=some s)∨A' s=t s)->Q (.panic v) A' H'):AWp P n (.region id ops true) Q t H∧∀ok∈ops.toList,Xn P n ok=true:=by
 unfold VZ at h;generalize Y7 P call n ops ops.toList t H=q at h;split at h
 ·rename_i o' l t1' H1 ho htr;cases hc:(P.follows .mixedOrders&&Xf ops (QA ops)&&ops.toList.all (Xn P n)&&o'.guard.isNone&&l.all (λs=>Qgc s.c)&&(List.range ops.size).all (λk=>Nat.ble k q||Qd (Qf ops.toList []) q k)) with
  | false=>rw[hc]at h;cases h
  | true=>
   rw[hc]at h;simp only[Lq,Lt,LB]at h;obtain⟨rfl,rfl,rfl⟩:=h;simp only[Lm,Li,Option.isNone_iff_eq_none,LU,Nw,BL]at hc;obtain⟨⟨⟨⟨⟨hm,hd⟩,hok⟩,hg⟩,hqu⟩,haf⟩:=hc;have hql:q<ops.size:=(Nj.1 ho).1;obtain⟨s1,s2,s3⟩:=X3 (ops.toList.take q) t H l t1' H1 htr;have hlen:l.length=q:=by rw[s1,Sb,Array.length_toList];omega
   have hat:∀i,i<q->∃s,l[i]? = some s:=λi hi=>⟨l[i]'(by omega),La (by omega)⟩;have hopt:∀ (i:Nat) ok,i<q->ops[i]? = some ok->(ops.toList.take q)[i]? = some ok:=λi ok hi hk=>by
    rw[Nl,Lc hi,Bl];exact hk
   have hstep:∀ (i:Nat) s ok,l[i]? = some s->ops[i]? = some ok->s.H=H->QB l H1 (i+1)=H:=λi s ok hs hk hH=>by
    have hi:i<q:=by rw[<- hlen];exact(Lk.1 hs).1
    have st:=s3 i ok s (hopt i ok hi hk) hs;rcases st.2.2 with⟨_,ha⟩ | ⟨_,_,_,ha⟩
    ·have hcl:=Xx hcall ha;have hqc:=hqu s (Ln hs);cases hsc:s.c with
     | pure=>rw[hsc]at hcl;rw[hcl.1,hH]
     | load=>rw[hsc]at hcl;rw[hcl.1,hH]
     | gen=>rw[hsc]at hqc;cases hqc
     | alloc b=>rw[hsc]at hqc;cases hqc
    ·rw[ha,hH]
   have hH:∀ (i:Nat) s,l[i]? = some s->s.H=H:=by
    intro i
    induction i with
    | zero=>intro s hs;rw[hs]at s2;exact s2.2
    | succ i ih=>
     intro s hs;have hi:i+1<q:=by rw[<- hlen];exact(Lk.1 hs).1
     obtain⟨s',hs'⟩:=hat i (by omega);have:=hstep i s' ops[i] hs' (Ng (by omega)) (ih s' hs');simp only[QB,hs]at this;exact this
   let tail:Nat->Env:=λj=>Nat.rec (motive:=λ_=>Env) t1' (λj A=>match ops[q+j]? with | some ok=>Q6 A ok.dst undef | none=>A) j
   let As:Nat->Env:=λi=>if i<q then(match l[i]? with | some s=>s.t | none=>t1') else tail (i - q)
   let vs:Nat->Value:=λi=>match l[i]? with | some s=>s.v | none=>undef
   let cls:Nat->Cls:=λi=>match l[i]? with | some s=>s.c | none=>.pure
   have hfar:∀i,q<=i->l[i]? = none:=λi hi=>N7 (by omega);have hcls:∀i,QK (cls i)=false:=λi=>by
    cases hs:l[i]? with
    | none=>simp only[cls,hs];rfl
    | some s=>
     simp only[cls,hs];have:=hqu s (Ln hs);cases hsc:s.c<;>rw[hsc]at this<;>first | rfl | cases this
   have F:Wd P n ops q As (λ_=>H) vs cls:=by
    refine⟨λi ok hk=>?_,λi hi=>Lb _,λi ok hk=>hok ok (Ln (by rw[Bl];exact hk)),λi ok hk hi=>?_,Y6 (λi hi hgi=>by rw[hcls i]at hgi;cases hgi) hd,λi hi _=>⟨rfl,hcls i⟩⟩
    ·by_cases hi:i<q
     ·obtain⟨s,hs⟩:=hat i hi;have st:=s3 i ok s (hopt i ok hi hk) hs;have e1:As i=s.t:=by simp only[As,Lc hi,hs]
      have e2:vs i=s.v:=by simp only[vs,hs]
      rw[e1,e2,<- st.2.1]
      by_cases hi2:i+1<q
      ·simp only[As,Lc hi2]
      ·have:i+1=q:=by omega
       simp only[As,Le hi2,hfar (i+1) (by omega)];rw[show i+1 - q=0 by omega];rfl
     ·have e2:vs i=undef:=by simp only[vs,hfar i (by omega)]
      have e3:i+1 - q=(i - q)+1:=by omega
      have e4:ops[q+(i - q)]? = some ok:=by rw[show q+(i - q)=i by omega];exact hk
      simp only[As,Le hi,Le (show ¬i+1<q by omega),e3,tail,e4,e2]
    ·obtain⟨s,hs⟩:=hat i hi;have st:=s3 i ok s (hopt i ok hi hk) hs;have hsH:=hH i s hs;have hnx:=hstep i s ok hs hk hsH;have e1:As i=s.t:=by simp only[As,Lc hi,hs]
     have e2:vs i=s.v:=by simp only[vs,hs]
     have e4:cls i=s.c:=by simp only[cls,hs]
     unfold VQ;rw[e1,e2,e4];rcases st.2.2 with⟨hw,ha⟩ | ⟨hw,hc0,hv0,hH0⟩
     ·right;refine⟨hw,?_⟩;have hcl:=Xx hcall ha;have hqc:=hqu s (Ln hs);cases hsc:s.c with
      | pure=>rw[hsc]at hcl;exact⟨rfl,hcl.2⟩
      | load=>
       rw[hsc]at hcl;obtain⟨_,tt,x,a,hop,ex,hl⟩:=hcl;rw[hsH]at hl;exact⟨rfl,tt,x,a,hop,ex,hl,λk _ hgk _ _=>by rw[hcls k]at hgk;cases hgk⟩
      | gen=>rw[hsc]at hqc;cases hqc
      | alloc b=>rw[hsc]at hqc;cases hqc
     ·left;exact⟨hw,hv0,rfl,hc0⟩
   have eQ:As q=t1':=by
    simp only[As,Le (NX q),BJ];rfl
   have e0:As 0=t:=by
    by_cases h0:0<q
    ·obtain⟨s,hs⟩:=hat 0 h0;rw[hs]at s2;simp only[As,Lc h0,hs,s2.1]
    ·have hq0:q=0:=by omega
     have hn:=hfar 0 (by omega);rw[hn]at s2;show(if 0<q then _ else tail (0 - q))=t;rw[Le h0,Nat.zero_sub,<- s2.1];rfl
   have:=VR (id:=id) (Q:=Q) hm F ho hg (λk hk1 hk2=>by
    rcases haf k hk2 with h | h
    ·omega
    ·exact h) (by rw[eQ];exact hp) (λA' hA=>hq A' λs hs=>by
    rcases hA s hs with⟨k,ok,k1,k2,k3⟩ | h
    ·exact .inl ⟨ok,Ln (hopt k ok k1 k2),k3⟩
    ·exact .inr (by rw[h,e0]))
   rw[e0]at this;exact⟨this,hok⟩
 ·cases h
theorem XT {ops:Array Oper} {o:Oper} {rest:List Oper} {A:Env} {H:Qa} {b:Bool} {j:Nat} {want:Bool} (hg:o.guard=some (j,want)) (hw:QN n ops A o=some b)
  (hyes:b=true->∃v H',Qc P o A H v H'∧X0 P n ops rest Q (Q6 A o.dst v) H') (hno:b=false->X0 P n ops rest Q (Q6 A o.dst undef) H) (hd:Xn P n o=true):X0 P n ops (o::rest) Q A H:=by
 intro z ρ w a hs he;have hwc:Region.wanted o (yielded ops a.tmps)=b:=by
  unfold QN at hw;rw[hg]at hw;simp only at hw;split at hw
  ·rename_i t hsl;split at hw
   ·rename_i htn;have hv:=he.tmps t htn;have hlt:t<a.tmps.size:=by rw[he.size];exact htn
    rw[N0,Ng hlt]at hv;simp only[NB]at hv;have hsl':=hsl;unfold Xw at hsl';split at hw
    ·rename_i b0 eb;cases hw;rw[eb]at hv;have hcb:a.tmps[t]? = some (.bool b0):=by rw[Ng hlt,hv.plain_eq rfl]
     have hy:yielded ops a.tmps j=some b0:=by unfold yielded;rw[hsl'];simp[hcb]
     simp[Region.wanted,hg,hy]
    ·rename_i vs0 eb;cases hw;rw[eb]at hv;obtain⟨vs1,e1,_⟩:=hv.tuple_inv;have hcb:a.tmps[t]? = some (.tuple vs1):=by rw[Ng hlt,e1]
     have hy:yielded ops a.tmps j=none:=by unfold yielded;rw[hsl'];simp[hcb]
     simp[Region.wanted,hg,hy]
    ·cases hw
   ·cases hw
  ·cases hw
 refine wpListIn_step λK hK=>?_;cases b with
 | true=>
  obtain⟨v,H',ho,h⟩:=hyes rfl;rw[Lc hwc];refine ho ρ w a hs (he.op hs hd) K _ (λv' ρ' w' hv hst hs'=>?_) z;have:=h z ρ' w' (a.put o.dst v') hs' ((he.step hst).putO (YX hd) hv);exact hK _ _ (JS hst this)
 | false=>
  rw[Le (by rw[hwc];simp)];exact⟨λ_ _=>trivial,hK _ _ (hno rfl z ρ w _ hs (he.putO (YX hd) (.closed (by simp[undef,Wp]))))⟩
end
def Rep (n:Nat) (A:Env) (e:E):Prop:=∀t,t<n->A t=QI e t
structure Ks (α:Type) where
 ret:E->Qa->α
 ext:Nat->E->Qa->α
 jmp:Nat->E->Qa->α
 pan:Value->E->Qa->α
abbrev KT (α:Type):=Ks α->(E->Qa->α)->E->Qa->α
section
variable (α:Type) (bad:α) (P:Program) (call:Qk) (n F:Nat)
def Qjz (k:E->Qa->α) (e:E) (d:Option Nat) (r:Cls×Value×Qa):α:=
 Prod.rec (motive:=λ_=>α) (λ_ q=>Prod.rec (motive:=λ_=>α) (λv H=>k (GX e d v) H) q) r
def QjY (ks:Ks α) (e:E) (r:Option (Value×Qa)):α:=
 Option.rec (motive:=λ_=>α) bad (λq=>Prod.rec (motive:=λ_=>α) (λv H=>ks.pan v e H) q) r
def QdK (o:Oper) (ks:Ks α) (t:Env) (e:E) (H:Qa):α:=
 match o.op with
 | .panic x=>(match ev t x with
  | .iface ty v=>ks.pan (.iface ty v) e H
  | _=>bad)
 | .call ⟨.value (.func f),args,_⟩=>QjY α bad ks e (call.pn f (args.map (ev t)).toList H)
 | .call ⟨.value c,args,_⟩=>(match ev t c with
  | .func (.func f) xs ys=>QjY α bad ks e (call.pn f (xs.toList++(args.map (ev t)).toList++ys.toList) H)
  | _=>bad)
 | _=>bad
def QjZ (o:Oper) (k:E->Qa->α) (e:E) (H:Qa):α:=
 Option.rec (motive:=λ_=>α) bad (Qjz α k e o.dst) (Qml P call o (QI e) H)
def Qgf (o:Oper) (ks:Ks α) (k:E->Qa->α) (e:E) (H:Qa):α:=
 Option.rec (motive:=λ_=>α) (QdK α bad call o ks (QI e) e H) (Qjz α k e o.dst) (Qml P call o (QI e) H)
def Qck (ops:Array Oper) (o:Oper) (k:E->Qa->α) (e:E) (H:Qa):α:=
 Option.rec (motive:=λ_=>α) bad (λb=>Bool.rec (motive:=λ_=>α) (k (GX e o.dst undef) H) (QjZ α bad P call o k e H) b) (QN n ops (QI e) o)
def Qcl (ops:Array Oper) (ks:Ks α) (o:Oper) (k:E->Qa->α) (e:E) (H:Qa):α:=
 Bool.rec (motive:=λ_=>α) bad (Option.rec (motive:=λ_=>α) (Qgf α bad P call o ks k e H) (λ_=>Qck α bad P call n ops o k e H) o.guard) (Xn P n o)
def Ji (ops:Array Oper) (ks:Ks α) (l:List Oper):(E->Qa->α)->E->Qa->α:=
 List.rec (motive:=λ_=>(E->Qa->α)->E->Qa->α) (λk=>k) (λo _ ih k=>Qcl α bad P call n ops ks o (ih k)) l
def Qgg:List Oper->E->E
 | [],e=>e
 | o::l,e=>Qgg l (GX e o.dst undef)
def QdL (ops:Array Oper) (ks:Ks α) (e:E) (H:Qa):α:=
 match VZ P call n ops (QI e) H with
 | some (p,o,t)=>QdK α bad call o ks t (Qgg (ops.toList.take p) e) H
 | none=>bad
def Qcm (ops:Array Oper) (ks:Ks α) (k:E->Qa->α) (e:E) (H:Qa):α:=
 match KJ P call n ops (QI e) H with
 | some (l,_,H1)=>k (VY ops.toList l e) H1
 | none=>QdL α bad P call n ops ks e H
def Qgh (_:Nat) (ops:Array Oper) (draw:Bool):KT α:=λks k=>
 Bool.rec (motive:=λ_=>E->Qa->α) (Ji α bad P call n ops ks ops.toList k) (Qcm α bad P call n ops ks k) draw
def vb (v:Value) (t f:α):α:=
 match v with
 | .bool b=>Bool.rec (motive:=λ_=>α) f t b
 | _=>bad
def Qcn (x:Operand) (_ _:Code) (iha ihb:KT α):KT α:=λks k e H=>
 Bool.rec (motive:=λ_=>α) bad (vb α bad (ev (QI e) x) (iha ks k e H) (ihb ks k e H)) (XO P n x)
def Qgi:KT α:=λ_ k=>k
def QkZ (_ _:Code) (iha ihb:KT α):KT α:=λks k=>iha ks (ihb ks k)
def Qiw (id:Nat) (_:Code) (ih:KT α):KT α:=λks k=>
 ih ⟨ks.ret,λj=>Bool.rec (motive:=λ_=>E->Qa->α) (ks.ext j) k (Nat.beq j id),ks.jmp,ks.pan⟩ k
def Qj0 (_:Code) (ih:KT α):KT α:=λks _=>
 Nat.rec (motive:=λ_=>E->Qa->α) (λ_ _=>bad) (λ_ k=>ih ks k) F
def QdM:KT α:=λ_ _ _ _=>bad
def Qj1 (id:Nat):KT α:=λks _=>ks.ext id
def Qj2 (l:Nat):KT α:=λks _=>ks.jmp l
def Qk0:KT α:=λks _=>ks.ret
def Qco (ex:Code->KT α) (body:Code) (ks:Ks α) (k:E->Qa->α) (m:Nat):Code->E->Qa->α:=
 Nat.rec (motive:=λ_=>Code->E->Qa->α) (λ_ _ _=>bad)
  (λ_ ih rest=>ex rest ⟨ks.ret,ks.ext,λl=>Option.rec (motive:=λ_=>E->Qa->α) (ks.jmp l) ih (findLabel body l),ks.pan⟩ k) m
def Qix (ex:Code->KT α) (body:Code) (_:KT α):KT α:=λks k=>Qco α bad ex body ks k F body
def Qcp (A:Env) (ks:Ks α) (k:E->Qa->α) (e:E) (l:Nat) (H2:Qa):α:=
 match H2.get l with
 | some (.loop _ _ _ _ _ st)=>(match st with
  | none=>k e (H2.kill l)
  | some .ret=>ks.ret e (H2.kill l)
  | some (.exit id)=>ks.ext id e (H2.kill l)
  | some (.goto t)=>ks.jmp t e (H2.kill l)
  | _=>bad)
 | _=>bad
def Qcq (gf:FuncId) (xs ys:Array Value) (ps:Array Tmp) (as bd:Code) (ks:Ks α) (k:E->Qa->α) (e:E) (H:Qa):α:=
 Bool.rec (motive:=λ_=>α) bad (Option.rec (motive:=λ_=>α) bad (λr=>Qcp α bad (QI e) ks k e H.next r.2) (call.fn gf (xs.toList++[.func (.yield H.next) #[] #[]]++ys.toList) (H.push (.loop (QI e) n ps as bd none)))) (entered P gf)
def Y8 (g:Operand) (ps:Array Tmp) (as bd:Code) (_ _:KT α):KT α:=λks k e H=>
 Bool.rec (motive:=λ_=>α) bad (match ev (QI e) g with
  | .func (.func gf) xs ys=>Qcq α bad P call n gf xs ys ps as bd ks k e H
  | _=>bad) (XO P n g)
def Qj3 (ex:Code->KT α) (c:Code):KT α:=
 Code.rec (motive:=λ_=>KT α) (Qgi α) (Qgh α bad P call n) (QkZ α) (Qcn α bad P n) (Qiw α) (Qj0 α bad F) (Y8 α bad P call n) (Qj1 α) (Qix α bad F ex)
  (λ_=>Qgi α) (Qj2 α) (Qk0 α) (λ_=>QdM α bad) c
def exec (G:Nat):Code->KT α:=
 Nat.rec (motive:=λ_=>Code->KT α) (λ_=>QdM α bad) (λ_ ex=>Qj3 α bad P call n F ex) G
end
section
variable {α:Type} {bad:α} {P:Program} {call:Qk} {n F:Nat} {Q:Ex->Env->Qa->Prop} {A B:Env} {H:Qa}
theorem WV.rep {z:Rd} {ρ:Ren} {w:World} {a:Act} (h:∀t,t<n->A t=B t) (he:WV z ρ H w n B a):WV z ρ H w n A a:=⟨⟨he.size,λt ht=>by rw[h t ht];exact he.tmps t ht⟩,he.fr⟩
theorem AWp.rep {c:Code} (h:∀t,t<n->A t=B t) (hw:AWp P n c Q A H):AWp P n c Q B H:=λz ρ w a hs he=>hw z ρ w a hs (he.rep h)
theorem X0.rep {ops:Array Oper} {l:List Oper} (h:∀t,t<n->A t=B t) (hw:X0 P n ops l Q A H):X0 P n ops l Q B H:=λz ρ w a hs he=>hw z ρ w a hs (he.rep h)
theorem Y5.rep {c:Code} (h:∀t,t<n->A t=B t) (hw:Y5 P n c Q A H):Y5 P n c Q B H:=λz ρ w a hs he=>hw z ρ w a hs (he.rep h)
theorem XQ.rep {b c:Code} (h:∀t,t<n->A t=B t) (hw:XQ P n b c Q A H):XQ P n b c Q B H:=λz ρ w a hs he=>hw z ρ w a hs (he.rep h)
theorem AWp.post {c:Code} {Q':Ex->Env->Qa->Prop} (h:∀e A H,Q e A H->Q' e A H) (hw:AWp P n c Q A H):AWp P n c Q' A H:=λz ρ w a hs he=>
 FF (hw z ρ w a hs he) (λe a' w' ⟨e',ρ',A',H',hq,h1⟩=>⟨e',ρ',A',H',h _ _ _ hq,h1⟩)
def Qj4 (n:Nat) (A:Env) (e:E):Prop:=∀t,t<n->A t=QI e t∨QI e t=undef
def QeG (good:α->Prop) (n:Nat) (ks:Ks α) (k:E->Qa->α):Ex->Env->Qa->Prop
 | .normal,A,H=>∃e,Rep n A e∧good (k e H)
 | .ret,A,H=>∃e,Rep n A e∧good (ks.ret e H)
 | .exit j,A,H=>∃e,Rep n A e∧good (ks.ext j e H)
 | .goto l,A,H=>∃e,Rep n A e∧good (ks.jmp l e H)
 | .panic v,A,H=>∃e,Qj4 n A e∧good (ks.pan v e H)
theorem V1 (hn:n<=256) {o:Oper} (h:Xn P n o=true):XN 256 o.dst=true:=by
 have:=YX h;cases hd:o.dst with
 | none=>rfl
 | some d=>rw[hd]at this;simp only[XN,B5]at this ⊢;omega
variable {good:α->Prop} (hbad:¬good bad) (hn:n<=256) (hcall:WP P call)
include hbad hn hcall
omit hn in
theorem J7 {o:Oper} {ks:Ks α} {t:Env} {e:E} {H:Qa} (h:good (QdK α bad call o ks t e H)):∃v H',JX P o t H v H'∧good (ks.pan v e H'):=by
 obtain⟨dst,op,ty,pos,af,g⟩:=o;have hpn:∀r,good (QjY α bad ks e r)->∃v H',r=some (v,H')∧good (ks.pan v e H'):=λr hr=>by
  cases r with
  | none=>exact absurd hr hbad
  | some q=>exact⟨q.1,q.2,rfl,hr⟩
 unfold QdK at h;split at h
 ·rename_i x hop;simp only at hop;subst hop;split at h
  ·rename_i ty v ex;exact⟨_,H,QfV ex,h⟩
  ·exact absurd h hbad
 ·rename_i f args ts hop;simp only at hop;subst hop;obtain⟨v,H',hr,hg⟩:=hpn _ h;obtain⟨h1,h2⟩:=hcall.pn _ _ _ _ _ hr;exact⟨v,H',Qiq h1 h2,hg⟩
 ·rename_i c args ts hne hop;simp only at hop;subst hop;split at h
  ·rename_i f xs ys ec;obtain⟨v,H',hr,hg⟩:=hpn _ h;obtain⟨h1,h2⟩:=hcall.pn _ _ _ _ _ hr;exact⟨v,H',QfU ec h1 h2,hg⟩
  ·exact absurd h hbad
 ·exact absurd h hbad
theorem XU {ops:Array Oper} {ks:Ks α} {k:E->Qa->α}:∀ (l:List Oper) (e:E) (H:Qa),good (Ji α bad P call n ops ks l k e H)->X0 P n ops l (QeG good n ks k) (QI e) H
 | [],e,H,h=>QaL ⟨e,λ_ _=>rfl,h⟩
 | o::rest,e,H,h=>by
  have h:good (Qcl α bad P call n ops ks o (Ji α bad P call n ops ks rest k) e H):=h;unfold Qcl at h;cases hok:Xn P n o with
  | false=>rw[hok]at h;exact absurd h hbad
  | true=>
   rw[hok]at h;have next:∀v H',good (Ji α bad P call n ops ks rest k (GX e o.dst v) H')->X0 P n ops rest (QeG good n ks k) (Q6 (QI e) o.dst v) H':=λv H' hg=>
    (XU rest _ _ hg).rep (λt ht=>Jf e v (V1 hn hok) t (by omega))
   have hop:∀ (h:good (QjZ α bad P call o (Ji α bad P call n ops ks rest k) e H)),∃v H',Qc P o (QI e) H v H'∧X0 P n ops rest (QeG good n ks k) (Q6 (QI e) o.dst v) H':=λh=>by
    unfold QjZ at h;rw[Ql3]at h;cases ha:aop P call o (QI e) H with
    | none=>rw[ha]at h;exact absurd h hbad
    | some r=>
     obtain⟨c,v,H'⟩:=r;rw[ha]at h;exact⟨v,H',(Xx hcall ha).does,next v H' h⟩
   cases hg:o.guard with
   | none=>
    rw[hg]at h;have h:good (Qgf α bad P call o ks (Ji α bad P call n ops ks rest k) e H):=h;unfold Qgf at h;rw[Ql3]at h;cases ha:aop P call o (QI e) H with
    | none=>
     rw[ha]at h;obtain⟨v,H',h1,h2⟩:=J7 hbad hcall h;exact Qb8 hg h1 hok ⟨e,λ_ _=>.inl rfl,h2⟩
    | some r=>
     obtain⟨c,v,H'⟩:=r;rw[ha]at h;exact Vj hg (Xx hcall ha).does hok (next v H' h)
   | some jw=>
    rw[hg]at h;obtain⟨j,want⟩:=jw;have h:good (Qck α bad P call n ops o (Ji α bad P call n ops ks rest k) e H):=h;unfold Qck at h;cases hw:QN n ops (QI e) o with
    | none=>rw[hw]at h;exact absurd h hbad
    | some b=>
     rw[hw]at h;cases b with
     | true=>
      obtain⟨v,H',h1,h2⟩:=hop h;exact XT hg hw (λ_=>⟨v,H',h1,h2⟩) (λhh=>by cases hh) hok
     | false=>exact XT hg hw (λhh=>by cases hh) (λ_=>next undef H h) hok
omit hbad hcall in
theorem ZV:∀ (l:List Oper) (e:E) (A:Env) (H:Qa) (tr:List Stp) (A1:Env) (H1:Qa) {ops:Array Oper},Wl P call n ops l A H=some (tr,A1,H1)->Rep n A e->Rep n A1 (VY l tr e)
 | [],e,A,H,tr,A1,H1,ops,h,hr=>by
  simp only[Wl,Lt,LB]at h;obtain⟨rfl,rfl,rfl⟩:=h;exact hr
 | o::rest,e,A,H,tr,A1,H1,ops,h,hr=>by
  have step:∀v,Xn P n o=true->Rep n (Q6 A o.dst v) (GX e o.dst v):=λv hok t ht=>by
   rw[Jf e v (V1 hn hok) t (by omega)];cases o.dst with
   | none=>exact hr t ht
   | some d=>
    simp only[Q6]
    by_cases hd:t=d
    ·subst hd;simp
    ·rw[Xd _ _ hd,Xd _ _ hd];exact hr t ht
  unfold Wl at h;cases hok:Xn P n o with
  | false=>rw[hok]at h;cases h
  | true=>
   rw[hok]at h;simp only[Lq]at h;split at h
   ·split at h
    ·rename_i c v H' ha;split at h
     ·rename_i l' r hl;simp only[Lt,LB]at h;obtain⟨rfl,hr1⟩:=h;subst hr1;exact ZV rest _ _ _ _ _ _ hl (step v hok)
     ·cases h
    ·cases h
   ·split at h
    ·rename_i l' r hl;simp only[Lt,LB]at h;obtain⟨rfl,hr1⟩:=h;subst hr1;exact ZV rest _ _ _ _ _ _ hl (step undef hok)
    ·cases h
   ·cases h
omit hbad hcall in
theorem Vv:∀ (l:List Oper),(∀ok∈l,Xn P n ok=true)->∀ (e:E) (s:Nat),s<n->QI (Qgg l e) s=undef∨(QI (Qgg l e) s=QI e s∧∀ok∈l,ok.dst≠some s)
 | [],_,e,s,_=>.inr ⟨rfl,λok h=>by cases h⟩
 | o::l,h,e,s,hs=>by
  have hput:=Jf e undef (V1 hn (h o (Ny ..))) s (by omega);rcases Vv l (λok hk=>h ok (NA _ hk)) (GX e o.dst undef) s hs with hu | ⟨hu,hne⟩
  ·exact .inl hu
  ·have hu:QI (Qgg (o::l) e) s=QI (GX e o.dst undef) s:=hu
   by_cases hd:o.dst=some s
   ·left;rw[hu,hput,hd];simp[Q6]
   ·right;refine⟨?_,λok hk=>?_⟩
    ·rw[hu,hput];cases ho:o.dst with
     | none=>rfl
     | some d=>exact Xd _ _ (λe=>hd (by rw[ho,e]))
    ·rcases LK.1 hk with rfl | hk
     ·exact hd
     ·exact hne ok hk
theorem WD:∀ (G:Nat) (c:Code) (ks:Ks α) (k:E->Qa->α) (e:E) (H:Qa),good (exec α bad P call n F G c ks k e H)->AWp P n c (QeG good n ks k) (QI e) H:=by
 intro G
 induction G with
 | zero=>intro c ks k e H h;exact absurd h hbad
 | succ G ihG=>
  intro c
  induction c with
  | skip=>intro ks k e H h;exact KS ⟨e,λ_ _=>rfl,h⟩
  | label l=>intro ks k e H h;exact Vi ⟨e,λ_ _=>rfl,h⟩
  | ret=>intro ks k e H h;exact Qdz ⟨e,λ_ _=>rfl,h⟩
  | exit id=>intro ks k e H h;exact QaJ ⟨e,λ_ _=>rfl,h⟩
  | goto l=>intro ks k e H h;exact QaK ⟨e,λ_ _=>rfl,h⟩
  | refuse s=>intro ks k e H h;exact absurd h hbad
  | rangeFunc g ps as bd iha ihb=>
   intro ks k e H h;have h:good (Y8 α bad P call n g ps as bd (QdM α bad) (QdM α bad) ks k e H):=h;unfold Y8 at h;cases hok:XO P n g with
   | false=>rw[hok]at h;exact absurd h hbad
   | true=>
    rw[hok]at h;have h:good (match ev (QI e) g with | .func (.func gf) xs ys=>Qcq α bad P call n gf xs ys ps as bd ks k e H | _=>bad):=h;split at h
    ·rename_i gf xs ys eg;unfold Qcq at h;cases hen:entered P gf with
     | false=>rw[hen]at h;exact absurd h hbad
     | true=>
      rw[hen]at h;cases hc:call.fn gf (xs.toList++[.func (.yield H.next) #[] #[]]++ys.toList) (H.push (.loop (QI e) n ps as bd none)) with
      | none=>rw[hc]at h;exact absurd h hbad
      | some r=>
       obtain⟨v,H2⟩:=r;rw[hc]at h;have h:good (Qcp α bad (QI e) ks k e H.next H2):=h;have hd:=(hcall.fn _ _ _ _ _ hc).does hen;unfold Qcp at h;split at h
       ·rename_i A' n' ps' as' bd' st hl;refine ZB hok eg hen (.inl ⟨hen,hd⟩) hl ?_;cases st with
        | none=>exact⟨e,λ_ _=>rfl,h⟩
        | some c=>
         cases c<;>simp only at h<;>first
          | exact⟨e,λ_ _=>rfl,h⟩
          | exact absurd h hbad
       ·exact absurd h hbad
    ·exact absurd h hbad
  | region id ops draw=>
   intro ks k e H h;cases draw with
   | false=>
    have:=XU (ks:=ks) hbad hn hcall ops.toList e H h;exact KU (l:=ops.toList) (by simpa using this)
   | true=>
    have h:good (Qcm α bad P call n ops ks k e H):=h;unfold Qcm at h;split at h
    ·rename_i l A1 H1 hd;refine GY hcall hd ⟨VY ops.toList l e,?_,h⟩;unfold KJ at hd;cases hc:(P.follows .mixedOrders&&Xf ops (QA ops)) with
     | false=>rw[hc]at hd;cases hd
     | true=>
      rw[hc]at hd;simp only[Lq]at hd;split at hd
      ·rename_i l' t1' H1' htr;cases hall:JI (Yz P ops (Qf ops.toList []) l' H1') 0 l' with
       | true=>
        rw[hall]at hd;simp only[Lq,Lt,LB]at hd;obtain⟨rfl,rfl,rfl⟩:=hd;exact ZV hn _ _ _ _ _ _ _ htr (λ_ _=>rfl)
       | false=>rw[hall]at hd;cases hd
      ·cases hd
    ·unfold QdL at h;split at h
     ·rename_i p o t hp;obtain⟨v,H',h1,h2⟩:=J7 hbad hcall h;refine(ZC (id:=id) (v:=v) (H':=H') hcall hp h1 λA' hA=>⟨_,λs hs=>?_,h2⟩).1;have hok:∀ok∈ops.toList,Xn P n ok=true:=(ZC (Q:=λ_ _ _=>True) (id:=id) hcall hp h1 (λ_ _=>trivial)).2;rcases Vv hn (ops.toList.take p) (λok hk=>hok ok (List.mem_of_mem_take hk)) e s hs with hu | ⟨hu,hne⟩
      ·exact .inr hu
      ·rcases hA s hs with⟨ok,hk,hd⟩ | hA
       ·exact absurd hd (hne ok hk)
       ·exact .inl (hA.trans hu.symm)
     ·exact absurd h hbad
  | seq a b iha ihb=>
   intro ks k e H h;refine Z3 ((iha ks _ e H h).post ?_);intro ex A1 H1 hq;cases ex with
   | normal=>
    obtain⟨e1,hr,hg⟩:=hq;exact(ihb ks k e1 H1 hg).rep (λt ht=>(hr t ht).symm)
   | _=>exact hq
  | cond x a b iha ihb=>
   intro ks k e H h;have h:good (Qcn α bad P n x a b (exec α bad P call n F (G+1) a) (exec α bad P call n F (G+1) b) ks k e H):=h;unfold Qcn at h;cases hok:XO P n x with
   | false=>rw[hok]at h;exact absurd h hbad
   | true=>
    rw[hok]at h;have h:good (vb α bad (ev (QI e) x) (exec α bad P call n F (G+1) a ks k e H) (exec α bad P call n F (G+1) b ks k e H)):=h;unfold vb at h;split at h
    ·rename_i t ex;cases t with
     | true=>exact Z4 hok ex (iha ks k e H h)
     | false=>exact Z4 hok ex (ihb ks k e H h)
    ·exact absurd h hbad
  | block id b ih=>
   intro ks k e H h;refine Xv ((ih _ k e H h).post ?_);intro ex A1 H1 hq;cases ex with
   | exit j=>
    obtain⟨e1,hr,hg⟩:=hq;simp only[Z5];have hg:good (Bool.rec (motive:=λ_=>E->Qa->α) (ks.ext j) k (Nat.beq j id) e1 H1):=hg
    by_cases hj:j=id
    ·rw[Lc hj];subst hj;have:Nat.beq j j=true:=by simp
     rw[this]at hg;exact⟨e1,hr,hg⟩
    ·rw[Le hj];have:Nat.beq j id=false:=by simp[QV,hj]
     rw[this]at hg;exact⟨e1,hr,hg⟩
   | _=>exact hq
  | loop b ih=>
   intro ks k e H h;refine JZ ?_;have key:∀ (m:Nat) (e:E) (H:Qa),good (Nat.rec (motive:=λ_=>E->Qa->α) (λ_ _=>bad) (λ_ k=>exec α bad P call n F (G+1) b ks k) m e H)->Y5 P n b (QeG good n ks k) (QI e) H:=by
    intro m
    induction m with
    | zero=>intro e H h;exact absurd h hbad
    | succ m ihm=>
     intro e H h;refine Yd ((ih ks _ e H h).post ?_);intro ex A1 H1 hq;cases ex with
     | normal=>
      obtain⟨e1,hr,hg⟩:=hq;exact(ihm e1 H1 hg).rep (λt ht=>(hr t ht).symm)
     | _=>exact hq
   exact key F e H h
  | scope b ih=>
   intro ks k e H h;refine Yv ?_;have key:∀ (m:Nat) (c:Code) (e:E) (H:Qa),good (Qco α bad (exec α bad P call n F G) b ks k m c e H)->XQ P n b c (QeG good n ks k) (QI e) H:=by
    intro m
    induction m with
    | zero=>intro c e H h;exact absurd h hbad
    | succ m ihm=>
     intro c e H h;refine WC ((ihG c _ k e H h).post ?_);intro ex A1 H1 hq;cases ex with
     | goto l=>
      obtain⟨e1,hr,hg⟩:=hq;simp only[Qez];have hg:good (Option.rec (motive:=λ_=>E->Qa->α) (ks.jmp l) (Qco α bad (exec α bad P call n F G) b ks k m) (findLabel b l) e1 H1):=hg;split
      ·rename_i rest hf;rw[hf]at hg;exact(ihm rest e1 H1 hg).rep (λt ht=>(hr t ht).symm)
      ·rename_i hf;rw[hf]at hg;exact⟨e1,hr,hg⟩
     | _=>exact hq
   exact key F b e H h
end
/-! ### Functions -/
def J8 (P:Program) (fn:Func) (e:E) (H:Qa):Option (Value×Qa):=
 Option.rec (motive:=λ_=>Option (Value×Qa)) none (λv=>some (v,H)) (X1 P fn.ntmps fn.results (QI e) H)
def Qcr (P:Program) (call:Qk) (F G:Nat) (fn:Func) (args:List Value) (H:Qa) (c:Code):Option (Value×Qa):=
 Bool.rec (motive:=λ_=>Option (Value×Qa)) none
  (exec (Option (Value×Qa)) none P call fn.ntmps F G c ⟨J8 P fn,λ_ _ _=>none,λ_ _ _=>none,λ_ _ _=>none⟩ (J8 P fn) (Jg args 0 E.none) H)
  (Nat.ble fn.ntmps 256&&Nat.ble args.length fn.ntmps)
def Qcs (P:Program) (call:Qk) (F G:Nat) (f:FuncId) (args:List Value) (H:Qa) (fn:Func):Option (Value×Qa):=
 Bool.rec (motive:=λ_=>Option (Value×Qa)) none (Option.rec (motive:=λ_=>Option (Value×Qa)) none (Qcr P call F G fn args H) fn.body) (entered P f)
def YS (A:Env) (b:Nat):N16 Value:=⟨A b,A (b+1),A (b+2),A (b+3),A (b+4),A (b+5),A (b+6),A (b+7),A (b+8),A (b+9),A (b+10),A (b+11),A (b+12),A (b+13),A (b+14),A (b+15)⟩
def eOf (A:Env):E:=⟨YS A 0,YS A 16,YS A 32,YS A 48,YS A 64,YS A 80,YS A 96,YS A 112,YS A 128,YS A 144,YS A 160,YS A 176,YS A 192,YS A 208,YS A 224,YS A 240⟩
theorem Qgj (A:Env) (b:Nat) (d:D):(YS A b).get d=A (b+d.num):=by cases d<;>rfl
theorem Qiy (A:Env) (d:D):(eOf A).get d=YS A (16 * d.num):=by cases d<;>rfl
theorem Qgk (A:Env) {t:Nat} (ht:t<256):QI (eOf A) t=A t:=by
 have e1:∀x y:Nat,Nat.div x y=x / y:=λ_ _=>rfl;have e2:∀x y:Nat,Nat.mod x y=x % y:=λ_ _=>rfl;simp only[QI,e1,e2];rw[Qiy,Qgj,KI (by omega),KI (by omega)];congr 1;omega
def Qa4 (l:Nat) (A:Env) (n:Nat) (ps:Array Tmp) (as bd:Code) (st:Option Code) (b:Bool) (H:Qa):Option (Value×Qa):=some (.bool b,H.set l (.loop A n ps as bd st))
def Qj5 (P:Program) (call:Qk) (F G:Nat) (l:Nat) (A:Env) (n:Nat) (ps:Array Tmp) (as bd:Code) (e:E) (H:Qa):Option (Value×Qa):=
 exec (Option (Value×Qa)) none P call n F G bd ⟨λ_ H1=>Qa4 l A n ps as bd (some .ret) false H1,λj _ H1=>Qa4 l A n ps as bd (some (.exit j)) false H1,λj _ H1=>Qa4 l A n ps as bd (some (.goto j)) false H1,λ_ _ _=>none⟩
  (λ_ H1=>Qa4 l A n ps as bd none true H1) e H
def V2 (P:Program) (call:Qk) (F G:Nat) (l:Nat) (args:List Value) (H:Qa):Option (Value×Qa):=
 match H.get l with
 | some (.loop A n ps as bd none)=>
  bif Nat.ble n 256&&Nat.beq args.length ps.size then
   exec (Option (Value×Qa)) none P call n F G as ⟨λ_ _=>none,λ_ _ _=>none,λ_ _ _=>none,λ_ _ _=>none⟩ (Qj5 P call F G l A n ps as bd) (eOf (QdC A ps.toList args)) (H.kill l)
  else none
 | _=>none
theorem GZ {P:Program} {call:Qk} (hcall:WP P call) {F G:Nat} {l:Nat} {args:List Value} {H H':Qa} {v:Value} (h:V2 P call F G l args H=some (v,H')):Vq P l args H v H':=by
  unfold V2 at h;split at h
  · rename_i A n ps as bd hl
    cases hc:(Nat.ble n 256&&Nat.beq args.length ps.size) with
    | false=>rw[hc]at h;cases h
    | true=>
      rw[hc]at h;simp only[Lq]at h;simp only[Lm,BL,QV,Lv]at hc;refine J1 hl hc.2 ?_;have main:=WD (good:=λr:Option (Value×Qa)=>r=some (v,H')) (by simp) hc.1 hcall G as _ _ _ (H.kill l) h;refine(main.post ?_).rep (λt ht=>Qgk _ (by omega));intro ex A1 H1 hq;cases ex with
      | normal=>
        obtain⟨e,hr,hg⟩:=hq;have body:=WD (good:=λr:Option (Value×Qa)=>r=some (v,H')) (by simp) hc.1 hcall G bd _ _ _ H1 hg;refine(body.post ?_).rep (λt ht=>(hr t ht).symm);intro ex A2 H2 hq2;cases ex<;>first
          | (obtain⟨e2,_,hg2⟩:=hq2
             simp only[Qa4,Lt,LB]at hg2;obtain⟨g1,g2⟩:=hg2;exact⟨g1.symm,by rw[<- g2];exact .refl _⟩)
          | (obtain⟨_,_,hx⟩:=hq2;cases hx)
      | ret=>obtain⟨_,_,hx⟩:=hq;cases hx
      | exit j=>obtain⟨_,_,hx⟩:=hq;cases hx
      | goto j=>obtain⟨_,_,hx⟩:=hq;cases hx
      | panic u=>obtain⟨_,_,hx⟩:=hq;cases hx
  · cases h
def V3 (P:Program) (call:Qk) (F G:Nat) (fn:Func) (args:List Value) (H:Qa) (c:Code):Option (Value×Qa):=
 Bool.rec (motive:=λ_=>Option (Value×Qa)) none
  (exec (Option (Value×Qa)) none P call fn.ntmps F G c ⟨λ_ _=>none,λ_ _ _=>none,λ_ _ _=>none,λv _ H=>some (v,H)⟩ (λ_ _=>none) (Jg args 0 E.none) H)
  (Nat.ble fn.ntmps 256&&Nat.ble args.length fn.ntmps)
def KK (P:Program) (call:Qk) (F G:Nat) (f:FuncId) (args:List Value) (H:Qa) (fn:Func):Option (Value×Qa):=
 Bool.rec (motive:=λ_=>Option (Value×Qa)) none (Option.rec (motive:=λ_=>Option (Value×Qa)) none (V3 P call F G fn args H) fn.body) (entered P f)
def Qgl (α:Type) (bad:α) (P:Program) (call:Qk) (F G:Nat) (fn:Func) (args:List Value) (r:Value) (k:Qa->α) (H:Qa):Code->α
 | .seq (.region _ ops false) rest=>match ops.toList with
  | o::l=>bif QdJ o&&Nat.ble fn.ntmps 256&&Nat.ble args.length fn.ntmps&&XN fn.ntmps o.dst&&fn.results.isEmpty then
    Ji α bad P call fn.ntmps ops ⟨λ_ _=>bad,λ_ _ _=>bad,λ_ _ _=>bad,λ_ _ _=>bad⟩ l (exec α bad P call fn.ntmps F G rest ⟨λ_ H=>k H,λ_ _ _=>bad,λ_ _ _=>bad,λ_ _ _=>bad⟩ (λ_ H=>k H)) (GX (Jg args 0 E.none) o.dst r) H
   else bad
  | []=>bad
 | _=>bad
def Qct (α:Type) (bad:α) (P:Program) (call:Qk) (F G:Nat) (g:FuncId) (args:List Value) (r:Value) (k:Qa->α) (H:Qa):α:=
 bif entered P g then(match P.funcs[g]? with
  | some fn=>(match fn.body with
   | some c=>Qgl α bad P call F G fn args r k H c
   | none=>bad)
  | none=>bad) else bad
def QdN (P:Program) (call:Qk) (F G:Nat) (fn:Func) (g:FuncId) (args:List Value) (r:Value) (e:E) (H:Qa):Option (Value×Qa):=
 Qct (Option (Value×Qa)) none P call F G g args r (λH2=>J8 P fn e H2) H
def KL (rs:Array ResultVar):Bool:=rs.toList.all λr=>match r with | .cell _ _=>true | .tmp _=>false
def Qcu (P:Program) (call:Qk) (F G:Nat) (fn:Func) (g:FuncId) (args:List Value) (r:Value) (e:E) (H:Qa):Option (Value×Qa):=
 bif KL fn.results then QdN P call F G fn g args r e H else none
def Qgm (P:Program) (call:Qk) (F G:Nat) (fn:Func) (rest:Code) (t:Nat) (e:E) (H:Qa):Option (Value×Qa):=
 match QI e t with
 | .func (.func g) xs ys=>bif !entered P g then none else exec (Option (Value×Qa)) none P call fn.ntmps F G rest
   ⟨QdN P call F G fn g (xs.toList++ys.toList) .nilIface,λ_ _ _=>none,λ_ _ _=>none,λv e H=>Qcu P call F G fn g (xs.toList++ys.toList) v e H⟩ (QdN P call F G fn g (xs.toList++ys.toList) .nilIface) e H
 | _=>none
def Qcv (P:Program) (call:Qk) (F G:Nat) (fn:Func) (args:List Value) (H:Qa) (c:Code):Option (Value×Qa):=
 match c with
 | .seq c0 (.seq (.region _ ops false) rest)=>(match ops.toList.getLast? with
  | some o=>(match Qge o with
   | some t=>bif Nat.ble fn.ntmps 256&&Nat.ble args.length fn.ntmps&&Nat.blt t fn.ntmps then
     exec (Option (Value×Qa)) none P call fn.ntmps F G c0 ⟨λ_ _=>none,λ_ _ _=>none,λ_ _ _=>none,λ_ _ _=>none⟩
      (Ji (Option (Value×Qa)) none P call fn.ntmps ops ⟨λ_ _=>none,λ_ _ _=>none,λ_ _ _=>none,λ_ _ _=>none⟩ ops.toList.dropLast (Qgm P call F G fn rest t)) (Jg args 0 E.none) H
    else none
   | none=>none)
  | none=>none)
 | _=>none
def Qcw (P:Program) (call:Qk) (F G:Nat) (f:FuncId) (args:List Value) (H:Qa) (fn:Func):Option (Value×Qa):=
 Bool.rec (motive:=λ_=>Option (Value×Qa)) none (Option.rec (motive:=λ_=>Option (Value×Qa)) none (Qcv P call F G fn args H) fn.body) (entered P f)
def KM (P:Program) (call:Qk) (F G:Nat) (f:FuncId) (args:List Value) (H:Qa) (fn:Func):Option (Value×Qa):=
 Option.rec (motive:=λ_=>Option (Value×Qa)) (Qcw P call F G f args H fn) some (Qcs P call F G f args H fn)
def run (P:Program) (known:CallF) (F G:Nat) (k:Nat):Qk:=
 Nat.rec (motive:=λ_=>Qk) ⟨λ_ _ _=>none,λ_ _ _=>none,λ_ _ _=>none⟩
  (λ_ ih=>⟨λf args H=>Option.rec (motive:=λ_=>Option (Value×Qa)) (Option.rec (motive:=λ_=>Option (Value×Qa)) none (KM P ih F G f args H) P.funcs[f]?) some (known f args H),V2 P ih F G,
   λf args H=>Option.rec (motive:=λ_=>Option (Value×Qa)) none (KK P ih F G f args H) P.funcs[f]?⟩) k
theorem Vw {P:Program} {fn:Func} {A1:Env} {H1 H':Qa} {e:E} {v:Value} (hr:Rep fn.ntmps A1 e) (hk:J8 P fn e H1=some (v,H')):∃v1,Out.ret v=.ret v1∧X1 P fn.ntmps fn.results A1 H1=some v1∧Q5 H' H1:=by
 unfold J8 at hk;cases ha:X1 P fn.ntmps fn.results (QI e) H1 with
 | none=>rw[ha]at hk;cases hk
 | some u=>
  rw[ha]at hk;have hk:some (u,H1)=some (v,H'):=hk;simp only[Lt,LB]at hk;obtain⟨e1,e2⟩:=hk;rw[<- e1,<- e2];refine⟨_,rfl,?_,.refl _⟩;rw[<- ha];have h1:∀r,WH P fn.ntmps A1 H1 r=WH P fn.ntmps (QI e) H1 r:=λr=>by
   cases r with
   | tmp t=>
    simp only[WH]
    by_cases ht:t<fn.ntmps
    ·simp only[ht,N3,hr t ht]
    ·simp only[ht,LN]
   | cell a t=>
    simp only[WH]
    by_cases ht:a<fn.ntmps
    ·simp only[ht,N3,hr a ht]
    ·simp only[ht,LN]
  unfold X1;rw[show WH P fn.ntmps A1 H1=WH P fn.ntmps (QI e) H1 from funext h1]
theorem Qj6 {P:Program} {n:Nat} {rs:Array ResultVar} {A:Env} {e:E} {H:Qa} {u:Value} (hr:Qj4 n A e) (hc:KL rs=true) (h:X1 P n rs (QI e) H=some u):X1 P n rs A H=some u:=by
 have h1:∀r∈rs.toList,∀x,WH P n (QI e) H r=some x->WH P n A H r=some x:=λr hm x hx=>by
  have:=Li.1 hc r hm;cases r with
  | tmp t=>cases this
  | cell a t=>
   simp only[WH]at hx ⊢;split at hx
   ·rename_i ha;rw[Lc ha];rcases hr a ha with hA | hA
    ·rw[hA];exact hx
    ·rw[hA]at hx;simp[undef]at hx
   ·cases hx
 have hl:∀ (l:List ResultVar),(∀r∈l,∀x,WH P n (QI e) H r=some x->WH P n A H r=some x)->∀vs,l.mapM (WH P n (QI e) H)=some vs->l.mapM (WH P n A H)=some vs:=by
  intro l
  induction l with
  | nil=>intro _ vs h;exact h
  | cons r l ih=>
   intro hh vs h;simp only[Ra,BV,BY,Rx,Lt]at h ⊢;obtain⟨v,hv,vs0,hvs,rfl⟩:=h;exact⟨v,hh r (Ny ..) v hv,vs0,ih (λr hr=>hh r (NA _ hr)) vs0 hvs,rfl⟩
 unfold X1 at h ⊢;split at h
 ·rename_i r hrs;rw[hrs]at h1;exact h1 r (List.mem_singleton_self _) u h
 ·rename_i hne;simp only[Lx]at h;obtain⟨vs,hvs,rfl⟩:=h;rw[hl _ h1 vs hvs];rfl
theorem Qcx {P:Program} {fn:Func} {A1:Env} {H1 H':Qa} {e:E} {v:Value} (hr:Qj4 fn.ntmps A1 e) (hc:KL fn.results=true) (hk:J8 P fn e H1=some (v,H')):∃v1,Out.ret v=.ret v1∧X1 P fn.ntmps fn.results A1 H1=some v1∧Q5 H' H1:=by
 unfold J8 at hk;cases ha:X1 P fn.ntmps fn.results (QI e) H1 with
 | none=>rw[ha]at hk;cases hk
 | some u=>
  rw[ha]at hk;have hk:some (u,H1)=some (v,H'):=hk;simp only[Lt,LB]at hk;obtain⟨e1,e2⟩:=hk;rw[<- e1,<- e2];exact⟨_,rfl,Qj6 hr hc ha,.refl _⟩
theorem V4 {P:Program} {call:Qk} (hcall:WP P call) {F G:Nat} {f:FuncId} {fn:Func} {c:Code} {args:List Value} {H H':Qa} {v:Value} (hf:P.funcs[f]? = some fn) (hb:fn.body=some c)
  (h:Qcr P call F G fn args H c=some (v,H')):Xo P f args H (.ret v) H':=by
 unfold Qcr at h;cases hc:(Nat.ble fn.ntmps 256&&Nat.ble args.length fn.ntmps) with
 | false=>rw[hc]at h;cases h
 | true=>
  rw[hc]at h;simp only[Lm,BL]at hc;have en:args.length+(fn.ntmps - args.length)=fn.ntmps:=by omega
  refine ZQ hf hb ?_;rw[en];have main:=WD (good:=λr:Option (Value×Qa)=>r=some (v,H')) (by simp) hc.1 hcall G c _ _ _ H h;have hres:∀ (A1:Env) (H1:Qa),(∃e,Rep fn.ntmps A1 e∧J8 P fn e H1=some (v,H'))->∃v1,Out.ret v=.ret v1∧X1 P fn.ntmps fn.results A1 H1=some v1∧Q5 H' H1:=λA1 H1 ⟨e,hr,hk⟩=>Vw hr hk;refine(main.post ?_).rep (λt ht=>Yg (by omega) t (by omega));intro ex A1 H1 hq;cases ex with
  | normal=>exact hres A1 H1 hq
  | ret=>exact hres A1 H1 hq
  | exit j=>obtain⟨_,_,hx⟩:=hq;cases hx
  | goto j=>obtain⟨_,_,hx⟩:=hq;cases hx
  | panic u=>obtain⟨_,_,hx⟩:=hq;cases hx
theorem X0.post {P:Program} {n:Nat} {ops:Array Oper} {l:List Oper} {Q Q':Ex->Env->Qa->Prop} {A:Env} {H:Qa} (h:∀e A H,Q e A H->Q' e A H) (hw:X0 P n ops l Q A H):X0 P n ops l Q' A H:=λz ρ w a hs he=>
 QW (λe a' w' ⟨e',ρ',A',H',hq,h1⟩=>⟨e',ρ',A',H',h _ _ _ hq,h1⟩) _ _ _ (hw z ρ w a hs he)
theorem G0 {P:Program} {call:Qk} (hcall:WP P call) {F G:Nat} {f:FuncId} {fn:Func} {c:Code} {args:List Value} {H H':Qa} {v:Value} (hf:P.funcs[f]? = some fn) (hb:fn.body=some c)
  (h:V3 P call F G fn args H c=some (v,H')):Xo P f args H (.pan v) H':=by
 unfold V3 at h;cases hc:(Nat.ble fn.ntmps 256&&Nat.ble args.length fn.ntmps) with
 | false=>rw[hc]at h;cases h
 | true=>
  rw[hc]at h;simp only[Lm,BL]at hc;have en:args.length+(fn.ntmps - args.length)=fn.ntmps:=by omega
  refine ZQ hf hb ?_;rw[en];have main:=WD (good:=λr:Option (Value×Qa)=>r=some (v,H')) (by simp) hc.1 hcall G c _ _ _ H h;refine(main.post ?_).rep (λt ht=>Yg (by omega) t (by omega));intro ex A1 H1 hq;cases ex with
  | normal=>obtain⟨_,_,hx⟩:=hq;cases hx
  | ret=>obtain⟨_,_,hx⟩:=hq;cases hx
  | exit j=>obtain⟨_,_,hx⟩:=hq;cases hx
  | goto j=>obtain⟨_,_,hx⟩:=hq;cases hx
  | panic u=>
   obtain⟨_,_,hx⟩:=hq;simp only[Lt,LB]at hx;obtain⟨e1,e2⟩:=hx;rw[<- e1,<- e2];exact⟨rfl,.refl _⟩
theorem Jj {α:Type} {bad:α} {good:α->Prop} (hbad:¬good bad) {P:Program} {call:Qk} (hcall:WP P call) {F G:Nat} {g:FuncId} {args:List Value} {r:Value} {k:Qa->α} {H:Qa}
  (h:good (Qct α bad P call F G g args r k H)):Gh P g args H r (λH2=>good (k H2)):=by
 unfold Qct at h;cases he:entered P g with
 | false=>rw[he]at h;exact absurd h hbad
 | true=>
  rw[he]at h;simp only[Lq]at h;split at h
  ·rename_i fn hf;split at h
   ·rename_i c hb;unfold Qgl at h;split at h
    ·rename_i id ops rest;split at h
     ·rename_i o l hl;cases hc:(QdJ o&&Nat.ble fn.ntmps 256&&Nat.ble args.length fn.ntmps&&XN fn.ntmps o.dst&&fn.results.isEmpty) with
      | false=>rw[hc]at h;exact absurd h hbad
      | true=>
      rw[hc]at h;simp only[Lm,BL]at hc;obtain⟨⟨⟨⟨h1,h2⟩,h3⟩,h4⟩,h5⟩:=hc;have en:args.length+(fn.ntmps - args.length)=fn.ntmps:=by omega
      refine Qa3 hf hb hl h1 (by rw[en];exact h4) (by simpa using h5) ?_;rw[en];have main:=XU (n:=fn.ntmps) hbad h2 hcall l _ H h;have d256:XN 256 o.dst=true:=by
       cases hd:o.dst with
       | none=>rfl
       | some d=>rw[hd]at h4;simp only[XN,B5]at h4 ⊢;omega
      refine(main.post ?_).rep (λt ht=>?_)
      ·intro ex A1 H1 hq;cases ex with
       | normal=>
        obtain⟨e,hr,hg⟩:=hq;have body:=WD hbad h2 hcall G rest _ _ e H1 hg;refine(body.post ?_).rep (λt ht=>(hr t ht).symm);intro ex A2 H2 hq2;cases ex<;>obtain⟨_,_,hx⟩:=hq2<;>first
         | exact hx
         | exact absurd hx hbad
       | _=>obtain⟨_,_,hx⟩:=hq;exact absurd hx hbad
      ·rw[Jf _ _ d256 t (by omega)];cases o.dst with
       | none=>exact Yg (by omega) t (by omega)
       | some d=>
        simp only[Q6]
        by_cases hd:t=d
        ·subst hd;simp
        ·rw[Xd _ _ hd,Xd _ _ hd];exact Yg (by omega) t (by omega)
     ·exact absurd h hbad
    ·exact absurd h hbad
   ·exact absurd h hbad
  ·exact absurd h hbad
theorem V5 {P:Program} {call:Qk} (hcall:WP P call) {F G:Nat} {f:FuncId} {fn:Func} {c:Code} {args:List Value} {H H':Qa} {v:Value} (hf:P.funcs[f]? = some fn) (hb:fn.body=some c)
  (h:Qcv P call F G fn args H c=some (v,H')):Xo P f args H (.ret v) H':=by
 unfold Qcv at h;split at h
 ·rename_i c0 id ops rest;split at h
  ·rename_i o hlast;split at h
   ·rename_i t hd;cases hc:(Nat.ble fn.ntmps 256&&Nat.ble args.length fn.ntmps&&Nat.blt t fn.ntmps) with
    | false=>rw[hc]at h;cases h
    | true=>
    rw[hc]at h;simp only[Lm,BL,B5]at hc;obtain⟨⟨h1,h2⟩,h3⟩:=hc;have en:args.length+(fn.ntmps - args.length)=fn.ntmps:=by omega
    have hbad:¬ (λr:Option (Value×Qa)=>r=some (v,H')) none:=by simp
    refine V0 hf hb (init:=ops.toList.dropLast) (o:=o) ?_ hd (by rw[en];exact h3) ?_
    ·obtain⟨ys,hys⟩:=List.getLast?_eq_some_iff.1 hlast;rw[hys,List.dropLast_concat]
    ·rw[en];have main:=WD (good:=λr:Option (Value×Qa)=>r=some (v,H')) hbad h1 hcall G c0 _ _ _ H h;refine(main.post ?_).rep (λt ht=>Yg (by omega) t (by omega));intro ex A1 H1 hq;cases ex with
     | normal=>
      obtain⟨e,hr,hg⟩:=hq;have hops:=XU (good:=λr:Option (Value×Qa)=>r=some (v,H')) (n:=fn.ntmps) hbad h1 hcall ops.toList.dropLast e H1 hg;refine(hops.post ?_).rep (λt ht=>(hr t ht).symm);intro ex A2 H2 hq2;cases ex with
      | normal=>
       obtain⟨e2,hr2,hg2⟩:=hq2;unfold Qgm at hg2;split at hg2
       ·rename_i g xs ys eg;have hentered:entered P g=true:=by
         cases hh:entered P g with
         | true=>rfl
         | false=>rw[hh]at hg2;cases hg2
        rw[hentered]at hg2;refine⟨g,xs,ys,(hr2 t h3).trans eg,hentered,?_⟩;have body:=WD (good:=λr:Option (Value×Qa)=>r=some (v,H')) hbad h1 hcall G rest _ _ e2 H2 hg2;refine(body.post ?_).rep (λt ht=>(hr2 t ht).symm);have hend:∀ (r:Value) (A3:Env) (H3:Qa),(∃e3,Rep fn.ntmps A3 e3∧QdN P call F G fn g (xs.toList++ys.toList) r e3 H3=some (v,H'))->
          Gh P g (xs.toList++ys.toList) H3 r (λH2=>∃v1,Out.ret v=.ret v1∧X1 P fn.ntmps fn.results A3 H2=some v1∧Q5 H' H2):=by
         rintro r A3 H3 ⟨e3,hr3,hg3⟩;have:=Jj (good:=λr:Option (Value×Qa)=>r=some (v,H')) hbad hcall hg3;intro z ρ w args' u u' r' q1 q2 q3 q4;refine(this z ρ w args' u u' r' q1 q2 q3 q4).mono ?_;rintro e4 u4 w4 ⟨k1,k2,ρ',H4,k3,k4,k5⟩;exact⟨k1,k2,ρ',H4,Vw hr3 k3,k4,k5⟩
        intro ex A3 H3 hq3;cases ex with
        | normal=>exact hend _ A3 H3 hq3
        | ret=>exact hend _ A3 H3 hq3
        | panic u=>
         obtain⟨e3,hr3,hg3⟩:=hq3;have hg3:Qcu P call F G fn g (xs.toList++ys.toList) u e3 H3=some (v,H'):=hg3;unfold Qcu at hg3;cases hcl:KL fn.results with
         | false=>rw[hcl]at hg3;cases hg3
         | true=>
          rw[hcl]at hg3;have:=Jj (good:=λr:Option (Value×Qa)=>r=some (v,H')) hbad hcall hg3;intro z ρ w args' u1 u' r' q1 q2 q3 q4;refine(this z ρ w args' u1 u' r' q1 q2 q3 q4).mono ?_;rintro e4 u4 w4 ⟨k1,k2,ρ',H4,k3,k4,k5⟩;exact⟨k1,k2,ρ',H4,Qcx hr3 hcl k3,k4,k5⟩
        | exit j=>obtain⟨_,_,hx⟩:=hq3;cases hx
        | goto j=>obtain⟨_,_,hx⟩:=hq3;cases hx
       ·cases hg2
      | _=>obtain⟨_,_,hx⟩:=hq2;cases hx
     | _=>obtain⟨_,_,hx⟩:=hq;cases hx
   ·cases h
  ·cases h
 ·cases h
theorem Vx {P:Program} {known:CallF} (hk:CallOk P known) {F G:Nat}:∀k,WP P (run P known F G k):=by
 intro k
 induction k with
 | zero=>exact⟨λf args H v H' h=>(by cases h),λl args H v H' h=>(by cases h),λf args H v H' h=>(by cases h)⟩
 | succ k ih=>
  refine⟨λf args H v H' h=>?_,λl args H v H' h=>GZ ih h,λf args H v H' h=>?_⟩
  ·have h:Option.rec (motive:=λ_=>Option (Value×Qa)) (Option.rec (motive:=λ_=>Option (Value×Qa)) none (KM P (run P known F G k) F G f args H) P.funcs[f]?) some (known f args H)=some (v,H'):=h;cases hkn:known f args H with
   | some r=>rw[hkn]at h;cases h;exact hk f args H v H' hkn
   | none=>
    rw[hkn]at h;cases hf:P.funcs[f]? with
    | none=>rw[hf]at h;cases h
    | some fn=>
     rw[hf]at h;have h:KM P (run P known F G k) F G f args H fn=some (v,H'):=h;unfold KM at h;cases hr:Qcs P (run P known F G k) F G f args H fn with
     | some q=>
      rw[hr]at h;cases h;unfold Qcs at hr;cases he:entered P f with
      | false=>rw[he]at hr;cases hr
      | true=>
       rw[he]at hr;cases hb:fn.body with
       | none=>rw[hb]at hr;cases hr
       | some c=>rw[hb]at hr;exact .inl ⟨he,V4 ih hf hb hr⟩
     | none=>
      rw[hr]at h;have h:Qcw P (run P known F G k) F G f args H fn=some (v,H'):=h;unfold Qcw at h;cases he:entered P f with
      | false=>rw[he]at h;cases h
      | true=>
       rw[he]at h;cases hb:fn.body with
       | none=>rw[hb]at h;cases h
       | some c=>rw[hb]at h;exact .inl ⟨he,V5 ih hf hb h⟩
  ·have h:Option.rec (motive:=λ_=>Option (Value×Qa)) none (KK P (run P known F G k) F G f args H) P.funcs[f]? = some (v,H'):=h;cases hf:P.funcs[f]? with
   | none=>rw[hf]at h;cases h
   | some fn=>
    rw[hf]at h;have h:KK P (run P known F G k) F G f args H fn=some (v,H'):=h;unfold KK at h;cases he:entered P f with
    | false=>rw[he]at h;cases h
    | true=>
     rw[he]at h;cases hb:fn.body with
     | none=>rw[hb]at h;cases h
     | some c=>rw[hb]at h;exact⟨rfl,G0 ih hf hb h⟩
def xknown (xt:FuncId->Option Xk):CallF:=λf args H=>
 match xt f with
 | some k=>(k.val args).map λv=>(v,H)
 | none=>none
theorem xknown_ok {P:Program} {xt:FuncId->Option Xk} (h:∀f k,xt f=some k->IsExt P f k):CallOk P (xknown xt):=by
 intro f args H v H' hr;unfold xknown at hr;split at hr
 ·rename_i k hk;simp only[Lx,LB]at hr;obtain⟨u,hu,rfl,rfl⟩:=hr;exact .inr (QfW (h f k hk) hu)
 ·cases hr
def shN (G δ id:Nat):Nat:=bif Nat.blt id G then id else id+δ
def shV (G δ:Nat):Nat->Value->Value
 | 0,v=>v
 | f+1,v=>match v with
  | .pointer (some a)=>.pointer (some ⟨shN G δ a.block,a.off,a.spot⟩)
  | .slice (some a) l c=>.slice (some ⟨shN G δ a.block,a.off,a.spot⟩) l c
  | .map (some r)=>.map (some (shN G δ r))
  | .iface t v=>.iface t (shV G δ f v)
  | .agg xs=>.agg (xs.toList.map (shV G δ f)).toArray
  | .tuple xs=>.tuple (xs.toList.map (shV G δ f)).toArray
  | .func fn xs ys=>.func fn (xs.toList.map (shV G δ f)).toArray (ys.toList.map (shV G δ f)).toArray
  | v=>v
def okD:Nat->Value->Bool
 | 0,v=>plain v
 | f+1,v=>match v with
  | .iface _ v=>okD f v
  | .agg xs=>xs.toList.all (okD f)
  | .tuple xs=>xs.toList.all (okD f)
  | .func fn xs ys=>XM fn&&xs.toList.all (okD f)&&ys.toList.all (okD f)
  | _=>true
structure Row where
 src:Nat
 c:List Value
 e:TypeId
 ro:Bool
def Row.blk (G δ:Nat) (r:Row):Blk:=.cells (r.c.map (shV G δ 6)) r.e r.ro
def ZE (G:Nat) (rs:List Row) (b:Nat):Option Nat:=bif Nat.blt b G then some b else(rs[b - G]?).map (·.src)
def QeH (o:Option Nat) (a:Nat):Bool:=match o with | some b=>Nat.beq b a | none=>false
theorem QdO {o:Option Nat} {a:Nat} (h:QeH o a=true):o=some a:=by
 cases o with
 | none=>cases h
 | some b=>simp only[QeH,QV,Lv]at h;rw[h]
def X4 (a:Addr):Bool:=match a.spot with | none=>true | some _=>false
def mtV (σ:Nat->Option Nat):Nat->Value->Value->Bool
 | 0,v,u=>plain v&&Yh 8 v u
 | f+1,v,u=>match v,u with
  | .pointer (some a),.pointer (some b)=>QeH (σ b.block) a.block&&Nat.beq a.off b.off&&X4 b
  | .slice (some a) l c,.slice (some b) l' c'=>QeH (σ b.block) a.block&&Nat.beq a.off b.off&&X4 b&&Nat.beq l l'&&Nat.beq c c'
  | .iface t v,.iface t' u=>Nat.beq t t'&&mtV σ f v u
  | .agg xs,.agg ys=>Wv (mtV σ f) xs.toList ys.toList
  | .tuple xs,.tuple ys=>Wv (mtV σ f) xs.toList ys.toList
  | v,u=>plain v&&Yh 8 v u
theorem Yi {eq:Value->Value->Bool}:∀ {xs ys:List Value},Wv eq xs ys=true->xs.length=ys.length∧∀ (j:Nat) x y,xs[j]? = some x->ys[j]? = some y->eq x y=true
 | [],[],_=>⟨rfl,λj x y h=>by simp at h⟩
 | x::xs,y::ys,h=>by
  simp only[Wv,Lm]at h;obtain⟨h1,h2⟩:=Yi h.2;refine⟨by simp[h1],λj a b ha hb=>?_⟩;cases j with
  | zero=>simp at ha hb;subst ha;subst hb;exact h.1
  | succ j=>exact h2 j a b (by simpa using ha) (by simpa using hb)
 | [],_::_,h=>by simp[Wv]at h
 | _::_,[],h=>by simp[Wv]at h
theorem QdP {σ:Nat->Option Nat} {ρ ρ':Ren} (hr:∀a b i,σ b=some a->ρ a=some i->ρ' b=some i):∀ (f:Nat) {v u v':Value},mtV σ f v u=true->V ρ v v'->V ρ' u v':=by
 intro f;have pl:∀ {v u v':Value},(plain v&&Yh 8 v u)=true->V ρ v v'->V ρ' u v':=λh hv=>by
  simp only[Lm]at h;rw[<- Yy 8 _ _ h.2,hv.plain_eq h.1];exact .same _ h.1
 induction f with
 | zero=>intro v u v' h hv;exact pl h hv
 | succ f ih=>
  intro v u v' h hv;have arr:∀ (xs ys xs':Array Value),xs.size=xs'.size->(∀ (j:Nat) x x',xs[j]? = some x->xs'[j]? = some x'->V ρ x x')->Wv (mtV σ f) xs.toList ys.toList=true->
    ys.size=xs'.size∧∀ (j:Nat) x x',ys[j]? = some x->xs'[j]? = some x'->V ρ' x x':=by
   intro xs ys xs' h1 h2 h3;obtain⟨g1,g2⟩:=Yi h3;simp only[Array.length_toList]at g1;refine⟨by omega,λj x x' e e'=>?_⟩;have hj:j<xs.size:=by rw[h1];exact(Nj.1 e').1
   exact ih (g2 j xs[j] x (by simp[hj]) (by simpa using e)) (h2 j _ x' (Ng hj) e')
  unfold mtV at h;split at h
  ·rename_i a b;simp only[Lm,QV,Lv]at h;obtain⟨⟨h1,h2⟩,h3⟩:=h;obtain⟨i,g1,g2,g3⟩:=hv.ptr_inv;rw[g3,h2];obtain⟨b0,bo,bs⟩:=b;have:bs=none:=by cases bs with | none=>rfl | some _=>cases h3
   subst this;exact .ptr b0 bo i (hr _ _ i (QdO h1) g1)
  ·rename_i a l c b l' c';simp only[Lm,QV,Lv]at h;obtain⟨⟨⟨⟨h1,h2⟩,h3⟩,h4⟩,h5⟩:=h;obtain⟨i,a',cap',g1,g2,g3,g4,g5,g0,g6,g7⟩:=hv.slice_inv;subst h4;subst h5;rw[g3];obtain⟨b0,bo,bs⟩:=b;have:bs=none:=by cases bs with | none=>rfl | some _=>cases h3
   subst this;simp only at h2;rw[h2]at g4 g6;exact .slice b0 bo l c cap' i a' (hr _ _ i (QdO h1) g1) g4 g5 g0 g6 g7
  ·rename_i t v0 t' u0;simp only[Lm,QV,Lv]at h;obtain⟨rfl,h2⟩:=h;cases hv with
   | same _ hp=>simp[plain]at hp
   | iface _ _ v1 hv1=>exact .iface t u0 v1 (ih h2 hv1)
  ·rename_i xs ys;cases hv with
   | same _ hp=>simp[plain]at hp
   | agg _ xs' h1 h2=>obtain⟨p1,p2⟩:=arr xs ys xs' h1 h2 h;exact .agg ys xs' p1 p2
  ·rename_i xs ys;cases hv with
   | same _ hp=>simp[plain]at hp
   | tuple _ xs' h1 h2=>obtain⟨p1,p2⟩:=arr xs ys xs' h1 h2 h;exact .tuple ys xs' p1 p2
  ·exact pl h hv
structure Qgn (G:Nat) (H1:Qa) (rs:List Row):Prop where
 row:∀ (k:Nat) (r:Row),rs[k]? = some r->G<=r.src∧r.c.all (okD 6)=true∧∃c1,H1.get r.src=some (.cells c1 r.e r.ro)∧Wv (mtV (ZE G rs) 6) c1 r.c=true
 inj:∀ (j k:Nat) (r r':Row),rs[j]? = some r->rs[k]? = some r'->j≠k->r.src≠r'.src
theorem Qq.turn {P:Program} {ρ ρ':Ren} {i:QT} {w:World} {c u:List Value} {e:TypeId} {ro:Bool} (h:Qq P ρ i w (.cells c e ro)) (hl:u.length=c.length)
  (hv:∀ (j:Nat) x y z,c[j]? = some x->u[j]? = some y->V ρ x z->V ρ' y z):Qq P ρ' i w (.cells u e ro):=by
 have hx:∀ (j:Nat) y,u[j]? = some y->∃x,c[j]? = some x:=λj y hj=>by
  have:j<c.length:=by rw[<- hl];exact(Lk.1 hj).1
  exact⟨c[j],La this⟩
 cases ro with
 | true=>
  refine⟨h.1,λj y hj=>?_⟩;obtain⟨x,hxj⟩:=hx j y hj;obtain⟨z,h1,h2⟩:=h.2 j x hxj;exact⟨z,h1,hv j x y z hxj hj h2⟩
 | false=>
  obtain⟨cur,fz,hh,h1,h2,h3,h4,h5,h6,h7⟩:=h;refine⟨cur,fz,hh,h1,h2,by omega,λj y hj=>?_,h5,by rw[hl];exact h6,h7⟩;obtain⟨x,hxj⟩:=hx j y hj;obtain⟨z,g1,g2⟩:=h4 j x hxj;exact⟨z,g1,hv j x y z hxj hj g2⟩
/-! ### Tables, and calls that are known -/
structure Tab where
 id:Nat
 c:List Value
 e:TypeId
def tabHeap (G:Nat) (tabs:List Tab):Qa:=⟨G,tabs.foldr (λt tr=>tr.set t.id (some (.cells t.c t.e true))) .nil⟩
theorem QP {G:Nat}:∀ {tabs:List Tab} {id:Nat} {b:Blk},(tabHeap G tabs).get id=some b->∃t∈tabs,id=t.id∧b=.cells t.c t.e true
 | [],id,b,h=>by cases h
 | t::ts,id,b,h=>by
  have h:((tabHeap G ts).tr.set t.id (some (.cells t.c t.e true))).get id=some b:=h;rw[Tr.get_set]at h
  by_cases e:id=t.id
  ·rw[Lc e]at h;cases h;exact⟨t,Ny ..,e,rfl⟩
  ·rw[Le e]at h;obtain⟨t',h1,h2,h3⟩:=QP (G:=G) (tabs:=ts) (id:=id) (b:=b) h;exact⟨t',NA _ h1,h2,h3⟩
def tabsOk (tabs:List Tab):Bool:=tabs.all λt=>t.c.all plain
def QjA (t:Tab) (b:Option Blk):Bool:=
 match b with
 | some (.cells c e true)=>Nat.beq e t.e&&Wv (Yh 8) c t.c
 | _=>false
def XE (tabs:List Tab) (H:Qa):Bool:=tabs.all λt=>QjA t (H.get t.id)
theorem ZW {G:Nat} {tabs:List Tab} {H:Qa} (h:XE tabs H=true):∀id b,(tabHeap G tabs).get id=some b->H.get id=some b:=λid b hb=>by
 obtain⟨t,h1,h2,h3⟩:=QP hb;have:=Li.1 h t h1;subst h2;subst h3;unfold QjA at this;split at this
 ·rename_i c e hg;simp only[Lm,QV,Lv]at this;rw[hg,this.1,Jh (Yy 8) _ _ this.2]
 ·cases this
def V6:List Row->Bool
 | r::r'::rs=>Nat.blt r.src r'.src&&V6 (r'::rs)
 | _=>true
theorem Zt:∀ (rs:List Row),V6 rs=true->∀ (j k:Nat) (r r':Row),rs[j]? = some r->rs[k]? = some r'->j<k->r.src<r'.src
 | [],_,j,k,r,r',h,_,_=>by simp at h
 | [x],_,j,k,r,r',h,h',hjk=>by
  have:=(Lk.1 h').1;simp at this;omega
 | x::y::rs,hr,j,k,r,r',h,h',hjk=>by
  simp only[V6,Lm,B5]at hr;cases k with
  | zero=>omega
  | succ k=>
   have hk:(y::rs)[k]? = some r':=by simpa using h'
   cases j with
   | zero=>
    simp at h;subst h;cases k with
    | zero=>simp at hk;subst hk;exact hr.1
    | succ k=>exact Nat.lt_trans hr.1 (Zt (y::rs) hr.2 0 (k+1) y r' (by simp) hk (by omega))
   | succ j=>exact Zt (y::rs) hr.2 j k r r' (by simpa using h) hk (by omega)
def Qgo (G:Nat) (σ:Nat->Option Nat) (H1:Qa) (r:Row):Bool:=
 Nat.ble G r.src&&r.c.all (okD 6)&&match H1.get r.src with
  | some (.cells c1 e ro)=>Nat.beq e r.e&&(ro==r.ro)&&Wv (mtV σ 6) c1 r.c
  | _=>false
def Qgp (G:Nat) (u:Value) (rs:List Row) (r:Option (Value×Qa)):Bool:=
 match r with
 | some (v,H1)=>mtV (ZE G rs) 6 v u&&okD 6 u&&V6 rs&&rs.all (Qgo G (ZE G rs) H1)
 | none=>false
def QE (a b:CallF):CallF:=λf args H=>Option.rec (motive:=λ_=>Option (Value×Qa)) (b f args H) some (a f args H)
theorem orKnown_ok {P:Program} {a b:CallF} (ha:CallOk P a) (hb:CallOk P b):CallOk P (QE a b):=by
 intro f args H v H' h;unfold QE at h;cases he:a f args H with
 | some r=>rw[he]at h;cases h;exact ha f args H v H' he
 | none=>rw[he]at h;exact hb f args H v H' h
end Go.Ab
namespace Go.Ab
open Go.RowKit
section
variable {P:Program}
def globR (P:Program):Ren:=λg=>if g<P.globals.size then some ⟨⟨g,0,none⟩,0,0⟩ else none
def H0 (P:Program):Qa:=⟨P.globals.size,.nil⟩
theorem St.below {ρ ρ':Ren} {H H':Qa} {w w':World} (h:St ρ H w ρ' H' w') (hro:∀id b,H.get id=some b->b.ro=true):Below w.heap.size w w':=
 ⟨h.os,h.tape,h.output,h.size,λb hb=>h.frame b hb (λid i bl _ h2 h3=>by rw[hro id bl h2]at h3;cases h3)⟩
def isTrue:Option (Value×Qa)->Bool
 | some (.bool b,_)=>b
 | _=>false
theorem Qa5 {r:Option (Value×Qa)} (h:isTrue r=true):∃H,r=some (.bool true,H):=by
 unfold isTrue at h;split at h
 ·subst h;exact⟨_,rfl⟩
 ·cases h
theorem G3 {f:FuncId} {args args':List Value} {v:Value} {H H':Qa} (hd:Xo P f args H (.ret v) H') {ρ:Ren} {w:World} (hs:Sim P ρ H w) (ha:VL ρ args args') (hv:plain v=true) (hro:∀id b,H.get id=some b->b.ro=true):
  Calls P f args'.toArray w λe w'=>e=.returned v∧Below w.heap.size w w':=by
 refine(hd ρ w args' hs ha).mono ?_;rintro e w' ⟨ρ',ho,hst,hs'⟩;refine⟨?_,hst.below hro⟩;cases e with
 | returned v'=>rw[V.plain_eq ho hv]
 | _=>exact ho.elim
theorem Qgq {tabs:List Tab} {w:World} (hb:∀t∈tabs,t.id<w.heap.size) (hc:∀t∈tabs,∀ (j:Nat) v,t.c[j]? = some v->w.cell? ⟨t.id,j,none⟩=some v) (hp:tabsOk tabs=true):
  Sim P (globR P) (tabHeap P.globals.size tabs) w:=by
 refine⟨λid j h=>(by unfold globR at h;split at h;(assumption);cases h),λid b i hg hi=>?_,λid1 id2 b1 b2 i1 i2 h1 h2 h3 h4 h5=>?_,λg hg=>⟨_,(by unfold globR;rw[Lc hg]),rfl⟩⟩
 ·obtain⟨t,h1,rfl,rfl⟩:=QP hg;unfold globR at hi;split at hi
  ·cases hi;refine⟨hb t h1,λj v hj=>⟨v,?_,.same v (Li.1 (Li.1 hp t h1) v (Ln hj))⟩⟩;rw[W5,LP];exact hc t h1 j v hj
  ·cases hi
 ·obtain⟨t,_,_,rfl⟩:=QP h1;cases h5
theorem calls_tabs {known:CallF} (hk:CallOk P known) {F G k:Nat} {f:FuncId} {args:List Value} {tabs:List Tab} (he:entered P f=true) (ha:args.all plain=true) (hp:tabsOk tabs=true)
  (h:isTrue ((run P known F G k).fn f args (tabHeap P.globals.size tabs))=true) {w:World} (hb:∀t∈tabs,t.id<w.heap.size) (hc:∀t∈tabs,∀ (j:Nat) v,t.c[j]? = some v->w.cell? ⟨t.id,j,none⟩=some v):
  Calls P f args.toArray w λe w'=>e=.returned (.bool true)∧Below w.heap.size w w':=by
 obtain⟨H1,hr⟩:=Qa5 h;exact G3 (((Vx hk k).fn f args _ _ H1 hr).does he) (Qgq hb hc hp) (.closed ha) rfl (λid b hg=>by obtain⟨t,_,_,rfl⟩:=QP hg;rfl)
theorem post_below {H:Type} {enc:TypeId×Value->H} {f:Func} {s:ChangeSpec} {fresh handsOn:Bool} {W W':World} {args:Array Value} {v:Value} {ds gs:List (DataW H)} {before pa pv:List MemPlace}
  (hW:DataW.Whole enc P f.params.toList s.vars false W args.toList ds gs before)
  (hres:∀ (b:Nat) (sp:Nat->Bool) (hd:Bool),DataW.TrodAll enc P W' b sp hd f.resultTypes.toList (v.resultList f.resultTypes.size) (s.fn H (ds++gs)).results [])
  (hargs:DataW.TrodAll enc P W' 0 (λb=>decide (b<W.heap.size)) true f.params.toList args.toList (s.fn H (ds++gs)).args pa)
  (hvars:DataW.TrodVars enc P W' (λb=>decide (b<W.heap.size)) s.vars (s.fn H (ds++gs)).vars pv) (hb:Below W.heap.size W W'):
  s.post enc P f false fresh handsOn false W args v W':=by
 refine⟨ds,gs,before,[],pa,pv,hW,hres _ _ _,hargs,hvars,⟨hb.os,hb.output,λi hi=>?_⟩,λh=>by cases h⟩;rw[hb.block i hi];cases hx:W.heap[i]? with
 | none=>simp
 | some o=>cases o<;>simp
end
def back (ρ:Ren) (τ:Nat->Nat) (n:Nat):Ren:=λid=>if id<n then ρ (τ id) else none
theorem Xy {ρ:Ren} {τ:Nat->Nat} {n id:Nat} {i:QT} (h:back ρ τ n id=some i):id<n∧ρ (τ id)=some i:=by
 unfold back at h;split at h
 ·rename_i hl;exact⟨hl,h⟩
 ·cases h
def Zw (τ:Nat->Nat) (n:Nat) (x y:Value):Prop:=∀ρ v,V ρ y v->V (back ρ τ n) x v
theorem Zw.plain {τ:Nat->Nat} {n:Nat} {x:Value} (h:plain x=true):Zw τ n x x:=λρ v hv=>by
 rw[hv.plain_eq h];exact .same x h
theorem Zw.slice {τ:Nat->Nat} {n id o l c:Nat} (h:id<n):Zw τ n (.slice (some ⟨id,o,none⟩) l c) (.slice (some ⟨τ id,o,none⟩) l c):=λρ v hv=>by
 cases hv with
 | same _ hp=>simp[Ab.plain]at hp
 | slice _ _ _ _ cap' i a' h0 h1 h2 h3 h4 h5=>exact .slice id o l c cap' i a' (by unfold back;rw[Lc h];exact h0) h1 h2 h3 h4 h5
theorem Zw.ptr {τ:Nat->Nat} {n id o:Nat} (h:id<n):Zw τ n (.pointer (some ⟨id,o,none⟩)) (.pointer (some ⟨τ id,o,none⟩)):=λρ v hv=>by
 cases hv with
 | same _ hp=>simp[Ab.plain]at hp
 | ptr _ _ i h0=>exact .ptr id o i (by unfold back;rw[Lc h];exact h0)
theorem Zw.agg {τ:Nat->Nat} {n:Nat} {xs ys:List Value} (hl:xs.length=ys.length) (h:∀ (j:Nat) x y,xs[j]? = some x->ys[j]? = some y->Zw τ n x y):Zw τ n (.agg xs.toArray) (.agg ys.toArray):=λρ v hv=>by
 cases hv with
 | same _ hp=>simp[Ab.plain]at hp
 | agg _ vs h1 h2=>
  refine .agg _ vs (by simpa[hl] using h1) λj x x' hx hx'=>?_;have hj:j<ys.length:=by
   have:=(Nj.1 hx).1;simp at this;omega
  exact h j x ys[j] (by simpa using hx) (La hj) ρ x' (h2 j _ x' (by simp[hj]) hx')
def shW (sh:Nat->Nat):Nat->Value->Value
 | 0,v=>v
 | f+1,v=>match v with
  | .pointer (some a)=>.pointer (some ⟨sh a.block,a.off,a.spot⟩)
  | .slice (some a) l c=>.slice (some ⟨sh a.block,a.off,a.spot⟩) l c
  | .map (some r)=>.map (some (sh r))
  | .iface t v=>.iface t (shW sh f v)
  | .agg xs=>.agg (xs.toList.map (shW sh f)).toArray
  | .tuple xs=>.tuple (xs.toList.map (shW sh f)).toArray
  | .func fn xs ys=>.func fn (xs.toList.map (shW sh f)).toArray (ys.toList.map (shW sh f)).toArray
  | v=>v
theorem Vy (sh:Nat->Nat):∀ (f:Nat) (v:Value),plain v=true->shW sh f v=v
 | 0,v,_=>rfl
 | f+1,v,h=>by
  unfold shW;split<;>first | (simp[plain]at h;done) | rfl
theorem QjB {ρ ρ':Ren} {sh:Nat->Nat} (hr:∀id i,ρ id=some i->ρ' (sh id)=some i):∀ (f:Nat) {v v':Value},V ρ v v'->okD f v=true->V ρ' (shW sh f v) v':=by
 intro f
 induction f with
 | zero=>
  intro v v' h hk;rw[h.plain_eq hk];exact .same _ hk
 | succ f ih=>
  intro v v' h hk;have arr:∀ (xs xs':Array Value),xs.size=xs'.size->(∀ (j:Nat) x x',xs[j]? = some x->xs'[j]? = some x'->V ρ x x')->xs.toList.all (okD f)=true->
    (xs.toList.map (shW sh f)).toArray.size=xs'.size∧∀ (j:Nat) x x',(xs.toList.map (shW sh f)).toArray[j]? = some x->xs'[j]? = some x'->V ρ' x x':=by
   intro xs xs' h1 h2 h3;refine⟨by simp[h1],λj x x' e e'=>?_⟩;simp only[List.getElem?_toArray,LD,Bl,Lx]at e;obtain⟨y,hy,rfl⟩:=e;exact ih (h2 j y x' hy e') (Li.1 h3 y (by simpa using BB hy))
  cases h with
  | same v hp=>rw[Vy sh (f+1) v hp];exact .same v hp
  | ptr id off i h=>exact .ptr _ off i (hr id i h)
  | slice id off len cap cap' i a' h h1 h2 h0 h3 h4=>exact .slice _ off len cap cap' i a' (hr id i h) h1 h2 h0 h3 h4
  | map id i h=>exact .map _ i (hr id i h)
  | func fn xs ys xs' ys' hn h1 h2 h3 h4=>
   simp only[okD,Lm]at hk;obtain⟨p1,p2⟩:=arr xs xs' h1 h3 hk.1.2;obtain⟨q1,q2⟩:=arr ys ys' h2 h4 hk.2;exact .func fn _ _ xs' ys' hn p1 q1 p2 q2
  | yield l i h=>simp[okD,XM]at hk
  | iface t v v' h=>exact .iface t _ v' (ih h hk)
  | agg xs xs' h1 h2=>
   obtain⟨p1,p2⟩:=arr xs xs' h1 h2 hk;exact .agg _ xs' p1 p2
  | tuple xs xs' h1 h2=>
   obtain⟨p1,p2⟩:=arr xs xs' h1 h2 hk;exact .tuple _ xs' p1 p2
def Row.blkW (sh:Nat->Nat) (r:Row):Blk:=.cells (r.c.map (shW sh 6)) r.e r.ro
def QY (sh:Nat->Nat):List Row->Qa->Qa
 | [],H=>H
 | r::rs,H=>QY sh rs (H.push (r.blkW sh))
theorem XF {sh:Nat->Nat}:∀ (rs:List Row) (H:Qa),(QY sh rs H).next=H.next+rs.length
 | [],H=>rfl
 | r::rs,H=>by simp only[QY,XF rs,Wi,Lo];omega
theorem Xz {sh:Nat->Nat}:∀ (rs:List Row) (H:Qa) (id:Nat),(QY sh rs H).get id=if H.next<=id∧id<H.next+rs.length then(rs[id - H.next]?).map (Row.blkW sh) else H.get id
 | [],H,id=>by simp only[QY,L9];rw[Le (by omega)]
 | r::rs,H,id=>by
  simp only[QY,Xz rs,Wi,Lo,Qg]
  by_cases h1:id=H.next
  ·subst h1;rw[Le (by omega),Lc rfl,Lc ⟨by omega,by omega⟩];simp
  ·by_cases h2:H.next+1<=id∧id<H.next+1+rs.length
   ·rw[Lc h2,Lc ⟨by omega,by omega⟩,show id - H.next=(id - (H.next+1))+1 by omega];simp
   ·rw[Le h2,Le h1,Le (by omega)]
def shM (τ:Nat->Nat) (M n id:Nat):Nat:=bif Nat.blt id M then τ id else n+(id - M)
def WE (τ:Nat->Nat) (M b:Nat):Option Nat:=bif Nat.blt b M then some (τ b) else none
theorem XV (a b:Nat):Nat.blt a b=decide (a<b):=by
 cases hb:Nat.blt a b with
 | false=>
  by_cases h:a<b
  ·have:Nat.blt a b=true:=by simpa using h
   rw[hb]at this;cases this
  ·simp[h]
 | true=>simp only[B5]at hb;simp[hb]
theorem Gi {ρ:Ren} {τ:Nat->Nat} {n a b:Nat} {i:QT} (h:WE τ n b=some a) (h':ρ a=some i):back ρ τ n b=some i:=by
 unfold WE at h;rw[XV]at h;unfold back
 by_cases hb:b<n
 ·simp only[hb,Nf,Lq,Lt]at h;rw[Lc hb,h];exact h'
 ·simp only[hb,NE,Ls]at h;cases h
theorem Qiz {τ:Nat->Nat} {n f:Nat} {x y:Value} (h:mtV (WE τ n) f y x=true):Zw τ n x y:=λρ v hv=>QdP (λa b i=>Gi) f h hv
theorem Qj7 {P:Program} {f:FuncId} {args args2:List Value} {v u:Value} {B H1:Qa} {τ:Nat->Nat} (hd:Xo P f args B (.ret v) H1) (hg:P.globals.size<=B.next) (hτ:∀g,g<P.globals.size->τ g=g)
  {rs:List Row} (hv:mtV (ZE B.next rs) 6 v u=true) (hu:okD 6 u=true) (hrs:Qgn B.next H1 rs) (H:Qa)
  (hB:∀id b,B.get id=some b->∃c e c2 e2 ro,b=.cells c e true∧H.get (τ id)=some (.cells c2 e2 ro)∧c.length=c2.length∧∀ (j:Nat) x y,c[j]? = some x->c2[j]? = some y->Zw τ B.next x y)
  (ha:Wv (mtV (WE τ B.next) 6) args2 args=true):
  Xo P f args2 H (.ret (shW (shM τ B.next H.next) 6 u)) (QY (shM τ B.next H.next) rs H):=by
 intro ρ w args' hs hargs;have hbk:=λa b i=>Gi (ρ:=ρ) (τ:=τ) (n:=B.next) (a:=a) (b:=b) (i:=i);obtain⟨hal,hav⟩:=Yi ha;have hargs':VL (back ρ τ B.next) args args':=⟨by rw[<- hal];exact hargs.1,λj x x' e e'=>by
  have hj:j<args2.length:=by have:=(Lk.1 e).1;omega
  exact QdP hbk 6 (hav j args2[j] x (La hj) e) (hargs.2 j _ x' (La hj) e')⟩
 have hnro:∀id b,B.get id=some b->b.ro=true:=λid b h=>by obtain⟨c,e,c2,e2,ro,rfl,_⟩:=hB id b h;rfl
 have hsim:Sim P (back ρ τ B.next) B w:=by
  refine⟨λid j h=>(Xy h).1,λid b i hb hi=>?_,λid1 id2 b1 b2 i1 i2 h1 h2 h3 h4 h5=>?_,λg hgl=>?_⟩
  ·obtain⟨c,e,c2,e2,ro,rfl,hh,hc,hx⟩:=hB id b hb;have hr:=hs.live _ _ i hh (Xy hi).2;refine⟨hr.lt,λj u hj=>?_⟩;have hj2:j<c2.length:=by have:=(Lk.1 hj).1;omega
   obtain⟨u',h1,h2⟩:=hr.cellAt (La hj2);exact⟨u',h1,hx j u c2[j] hj (La hj2) ρ u' h2⟩
  ·rw[hnro id1 b1 h1]at h5;cases h5
  ·obtain⟨j,hj,e⟩:=hs.glob g hgl;refine⟨j,?_,e⟩;unfold back;rw[Lc (by omega),hτ g hgl];exact hj
 refine(hd _ w args' hsim hargs').mono ?_;rintro e w' ⟨ρ1,ho,hst,hs1⟩;have hsame:∀b,b<w.heap.size->w'.heap[b]? = w.heap[b]? := λb hb=>hst.frame b hb (λid i bl _ h2 h3=>by rw[hnro id bl h2]at h3;cases h3);have hnew:∀id i,ρ1 id=some i->B.next<=id->w.heap.size<=i.at_.block:=λid i h hid=>by
  have hn:back ρ τ B.next id=none:=by unfold back;rw[Le (by omega)]
  rcases(hst.fresh id i h hn).2 with h | ⟨id0,i0,b0,_,_,h3,h4⟩
  ·exact h
  ·rw[hnro id0 b0 h3]at h4;cases h4
 generalize hM:B.next=M at *;have hsh:∀id,shM τ M H.next id=if id<M then τ id else H.next+(id - M):=λid=>by
  unfold shM;rw[XV];by_cases h:id<M<;>simp[h]
 let ρc:Ren:=λb=>(ZE M rs b).bind ρ1
 let ρ':Ren:=λid=>if id<H.next then ρ id else ρc (M+(id - H.next))
 have hc1:∀a b i,ZE M rs b=some a->ρ1 a=some i->ρc b=some i:=λa b i h h'=>by simp only[ρc,h,R8,h']
 have hcin:∀b i,ρc b=some i->M<=b->∃r,rs[b - M]? = some r∧ρ1 r.src=some i:=λb i h hb=>by
  simp only[ρc,ZE,XV,show ¬b<M by omega,NE,Ls]at h;cases hr:rs[b - M]? with
  | none=>rw[hr]at h;cases h
  | some r=>rw[hr]at h;exact⟨r,rfl,h⟩
 have hmap:∀b i,ρc b=some i->ρ' (shM τ M H.next b)=some i:=λb i h=>by
  rw[hsh]
  by_cases hb:b<M
  ·simp only[hb,N3,ρ'];simp only[ρc,ZE,XV,hb,Nf,Lq,R8]at h;cases hk:back ρ τ M b with
   | none=>
    have:=(hst.fresh b i h hk).1;omega
   | some i0=>
    have:=hst.mono b i0 hk;rw[h]at this;cases this;have h2:=(Xy hk).2;rw[Lc (hs.dom _ _ h2)];exact h2
  ·simp only[hb,LN,ρ'];rw[Le (by omega),show M+(H.next+(b - M) - H.next)=b by omega];exact h
 have hval:∀ {x y z:Value},mtV (ZE M rs) 6 x y=true->okD 6 y=true->V ρ1 x z->V ρ' (shW (shM τ M H.next) 6 y) z:=λh1 h2 h3=>QjB hmap 6 (QdP hc1 6 h1 h3) h2;have hsub:Sub ρ ρ':=λid i h=>by
  simp only[ρ'];rw[Lc (hs.dom id i h)];exact h
 have hget:∀id,(QY (shM τ M H.next) rs H).get id=if H.next<=id∧id<H.next+rs.length then(rs[id - H.next]?).map (Row.blkW (shM τ M H.next)) else H.get id:=λid=>Xz rs H id
 have hnext:(QY (shM τ M H.next) rs H).next=H.next+rs.length:=XF rs H;have hhigh:∀id i,ρ' id=some i->H.next<=id->∃r,rs[id - H.next]? = some r∧ρ1 r.src=some i:=λid i hi hid=>by
  simp only[ρ']at hi;rw[Le (by omega)]at hi;have:=hcin _ i hi (by omega);rwa [show M+(id - H.next) - M=id - H.next by omega]at this
 have hlow:∀id i,ρ' id=some i->id<H.next->ρ id=some i:=λid i hi hid=>by
  simp only[ρ']at hi;rwa [Lc hid]at hi
 have hgl:∀id,id<H.next->(QY (shM τ M H.next) rs H).get id=H.get id:=λid hid=>by rw[hget,Le (by omega)]
 have hgh:∀id r,H.next<=id->rs[id - H.next]? = some r->(QY (shM τ M H.next) rs H).get id=some (r.blkW (shM τ M H.next)):=λid r hid hr=>by
  have:=(Lk.1 hr).1;rw[hget,Lc ⟨hid,by omega⟩,hr];rfl
 refine⟨ρ',?_,⟨hsub,by rw[hnext];omega,λid i h h'=>?_,λid i b b' h h1 h2 h3=>?_,λid i h h'=>?_,hst.os,hst.tape,hst.output,hst.size,λb hb _=>hsame b hb⟩,
  ⟨λid i h=>?_,λid b i hb hi=>?_,λid1 id2 b1 b2 i1 i2 h1 h2 h3 h4 h5 h6=>?_,λg hg=>?_⟩⟩
 ·cases e with
  | returned v'=>exact hval hv hu ho
  | _=>exact ho.elim
 ·rw[hgl id (hs.dom id i h)];exact h'
 ·rw[hgl id (hs.dom id i h),h1]at h3;cases h3;exact h2
 ·have hid:H.next<=id:=by
   rcases Nq id H.next with hlt | hge
   ·rw[hlow id i h hlt]at h';cases h'
   ·exact hge
  obtain⟨r,hr,hr1⟩:=hhigh id i h hid;exact⟨hid,.inl (hnew r.src i hr1 (hrs.row _ r hr).1)⟩
 ·rw[hnext];rcases Nq id H.next with hlt | hge
  ·omega
  ·obtain⟨r,hr,_⟩:=hhigh id i h hge;have:=(Lk.1 hr).1;omega
 ·rcases Nq id H.next with hlt | hge
  ·rw[hgl id hlt]at hb;have hr:=hs.live id b i hb (hlow id i hi hlt);exact hr.mono hsub (hsame _ hr.lt)
  ·obtain⟨r,hr,hr1⟩:=hhigh id i hi hge;rw[hgh id r hge hr]at hb;cases hb;obtain⟨g1,g2,c1,g3,g4⟩:=hrs.row _ r hr;obtain⟨q1,q2⟩:=Yi g4;refine(hs1.live r.src _ i g3 hr1).turn (by simp[q1]) λj x y z hx hy hz=>?_;simp only[LD,Lx]at hy;obtain⟨y0,hy0,rfl⟩:=hy;exact hval (q2 j x y0 hx hy0) (Li.1 g2 y0 (Ln hy0)) hz
 ·have old:∀id b i,id<H.next->(QY (shM τ M H.next) rs H).get id=some b->ρ' id=some i->i.at_.block<w.heap.size:=λid b i hlt hb hi=>by
   rw[hgl id hlt]at hb;exact(hs.live id b i hb (hlow id i hi hlt)).lt
  have new:∀id i,H.next<=id->ρ' id=some i->w.heap.size<=i.at_.block:=λid i hge hi=>by
   obtain⟨r,hr,hr1⟩:=hhigh id i hi hge;exact hnew r.src i hr1 (hrs.row _ r hr).1
  rcases Nq id1 H.next with l1 | l1<;>rcases Nq id2 H.next with l2 | l2
  ·rw[hgl id1 l1]at h1;rw[hgl id2 l2]at h2;exact hs.sep id1 id2 b1 b2 i1 i2 h1 h2 (hlow id1 i1 h3 l1) (hlow id2 i2 h4 l2) h5 h6
  ·have a1:=old id1 b1 i1 l1 h1 h3;have a2:=new id2 i2 l2 h4;omega
  ·have a1:=new id1 i1 l1 h3;have a2:=old id2 b2 i2 l2 h2 h4;omega
  ·obtain⟨r,hr,hr1⟩:=hhigh id1 i1 h3 l1;obtain⟨r',hr',hr1'⟩:=hhigh id2 i2 h4 l2;rw[hgh id1 r l1 hr]at h1;rw[hgh id2 r' l2 hr']at h2;cases h1;cases h2;obtain⟨_,_,c1,g3,_⟩:=hrs.row _ r hr;obtain⟨_,_,c2,g4,_⟩:=hrs.row _ r' hr';exact hs1.sep r.src r'.src _ _ i1 i2 g3 g4 hr1 hr1' h5 (hrs.inj _ _ r r' hr hr' (by omega))
 ·obtain⟨j,hj,e⟩:=hs.glob g hg;exact⟨j,hsub _ _ hj,e⟩
/-! ### Known calls -/
structure SumI where
 f:FuncId
 args:List Value
 ins:List (List Value×TypeId)
 u:Value
 rs:List Row
def XW (H:Qa):List (List Value×TypeId)->Qa
 | []=>H
 | c::cs=>XW (H.push (.cells c.1 c.2 true)) cs
theorem Jk:∀ (l:List (List Value×TypeId)) (H:Qa),(XW H l).next=H.next+l.length
 | [],H=>rfl
 | c::cs,H=>by simp only[XW,Jk cs,Wi,Lo];omega
theorem J9:∀ (l:List (List Value×TypeId)) (H:Qa) (id:Nat) (b:Blk),(XW H l).get id=some b->H.get id=some b∨∃k c,l[k]? = some c∧id=H.next+k∧b=.cells c.1 c.2 true
 | [],H,id,b,h=>.inl h
 | c::cs,H,id,b,h=>by
  rcases J9 cs _ id b h with h | ⟨k,c',h1,h2,h3⟩
  ·rw[Qg]at h
   by_cases hid:id=H.next
   ·rw[Lc hid]at h;cases h;exact .inr ⟨0,c,rfl,hid,rfl⟩
   ·rw[Le hid]at h;exact .inl h
  ·exact .inr ⟨k+1,c',by simpa using h1,by rw[h2,Wi];omega,h3⟩
def Qgr (g:Value->Value->List (Nat×Nat)->List (Nat×Nat)):List Value->List Value->List (Nat×Nat)->List (Nat×Nat)
 | x::xs,y::ys,l=>Qgr g xs ys (g x y l)
 | _,_,l=>l
def fnd:Nat->Value->Value->List (Nat×Nat)->List (Nat×Nat)
 | 0,_,_,l=>l
 | f+1,x,y,l=>match x,y with
  | .pointer (some a),.pointer (some b)=>(a.block,b.block)::l
  | .slice (some a) _ _,.slice (some b) _ _=>(a.block,b.block)::l
  | .iface _ x,.iface _ y=>fnd f x y l
  | .agg xs,.agg ys=>Qgr (fnd f) xs.toList ys.toList l
  | .tuple xs,.tuple ys=>Qgr (fnd f) xs.toList ys.toList l
  | _,_=>l
def asc:List (Nat×Nat)->Nat->Nat
 | [],_=>0
 | p::l,n=>bif Nat.beq p.1 n then p.2 else asc l n
def Qgs (H:Qa):List (List Value×TypeId)->Nat->List (Nat×Nat)->List (Nat×Nat)
 | [],_,l=>l
 | c::cs,n,l=>Qgs H cs (n+1) (match H.get (asc l n) with | some (.cells c' _ _)=>Qgr (fnd 6) c.1 c' l | _=>l)
def Gj (G:Nat) (s:SumI) (args:List Value) (H:Qa) (id:Nat):Nat:=bif Nat.blt id G then id else asc (Qgs H s.ins G (Qgr (fnd 6) s.args args [])) id
def Vz (τ:Nat->Nat) (M:Nat) (H:Qa):List (List Value×TypeId)->Nat->Bool
 | [],_=>true
 | c::cs,n=>(match H.get (τ n) with | some (.cells c' _ _)=>Wv (mtV (WE τ M) 6) c' c.1 | _=>false)&&Vz τ M H cs (n+1)
theorem VA {τ:Nat->Nat} {M:Nat} {H:Qa}:∀ (l:List (List Value×TypeId)) (n:Nat),Vz τ M H l n=true->∀ (k:Nat) c,l[k]? = some c->∃c' e' ro,H.get (τ (n+k))=some (.cells c' e' ro)∧Wv (mtV (WE τ M) 6) c' c.1=true
 | [],n,_,k,c,hk=>by simp at hk
 | c0::cs,n,h,k,c,hk=>by
  simp only[Vz,Lm]at h;cases k with
  | zero=>
   simp at hk;subst hk;obtain⟨h,_⟩:=h;split at h
   ·rename_i c' e' ro hg;exact⟨c',e',ro,hg,h⟩
   ·cases h
  | succ k=>
   obtain⟨c',e',ro,h1,h2⟩:=VA cs (n+1) h.2 k c (by simpa using hk);exact⟨c',e',ro,by rw[show n+(k+1)=n+1+k by omega];exact h1,h2⟩
def SumIOk (P:Program) (tabs:List Tab) (s:SumI):Prop:=
 entered P s.f=true∧∃v H1,Xo P s.f s.args (XW (tabHeap P.globals.size tabs) s.ins) (.ret v) H1∧mtV (ZE (P.globals.size+s.ins.length) s.rs) 6 v s.u=true∧okD 6 s.u=true∧Qgn (P.globals.size+s.ins.length) H1 s.rs
theorem sumI_ok {P:Program} {known:CallF} (hk:CallOk P known) {F G k:Nat} {tabs:List Tab} {s:SumI} (he:entered P s.f=true)
  (h:Qgp (P.globals.size+s.ins.length) s.u s.rs ((run P known F G k).fn s.f s.args (XW (tabHeap P.globals.size tabs) s.ins))=true):SumIOk P tabs s:=by
 unfold Qgp at h;split at h
 ·rename_i v H1 hr;simp only[Lm]at h;obtain⟨⟨⟨h1,h2⟩,h3⟩,h4⟩:=h;refine⟨he,v,H1,((Vx hk k).fn s.f s.args _ v H1 hr).does he,h1,h2,⟨λj r hj=>?_,λj m r r' hj hm hne=>?_⟩⟩
  ·have:=Li.1 h4 r (Ln hj);unfold Qgo at this;simp only[Lm,BL]at this;obtain⟨⟨g1,g2⟩,g3⟩:=this;refine⟨g1,g2,?_⟩;split at g3
   ·rename_i c1 e ro hg;simp only[Lm,QV,Lv,L0]at g3;exact⟨c1,by rw[hg,g3.1.1,g3.1.2],g3.2⟩
   ·cases g3
  ·rcases Nq j m with hlt | hge
   ·have:=Zt _ h3 j m r r' hj hm hlt;omega
   ·have:=Zt _ h3 m j r' r hm hj (by omega);omega
 ·cases h
theorem SumIOk.does {P:Program} {tabs:List Tab} {s:SumI} (hs:SumIOk P tabs s) (ht:tabsOk tabs=true) {args:List Value} {H:Qa} {τ:Nat->Nat} (hτ:∀g,g<P.globals.size->τ g=g) (htab:∀t∈tabs,t.id<P.globals.size)
  (hH:XE tabs H=true) (hi:Vz τ (P.globals.size+s.ins.length) H s.ins P.globals.size=true) (ha:Wv (mtV (WE τ (P.globals.size+s.ins.length)) 6) args s.args=true):
  Xo P s.f args H (.ret (shW (shM τ (P.globals.size+s.ins.length) H.next) 6 s.u)) (QY (shM τ (P.globals.size+s.ins.length) H.next) s.rs H):=by
 obtain⟨he,v,H1,hd,h1,h2,h3⟩:=hs;have hM:(XW (tabHeap P.globals.size tabs) s.ins).next=P.globals.size+s.ins.length:=Jk _ _;rw[<- hM]at h1 h3 hi ha ⊢;refine Qj7 hd (by rw[hM];omega) hτ h1 h2 h3 H (λid b hb=>?_) ha;rcases J9 _ _ _ _ hb with hb | ⟨k,c,hk,hid,rfl⟩
 ·have hg:=ZW hH id b hb;obtain⟨t,ht1,rfl,rfl⟩:=QP hb;refine⟨t.c,t.e,t.c,t.e,true,rfl,by rw[hτ _ (htab t ht1)];exact hg,rfl,λj x y hx hy=>?_⟩;rw[hx]at hy;cases hy;exact Zw.plain (Li.1 (Li.1 ht t ht1) x (Ln hx))
 ·obtain⟨c',e',ro,g1,g2⟩:=VA _ _ hi k c hk;obtain⟨q1,q2⟩:=Yi g2;exact⟨c.1,c.2,c',e',ro,rfl,by rw[hid];exact g1,q1.symm,λj x y hx hy=>Qiz (q2 j y x hy hx)⟩
def KN (G:Nat) (tabs:List Tab) (f:FuncId) (args:List Value) (H:Qa):List SumI->Option (Value×Qa)
 | []=>none
 | s::ss=>bif Nat.beq f s.f&&(Wv (mtV (WE (Gj G s args H) (G+s.ins.length)) 6) args s.args&&(XE tabs H&&Vz (Gj G s args H) (G+s.ins.length) H s.ins G)) then
   some (shW (shM (Gj G s args H) (G+s.ins.length) H.next) 6 s.u,QY (shM (Gj G s args H) (G+s.ins.length) H.next) s.rs H) else KN G tabs f args H ss
theorem Gl {P:Program} {tabs:List Tab} (ht:tabsOk tabs=true) (htab:∀t∈tabs,t.id<P.globals.size) {f:FuncId} {args:List Value} {H:Qa} {v:Value} {H':Qa}:∀ {ss:List SumI},(∀s∈ss,SumIOk P tabs s)->KN P.globals.size tabs f args H ss=some (v,H')->
  entered P f=true∧Xo P f args H (.ret v) H'
 | [],_,h=>by cases h
 | s::ss,hs,h=>by
  simp only[KN]at h;cases hc:(Nat.beq f s.f&&(Wv (mtV (WE (Gj P.globals.size s args H) (P.globals.size+s.ins.length)) 6) args s.args&&(XE tabs H&&Vz (Gj P.globals.size s args H) (P.globals.size+s.ins.length) H s.ins P.globals.size))) with
  | false=>
   rw[hc]at h;exact Gl ht htab (ss:=ss) (λs' h'=>hs s' (NA _ h')) h
  | true=>
   rw[hc]at h;simp only[Lq,Lt,LB]at h;obtain⟨rfl,rfl⟩:=h;simp only[Lm,QV,Lv]at hc;obtain⟨e1,e2,e3,e4⟩:=hc;have hs0:=hs s (Ny ..);subst e1;exact⟨hs0.1,hs0.does ht (λg hg=>by unfold Gj;rw[XV];simp[hg]) htab e3 e4 e2⟩
def YA (G:Nat) (tabs:List Tab) (sel:FuncId->List SumI):CallF:=λf args H=>KN G tabs f args H (sel f)
theorem byFn_ok {P:Program} {tabs:List Tab} (ht:tabsOk tabs=true) (htab:∀t∈tabs,t.id<P.globals.size) {sel:FuncId->List SumI} (h:∀f,∀s∈sel f,SumIOk P tabs s):CallOk P (YA P.globals.size tabs sel):=λf args H v H' e=>by
 obtain⟨h1,h2⟩:=Gl ht htab (h f) e;exact .inl ⟨h1,h2⟩
inductive Sk where
 | i | b | s
inductive R where
 | mv (x:Operand)
 | pick (c x y:Operand)
 | bin (op:BinOp) (x y:Operand)
 | beq (ne:Bool) (x y:Operand)
 | eqs (ne:Bool) (ks:List Sk) (x y:Operand)
 | not (x:Operand)
 | toInt (k:IntKind) (x:Operand)
 | mkIf (t:TypeId) (x:Operand)
 | fld (agg:Bool) (off size:Nat) (x:Operand)
 | fldA (off:Nat) (x:Operand)
 | idxS (size:Nat) (x ix:Operand)
 | chr (x ix:Operand)
 | ext (x:Operand) (i:Nat)
 | asrt (t:TypeId) (z:Value) (ok:Bool) (x:Operand)
 | build (z:List Value) (parts:List (Nat×Nat×Operand))
 | bslice (e size len:Nat) (z:List Value) (parts:List (Nat×Operand))
 | alloc (e:TypeId) (z:List Value)
 | box (e:TypeId) (x:Operand)
 | mkSl (e size bytes:Nat) (z:List Value) (x y:Operand)
 | slS (size:Nat) (x:Operand) (lo hi:Option Operand)
 | ld (agg:Bool) (size:Nat) (x:Operand)
 | st (size:Nat) (x y:Operand)
 | stf (size:Nat) (x y:Operand) (os:List Operand)
 | lenS (x:Operand)
 | lenT (x:Operand)
 | app (e size bytes:Nat) (x y:Operand)
 | gen (o:Op)
 | call (f:FuncId) (args:List Operand)
 | callv (c:Operand) (args:List Operand)
 | callF (f:FuncId) (args os:List Operand)
 | callG (f:FuncId) (args os:List Operand)
 | appF (e size bytes:Nat) (x y:Operand) (os:List Operand)
def Ws:Qk:=⟨λ_ _ _=>none,λ_ _ _=>none,λ_ _ _=>none⟩
def Ka (f:Operand->Value):List Value->List (Nat×Nat×Operand)->Option (List Value)
 | cells,[]=>some cells
 | cells,(off,size,x)::rest=>if(f x).cells.toList.length=size∧off+size<=cells.length then Ka f (splice cells off (f x).cells.toList) rest else none
def YB (e size bytes:Nat) (s x:Value) (H:Qa):Option (Value×Qa):=
 match JA size x H with
 | none=>none
 | some (m,news)=>
  if news.all (·.oneCell')=true then
   match s with
   | .slice none 0 0=>
    if m=0 then some (.slice none 0 0,H) else
    if m<=9223372036854775807∧m * bytes<=140737488355328 then some (.slice (some ⟨H.next,0,none⟩) m (UNK+size),H.push (.cells news e false)) else none
   | .slice (some a) len cap=>
    if m=0 then(if UNK<=cap∨len<=cap then some (.slice (some a) len cap,H) else none) else
    match H.get a.block with
    | some (.cells c e' ro)=>
     if a.off+len * size<=c.length∧len+m<=9223372036854775807∧(len+m) * bytes<=140737488355328 then
      if UNK<=cap then
       if ro=false∧e'=e∧a.off=0∧a.off+len * size=c.length then some (.slice (some ⟨H.next,0,none⟩) (len+m) (UNK+size),(H.kill a.block).push (.cells (c.drop a.off++news) e false))
       else if ro=false∧cap=UNK+size∧a.off+(len+m) * size<=c.length then some (.slice (some a) (len+m) cap,H.set a.block (.cells (splice c (a.off+len * size) news) e' false)) else none
      else if len+m<=cap then
       (if ro=false∧a.off+(len+m) * size<=c.length then some (.slice (some a) (len+m) cap,H.set a.block (.cells (splice c (a.off+len * size) news) e' false)) else none)
      else some (.slice (some ⟨H.next,0,none⟩) (len+m) (UNK+size),H.push (.cells ((c.drop a.off).take (len * size)++news) e false))
     else none
    | _=>none
   | _=>none
  else none
theorem QcR (e:TypeId) (inf:TypeInfo) (s x:Value) (H:Qa):Zp e inf s x H=YB e inf.size inf.bytes s x H:=rfl
def Qkl:Sk->Value->Value->Option Bool
 | .i,.int k a,.int k' b=>if k=k' then some (a==b) else none
 | .b,.bool a,.bool b=>some (a==b)
 | .s,.string a,.string b=>some (bl a==bl b)
 | _,_,_=>none
def YC:List Sk->Array Value->Array Value->Nat->Option Bool
 | [],_,_,_=>some true
 | k::ks,xs,ys,i=>match xs[i]?,ys[i]? with
  | some a,some b=>match Qkl k a b with
   | some true=>YC ks xs ys (i+1)
   | r=>r
  | _,_=>none
def W0 (op:BinOp) (x y:Value):Option Value:=
 match x,y with
 | .int ik a,.int ik' b=>match op with
  | .shl | .shr=>W8 op ik a b
  | _=>if ik=ik' then QX op ik a b else none
 | .string a,.string b=>ZN op (bl a) (bl b)
 | _,_=>none
def Zb (H:Qa):Option Value->Option (Value×Qa)
 | some v=>some (v,H)
 | none=>none
def VB (f:Operand->Value):Option Operand->Option (Option Int)
 | none=>some none
 | some x=>match f x with | .int _ m=>some (some m) | _=>none
def rop (P:Program) (r:R) (A:Env) (H:Qa):Option (Value×Qa):=
 match r with
 | .mv x=>some (ev A x,H)
 | .pick c x y=>match ev A c with | .bool t=>some (bif t then ev A x else ev A y,H) | _=>none
 | .bin op x y=>Zb H (W0 op (ev A x) (ev A y))
 | .beq ne x y=>match ev A x,ev A y with
  | .bool a,.bool b=>some (.bool (bif ne then !(a==b) else a==b),H)
  | _,_=>none
 | .eqs ne m x y=>match ev A x,ev A y with
  | .agg xs,.agg ys=>match YC m xs ys 0 with | some b=>some (.bool (bif ne then !b else b),H) | none=>none
  | _,_=>none
 | .not x=>match ev A x with | .bool b=>some (.bool !b,H) | _=>none
 | .toInt k x=>match ev A x with | .int _ m=>some (.int k (k.wrap m),H) | _=>none
 | .mkIf t x=>some (.iface t (ev A x),H)
 | .fld agg off size x=>match ev A x with
  | .agg cs=>Zb H (bif agg then some (.agg (cs.extract off (off+size))) else cs[off]?)
  | _=>none
 | .fldA off x=>match ev A x with | .pointer (some a)=>some (.pointer (some ⟨a.block,a.off+off,none⟩),H) | _=>none
 | .idxS size x ix=>match ev A ix,ev A x with
  | .int _ m,.slice (some a) len _=>if 0<=m∧m<len then some (.pointer (some ⟨a.block,a.off+m.toNat * size,none⟩),H) else none
  | _,_=>none
 | .chr x ix=>match ev A ix,ev A x with
  | .int _ m,.string s=>if 0<=m then(match (bl s)[m.toNat]? with | some b=>some (.int .u8 b.toNat,H) | none=>none) else none
  | _,_=>none
 | .ext x i=>match ev A x with | .tuple vs=>Zb H vs[i]? | _=>none
 | .asrt t z ok x=>match ev A x with
  | .nilIface=>bif ok then some (.tuple #[z,.bool false],H) else none
  | .iface u v=>if u=t then some (bif ok then .tuple #[v,.bool true] else v,H) else(bif ok then some (.tuple #[z,.bool false],H) else none)
  | _=>none
 | .build z parts=>match Ka (ev A) z parts with | some r=>some (.agg r.toArray,H) | none=>none
 | .bslice e size len z parts=>match XP (λi=>some (i * size,size)) z (parts.map λp=>(p.1,ev A p.2)) with
  | some r=>some (.slice (some ⟨H.next,0,none⟩) len len,H.push (.cells r e false))
  | none=>none
 | .alloc e z=>some (.pointer (some ⟨H.next,0,none⟩),H.push (.cells z e false))
 | .box e x=>some (.pointer (some ⟨H.next,0,none⟩),H.push (.cells (ev A x).cells.toList e false))
 | .mkSl e size bytes z x y=>match ev A x,ev A y with
  | .int .i64 l,.int .i64 c=>if 0<=l∧l<=c∧(bytes:Int) * c<=281474976710656∧c<=9223372036854775807 then
    some (.slice (some ⟨H.next,0,none⟩) l.toNat c.toNat,H.push (.cells (Q0 z.toArray (c.toNat * size)) e false)) else none
  | _,_=>none
 | .slS size x lo hi=>match VB (ev A) lo,VB (ev A) hi with
  | some l,some h=>Zb H (Zo size (ev A x) l h none)
  | _,_=>none
 | .ld agg size x=>match ev A x with
  | .pointer (some a)=>match H.get a.block with
   | some (.cells c _ _)=>bif agg then(if a.off+size<=c.length then some (.agg ((c.drop a.off).take size).toArray,H) else none) else Zb H c[a.off]?
   | _=>none
  | _=>none
 | .st size x y=>match ev A x with
  | .pointer (some a)=>match H.get a.block with
   | some (.cells c e false)=>if(ev A y).cells.toList.length=size∧a.off+(ev A y).cells.toList.length<=c.length∧(ev A y).cells.toList.all (·.oneCell')=true then some (undef,H.set a.block (.cells (splice c a.off (ev A y).cells.toList) e false)) else none
   | _=>none
  | _=>none
 | .stf size x y _=>match ev A x with
  | .pointer (some a)=>match H.get a.block with
   | some (.cells c e false)=>if(ev A y).cells.toList.length=size∧a.off+(ev A y).cells.toList.length<=c.length∧(ev A y).cells.toList.all (·.oneCell')=true then some (undef,H.set a.block (.cells (splice c a.off (ev A y).cells.toList) e false)) else none
   | _=>none
  | _=>none
 | .lenS x=>match ev A x with | .slice _ m _=>some (.int .i64 (m:Int),H) | _=>none
 | .lenT x=>match ev A x with | .string s=>some (.int .i64 ((bl s).length:Int),H) | _=>none
 | .app e size bytes x y=>YB e size bytes (ev A x) (ev A y) H
 | .gen o=>match aop P Ws ⟨none,o,0, "",#[],none⟩ A H with | some (_,v,H')=>some (v,H') | none=>none
 | .call _ _=>none
 | .callv _ _=>none
 | .callF _ _ _=>none
 | .callG _ _ _=>none
 | .appF _ _ _ _ _ _=>none
/-! ### Resolving -/
def Jl (P:Program):List Field->Nat->Option (List Sk)
 | [],_=>some []
 | fd::fs,i=>
  if fd.name = "_" ∨ fd.offset≠i then none else
  match P.info? fd.type,Jl P fs (i+1) with
  | some _,some ks=>match P.underlying fd.type with
   | some (.int _)=>some (.i::ks)
   | some .bool=>some (.b::ks)
   | some .string=>some (.s::ks)
   | _=>none
  | _,_=>none
def Jm (pl:Array (Nat×Nat)):List (Nat×Operand)->Option (List (Nat×Nat×Operand))
 | []=>some []
 | (i,x)::rest=>match pl[i]?,Jm pl rest with
  | some (off,size),some l=>some ((off,size,x)::l)
  | _,_=>none
def Ql (P:Program) (op:Op):R:=
 match op with
 | .move x=>.mv x
 | .assign x=>.mv x
 | .pick c x y=>.pick c x y
 | .binOp b t x y _=>
  match P.underlying t with
  | some (.int _) | some .string=>.bin b x y
  | some .bool=>match b with | .eql=>.beq false x y | .neq=>.beq true x y | _=>.gen op
  | some (.struct fs)=>if P.stoodInHeld t||P.eqGuardType P.depth t then .gen op else match Jl P fs.toList 0 with
   | some ks=>(match b with | .eql=>.eqs false ks x y | .neq=>.eqs true ks x y | _=>.gen op)
   | none=>.gen op
  | _=>.gen op
 | .unOp .not _ x=>.not x
 | .convert src dst x=>match P.underlying src,P.underlying dst with
  | some (.int _),some (.int k)=>.toInt k x
  | _,_=>.gen op
 | .makeInterface t x=>match P.underlying t with
  | some (.interface _)=>.gen op
  | some _=>.mkIf t x
  | none=>.gen op
 | .field t x f=>match P.underlying t with
  | some (.struct fs)=>match fs[f]? with
   | some fd=>match P.underlying fd.type,P.info? fd.type with
    | some td,some inf=>.fld (XA td) fd.offset inf.size x
    | _,_=>.gen op
   | none=>.gen op
  | _=>.gen op
 | .fieldAddr t x f=>match P.underlying t with
  | some (.struct fs)=>match fs[f]? with
   | some fd=>match P.info? fd.type with
    | some inf=>if inf.size=0 then .gen op else .fldA fd.offset x
    | none=>.gen op
   | none=>.gen op
  | _=>.gen op
 | .indexAddr t x ix=>match P.underlying t with
  | some (.slice e)=>match P.info? e with
   | some inf=>.idxS inf.size x ix
   | none=>.gen op
  | _=>.gen op
 | .index t x ix=>match P.underlying t with
  | some .string=>.chr x ix
  | _=>.gen op
 | .extract x i=>.ext x i
 | .typeAssert x _ t ok=>match P.underlying t,P.info? t with
  | some td,some inf=>match inf.zero with
   | some z=>if Wp z then(match td with | .interface _=>.gen op | _=>.asrt t z ok x) else .gen op
   | none=>.gen op
  | _,_=>.gen op
 | .build t parts=>match P.underlying t,P.info? t with
  | some (.struct fs),some inf=>match inf.zero,Ja P fs with
   | some z,some pl=>if z.cells.toList.all plain then(match Jm pl parts.toList with | some l=>.build z.cells.toList l | none=>.gen op) else .gen op
   | _,_=>.gen op
  | _,_=>.gen op
 | .buildSlice t len parts=>match P.underlying t with
  | some (.slice e)=>match P.info? e with
   | some inf=>match inf.zero with
    | some z=>if z.cells.toList.all plain&&Nat.blt 0 z.cells.size&&Nat.ble len 16777216&&Nat.ble (len * inf.size) 16777216 then .bslice e inf.size len (Q0 z.cells (len * inf.size)) parts.toList else .gen op
    | none=>.gen op
   | none=>.gen op
  | _=>.gen op
 | .alloc e=>match P.info? e with
  | some inf=>match inf.zero with
   | some z=>if z.cells.toList.all plain then .alloc e z.cells.toList else .gen op
   | none=>.gen op
  | none=>.gen op
 | .makeSlice t x y=>match P.underlying t with
  | some (.slice e)=>match P.info? e with
   | some inf=>match inf.zero with
    | some z=>if Yr P e inf z then .mkSl e inf.size inf.bytes z.cells.toList x y else .gen op
    | none=>.gen op
   | none=>.gen op
  | _=>.gen op
 | .slice t x lo hi none=>match P.underlying t with
  | some (.slice e)=>match P.info? e with
   | some inf=>.slS inf.size x lo hi
   | none=>.gen op
  | _=>.gen op
 | .load t x=>match P.underlying t,P.info? t with
  | some d,some inf=>.ld (XA d) inf.size x
  | _,_=>.gen op
 | .store t x y=>match P.info? t with
  | some inf=>.st inf.size x y
  | none=>.gen op
 | .call ⟨.builtin .len,args,ts⟩=>match args.toList,ts.toList with
  | [x],[t]=>match P.underlying t with
   | some (.slice _)=>.lenS x
   | some .string=>.lenT x
   | _=>.gen op
  | _,_=>.gen op
 | .call ⟨.builtin .append,args,ts⟩=>match args.toList,ts.toList with
  | [x,y],[t,t2]=>match P.underlying t,P.underlying t2 with
   | some (.slice e),some td=>match P.info? e with
    | some inf=>match inf.zero with
     | some z=>if Y1 td&&Yr P e inf z then .app e inf.size inf.bytes x y else .gen op
     | none=>.gen op
    | none=>.gen op
   | _,_=>.gen op
  | _,_=>.gen op
 | .call ⟨.value (.func f),args,_⟩=>.call f args.toList
 | .call ⟨.value c,args,_⟩=>.callv c args.toList
 | .box e x=>.box e x
 | op=>.gen op
section
variable {P:Program} {A:Env} {H:Qa}
def VC (P:Program) (op:Op) (A:Env) (H:Qa) (v:Value) (H':Qa):Prop:=∃c,aop P Ws ⟨none,op,0, "",#[],none⟩ A H=some (c,v,H')
theorem QeI {op:Op} {v:Value} {H':Qa} (h:rop P (.gen op) A H=some (v,H')):VC P op A H v H':=by
 simp only[rop]at h;split at h
 ·rename_i c v1 H1 he;simp only[Lt,LB]at h;obtain⟨rfl,rfl⟩:=h;exact⟨c,he⟩
 ·cases h
theorem Yj {r:Option Value} {v:Value} {H':Qa} (h:Zb H r=some (v,H')):r=some v∧H'=H:=by
 cases r with
 | none=>cases h
 | some u=>simp[Zb]at h;exact⟨by rw[h.1],h.2.symm⟩
theorem QeJ {op:BinOp} {t:TypeId} {x y v:Value} {k:Bool} (h:W0 op x y=some v):QeD P k op t x y=some v:=by
 unfold W0 at h;split at h
 ·exact h
 ·exact h
 ·cases h
def QiK (P:Program) (t:TypeId):Sk->Prop
 | .i=>∃ik,P.underlying t=some (.int ik)
 | .b=>P.underlying t=some .bool
 | .s=>P.underlying t=some .string
theorem Qbj {f:Nat} {t:TypeId} {k:Sk} {a b:Value} {r:Bool} (h:Qkl k a b=some r) (hk:QiK P t k):aeq P (f+1) t a b=some r:=by
 unfold Qkl at h;split at h
 ·obtain⟨ik,hu⟩:=hk;simp only[aeq,hu];exact h
 ·simp only[QiK]at hk;simp only[aeq,hk];exact h
 ·simp only[QiK]at hk;simp only[aeq,hk];exact h
 ·cases h
theorem Kb {f:Nat}:∀ (fs:List Field) (i:Nat) (ks:List Sk) (xs ys:Array Value) (b:Bool),Jl P fs i=some ks->YC ks xs ys i=some b->We P (aeq P (f+1)) fs xs ys=some b
 | [],i,ks,xs,ys,b,hs,h=>by simp only[Jl,Lt]at hs;subst hs;simpa[YC,We] using h
 | fd::fs,i,ks,xs,ys,b,hs,h=>by
  unfold Jl at hs;split at hs
  ·cases hs
  ·rename_i h1;simp only[not_or,Decidable.not_not]at h1;split at hs
   ·rename_i inf ks1 hi hs1;have main:∀k,(∀zs:Array Value,Ya P fd.type zs fd.offset=zs[i]?)->QiK P fd.type k->
      YC (k::ks1) xs ys i=some b->We P (aeq P (f+1)) (fd::fs) xs ys=some b:=λk hap hk h=>by
     unfold YC at h;unfold We;rw[Le h1.1,hap,hap];split at h
     ·rename_i a c ha hc;rw[ha,hc];simp only;split at h
      ·rename_i he;rw[Qbj he hk];exact Kb fs (i+1) ks1 xs ys b hs1 h
      ·rename_i r hr;have:=Qbj (f:=f) h hk;rw[this];cases b with
       | true=>exact absurd h hr
       | false=>rfl
     ·cases h
    split at hs
    ·rename_i ik hu;cases hs;exact main .i (λzs=>by simp[Ya,hu,hi,XA,h1.2]) ⟨ik,hu⟩ h
    ·rename_i hu;cases hs;exact main .b (λzs=>by simp[Ya,hu,hi,XA,h1.2]) hu h
    ·rename_i hu;cases hs;exact main .s (λzs=>by simp[Ya,hu,hi,XA,h1.2]) hu h
    ·cases hs
   ·cases hs
theorem Kc {pl:Array (Nat×Nat)}:∀ (parts:List (Nat×Operand)) (l:List (Nat×Nat×Operand)) (cells:List Value),Jm pl parts=some l->XP (pl[·]?) cells (parts.map λp=>(p.1,ev A p.2))=Ka (ev A) cells l
 | [],l,cells,h=>by simp only[Jm,Lt]at h;subst h;rfl
 | (i,x)::rest,l,cells,h=>by
  unfold Jm at h;split at h
  ·rename_i off size l1 hp hr;cases h;simp only[NZ,XP,Ka,hp];rw[Kc rest l1 _ hr]
  ·cases h
set_option maxHeartbeats 2000000 in
theorem QcS {op:Op} {v:Value} {H':Qa} (h:rop P (Ql P op) A H=some (v,H')):VC P op A H v H':=by
 have gen:rop P (.gen op) A H=some (v,H')->VC P op A H v H':=QeI;unfold Ql at h;split at h
 case h_1 x=>simp only[rop,Lt,LB]at h;obtain⟨rfl,rfl⟩:=h;exact⟨_,rfl⟩
 case h_2 x=>simp only[rop,Lt,LB]at h;obtain⟨rfl,rfl⟩:=h;exact⟨_,rfl⟩
 case h_3 c x y=>
  simp only[rop]at h;split at h
  ·rename_i t ht;simp only[Lt,LB]at h;obtain⟨rfl,rfl⟩:=h;exact⟨.pure,by simp only[aop,VW,ht]⟩
  ·cases h
 case h_4 b t x y yt=>
  have bin:rop P (.bin b x y) A H=some (v,H')->VC P (.binOp b t x y yt) A H v H':=λh=>by
   obtain⟨h1,rfl⟩:=Yj h;exact⟨.pure,by simp only[aop,Jc,QeJ h1,Q3]⟩
  split at h
  ·exact bin h
  ·exact bin h
  ·rename_i hu;have beq:∀ne:Bool,(b=bif ne then .neq else .eql)->rop P (.beq ne x y) A H=some (v,H')->VC P (.binOp b t x y yt) A H v H':=λne hb h=>by
    simp only[rop]at h;split at h
    ·rename_i p q hp hq;simp only[Lt,LB]at h;obtain⟨rfl,rfl⟩:=h;refine⟨.pure,?_⟩;have hg:∀k,WO P k t (.bool p) (.bool q)=true:=λk=>by simp[WO,Kn,Qet]
     simp only[aop,Jc,QeD,hp,hq,QaT,X2,hg,Bj,N3,hb];cases ne<;>simp[aeq,hu,Q3]
    ·cases h
   split at h
   ·exact beq false rfl h
   ·exact beq true rfl h
   ·exact gen h
  ·rename_i fs hu;split at h
   ·exact gen h
   ·rename_i hc;simp only[Nw,not_or,Bool.not_eq_true]at hc;split at h
    ·rename_i ks hks;have eqs:∀ne:Bool,(b=bif ne then .neq else .eql)->rop P (.eqs ne ks x y) A H=some (v,H')->VC P (.binOp b t x y yt) A H v H':=λne hb h=>by
      simp only[rop]at h;split at h
      ·rename_i p q hp hq;split at h
       ·rename_i r hr;simp only[Lt,LB]at h;obtain⟨rfl,rfl⟩:=h;refine⟨.pure,?_⟩;have hg:∀k,WO P k t (.agg p) (.agg q)=true:=λk=>by simp[WO,Kn,hc.2]
        have ha:=Kb (f:=18) fs.toList 0 ks p q r hks hr;have ha2:aeq P 20 t (.agg p) (.agg q)=some r:=by
         unfold aeq;rw[hu];simp only[hc.1,LV,LN];exact ha
        simp only[aop,Jc,QeD,hp,hq,QaT,X2,hg,Bj,N3,hb];cases ne<;>simp[ha2,Q3]
       ·cases h
      ·cases h
     split at h
     ·exact eqs false rfl h
     ·exact eqs true rfl h
     ·exact gen h
    ·exact gen h
  ·exact gen h
 case h_5 t x=>
  simp only[rop]at h;split at h
  ·rename_i p hp;simp only[Lt,LB]at h;obtain⟨rfl,rfl⟩:=h;exact⟨.pure,by simp only[aop,Qcj,hp,Vk,Q3]⟩
  ·cases h
 case h_6 src dst x=>
  split at h
  ·rename_i ik k hs hd;simp only[rop]at h;split at h
   ·rename_i k0 m hm;simp only[Lt,LB]at h;obtain⟨rfl,rfl⟩:=h;exact⟨.pure,by simp only[aop,Zr,hs,hd,hm,KA,Q3]⟩
   ·cases h
  ·exact gen h
 case h_7 t x=>
  split at h
  ·exact gen h
  ·rename_i td hni hu;simp only[rop,Lt,LB]at h;obtain⟨rfl,rfl⟩:=h;refine⟨.pure,?_⟩;simp only[aop,Wz,hu]
  ·exact gen h
 case h_8 t x f=>
  split at h
  ·rename_i fs hu;split at h
   ·rename_i fd hf;split at h
    ·rename_i td inf hd hi;simp only[rop]at h;split at h
     ·rename_i cs hcs;obtain⟨h1,rfl⟩:=Yj h;refine⟨.pure,?_⟩;simp only[aop,KD,hu,hcs,hf,Ya,hd,hi];cases hag:XA td<;>rw[hag]at h1<;>simp only[Lq,Ls]at h1<;>simp[h1,Q3]
     ·cases h
    ·exact gen h
   ·exact gen h
  ·exact gen h
 case h_9 t x f=>
  split at h
  ·rename_i fs hu;split at h
   ·rename_i fd hf;split at h
    ·rename_i inf hi;split at h
     ·exact gen h
     ·rename_i hz;simp only[rop]at h;split at h
      ·rename_i a ha;simp only[Lt,LB]at h;obtain⟨rfl,rfl⟩:=h;refine⟨.pure,?_⟩;have:Nat.beq inf.size 0=false:=by simp[QV,hz]
       simp only[aop,WJ,hu,ha,hf,hi,this,Ls]
      ·cases h
    ·exact gen h
   ·exact gen h
  ·exact gen h
 case h_10 t x ix=>
  split at h
  ·rename_i e hu;split at h
   ·rename_i inf hi;simp only[rop]at h;split at h
    ·rename_i ik m a len cap hm ha;split at h
     ·rename_i hc;simp only[Lt,LB]at h;obtain⟨rfl,rfl⟩:=h;exact⟨.pure,by simp only[aop,WK,hm,hu,ha,hi,hc,RU,N3]⟩
     ·cases h
    ·cases h
   ·exact gen h
  ·exact gen h
 case h_11 t x ix=>
  split at h
  ·rename_i hu;simp only[rop]at h;split at h
   ·rename_i ik m s hm hs;split at h
    ·rename_i h0;split at h
     ·rename_i b hb;simp only[Lt,LB]at h;obtain⟨rfl,rfl⟩:=h;exact⟨.pure,by simp only[aop,KE,hm,hu,hs,h0,N3,hb]⟩
     ·cases h
    ·cases h
   ·cases h
  ·exact gen h
 case h_12 x i=>
  simp only[rop]at h;split at h
  ·rename_i vs hv;obtain⟨h1,rfl⟩:=Yj h;exact⟨.pure,by simp only[aop,Zs,hv,h1,Q3]⟩
  ·cases h
 case h_13 x xt t ok=>
  split at h
  ·rename_i td inf hu hi;split at h
   ·rename_i z hz;split at h
    ·rename_i hcl;split at h
     ·exact gen h
     ·rename_i hni;simp only[rop]at h;refine⟨.pure,?_⟩;simp only[aop,Yx,KC,hu,hi,hz,hcl,N3];split at h
      ·rename_i hx;cases ok with
       | true=>
        simp only[Lq,Lt,LB]at h;obtain⟨rfl,rfl⟩:=h;simp only[hx];cases td<;>first | rfl | exact absurd rfl (hni _)
       | false=>cases h
      ·rename_i u w hx;simp only[hx];split at h
       ·rename_i e;simp only[Lt,LB]at h;obtain⟨rfl,rfl⟩:=h;cases td<;>first | exact absurd rfl (hni _) | (cases ok<;>simp[e,Q3])
       ·rename_i e;cases ok with
        | true=>
         simp only[Lq,Lt,LB]at h;obtain⟨rfl,rfl⟩:=h;cases td<;>first | exact absurd rfl (hni _) | simp[e,Q3]
        | false=>cases h
      ·cases h
    ·exact gen h
   ·exact gen h
  ·exact gen h
 case h_14 t parts=>
  split at h
  ·rename_i fs inf hu hi;split at h
   ·rename_i z pl hz hpl;split at h
    ·rename_i hp;split at h
     ·rename_i l hl;simp only[rop]at h;split at h
      ·rename_i r hr;simp only[Lt,LB]at h;obtain⟨rfl,rfl⟩:=h;have:=Kc (A:=A) parts.toList l z.cells.toList hl;rw[hr]at this;exact⟨.pure,by simp only[aop,KF,hu,hi,hz,hpl,hp,Lq,QU,this,Dh,Q3]⟩
      ·cases h
     ·exact gen h
    ·exact gen h
   ·exact gen h
  ·exact gen h
 case h_15 t len parts=>
  split at h
  ·rename_i e hu;split at h
   ·rename_i inf hi;split at h
    ·rename_i z hz;split at h
     ·rename_i hc;simp only[rop]at h;split at h
      ·rename_i r hr;simp only[Lt,LB]at h;obtain⟨rfl,rfl⟩:=h;exact⟨.alloc _,by simp only[aop,Xr,hu,hi,hz,hc,Lq,QU,hr];rfl⟩
      ·cases h
     ·exact gen h
    ·exact gen h
   ·exact gen h
  ·exact gen h
 case h_16 e=>
  split at h
  ·rename_i inf hi;split at h
   ·rename_i z hz;split at h
    ·rename_i hp;simp only[rop,Lt,LB]at h;obtain⟨rfl,rfl⟩:=h;exact⟨.alloc _,by simp only[aop,KG,hi,hz,hp,Lq];rfl⟩
    ·exact gen h
   ·exact gen h
  ·exact gen h
 case h_17 t x y=>
  split at h
  ·rename_i e hu;split at h
   ·rename_i inf hi;split at h
    ·rename_i z hz;split at h
     ·rename_i hel;simp only[rop]at h;split at h
      ·rename_i l c hl hc;split at h
       ·rename_i hcond;simp only[Lt,LB]at h;obtain⟨rfl,rfl⟩:=h;refine⟨.alloc (.cells (Q0 z.cells (c.toNat * inf.size)) e false),?_⟩;simp only[aop,XS,hu,hl,hc,hi,hz];rw[Lc ⟨hel,hcond⟩]
       ·cases h
      ·cases h
     ·exact gen h
    ·exact gen h
   ·exact gen h
  ·exact gen h
 case h_18 t x lo hi=>
  split at h
  ·rename_i e hu;split at h
   ·rename_i inf hin;simp only[rop]at h;split at h
    ·rename_i l hh hl hhi;obtain⟨h1,rfl⟩:=Yj h;have e1:Qz A lo=some l:=by rw[<- hl];cases lo<;>rfl
     have e2:Qz A hi=some hh:=by rw[<- hhi];cases hi<;>rfl
     have e3:Qz A none=some none:=rfl;exact⟨.pure,by simp only[aop,KH,hu,hin,e1,e2,e3,RV,N1,N3,h1,Q3]⟩
    ·cases h
   ·exact gen h
  ·exact gen h
 case h_19 t x=>
  split at h
  ·rename_i d inf hu hi;simp only[rop]at h;split at h
   ·rename_i a ha;split at h
    ·rename_i c e ro hg;cases hag:XA d with
     | true=>
      rw[hag]at h;simp only[Lq]at h;split at h
      ·rename_i hle;simp only[Lt,LB]at h;obtain⟨rfl,rfl⟩:=h;exact⟨.load,by simp only[aop,Ga,ha,QZ,hu,hi,hg,hag,N3,hle]⟩
      ·cases h
     | false=>
      rw[hag]at h;obtain⟨h1,rfl⟩:=Yj h;exact⟨.load,by simp only[aop,Ga,ha,QZ,hu,hi,hg,hag,LV,LN,h1]⟩
    ·cases h
   ·cases h
  ·exact gen h
 case h_20 t x y=>
  split at h
  ·rename_i inf hi;simp only[rop]at h;split at h
   ·rename_i a ha;split at h
    ·rename_i c e hg;split at h
     ·rename_i hc;simp only[Lt,LB]at h;obtain⟨rfl,rfl⟩:=h;refine⟨.gen,?_⟩;simp only[aop,Jd,ha,ZM,hi,hg];rw[Lc hc]
     ·cases h
    ·cases h
   ·cases h
  ·exact gen h
 case h_21 args ts=>
  split at h
  ·rename_i x t ha ht;split at h
   ·rename_i e hu;simp only[rop]at h;split at h
    ·rename_i q m c hx;simp only[Lt,LB]at h;obtain⟨rfl,rfl⟩:=h;exact⟨.pure,by simp only[aop,ZU,ha,ht,QfT,hu,hx]⟩
    ·cases h
   ·rename_i hu;simp only[rop]at h;split at h
    ·rename_i s hx;simp only[Lt,LB]at h;obtain⟨rfl,rfl⟩:=h;exact⟨.pure,by simp only[aop,ZU,ha,ht,QfT,hu,hx]⟩
    ·cases h
   ·exact gen h
  ·exact gen h
 case h_22 args ts=>
  split at h
  ·rename_i x y t t2 ha ht;split at h
   ·rename_i e td hu hu2;split at h
    ·rename_i inf hi;split at h
     ·rename_i z hz;split at h
      ·rename_i hc;simp only[rop]at h;refine⟨.gen,?_⟩;simp only[aop,ZU,ha,ht,hu,hu2,hi,hz,hc,Lq,QcR,h,Dh]
      ·exact gen h
     ·exact gen h
    ·exact gen h
   ·exact gen h
  ·exact gen h
 case h_23=>cases h
 case h_24=>cases h
 case h_25 e x=>simp only[rop,Lt,LB]at h;obtain⟨rfl,rfl⟩:=h;exact⟨.alloc _,rfl⟩
 case h_26=>exact gen h
end
end Go.Ab
