/- The interpreter: operations, code, functions; what it gives is so. -/
import Derived.Test.YtgepgbbjfhggfaaGreatDoorAbB
import Derived.Test.YtgepgbbjfhggfaaGreatDoorAbA
import Derived.ProofKit
import Derived.OpenShut
set_option linter.unusedVariables false
set_option linter.unusedSimpArgs false
noncomputable section
namespace Go.Ab
abbrev CallF:=FuncId->List Value->Qa->Option (Value×Qa)
structure Xb where
 fn:CallF
 yd:CallF
def Jk (H:Qa):Option Value->Option (Cls×Value×Qa)
 | some v=>some (.pure,v,H)
 | none=>none
def Qvm (P:Program)(k:Bool)(op:BinOp)(t:TypeId)(x y:Value):Option Value:=
 match x,y with
 | .int ik a,.int ik' b=>match op with
  | .shl | .shr=>QcY op ik a b
  | _=>if ik=ik' then Jj op ik a b else none
 | .string a,.string b=>QmB op (bl a) (bl b)
 | x,y=>Qqn P k op t x y
def Qvn (P:Program)(call:Xb)(A:Env)(H:Qa)(c x y:Operand):Option (Cls×Value×Qa):=
 match ev A c with
  | .bool t=>some (.pure,bif t then ev A x else ev A y,H)
  | _=>none
def Qen (P:Program)(call:Xb)(A:Env)(H:Qa)(x:Operand):Option (Cls×Value×Qa):=
 bif QhL (ev A x) then some (.pure,ev A x,H) else none
def Qfk (P:Program)(call:Xb)(A:Env)(H:Qa)(op:BinOp)(t:TypeId)(x y:Operand):Option (Cls×Value×Qa):=
 Jk H (Qvm P (Qj3 x||Qj3 y) op t (ev A x) (ev A y))
def Qvo (P:Program)(call:Xb)(A:Env)(H:Qa)(op:UnOp)(x:Operand):Option (Cls×Value×Qa):=
 Jk H (QrQ op (ev A x))
def QgB (P:Program)(call:Xb)(A:Env)(H:Qa)(src q:TypeId)(x:Operand):Option (Cls×Value×Qa):=
 match P.underlying src,P.underlying q,ev A x with
  | some _,some (.slice e),.string s=>match P.underlying e,P.info? e with
   | some (.int .u8),some inf=>match inf.zero with
    | some z=>bif QhM P e inf z&&Nat.beq inf.size 1&&Nat.ble (bl s).length 140737488355328 then
      some (.alloc (.cells (Je s) e false),.slice (some ⟨H.next,0,none⟩) (bl s).length (UNK+1),H.push (.cells (Je s) e false)) else none
    | none=>none
   | _,_=>none
  | some (.slice e),some .string,.slice a m c=>match P.underlying e,Qcz 1 (.slice a m c) H with
   | some (.int .u8),some l=>match QhS l with
    | some bs=>some (.gen,.string (mkS bs),H)
    | none=>none
   | _,_=>none
  | _,_,_=>Jk H (Qry P src q (ev A x))
def VM (P:Program)(call:Xb)(A:Env)(H:Qa)(t:TypeId)(x:Operand):Option (Cls×Value×Qa):=
 match P.underlying t with
  | some (.interface _)=>none
  | some _=>some (.pure,.iface t (ev A x),H)
  | none=>none
def QmH (P:Program)(call:Xb)(A:Env)(H:Qa)(fn:Fn)(first q:Array Operand):Option (Cls×Value×Qa):=
 bif Qd2 fn then some (.pure,.func fn (first.map (ev A)) (q.map (ev A)),H) else none
def QrA (P:Program)(call:Xb)(A:Env)(H:Qa)(t:TypeId)(x:Operand)(f:Nat):Option (Cls×Value×Qa):=
 match P.underlying t,ev A x with
  | some (.struct fs),.agg cs=>match fs[f]? with
   | some fd=>Jk H (QcZ P fd.type cs fd.offset)
   | none=>none
  | _,_=>none
def V2 (P:Program)(call:Xb)(A:Env)(H:Qa)(t:TypeId)(x:Operand)(f:Nat):Option (Cls×Value×Qa):=
 match P.underlying t,ev A x with
  | some (.struct fs),.pointer (some a)=>match fs[f]? with
   | some fd=>match P.info? fd.type with
    | some q=>bif Nat.beq q.size 0 then none else some (.pure,.pointer (some ⟨a.block,a.off+fd.offset,none⟩),H)
    | none=>none
   | none=>none
  | _,_=>none
def V3 (P:Program)(call:Xb)(A:Env)(H:Qa)(t:TypeId)(x aa:Operand):Option (Cls×Value×Qa):=
 match ev A aa with
  | .int _ m=>match P.underlying t,ev A x with
   | some (.slice e),.slice (some a) len _=>match P.info? e with
    | some q=>if 0<=m∧m<len then some (.pure,.pointer (some ⟨a.block,a.off+m.toNat * q.size,none⟩),H) else none
    | none=>none
   | some (.array len e),.pointer (some a)=>match P.info? e with
    | some q=>if 0<=m∧m<len then some (.pure,.pointer (some ⟨a.block,a.off+m.toNat * q.size,none⟩),H) else none
    | none=>none
   | _,_=>none
  | _=>none
def QrB (P:Program)(call:Xb)(A:Env)(H:Qa)(t:TypeId)(x aa:Operand):Option (Cls×Value×Qa):=
 match ev A aa with
  | .int _ m=>match P.underlying t,ev A x with
   | some .string,.string s=>if 0<=m then(match (bl s)[m.toNat]? with | some b=>some (.pure,.int .u8 b.toNat,H) | none=>none) else none
   | some (.array len e),.agg cs=>match P.info? e with
    | some q=>if 0<=m∧m<len then Jk H (QcZ P e cs (m.toNat * q.size)) else none
    | none=>none
   | _,_=>none
  | _=>none
def Qlr (P:Program)(call:Xb)(A:Env)(H:Qa)(x:Operand)(q:Nat):Option (Cls×Value×Qa):=
 match ev A x with
  | .tuple aa=>Jk H aa[q]?
  | _=>none
def QrC (P:Program)(call:Xb)(A:Env)(H:Qa)(t:TypeId)(q:Array (Nat×Operand)):Option (Cls×Value×Qa):=
 match P.underlying t,P.info? t with
  | some (.struct fs),some inf=>match inf.zero,QnH P fs with
   | some z,some pl=>bif z.cells.toList.all plain then Jk H ((Qfh (pl[·]?) z.cells.toList (Jd A q)).map λr=>.agg r.toArray) else none
   | _,_=>none
  | some (.array _ e),some inf=>match inf.zero,P.info? e with
   | some z,some inf'=>bif z.cells.toList.all plain then Jk H ((Qfh (λi=>some (i * inf'.size,inf'.size)) z.cells.toList (Jd A q)).map λr=>.agg r.toArray) else none
   | _,_=>none
  | _,_=>none
def Qd4 (P:Program)(call:Xb)(A:Env)(H:Qa)(t:TypeId)(len:Nat)(aa:Array (Nat×Operand)):Option (Cls×Value×Qa):=
 match P.underlying t with
  | some (.slice e)=>match P.info? e with
   | some q=>match q.zero with
    | some z=>bif z.cells.toList.all plain&&Nat.blt 0 z.cells.size&&Nat.ble len 16777216&&Nat.ble (len * q.size) 16777216 then
      match Qfh (λi=>some (i * q.size,q.size)) (YM z.cells (len * q.size)) (Jd A aa) with
      | some r=>some (.alloc (.cells r e false),.slice (some ⟨H.next,0,none⟩) len len,H.push (.cells r e false))
      | none=>none
     else none
    | none=>none
   | none=>none
  | _=>none
def QrD (P:Program)(call:Xb)(A:Env)(H:Qa)(e:TypeId):Option (Cls×Value×Qa):=
 match P.info? e with
  | some q=>match q.zero with
   | some z=>bif z.cells.toList.all plain then some (.alloc (.cells z.cells.toList e false),.pointer (some ⟨H.next,0,none⟩),H.push (.cells z.cells.toList e false)) else none
   | none=>none
  | none=>none
def QC7 (P:Program)(call:Xb)(A:Env)(H:Qa)(e:TypeId)(x:Operand):Option (Cls×Value×Qa):=
 some (.alloc (.cells (ev A x).cells.toList e false),.pointer (some ⟨H.next,0,none⟩),H.push (.cells (ev A x).cells.toList e false))
def Qfl (P:Program)(call:Xb)(A:Env)(H:Qa)(t:TypeId)(x y:Operand):Option (Cls×Value×Qa):=
 match P.underlying t,ev A x,ev A y with
  | some (.slice e),.int .i64 l,.int .i64 c=>match P.info? e with
   | some q=>match q.zero with
    | some z=>if QhM P e q z=true∧0<=l∧l<=c∧(q.bytes:Int) * c<=281474976710656∧c<=9223372036854775807 then
      some (.alloc (.cells (YM z.cells (c.toNat * q.size)) e false),.slice (some ⟨H.next,0,none⟩) l.toNat c.toNat,H.push (.cells (YM z.cells (c.toNat * q.size)) e false))
     else none
    | none=>none
   | none=>none
  | _,_,_=>none
def QnJ (P:Program)(call:Xb)(A:Env)(H:Qa)(t:TypeId)(x:Operand)(q hi mx:Option Operand):Option (Cls×Value×Qa):=
 match P.underlying t with
  | some .string=>match ev A x,mx,XD A q,XD A hi with
   | .string s,none,some l,some h=>if 0<=l.getD 0∧l.getD 0<=h.getD (bl s).length∧h.getD (bl s).length<=(bl s).length then some (.pure,.string (mkS (((bl s).drop (l.getD 0).toNat).take ((h.getD (bl s).length).toNat - (l.getD 0).toNat))),H) else none
   | _,_,_,_=>none
  | some (.slice e)=>match P.info? e,XD A q,XD A hi,XD A mx with
   | some inf,some l,some h,some m=>if m.isNone||h.isSome then Jk H (QaC inf.size (ev A x) l h m) else none
   | _,_,_,_=>none
  | _=>none
def Qr5 (P:Program)(call:Xb)(A:Env)(H:Qa)(t:TypeId)(x:Operand):Option (Cls×Value×Qa):=
 match ev A x with
  | .pointer (some a)=>match ZD P t a H with
   | some v=>some (.load,v,H)
   | none=>none
  | _=>none
def QnK (P:Program)(call:Xb)(A:Env)(H:Qa)(t:TypeId)(x y:Operand):Option (Cls×Value×Qa):=
 match ev A x with
  | .pointer (some a)=>match QmA P t a (ev A y) H with
   | some H'=>some (.gen,undef,H')
   | none=>none
  | _=>none
def QhT (P:Program)(call:Xb)(A:Env)(H:Qa)(c:Call):Option (Cls×Value×Qa):=
 match c with
  | ⟨.builtin b,args,ts⟩=>match b,args.toList,ts.toList with
   | .len,[x],[t]=>match QCU P t (ev A x) with | some m=>some (.pure,.int .i64 (m:Int),H) | none=>none
   | .cap,[x],[t]=>match P.underlying t,ev A x with
    | some (.slice _),.slice _ _ c=>bif Nat.blt c UNK then some (.pure,.int .i64 c,H) else none
    | _,_=>none
   | .max,[x,y],_=>match ev A x,ev A y with
    | .int k a,.int k' b=>if k=k' then some (.pure,.int k (if b>a then b else a),H) else none
    | _,_=>none
   | .min,[x,y],_=>match ev A x,ev A y with
    | .int k a,.int k' b=>if k=k' then some (.pure,.int k (if b<a then b else a),H) else none
    | _,_=>none
   | .append,[x,y],[t,t2]=>match P.underlying t,P.underlying t2 with
    | some (.slice e),some td=>match P.info? e with
     | some q=>match q.zero with
      | some z=>bif Qj2 td&&QhM P e q z then(Qlq e q (ev A x) (ev A y) H).map λr=>(.gen,r.1,r.2) else none
      | none=>none
     | none=>none
    | _,_=>none
   | .copy,[x,y],[t,_]=>match P.underlying t with
    | some (.slice e)=>match P.info? e with
     | some q=>(Qqt q.size (ev A x) (ev A y) H).map λr=>(.gen,r.1,r.2)
     | none=>none
    | _=>none
   | _,_,_=>none
  | ⟨.invoke recv name,args,ts⟩=>match ev A recv with
   | .iface t v=>match QnI P t name with
    | some f=>(call.fn f (v::(args.map (ev A)).toList) H).map λr=>(.gen,r.1,r.2)
    | none=>none
   | _=>none
  | ⟨.value (.func f),args,ts⟩=>(call.fn f (args.map (ev A)).toList H).map λr=>(.gen,r.1,r.2)
  | ⟨.value c,args,ts⟩=>match ev A c with
   | .func (.func f) xs ys=>(call.fn f (xs.toList++(args.map (ev A)).toList++ys.toList) H).map λr=>(.gen,r.1,r.2)
   | .func (.yield l) xs ys=>bif Nat.beq xs.size 0&&Nat.beq ys.size 0 then(call.yd l (args.map (ev A)).toList H).map λr=>(.gen,r.1,r.2) else none
   | _=>none
def QnL (P:Program)(call:Xb)(A:Env)(H:Qa)(t:TypeId)(x q:Operand)(ok:Bool):Option (Cls×Value×Qa):=
 match P.underlying t with
 | some (.map k e)=>(QAJ P k e (ev A x) (ev A q) ok H).map λv=>(.gen,v,H)
 | _=>none
def Qr6 (P:Program)(call:Xb)(A:Env)(H:Qa)(t:TypeId)(m k x:Operand):Option (Cls×Value×Qa):=
 match P.underlying t with
 | some (.map kt _)=>(Qw5 P kt (ev A m) (ev A k) (ev A x) H).map λH'=>(.gen,undef,H')
 | _=>none
def Qvp (P:Program)(call:Xb)(A:Env)(H:Qa)(t:TypeId)(x:Operand):Option (Cls×Value×Qa):=
 match P.underlying t,ev A x with
 | some .string,.string s=>some (.alloc (.iter s 0),.pointer (some ⟨H.next,0,none⟩),H.push (.iter s 0))
 | _,_=>none
def aop (P:Program)(call:Xb)(o:Oper)(A:Env)(H:Qa):Option (Cls×Value×Qa):=
 match o.op with
 | .move x=>some (.pure,ev A x,H)
 | .assign x=>some (.pure,ev A x,H)
 | .pick c x y=>Qvn P call A H c x y
 | .nilCheck x=>Qen P call A H x
 | .binOp op t x y _=>Qfk P call A H op t x y
 | .unOp op _ x=>Qvo P call A H op x
 | .convert src ac x=>QgB P call A H src ac x
 | .makeInterface t x=>VM P call A H t x
 | .makeFunc fn first ab=>QmH P call A H fn first ab
 | .field t x f=>QrA P call A H t x f
 | .fieldAddr t x f=>V2 P call A H t x f
 | .indexAddr t x q=>V3 P call A H t x q
 | .index t x q=>QrB P call A H t x q
 | .extract x q=>Qlr P call A H x q
 | .build t aa=>QrC P call A H t aa
 | .buildSlice t len aa=>Qd4 P call A H t len aa
 | .alloc e=>QrD P call A H e
 | .box e x=>QC7 P call A H e x
 | .makeSlice t x y=>Qfl P call A H t x y
 | .slice t x ad hi mx=>QnJ P call A H t x ad hi mx
 | .load t x=>Qr5 P call A H t x
 | .store t x y=>QnK P call A H t x y
 | .call c=>QhT P call A H c
 | .makeMap _ none=>some (.alloc (.map []),.map (some H.next),H.push (.map []))
 | .lookup t x q ok=>QnL P call A H t x q ok
 | .mapUpdate t m k x=>Qr6 P call A H t m k x
 | .insert t m k x=>Qr6 P call A H t m k x
 | .range t x=>Qvp P call A H t x
 | .next it true=>(QAL H (ev A it)).map λr=>(.gen,r.1,r.2)
 | _=>none
section
variable {P:Program} {n:Nat} {A:Env} {H:Qa}
def Qqu (P:Program)(o:Oper)(A:Env)(H:Qa)(v:Value)(H':Qa):Cls->Prop
 | .pure=>H'=H∧∀h,QD P o A h v h
 | .load=>H'=H∧∃t x a,o.op=.load t x∧ev A x=.pointer (some a)∧ZD P t a H=some v
 | .alloc b=>H'=H.push b∧∀h,h.next=H.next->QD P o A h v (h.push b)
 | .gen=>QD P o A H v H'
theorem Qqu.does {o:Oper}{v:Value}{H':Qa}{c:Cls}(h:Qqu P o A H v H' c):QD P o A H v H':=by
 cases c with
 | pure=>obtain⟨rfl,h⟩:=h;exact h _
 | load=>
  obtain⟨rfl,t,x,a,q,aa,ab⟩:=h;obtain⟨ac,op,ty,pos,af,g⟩:=o;simp only at q;subst q;exact QEK aa ab
 | alloc b=>obtain⟨rfl,h⟩:=h;exact h _ rfl
 | gen=>exact h
def CallOk (P:Program)(call:CallF):Prop:=∀f args H v H',call f args H=some (v,H')->GR P f args H v H'
structure QhU (P:Program) (call:Xb):Prop where
 fn:CallOk P call.fn
 yd:∀l args H v H',call.yd l args H=some (v,H')->Quv P l args H v H'
theorem ZT {r:Option Value}{c:Cls}{v:Value}{H':Qa}(h:Jk H r=some (c,v,H')):r=some v∧c=.pure∧H'=H:=by
 cases r with
 | none=>simp[Jk]at h
 | some u=>simp[Jk]at h;obtain⟨rfl,rfl,rfl⟩:=h;exact⟨rfl,rfl,rfl⟩
theorem QBL {op:BinOp}{t ab:TypeId}{x y:Operand}{v:Value}{d:Option Nat}{ty:TypeId}{pos:String}{af:Array Edge}{g:Option (Nat×Bool)}(h:Qvm P (Qj3 x||Qj3 y) op t (ev A x) (ev A y)=some v):QD P ⟨d,.binOp op t x y ab,ty,pos,af,g⟩ A H v H:=by
 unfold Qvm at h;split at h
 ·rename_i k a ae b q aa;split at h
  ·exact QwU q aa h
  ·exact QwU q aa h
  ·split at h
   ·rename_i e;subst e;exact QG2 q aa h
   ·cases h
 ·rename_i a b q aa;exact QG3 q aa h
 ·rename_i ac ad;exact QID h
set_option maxHeartbeats 2000000 in
theorem Qps {call:Xb}(aq:QhU P call){o:Oper}{c:Cls}{v:Value}{H':Qa}(h:aop P call o A H=some (c,v,H')):Qqu P o A H v H' c:=by
 obtain⟨aJ,op,ty,pos,af,g⟩:=o;unfold aop at h;split at h
 case h_1 x hop=>simp only at hop;subst hop;simp only[Lt,LB]at h;obtain⟨rfl,rfl,rfl⟩:=h;exact⟨rfl,λh=>QEH⟩
 case h_2 x hop=>simp only at hop;subst hop;simp only[Lt,LB]at h;obtain⟨rfl,rfl,rfl⟩:=h;exact⟨rfl,λh=>QBA⟩
 case h_3 aF x y hop=>
  simp only at hop;subst hop;unfold Qvn at h;split at h
  ·rename_i t aj;simp only[Lt,LB]at h;obtain⟨rfl,rfl,rfl⟩:=h;refine⟨rfl,λh=>?_⟩;have:=QEI (P:=P) (H:=h) (d:=aJ) (ty:=ty) (pos:=pos) (af:=af) (g:=g) (x:=x) (y:=y) aj;cases t<;>exact this
  ·cases h
 case h_4 x hop=>
  simp only at hop;subst hop;unfold Qen at h;cases ad:QhL (ev A x) with
  | false=>rw[ad]at h;cases h
  | true=>
   rw[ad]at h;simp only[Lq,Lt,LB]at h;obtain⟨rfl,rfl,rfl⟩:=h;exact⟨rfl,λh=>QwT ad⟩
 case h_5 bop t x y t' hop=>
  simp only at hop;subst hop;unfold Qfk at h;obtain⟨ae,rfl,rfl⟩:=ZT h;exact⟨rfl,λh=>QBL ae⟩
 case h_6 uop t x hop=>
  simp only at hop;subst hop;unfold Qvo at h;obtain⟨ae,rfl,rfl⟩:=ZT h;exact⟨rfl,λh=>QIC ae⟩
 case h_7 src d' x hop=>
  simp only at hop;subst hop;unfold QgB at h;split at h
  ·rename_i u e s aD aA ab;split at h
   ·rename_i ah az hi;split at h
    ·rename_i z ag;cases q:(QhM P e ah z&&Nat.beq ah.size 1&&Nat.ble (bl s).length 140737488355328) with
     | false=>rw[q]at h;cases h
     | true=>
      rw[q]at h;simp only[Lq,Lt,LB]at h;obtain⟨rfl,rfl,rfl⟩:=h;simp only[Lm,Kk,Lv,BL]at q;refine⟨rfl,λh ad=>?_⟩;rw[<- ad];exact QyY aD aA az (Qcw.mk' hi ag q.1.1) q.1.2 ab q.2
    ·cases h
   ·cases h
  ·rename_i e a m aG aD aA ab;split at h
   ·rename_i l az am;split at h
    ·rename_i bs hb;simp only[Lt,LB]at h;obtain⟨rfl,rfl,rfl⟩:=h;exact QC3 aD az aA (by rw[ab];exact am) hb
    ·cases h
   ·cases h
  ·obtain⟨ae,rfl,rfl⟩:=ZT h;exact⟨rfl,λh=>QEJ ae⟩
 case h_8 t x hop=>
  simp only at hop;subst hop;unfold VM at h;split at h
  ·cases h
  ·rename_i aE aO aR;simp only[Lt,LB]at h;obtain⟨rfl,rfl,rfl⟩:=h;refine⟨rfl,λh=>Qpk aR ?_⟩;cases aE<;>first | rfl | exact absurd rfl (aO _)
  ·cases h
 case h_9 fn first captured hop=>
  simp only at hop;subst hop;unfold QmH at h;cases ad:Qd2 fn with
  | false=>rw[ad]at h;cases h
  | true=>
   rw[ad]at h;simp only[Lq,Lt,LB]at h;obtain⟨rfl,rfl,rfl⟩:=h;exact⟨rfl,λh=>QwV ad⟩
 case h_10 t x f hop=>
  simp only at hop;subst hop;unfold QrA at h;split at h
  ·rename_i aH cs aa ab;split at h
   ·rename_i fd aB;obtain⟨ae,rfl,rfl⟩:=ZT h;exact⟨rfl,λh=>QCR aa aB ab ae⟩
   ·cases h
  ·cases h
 case h_11 t x f hop=>
  simp only at hop;subst hop;unfold V2 at h;split at h
  ·rename_i aH a aa ab;split at h
   ·rename_i fd aB;split at h
    ·rename_i ah hi;cases ag:Nat.beq ah.size 0 with
     | true=>rw[ag]at h;cases h
     | false=>
      rw[ag]at h;simp only[Ls,Lt,LB]at h;obtain⟨rfl,rfl,rfl⟩:=h;exact⟨rfl,λh=>Qvh aa aB hi ag ab⟩
    ·cases h
   ·cases h
  ·cases h
 case h_12 t x ix hop=>
  simp only at hop;subst hop;unfold V3 at h;split at h
  ·rename_i k m ak;split at h
   ·rename_i e a len cap aa ab;split at h
    ·rename_i ah hi;split at h
     ·rename_i q;simp only[Lt,LB]at h;obtain⟨rfl,rfl,rfl⟩:=h;exact⟨rfl,λh=>QmC aa hi ab ak q.1 q.2⟩
     ·cases h
    ·cases h
   ·rename_i len e a aa ab;split at h
    ·rename_i ah hi;split at h
     ·rename_i q;simp only[Lt,LB]at h;obtain⟨rfl,rfl,rfl⟩:=h;exact⟨rfl,λh=>QmD aa hi ab ak q.1 q.2⟩
     ·cases h
    ·cases h
   ·cases h
  ·cases h
 case h_13 t x ix hop=>
  simp only at hop;subst hop;unfold QrB at h;split at h
  ·rename_i k m ak;split at h
   ·rename_i s aa ab;split at h
    ·rename_i aM;split at h
     ·rename_i b hb;simp only[Lt,LB]at h;obtain⟨rfl,rfl,rfl⟩:=h;exact⟨rfl,λh=>Qq4 aa ab ak aM hb⟩
     ·cases h
    ·cases h
   ·rename_i len e cs aa ab;split at h
    ·rename_i ah hi;split at h
     ·rename_i q;obtain⟨ae,rfl,rfl⟩:=ZT h;exact⟨rfl,λh=>QrR aa hi ab ak q.1 q.2 ae⟩
     ·cases h
    ·cases h
   ·cases h
  ·cases h
 case h_14 x ix hop=>
  simp only at hop;subst hop;unfold Qlr at h;split at h
  ·rename_i bb ab;obtain⟨ae,rfl,rfl⟩:=ZT h;exact⟨rfl,λh=>QyR ab ae⟩
  ·cases h
 case h_15 t parts hop=>
  simp only at hop;subst hop;unfold QrC at h;split at h
  ·rename_i aH ah aa hi;split at h
   ·rename_i z aX ag aP;cases q:z.cells.toList.all plain with
    | false=>rw[q]at h;cases h
    | true=>
     rw[q]at h;obtain⟨ae,rfl,rfl⟩:=ZT h;simp only[Lx]at ae;obtain⟨r,ac,rfl⟩:=ae;exact⟨rfl,λh=>Qq5 aa hi ag q aP ac⟩
   ·cases h
  ·rename_i len e ah aa hi;split at h
   ·rename_i z aV ag aC;cases q:z.cells.toList.all plain with
    | false=>rw[q]at h;cases h
    | true=>
     rw[q]at h;obtain⟨ae,rfl,rfl⟩:=ZT h;simp only[Lx]at ae;obtain⟨r,ac,rfl⟩:=ae;exact⟨rfl,λh=>QrT aa hi ag q aC ac⟩
   ·cases h
  ·cases h
 case h_16 t len parts hop=>
  simp only at hop;subst hop;unfold Qd4 at h;split at h
  ·rename_i e aa;split at h
   ·rename_i ah hi;split at h
    ·rename_i z ag;cases q:(z.cells.toList.all plain&&Nat.blt 0 z.cells.size&&Nat.ble len 16777216&&Nat.ble (len * ah.size) 16777216) with
     | false=>rw[q]at h;cases h
     | true=>
      rw[q]at h;simp only[Lq]at h;simp only[Lm]at q;obtain⟨⟨⟨ar,au⟩,av⟩,aw⟩:=q;split at h
      ·rename_i r ac;simp only[Lt,LB]at h;obtain⟨rfl,rfl,rfl⟩:=h;refine⟨rfl,λh ad=>?_⟩;rw[<- ad];exact Qtz aa hi ag ar au av aw ac
      ·cases h
    ·cases h
   ·cases h
  ·cases h
 case h_17 e hop=>
  simp only at hop;subst hop;unfold QrD at h;split at h
  ·rename_i ah hi;split at h
   ·rename_i z ag;cases q:z.cells.toList.all plain with
    | false=>rw[q]at h;cases h
    | true=>
     rw[q]at h;simp only[Lq,Lt,LB]at h;obtain⟨rfl,rfl,rfl⟩:=h;refine⟨rfl,λh ad=>?_⟩;rw[<- ad];exact QCT hi ag q
   ·cases h
  ·cases h
 case h_18 e x hop=>
  simp only at hop;subst hop;unfold QC7 at h;simp only[Lt,LB]at h;obtain⟨rfl,rfl,rfl⟩:=h;refine⟨rfl,λh ad=>?_⟩;rw[<- ad];exact QG4
 case h_19 t x y hop=>
  simp only at hop;subst hop;unfold Qfl at h;split at h
  ·rename_i e l aF aa ab al;split at h
   ·rename_i ah hi;split at h
    ·rename_i z ag;split at h
     ·rename_i q;obtain⟨aI,ar,au,av,aw⟩:=q;simp only[Lt,LB]at h;obtain⟨rfl,rfl,rfl⟩:=h;refine⟨rfl,λh ad=>?_⟩;rw[<- ad];exact Qvi aa (Qcw.mk' hi ag aI) ab al ar au av aw
     ·cases h
    ·cases h
   ·cases h
  ·cases h
 case h_20 t x lo hi mx hop=>
  simp only at hop;subst hop;unfold QnJ at h;split at h
  ·rename_i aa;split at h
   ·rename_i s l aN ab ay ax;split at h
    ·rename_i q;simp only[Lt,LB]at h;obtain⟨rfl,rfl,rfl⟩:=h;exact⟨rfl,λh=>Qq6 aa ab ay ax q.1 q.2.1 q.2.2⟩
    ·cases h
   ·cases h
  ·rename_i e aa;split at h
   ·rename_i ah l aN m aC ay ax aK;split at h
    ·rename_i q;obtain⟨ae,rfl,rfl⟩:=ZT h;refine⟨rfl,λh=>QrU aa aC ay ax aK (λan ad=>?_) ae⟩;subst ad;cases m with
     | none=>exact an rfl
     | some m=>simp at q
    ·cases h
   ·cases h
  ·cases h
 case h_21 t x hop=>
  simp only at hop;subst hop;unfold Qr5 at h;split at h
  ·rename_i a ab;split at h
   ·rename_i aZ am;simp only[Lt,LB]at h;obtain⟨rfl,rfl,rfl⟩:=h;exact⟨rfl,t,x,a,rfl,ab,am⟩
   ·cases h
  ·cases h
 case h_22 t x y hop=>
  simp only at hop;subst hop;unfold QnK at h;split at h
  ·rename_i a ab;split at h
   ·rename_i H1 am;simp only[Lt,LB]at h;obtain⟨rfl,rfl,rfl⟩:=h;exact QCS ab am
   ·cases h
  ·cases h
 case h_23 aF hop=>
  simp only at hop;subst hop;unfold QhT at h;split at h
  ·rename_i b args ao;obtain⟨args⟩:=args;obtain⟨ao⟩:=ao;simp only at h;split at h
   ·rename_i x t;split at h
    ·rename_i m an;simp only[Lt,LB]at h;obtain⟨rfl,rfl,rfl⟩:=h;exact⟨rfl,λh=>QG5 an⟩
    ·cases h
   ·rename_i x t;split at h
    ·rename_i e a m aG aa ab;cases q:Nat.blt aG UNK with
     | false=>rw[q]at h;cases h
     | true=>
      rw[q]at h;simp only[Lq,Lt,LB]at h;obtain⟨rfl,rfl,rfl⟩:=h;exact⟨rfl,λh=>QG6 aa ab q⟩
    ·cases h
   ·rename_i x y;split at h
    ·rename_i k a aS b' ab al;split at h
     ·rename_i e;subst e;simp only[Lt,LB]at h;obtain⟨rfl,rfl,rfl⟩:=h;exact⟨rfl,λh=>QEL ab al⟩
     ·cases h
    ·cases h
   ·rename_i x y;split at h
    ·rename_i k a aS b' ab al;split at h
     ·rename_i e;subst e;simp only[Lt,LB]at h;obtain⟨rfl,rfl,rfl⟩:=h;exact⟨rfl,λh=>QEM ab al⟩
     ·cases h
    ·cases h
   ·rename_i x y t t2;split at h
    ·rename_i e aE aa aQ;split at h
     ·rename_i ah hi;split at h
      ·rename_i z ag;cases q:(Qj2 aE&&QhM P e ah z) with
       | false=>rw[q]at h;cases h
       | true=>
        rw[q]at h;simp only[Lq,Lx,LB]at h;obtain⟨⟨ai,H1⟩,ac,rfl,rfl,rfl⟩:=h;simp only[Lm]at q;exact QBC aa aQ q.1 (Qcw.mk' hi ag q.2) ac
      ·cases h
     ·cases h
    ·cases h
   ·rename_i x y t t2;split at h
    ·rename_i e aa;split at h
     ·rename_i ah hi;simp only[Lx,LB]at h;obtain⟨⟨ai,H1⟩,ac,rfl,rfl,rfl⟩:=h;exact QEO aa hi ac
     ·cases h
    ·cases h
   ·cases h
  ·rename_i aY aW args ao;split at h
   ·rename_i t ba aL;split at h
    ·rename_i f an;simp only[Lx,LB]at h;obtain⟨⟨ai,H1⟩,ac,rfl,rfl,rfl⟩:=h;exact QBI aL an (aq.fn _ _ _ _ _ ac)
    ·cases h
   ·cases h
  ·rename_i f args ao;simp only[Lx,LB]at h;obtain⟨⟨ai,H1⟩,ac,rfl,rfl,rfl⟩:=h;exact Qrz (aq.fn _ _ _ _ _ ac)
  ·rename_i aU args ao _;split at h
   ·rename_i f xs ys aj;simp only[Lx,LB]at h;obtain⟨⟨ai,H1⟩,ac,rfl,rfl,rfl⟩:=h;exact QwY aj (aq.fn _ _ _ _ _ ac)
   ·rename_i l xs ys aj;cases q:(Nat.beq xs.size 0&&Nat.beq ys.size 0) with
    | false=>rw[q]at h;cases h
    | true=>
     rw[q]at h;simp only[Lm,Kk,Lv,Array.size_eq_zero_iff]at q;obtain⟨rfl,rfl⟩:=q;simp only[Lq,Lx,LB]at h;obtain⟨⟨ai,H1⟩,ac,rfl,rfl,rfl⟩:=h;exact Qw4 aj (aq.yd _ _ _ _ _ ac)
   ·cases h
 case h_24 t hop=>
  simp only at hop;subst hop;simp only[Lt,LB]at h;obtain⟨rfl,rfl,rfl⟩:=h;exact⟨rfl,λh ad=>by rw[<- ad];exact Qy0⟩
 case h_25 t x ix ok hop=>
  simp only at hop;subst hop;unfold QnL at h;split at h
  ·rename_i k e aa;simp only[Lx,LB]at h;obtain⟨ai,ac,rfl,rfl,rfl⟩:=h;exact QBJ aa ac
  ·cases h
 case h_26 t m k x hop=>
  simp only at hop;subst hop;unfold Qr6 at h;split at h
  ·rename_i aT e aa;simp only[Lx,LB]at h;obtain⟨H1,ac,rfl,rfl,rfl⟩:=h;exact Qvl aa ac
  ·cases h
 case h_27 t m k x hop=>
  simp only at hop;subst hop;unfold Qr6 at h;split at h
  ·rename_i aT e aa;simp only[Lx,LB]at h;obtain⟨H1,ac,rfl,rfl,rfl⟩:=h;exact QBK aa ac
  ·cases h
 case h_28 t x hop=>
  simp only at hop;subst hop;unfold Qvp at h;split at h
  ·rename_i s aa ab;simp only[Lt,LB]at h;obtain⟨rfl,rfl,rfl⟩:=h;exact⟨rfl,λh ad=>by rw[<- ad];exact QC6 aa ab⟩
  ·cases h
 case h_29 it hop=>
  simp only at hop;subst hop;simp only[Lx,LB]at h;obtain⟨⟨ai,H1⟩,ac,rfl,rfl,rfl⟩:=h;exact QEN ac
 case h_30=>cases h
end
inductive D where
 | d0 | d1 | d2 | d3 | d4 | d5 | d6 | d7 | d8 | d9 | d10 | d11 | d12 | d13 | d14 | d15
structure N16 (α:Type) where
 mk ::
 a0:α
 a1:α
 a2:α
 a3:α
 a4:α
 a5:α
 a6:α
 a7:α
 a8:α
 a9:α
 a10:α
 a11:α
 a12:α
 a13:α
 a14:α
 a15:α
def D.num:D->Nat
 | .d0=>0
 | .d1=>1
 | .d2=>2
 | .d3=>3
 | .d4=>4
 | .d5=>5
 | .d6=>6
 | .d7=>7
 | .d8=>8
 | .d9=>9
 | .d10=>10
 | .d11=>11
 | .d12=>12
 | .d13=>13
 | .d14=>14
 | .d15=>15
def dig (n:Nat):D:=bif Nat.beq n 0 then .d0 else bif Nat.beq n 1 then .d1 else bif Nat.beq n 2 then .d2 else bif Nat.beq n 3 then .d3 else bif Nat.beq n 4 then .d4 else bif Nat.beq n 5 then .d5 else bif Nat.beq n 6 then .d6 else bif Nat.beq n 7 then .d7 else bif Nat.beq n 8 then .d8 else bif Nat.beq n 9 then .d9 else bif Nat.beq n 10 then .d10 else bif Nat.beq n 11 then .d11 else bif Nat.beq n 12 then .d12 else bif Nat.beq n 13 then .d13 else bif Nat.beq n 14 then .d14 else .d15
theorem QrE {n:Nat}(h:n<16):(dig n).num=n:=by
 have:n=0∨n=1∨n=2∨n=3∨n=4∨n=5∨n=6∨n=7∨n=8∨n=9∨n=10∨n=11∨n=12∨n=13∨n=14∨n=15:=by omega
 rcases this with rfl | rfl | rfl | rfl | rfl | rfl | rfl | rfl | rfl | rfl | rfl | rfl | rfl | rfl | rfl | rfl<;>rfl
theorem QAM {n m:Nat}(aa:n<16)(q:m<16)(h:dig n=dig m):n=m:=by rw[<- QrE aa,<- QrE q,h]
def N16.get {α:Type}(n:N16 α)(d:D):α:=D.rec (motive:=λ_=>N16 α->α) N16.a0 N16.a1 N16.a2 N16.a3 N16.a4 N16.a5 N16.a6 N16.a7 N16.a8 N16.a9 N16.a10 N16.a11 N16.a12 N16.a13 N16.a14 N16.a15 d n
def N16.set0 {α:Type}(v:α)(n:N16 α):N16 α:=N16.rec (motive:=λ_=>N16 α) (λa0 a1 a2 a3 a4 a5 a6 a7 a8 a9 a10 a11 a12 a13 a14 a15=>⟨v,a1,a2,a3,a4,a5,a6,a7,a8,a9,a10,a11,a12,a13,a14,a15⟩) n
def N16.set1 {α:Type}(v:α)(n:N16 α):N16 α:=N16.rec (motive:=λ_=>N16 α) (λa0 a1 a2 a3 a4 a5 a6 a7 a8 a9 a10 a11 a12 a13 a14 a15=>⟨a0,v,a2,a3,a4,a5,a6,a7,a8,a9,a10,a11,a12,a13,a14,a15⟩) n
def N16.set2 {α:Type}(v:α)(n:N16 α):N16 α:=N16.rec (motive:=λ_=>N16 α) (λa0 a1 a2 a3 a4 a5 a6 a7 a8 a9 a10 a11 a12 a13 a14 a15=>⟨a0,a1,v,a3,a4,a5,a6,a7,a8,a9,a10,a11,a12,a13,a14,a15⟩) n
def N16.set3 {α:Type}(v:α)(n:N16 α):N16 α:=N16.rec (motive:=λ_=>N16 α) (λa0 a1 a2 a3 a4 a5 a6 a7 a8 a9 a10 a11 a12 a13 a14 a15=>⟨a0,a1,a2,v,a4,a5,a6,a7,a8,a9,a10,a11,a12,a13,a14,a15⟩) n
def N16.set4 {α:Type}(v:α)(n:N16 α):N16 α:=N16.rec (motive:=λ_=>N16 α) (λa0 a1 a2 a3 a4 a5 a6 a7 a8 a9 a10 a11 a12 a13 a14 a15=>⟨a0,a1,a2,a3,v,a5,a6,a7,a8,a9,a10,a11,a12,a13,a14,a15⟩) n
def N16.set5 {α:Type}(v:α)(n:N16 α):N16 α:=N16.rec (motive:=λ_=>N16 α) (λa0 a1 a2 a3 a4 a5 a6 a7 a8 a9 a10 a11 a12 a13 a14 a15=>⟨a0,a1,a2,a3,a4,v,a6,a7,a8,a9,a10,a11,a12,a13,a14,a15⟩) n
def N16.set6 {α:Type}(v:α)(n:N16 α):N16 α:=N16.rec (motive:=λ_=>N16 α) (λa0 a1 a2 a3 a4 a5 a6 a7 a8 a9 a10 a11 a12 a13 a14 a15=>⟨a0,a1,a2,a3,a4,a5,v,a7,a8,a9,a10,a11,a12,a13,a14,a15⟩) n
def N16.set7 {α:Type}(v:α)(n:N16 α):N16 α:=N16.rec (motive:=λ_=>N16 α) (λa0 a1 a2 a3 a4 a5 a6 a7 a8 a9 a10 a11 a12 a13 a14 a15=>⟨a0,a1,a2,a3,a4,a5,a6,v,a8,a9,a10,a11,a12,a13,a14,a15⟩) n
def N16.set8 {α:Type}(v:α)(n:N16 α):N16 α:=N16.rec (motive:=λ_=>N16 α) (λa0 a1 a2 a3 a4 a5 a6 a7 a8 a9 a10 a11 a12 a13 a14 a15=>⟨a0,a1,a2,a3,a4,a5,a6,a7,v,a9,a10,a11,a12,a13,a14,a15⟩) n
def N16.set9 {α:Type}(v:α)(n:N16 α):N16 α:=N16.rec (motive:=λ_=>N16 α) (λa0 a1 a2 a3 a4 a5 a6 a7 a8 a9 a10 a11 a12 a13 a14 a15=>⟨a0,a1,a2,a3,a4,a5,a6,a7,a8,v,a10,a11,a12,a13,a14,a15⟩) n
def N16.set10 {α:Type}(v:α)(n:N16 α):N16 α:=N16.rec (motive:=λ_=>N16 α) (λa0 a1 a2 a3 a4 a5 a6 a7 a8 a9 a10 a11 a12 a13 a14 a15=>⟨a0,a1,a2,a3,a4,a5,a6,a7,a8,a9,v,a11,a12,a13,a14,a15⟩) n
def N16.set11 {α:Type}(v:α)(n:N16 α):N16 α:=N16.rec (motive:=λ_=>N16 α) (λa0 a1 a2 a3 a4 a5 a6 a7 a8 a9 a10 a11 a12 a13 a14 a15=>⟨a0,a1,a2,a3,a4,a5,a6,a7,a8,a9,a10,v,a12,a13,a14,a15⟩) n
def N16.set12 {α:Type}(v:α)(n:N16 α):N16 α:=N16.rec (motive:=λ_=>N16 α) (λa0 a1 a2 a3 a4 a5 a6 a7 a8 a9 a10 a11 a12 a13 a14 a15=>⟨a0,a1,a2,a3,a4,a5,a6,a7,a8,a9,a10,a11,v,a13,a14,a15⟩) n
def N16.set13 {α:Type}(v:α)(n:N16 α):N16 α:=N16.rec (motive:=λ_=>N16 α) (λa0 a1 a2 a3 a4 a5 a6 a7 a8 a9 a10 a11 a12 a13 a14 a15=>⟨a0,a1,a2,a3,a4,a5,a6,a7,a8,a9,a10,a11,a12,v,a14,a15⟩) n
def N16.set14 {α:Type}(v:α)(n:N16 α):N16 α:=N16.rec (motive:=λ_=>N16 α) (λa0 a1 a2 a3 a4 a5 a6 a7 a8 a9 a10 a11 a12 a13 a14 a15=>⟨a0,a1,a2,a3,a4,a5,a6,a7,a8,a9,a10,a11,a12,a13,v,a15⟩) n
def N16.set15 {α:Type}(v:α)(n:N16 α):N16 α:=N16.rec (motive:=λ_=>N16 α) (λa0 a1 a2 a3 a4 a5 a6 a7 a8 a9 a10 a11 a12 a13 a14 a15=>⟨a0,a1,a2,a3,a4,a5,a6,a7,a8,a9,a10,a11,a12,a13,a14,v⟩) n
def N16.put {α:Type}(n:N16 α)(d:D)(v:α):N16 α:=D.rec (motive:=λ_=>α->N16 α->N16 α) N16.set0 N16.set1 N16.set2 N16.set3 N16.set4 N16.set5 N16.set6 N16.set7 N16.set8 N16.set9 N16.set10 N16.set11 N16.set12 N16.set13 N16.set14 N16.set15 d v n
theorem N16.get_put {α:Type}(n:N16 α)(d q:D)(v:α)[Decidable (q=d)]:(n.put d v).get q=if q=d then v else n.get q:=by
 obtain⟨a0,a1,a2,a3,a4,a5,a6,a7,a8,a9,a10,a11,a12,a13,a14,a15⟩:=n;split
 ·rename_i h;subst h;cases q<;>rfl
 ·rename_i h;cases d<;>cases q<;>first | rfl | exact absurd rfl h
def N16.all {α:Type}(v:α):N16 α:=⟨v,v,v,v,v,v,v,v,v,v,v,v,v,v,v,v⟩
theorem N16.get_all {α:Type}(v:α)(d:D):(N16.all v).get d=v:=by cases d<;>rfl
abbrev E:=N16 (N16 Value)
def Kl (e:E):Env:=λt=>(e.get (dig (Nat.div t 16))).get (dig (Nat.mod t 16))
def QEP (e:E)(d:Nat)(v:Value):E:=e.put (dig (Nat.div d 16)) ((e.get (dig (Nat.div d 16))).put (dig (Nat.mod d 16)) v)
def QBM (e:E)(d:Option Nat)(v:Value):E:=Option.rec (motive:=λ_=>E) e (λd=>QEP e d v) d
def QIF (A B:Env):Prop:=∀t,t<256->A t=B t
open Classical in
theorem Quw (e:E){d t:Nat}(v:Value)(ac:d<256)(ad:t<256):Kl (QEP e d v) t=upd (Kl e) d v t:=by
 have e1:∀x y:Nat,Nat.div x y=x / y:=λ_ _=>rfl;have e2:∀x y:Nat,Nat.mod x y=x % y:=λ_ _=>rfl;simp only[Kl,QEP,upd,Kk,e1,e2];rw[N16.get_put]
 by_cases h:t=d
 ·subst h;rw[Lc rfl,N16.get_put,Lc rfl];simp
 ·simp only[h,NE,Ls]
  by_cases q:dig (t / 16)=dig (d / 16)
  ·rw[Lc q,N16.get_put];have ab:=QAM (by omega) (by omega) q;rw[Le (λaa=>h (by have:=QAM (by omega) (by omega) aa;omega)),q]
  ·rw[Le q]
theorem Qw6 (e:E){d:Option Nat}(v:Value)(q:QnA 256 d=true):QIF (Kl (QBM e d v)) (GG (Kl e) d v):=by
 intro t aa;cases d with
 | none=>rfl
 | some d=>exact Quw e v (by simpa[QnA] using q) aa
def E.none:E:=N16.all (N16.all undef)
theorem QBN (t:Nat):Kl E.none t=undef:=by simp only[Kl,E.none,N16.get_all]
def Qux:List Value->Nat->E->E
 | [],_,e=>e
 | v::vs,i,e=>Qux vs (i+1) (QEP e i v)
theorem Quy:∀ (l:List Value) (i:Nat) (e:E) (j:Nat),i+l.length<=256->j<256->Kl (Qux l i e) j=if i<=j∧j<i+l.length then l.getD (j - i) undef else Kl e j
 | [],i,e,j,_,_=>by simp[Qux];omega
 | v::l,i,e,j,h,hj=>by
  simp only[Lo]at h;simp only[Qux];rw[Quy l (i+1) _ j (by omega) hj,Quw e v (by omega) hj];simp only[Lo]
  by_cases q:j=i
  ·subst q;rw[Le (by omega),Lc ⟨by omega,by omega⟩];simp
  ·by_cases aa:i+1<=j∧j<i+1+l.length
   ·rw[Lc aa,Lc ⟨by omega,by omega⟩,show j - i=(j - (i+1))+1 by omega];simp
   ·rw[Le aa,Le (by omega),QhK _ _ q]
theorem QBO {l:List Value}(h:l.length<=256):QIF (Kl (Qux l 0 E.none)) (QdL l):=by
 intro j q;rw[Quy l 0 _ j (by omega) q];simp only[QdL,L7,Bz,LP,Nat.sub_zero,QBN];split
 ·rfl
 ·rename_i aa;simp[List.getD,N7 (by omega:l.length<=j)]
/-! ### Equality of values and blocks, by a run -/
def QbO (eq:Value->Value->Bool):List Value->List Value->Bool
 | [],[]=>true
 | x::xs,y::ys=>eq x y&&QbO eq xs ys
 | _,_=>false
theorem QnM {eq:Value->Value->Bool}(h:∀x y,eq x y=true->x=y):∀xs ys,QbO eq xs ys=true->xs=ys
 | [],[],_=>rfl
 | x::xs,y::ys,hb=>by
  simp only[QbO,Lm]at hb;rw[h x y hb.1,QnM h xs ys hb.2]
 | [],_::_,hb=>by simp[QbO]at hb
 | _::_,[],hb=>by simp[QbO]at hb
def QgC:Nat->Value->Value->Bool
 | 0,_,_=>false
 | f+1,x,y=>match x,y with
  | .bool a,.bool b=>a==b
  | .int k a,.int k' b=>decide (k=k')&&decide (a=b)
  | .string a,.string b=>decide (bl a=bl b)
  | .pointer a,.pointer b=>decide (a=b)
  | .slice a l c,.slice a' l' c'=>decide (a=a')&&Nat.beq l l'&&Nat.beq c c'
  | .map a,.map b=>decide (a=b)
  | .nilFunc,.nilFunc=>true
  | .nilIface,.nilIface=>true
  | .iface t v,.iface t' v'=>Nat.beq t t'&&QgC f v v'
  | .agg xs,.agg ys=>QbO (QgC f) xs.toList ys.toList
  | .tuple xs,.tuple ys=>QbO (QgC f) xs.toList ys.toList
  | .func fn xs zs,.func fn' ys us=>decide (fn=fn')&&QbO (QgC f) xs.toList ys.toList&&QbO (QgC f) zs.toList us.toList
  | _,_=>false
theorem Qfm:∀ (f:Nat) (x y:Value),QgC f x y=true->x=y:=by
 intro f
 induction f with
 | zero=>intro x y h;simp[QgC]at h
 | succ f aa=>
  intro x y h;have q:∀ {xs ys:Array Value},QbO (QgC f) xs.toList ys.toList=true->xs=ys:=λh=>Ru (QnM aa _ _ h);unfold QgC at h;split at h
  ·simp at h;rw[h]
  ·simp only[Lm,Lv]at h;rw[h.1,h.2]
  ·rename_i a b;have h':bl a=bl b:=by simpa using h
   rw[<- Qvf a,<- Qvf b,h']
  ·simp at h;rw[h]
  ·simp only[Lm,Lv,Kk]at h;rw[h.1.1,h.1.2,h.2]
  ·simp at h;rw[h]
  ·rfl
  ·rfl
  ·simp only[Lm,Lv,Kk]at h;rw[h.1,aa _ _ h.2]
  ·rw[q h]
  ·rw[q h]
  ·simp only[Lm,Lv]at h;rw[h.1.1,q h.1.2,q h.2]
  ·cases h
def QG8:Option Blk->Option Blk->Bool
 | some (.cells c e r),some (.cells c' e' r')=>Nat.beq e e'&&r==r'&&QbO (QgC 8) c c'
 | none,none=>true
 | _,_=>false
theorem QEQ {x y:Option Blk}(h:QG8 x y=true):x=y:=by
 unfold QG8 at h;split at h
 ·simp only[Lm,Kk,Lv,L0]at h;rw[h.1.1,h.1.2,QnM (Qfm 8) _ _ h.2]
 ·rfl
 ·cases h
def QER:Option Value->Value->Bool
 | some x,y=>QgC 8 x y
 | none,_=>false
theorem QAN {x:Option Value}{y:Value}(h:QER x y=true):x=some y:=by
 cases x with
 | none=>simp[QER]at h
 | some x=>rw[Qfm 8 x y h]
/-! ### Regions that draw their order -/
structure Stp where
 t:Env
 H:Qa
 c:Cls
 v:Value
def GS (P:Program)(call:Xb)(n:Nat)(ops:Array Oper):List Oper->Env->Qa->Option (List Stp×Env×Qa)
 | [],t,H=>some ([],t,H)
 | o::rest,t,H=>
  bif Qjo P n o then
   match ZF n ops t o with
   | some true=>match aop P call o t H with
    | some (c,v,H')=>match GS P call n ops rest (GG t o.dst v) H' with
     | some (l,r)=>some (⟨t,H,c,v⟩::l,r)
     | none=>none
    | none=>none
   | some false=>match GS P call n ops rest (GG t o.dst undef) H with
    | some (l,r)=>some (⟨t,H,.pure,undef⟩::l,r)
    | none=>none
   | none=>none
  else none
def QES (o:Oper):Bool:=
 match o.op with
 | .store .. => true
 | .lookup .. => true
 | .mapUpdate .. => true
 | .insert .. => true
 | .next .. => true
 | .entry .. => true
 | .call ⟨.builtin b,_,_⟩=>match b with | .len | .cap | .max | .min | .unsafeSliceData=>false | _=>true
 | .call _=>true
 | _=>false
def Yk (ops:Array Oper)(i:Nat):Bool:=match ops[i]? with | some o=>QES o | none=>false
def Yl (l:List Stp)(H:Qa)(i:Nat):Qa:=match l[i]? with | some s=>s.H | none=>H
def QhV (P:Program)(ops:Array Oper)(ms:List Nat)(l:List Stp)(H:Qa)(i:Nat)(s:Stp):Bool:=
 Nat.ble s.H.next (Yl l H (i+1)).next &&
 match s.c with
 | .pure=>true
 | .gen=>Yk ops i
 | .load=>match ops[i]? with
  | some o=>match o.op with
   | .load t x=>match ev (s.t) x with
    | .pointer (some a)=>(List.range ops.size).all λk=>!(Yk ops k)||QM ms i k||QM ms k i ||
      (QER (ZD P t a (Yl l H k)) s.v&&QER (ZD P t a (Yl l H (k+1))) s.v&&Qi s.H.next 6 s.v)
    | _=>false
   | _=>false
  | none=>false
 | .alloc b=>(List.range ops.size).all λk=>!(Yk ops k)||!(Nat.blt i k)||QM ms i k||QG8 ((Yl l H (k+1)).get s.H.next) ((Yl l H k).get s.H.next)
def Qpt (p:Nat->Stp->Bool):Nat->List Stp->Bool
 | _,[]=>true
 | i,s::l=>p i s&&Qpt p (i+1) l
theorem Qqv {p:Nat->Stp->Bool}:∀ (l:List Stp) (i:Nat),Qpt p i l=true->∀ (j:Nat) s,l[j]? = some s->p (i+j) s=true
 | [],_,_,j,s,h=>by simp at h
 | x::l,i,h,j,s,hj=>by
  simp only[Qpt,Lm]at h;cases j with
  | zero=>simp at hj;subst hj;exact h.1
  | succ j=>have:=Qqv l (i+1) h.2 j s (by simpa using hj);rwa [show i+1+j=i+(j+1) by omega]at this
def Qvq:List Oper->List Stp->E->E
 | o::os,s::ss,e=>Qvq os ss (QBM e o.dst s.v)
 | _,_,e=>e
def QrF (P:Program)(call:Xb)(n:Nat)(ops:Array Oper)(t:Env)(H:Qa):Option (List Stp×Env×Qa):=
 bif P.follows .mixedOrders&&Qf9 ops (Yk ops) then
  match GS P call n ops ops.toList t H with
  | some (l,t1,H1)=>bif Qpt (QhV P ops (QX ops.toList []) l H1) 0 l then some (l,t1,H1) else none
  | none=>none
 else none
section
variable {P:Program} {n:Nat} {Q:Ex->Env->Qa->Prop}
def QC8 (P:Program)(call:Xb)(n:Nat)(ops:Array Oper)(o:Oper)(s:Stp)(q:Env)(H':Qa):Prop:=
 Qjo P n o=true∧q=GG s.t o.dst s.v∧((ZF n ops (s.t) o=some true∧aop P call o (s.t) s.H=some (s.c,s.v,H'))∨(ZF n ops (s.t) o=some false∧s.c=.pure∧s.v=undef∧H'=s.H))
theorem Ql4 {call:Xb}{ops:Array Oper}:∀ (l:List Oper) (t:Env) (H:Qa) (tr:List Stp) (t1:Env) (H1:Qa),GS P call n ops l t H=some (tr,t1,H1)->
  tr.length=l.length∧(match tr[0]? with | some s=>s.t=t∧s.H=H | none=>t1=t∧H1=H)∧
  ∀ (j:Nat) o s,l[j]? = some o->tr[j]? = some s->QC8 P call n ops o s (match tr[j+1]? with | some q=>q.t | none=>t1) (Yl tr H1 (j+1))
 | [],t,H,tr,t1,H1,h=>by simp only[GS,Lt,LB]at h;obtain⟨rfl,rfl,rfl⟩:=h;exact⟨rfl,⟨rfl,rfl⟩,λj o s ac=>by simp at ac⟩
 | o::rest,t,H,tr,t1,H1,h=>by
  have step:∀ (s:Stp) (l:List Stp) (ae:Env) (H':Qa),s.t=t->s.H=H->GS P call n ops rest ae H'=some (l,t1,H1)->tr=s::l->QC8 P call n ops o s ae H'->
    tr.length=(o::rest).length∧(match tr[0]? with | some s=>s.t=t∧s.H=H | none=>t1=t∧H1=H)∧
    ∀ (j:Nat) o' s,(o::rest)[j]? = some o'->tr[j]? = some s->QC8 P call n ops o' s (match tr[j+1]? with | some q=>q.t | none=>t1) (Yl tr H1 (j+1)):=by
   intro s l ae H' e1 e2 ad ak aa;obtain⟨al,ab,am⟩:=Ql4 rest ae H' l t1 H1 ad;subst ak;refine⟨by simp[al],by simp[e1,e2],λj o' q ac ag=>?_⟩;cases j with
   | zero=>
    simp only[Bp,Lt]at ac ag;subst ac;subst ag;have:(match (s::l)[0+1]? with | some q=>q.t | none=>t1)=ae∧Yl (s::l) H1 (0+1)=H':=by
     simp only[Yl,LP,Bg];cases ai:l[0]? with
     | none=>rw[ai]at ab;exact⟨ab.1,ab.2⟩
     | some ao=>rw[ai]at ab;exact⟨ab.1,ab.2⟩
    rw[this.1,this.2];exact aa
   | succ j=>
    have:=am j o' q (by simpa using ac) (by simpa using ag);simpa[Yl] using this
  unfold GS at h;cases aa:Qjo P n o with
  | false=>rw[aa]at h;cases h
  | true=>
   rw[aa]at h;simp only[Lq]at h;split at h
   ·rename_i ah;split at h
    ·rename_i c v H' aj;split at h
     ·rename_i l r ad;obtain⟨an,H1'⟩:=r;simp only[Lt,LB]at h;obtain⟨rfl,rfl,rfl⟩:=h;exact step ⟨t,H,c,v⟩ l _ H' rfl rfl ad rfl ⟨aa,rfl,.inl ⟨ah,aj⟩⟩
     ·cases h
    ·cases h
   ·rename_i ah;split at h
    ·rename_i l r ad;obtain⟨an,H1'⟩:=r;simp only[Lt,LB]at h;obtain⟨rfl,rfl,rfl⟩:=h;exact step ⟨t,H,.pure,undef⟩ l _ H rfl rfl ad rfl ⟨aa,rfl,.inr ⟨ah,rfl,rfl,rfl⟩⟩
    ·cases h
   ·cases h
theorem Qqw {ops:Array Oper}{g ac:Nat->Bool}(h:∀i,i<ops.size->g i=true->ac i=true)(ab:Qf9 ops ac=true):Qf9 ops g=true:=by
 unfold Qf9 at ab ⊢;simp only[Li,LU]at ab ⊢;intro j ad;have q:=ab j ad;split
 ·rfl
 ·rename_i o ai;rw[ai]at q;simp only[Lm,Li,LU]at q ⊢;refine⟨q.1,λi hi=>?_⟩;have aa:=q.2 i hi;split
  ·rfl
  ·rename_i ak aj;rw[aj]at aa;simp only[Lm]at aa ⊢;refine⟨aa.1,?_⟩;have ah:=aa.2;cases ae:g i with
   | false=>simp
   | true=>
    cases ag:g j with
    | false=>simp
    | true=>simpa[h i hi ae,h j ad ag] using ah
theorem QtA {call:Xb}(aI:QhU P call){id:Nat}{ops:Array Oper}{t t1:Env}{H H1:Qa}{tr:List Stp}(h:QrF P call n ops t H=some (tr,t1,H1))(aQ:Q .normal t1 H1):AWp P n (.region id ops true) Q t H:=by
 unfold QrF at h;cases ak:(P.follows .mixedOrders&&Qf9 ops (Yk ops)) with
 | false=>rw[ak]at h;cases h
 | true=>
  rw[ak]at h;simp only[Lq]at h;simp only[Lm]at ak;obtain⟨aO,aJ⟩:=ak;split at h
  ·rename_i l ay H1' aR;cases am:Qpt (QhV P ops (QX ops.toList []) l H1') 0 l with
   | false=>rw[am]at h;cases h
   | true=>
    rw[am]at h;simp only[Lq,Lt,LB]at h;obtain⟨rfl,rfl,rfl⟩:=h;obtain⟨aT,ag,ax⟩:=Ql4 ops.toList t H l ay H1' aR;have aN:l.length=ops.size:=by simpa using aT
    have an:∀ (j:Nat) s,l[j]? = some s->QhV P ops (QX ops.toList []) l H1' j s=true:=λj s aL=>by have:=Qqv l 0 am j s aL;rwa [LP]at this
    let As:Nat->Env:=λi=>match l[i]? with | some s=>s.t | none=>ay
    let Hs:Nat->Qa:=Yl l H1'
    let aj:Nat->Value:=λi=>match l[i]? with | some s=>s.v | none=>undef
    let ae:Nat->Cls:=λi=>match l[i]? with | some s=>s.c | none=>.pure
    have ah:∀ (i:Nat) o,ops[i]? = some o->∃s,l[i]? = some s:=λi o ac=>by
     have:i<l.length:=by rw[aN];exact(Nj.1 ac).1
     exact⟨l[i],La this⟩
    have aq:∀i,i<ops.size->Zj (ae i)=true->Yk ops i=true:=λi hi ao=>by
     obtain⟨s,q⟩:=ah i ops[i] (Ng hi);have ab:ae i=s.c:=by simp only[ae,q]
     rw[ab]at ao;have aa:=an i s q;unfold QhV at aa;simp only[Lm]at aa;cases ad:s.c with
     | gen=>rw[ad]at aa;exact aa.2
     | _=>rw[ad]at ao;cases ao
    have F:KI P n ops As Hs aj ae:=by
     refine⟨λi o ac=>?_,λi hi=>?_,λi o ac=>?_,λi o ac=>?_,Qqw aq aJ⟩
     ·obtain⟨s,q⟩:=ah i o ac;have av:=ax i o s (by simpa using ac) q;have e1:As i=s.t:=by simp only[As,q]
      have e2:aj i=s.v:=by simp only[aj,q]
      rw[e1,e2,<- av.2.1]
     ·obtain⟨s,q⟩:=ah i ops[i] (Ng hi);have aa:=an i s q;unfold QhV at aa;simp only[Lm]at aa;have e1:Hs i=s.H:=by simp only[Hs,Yl,q]
      rw[e1];simpa using aa.1
     ·obtain⟨s,q⟩:=ah i o ac;exact(ax i o s (by simpa using ac) q).1
     ·obtain⟨s,q⟩:=ah i o ac;have av:=ax i o s (by simpa using ac) q;have aa:=an i s q;have e1:As i=s.t:=by simp only[As,q]
      have e2:aj i=s.v:=by simp only[aj,q]
      have e3:Hs i=s.H:=by simp only[Hs,Yl,q]
      have e4:ae i=s.c:=by simp only[ae,q]
      unfold QyW;rw[e1,e2,e3,e4];rcases av.2.2 with⟨aw,aG⟩ | ⟨aw,aH,aS,aF⟩
      ·right;refine⟨aw,?_⟩;have ab:=Qps aI aG;unfold QhV at aa;simp only[Lm]at aa;cases ad:s.c with
       | pure=>rw[ad]at ab;exact ab
       | gen=>rw[ad]at ab;exact ab
       | alloc b=>
        rw[ad]at ab aa;refine⟨ab.1,ab.2,λk ai aK ar aP=>?_⟩;have:=Li.1 aa.2 k (LU.2 ai);have hb:Nat.blt i k=true:=by simpa using aK
        simp only[aq k ai ar,hb,aP,L8,Nt]at this;exact QEQ this
       | load=>
        rw[ad]at ab aa;obtain⟨aE,aU,x,a,aB,az,aM⟩:=ab;refine⟨aE,aU,x,a,aB,az,aM,λk ai ar o1 o2=>?_⟩;have au:=aa.2;rw[ac]at au;simp only[aB,az]at au;have:=Li.1 au k (LU.2 ai);simp only[aq k ai ar,o1,o2,L8,Nt,Lm]at this;exact⟨QAN this.1.1,QAN this.1.2,this.2⟩
      ·left;exact⟨aw,aS,aF,aH⟩
    have aA:l[ops.size]? = none:=N7 (by omega);have aD:As ops.size=ay:=by simp only[As,aA]
    have aC:Hs ops.size=H1':=by simp only[Hs,Yl,aA]
    have e0:As 0=t∧Hs 0=H:=by
     cases al:l[0]? with
     | none=>rw[al]at ag;simp only[As,Hs,Yl,al,ag.1,ag.2,RU]
     | some s=>rw[al]at ag;simp only[As,Hs,Yl,al,ag.1,ag.2,RU]
    have:=Qw2 (id:=id) (Q:=Q) aO F (by rw[aD,aC];exact aQ);rw[e0.1,e0.2]at this;exact this
  ·cases h
theorem Qfn {ops:Array Oper}{o:Oper}{aj:List Oper}{A:Env}{H:Qa}{b:Bool}{j:Nat}{ay:Bool}(ae:o.guard=some (j,ay))(q:ZF n ops A o=some b)
  (av:b=true->∃v H',QD P o A H v H'∧Qmy P n ops aj Q (GG A o.dst v) H') (ao:b=false->Qmy P n ops aj Q (GG A o.dst undef) H) (ad:Qjo P n o=true):Qmy P n ops (o::aj) Q A H:=by
 intro z ρ w a hs he;have an:Region.wanted o (yielded ops a.tmps)=b:=by
  unfold ZF at q;rw[ae]at q;simp only at q;split at q
  ·rename_i t au;split at q
   ·rename_i am;have aa:=he.tmps t am;have ag:t<a.tmps.size:=by rw[he.size];exact am
    rw[N0,Ng ag]at aa;simp only[NB]at aa;have ah:=au;unfold Qcu at ah;split at q
    ·rename_i b0 ab;cases q;rw[ab]at aa;have ac:a.tmps[t]? = some (.bool b0):=by rw[Ng ag,aa.plain_eq rfl]
     have ai:yielded ops a.tmps j=some b0:=by unfold yielded;rw[ah];simp[ac]
     simp[Region.wanted,ae,ai]
    ·rename_i az ab;cases q;rw[ab]at aa;obtain⟨ax,e1,_⟩:=aa.tuple_inv;have ac:a.tmps[t]? = some (.tuple ax):=by rw[Ng ag,e1]
     have ai:yielded ops a.tmps j=none:=by unfold yielded;rw[ah];simp[ac]
     simp[Region.wanted,ae,ai]
    ·cases q
   ·cases q
  ·cases q
 refine wpListIn_step λK ak=>?_;cases b with
 | true=>
  obtain⟨v,H',aq,h⟩:=av rfl;rw[Lc an];refine aq ρ w a hs (he.op hs ad) K _ (λaw ρ' w' aa al ar=>?_) z;have:=h z ρ' w' (a.put o.dst aw) ar ((he.step al).putO (QjZ ad) aa);exact ak _ _ (Qqh al this)
 | false=>
  rw[Le (by rw[an];simp)];exact⟨λ_ _=>trivial,ak _ _ (ao rfl z ρ w _ hs (he.putO (QjZ ad) (.closed (by simp[undef,ZC]))))⟩
end
inductive Sk where
 | i | b | s
inductive R where
 | mv (x:Operand)
 | pick (c x y:Operand)
 | bin (op:BinOp) (x y:Operand)
 | beq (ne:Bool) (x y:Operand)
 | eqs (ne:Bool) (ks:List Sk) (x y:Operand)
 | not (x:Operand)
 | toInt (k:IntKind) (x:Operand)
 | mkIf (t:TypeId) (x:Operand)
 | fld (agg:Bool) (off size:Nat) (x:Operand)
 | fldA (off:Nat) (x:Operand)
 | idxS (size:Nat) (x ix:Operand)
 | chr (x ix:Operand)
 | ext (x:Operand) (i:Nat)
 | build (z:List Value) (parts:List (Nat×Nat×Operand))
 | bslice (e size len:Nat) (z:List Value) (parts:List (Nat×Operand))
 | alloc (e:TypeId) (z:List Value)
 | box (e:TypeId) (x:Operand)
 | mkSl (e size bytes:Nat) (z:List Value) (x y:Operand)
 | slS (size:Nat) (x:Operand) (lo hi:Option Operand)
 | ld (agg:Bool) (size:Nat) (x:Operand)
 | st (size:Nat) (x y:Operand)
 | stf (size:Nat) (x y:Operand) (os:List Operand)
 | lenS (x:Operand)
 | lenT (x:Operand)
 | app (e size bytes:Nat) (x y:Operand)
 | gen (o:Op)
 | call (f:FuncId) (args:List Operand)
 | callv (c:Operand) (args:List Operand)
 | callF (f:FuncId) (args os:List Operand)
 | callG (f:FuncId) (args os:List Operand)
 | appF (e size bytes:Nat) (x y:Operand) (os:List Operand)
def GI:Xb:=⟨λ_ _ _=>none,λ_ _ _=>none⟩
def Qqx (f:Operand->Value):List Value->List (Nat×Nat×Operand)->Option (List Value)
 | cells,[]=>some cells
 | cells,(off,size,x)::rest=>if(f x).cells.toList.length=size∧off+size<=cells.length then Qqx f (splice cells off (f x).cells.toList) rest else none
def Y4 (e size bytes:Nat)(s x:Value)(H:Qa):Option (Value×Qa):=
 match Zt size x H with
 | none=>none
 | some (m,news)=>
  if news.all (·.oneCell')=true then
   match s with
   | .slice none 0 0=>
    if m=0 then some (.slice none 0 0,H) else
    if m<=9223372036854775807∧m * bytes<=140737488355328 then some (.slice (some ⟨H.next,0,none⟩) m (UNK+size),H.push (.cells news e false)) else none
   | .slice (some a) len cap=>
    if m=0 then(if UNK<=cap∨len<=cap then some (.slice (some a) len cap,H) else none) else
    match H.get a.block with
    | some (.cells c e' ro)=>
     if a.off+len * size<=c.length∧len+m<=9223372036854775807∧(len+m) * bytes<=140737488355328 then
      if UNK<=cap then
       if ro=false∧e'=e∧a.off=0∧a.off+len * size=c.length then some (.slice (some ⟨H.next,0,none⟩) (len+m) (UNK+size),(H.kill a.block).push (.cells (c.drop a.off++news) e false))
       else if ro=false∧cap=UNK+size∧a.off+(len+m) * size<=c.length then some (.slice (some a) (len+m) cap,H.set a.block (.cells (splice c (a.off+len * size) news) e' false)) else none
      else if len+m<=cap then
       (if ro=false∧a.off+(len+m) * size<=c.length then some (.slice (some a) (len+m) cap,H.set a.block (.cells (splice c (a.off+len * size) news) e' false)) else none)
      else some (.slice (some ⟨H.next,0,none⟩) (len+m) (UNK+size),H.push (.cells ((c.drop a.off).take (len * size)++news) e false))
     else none
    | _=>none
   | _=>none
  else none
theorem Qy2 (e:TypeId)(q:TypeInfo)(s x:Value)(H:Qa):Qlq e q s x H=Y4 e q.size q.bytes s x H:=rfl
def QET:Sk->Value->Value->Option Bool
 | .i,.int k a,.int k' b=>if k=k' then some (a==b) else none
 | .b,.bool a,.bool b=>some (a==b)
 | .s,.string a,.string b=>some (bl a==bl b)
 | _,_,_=>none
def Qd5:List Sk->Array Value->Array Value->Nat->Option Bool
 | [],_,_,_=>some true
 | k::ks,xs,ys,i=>match xs[i]?,ys[i]? with
  | some a,some b=>match QET k a b with
   | some true=>Qd5 ks xs ys (i+1)
   | r=>r
  | _,_=>none
def QcA (op:BinOp)(x y:Value):Option Value:=
 match x,y with
 | .int ik a,.int ik' b=>match op with
  | .shl | .shr=>QcY op ik a b
  | _=>if ik=ik' then Jj op ik a b else none
 | .string a,.string b=>QmB op (bl a) (bl b)
 | _,_=>none
def Qj6 (H:Qa):Option Value->Option (Value×Qa)
 | some v=>some (v,H)
 | none=>none
def Quz (f:Operand->Value):Option Operand->Option (Option Int)
 | none=>some none
 | some x=>match f x with | .int _ m=>some (some m) | _=>none
def rop (P:Program)(r:R)(A:Env)(H:Qa):Option (Value×Qa):=
 match r with
 | .mv x=>some (ev A x,H)
 | .pick c x y=>match ev A c with | .bool t=>some (bif t then ev A x else ev A y,H) | _=>none
 | .bin op x y=>Qj6 H (QcA op (ev A x) (ev A y))
 | .beq ne x y=>match ev A x,ev A y with
  | .bool a,.bool b=>some (.bool (bif ne then !(a==b) else a==b),H)
  | _,_=>none
 | .eqs ne m x y=>match ev A x,ev A y with
  | .agg xs,.agg ys=>match Qd5 m xs ys 0 with | some b=>some (.bool (bif ne then !b else b),H) | none=>none
  | _,_=>none
 | .not x=>match ev A x with | .bool b=>some (.bool !b,H) | _=>none
 | .toInt k x=>match ev A x with | .int _ m=>some (.int k (k.wrap m),H) | _=>none
 | .mkIf t x=>some (.iface t (ev A x),H)
 | .fld agg off size x=>match ev A x with
  | .agg cs=>Qj6 H (bif agg then some (.agg (cs.extract off (off+size))) else cs[off]?)
  | _=>none
 | .fldA off x=>match ev A x with | .pointer (some a)=>some (.pointer (some ⟨a.block,a.off+off,none⟩),H) | _=>none
 | .idxS size x q=>match ev A q,ev A x with
  | .int _ m,.slice (some a) len _=>if 0<=m∧m<len then some (.pointer (some ⟨a.block,a.off+m.toNat * size,none⟩),H) else none
  | _,_=>none
 | .chr x q=>match ev A q,ev A x with
  | .int _ m,.string s=>if 0<=m then(match (bl s)[m.toNat]? with | some b=>some (.int .u8 b.toNat,H) | none=>none) else none
  | _,_=>none
 | .ext x i=>match ev A x with | .tuple ac=>Qj6 H ac[i]? | _=>none
 | .build z aa=>match Qqx (ev A) z aa with | some r=>some (.agg r.toArray,H) | none=>none
 | .bslice e size len z aa=>match Qfh (λi=>some (i * size,size)) z (aa.map λp=>(p.1,ev A p.2)) with
  | some r=>some (.slice (some ⟨H.next,0,none⟩) len len,H.push (.cells r e false))
  | none=>none
 | .alloc e z=>some (.pointer (some ⟨H.next,0,none⟩),H.push (.cells z e false))
 | .box e x=>some (.pointer (some ⟨H.next,0,none⟩),H.push (.cells (ev A x).cells.toList e false))
 | .mkSl e size bytes z x y=>match ev A x,ev A y with
  | .int .i64 l,.int .i64 c=>if 0<=l∧l<=c∧(bytes:Int) * c<=281474976710656∧c<=9223372036854775807 then
    some (.slice (some ⟨H.next,0,none⟩) l.toNat c.toNat,H.push (.cells (YM z.toArray (c.toNat * size)) e false)) else none
  | _,_=>none
 | .slS size x ab hi=>match Quz (ev A) ab,Quz (ev A) hi with
  | some l,some h=>Qj6 H (QaC size (ev A x) l h none)
  | _,_=>none
 | .ld agg size x=>match ev A x with
  | .pointer (some a)=>match H.get a.block with
   | some (.cells c _ _)=>bif agg then(if a.off+size<=c.length then some (.agg ((c.drop a.off).take size).toArray,H) else none) else Qj6 H c[a.off]?
   | _=>none
  | _=>none
 | .st size x y=>match ev A x with
  | .pointer (some a)=>match H.get a.block with
   | some (.cells c e false)=>if(ev A y).cells.toList.length=size∧a.off+(ev A y).cells.toList.length<=c.length∧(ev A y).cells.toList.all (·.oneCell')=true then some (undef,H.set a.block (.cells (splice c a.off (ev A y).cells.toList) e false)) else none
   | _=>none
  | _=>none
 | .stf size x y _=>match ev A x with
  | .pointer (some a)=>match H.get a.block with
   | some (.cells c e false)=>if(ev A y).cells.toList.length=size∧a.off+(ev A y).cells.toList.length<=c.length∧(ev A y).cells.toList.all (·.oneCell')=true then some (undef,H.set a.block (.cells (splice c a.off (ev A y).cells.toList) e false)) else none
   | _=>none
  | _=>none
 | .lenS x=>match ev A x with | .slice _ m _=>some (.int .i64 (m:Int),H) | _=>none
 | .lenT x=>match ev A x with | .string s=>some (.int .i64 ((bl s).length:Int),H) | _=>none
 | .app e size bytes x y=>Y4 e size bytes (ev A x) (ev A y) H
 | .gen o=>match aop P GI ⟨none,o,0, "",#[],none⟩ A H with | some (_,v,H')=>some (v,H') | none=>none
 | .call _ _=>none
 | .callv _ _=>none
 | .callF _ _ _=>none
 | .callG _ _ _=>none
 | .appF _ _ _ _ _ _=>none
/-! ### Resolving -/
def QnN (P:Program):List Field->Nat->Option (List Sk)
 | [],_=>some []
 | fd::fs,i=>
  if fd.name = "_" ∨ fd.offset≠i then none else
  match P.info? fd.type,QnN P fs (i+1) with
  | some _,some ks=>match P.underlying fd.type with
   | some (.int _)=>some (.i::ks)
   | some .bool=>some (.b::ks)
   | some .string=>some (.s::ks)
   | _=>none
  | _,_=>none
def QnO (q:Array (Nat×Nat)):List (Nat×Operand)->Option (List (Nat×Nat×Operand))
 | []=>some []
 | (i,x)::rest=>match q[i]?,QnO q rest with
  | some (off,size),some l=>some ((off,size,x)::l)
  | _,_=>none
def Wo (P:Program)(op:Op):R:=
 match op with
 | .move x=>.mv x
 | .assign x=>.mv x
 | .pick c x y=>.pick c x y
 | .binOp b t x y _=>
  match P.underlying t with
  | some (.int _) | some .string=>.bin b x y
  | some .bool=>match b with | .eql=>.beq false x y | .neq=>.beq true x y | _=>.gen op
  | some (.struct fs)=>if P.stoodInHeld t||P.eqGuardType P.depth t then .gen op else match QnN P fs.toList 0 with
   | some ks=>(match b with | .eql=>.eqs false ks x y | .neq=>.eqs true ks x y | _=>.gen op)
   | none=>.gen op
  | _=>.gen op
 | .unOp .not _ x=>.not x
 | .convert src ac x=>match P.underlying src,P.underlying ac with
  | some (.int _),some (.int k)=>.toInt k x
  | _,_=>.gen op
 | .makeInterface t x=>match P.underlying t with
  | some (.interface _)=>.gen op
  | some _=>.mkIf t x
  | none=>.gen op
 | .field t x f=>match P.underlying t with
  | some (.struct fs)=>match fs[f]? with
   | some fd=>match P.underlying fd.type,P.info? fd.type with
    | some td,some q=>.fld (GH td) fd.offset q.size x
    | _,_=>.gen op
   | none=>.gen op
  | _=>.gen op
 | .fieldAddr t x f=>match P.underlying t with
  | some (.struct fs)=>match fs[f]? with
   | some fd=>match P.info? fd.type with
    | some q=>if q.size=0 then .gen op else .fldA fd.offset x
    | none=>.gen op
   | none=>.gen op
  | _=>.gen op
 | .indexAddr t x aa=>match P.underlying t with
  | some (.slice e)=>match P.info? e with
   | some q=>.idxS q.size x aa
   | none=>.gen op
  | _=>.gen op
 | .index t x aa=>match P.underlying t with
  | some .string=>.chr x aa
  | _=>.gen op
 | .extract x i=>.ext x i
 | .build t ab=>match P.underlying t,P.info? t with
  | some (.struct fs),some q=>match q.zero,QnH P fs with
   | some z,some pl=>if z.cells.toList.all plain then(match QnO pl ab.toList with | some l=>.build z.cells.toList l | none=>.gen op) else .gen op
   | _,_=>.gen op
  | _,_=>.gen op
 | .buildSlice t len ab=>match P.underlying t with
  | some (.slice e)=>match P.info? e with
   | some q=>match q.zero with
    | some z=>if z.cells.toList.all plain&&Nat.blt 0 z.cells.size&&Nat.ble len 16777216&&Nat.ble (len * q.size) 16777216 then .bslice e q.size len (YM z.cells (len * q.size)) ab.toList else .gen op
    | none=>.gen op
   | none=>.gen op
  | _=>.gen op
 | .alloc e=>match P.info? e with
  | some q=>match q.zero with
   | some z=>if z.cells.toList.all plain then .alloc e z.cells.toList else .gen op
   | none=>.gen op
  | none=>.gen op
 | .makeSlice t x y=>match P.underlying t with
  | some (.slice e)=>match P.info? e with
   | some q=>match q.zero with
    | some z=>if QhM P e q z then .mkSl e q.size q.bytes z.cells.toList x y else .gen op
    | none=>.gen op
   | none=>.gen op
  | _=>.gen op
 | .slice t x ad hi none=>match P.underlying t with
  | some (.slice e)=>match P.info? e with
   | some q=>.slS q.size x ad hi
   | none=>.gen op
  | _=>.gen op
 | .load t x=>match P.underlying t,P.info? t with
  | some d,some q=>.ld (GH d) q.size x
  | _,_=>.gen op
 | .store t x y=>match P.info? t with
  | some q=>.st q.size x y
  | none=>.gen op
 | .call ⟨.builtin .len,args,ts⟩=>match args.toList,ts.toList with
  | [x],[t]=>match P.underlying t with
   | some (.slice _)=>.lenS x
   | some .string=>.lenT x
   | _=>.gen op
  | _,_=>.gen op
 | .call ⟨.builtin .append,args,ts⟩=>match args.toList,ts.toList with
  | [x,y],[t,t2]=>match P.underlying t,P.underlying t2 with
   | some (.slice e),some td=>match P.info? e with
    | some q=>match q.zero with
     | some z=>if Qj2 td&&QhM P e q z then .app e q.size q.bytes x y else .gen op
     | none=>.gen op
    | none=>.gen op
   | _,_=>.gen op
  | _,_=>.gen op
 | .call ⟨.value (.func f),args,_⟩=>.call f args.toList
 | .call ⟨.value c,args,_⟩=>.callv c args.toList
 | .box e x=>.box e x
 | op=>.gen op
section
variable {P:Program} {A:Env} {H:Qa}
def QuA (P:Program)(op:Op)(A:Env)(H:Qa)(v:Value)(H':Qa):Prop:=∃c,aop P GI ⟨none,op,0, "",#[],none⟩ A H=some (c,v,H')
theorem QBP {op:Op}{v:Value}{H':Qa}(h:rop P (.gen op) A H=some (v,H')):QuA P op A H v H':=by
 simp only[rop]at h;split at h
 ·rename_i c aa H1 q;simp only[Lt,LB]at h;obtain⟨rfl,rfl⟩:=h;exact⟨c,q⟩
 ·cases h
theorem QgD {r:Option Value}{v:Value}{H':Qa}(h:Qj6 H r=some (v,H')):r=some v∧H'=H:=by
 cases r with
 | none=>cases h
 | some u=>simp[Qj6]at h;exact⟨by rw[h.1],h.2.symm⟩
theorem QBQ {op:BinOp}{t:TypeId}{x y v:Value}{k:Bool}(h:QcA op x y=some v):Qvm P k op t x y=some v:=by
 unfold QcA at h;split at h
 ·exact h
 ·exact h
 ·cases h
def QEU (P:Program)(t:TypeId):Sk->Prop
 | .i=>∃ik,P.underlying t=some (.int ik)
 | .b=>P.underlying t=some .bool
 | .s=>P.underlying t=some .string
theorem Qw7 {f:Nat}{t:TypeId}{k:Sk}{a b:Value}{r:Bool}(h:QET k a b=some r)(q:QEU P t k):aeq P (f+1) t a b=some r:=by
 unfold QET at h;split at h
 ·obtain⟨ik,aa⟩:=q;simp only[aeq,aa];exact h
 ·simp only[QEU]at q;simp only[aeq,q];exact h
 ·simp only[QEU]at q;simp only[aeq,q];exact h
 ·cases h
theorem Qqy {f:Nat}:∀ (aa:List Field) (i:Nat) (ks:List Sk) (xs ys:Array Value) (b:Bool),QnN P aa i=some ks->Qd5 ks xs ys i=some b->X0 P (aeq P (f+1)) aa xs ys=some b
 | [],i,ks,xs,ys,b,hs,h=>by simp only[QnN,Lt]at hs;subst hs;simpa[Qd5,X0] using h
 | fd::aa,i,ks,xs,ys,b,hs,h=>by
  unfold QnN at hs;split at hs
  ·cases hs
  ·rename_i ab;simp only[not_or,Decidable.not_not]at ab;split at hs
   ·rename_i am ag hi al;have ac:∀k,(∀zs:Array Value,QcZ P fd.type zs fd.offset=zs[i]?)->QEU P fd.type k->
      Qd5 (k::ag) xs ys i=some b->X0 P (aeq P (f+1)) (fd::aa) xs ys=some b:=λk ad ae h=>by
     unfold Qd5 at h;unfold X0;rw[Le ab.1,ad,ad];split at h
     ·rename_i a c ah ai;rw[ah,ai];simp only;split at h
      ·rename_i aj;rw[Qw7 aj ae];exact Qqy aa (i+1) ag xs ys b al h
      ·rename_i r ak;have:=Qw7 (f:=f) h ae;rw[this];cases b with
       | true=>exact absurd h ak
       | false=>rfl
     ·cases h
    split at hs
    ·rename_i ik q;cases hs;exact ac .i (λzs=>by simp[QcZ,q,hi,GH,ab.2]) ⟨ik,q⟩ h
    ·rename_i q;cases hs;exact ac .b (λzs=>by simp[QcZ,q,hi,GH,ab.2]) q h
    ·rename_i q;cases hs;exact ac .s (λzs=>by simp[QcZ,q,hi,GH,ab.2]) q h
    ·cases hs
   ·cases hs
theorem Qqz {aa:Array (Nat×Nat)}:∀ (q:List (Nat×Operand)) (l:List (Nat×Nat×Operand)) (cells:List Value),QnO aa q=some l->Qfh (aa[·]?) cells (q.map λp=>(p.1,ev A p.2))=Qqx (ev A) cells l
 | [],l,cells,h=>by simp only[QnO,Lt]at h;subst h;rfl
 | (i,x)::rest,l,cells,h=>by
  unfold QnO at h;split at h
  ·rename_i off size ad ab ac;cases h;simp only[NZ,Qfh,Qqx,ab];rw[Qqz rest ad _ ac]
  ·cases h
set_option maxHeartbeats 2000000 in
theorem Qy3 {op:Op}{v:Value}{H':Qa}(h:rop P (Wo P op) A H=some (v,H')):QuA P op A H v H':=by
 have gen:rop P (.gen op) A H=some (v,H')->QuA P op A H v H':=QBP;unfold Wo at h;split at h
 case h_1 x=>simp only[rop,Lt,LB]at h;obtain⟨rfl,rfl⟩:=h;exact⟨_,rfl⟩
 case h_2 x=>simp only[rop,Lt,LB]at h;obtain⟨rfl,rfl⟩:=h;exact⟨_,rfl⟩
 case h_3 c x y=>
  simp only[rop]at h;split at h
  ·rename_i t ak;simp only[Lt,LB]at h;obtain⟨rfl,rfl⟩:=h;exact⟨.pure,by simp only[aop,Qvn,ak]⟩
  ·cases h
 case h_4 b t x y yt=>
  have bin:rop P (.bin b x y) A H=some (v,H')->QuA P (.binOp b t x y yt) A H v H':=λh=>by
   obtain⟨ae,rfl⟩:=QgD h;exact⟨.pure,by simp only[aop,Qfk,QBQ ae,Jk]⟩
  split at h
  ·exact bin h
  ·exact bin h
  ·rename_i aa;have beq:∀ne:Bool,(b=bif ne then .neq else .eql)->rop P (.beq ne x y) A H=some (v,H')->QuA P (.binOp b t x y yt) A H v H':=λne hb h=>by
    simp only[rop]at h;split at h
    ·rename_i p q ah au;simp only[Lt,LB]at h;obtain⟨rfl,rfl⟩:=h;refine⟨.pure,?_⟩;have ai:∀k,JI P k t (.bool p) (.bool q)=true:=λk=>by simp[JI,QmF,Qvk]
     simp only[aop,Qfk,Qvm,ah,au,Qqn,Qcx,ai,Bj,N3,hb];cases ne<;>simp[aeq,aa,Jk]
    ·cases h
   split at h
   ·exact beq false rfl h
   ·exact beq true rfl h
   ·exact gen h
  ·rename_i ao aa;split at h
   ·exact gen h
   ·rename_i ac;simp only[Nw,not_or,Bool.not_eq_true]at ac;split at h
    ·rename_i ks aG;have eqs:∀ne:Bool,(b=bif ne then .neq else .eql)->rop P (.eqs ne ks x y) A H=some (v,H')->QuA P (.binOp b t x y yt) A H v H':=λne hb h=>by
      simp only[rop]at h;split at h
      ·rename_i p q ah au;split at h
       ·rename_i r an;simp only[Lt,LB]at h;obtain⟨rfl,rfl⟩:=h;refine⟨.pure,?_⟩;have ai:∀k,JI P k t (.agg p) (.agg q)=true:=λk=>by simp[JI,QmF,ac.2]
        have ab:=Qqy (f:=18) ao.toList 0 ks p q r aG an;have az:aeq P 20 t (.agg p) (.agg q)=some r:=by
         unfold aeq;rw[aa];simp only[ac.1,LV,LN];exact ab
        simp only[aop,Qfk,Qvm,ah,au,Qqn,Qcx,ai,Bj,N3,hb];cases ne<;>simp[az,Jk]
       ·cases h
      ·cases h
     split at h
     ·exact eqs false rfl h
     ·exact eqs true rfl h
     ·exact gen h
    ·exact gen h
  ·exact gen h
 case h_5 t x=>
  simp only[rop]at h;split at h
  ·rename_i p ah;simp only[Lt,LB]at h;obtain⟨rfl,rfl⟩:=h;exact⟨.pure,by simp only[aop,Qvo,ah,QrQ,Jk]⟩
  ·cases h
 case h_6 src dst x=>
  split at h
  ·rename_i ik k av aq;simp only[rop]at h;split at h
   ·rename_i aM m am;simp only[Lt,LB]at h;obtain⟨rfl,rfl⟩:=h;exact⟨.pure,by simp only[aop,QgB,av,aq,am,Qry,Jk]⟩
   ·cases h
  ·exact gen h
 case h_7 t x=>
  split at h
  ·exact gen h
  ·rename_i ax aL aa;simp only[rop,Lt,LB]at h;obtain⟨rfl,rfl⟩:=h;refine⟨.pure,?_⟩;simp only[aop,VM,aa]
  ·exact gen h
 case h_8 t x f=>
  split at h
  ·rename_i ao aa;split at h
   ·rename_i fd ar;split at h
    ·rename_i ax ad aq hi;simp only[rop]at h;split at h
     ·rename_i cs aB;obtain⟨ae,rfl⟩:=QgD h;refine⟨.pure,?_⟩;simp only[aop,QrA,aa,aB,ar,QcZ,aq,hi];cases aj:GH ax<;>rw[aj]at ae<;>simp only[Lq,Ls]at ae<;>simp[ae,Jk]
     ·cases h
    ·exact gen h
   ·exact gen h
  ·exact gen h
 case h_9 t x f=>
  split at h
  ·rename_i ao aa;split at h
   ·rename_i fd ar;split at h
    ·rename_i ad hi;split at h
     ·exact gen h
     ·rename_i ag;simp only[rop]at h;split at h
      ·rename_i a ab;simp only[Lt,LB]at h;obtain⟨rfl,rfl⟩:=h;refine⟨.pure,?_⟩;have:Nat.beq ad.size 0=false:=by simp[Kk,ag]
       simp only[aop,V2,aa,ab,ar,hi,this,Ls]
      ·cases h
    ·exact gen h
   ·exact gen h
  ·exact gen h
 case h_10 t x ix=>
  split at h
  ·rename_i e aa;split at h
   ·rename_i ad hi;simp only[rop]at h;split at h
    ·rename_i ik m a len cap am ab;split at h
     ·rename_i ac;simp only[Lt,LB]at h;obtain⟨rfl,rfl⟩:=h;exact⟨.pure,by simp only[aop,V3,am,aa,ab,hi,ac,RU,N3]⟩
     ·cases h
    ·cases h
   ·exact gen h
  ·exact gen h
 case h_11 t x ix=>
  split at h
  ·rename_i aa;simp only[rop]at h;split at h
   ·rename_i ik m s am av;split at h
    ·rename_i ay;split at h
     ·rename_i b hb;simp only[Lt,LB]at h;obtain⟨rfl,rfl⟩:=h;exact⟨.pure,by simp only[aop,QrB,am,aa,av,ay,N3,hb]⟩
     ·cases h
    ·cases h
   ·cases h
  ·exact gen h
 case h_12 x i=>
  simp only[rop]at h;split at h
  ·rename_i aO aK;obtain⟨ae,rfl⟩:=QgD h;exact⟨.pure,by simp only[aop,Qlr,aK,ae,Jk]⟩
  ·cases h
 case h_13 t parts=>
  split at h
  ·rename_i ao ad aa hi;split at h
   ·rename_i z aN ag aI;split at h
    ·rename_i ah;split at h
     ·rename_i l al;simp only[rop]at h;split at h
      ·rename_i r an;simp only[Lt,LB]at h;obtain⟨rfl,rfl⟩:=h;have:=Qqz (A:=A) parts.toList l z.cells.toList al;rw[an]at this;exact⟨.pure,by simp only[aop,QrC,aa,hi,ag,aI,ah,Lq,Jd,this,Dh,Jk]⟩
      ·cases h
     ·exact gen h
    ·exact gen h
   ·exact gen h
  ·exact gen h
 case h_14 t len parts=>
  split at h
  ·rename_i e aa;split at h
   ·rename_i ad hi;split at h
    ·rename_i z ag;split at h
     ·rename_i ac;simp only[rop]at h;split at h
      ·rename_i r an;simp only[Lt,LB]at h;obtain⟨rfl,rfl⟩:=h;exact⟨.alloc _,by simp only[aop,Qd4,aa,hi,ag,ac,Lq,Jd,an];rfl⟩
      ·cases h
     ·exact gen h
    ·exact gen h
   ·exact gen h
  ·exact gen h
 case h_15 e=>
  split at h
  ·rename_i ad hi;split at h
   ·rename_i z ag;split at h
    ·rename_i ah;simp only[rop,Lt,LB]at h;obtain⟨rfl,rfl⟩:=h;exact⟨.alloc _,by simp only[aop,QrD,hi,ag,ah,Lq];rfl⟩
    ·exact gen h
   ·exact gen h
  ·exact gen h
 case h_16 t x y=>
  split at h
  ·rename_i e aa;split at h
   ·rename_i ad hi;split at h
    ·rename_i z ag;split at h
     ·rename_i aC;simp only[rop]at h;split at h
      ·rename_i l c al ac;split at h
       ·rename_i aA;simp only[Lt,LB]at h;obtain⟨rfl,rfl⟩:=h;refine⟨.alloc (.cells (YM z.cells (c.toNat * ad.size)) e false),?_⟩;simp only[aop,Qfl,aa,al,ac,hi,ag];rw[Lc ⟨aC,aA⟩]
       ·cases h
      ·cases h
     ·exact gen h
    ·exact gen h
   ·exact gen h
  ·exact gen h
 case h_17 t x lo hi=>
  split at h
  ·rename_i e aa;split at h
   ·rename_i ad aF;simp only[rop]at h;split at h
    ·rename_i l aD al aE;obtain⟨ae,rfl⟩:=QgD h;have e1:XD A lo=some l:=by rw[<- al];cases lo<;>rfl
     have e2:XD A hi=some aD:=by rw[<- aE];cases hi<;>rfl
     have e3:XD A none=some none:=rfl;exact⟨.pure,by simp only[aop,QnJ,aa,aF,e1,e2,e3,RV,N1,N3,ae,Jk]⟩
    ·cases h
   ·exact gen h
  ·exact gen h
 case h_18 t x=>
  split at h
  ·rename_i d ad aa hi;simp only[rop]at h;split at h
   ·rename_i a ab;split at h
    ·rename_i c e ro ai;cases aj:GH d with
     | true=>
      rw[aj]at h;simp only[Lq]at h;split at h
      ·rename_i aH;simp only[Lt,LB]at h;obtain⟨rfl,rfl⟩:=h;exact⟨.load,by simp only[aop,Qr5,ab,ZD,aa,hi,ai,aj,N3,aH]⟩
      ·cases h
     | false=>
      rw[aj]at h;obtain⟨ae,rfl⟩:=QgD h;exact⟨.load,by simp only[aop,Qr5,ab,ZD,aa,hi,ai,aj,LV,LN,ae]⟩
    ·cases h
   ·cases h
  ·exact gen h
 case h_19 t x y=>
  split at h
  ·rename_i ad hi;simp only[rop]at h;split at h
   ·rename_i a ab;split at h
    ·rename_i c e ai;split at h
     ·rename_i ac;simp only[Lt,LB]at h;obtain⟨rfl,rfl⟩:=h;refine⟨.gen,?_⟩;simp only[aop,QnK,ab,QmA,hi,ai];rw[Lc ac]
     ·cases h
    ·cases h
   ·cases h
  ·exact gen h
 case h_20 args ts=>
  split at h
  ·rename_i x t ab ak;split at h
   ·rename_i e aa;simp only[rop]at h;split at h
    ·rename_i q m c aw;simp only[Lt,LB]at h;obtain⟨rfl,rfl⟩:=h;exact⟨.pure,by simp only[aop,QhT,ab,ak,QCU,aa,aw]⟩
    ·cases h
   ·rename_i aa;simp only[rop]at h;split at h
    ·rename_i s aw;simp only[Lt,LB]at h;obtain⟨rfl,rfl⟩:=h;exact⟨.pure,by simp only[aop,QhT,ab,ak,QCU,aa,aw]⟩
    ·cases h
   ·exact gen h
  ·exact gen h
 case h_21 args ts=>
  split at h
  ·rename_i x y t t2 ab ak;split at h
   ·rename_i e ax aa aJ;split at h
    ·rename_i ad hi;split at h
     ·rename_i z ag;split at h
      ·rename_i ac;simp only[rop]at h;refine⟨.gen,?_⟩;simp only[aop,QhT,ab,ak,aa,aJ,hi,ag,ac,Lq,Qy2,h,Dh]
      ·exact gen h
     ·exact gen h
    ·exact gen h
   ·exact gen h
  ·exact gen h
 case h_22=>cases h
 case h_23=>cases h
 case h_24 e x=>simp only[rop,Lt,LB]at h;obtain⟨rfl,rfl⟩:=h;exact⟨.alloc _,rfl⟩
 case h_25=>exact gen h
end
def Rep (n:Nat)(A:Env)(e:E):Prop:=∀t,t<n->A t=Kl e t
structure Ks (α:Type) where
 ret:E->Qa->α
 ext:Nat->E->Qa->α
 jmp:Nat->E->Qa->α
 pan:Value->E->Qa->α
abbrev KT (α:Type):=Ks α->(E->Qa->α)->E->Qa->α
section
variable (α:Type) (bad:α) (P:Program) (call:Xb) (n F:Nat)
def QII (k:E->Qa->α)(e:E)(d:Option Nat)(r:Cls×Value×Qa):α:=
 Prod.rec (motive:=λ_=>α) (λ_ q=>Prod.rec (motive:=λ_=>α) (λv H=>k (QBM e d v) H) q) r
def QEW (o:Oper)(k:E->Qa->α)(e:E)(H:Qa):α:=
 Option.rec (motive:=λ_=>α) bad (QII α k e o.dst) (aop P call o (Kl e) H)
def Qy8 (ops:Array Oper)(o:Oper)(k:E->Qa->α)(e:E)(H:Qa):α:=
 Option.rec (motive:=λ_=>α) bad (λb=>Bool.rec (motive:=λ_=>α) (k (QBM e o.dst undef) H) (QEW α bad P call o k e H) b) (ZF n ops (Kl e) o)
def Qy9 (ops:Array Oper)(ks:Ks α)(o:Oper)(k:E->Qa->α)(e:E)(H:Qa):α:=
 Bool.rec (motive:=λ_=>α) bad (Option.rec (motive:=λ_=>α) (QEW α bad P call o k e H) (λ_=>Qy8 α bad P call n ops o k e H) o.guard) (Qjo P n o)
def QuB (ops:Array Oper)(ks:Ks α)(l:List Oper):(E->Qa->α)->E->Qa->α:=
 List.rec (motive:=λ_=>(E->Qa->α)->E->Qa->α) (λk=>k) (λo _ q k=>Qy9 α bad P call n ops ks o (q k)) l
def Qza (ops:Array Oper)(k:E->Qa->α)(e:E)(H:Qa):α:=
 match QrF P call n ops (Kl e) H with
 | some (l,_,H1)=>k (Qvq ops.toList l e) H1
 | none=>bad
def QDa (_:Nat)(ops:Array Oper)(q:Bool):KT α:=λks k=>
 Bool.rec (motive:=λ_=>E->Qa->α) (QuB α bad P call n ops ks ops.toList k) (Qza α bad P call n ops k) q
def vb (v:Value)(t f:α):α:=
 match v with
 | .bool b=>Bool.rec (motive:=λ_=>α) f t b
 | _=>bad
def Qzb (x:Operand)(_ _:Code)(q aa:KT α):KT α:=λks k e H=>
 Bool.rec (motive:=λ_=>α) bad (vb α bad (ev (Kl e) x) (q ks k e H) (aa ks k e H)) (Qff P n x)
def QDb:KT α:=λ_ k=>k
def QIJ (_ _:Code)(q aa:KT α):KT α:=λks k=>q ks (aa ks k)
def QEX (id:Nat)(_:Code)(q:KT α):KT α:=λks k=>
 q ⟨ks.ret,λj=>Bool.rec (motive:=λ_=>E->Qa->α) (ks.ext j) k (Nat.beq j id),ks.jmp,ks.pan⟩ k
def QHc (_:Code)(q:KT α):KT α:=λks _=>
 Nat.rec (motive:=λ_=>E->Qa->α) (λ_ _=>bad) (λ_ k=>q ks k) F
def QAQ:KT α:=λ_ _ _ _=>bad
def QHd (id:Nat):KT α:=λks _=>ks.ext id
def QHe (l:Nat):KT α:=λks _=>ks.jmp l
def QIK:KT α:=λks _=>ks.ret
def Qzc (q:Code->KT α)(body:Code)(ks:Ks α)(k:E->Qa->α)(m:Nat):Code->E->Qa->α:=
 Nat.rec (motive:=λ_=>Code->E->Qa->α) (λ_ _ _=>bad)
  (λ_ aa ab=>q ab ⟨ks.ret,ks.ext,λl=>Option.rec (motive:=λ_=>E->Qa->α) (ks.jmp l) aa (findLabel body l),ks.pan⟩ k) m
def QEY (q:Code->KT α)(body:Code)(_:KT α):KT α:=λks k=>Qzc α bad q body ks k F body
def Qzd (A:Env)(ks:Ks α)(k:E->Qa->α)(e:E)(l:Nat)(H2:Qa):α:=
 match H2.get l with
 | some (.loop _ _ _ _ _ st)=>(match st with
  | none=>k e (H2.kill l)
  | some .ret=>ks.ret e (H2.kill l)
  | some (.exit id)=>ks.ext id e (H2.kill l)
  | some (.goto t)=>ks.jmp t e (H2.kill l)
  | _=>bad)
 | _=>bad
def Qze (q:FuncId)(xs ys:Array Value)(ac:Array Tmp)(aa ab:Code)(ks:Ks α)(k:E->Qa->α)(e:E)(H:Qa):α:=
 Bool.rec (motive:=λ_=>α) bad (Option.rec (motive:=λ_=>α) bad (λr=>Qzd α bad (Kl e) ks k e H.next r.2) (call.fn q (xs.toList++[.func (.yield H.next) #[] #[]]++ys.toList) (H.push (.loop (Kl e) n ac aa ab none)))) (entered P q)
def Qj8 (g:Operand)(ab:Array Tmp)(q aa:Code)(_ _:KT α):KT α:=λks k e H=>
 Bool.rec (motive:=λ_=>α) bad (match ev (Kl e) g with
  | .func (.func gf) xs ys=>Qze α bad P call n gf xs ys ab q aa ks k e H
  | _=>bad) (Qff P n g)
def QHf (q:Code->KT α)(c:Code):KT α:=
 Code.rec (motive:=λ_=>KT α) (QDb α) (QDa α bad P call n) (QIJ α) (Qzb α bad P n) (QEX α) (QHc α bad F) (Qj8 α bad P call n) (QHd α) (QEY α bad F q)
  (λ_=>QDb α) (QHe α) (QIK α) (λ_=>QAQ α bad) c
def exec (G:Nat):Code->KT α:=
 Nat.rec (motive:=λ_=>Code->KT α) (λ_=>QAQ α bad) (λ_ q=>QHf α bad P call n F q) G
end
section
variable {α:Type} {bad:α} {P:Program} {call:Xb} {n F:Nat} {Q:Ex->Env->Qa->Prop} {A B:Env} {H:Qa}
theorem Qek.rep {z:Rd}{ρ:Ren}{w:World}{a:Act}(h:∀t,t<n->A t=B t)(q:Qek z ρ H w n B a):Qek z ρ H w n A a:=⟨⟨q.size,λt aa=>by rw[h t aa];exact q.tmps t aa⟩,q.fr⟩
theorem AWp.rep {c:Code}(h:∀t,t<n->A t=B t)(ab:AWp P n c Q A H):AWp P n c Q B H:=λz ρ w a aa q=>ab z ρ w a aa (q.rep h)
theorem Qmy.rep {ops:Array Oper}{l:List Oper}(h:∀t,t<n->A t=B t)(ab:Qmy P n ops l Q A H):Qmy P n ops l Q B H:=λz ρ w a aa q=>ab z ρ w a aa (q.rep h)
theorem Qj5.rep {c:Code}(h:∀t,t<n->A t=B t)(ab:Qj5 P n c Q A H):Qj5 P n c Q B H:=λz ρ w a aa q=>ab z ρ w a aa (q.rep h)
theorem Qfi.rep {b c:Code}(h:∀t,t<n->A t=B t)(ab:Qfi P n b c Q A H):Qfi P n b c Q B H:=λz ρ w a aa q=>ab z ρ w a aa (q.rep h)
theorem AWp.post {c:Code}{Q':Ex->Env->Qa->Prop}(h:∀e A H,Q e A H->Q' e A H)(ab:AWp P n c Q A H):AWp P n c Q' A H:=λz ρ w a aa q=>
 FF (ab z ρ w a aa q) (λe a' w' ⟨e',ρ',A',H',hq,h1⟩=>⟨e',ρ',A',H',h _ _ _ hq,h1⟩)
def QBU (good:α->Prop)(n:Nat)(ks:Ks α)(k:E->Qa->α):Ex->Env->Qa->Prop
 | .normal,A,H=>∃e,Rep n A e∧good (k e H)
 | .ret,A,H=>∃e,Rep n A e∧good (ks.ret e H)
 | .exit j,A,H=>∃e,Rep n A e∧good (ks.ext j e H)
 | .goto l,A,H=>∃e,Rep n A e∧good (ks.jmp l e H)
 | .panic v,A,H=>∃e,Rep n A e∧good (ks.pan v e H)
theorem QAR (aa:n<=256){o:Oper}(h:Qjo P n o=true):QnA 256 o.dst=true:=by
 have:=QjZ h;cases q:o.dst with
 | none=>rfl
 | some d=>rw[q]at this;simp only[QnA,B5]at this ⊢;omega
variable {good:α->Prop} (hbad:¬good bad) (hn:n<=256) (hcall:QhU P call)
include hbad hn hcall
theorem QqB {ops:Array Oper}{ks:Ks α}{k:E->Qa->α}:∀ (l:List Oper) (e:E) (H:Qa),good (QuB α bad P call n ops ks l k e H)->Qmy P n ops l (QBU good n ks k) (Kl e) H
 | [],e,H,h=>QwR ⟨e,λ_ _=>rfl,h⟩
 | o::rest,e,H,h=>by
  have h:good (Qy9 α bad P call n ops ks o (QuB α bad P call n ops ks rest k) e H):=h;unfold Qy9 at h;cases aa:Qjo P n o with
  | false=>rw[aa]at h;exact absurd h hbad
  | true=>
   rw[aa]at h;have next:∀v H',good (QuB α bad P call n ops ks rest k (QBM e o.dst v) H')->Qmy P n ops rest (QBU good n ks k) (GG (Kl e) o.dst v) H':=λv H' q=>
    (QqB rest _ _ q).rep (λt aj=>Qw6 e v (QAR hn aa) t (by omega))
   have ah:∀ (h:good (QEW α bad P call o (QuB α bad P call n ops ks rest k) e H)),∃v H',QD P o (Kl e) H v H'∧Qmy P n ops rest (QBU good n ks k) (GG (Kl e) o.dst v) H':=λh=>by
    unfold QEW at h;cases ae:aop P call o (Kl e) H with
    | none=>rw[ae]at h;exact absurd h hbad
    | some r=>
     obtain⟨c,v,H'⟩:=r;rw[ae]at h;exact⟨v,H',(Qps hcall ae).does,next v H' h⟩
   cases q:o.guard with
   | none=>
    rw[q]at h;obtain⟨v,H',ac,ad⟩:=ah h;exact Quo q ac aa ad
   | some ai=>
    rw[q]at h;obtain⟨j,ak⟩:=ai;have h:good (Qy8 α bad P call n ops o (QuB α bad P call n ops ks rest k) e H):=h;unfold Qy8 at h;cases ab:ZF n ops (Kl e) o with
    | none=>rw[ab]at h;exact absurd h hbad
    | some b=>
     rw[ab]at h;cases b with
     | true=>
      obtain⟨v,H',ac,ad⟩:=ah h;exact Qfn q ab (λ_=>⟨v,H',ac,ad⟩) (λag=>by cases ag) aa
     | false=>exact Qfn q ab (λag=>by cases ag) (λ_=>next undef H h) aa
omit hbad hcall in
theorem QmJ:∀ (l:List Oper) (e:E) (A:Env) (H:Qa) (tr:List Stp) (A1:Env) (H1:Qa) {ops:Array Oper},GS P call n ops l A H=some (tr,A1,H1)->Rep n A e->Rep n A1 (Qvq l tr e)
 | [],e,A,H,tr,A1,H1,ops,h,hr=>by
  simp only[GS,Lt,LB]at h;obtain⟨rfl,rfl,rfl⟩:=h;exact hr
 | o::rest,e,A,H,tr,A1,H1,ops,h,hr=>by
  have step:∀v,Qjo P n o=true->Rep n (GG A o.dst v) (QBM e o.dst v):=λv q t ad=>by
   rw[Qw6 e v (QAR hn q) t (by omega)];cases o.dst with
   | none=>exact hr t ad
   | some d=>
    simp only[GG]
    by_cases aa:t=d
    ·subst aa;simp
    ·rw[QhK _ _ aa,QhK _ _ aa];exact hr t ad
  unfold GS at h;cases q:Qjo P n o with
  | false=>rw[q]at h;cases h
  | true=>
   rw[q]at h;simp only[Lq]at h;split at h
   ·split at h
    ·rename_i c v H' ag;split at h
     ·rename_i ae r ab;simp only[Lt,LB]at h;obtain⟨rfl,ac⟩:=h;subst ac;exact QmJ rest _ _ _ _ _ _ ab (step v q)
     ·cases h
    ·cases h
   ·split at h
    ·rename_i ae r ab;simp only[Lt,LB]at h;obtain⟨rfl,ac⟩:=h;subst ac;exact QmJ rest _ _ _ _ _ _ ab (step undef q)
    ·cases h
   ·cases h
theorem QmK:∀ (G:Nat) (c:Code) (ks:Ks α) (k:E->Qa->α) (e:E) (H:Qa),good (exec α bad P call n F G c ks k e H)->AWp P n c (QBU good n ks k) (Kl e) H:=by
 intro G
 induction G with
 | zero=>intro c ks k e H h;exact absurd h hbad
 | succ G aC=>
  intro c
  induction c with
  | skip=>intro ks k e H h;exact QrO ⟨e,λ_ _=>rfl,h⟩
  | label l=>intro ks k e H h;exact Qun ⟨e,λ_ _=>rfl,h⟩
  | ret=>intro ks k e H h;exact QAG ⟨e,λ_ _=>rfl,h⟩
  | exit id=>intro ks k e H h;exact QwP ⟨e,λ_ _=>rfl,h⟩
  | goto l=>intro ks k e H h;exact QwQ ⟨e,λ_ _=>rfl,h⟩
  | refuse s=>intro ks k e H h;exact absurd h hbad
  | rangeFunc g av ao aq am an=>
   intro ks k e H h;have h:good (Qj8 α bad P call n g av ao aq (QAQ α bad) (QAQ α bad) ks k e H):=h;unfold Qj8 at h;cases ae:Qff P n g with
   | false=>rw[ae]at h;exact absurd h hbad
   | true=>
    rw[ae]at h;have h:good (match ev (Kl e) g with | .func (.func aj) xs ys=>Qze α bad P call n aj xs ys av ao aq ks k e H | _=>bad):=h;split at h
    ·rename_i aj xs ys az;unfold Qze at h;cases ah:entered P aj with
     | false=>rw[ah]at h;exact absurd h hbad
     | true=>
      rw[ah]at h;cases ag:call.fn aj (xs.toList++[.func (.yield H.next) #[] #[]]++ys.toList) (H.push (.loop (Kl e) n av ao aq none)) with
      | none=>rw[ag]at h;exact absurd h hbad
      | some r=>
       obtain⟨v,H2⟩:=r;rw[ag]at h;have h:good (Qzd α bad (Kl e) ks k e H.next H2):=h;have aa:=(hcall.fn _ _ _ _ _ ag).does ah;unfold Qzd at h;split at h
       ·rename_i A' aG aH aE aF st aA;refine Ql3 ae az ah (.inl ⟨ah,aa⟩) aA ?_;cases st with
        | none=>exact⟨e,λ_ _=>rfl,h⟩
        | some c=>
         cases c<;>simp only at h<;>first
          | exact⟨e,λ_ _=>rfl,h⟩
          | exact absurd h hbad
       ·exact absurd h hbad
    ·exact absurd h hbad
  | region id ops ay=>
   intro ks k e H h;cases ay with
   | false=>
    have:=QqB (ks:=ks) hbad hn hcall ops.toList e H h;exact QrP (l:=ops.toList) (by simpa using this)
   | true=>
    have h:good (Qza α bad P call n ops k e H):=h;unfold Qza at h;split at h
    ·rename_i l A1 H1 aa;refine QtA hcall aa ⟨Qvq ops.toList l e,?_,h⟩;unfold QrF at aa;cases ag:(P.follows .mixedOrders&&Qf9 ops (Yk ops)) with
     | false=>rw[ag]at aa;cases aa
     | true=>
      rw[ag]at aa;simp only[Lq]at aa;split at aa
      ·rename_i ax aI H1' aB;cases aw:Qpt (QhV P ops (QX ops.toList []) ax H1') 0 ax with
       | true=>
        rw[aw]at aa;simp only[Lq,Lt,LB]at aa;obtain⟨rfl,rfl,rfl⟩:=aa;exact QmJ hn _ _ _ _ _ _ _ aB (λ_ _=>rfl)
       | false=>rw[aw]at aa;cases aa
      ·cases aa
    ·exact absurd h hbad
  | seq a b am an=>
   intro ks k e H h;refine QnB ((am ks _ e H h).post ?_);intro ac A1 H1 ab;cases ac with
   | normal=>
    obtain⟨e1,ad,q⟩:=ab;exact(an ks k e1 H1 q).rep (λt ai=>(ad t ai).symm)
   | _=>exact ab
  | cond x a b am an=>
   intro ks k e H h;have h:good (Qzb α bad P n x a b (exec α bad P call n F (G+1) a) (exec α bad P call n F (G+1) b) ks k e H):=h;unfold Qzb at h;cases ae:Qff P n x with
   | false=>rw[ae]at h;exact absurd h hbad
   | true=>
    rw[ae]at h;have h:good (vb α bad (ev (Kl e) x) (exec α bad P call n F (G+1) a ks k e H) (exec α bad P call n F (G+1) b ks k e H)):=h;unfold vb at h;split at h
    ·rename_i t ac;cases t with
     | true=>exact QnC ae ac (am ks k e H h)
     | false=>exact QnC ae ac (an ks k e H h)
    ·exact absurd h hbad
  | block id b al=>
   intro ks k e H h;refine Qeg ((al _ k e H h).post ?_);intro ac A1 H1 ab;cases ac with
   | exit j=>
    obtain⟨e1,ad,q⟩:=ab;simp only[QnD];have q:good (Bool.rec (motive:=λ_=>E->Qa->α) (ks.ext j) k (Nat.beq j id) e1 H1):=q
    by_cases ak:j=id
    ·rw[Lc ak];subst ak;have:Nat.beq j j=true:=by simp
     rw[this]at q;exact⟨e1,ad,q⟩
    ·rw[Le ak];have:Nat.beq j id=false:=by simp[Kk,ak]
     rw[this]at q;exact⟨e1,ad,q⟩
   | _=>exact ab
  | loop b al=>
   intro ks k e H h;refine Qqp ?_;have key:∀ (m:Nat) (e:E) (H:Qa),good (Nat.rec (motive:=λ_=>E->Qa->α) (λ_ _=>bad) (λ_ k=>exec α bad P call n F (G+1) b ks k) m e H)->Qj5 P n b (QBU good n ks k) (Kl e) H:=by
    intro m
    induction m with
    | zero=>intro e H h;exact absurd h hbad
    | succ m au=>
     intro e H h;refine Qgy ((al ks _ e H h).post ?_);intro ac A1 H1 ab;cases ac with
     | normal=>
      obtain⟨e1,ad,q⟩:=ab;exact(au e1 H1 q).rep (λt ai=>(ad t ai).symm)
     | _=>exact ab
   exact key F e H h
  | scope b al=>
   intro ks k e H h;refine QhQ ?_;have key:∀ (m:Nat) (c:Code) (e:E) (H:Qa),good (Qzc α bad (exec α bad P call n F G) b ks k m c e H)->Qfi P n b c (QBU good n ks k) (Kl e) H:=by
    intro m
    induction m with
    | zero=>intro c e H h;exact absurd h hbad
    | succ m au=>
     intro c e H h;refine VS ((aC c _ k e H h).post ?_);intro ac A1 H1 ab;cases ac with
     | goto l=>
      obtain⟨e1,ad,q⟩:=ab;simp only[QBH];have q:good (Option.rec (motive:=λ_=>E->Qa->α) (ks.jmp l) (Qzc α bad (exec α bad P call n F G) b ks k m) (findLabel b l) e1 H1):=q;split
      ·rename_i aD ar;rw[ar]at q;exact(au aD e1 H1 q).rep (λt ai=>(ad t ai).symm)
      ·rename_i ar;rw[ar]at q;exact⟨e1,ad,q⟩
     | _=>exact ab
   exact key F b e H h
end
/-! ### Functions -/
def Qw9 (P:Program)(fn:Func)(e:E)(H:Qa):Option (Value×Qa):=
 Option.rec (motive:=λ_=>Option (Value×Qa)) none (λv=>some (v,H)) (QmE P fn.ntmps fn.results (Kl e) H)
def Qzf (P:Program)(call:Xb)(F G:Nat)(fn:Func)(args:List Value)(H:Qa)(c:Code):Option (Value×Qa):=
 Bool.rec (motive:=λ_=>Option (Value×Qa)) none
  (exec (Option (Value×Qa)) none P call fn.ntmps F G c ⟨Qw9 P fn,λ_ _ _=>none,λ_ _ _=>none,λ_ _ _=>none⟩ (Qw9 P fn) (Qux args 0 E.none) H)
  (Nat.ble fn.ntmps 256&&Nat.ble args.length fn.ntmps)
def Qvt (P:Program)(call:Xb)(F G:Nat)(f:FuncId)(args:List Value)(H:Qa)(fn:Func):Option (Value×Qa):=
 Bool.rec (motive:=λ_=>Option (Value×Qa)) none (Option.rec (motive:=λ_=>Option (Value×Qa)) none (Qzf P call F G fn args H) fn.body) (entered P f)
def Qjp (A:Env)(b:Nat):N16 Value:=⟨A b,A (b+1),A (b+2),A (b+3),A (b+4),A (b+5),A (b+6),A (b+7),A (b+8),A (b+9),A (b+10),A (b+11),A (b+12),A (b+13),A (b+14),A (b+15)⟩
def eOf (A:Env):E:=⟨Qjp A 0,Qjp A 16,Qjp A 32,Qjp A 48,Qjp A 64,Qjp A 80,Qjp A 96,Qjp A 112,Qjp A 128,Qjp A 144,Qjp A 160,Qjp A 176,Qjp A 192,Qjp A 208,Qjp A 224,Qjp A 240⟩
theorem QDc (A:Env)(b:Nat)(d:D):(Qjp A b).get d=A (b+d.num):=by cases d<;>rfl
theorem QEZ (A:Env)(d:D):(eOf A).get d=Qjp A (16 * d.num):=by cases d<;>rfl
theorem QDd (A:Env){t:Nat}(q:t<256):Kl (eOf A) t=A t:=by
 have e1:∀x y:Nat,Nat.div x y=x / y:=λ_ _=>rfl;have e2:∀x y:Nat,Nat.mod x y=x % y:=λ_ _=>rfl;simp only[Kl,e1,e2];rw[QEZ,QDc,QrE (by omega),QrE (by omega)];congr 1;omega
def Qxa (l:Nat)(A:Env)(n:Nat)(ab:Array Tmp)(q aa:Code)(st:Option Code)(b:Bool)(H:Qa):Option (Value×Qa):=some (.bool b,H.set l (.loop A n ab q aa st))
def QHg (P:Program)(call:Xb)(F G:Nat)(l:Nat)(A:Env)(n:Nat)(ab:Array Tmp)(aa q:Code)(e:E)(H:Qa):Option (Value×Qa):=
 exec (Option (Value×Qa)) none P call n F G q ⟨λ_ H1=>Qxa l A n ab aa q (some .ret) false H1,λj _ H1=>Qxa l A n ab aa q (some (.exit j)) false H1,λj _ H1=>Qxa l A n ab aa q (some (.goto j)) false H1,λ_ _ _=>none⟩
  (λ_ H1=>Qxa l A n ab aa q none true H1) e H
def Qvu (P:Program)(call:Xb)(F G:Nat)(l:Nat)(args:List Value)(H:Qa):Option (Value×Qa):=
 match H.get l with
 | some (.loop A n ps as bd none)=>
  bif Nat.ble n 256&&Nat.beq args.length ps.size then
   exec (Option (Value×Qa)) none P call n F G as ⟨λ_ _=>none,λ_ _ _=>none,λ_ _ _=>none,λ_ _ _=>none⟩ (QHg P call F G l A n ps as bd) (eOf (Qqq A ps.toList args)) (H.kill l)
  else none
 | _=>none
theorem QtB {P:Program}{call:Xb}(ad:QhU P call){F G:Nat}{l:Nat}{args:List Value}{H H':Qa}{v:Value}(h:Qvu P call F G l args H=some (v,H')):Quv P l args H v H':=by
  unfold Qvu at h;split at h
  · rename_i A n ao ai aj al
    cases aa:(Nat.ble n 256&&Nat.beq args.length ao.size) with
    | false=>rw[aa]at h;cases h
    | true=>
      rw[aa]at h;simp only[Lq]at h;simp only[Lm,BL,Kk,Lv]at aa;refine Qqr al aa.2 ?_;have an:=QmK (good:=λr:Option (Value×Qa)=>r=some (v,H')) (by simp) aa.1 ad G ai _ _ _ (H.kill l) h;refine(an.post ?_).rep (λt ah=>QDd _ (by omega));intro ac A1 H1 ab;cases ac with
      | normal=>
        obtain⟨e,am,ak⟩:=ab;have body:=QmK (good:=λr:Option (Value×Qa)=>r=some (v,H')) (by simp) aa.1 ad G aj _ _ _ H1 ak;refine(body.post ?_).rep (λt ah=>(am t ah).symm);intro ac A2 H2 ag;cases ac<;>first
          | (obtain⟨e2,_,ae⟩:=ag
             simp only[Qxa,Lt,LB]at ae;obtain⟨g1,g2⟩:=ae;exact⟨g1.symm,by rw[<- g2];exact .refl _⟩)
          | (obtain⟨_,_,q⟩:=ag;cases q)
      | ret=>obtain⟨_,_,q⟩:=ab;cases q
      | exit j=>obtain⟨_,_,q⟩:=ab;cases q
      | goto j=>obtain⟨_,_,q⟩:=ab;cases q
      | panic u=>obtain⟨_,_,q⟩:=ab;cases q
  · cases h
def run (P:Program)(aa:CallF)(F G:Nat)(k:Nat):Xb:=
 Nat.rec (motive:=λ_=>Xb) ⟨λ_ _ _=>none,λ_ _ _=>none⟩
  (λ_ q=>⟨λf args H=>Option.rec (motive:=λ_=>Option (Value×Qa)) (Option.rec (motive:=λ_=>Option (Value×Qa)) none (Qvt P q F G f args H) P.funcs[f]?) some (aa f args H),Qvu P q F G⟩) k
theorem QBV {P:Program}{fn:Func}{A1:Env}{H1 H':Qa}{e:E}{v:Value}(ac:Rep fn.ntmps A1 e)(q:Qw9 P fn e H1=some (v,H')):∃ad,Out.ret v=.ret ad∧QmE P fn.ntmps fn.results A1 H1=some ad∧GF H' H1:=by
 unfold Qw9 at q;cases ab:QmE P fn.ntmps fn.results (Kl e) H1 with
 | none=>rw[ab]at q;cases q
 | some u=>
  rw[ab]at q;have q:some (u,H1)=some (v,H'):=q;simp only[Lt,LB]at q;obtain⟨e1,e2⟩:=q;rw[<- e1,<- e2];refine⟨_,rfl,?_,.refl _⟩;rw[<- ab];have ae:∀r,Qc0 P fn.ntmps A1 H1 r=Qc0 P fn.ntmps (Kl e) H1 r:=λr=>by
   cases r with
   | tmp t=>
    simp only[Qc0]
    by_cases aa:t<fn.ntmps
    ·simp only[aa,N3,ac t aa]
    ·simp only[aa,LN]
   | cell a t=>
    simp only[Qc0]
    by_cases aa:a<fn.ntmps
    ·simp only[aa,N3,ac a aa]
    ·simp only[aa,LN]
  unfold QmE;rw[show Qc0 P fn.ntmps A1 H1=Qc0 P fn.ntmps (Kl e) H1 from funext ae]
theorem Qvv {P:Program}{call:Xb}(ah:QhU P call){F G:Nat}{f:FuncId}{fn:Func}{c:Code}{args:List Value}{H H':Qa}{v:Value}(ai:P.funcs[f]? = some fn)(hb:fn.body=some c)
  (h:Qzf P call F G fn args H c=some (v,H')):Qgx P f args H (.ret v) H':=by
 unfold Qzf at h;cases ab:(Nat.ble fn.ntmps 256&&Nat.ble args.length fn.ntmps) with
 | false=>rw[ab]at h;cases h
 | true=>
  rw[ab]at h;simp only[Lm,BL]at ab;have ae:args.length+(fn.ntmps - args.length)=fn.ntmps:=by omega
  refine QrW ai hb ?_;rw[ae];have aj:=QmK (good:=λr:Option (Value×Qa)=>r=some (v,H')) (by simp) ab.1 ah G c _ _ _ H h;have ac:∀ (A1:Env) (H1:Qa),(∃e,Rep fn.ntmps A1 e∧Qw9 P fn e H1=some (v,H'))->∃ad,Out.ret v=.ret ad∧QmE P fn.ntmps fn.results A1 H1=some ad∧GF H' H1:=λA1 H1 ⟨e,hr,hk⟩=>QBV hr hk;refine(aj.post ?_).rep (λt ak=>QBO (by omega) t (by omega));intro ag A1 H1 q;cases ag with
  | normal=>exact ac A1 H1 q
  | ret=>exact ac A1 H1 q
  | exit j=>obtain⟨_,_,aa⟩:=q;cases aa
  | goto j=>obtain⟨_,_,aa⟩:=q;cases aa
  | panic u=>obtain⟨_,_,aa⟩:=q;cases aa
theorem Qpx {P:Program}{aa:CallF}(ag:CallOk P aa){F G:Nat}:∀k,QhU P (run P aa F G k):=by
 intro k
 induction k with
 | zero=>exact⟨λf args H v H' h=>(by cases h),λl args H v H' h=>(by cases h)⟩
 | succ k ae=>
  refine⟨λf args H v H' h=>?_,λl args H v H' h=>QtB ae h⟩;have h:Option.rec (motive:=λ_=>Option (Value×Qa)) (Option.rec (motive:=λ_=>Option (Value×Qa)) none (Qvt P (run P aa F G k) F G f args H) P.funcs[f]?) some (aa f args H)=some (v,H'):=h;cases ad:aa f args H with
  | some r=>rw[ad]at h;cases h;exact ag f args H v H' ad
  | none=>
   rw[ad]at h;cases ac:P.funcs[f]? with
   | none=>rw[ac]at h;cases h
   | some fn=>
    rw[ac]at h;have q:Qvt P (run P aa F G k) F G f args H fn=some (v,H'):=h;unfold Qvt at q;cases ab:entered P f with
    | false=>rw[ab]at q;cases q
    | true=>
     rw[ab]at q;cases hb:fn.body with
     | none=>rw[hb]at q;cases q
     | some c=>rw[hb]at q;exact .inl ⟨ab,Qvv ae ac hb q⟩
def xknown (xt:FuncId->Option Xk):CallF:=λf args H=>
 match xt f with
 | some k=>(k.val args).map λv=>(v,H)
 | none=>none
theorem xknown_ok {P:Program}{xt:FuncId->Option Xk}(h:∀f k,xt f=some k->IsExt P f k):CallOk P (xknown xt):=by
 intro f args H v H' q;unfold xknown at q;split at q
 ·rename_i k aa;simp only[Lx,LB]at q;obtain⟨u,ab,rfl,rfl⟩:=q;exact .inr (QCW (h f k aa) ab)
 ·cases q
def shN (G δ id:Nat):Nat:=bif Nat.blt id G then id else id+δ
def shV (G δ:Nat):Nat->Value->Value
 | 0,v=>v
 | f+1,v=>match v with
  | .pointer (some a)=>.pointer (some ⟨shN G δ a.block,a.off,a.spot⟩)
  | .slice (some a) l c=>.slice (some ⟨shN G δ a.block,a.off,a.spot⟩) l c
  | .map (some r)=>.map (some (shN G δ r))
  | .iface t v=>.iface t (shV G δ f v)
  | .agg xs=>.agg (xs.toList.map (shV G δ f)).toArray
  | .tuple xs=>.tuple (xs.toList.map (shV G δ f)).toArray
  | .func fn xs ys=>.func fn (xs.toList.map (shV G δ f)).toArray (ys.toList.map (shV G δ f)).toArray
  | v=>v
def okD:Nat->Value->Bool
 | 0,v=>plain v
 | f+1,v=>match v with
  | .iface _ v=>okD f v
  | .agg xs=>xs.toList.all (okD f)
  | .tuple xs=>xs.toList.all (okD f)
  | .func fn xs ys=>Qd2 fn&&xs.toList.all (okD f)&&ys.toList.all (okD f)
  | _=>true
theorem QCb (G δ:Nat):∀ (f:Nat) (v:Value),plain v=true->shV G δ f v=v
 | 0,v,_=>rfl
 | f+1,v,h=>by
  unfold shV;split<;>first | (simp[plain]at h;done) | rfl
theorem QIS {ρ ρ':Ren}{G δ:Nat}(ak:∀id i,ρ id=some i->ρ' (shN G δ id)=some i):∀ (f:Nat) {v ad:Value},V ρ v ad->okD f v=true->V ρ' (shV G δ f v) ad:=by
 intro f
 induction f with
 | zero=>
  intro v ad h aa;rw[h.plain_eq aa];exact .same _ aa
 | succ f an=>
  intro v ad h aa;have ai:∀ (xs q:Array Value),xs.size=q.size->(∀ (j:Nat) x x',xs[j]? = some x->q[j]? = some x'->V ρ x x')->xs.toList.all (okD f)=true->
    (xs.toList.map (shV G δ f)).toArray.size=q.size∧∀ (j:Nat) x x',(xs.toList.map (shV G δ f)).toArray[j]? = some x->q[j]? = some x'->V ρ' x x':=by
   intro xs q ab ac ae;refine⟨by simp[ab],λj x x' e e'=>?_⟩;simp only[List.getElem?_toArray,LD,Bl,Lx]at e;obtain⟨y,am,rfl⟩:=e;exact an (ac j y x' am e') (Li.1 ae y (by simpa using BB am))
  cases h with
  | same v al=>rw[QCb G δ (f+1) v al];exact .same v al
  | ptr id off i h=>exact .ptr _ off i (ak id i h)
  | slice id off len cap ar i aq h ab ac au ae aj=>exact .slice _ off len cap ar i aq (ak id i h) ab ac au ae aj
  | map id i h=>exact .map _ i (ak id i h)
  | func fn xs ys q ao av ab ac ae aj=>
   simp only[okD,Lm]at aa;obtain⟨ag,ah⟩:=ai xs q ab ae aa.1.2;obtain⟨aw,ax⟩:=ai ys ao ac aj aa.2;exact .func fn _ _ q ao av ag aw ah ax
  | yield l i h=>simp[okD,Qd2]at aa
  | iface t v ad h=>exact .iface t _ ad (an h aa)
  | agg xs q ab ac=>
   obtain⟨ag,ah⟩:=ai xs q ab ac aa;exact .agg _ q ag ah
  | tuple xs q ab ac=>
   obtain⟨ag,ah⟩:=ai xs q ab ac aa;exact .tuple _ q ag ah
structure Row where
 src:Nat
 c:List Value
 e:TypeId
 ro:Bool
def Row.blk (G δ:Nat)(r:Row):Blk:=.cells (r.c.map (shV G δ 6)) r.e r.ro
def Qss (G δ:Nat):List Row->Qa->Qa
 | [],H=>H
 | r::rs,H=>Qss G δ rs (H.push (r.blk G δ))
def QtM (G:Nat)(rs:List Row)(H:Qa):Qa:=Qss G (H.next - G) rs H
theorem Qst {G δ:Nat}:∀ (rs:List Row) (H:Qa),(Qss G δ rs H).next=H.next+rs.length
 | [],H=>rfl
 | r::rs,H=>by simp only[Qss,Qst rs,Qd,Lo];omega
theorem QuJ {G δ:Nat}:∀ (rs:List Row) (H:Qa) (id:Nat),(Qss G δ rs H).get id=if H.next<=id∧id<H.next+rs.length then(rs[id - H.next]?).map (Row.blk G δ) else H.get id
 | [],H,id=>by simp only[Qss,L9];rw[Le (by omega)]
 | r::rs,H,id=>by
  simp only[Qss,QuJ rs,Qd,Lo,Qc]
  by_cases q:id=H.next
  ·subst q;rw[Le (by omega),Lc rfl,Lc ⟨by omega,by omega⟩];simp
  ·by_cases aa:H.next+1<=id∧id<H.next+1+rs.length
   ·rw[Lc aa,Lc ⟨by omega,by omega⟩,show id - H.next=(id - (H.next+1))+1 by omega];simp
   ·rw[Le aa,Le q,Le (by omega)]
def QdN (G:Nat)(rs:List Row)(b:Nat):Option Nat:=bif Nat.blt b G then some b else(rs[b - G]?).map (·.src)
def QFz (o:Option Nat)(a:Nat):Bool:=match o with | some b=>Nat.beq b a | none=>false
theorem QAZ {o:Option Nat}{a:Nat}(h:QFz o a=true):o=some a:=by
 cases o with
 | none=>cases h
 | some b=>simp only[QFz,Kk,Lv]at h;rw[h]
def QpF (a:Addr):Bool:=match a.spot with | none=>true | some _=>false
def mtV (σ:Nat->Option Nat):Nat->Value->Value->Bool
 | 0,v,u=>plain v&&QgC 8 v u
 | f+1,v,u=>match v,u with
  | .pointer (some a),.pointer (some b)=>QFz (σ b.block) a.block&&Nat.beq a.off b.off&&QpF b
  | .slice (some a) l c,.slice (some b) l' c'=>QFz (σ b.block) a.block&&Nat.beq a.off b.off&&QpF b&&Nat.beq l l'&&Nat.beq c c'
  | .iface t v,.iface t' u=>Nat.beq t t'&&mtV σ f v u
  | .agg xs,.agg ys=>QbO (mtV σ f) xs.toList ys.toList
  | .tuple xs,.tuple ys=>QbO (mtV σ f) xs.toList ys.toList
  | v,u=>plain v&&QgC 8 v u
theorem QgV {eq:Value->Value->Bool}:∀ {xs ys:List Value},QbO eq xs ys=true->xs.length=ys.length∧∀ (j:Nat) x y,xs[j]? = some x->ys[j]? = some y->eq x y=true
 | [],[],_=>⟨rfl,λj x y h=>by simp at h⟩
 | x::xs,y::ys,h=>by
  simp only[QbO,Lm]at h;obtain⟨aa,ab⟩:=QgV h.2;refine⟨by simp[aa],λj a b q hb=>?_⟩;cases j with
  | zero=>simp at q hb;subst q;subst hb;exact h.1
  | succ j=>exact ab j a b (by simpa using q) (by simpa using hb)
 | [],_::_,h=>by simp[QbO]at h
 | _::_,[],h=>by simp[QbO]at h
theorem QA0 {σ:Nat->Option Nat}{ρ ρ':Ren}(an:∀a b i,σ b=some a->ρ a=some i->ρ' b=some i):∀ (f:Nat) {v u ad:Value},mtV σ f v u=true->V ρ v ad->V ρ' u ad:=by
 intro f;have aq:∀ {v u ad:Value},(plain v&&QgC 8 v u)=true->V ρ v ad->V ρ' u ad:=λh ab=>by
  simp only[Lm]at h;rw[<- Qfm 8 _ _ h.2,ab.plain_eq h.1];exact .same _ h.1
 induction f with
 | zero=>intro v u ad h ab;exact aq h ab
 | succ f ao=>
  intro v u ad h ab;have ak:∀ (xs ys aa:Array Value),xs.size=aa.size->(∀ (j:Nat) x x',xs[j]? = some x->aa[j]? = some x'->V ρ x x')->QbO (mtV σ f) xs.toList ys.toList=true->
    ys.size=aa.size∧∀ (j:Nat) x x',ys[j]? = some x->aa[j]? = some x'->V ρ' x x':=by
   intro xs ys aa ac q ae;obtain⟨g1,g2⟩:=QgV ae;simp only[Array.length_toList]at g1;refine⟨by omega,λj x x' e e'=>?_⟩;have am:j<xs.size:=by rw[ac];exact(Nj.1 e').1
   exact ao (g2 j xs[j] x (by simp[am]) (by simpa using e)) (q j _ x' (Ng am) e')
  unfold mtV at h;split at h
  ·rename_i a b;simp only[Lm,Kk,Lv]at h;obtain⟨⟨ac,q⟩,ae⟩:=h;obtain⟨i,g1,g2,g3⟩:=ab.ptr_inv;rw[g3,q];obtain⟨b0,ah,bs⟩:=b;have:bs=none:=by cases bs with | none=>rfl | some _=>cases ae
   subst this;exact .ptr b0 ah i (an _ _ i (QAZ ac) g1)
  ·rename_i a l c b aC c';simp only[Lm,Kk,Lv]at h;obtain⟨⟨⟨⟨ac,q⟩,ae⟩,ax⟩,ay⟩:=h;obtain⟨i,ar,au,g1,g2,g3,g4,av,g0,al,aw⟩:=ab.slice_inv;subst ax;subst ay;rw[g3];obtain⟨b0,ah,bs⟩:=b;have:bs=none:=by cases bs with | none=>rfl | some _=>cases ae
   subst this;simp only at q;rw[q]at g4 al;exact .slice b0 ah l c au i ar (an _ _ i (QAZ ac) g1) g4 av g0 al aw
  ·rename_i t aE aD aA;simp only[Lm,Kk,Lv]at h;obtain⟨rfl,q⟩:=h;cases ab with
   | same _ ag=>simp[plain]at ag
   | iface _ _ aB az=>exact .iface t aA aB (ao q az)
  ·rename_i xs ys;cases ab with
   | same _ ag=>simp[plain]at ag
   | agg _ aa ac q=>obtain⟨ai,aj⟩:=ak xs ys aa ac q h;exact .agg ys aa ai aj
  ·rename_i xs ys;cases ab with
   | same _ ag=>simp[plain]at ag
   | tuple _ aa ac q=>obtain⟨ai,aj⟩:=ak xs ys aa ac q h;exact .tuple ys aa ai aj
  ·exact aq h ab
def QGR (G:Nat)(B:Qa):Prop:=B.next=G∧∀id b,B.get id=some b->∃c e,b=.cells c e true∧c.all plain=true
structure Qzw (G:Nat) (H1:Qa) (rs:List Row):Prop where
 row:∀ (k:Nat) (r:Row),rs[k]? = some r->G<=r.src∧r.c.all (okD 6)=true∧∃c1,H1.get r.src=some (.cells c1 r.e r.ro)∧QbO (mtV (QdN G rs) 6) c1 r.c=true
 inj:∀ (j k:Nat) (r r':Row),rs[j]? = some r->rs[k]? = some r'->j≠k->r.src≠r'.src
theorem Xg.turn {P:Program}{ρ ρ':Ren}{i:Kj}{w:World}{c u:List Value}{e:TypeId}{ro:Bool}(h:Xg P ρ i w (.cells c e ro))(ad:u.length=c.length)
  (ae:∀ (j:Nat) x y z,c[j]? = some x->u[j]? = some y->V ρ x z->V ρ' y z):Xg P ρ' i w (.cells u e ro):=by
 have ag:∀ (j:Nat) y,u[j]? = some y->∃x,c[j]? = some x:=λj y q=>by
  have:j<c.length:=by rw[<- ad];exact(Lk.1 q).1
  exact⟨c[j],La this⟩
 cases ro with
 | true=>
  refine⟨h.1,λj y q=>?_⟩;obtain⟨x,aa⟩:=ag j y q;obtain⟨z,ab,ac⟩:=h.2 j x aa;exact⟨z,ab,ae j x y z aa q ac⟩
 | false=>
  obtain⟨ah,ai,an,ab,ac,ao,aj,ak,al,am⟩:=h;refine⟨ah,ai,an,ab,ac,by omega,λj y q=>?_,ak,by rw[ad];exact al,am⟩;obtain⟨x,aa⟩:=ag j y q;obtain⟨z,g1,g2⟩:=aj j x aa;exact⟨z,g1,ae j x y z aa q g2⟩
theorem V.closed_eq {ρ:Ren}{v ad:Value}(h:V ρ v ad)(ac:ZC v=true):ad=v:=by
 have ae:∀xs q:Array Value,xs.all Ab.plain=true->xs.size=q.size->(∀ (j:Nat) x x',xs[j]? = some x->q[j]? = some x'->V ρ x x')->q=xs:=λxs q ai ag ah=>by
  apply Array.ext ag.symm;intro j ab aa;have:=ah j xs[j] q[j] (Ng aa) (Ng ab);exact this.plain_eq (B1.1 ai _ (Array.getElem_mem aa))
 cases h with
 | same v aj=>rfl
 | agg xs q ab aa=>rw[ae xs q ac ab aa]
 | tuple xs q ab aa=>rw[ae xs q ac ab aa]
 | iface t v ad h=>rw[h.plain_eq ac]
 | _=>simp[ZC,Ab.plain]at ac
theorem QIT {P:Program}{f:FuncId}{args:List Value}{v u:Value}{B H1:Qa}(hB:QGR P.globals.size B)(bh:Qgx P f args B (.ret v) H1)(ba:args.all ZC=true)
  {rs:List Row} (bq:mtV (QdN P.globals.size rs) 6 v u=true) (bp:okD 6 u=true) (aw:Qzw P.globals.size H1 rs) (H:Qa) (aZ:∀id b,B.get id=some b->H.get id=some b):
  Qgx P f args H (.ret (shV P.globals.size (H.next - P.globals.size) 6 u)) (QtM P.globals.size rs H):=by
 intro ρ w args' hs hargs;obtain⟨aY,aE⟩:=hB;have b1:P.globals.size<=H.next:=by
  rcases B6 P.globals.size with h | h
  ·omega
  ·obtain⟨i,hi,_⟩:=hs.glob (P.globals.size - 1) (by omega);have:=hs.dom _ _ hi;omega
 have bb:VL (WM ρ P.globals.size) args args':=⟨hargs.1,λj x x' e e'=>by
  have ay:ZC x=true:=Li.1 ba x (Ln e);rw[(hargs.2 j x x' e e').closed_eq ay];exact .closed ay⟩
 have bo:Sim P (WM ρ P.globals.size) B w:=by
  refine⟨λid j h=>by rw[aY];exact(Yj h).1,λid b i hb hi=>?_,λae ag az aD am an ab ac aa ah aA=>?_,λg aB=>?_⟩
  ·obtain⟨c,e,rfl,bc⟩:=aE id b hb;have:=hs.live id _ i (aZ id _ hb) (Yj hi).2;refine⟨this.1,λj u av=>?_⟩;obtain⟨b2,ab,ac⟩:=this.2 j u av;have ay:plain u=true:=Li.1 bc u (Ln av);rw[ac.plain_eq ay]at ab;exact⟨u,ab,.same u ay⟩
  ·obtain⟨c,e,rfl,_⟩:=aE ae az ab;cases aA
  ·obtain⟨j,av,e⟩:=hs.glob g aB;exact⟨j,ZE aB av,e⟩
 refine(bh _ w args' bo bb).mono ?_;rintro e w' ⟨ρ1,aO,al,aP⟩;have aN:∀id b,B.get id=some b->b.ro=true:=λid b h=>by obtain⟨c,e,rfl,_⟩:=aE id b h;rfl
 have aQ:∀b,b<w.heap.size->w'.heap[b]? = w.heap[b]? := λb hb=>al.frame b hb (λid i bl _ ac aa=>by rw[aN id bl ac]at aa;cases aa);have aL:∀id i,ρ1 id=some i->P.globals.size<=id->w.heap.size<=i.at_.block:=λid i h ad=>by
  have bk:WM ρ P.globals.size id=none:=by unfold WM;rw[Le (by omega)]
  rcases(al.fresh id i h bk).2 with h | ⟨id0,aU,b0,_,_,aa,ah⟩
  ·exact h
  ·rw[aN id0 b0 aa]at ah;cases ah
 have aF:∀id,Nat.blt id P.globals.size=decide (id<P.globals.size):=λid=>by
  cases hb:Nat.blt id P.globals.size with
  | false=>
   by_cases h:id<P.globals.size
   ·have:Nat.blt id P.globals.size=true:=by simpa using h
    rw[hb]at this;cases this
   ·simp[h]
  | true=>simp only[B5]at hb;simp[hb]
 generalize bv:H.next - P.globals.size=δ;have bn:∀id,shN P.globals.size δ id=if id<P.globals.size then id else id+δ:=λid=>by
  unfold shN;rw[aF];by_cases h:id<P.globals.size<;>simp[h]
 -- the blocks by their new numbers
 let ρc:Ren:=λb=>(QdN P.globals.size rs b).bind ρ1
 let ρ':Ren:=λid=>if id<H.next then ρ id else ρc (id - δ)
 have bd:∀a b i,QdN P.globals.size rs b=some a->ρ1 a=some i->ρc b=some i:=λa b i h h'=>by simp only[ρc,h,R8,h']
 have bg:∀b i,ρc b=some i->P.globals.size<=b->∃r,rs[b - P.globals.size]? = some r∧ρ1 r.src=some i:=λb i h hb=>by
  simp only[ρc,QdN,aF,show ¬b<P.globals.size by omega,NE,Ls]at h;cases q:rs[b - P.globals.size]? with
  | none=>rw[q]at h;cases h
  | some r=>rw[q]at h;exact⟨r,rfl,h⟩
 have bj:∀b i,ρc b=some i->ρ' (shN P.globals.size δ b)=some i:=λb i h=>by
  rw[bn]
  by_cases hb:b<P.globals.size
  ·simp only[hb,N3,ρ'];rw[Lc (by omega)];simp only[ρc,QdN,aF,hb,Nf,Lq,R8]at h;obtain⟨aU,aK,_⟩:=hs.glob b hb;have:=al.mono b aU (ZE hb aK);rw[h]at this;cases this;exact aK
  ·simp only[hb,LN,ρ'];rw[Le (by omega),show b+δ - δ=b by omega];exact h
 have aR:∀ {x y z:Value},mtV (QdN P.globals.size rs) 6 x y=true->okD 6 y=true->V ρ1 x z->V ρ' (shV P.globals.size δ 6 y) z:=λab ac aa=>QIS bj 6 (QA0 bd 6 ab aa) ac;have aI:Sub ρ ρ':=λid i h=>by
  simp only[ρ'];rw[Lc (hs.dom id i h)];exact h
 have aJ:∀id,(QtM P.globals.size rs H).get id=if H.next<=id∧id<H.next+rs.length then(rs[id - H.next]?).map (Row.blk P.globals.size δ) else H.get id:=λid=>by
  unfold QtM;rw[QuJ,bv]
 have aM:(QtM P.globals.size rs H).next=H.next+rs.length:=by unfold QtM;exact Qst rs H
 have bi:∀id,H.next<=id->id - δ - P.globals.size=id - H.next:=λid h=>by omega
 have au:∀id i,ρ' id=some i->H.next<=id->∃r,rs[id - H.next]? = some r∧ρ1 r.src=some i:=λid i hi ad=>by
  simp only[ρ']at hi;rw[Le (by omega)]at hi;have:=bg (id - δ) i hi (by omega);rwa [bi id ad]at this
 have ax:∀id i,ρ' id=some i->id<H.next->ρ id=some i:=λid i hi ad=>by
  simp only[ρ']at hi;rwa [Lc ad]at hi
 have ar:∀id,id<H.next->(QtM P.globals.size rs H).get id=H.get id:=λid ad=>by rw[aJ,Le (by omega)]
 have aG:∀id r,H.next<=id->rs[id - H.next]? = some r->(QtM P.globals.size rs H).get id=some (r.blk P.globals.size δ):=λid r ad q=>by
  have:=(Lk.1 q).1;rw[aJ,Lc ⟨ad,by omega⟩,q];rfl
 refine⟨ρ',?_,⟨aI,by rw[aM];omega,λid i h h'=>?_,λid i b b' h ab ac aa=>?_,λid i h h'=>?_,al.os,al.tape,al.output,al.size,λb hb _=>aQ b hb⟩,
  ⟨λid i h=>?_,λid b i hb hi=>?_,λae ag az aD am an ab ac aa ah aA aX=>?_,λg aB=>?_⟩⟩
 ·cases e with
  | returned b3=>exact aR bq bp aO
  | _=>exact aO.elim
 ·rw[ar id (hs.dom id i h)];exact h'
 ·rw[ar id (hs.dom id i h),ab]at aa;cases aa;exact ac
 ·have ad:H.next<=id:=by
   rcases Nq id H.next with aj | ai
   ·rw[ax id i h aj]at h';cases h'
   ·exact ai
  obtain⟨r,q,ak⟩:=au id i h ad;exact⟨ad,.inl (aL r.src i ak (aw.row _ r q).1)⟩
 ·rw[aM];rcases Nq id H.next with aj | ai
  ·omega
  ·obtain⟨r,q,_⟩:=au id i h ai;have:=(Lk.1 q).1;omega
 ·rcases Nq id H.next with aj | ai
  ·rw[ar id aj]at hb;have q:=hs.live id b i hb (ax id i hi aj);exact q.mono aI (aQ _ q.lt)
  ·obtain⟨r,q,ak⟩:=au id i hi ai;rw[aG id r ai q]at hb;cases hb;obtain⟨g1,g2,aW,g3,g4⟩:=aw.row _ r q;obtain⟨bw,bx⟩:=QgV g4;refine(aP.live r.src _ i g3 ak).turn (by simp[bw]) λj x y z br aS bu=>?_;simp only[LD,Lx]at aS;obtain⟨aV,aT,rfl⟩:=aS;exact aR (bx j x aV br aT) (Li.1 g2 aV (Ln aT)) bu
 ·have old:∀id b i,id<H.next->(QtM P.globals.size rs H).get id=some b->ρ' id=some i->i.at_.block<w.heap.size:=λid b i aj hb hi=>by
   rw[ar id aj]at hb;exact(hs.live id b i hb (ax id i hi aj)).lt
  have new:∀id i,H.next<=id->ρ' id=some i->w.heap.size<=i.at_.block:=λid i ai hi=>by
   obtain⟨r,q,ak⟩:=au id i hi ai;exact aL r.src i ak (aw.row _ r q).1
  rcases Nq ae H.next with ao | ao<;>rcases Nq ag H.next with aq | aq
  ·rw[ar ae ao]at ab;rw[ar ag aq]at ac;exact hs.sep ae ag az aD am an ab ac (ax ae am aa ao) (ax ag an ah aq) aA aX
  ·have a1:=old ae az am ao ab aa;have a2:=new ag an aq ah;omega
  ·have a1:=new ae am ao aa;have a2:=old ag aD an aq ac ah;omega
  ·obtain⟨r,q,ak⟩:=au ae am aa ao;obtain⟨aC,aH,bm⟩:=au ag an ah aq;rw[aG ae r ao q]at ab;rw[aG ag aC aq aH]at ac;cases ab;cases ac;obtain⟨_,_,aW,g3,_⟩:=aw.row _ r q;obtain⟨_,_,bz,g4,_⟩:=aw.row _ aC aH;exact aP.sep r.src aC.src _ _ am an g3 g4 ak bm aA (aw.inj _ _ r aC q aH (by omega))
 ·obtain⟨j,av,e⟩:=hs.glob g aB;exact⟨j,aI _ _ av,e⟩
/-! ### Tables, and calls that are known -/
structure Tab where
 id:Nat
 c:List Value
 e:TypeId
def JU (G:Nat)(tabs:List Tab):Qa:=⟨G,tabs.foldr (λt tr=>tr.set t.id (some (.cells t.c t.e true))) .nil⟩
theorem JE {G:Nat}:∀ {tabs:List Tab} {id:Nat} {b:Blk},(JU G tabs).get id=some b->∃t∈tabs,id=t.id∧b=.cells t.c t.e true
 | [],id,b,h=>by cases h
 | t::ts,id,b,h=>by
  have h:((JU G ts).tr.set t.id (some (.cells t.c t.e true))).get id=some b:=h;rw[Tr.get_set]at h
  by_cases e:id=t.id
  ·rw[Lc e]at h;cases h;exact⟨t,Ny ..,e,rfl⟩
  ·rw[Le e]at h;obtain⟨ac,q,aa,ab⟩:=JE (G:=G) (tabs:=ts) (id:=id) (b:=b) h;exact⟨ac,NA _ q,aa,ab⟩
def tabsOk (tabs:List Tab):Bool:=tabs.all λt=>t.c.all plain
theorem QDE {G:Nat}{tabs:List Tab}(h:tabsOk tabs=true):QGR G (JU G tabs):=
 ⟨rfl,λid b hb=>by
  obtain⟨t,q,_,aa⟩:=JE hb;exact⟨t.c,t.e,aa,Li.1 h t q⟩⟩
def QGS (t:Tab)(b:Option Blk):Bool:=
 match b with
 | some (.cells c e true)=>Nat.beq e t.e&&QbO (QgC 8) c t.c
 | _=>false
def QmS (tabs:List Tab)(H:Qa):Bool:=tabs.all λt=>QGS t (H.get t.id)
theorem Qsu {G:Nat}{tabs:List Tab}{H:Qa}(h:QmS tabs H=true):∀id b,(JU G tabs).get id=some b->H.get id=some b:=λid b hb=>by
 obtain⟨t,q,aa,ab⟩:=JE hb;have:=Li.1 h t q;subst aa;subst ab;unfold QGS at this;split at this
 ·rename_i c e ac;simp only[Lm,Kk,Lv]at this;rw[ac,this.1,QnM (Qfm 8) _ _ this.2]
 ·cases this
def QvK:List Row->Bool
 | r::q::rs=>Nat.blt r.src q.src&&QvK (q::rs)
 | _=>true
theorem Qei:∀ (rs:List Row),QvK rs=true->∀ (j k:Nat) (r q:Row),rs[j]? = some r->rs[k]? = some q->j<k->r.src<q.src
 | [],_,j,k,r,q,h,_,_=>by simp at h
 | [x],_,j,k,r,q,h,h',hjk=>by
  have:=(Lk.1 h').1;simp at this;omega
 | x::y::rs,hr,j,k,r,q,h,h',hjk=>by
  simp only[QvK,Lm,B5]at hr;cases k with
  | zero=>omega
  | succ k=>
   have aa:(y::rs)[k]? = some q:=by simpa using h'
   cases j with
   | zero=>
    simp at h;subst h;cases k with
    | zero=>simp at aa;subst aa;exact hr.1
    | succ k=>exact Nat.lt_trans hr.1 (Qei (y::rs) hr.2 0 (k+1) y q (by simp) aa (by omega))
   | succ j=>exact Qei (y::rs) hr.2 j k r q (by simpa using h) aa (by omega)
def Qzx (G:Nat)(σ:Nat->Option Nat)(H1:Qa)(r:Row):Bool:=
 Nat.ble G r.src&&r.c.all (okD 6)&&match H1.get r.src with
  | some (.cells c1 e ro)=>Nat.beq e r.e&&(ro==r.ro)&&QbO (mtV σ 6) c1 r.c
  | _=>false
def QqM (G:Nat)(u:Value)(rs:List Row)(r:Option (Value×Qa)):Bool:=
 match r with
 | some (v,H1)=>mtV (QdN G rs) 6 v u&&okD 6 u&&QvK rs&&rs.all (Qzx G (QdN G rs) H1)
 | none=>false
theorem QDF {P:Program}{ac:CallF}(an:CallOk P ac){F G k:Nat}{f:FuncId}{args:List Value}{tabs:List Tab}{u:Value}{rs:List Row}(al:entered P f=true)(ak:args.all ZC=true)(ar:tabsOk tabs=true)
  (h:QqM P.globals.size u rs ((run P ac F G k).fn f args (JU P.globals.size tabs))=true) (H:Qa) (aj:QmS tabs H=true):
  Qgx P f args H (.ret (shV P.globals.size (H.next - P.globals.size) 6 u)) (QtM P.globals.size rs H):=by
 unfold QqM at h;split at h
 ·rename_i v H1 aq;simp only[Lm]at h;obtain⟨⟨⟨ag,ah⟩,aa⟩,ai⟩:=h;refine QIT (QDE ar) (((Qpx an k).fn f args _ v H1 aq).does al) ak ag ah ⟨λj r q=>?_,λj m r ad q ab av=>?_⟩ H (Qsu aj)
  ·have:=Li.1 ai r (Ln q);unfold Qzx at this;simp only[Lm,BL]at this;obtain⟨⟨g1,g2⟩,g3⟩:=this;refine⟨g1,g2,?_⟩;split at g3
   ·rename_i ae e ro am;simp only[Lm,Kk,Lv,L0]at g3;exact⟨ae,by rw[am,g3.1.1,g3.1.2],g3.2⟩
   ·cases g3
  ·rcases Nq j m with ao | au
   ·have:=Qei rs aa j m r ad q ab ao;omega
   ·have:=Qei rs aa m j ad r ab q (by omega);omega
 ·cases h
def Jf (a b:CallF):CallF:=λf args H=>Option.rec (motive:=λ_=>Option (Value×Qa)) (b f args H) some (a f args H)
theorem orKnown_ok {P:Program}{a b:CallF}(aa:CallOk P a)(hb:CallOk P b):CallOk P (Jf a b):=by
 intro f args H v H' h;unfold Jf at h;cases q:a f args H with
 | some r=>rw[q]at h;cases h;exact aa f args H v H' q
 | none=>rw[q]at h;exact hb f args H v H' h
end Go.Ab
namespace Go.Ab
open Go.RowKit
section
variable {P:Program}
def globR (P:Program):Ren:=λg=>if g<P.globals.size then some ⟨⟨g,0,none⟩,0,0⟩ else none
def H0 (P:Program):Qa:=⟨P.globals.size,.nil⟩
theorem QHC (P:Program)(id:Nat):(H0 P).get id=none:=rfl
theorem St.below {ρ ρ':Ren}{H H':Qa}{w w':World}(h:St ρ H w ρ' H' w')(ab:∀id b,H.get id=some b->b.ro=true):Below w.heap.size w w':=
 ⟨h.os,h.tape,h.output,h.size,λb hb=>h.frame b hb (λid i bl _ aa q=>by rw[ab id bl aa]at q;cases q)⟩
theorem QDG {f:FuncId}{args:List Value}{v:Value}{H1:Qa}(ah:Qgx P f args (H0 P) (.ret v) H1)(ae:args.all plain=true)(ad:plain v=true)(H:Qa):Qgx P f args H (.ret v) H:=by
 intro ρ w args' hs hargs;have ag:VL (WM ρ P.globals.size) args args':=⟨hargs.1,λj x x' e e'=>by
  have ac:plain x=true:=Li.1 ae x (Ln e);rw[(hargs.2 j x x' e e').plain_eq ac];exact .same x ac⟩
 have ak:Sim P (WM ρ P.globals.size) (H0 P) w:=Sim.empty (λid j h=>(Yj h).1) (λg aa=>by
  obtain⟨j,ai,e⟩:=hs.glob g aa;exact⟨j,ZE aa ai,e⟩)
 refine(ah _ w args' ak ag).mono ?_;rintro e w' ⟨ρ',ab,al,an⟩;have q:=al.below (λid b h=>by rw[QHC]at h;cases h);refine⟨ρ,?_,⟨.refl ρ,Lb _,λ_ _ _ h=>h,λ_ _ b b' _ h aj h'=>(by rw[h]at h';cases h';exact aj),λid i h h'=>(by rw[h']at h;cases h),q.os,q.tape,q.output,q.size,λb hb _=>q.block b hb⟩,
  ⟨hs.dom,λid b i h h'=>(hs.live id b i h h').mono (.refl ρ) (q.block _ (hs.live id b i h h').lt),hs.sep,hs.glob⟩⟩
 cases e with
 | returned am=>
  have:am=v:=V.plain_eq ab ad;subst this;exact .same _ ad
 | _=>exact ab.elim
theorem QtN {f:FuncId}{args args':List Value}{v:Value}{H H':Qa}(ab:Qgx P f args H (.ret v) H'){ρ:Ren}{w:World}(ad:Sim P ρ H w)(aa:VL ρ args args')(ag:plain v=true)(ac:∀id b,H.get id=some b->b.ro=true):
  Calls P f args'.toArray w λe w'=>e=.returned v∧Below w.heap.size w w':=by
 refine(ab ρ w args' ad aa).mono ?_;rintro e w' ⟨ρ',q,ae,ah⟩;refine⟨?_,ae.below ac⟩;cases e with
 | returned ai=>rw[V.plain_eq q ag]
 | _=>exact q.elim
theorem sim_tabs {tabs:List Tab}{w:World}(hb:∀t∈tabs,t.id<w.heap.size)(ad:∀t∈tabs,∀ (j:Nat) v,t.c[j]? = some v->w.cell? ⟨t.id,j,none⟩=some v)(ae:tabsOk tabs=true):
  Sim P (globR P) (JU P.globals.size tabs) w:=by
 refine⟨λid j h=>(by unfold globR at h;split at h;(assumption);cases h),λid b i aa hi=>?_,λan ao ag ah al am q ai aj ak ac=>?_,λg aa=>⟨_,(by unfold globR;rw[Lc aa]),rfl⟩⟩
 ·obtain⟨t,q,rfl,rfl⟩:=JE aa;unfold globR at hi;split at hi
  ·cases hi;refine⟨hb t q,λj v ab=>⟨v,?_,.same v (Li.1 (Li.1 ae t q) v (Ln ab))⟩⟩;rw[Qfe,LP];exact ad t q j v ab
  ·cases hi
 ·obtain⟨t,_,_,rfl⟩:=JE q;cases ac
theorem post_below {H:Type}{enc:TypeId×Value->H}{f:Func}{s:ChangeSpec}{fresh ae:Bool}{W W':World}{args:Array Value}{v:Value}{q gs:List (DataW H)}{aa ab ac:List MemPlace}
  (ad:DataW.Whole enc P f.params.toList s.vars false W args.toList q gs aa)
  (ai:∀ (b:Nat) (sp:Nat->Bool) (ah:Bool),DataW.TrodAll enc P W' b sp ah f.resultTypes.toList (v.resultList f.resultTypes.size) (s.fn H (q++gs)).results [])
  (ag:DataW.TrodAll enc P W' 0 (λb=>decide (b<W.heap.size)) true f.params.toList args.toList (s.fn H (q++gs)).args ab)
  (aj:DataW.TrodVars enc P W' (λb=>decide (b<W.heap.size)) s.vars (s.fn H (q++gs)).vars ac) (hb:Below W.heap.size W W'):
  s.post enc P f false fresh ae false W args v W':=by
 refine⟨q,gs,aa,[],ab,ac,ad,ai _ _ _,ag,aj,⟨hb.os,hb.output,λi hi=>?_⟩,λh=>by cases h⟩;rw[hb.block i hi];cases ak:W.heap[i]? with
 | none=>simp
 | some o=>cases o<;>simp
end
def QmT (ρ:Ren)(τ:Nat->Nat)(n:Nat):Ren:=λid=>if id<n then ρ (τ id) else none
theorem QpG {ρ:Ren}{τ:Nat->Nat}{n id:Nat}{i:Kj}(h:QmT ρ τ n id=some i):id<n∧ρ (τ id)=some i:=by
 unfold QmT at h;split at h
 ·rename_i q;exact⟨q,h⟩
 ·cases h
def Qre (τ:Nat->Nat)(n:Nat)(x y:Value):Prop:=∀ρ v,V ρ y v->V (QmT ρ τ n) x v
theorem Qre.plain {τ:Nat->Nat}{n:Nat}{x:Value}(h:plain x=true):Qre τ n x x:=λρ v q=>by
 rw[q.plain_eq h];exact .same x h
theorem Qre.slice {τ:Nat->Nat}{n id o l c:Nat}(h:id<n):Qre τ n (.slice (some ⟨id,o,none⟩) l c) (.slice (some ⟨τ id,o,none⟩) l c):=λρ v aj=>by
 cases aj with
 | same _ ai=>simp[Ab.plain]at ai
 | slice _ _ _ _ aa i q ab ac ad ae ag ah=>exact .slice id o l c aa i q (by unfold QmT;rw[Lc h];exact ab) ac ad ae ag ah
theorem Qre.ptr {τ:Nat->Nat}{n id o:Nat}(h:id<n):Qre τ n (.pointer (some ⟨id,o,none⟩)) (.pointer (some ⟨τ id,o,none⟩)):=λρ v ab=>by
 cases ab with
 | same _ aa=>simp[Ab.plain]at aa
 | ptr _ _ i q=>exact .ptr id o i (by unfold QmT;rw[Lc h];exact q)
theorem Qre.agg {τ:Nat->Nat}{n:Nat}{xs ys:List Value}(ad:xs.length=ys.length)(h:∀ (j:Nat) x y,xs[j]? = some x->ys[j]? = some y->Qre τ n x y):Qre τ n (.agg xs.toArray) (.agg ys.toArray):=λρ v ag=>by
 cases ag with
 | same _ ae=>simp[Ab.plain]at ae
 | agg _ ai ab ac=>
  refine .agg _ ai (by simpa[ad] using ab) λj x x' aa ah=>?_;have q:j<ys.length:=by
   have:=(Nj.1 aa).1;simp at this;omega
  exact h j x ys[j] (by simpa using aa) (La q) ρ x' (ac j _ x' (by simp[q]) ah)
def shW (sh:Nat->Nat):Nat->Value->Value
 | 0,v=>v
 | f+1,v=>match v with
  | .pointer (some a)=>.pointer (some ⟨sh a.block,a.off,a.spot⟩)
  | .slice (some a) l c=>.slice (some ⟨sh a.block,a.off,a.spot⟩) l c
  | .map (some r)=>.map (some (sh r))
  | .iface t v=>.iface t (shW sh f v)
  | .agg xs=>.agg (xs.toList.map (shW sh f)).toArray
  | .tuple xs=>.tuple (xs.toList.map (shW sh f)).toArray
  | .func fn xs ys=>.func fn (xs.toList.map (shW sh f)).toArray (ys.toList.map (shW sh f)).toArray
  | v=>v
theorem QuK (sh:Nat->Nat):∀ (f:Nat) (v:Value),plain v=true->shW sh f v=v
 | 0,v,_=>rfl
 | f+1,v,h=>by
  unfold shW;split<;>first | (simp[plain]at h;done) | rfl
theorem QIU {ρ ρ':Ren}{sh:Nat->Nat}(ak:∀id i,ρ id=some i->ρ' (sh id)=some i):∀ (f:Nat) {v ad:Value},V ρ v ad->okD f v=true->V ρ' (shW sh f v) ad:=by
 intro f
 induction f with
 | zero=>
  intro v ad h aa;rw[h.plain_eq aa];exact .same _ aa
 | succ f an=>
  intro v ad h aa;have ai:∀ (xs q:Array Value),xs.size=q.size->(∀ (j:Nat) x x',xs[j]? = some x->q[j]? = some x'->V ρ x x')->xs.toList.all (okD f)=true->
    (xs.toList.map (shW sh f)).toArray.size=q.size∧∀ (j:Nat) x x',(xs.toList.map (shW sh f)).toArray[j]? = some x->q[j]? = some x'->V ρ' x x':=by
   intro xs q ab ac ae;refine⟨by simp[ab],λj x x' e e'=>?_⟩;simp only[List.getElem?_toArray,LD,Bl,Lx]at e;obtain⟨y,am,rfl⟩:=e;exact an (ac j y x' am e') (Li.1 ae y (by simpa using BB am))
  cases h with
  | same v al=>rw[QuK sh (f+1) v al];exact .same v al
  | ptr id off i h=>exact .ptr _ off i (ak id i h)
  | slice id off len cap ar i aq h ab ac au ae aj=>exact .slice _ off len cap ar i aq (ak id i h) ab ac au ae aj
  | map id i h=>exact .map _ i (ak id i h)
  | func fn xs ys q ao av ab ac ae aj=>
   simp only[okD,Lm]at aa;obtain⟨ag,ah⟩:=ai xs q ab ae aa.1.2;obtain⟨aw,ax⟩:=ai ys ao ac aj aa.2;exact .func fn _ _ q ao av ag aw ah ax
  | yield l i h=>simp[okD,Qd2]at aa
  | iface t v ad h=>exact .iface t _ ad (an h aa)
  | agg xs q ab ac=>
   obtain⟨ag,ah⟩:=ai xs q ab ac aa;exact .agg _ q ag ah
  | tuple xs q ab ac=>
   obtain⟨ag,ah⟩:=ai xs q ab ac aa;exact .tuple _ q ag ah
def Row.blkW (sh:Nat->Nat)(r:Row):Blk:=.cells (r.c.map (shW sh 6)) r.e r.ro
def QaT (sh:Nat->Nat):List Row->Qa->Qa
 | [],H=>H
 | r::rs,H=>QaT sh rs (H.push (r.blkW sh))
theorem Qid {sh:Nat->Nat}:∀ (rs:List Row) (H:Qa),(QaT sh rs H).next=H.next+rs.length
 | [],H=>rfl
 | r::rs,H=>by simp only[QaT,Qid rs,Qd,Lo];omega
theorem QgX {sh:Nat->Nat}:∀ (rs:List Row) (H:Qa) (id:Nat),(QaT sh rs H).get id=if H.next<=id∧id<H.next+rs.length then(rs[id - H.next]?).map (Row.blkW sh) else H.get id
 | [],H,id=>by simp only[QaT,L9];rw[Le (by omega)]
 | r::rs,H,id=>by
  simp only[QaT,QgX rs,Qd,Lo,Qc]
  by_cases q:id=H.next
  ·subst q;rw[Le (by omega),Lc rfl,Lc ⟨by omega,by omega⟩];simp
  ·by_cases aa:H.next+1<=id∧id<H.next+1+rs.length
   ·rw[Lc aa,Lc ⟨by omega,by omega⟩,show id - H.next=(id - (H.next+1))+1 by omega];simp
   ·rw[Le aa,Le q,Le (by omega)]
def shM (τ:Nat->Nat)(M n id:Nat):Nat:=bif Nat.blt id M then τ id else n+(id - M)
def Qie (τ:Nat->Nat)(M b:Nat):Option Nat:=bif Nat.blt b M then some (τ b) else none
theorem Qlx (a b:Nat):Nat.blt a b=decide (a<b):=by
 cases hb:Nat.blt a b with
 | false=>
  by_cases h:a<b
  ·have:Nat.blt a b=true:=by simpa using h
   rw[hb]at this;cases this
  ·simp[h]
 | true=>simp only[B5]at hb;simp[hb]
theorem Qxs {ρ:Ren}{τ:Nat->Nat}{n a b:Nat}{i:Kj}(h:Qie τ n b=some a)(h':ρ a=some i):QmT ρ τ n b=some i:=by
 unfold Qie at h;rw[Qlx]at h;unfold QmT
 by_cases hb:b<n
 ·simp only[hb,Nf,Lq,Lt]at h;rw[Lc hb,h];exact h'
 ·simp only[hb,NE,Ls]at h;cases h
theorem QFA {τ:Nat->Nat}{n f:Nat}{x y:Value}(h:mtV (Qie τ n) f y x=true):Qre τ n x y:=λρ v q=>QA0 (λa b i=>Qxs) f h q
theorem QHD {P:Program}{f:FuncId}{args aA:List Value}{v u:Value}{B H1:Qa}{τ:Nat->Nat}(bj:Qgx P f args B (.ret v) H1)(aK:P.globals.size<=B.next)(bw:∀g,g<P.globals.size->τ g=g)
  {rs:List Row} (bu:mtV (QdN B.next rs) 6 v u=true) (br:okD 6 u=true) (ax:Qzw B.next H1 rs) (H:Qa)
  (hB:∀id b,B.get id=some b->∃c e aj e2 ro,b=.cells c e true∧H.get (τ id)=some (.cells aj e2 ro)∧c.length=aj.length∧∀ (j:Nat) x y,c[j]? = some x->aj[j]? = some y->Qre τ B.next x y)
  (ba:QbO (mtV (Qie τ B.next) 6) aA args=true):
  Qgx P f aA H (.ret (shW (shM τ B.next H.next) 6 u)) (QaT (shM τ B.next H.next) rs H):=by
 intro ρ w args' hs hargs;have bg:=λa b i=>Qxs (ρ:=ρ) (τ:=τ) (n:=B.next) (a:=a) (b:=b) (i:=i);obtain⟨bb,bd⟩:=QgV ba;have bc:VL (QmT ρ τ B.next) args args':=⟨by rw[<- bb];exact hargs.1,λj x x' e e'=>by
  have ah:j<aA.length:=by have:=(Lk.1 e).1;omega
  exact QA0 bg 6 (bd j aA[j] x (La ah) e) (hargs.2 j _ x' (La ah) e')⟩
 have aG:∀id b,B.get id=some b->b.ro=true:=λid b h=>by obtain⟨c,e,aj,e2,ro,rfl,_⟩:=hB id b h;rfl
 have bq:Sim P (QmT ρ τ B.next) B w:=by
  refine⟨λid j h=>(QpG h).1,λid b i hb hi=>?_,λad ai aB aD aq ar ac aa ab ak ay=>?_,λg ae=>?_⟩
  ·obtain⟨c,e,aj,e2,ro,rfl,bk,b2,aJ⟩:=hB id b hb;have q:=hs.live _ _ i bk (QpG hi).2;refine⟨q.lt,λj u ah=>?_⟩;have aM:j<aj.length:=by have:=(Lk.1 ah).1;omega
   obtain⟨aW,ac,aa⟩:=q.cellAt (La aM);exact⟨aW,ac,aJ j u aj[j] ah (La aM) ρ aW aa⟩
  ·rw[aG ad aB ac]at ay;cases ay
  ·obtain⟨j,ah,e⟩:=hs.glob g ae;refine⟨j,?_,e⟩;unfold QmT;rw[Lc (by omega),bw g ae];exact ah
 refine(bj _ w args' bq bc).mono ?_;rintro e w' ⟨ρ1,aP,an,aQ⟩;have aR:∀b,b<w.heap.size->w'.heap[b]? = w.heap[b]? := λb hb=>an.frame b hb (λid i bl _ aa ab=>by rw[aG id bl aa]at ab;cases ab);have aN:∀id i,ρ1 id=some i->B.next<=id->w.heap.size<=i.at_.block:=λid i h ag=>by
  have bn:QmT ρ τ B.next id=none:=by unfold QmT;rw[Le (by omega)]
  rcases(an.fresh id i h bn).2 with h | ⟨id0,aV,b0,_,_,ab,ak⟩
  ·exact h
  ·rw[aG id0 b0 ab]at ak;cases ak
 generalize b1:B.next=M at *;have bp:∀id,shM τ M H.next id=if id<M then τ id else H.next+(id - M):=λid=>by
  unfold shM;rw[Qlx];by_cases h:id<M<;>simp[h]
 let ρc:Ren:=λb=>(QdN M rs b).bind ρ1
 let ρ':Ren:=λid=>if id<H.next then ρ id else ρc (M+(id - H.next))
 have bh:∀a b i,QdN M rs b=some a->ρ1 a=some i->ρc b=some i:=λa b i h h'=>by simp only[ρc,h,R8,h']
 have bi:∀b i,ρc b=some i->M<=b->∃r,rs[b - M]? = some r∧ρ1 r.src=some i:=λb i h hb=>by
  simp only[ρc,QdN,Qlx,show ¬b<M by omega,NE,Ls]at h;cases q:rs[b - M]? with
  | none=>rw[q]at h;cases h
  | some r=>rw[q]at h;exact⟨r,rfl,h⟩
 have bm:∀b i,ρc b=some i->ρ' (shM τ M H.next b)=some i:=λb i h=>by
  rw[bp]
  by_cases hb:b<M
  ·simp only[hb,N3,ρ'];simp only[ρc,QdN,Qlx,hb,Nf,Lq,R8]at h;cases aF:QmT ρ τ M b with
   | none=>
    have:=(an.fresh b i h aF).1;omega
   | some aV=>
    have:=an.mono b aV aF;rw[h]at this;cases this;have aa:=(QpG aF).2;rw[Lc (hs.dom _ _ aa)];exact aa
  ·simp only[hb,LN,ρ'];rw[Le (by omega),show M+(H.next+(b - M) - H.next)=b by omega];exact h
 have aS:∀ {x y z:Value},mtV (QdN M rs) 6 x y=true->okD 6 y=true->V ρ1 x z->V ρ' (shW (shM τ M H.next) 6 y) z:=λac aa ab=>QIU bm 6 (QA0 bh 6 ac ab) aa;have aI:Sub ρ ρ':=λid i h=>by
  simp only[ρ'];rw[Lc (hs.dom id i h)];exact h
 have aL:∀id,(QaT (shM τ M H.next) rs H).get id=if H.next<=id∧id<H.next+rs.length then(rs[id - H.next]?).map (Row.blkW (shM τ M H.next)) else H.get id:=λid=>QgX rs H id
 have aO:(QaT (shM τ M H.next) rs H).next=H.next+rs.length:=Qid rs H;have aw:∀id i,ρ' id=some i->H.next<=id->∃r,rs[id - H.next]? = some r∧ρ1 r.src=some i:=λid i hi ag=>by
  simp only[ρ']at hi;rw[Le (by omega)]at hi;have:=bi _ i hi (by omega);rwa [show M+(id - H.next) - M=id - H.next by omega]at this
 have az:∀id i,ρ' id=some i->id<H.next->ρ id=some i:=λid i hi ag=>by
  simp only[ρ']at hi;rwa [Lc ag]at hi
 have ae:∀id,id<H.next->(QaT (shM τ M H.next) rs H).get id=H.get id:=λid ag=>by rw[aL,Le (by omega)]
 have aE:∀id r,H.next<=id->rs[id - H.next]? = some r->(QaT (shM τ M H.next) rs H).get id=some (r.blkW (shM τ M H.next)):=λid r ag q=>by
  have:=(Lk.1 q).1;rw[aL,Lc ⟨ag,by omega⟩,q];rfl
 refine⟨ρ',?_,⟨aI,by rw[aO];omega,λid i h h'=>?_,λid i b b' h ac aa ab=>?_,λid i h h'=>?_,an.os,an.tape,an.output,an.size,λb hb _=>aR b hb⟩,
  ⟨λid i h=>?_,λid b i hb hi=>?_,λad ai aB aD aq ar ac aa ab ak ay aZ=>?_,λg aK=>?_⟩⟩
 ·cases e with
  | returned b3=>exact aS bu br aP
  | _=>exact aP.elim
 ·rw[ae id (hs.dom id i h)];exact h'
 ·rw[ae id (hs.dom id i h),ac]at ab;cases ab;exact aa
 ·have ag:H.next<=id:=by
   rcases Nq id H.next with am | al
   ·rw[az id i h am]at h';cases h'
   ·exact al
  obtain⟨r,q,ao⟩:=aw id i h ag;exact⟨ag,.inl (aN r.src i ao (ax.row _ r q).1)⟩
 ·rw[aO];rcases Nq id H.next with am | al
  ·omega
  ·obtain⟨r,q,_⟩:=aw id i h al;have:=(Lk.1 q).1;omega
 ·rcases Nq id H.next with am | al
  ·rw[ae id am]at hb;have q:=hs.live id b i hb (az id i hi am);exact q.mono aI (aR _ q.lt)
  ·obtain⟨r,q,ao⟩:=aw id i hi al;rw[aE id r al q]at hb;cases hb;obtain⟨g1,g2,aY,g3,g4⟩:=ax.row _ r q;obtain⟨bx,bz⟩:=QgV g4;refine(aQ.live r.src _ i g3 ao).turn (by simp[bx]) λj x y z aJ aT bv=>?_;simp only[LD,Lx]at aT;obtain⟨aX,aU,rfl⟩:=aT;exact aS (bz j x aX aJ aU) (Li.1 g2 aX (Ln aU)) bv
 ·have old:∀id b i,id<H.next->(QaT (shM τ M H.next) rs H).get id=some b->ρ' id=some i->i.at_.block<w.heap.size:=λid b i am hb hi=>by
   rw[ae id am]at hb;exact(hs.live id b i hb (az id i hi am)).lt
  have new:∀id i,H.next<=id->ρ' id=some i->w.heap.size<=i.at_.block:=λid i al hi=>by
   obtain⟨r,q,ao⟩:=aw id i hi al;exact aN r.src i ao (ax.row _ r q).1
  rcases Nq ad H.next with au | au<;>rcases Nq ai H.next with av | av
  ·rw[ae ad au]at ac;rw[ae ai av]at aa;exact hs.sep ad ai aB aD aq ar ac aa (az ad aq ab au) (az ai ar ak av) ay aZ
  ·have a1:=old ad aB aq au ac ab;have a2:=new ai ar av ak;omega
  ·have a1:=new ad aq au ab;have a2:=old ai aD ar av aa ak;omega
  ·obtain⟨r,q,ao⟩:=aw ad aq ab au;obtain⟨aC,aH,bo⟩:=aw ai ar ak av;rw[aE ad r au q]at ac;rw[aE ai aC av aH]at aa;cases ac;cases aa;obtain⟨_,_,aY,g3,_⟩:=ax.row _ r q;obtain⟨_,_,aj,g4,_⟩:=ax.row _ aC aH;exact aQ.sep r.src aC.src _ _ aq ar g3 g4 ao bo ay (ax.inj _ _ r aC q aH (by omega))
 ·obtain⟨j,ah,e⟩:=hs.glob g aK;exact⟨j,aI _ _ ah,e⟩
/-! ### Known calls -/
structure SumI where
 f:FuncId
 args:List Value
 ins:List (List Value×TypeId)
 u:Value
 rs:List Row
def Qfr (H:Qa):List (List Value×TypeId)->Qa
 | []=>H
 | c::cs=>Qfr (H.push (.cells c.1 c.2 true)) cs
theorem Qn8:∀ (l:List (List Value×TypeId)) (H:Qa),(Qfr H l).next=H.next+l.length
 | [],H=>rfl
 | c::cs,H=>by simp only[Qfr,Qn8 cs,Qd,Lo];omega
theorem QqN:∀ (l:List (List Value×TypeId)) (H:Qa) (id:Nat) (b:Blk),(Qfr H l).get id=some b->H.get id=some b∨∃k c,l[k]? = some c∧id=H.next+k∧b=.cells c.1 c.2 true
 | [],H,id,b,h=>.inl h
 | c::cs,H,id,b,h=>by
  rcases QqN cs _ id b h with h | ⟨k,c',aa,ab,ac⟩
  ·rw[Qc]at h
   by_cases q:id=H.next
   ·rw[Lc q]at h;cases h;exact .inr ⟨0,c,rfl,q,rfl⟩
   ·rw[Le q]at h;exact .inl h
  ·exact .inr ⟨k+1,c',by simpa using aa,by rw[ab,Qd];omega,ac⟩
def QDH (g:Value->Value->List (Nat×Nat)->List (Nat×Nat)):List Value->List Value->List (Nat×Nat)->List (Nat×Nat)
 | x::xs,y::ys,l=>QDH g xs ys (g x y l)
 | _,_,l=>l
def fnd:Nat->Value->Value->List (Nat×Nat)->List (Nat×Nat)
 | 0,_,_,l=>l
 | f+1,x,y,l=>match x,y with
  | .pointer (some a),.pointer (some b)=>(a.block,b.block)::l
  | .slice (some a) _ _,.slice (some b) _ _=>(a.block,b.block)::l
  | .iface _ x,.iface _ y=>fnd f x y l
  | .agg xs,.agg ys=>QDH (fnd f) xs.toList ys.toList l
  | .tuple xs,.tuple ys=>QDH (fnd f) xs.toList ys.toList l
  | _,_=>l
def asc:List (Nat×Nat)->Nat->Nat
 | [],_=>0
 | p::l,n=>bif Nat.beq p.1 n then p.2 else asc l n
def QDI (H:Qa):List (List Value×TypeId)->Nat->List (Nat×Nat)->List (Nat×Nat)
 | [],_,l=>l
 | c::cs,n,l=>QDI H cs (n+1) (match H.get (asc l n) with | some (.cells c' _ _)=>QDH (fnd 6) c.1 c' l | _=>l)
def Qsv (G:Nat)(s:SumI)(args:List Value)(H:Qa)(id:Nat):Nat:=bif Nat.blt id G then id else asc (QDI H s.ins G (QDH (fnd 6) s.args args [])) id
def QuL (τ:Nat->Nat)(M:Nat)(H:Qa):List (List Value×TypeId)->Nat->Bool
 | [],_=>true
 | c::cs,n=>(match H.get (τ n) with | some (.cells c' _ _)=>QbO (mtV (Qie τ M) 6) c' c.1 | _=>false)&&QuL τ M H cs (n+1)
theorem QuM {τ:Nat->Nat}{M:Nat}{H:Qa}:∀ (l:List (List Value×TypeId)) (n:Nat),QuL τ M H l n=true->∀ (k:Nat) c,l[k]? = some c->∃c' e' ro,H.get (τ (n+k))=some (.cells c' e' ro)∧QbO (mtV (Qie τ M) 6) c' c.1=true
 | [],n,_,k,c,hk=>by simp at hk
 | c0::cs,n,h,k,c,hk=>by
  simp only[QuL,Lm]at h;cases k with
  | zero=>
   simp at hk;subst hk;obtain⟨h,_⟩:=h;split at h
   ·rename_i c' e' ro ab;exact⟨c',e',ro,ab,h⟩
   ·cases h
  | succ k=>
   obtain⟨c',e',ro,q,aa⟩:=QuM cs (n+1) h.2 k c (by simpa using hk);exact⟨c',e',ro,by rw[show n+(k+1)=n+1+k by omega];exact q,aa⟩
def SumIOk (P:Program)(tabs:List Tab)(s:SumI):Prop:=
 entered P s.f=true∧∃v H1,Qgx P s.f s.args (Qfr (JU P.globals.size tabs) s.ins) (.ret v) H1∧mtV (QdN (P.globals.size+s.ins.length) s.rs) 6 v s.u=true∧okD 6 s.u=true∧Qzw (P.globals.size+s.ins.length) H1 s.rs
theorem sumI_ok {P:Program}{ad:CallF}(al:CallOk P ad){F G k:Nat}{tabs:List Tab}{s:SumI}(ab:entered P s.f=true)
  (h:QqM (P.globals.size+s.ins.length) s.u s.rs ((run P ad F G k).fn s.f s.args (Qfr (JU P.globals.size tabs) s.ins))=true):SumIOk P tabs s:=by
 unfold QqM at h;split at h
 ·rename_i v H1 an;simp only[Lm]at h;obtain⟨⟨⟨ah,ai⟩,aa⟩,aj⟩:=h;refine⟨ab,v,H1,((Qpx al k).fn s.f s.args _ v H1 an).does ab,ah,ai,⟨λj r q=>?_,λj m r ae q ac aq=>?_⟩⟩
  ·have:=Li.1 aj r (Ln q);unfold Qzx at this;simp only[Lm,BL]at this;obtain⟨⟨g1,g2⟩,g3⟩:=this;refine⟨g1,g2,?_⟩;split at g3
   ·rename_i ag e ro ak;simp only[Lm,Kk,Lv,L0]at g3;exact⟨ag,by rw[ak,g3.1.1,g3.1.2],g3.2⟩
   ·cases g3
  ·rcases Nq j m with am | ao
   ·have:=Qei _ aa j m r ae q ac am;omega
   ·have:=Qei _ aa m j ae r ac q (by omega);omega
 ·cases h
theorem SumIOk.does {P:Program}{tabs:List Tab}{s:SumI}(ao:SumIOk P tabs s)(aq:tabsOk tabs=true){args:List Value}{H:Qa}{τ:Nat->Nat}(ah:∀g,g<P.globals.size->τ g=g)(ar:∀t∈tabs,t.id<P.globals.size)
  (aj:QmS tabs H=true) (hi:QuL τ (P.globals.size+s.ins.length) H s.ins P.globals.size=true) (ae:QbO (mtV (Qie τ (P.globals.size+s.ins.length)) 6) args s.args=true):
  Qgx P s.f args H (.ret (shW (shM τ (P.globals.size+s.ins.length) H.next) 6 s.u)) (QaT (shM τ (P.globals.size+s.ins.length) H.next) s.rs H):=by
 obtain⟨aw,v,H1,ak,ab,ai,ac⟩:=ao;have ad:(Qfr (JU P.globals.size tabs) s.ins).next=P.globals.size+s.ins.length:=Qn8 _ _;rw[<- ad]at ab ac hi ae ⊢;refine QHD ak (by rw[ad];omega) ah ab ai ac H (λid b hb=>?_) ae;rcases QqN _ _ _ _ hb with hb | ⟨k,c,an,am,rfl⟩
 ·have al:=Qsu aj id b hb;obtain⟨t,ag,rfl,rfl⟩:=JE hb;refine⟨t.c,t.e,t.c,t.e,true,rfl,by rw[ah _ (ar t ag)];exact al,rfl,λj x y q aa=>?_⟩;rw[q]at aa;cases aa;exact Qre.plain (Li.1 (Li.1 aq t ag) x (Ln q))
 ·obtain⟨c',e',ro,g1,g2⟩:=QuM _ _ hi k c an;obtain⟨au,av⟩:=QgV g2;exact⟨c.1,c.2,c',e',ro,rfl,by rw[am];exact g1,au.symm,λj x y q aa=>QFA (av j y x aa q)⟩
def QrJ (G:Nat)(tabs:List Tab)(f:FuncId)(args:List Value)(H:Qa):List SumI->Option (Value×Qa)
 | []=>none
 | s::ss=>bif Nat.beq f s.f&&(QbO (mtV (Qie (Qsv G s args H) (G+s.ins.length)) 6) args s.args&&(QmS tabs H&&QuL (Qsv G s args H) (G+s.ins.length) H s.ins G)) then
   some (shW (shM (Qsv G s args H) (G+s.ins.length) H.next) 6 s.u,QaT (shM (Qsv G s args H) (G+s.ins.length) H.next) s.rs H) else QrJ G tabs f args H ss
theorem Qsw {P:Program}{tabs:List Tab}(ab:tabsOk tabs=true)(ac:∀t∈tabs,t.id<P.globals.size){f:FuncId}{args:List Value}{H:Qa}{v:Value}{H':Qa}:∀ {ss:List SumI},(∀s∈ss,SumIOk P tabs s)->QrJ P.globals.size tabs f args H ss=some (v,H')->
  entered P f=true∧Qgx P f args H (.ret v) H'
 | [],_,h=>by cases h
 | s::ss,hs,h=>by
  simp only[QrJ]at h;cases q:(Nat.beq f s.f&&(QbO (mtV (Qie (Qsv P.globals.size s args H) (P.globals.size+s.ins.length)) 6) args s.args&&(QmS tabs H&&QuL (Qsv P.globals.size s args H) (P.globals.size+s.ins.length) H s.ins P.globals.size))) with
  | false=>
   rw[q]at h;exact Qsw ab ac (ss:=ss) (λae h'=>hs ae (NA _ h')) h
  | true=>
   rw[q]at h;simp only[Lq,Lt,LB]at h;obtain⟨rfl,rfl⟩:=h;simp only[Lm,Kk,Lv]at q;obtain⟨e1,e2,e3,e4⟩:=q;have aa:=hs s (Ny ..);subst e1;exact⟨aa.1,aa.does ab (λg ad=>by unfold Qsv;rw[Qlx];simp[ad]) ac e3 e4 e2⟩
def QmU (G:Nat)(tabs:List Tab)(q:FuncId->List SumI):CallF:=λf args H=>QrJ G tabs f args H (q f)
theorem byFn_ok {P:Program}{tabs:List Tab}(ac:tabsOk tabs=true)(ad:∀t∈tabs,t.id<P.globals.size){q:FuncId->List SumI}(h:∀f,∀s∈q f,SumIOk P tabs s):CallOk P (QmU P.globals.size tabs q):=λf args H v H' e=>by
 obtain⟨aa,ab⟩:=Qsw ac ad (h f) e;exact .inl ⟨aa,ab⟩
end Go.Ab
