/- The interpreter: operations, code, functions; what it gives is so. -/
import Derived.Test.YtgepgbbjfhggfaaGreatDoorAbB
import Derived.Test.YtgepgbbjfhggfaaGreatDoorAbA
import Derived.ProofKit
import Derived.OpenShut
set_option linter.unusedVariables false
set_option linter.unusedSimpArgs false
noncomputable section
namespace Go.Ab
abbrev CallF:=FuncId->List Value->Qa->Option (Value×Qa)
structure Xa where
 fn:CallF
 yd:CallF
def Ji (H:Qa):Option Value->Option (Cls×Value×Qa)
 | some v=>some (.pure,v,H)
 | none=>none
def Qu2 (P:Program)(k:Bool)(op:BinOp)(t:TypeId)(x y:Value):Option Value:=
 match x,y with
 | .int ik a,.int ik' b=>match op with
  | .shl | .shr=>QcR op ik a b
  | _=>if ik=ik' then Jh op ik a b else none
 | .string a,.string b=>Qei op (bl a) (bl b)
 | x,y=>Qqc P k op t x y
def Qu3 (P:Program)(call:Xa)(A:Env)(H:Qa)(c x y:Operand):Option (Cls×Value×Qa):=
 match ev A c with
  | .bool t=>some (.pure,bif t then ev A x else ev A y,H)
  | _=>none
def Qek (P:Program)(call:Xa)(A:Env)(H:Qa)(x:Operand):Option (Cls×Value×Qa):=
 bif QhF (ev A x) then some (.pure,ev A x,H) else none
def Qfe (P:Program)(call:Xa)(A:Env)(H:Qa)(op:BinOp)(t:TypeId)(x y:Operand):Option (Cls×Value×Qa):=
 Ji H (Qu2 P (QjW x||QjW y) op t (ev A x) (ev A y))
def Qu4 (P:Program)(call:Xa)(A:Env)(H:Qa)(op:UnOp)(x:Operand):Option (Cls×Value×Qa):=
 Ji H (QrC op (ev A x))
def Qgu (P:Program)(call:Xa)(A:Env)(H:Qa)(src dst:TypeId)(x:Operand):Option (Cls×Value×Qa):=
 match P.underlying src,P.underlying dst,ev A x with
  | some _,some (.slice e),.string s=>match P.underlying e,P.info? e with
   | some (.int .u8),some inf=>match inf.zero with
    | some z=>bif QhG P e inf z&&Nat.beq inf.size 1&&Nat.ble (bl s).length 140737488355328 then
      some (.alloc (.cells (Jc s) e false),.slice (some ⟨H.next,0,none⟩) (bl s).length (UNK+1),H.push (.cells (Jc s) e false)) else none
    | none=>none
   | _,_=>none
  | some (.slice e),some .string,.slice a m c=>match P.underlying e,Qcu 1 (.slice a m c) H with
   | some (.int .u8),some l=>match QhM l with
    | some bs=>some (.gen,.string (mkS bs),H)
    | none=>none
   | _,_=>none
  | _,_,_=>Ji H (Qrj P src dst (ev A x))
def VF (P:Program)(call:Xa)(A:Env)(H:Qa)(t:TypeId)(x:Operand):Option (Cls×Value×Qa):=
 match P.underlying t with
  | some (.interface _)=>none
  | some _=>some (.pure,.iface t (ev A x),H)
  | none=>none
def Qmy (P:Program)(call:Xa)(A:Env)(H:Qa)(fn:Fn)(first captured:Array Operand):Option (Cls×Value×Qa):=
 bif QdZ fn then some (.pure,.func fn (first.map (ev A)) (captured.map (ev A)),H) else none
def Qrl (P:Program)(call:Xa)(A:Env)(H:Qa)(t:TypeId)(x:Operand)(f:Nat):Option (Cls×Value×Qa):=
 match P.underlying t,ev A x with
  | some (.struct fs),.agg cs=>match fs[f]? with
   | some fd=>Ji H (QcS P fd.type cs fd.offset)
   | none=>none
  | _,_=>none
def VY (P:Program)(call:Xa)(A:Env)(H:Qa)(t:TypeId)(x:Operand)(f:Nat):Option (Cls×Value×Qa):=
 match P.underlying t,ev A x with
  | some (.struct fs),.pointer (some a)=>match fs[f]? with
   | some fd=>match P.info? fd.type with
    | some inf=>bif Nat.beq inf.size 0 then none else some (.pure,.pointer (some ⟨a.block,a.off+fd.offset,none⟩),H)
    | none=>none
   | none=>none
  | _,_=>none
def VZ (P:Program)(call:Xa)(A:Env)(H:Qa)(t:TypeId)(x ix:Operand):Option (Cls×Value×Qa):=
 match ev A ix with
  | .int _ m=>match P.underlying t,ev A x with
   | some (.slice e),.slice (some a) len _=>match P.info? e with
    | some inf=>if 0<=m∧m<len then some (.pure,.pointer (some ⟨a.block,a.off+m.toNat * inf.size,none⟩),H) else none
    | none=>none
   | some (.array len e),.pointer (some a)=>match P.info? e with
    | some inf=>if 0<=m∧m<len then some (.pure,.pointer (some ⟨a.block,a.off+m.toNat * inf.size,none⟩),H) else none
    | none=>none
   | _,_=>none
  | _=>none
def Qrm (P:Program)(call:Xa)(A:Env)(H:Qa)(t:TypeId)(x ix:Operand):Option (Cls×Value×Qa):=
 match ev A ix with
  | .int _ m=>match P.underlying t,ev A x with
   | some .string,.string s=>if 0<=m then(match (bl s)[m.toNat]? with | some b=>some (.pure,.int .u8 b.toNat,H) | none=>none) else none
   | some (.array len e),.agg cs=>match P.info? e with
    | some inf=>if 0<=m∧m<len then Ji H (QcS P e cs (m.toNat * inf.size)) else none
    | none=>none
   | _,_=>none
  | _=>none
def Qlj (P:Program)(call:Xa)(A:Env)(H:Qa)(x:Operand)(ix:Nat):Option (Cls×Value×Qa):=
 match ev A x with
  | .tuple vs=>Ji H vs[ix]?
  | _=>none
def Qrn (P:Program)(call:Xa)(A:Env)(H:Qa)(t:TypeId)(parts:Array (Nat×Operand)):Option (Cls×Value×Qa):=
 match P.underlying t,P.info? t with
  | some (.struct fs),some inf=>match inf.zero,Qnz P fs with
   | some z,some pl=>bif z.cells.toList.all plain then Ji H ((Qfb (pl[·]?) z.cells.toList (Jb A parts)).map λr=>.agg r.toArray) else none
   | _,_=>none
  | some (.array _ e),some inf=>match inf.zero,P.info? e with
   | some z,some inf'=>bif z.cells.toList.all plain then Ji H ((Qfb (λi=>some (i * inf'.size,inf'.size)) z.cells.toList (Jb A parts)).map λr=>.agg r.toArray) else none
   | _,_=>none
  | _,_=>none
def Qd1 (P:Program)(call:Xa)(A:Env)(H:Qa)(t:TypeId)(len:Nat)(parts:Array (Nat×Operand)):Option (Cls×Value×Qa):=
 match P.underlying t with
  | some (.slice e)=>match P.info? e with
   | some inf=>match inf.zero with
    | some z=>bif z.cells.toList.all plain&&Nat.blt 0 z.cells.size&&Nat.ble len 16777216&&Nat.ble (len * inf.size) 16777216 then
      match Qfb (λi=>some (i * inf.size,inf.size)) (Ze z.cells (len * inf.size)) (Jb A parts) with
      | some r=>some (.alloc (.cells r e false),.slice (some ⟨H.next,0,none⟩) len len,H.push (.cells r e false))
      | none=>none
     else none
    | none=>none
   | none=>none
  | _=>none
def Qro (P:Program)(call:Xa)(A:Env)(H:Qa)(e:TypeId):Option (Cls×Value×Qa):=
 match P.info? e with
  | some inf=>match inf.zero with
   | some z=>bif z.cells.toList.all plain then some (.alloc (.cells z.cells.toList e false),.pointer (some ⟨H.next,0,none⟩),H.push (.cells z.cells.toList e false)) else none
   | none=>none
  | none=>none
def QCM (P:Program)(call:Xa)(A:Env)(H:Qa)(e:TypeId)(x:Operand):Option (Cls×Value×Qa):=
 some (.alloc (.cells (ev A x).cells.toList e false),.pointer (some ⟨H.next,0,none⟩),H.push (.cells (ev A x).cells.toList e false))
def Qff (P:Program)(call:Xa)(A:Env)(H:Qa)(t:TypeId)(x y:Operand):Option (Cls×Value×Qa):=
 match P.underlying t,ev A x,ev A y with
  | some (.slice e),.int .i64 l,.int .i64 c=>match P.info? e with
   | some inf=>match inf.zero with
    | some z=>if QhG P e inf z=true∧0<=l∧l<=c∧(inf.bytes:Int) * c<=281474976710656∧c<=9223372036854775807 then
      some (.alloc (.cells (Ze z.cells (c.toNat * inf.size)) e false),.slice (some ⟨H.next,0,none⟩) l.toNat c.toNat,H.push (.cells (Ze z.cells (c.toNat * inf.size)) e false))
     else none
    | none=>none
   | none=>none
  | _,_,_=>none
def QnB (P:Program)(call:Xa)(A:Env)(H:Qa)(t:TypeId)(x:Operand)(lo hi mx:Option Operand):Option (Cls×Value×Qa):=
 match P.underlying t with
  | some .string=>match ev A x,mx,XC A lo,XC A hi with
   | .string s,none,some l,some h=>if 0<=l.getD 0∧l.getD 0<=h.getD (bl s).length∧h.getD (bl s).length<=(bl s).length then some (.pure,.string (mkS (((bl s).drop (l.getD 0).toNat).take ((h.getD (bl s).length).toNat - (l.getD 0).toNat))),H) else none
   | _,_,_,_=>none
  | some (.slice e)=>match P.info? e,XC A lo,XC A hi,XC A mx with
   | some inf,some l,some h,some m=>if m.isNone||h.isSome then Ji H (Qaz inf.size (ev A x) l h m) else none
   | _,_,_,_=>none
  | _=>none
def QrR (P:Program)(call:Xa)(A:Env)(H:Qa)(t:TypeId)(x:Operand):Option (Cls×Value×Qa):=
 match ev A x with
  | .pointer (some a)=>match ZC P t a H with
   | some v=>some (.load,v,H)
   | none=>none
  | _=>none
def QnC (P:Program)(call:Xa)(A:Env)(H:Qa)(t:TypeId)(x y:Operand):Option (Cls×Value×Qa):=
 match ev A x with
  | .pointer (some a)=>match Qms P t a (ev A y) H with
   | some H'=>some (.gen,undef,H')
   | none=>none
  | _=>none
def Qmz (P:Program)(call:Xa)(A:Env)(H:Qa)(c:Call):Option (Cls×Value×Qa):=
 match c with
  | ⟨.builtin b,args,ts⟩=>match b,args.toList,ts.toList with
   | .len,[x],[t]=>match QCz P t (ev A x) with | some m=>some (.pure,.int .i64 (m:Int),H) | none=>none
   | .cap,[x],[t]=>match P.underlying t,ev A x with
    | some (.slice _),.slice _ _ c=>bif Nat.blt c UNK then some (.pure,.int .i64 c,H) else none
    | _,_=>none
   | .max,[x,y],_=>match ev A x,ev A y with
    | .int k a,.int k' b=>if k=k' then some (.pure,.int k (if b>a then b else a),H) else none
    | _,_=>none
   | .min,[x,y],_=>match ev A x,ev A y with
    | .int k a,.int k' b=>if k=k' then some (.pure,.int k (if b<a then b else a),H) else none
    | _,_=>none
   | .append,[x,y],[t,t2]=>match P.underlying t,P.underlying t2 with
    | some (.slice e),some td=>match P.info? e with
     | some inf=>match inf.zero with
      | some z=>bif QjV td&&QhG P e inf z then(Qli e inf (ev A x) (ev A y) H).map λr=>(.gen,r.1,r.2) else none
      | none=>none
     | none=>none
    | _,_=>none
   | .copy,[x,y],[t,_]=>match P.underlying t with
    | some (.slice e)=>match P.info? e with
     | some inf=>(QAs inf.size (ev A x) (ev A y) H).map λr=>(.gen,r.1,r.2)
     | none=>none
    | _=>none
   | _,_,_=>none
  | ⟨.invoke recv name,args,ts⟩=>match ev A recv with
   | .iface t v=>match QnA P t name with
    | some f=>(call.fn f (v::(args.map (ev A)).toList) H).map λr=>(.gen,r.1,r.2)
    | none=>none
   | _=>none
  | ⟨.value (.func f),args,ts⟩=>(call.fn f (args.map (ev A)).toList H).map λr=>(.gen,r.1,r.2)
  | ⟨.value c,args,ts⟩=>match ev A c with
   | .func (.func f) xs ys=>(call.fn f (xs.toList++(args.map (ev A)).toList++ys.toList) H).map λr=>(.gen,r.1,r.2)
   | .func (.yield l) xs ys=>bif Nat.beq xs.size 0&&Nat.beq ys.size 0 then(call.yd l (args.map (ev A)).toList H).map λr=>(.gen,r.1,r.2) else none
   | _=>none
def QnD (P:Program)(call:Xa)(A:Env)(H:Qa)(t:TypeId)(x ix:Operand)(ok:Bool):Option (Cls×Value×Qa):=
 match P.underlying t with
 | some (.map k e)=>(QAp P k e (ev A x) (ev A ix) ok H).map λv=>(.gen,v,H)
 | _=>none
def QrS (P:Program)(call:Xa)(A:Env)(H:Qa)(t:TypeId)(m k x:Operand):Option (Cls×Value×Qa):=
 match P.underlying t with
 | some (.map kt _)=>(QwO P kt (ev A m) (ev A k) (ev A x) H).map λH'=>(.gen,undef,H')
 | _=>none
def Qu5 (P:Program)(call:Xa)(A:Env)(H:Qa)(t:TypeId)(x:Operand):Option (Cls×Value×Qa):=
 match P.underlying t,ev A x with
 | some .string,.string s=>some (.alloc (.iter s 0),.pointer (some ⟨H.next,0,none⟩),H.push (.iter s 0))
 | _,_=>none
def aop (P:Program)(call:Xa)(o:Oper)(A:Env)(H:Qa):Option (Cls×Value×Qa):=
 match o.op with
 | .move x=>some (.pure,ev A x,H)
 | .assign x=>some (.pure,ev A x,H)
 | .pick c x y=>Qu3 P call A H c x y
 | .nilCheck x=>Qek P call A H x
 | .binOp op t x y _=>Qfe P call A H op t x y
 | .unOp op _ x=>Qu4 P call A H op x
 | .convert src dst x=>Qgu P call A H src dst x
 | .makeInterface t x=>VF P call A H t x
 | .makeFunc fn first captured=>Qmy P call A H fn first captured
 | .field t x f=>Qrl P call A H t x f
 | .fieldAddr t x f=>VY P call A H t x f
 | .indexAddr t x ix=>VZ P call A H t x ix
 | .index t x ix=>Qrm P call A H t x ix
 | .extract x ix=>Qlj P call A H x ix
 | .build t parts=>Qrn P call A H t parts
 | .buildSlice t len parts=>Qd1 P call A H t len parts
 | .alloc e=>Qro P call A H e
 | .box e x=>QCM P call A H e x
 | .makeSlice t x y=>Qff P call A H t x y
 | .slice t x lo hi mx=>QnB P call A H t x lo hi mx
 | .load t x=>QrR P call A H t x
 | .store t x y=>QnC P call A H t x y
 | .call c=>Qmz P call A H c
 | .makeMap _ none=>some (.alloc (.map []),.map (some H.next),H.push (.map []))
 | .lookup t x ix ok=>QnD P call A H t x ix ok
 | .mapUpdate t m k x=>QrS P call A H t m k x
 | .insert t m k x=>QrS P call A H t m k x
 | .range t x=>Qu5 P call A H t x
 | .next it true=>(QAr H (ev A it)).map λr=>(.gen,r.1,r.2)
 | _=>none
section
variable {P:Program} {n:Nat} {A:Env} {H:Qa}
def Qqi (P:Program)(o:Oper)(A:Env)(H:Qa)(v:Value)(H':Qa):Cls->Prop
 | .pure=>H'=H∧∀h,QC P o A h v h
 | .load=>H'=H∧∃t x a,o.op=.load t x∧ev A x=.pointer (some a)∧ZC P t a H=some v
 | .alloc b=>H'=H.push b∧∀h,h.next=H.next->QC P o A h v (h.push b)
 | .gen=>QC P o A H v H'
theorem Qqi.does {o:Oper}{v:Value}{H':Qa}{c:Cls}(h:Qqi P o A H v H' c):QC P o A H v H':=by
 cases c with
 | pure=>obtain⟨rfl,h⟩:=h;exact h _
 | load=>
  obtain⟨rfl,t,x,a,ho,ex,hl⟩:=h;obtain⟨dst,op,ty,pos,af,g⟩:=o;simp only at ho;subst ho;exact QEl ex hl
 | alloc b=>obtain⟨rfl,h⟩:=h;exact h _ rfl
 | gen=>exact h
def CallOk (P:Program)(call:CallF):Prop:=∀f args H v H',call f args H=some (v,H')->GQ P f args H v H'
structure QhN (P:Program) (call:Xa):Prop where
 fn:CallOk P call.fn
 yd:∀l args H v H',call.yd l args H=some (v,H')->Qug P l args H v H'
theorem ZS {r:Option Value}{c:Cls}{v:Value}{H':Qa}(h:Ji H r=some (c,v,H')):r=some v∧c=.pure∧H'=H:=by
 cases r with
 | none=>simp[Ji]at h
 | some u=>simp[Ji]at h;obtain⟨rfl,rfl,rfl⟩:=h;exact⟨rfl,rfl,rfl⟩
theorem QBr {op:BinOp}{t t':TypeId}{x y:Operand}{v:Value}{d:Option Nat}{ty:TypeId}{pos:String}{af:Array Edge}{g:Option (Nat×Bool)}(h:Qu2 P (QjW x||QjW y) op t (ev A x) (ev A y)=some v):QC P ⟨d,.binOp op t x y t',ty,pos,af,g⟩ A H v H:=by
 unfold Qu2 at h;split at h
 ·rename_i k a k' b ex ey;split at h
  ·exact QwD ex ey h
  ·exact QwD ex ey h
  ·split at h
   ·rename_i e;subst e;exact QGE ex ey h
   ·cases h
 ·rename_i a b ex ey;exact QGF ex ey h
 ·rename_i h1 h2;exact QIe h
set_option maxHeartbeats 2000000 in
theorem Qph {call:Xa}(hcall:QhN P call){o:Oper}{c:Cls}{v:Value}{H':Qa}(h:aop P call o A H=some (c,v,H')):Qqi P o A H v H' c:=by
 obtain⟨dst,op,ty,pos,af,g⟩:=o;unfold aop at h;split at h
 case h_1 x hop=>simp only at hop;subst hop;simp only[Lt,LB]at h;obtain⟨rfl,rfl,rfl⟩:=h;exact⟨rfl,λh=>QEi⟩
 case h_2 x hop=>simp only at hop;subst hop;simp only[Lt,LB]at h;obtain⟨rfl,rfl,rfl⟩:=h;exact⟨rfl,λh=>QBg⟩
 case h_3 cc x y hop=>
  simp only at hop;subst hop;unfold Qu3 at h;split at h
  ·rename_i t ec;simp only[Lt,LB]at h;obtain⟨rfl,rfl,rfl⟩:=h;refine⟨rfl,λh=>?_⟩;have:=QEj (P:=P) (H:=h) (d:=dst) (ty:=ty) (pos:=pos) (af:=af) (g:=g) (x:=x) (y:=y) ec;cases t<;>exact this
  ·cases h
 case h_4 x hop=>
  simp only at hop;subst hop;unfold Qek at h;cases hn:QhF (ev A x) with
  | false=>rw[hn]at h;cases h
  | true=>
   rw[hn]at h;simp only[Lq,Lt,LB]at h;obtain⟨rfl,rfl,rfl⟩:=h;exact⟨rfl,λh=>QwC hn⟩
 case h_5 bop t x y t' hop=>
  simp only at hop;subst hop;unfold Qfe at h;obtain⟨h1,rfl,rfl⟩:=ZS h;exact⟨rfl,λh=>QBr h1⟩
 case h_6 uop t x hop=>
  simp only at hop;subst hop;unfold Qu4 at h;obtain⟨h1,rfl,rfl⟩:=ZS h;exact⟨rfl,λh=>QId h1⟩
 case h_7 src d' x hop=>
  simp only at hop;subst hop;unfold Qgu at h;split at h
  ·rename_i u e s hu hd ex;split at h
   ·rename_i inf h8 hi;split at h
    ·rename_i z hz;cases hc:(QhG P e inf z&&Nat.beq inf.size 1&&Nat.ble (bl s).length 140737488355328) with
     | false=>rw[hc]at h;cases h
     | true=>
      rw[hc]at h;simp only[Lq,Lt,LB]at h;obtain⟨rfl,rfl,rfl⟩:=h;simp only[Lm,Kh,Lv,BL]at hc;refine⟨rfl,λh hn=>?_⟩;rw[<- hn];exact QyH hu hd h8 (Qcr.mk' hi hz hc.1.1) hc.1.2 ex hc.2
    ·cases h
   ·cases h
  ·rename_i e a m cp hu hd ex;split at h
   ·rename_i l h8 hl;split at h
    ·rename_i bs hb;simp only[Lt,LB]at h;obtain⟨rfl,rfl,rfl⟩:=h;exact QCI hu h8 hd (by rw[ex];exact hl) hb
    ·cases h
   ·cases h
  ·obtain⟨h1,rfl,rfl⟩:=ZS h;exact⟨rfl,λh=>QEk h1⟩
 case h_8 t x hop=>
  simp only at hop;subst hop;unfold VF at h;split at h
  ·cases h
  ·rename_i td hni htd;simp only[Lt,LB]at h;obtain⟨rfl,rfl,rfl⟩:=h;refine⟨rfl,λh=>Qo9 htd ?_⟩;cases td<;>first | rfl | exact absurd rfl (hni _)
  ·cases h
 case h_9 fn first captured hop=>
  simp only at hop;subst hop;unfold Qmy at h;cases hn:QdZ fn with
  | false=>rw[hn]at h;cases h
  | true=>
   rw[hn]at h;simp only[Lq,Lt,LB]at h;obtain⟨rfl,rfl,rfl⟩:=h;exact⟨rfl,λh=>QwE hn⟩
 case h_10 t x f hop=>
  simp only at hop;subst hop;unfold Qrl at h;split at h
  ·rename_i fs cs ht ex;split at h
   ·rename_i fd hf;obtain⟨h1,rfl,rfl⟩:=ZS h;exact⟨rfl,λh=>QCw ht hf ex h1⟩
   ·cases h
  ·cases h
 case h_11 t x f hop=>
  simp only at hop;subst hop;unfold VY at h;split at h
  ·rename_i fs a ht ex;split at h
   ·rename_i fd hf;split at h
    ·rename_i inf hi;cases hz:Nat.beq inf.size 0 with
     | true=>rw[hz]at h;cases h
     | false=>
      rw[hz]at h;simp only[Ls,Lt,LB]at h;obtain⟨rfl,rfl,rfl⟩:=h;exact⟨rfl,λh=>QuX ht hf hi hz ex⟩
    ·cases h
   ·cases h
  ·cases h
 case h_12 t x ix hop=>
  simp only at hop;subst hop;unfold VZ at h;split at h
  ·rename_i k m eix;split at h
   ·rename_i e a len cap ht ex;split at h
    ·rename_i inf hi;split at h
     ·rename_i hc;simp only[Lt,LB]at h;obtain⟨rfl,rfl,rfl⟩:=h;exact⟨rfl,λh=>Qmt ht hi ex eix hc.1 hc.2⟩
     ·cases h
    ·cases h
   ·rename_i len e a ht ex;split at h
    ·rename_i inf hi;split at h
     ·rename_i hc;simp only[Lt,LB]at h;obtain⟨rfl,rfl,rfl⟩:=h;exact⟨rfl,λh=>Qmu ht hi ex eix hc.1 hc.2⟩
     ·cases h
    ·cases h
   ·cases h
  ·cases h
 case h_13 t x ix hop=>
  simp only at hop;subst hop;unfold Qrm at h;split at h
  ·rename_i k m eix;split at h
   ·rename_i s ht ex;split at h
    ·rename_i h0;split at h
     ·rename_i b hb;simp only[Lt,LB]at h;obtain⟨rfl,rfl,rfl⟩:=h;exact⟨rfl,λh=>QqT ht ex eix h0 hb⟩
     ·cases h
    ·cases h
   ·rename_i len e cs ht ex;split at h
    ·rename_i inf hi;split at h
     ·rename_i hc;obtain⟨h1,rfl,rfl⟩:=ZS h;exact⟨rfl,λh=>QrD ht hi ex eix hc.1 hc.2 h1⟩
     ·cases h
    ·cases h
   ·cases h
  ·cases h
 case h_14 x ix hop=>
  simp only at hop;subst hop;unfold Qlj at h;split at h
  ·rename_i vs ex;obtain⟨h1,rfl,rfl⟩:=ZS h;exact⟨rfl,λh=>QyA ex h1⟩
  ·cases h
 case h_15 t parts hop=>
  simp only at hop;subst hop;unfold Qrn at h;split at h
  ·rename_i fs inf ht hi;split at h
   ·rename_i z pl hz hpl;cases hc:z.cells.toList.all plain with
    | false=>rw[hc]at h;cases h
    | true=>
     rw[hc]at h;obtain⟨h1,rfl,rfl⟩:=ZS h;simp only[Lx]at h1;obtain⟨r,hr,rfl⟩:=h1;exact⟨rfl,λh=>QqU ht hi hz hc hpl hr⟩
   ·cases h
  ·rename_i len e inf ht hi;split at h
   ·rename_i z inf' hz hi';cases hc:z.cells.toList.all plain with
    | false=>rw[hc]at h;cases h
    | true=>
     rw[hc]at h;obtain⟨h1,rfl,rfl⟩:=ZS h;simp only[Lx]at h1;obtain⟨r,hr,rfl⟩:=h1;exact⟨rfl,λh=>QrF ht hi hz hc hi' hr⟩
   ·cases h
  ·cases h
 case h_16 t len parts hop=>
  simp only at hop;subst hop;unfold Qd1 at h;split at h
  ·rename_i e ht;split at h
   ·rename_i inf hi;split at h
    ·rename_i z hz;cases hc:(z.cells.toList.all plain&&Nat.blt 0 z.cells.size&&Nat.ble len 16777216&&Nat.ble (len * inf.size) 16777216) with
     | false=>rw[hc]at h;cases h
     | true=>
      rw[hc]at h;simp only[Lq]at h;simp only[Lm]at hc;obtain⟨⟨⟨c1,c2⟩,c3⟩,c4⟩:=hc;split at h
      ·rename_i r hr;simp only[Lt,LB]at h;obtain⟨rfl,rfl,rfl⟩:=h;refine⟨rfl,λh hn=>?_⟩;rw[<- hn];exact Qtk ht hi hz c1 c2 c3 c4 hr
      ·cases h
    ·cases h
   ·cases h
  ·cases h
 case h_17 e hop=>
  simp only at hop;subst hop;unfold Qro at h;split at h
  ·rename_i inf hi;split at h
   ·rename_i z hz;cases hc:z.cells.toList.all plain with
    | false=>rw[hc]at h;cases h
    | true=>
     rw[hc]at h;simp only[Lq,Lt,LB]at h;obtain⟨rfl,rfl,rfl⟩:=h;refine⟨rfl,λh hn=>?_⟩;rw[<- hn];exact QCy hi hz hc
   ·cases h
  ·cases h
 case h_18 e x hop=>
  simp only at hop;subst hop;unfold QCM at h;simp only[Lt,LB]at h;obtain⟨rfl,rfl,rfl⟩:=h;refine⟨rfl,λh hn=>?_⟩;rw[<- hn];exact QGG
 case h_19 t x y hop=>
  simp only at hop;subst hop;unfold Qff at h;split at h
  ·rename_i e l cc ht ex ey;split at h
   ·rename_i inf hi;split at h
    ·rename_i z hz;split at h
     ·rename_i hc;obtain⟨c0,c1,c2,c3,c4⟩:=hc;simp only[Lt,LB]at h;obtain⟨rfl,rfl,rfl⟩:=h;refine⟨rfl,λh hn=>?_⟩;rw[<- hn];exact QuY ht (Qcr.mk' hi hz c0) ex ey c1 c2 c3 c4
     ·cases h
    ·cases h
   ·cases h
  ·cases h
 case h_20 t x lo hi mx hop=>
  simp only at hop;subst hop;unfold QnB at h;split at h
  ·rename_i ht;split at h
   ·rename_i s l hh ex el eh;split at h
    ·rename_i hc;simp only[Lt,LB]at h;obtain⟨rfl,rfl,rfl⟩:=h;exact⟨rfl,λh=>QqV ht ex el eh hc.1 hc.2.1 hc.2.2⟩
    ·cases h
   ·cases h
  ·rename_i e ht;split at h
   ·rename_i inf l hh m hi' el eh em;split at h
    ·rename_i hc;obtain⟨h1,rfl,rfl⟩:=ZS h;refine⟨rfl,λh=>QrG ht hi' el eh em (λhm hn=>?_) h1⟩;subst hn;cases m with
     | none=>exact hm rfl
     | some m=>simp at hc
    ·cases h
   ·cases h
  ·cases h
 case h_21 t x hop=>
  simp only at hop;subst hop;unfold QrR at h;split at h
  ·rename_i a ex;split at h
   ·rename_i v' hl;simp only[Lt,LB]at h;obtain⟨rfl,rfl,rfl⟩:=h;exact⟨rfl,t,x,a,rfl,ex,hl⟩
   ·cases h
  ·cases h
 case h_22 t x y hop=>
  simp only at hop;subst hop;unfold QnC at h;split at h
  ·rename_i a ex;split at h
   ·rename_i H1 hl;simp only[Lt,LB]at h;obtain⟨rfl,rfl,rfl⟩:=h;exact QCx ex hl
   ·cases h
  ·cases h
 case h_23 cc hop=>
  simp only at hop;subst hop;unfold Qmz at h;split at h
  ·rename_i b args ts;obtain⟨args⟩:=args;obtain⟨ts⟩:=ts;simp only at h;split at h
   ·rename_i x t;split at h
    ·rename_i m hm;simp only[Lt,LB]at h;obtain⟨rfl,rfl,rfl⟩:=h;exact⟨rfl,λh=>QGH hm⟩
    ·cases h
   ·rename_i x t;split at h
    ·rename_i e a m cp ht ex;cases hc:Nat.blt cp UNK with
     | false=>rw[hc]at h;cases h
     | true=>
      rw[hc]at h;simp only[Lq,Lt,LB]at h;obtain⟨rfl,rfl,rfl⟩:=h;exact⟨rfl,λh=>QGI ht ex hc⟩
    ·cases h
   ·rename_i x y;split at h
    ·rename_i k a k' b' ex ey;split at h
     ·rename_i e;subst e;simp only[Lt,LB]at h;obtain⟨rfl,rfl,rfl⟩:=h;exact⟨rfl,λh=>QJ8 ex ey⟩
     ·cases h
    ·cases h
   ·rename_i x y;split at h
    ·rename_i k a k' b' ex ey;split at h
     ·rename_i e;subst e;simp only[Lt,LB]at h;obtain⟨rfl,rfl,rfl⟩:=h;exact⟨rfl,λh=>QEm ex ey⟩
     ·cases h
    ·cases h
   ·rename_i x y t t2;split at h
    ·rename_i e td ht ht2;split at h
     ·rename_i inf hi;split at h
      ·rename_i z hz;cases hc:(QjV td&&QhG P e inf z) with
       | false=>rw[hc]at h;cases h
       | true=>
        rw[hc]at h;simp only[Lq,Lx,LB]at h;obtain⟨⟨v1,H1⟩,hr,rfl,rfl,rfl⟩:=h;simp only[Lm]at hc;exact QBi ht ht2 hc.1 (Qcr.mk' hi hz hc.2) hr
      ·cases h
     ·cases h
    ·cases h
   ·rename_i x y t t2;split at h
    ·rename_i e ht;split at h
     ·rename_i inf hi;simp only[Lx,LB]at h;obtain⟨⟨v1,H1⟩,hr,rfl,rfl,rfl⟩:=h;exact QEo ht hi hr
     ·cases h
    ·cases h
   ·cases h
  ·rename_i recv name args ts;split at h
   ·rename_i t v0 er;split at h
    ·rename_i f hm;simp only[Lx,LB]at h;obtain⟨⟨v1,H1⟩,hr,rfl,rfl,rfl⟩:=h;exact QBo er hm (hcall.fn _ _ _ _ _ hr)
    ·cases h
   ·cases h
  ·rename_i f args ts;simp only[Lx,LB]at h;obtain⟨⟨v1,H1⟩,hr,rfl,rfl,rfl⟩:=h;exact Qrk (hcall.fn _ _ _ _ _ hr)
  ·rename_i cv args ts _;split at h
   ·rename_i f xs ys ec;simp only[Lx,LB]at h;obtain⟨⟨v1,H1⟩,hr,rfl,rfl,rfl⟩:=h;exact QwH ec (hcall.fn _ _ _ _ _ hr)
   ·rename_i l xs ys ec;cases hc:(Nat.beq xs.size 0&&Nat.beq ys.size 0) with
    | false=>rw[hc]at h;cases h
    | true=>
     rw[hc]at h;simp only[Lm,Kh,Lv,Array.size_eq_zero_iff]at hc;obtain⟨rfl,rfl⟩:=hc;simp only[Lq,Lx,LB]at h;obtain⟨⟨v1,H1⟩,hr,rfl,rfl,rfl⟩:=h;exact QwN ec (hcall.yd _ _ _ _ _ hr)
   ·cases h
 case h_24 t hop=>
  simp only at hop;subst hop;simp only[Lt,LB]at h;obtain⟨rfl,rfl,rfl⟩:=h;exact⟨rfl,λh hn=>by rw[<- hn];exact QyJ⟩
 case h_25 t x ix ok hop=>
  simp only at hop;subst hop;unfold QnD at h;split at h
  ·rename_i k e ht;simp only[Lx,LB]at h;obtain⟨v1,hr,rfl,rfl,rfl⟩:=h;exact QBp ht hr
  ·cases h
 case h_26 t m k x hop=>
  simp only at hop;subst hop;unfold QrS at h;split at h
  ·rename_i kt e ht;simp only[Lx,LB]at h;obtain⟨H1,hr,rfl,rfl,rfl⟩:=h;exact Qu1 ht hr
  ·cases h
 case h_27 t m k x hop=>
  simp only at hop;subst hop;unfold QrS at h;split at h
  ·rename_i kt e ht;simp only[Lx,LB]at h;obtain⟨H1,hr,rfl,rfl,rfl⟩:=h;exact QBq ht hr
  ·cases h
 case h_28 t x hop=>
  simp only at hop;subst hop;unfold Qu5 at h;split at h
  ·rename_i s ht ex;simp only[Lt,LB]at h;obtain⟨rfl,rfl,rfl⟩:=h;exact⟨rfl,λh hn=>by rw[<- hn];exact QCL ht ex⟩
  ·cases h
 case h_29 it hop=>
  simp only at hop;subst hop;simp only[Lx,LB]at h;obtain⟨⟨v1,H1⟩,hr,rfl,rfl,rfl⟩:=h;exact QEn hr
 case h_30=>cases h
end
inductive D where
 | d0 | d1 | d2 | d3 | d4 | d5 | d6 | d7 | d8 | d9 | d10 | d11 | d12 | d13 | d14 | d15
structure N16 (α:Type) where
 mk ::
 a0:α
 a1:α
 a2:α
 a3:α
 a4:α
 a5:α
 a6:α
 a7:α
 a8:α
 a9:α
 a10:α
 a11:α
 a12:α
 a13:α
 a14:α
 a15:α
def D.num:D->Nat
 | .d0=>0
 | .d1=>1
 | .d2=>2
 | .d3=>3
 | .d4=>4
 | .d5=>5
 | .d6=>6
 | .d7=>7
 | .d8=>8
 | .d9=>9
 | .d10=>10
 | .d11=>11
 | .d12=>12
 | .d13=>13
 | .d14=>14
 | .d15=>15
def dig (n:Nat):D:=bif Nat.beq n 0 then .d0 else bif Nat.beq n 1 then .d1 else bif Nat.beq n 2 then .d2 else bif Nat.beq n 3 then .d3 else bif Nat.beq n 4 then .d4 else bif Nat.beq n 5 then .d5 else bif Nat.beq n 6 then .d6 else bif Nat.beq n 7 then .d7 else bif Nat.beq n 8 then .d8 else bif Nat.beq n 9 then .d9 else bif Nat.beq n 10 then .d10 else bif Nat.beq n 11 then .d11 else bif Nat.beq n 12 then .d12 else bif Nat.beq n 13 then .d13 else bif Nat.beq n 14 then .d14 else .d15
theorem Qrp {n:Nat}(h:n<16):(dig n).num=n:=by
 have:n=0∨n=1∨n=2∨n=3∨n=4∨n=5∨n=6∨n=7∨n=8∨n=9∨n=10∨n=11∨n=12∨n=13∨n=14∨n=15:=by omega
 rcases this with rfl | rfl | rfl | rfl | rfl | rfl | rfl | rfl | rfl | rfl | rfl | rfl | rfl | rfl | rfl | rfl<;>rfl
theorem QAt {n m:Nat}(hn:n<16)(hm:m<16)(h:dig n=dig m):n=m:=by rw[<- Qrp hn,<- Qrp hm,h]
def N16.get {α:Type}(n:N16 α)(d:D):α:=D.rec (motive:=λ_=>N16 α->α) N16.a0 N16.a1 N16.a2 N16.a3 N16.a4 N16.a5 N16.a6 N16.a7 N16.a8 N16.a9 N16.a10 N16.a11 N16.a12 N16.a13 N16.a14 N16.a15 d n
def N16.set0 {α:Type}(v:α)(n:N16 α):N16 α:=N16.rec (motive:=λ_=>N16 α) (λa0 a1 a2 a3 a4 a5 a6 a7 a8 a9 a10 a11 a12 a13 a14 a15=>⟨v,a1,a2,a3,a4,a5,a6,a7,a8,a9,a10,a11,a12,a13,a14,a15⟩) n
def N16.set1 {α:Type}(v:α)(n:N16 α):N16 α:=N16.rec (motive:=λ_=>N16 α) (λa0 a1 a2 a3 a4 a5 a6 a7 a8 a9 a10 a11 a12 a13 a14 a15=>⟨a0,v,a2,a3,a4,a5,a6,a7,a8,a9,a10,a11,a12,a13,a14,a15⟩) n
def N16.set2 {α:Type}(v:α)(n:N16 α):N16 α:=N16.rec (motive:=λ_=>N16 α) (λa0 a1 a2 a3 a4 a5 a6 a7 a8 a9 a10 a11 a12 a13 a14 a15=>⟨a0,a1,v,a3,a4,a5,a6,a7,a8,a9,a10,a11,a12,a13,a14,a15⟩) n
def N16.set3 {α:Type}(v:α)(n:N16 α):N16 α:=N16.rec (motive:=λ_=>N16 α) (λa0 a1 a2 a3 a4 a5 a6 a7 a8 a9 a10 a11 a12 a13 a14 a15=>⟨a0,a1,a2,v,a4,a5,a6,a7,a8,a9,a10,a11,a12,a13,a14,a15⟩) n
def N16.set4 {α:Type}(v:α)(n:N16 α):N16 α:=N16.rec (motive:=λ_=>N16 α) (λa0 a1 a2 a3 a4 a5 a6 a7 a8 a9 a10 a11 a12 a13 a14 a15=>⟨a0,a1,a2,a3,v,a5,a6,a7,a8,a9,a10,a11,a12,a13,a14,a15⟩) n
def N16.set5 {α:Type}(v:α)(n:N16 α):N16 α:=N16.rec (motive:=λ_=>N16 α) (λa0 a1 a2 a3 a4 a5 a6 a7 a8 a9 a10 a11 a12 a13 a14 a15=>⟨a0,a1,a2,a3,a4,v,a6,a7,a8,a9,a10,a11,a12,a13,a14,a15⟩) n
def N16.set6 {α:Type}(v:α)(n:N16 α):N16 α:=N16.rec (motive:=λ_=>N16 α) (λa0 a1 a2 a3 a4 a5 a6 a7 a8 a9 a10 a11 a12 a13 a14 a15=>⟨a0,a1,a2,a3,a4,a5,v,a7,a8,a9,a10,a11,a12,a13,a14,a15⟩) n
def N16.set7 {α:Type}(v:α)(n:N16 α):N16 α:=N16.rec (motive:=λ_=>N16 α) (λa0 a1 a2 a3 a4 a5 a6 a7 a8 a9 a10 a11 a12 a13 a14 a15=>⟨a0,a1,a2,a3,a4,a5,a6,v,a8,a9,a10,a11,a12,a13,a14,a15⟩) n
def N16.set8 {α:Type}(v:α)(n:N16 α):N16 α:=N16.rec (motive:=λ_=>N16 α) (λa0 a1 a2 a3 a4 a5 a6 a7 a8 a9 a10 a11 a12 a13 a14 a15=>⟨a0,a1,a2,a3,a4,a5,a6,a7,v,a9,a10,a11,a12,a13,a14,a15⟩) n
def N16.set9 {α:Type}(v:α)(n:N16 α):N16 α:=N16.rec (motive:=λ_=>N16 α) (λa0 a1 a2 a3 a4 a5 a6 a7 a8 a9 a10 a11 a12 a13 a14 a15=>⟨a0,a1,a2,a3,a4,a5,a6,a7,a8,v,a10,a11,a12,a13,a14,a15⟩) n
def N16.set10 {α:Type}(v:α)(n:N16 α):N16 α:=N16.rec (motive:=λ_=>N16 α) (λa0 a1 a2 a3 a4 a5 a6 a7 a8 a9 a10 a11 a12 a13 a14 a15=>⟨a0,a1,a2,a3,a4,a5,a6,a7,a8,a9,v,a11,a12,a13,a14,a15⟩) n
def N16.set11 {α:Type}(v:α)(n:N16 α):N16 α:=N16.rec (motive:=λ_=>N16 α) (λa0 a1 a2 a3 a4 a5 a6 a7 a8 a9 a10 a11 a12 a13 a14 a15=>⟨a0,a1,a2,a3,a4,a5,a6,a7,a8,a9,a10,v,a12,a13,a14,a15⟩) n
def N16.set12 {α:Type}(v:α)(n:N16 α):N16 α:=N16.rec (motive:=λ_=>N16 α) (λa0 a1 a2 a3 a4 a5 a6 a7 a8 a9 a10 a11 a12 a13 a14 a15=>⟨a0,a1,a2,a3,a4,a5,a6,a7,a8,a9,a10,a11,v,a13,a14,a15⟩) n
def N16.set13 {α:Type}(v:α)(n:N16 α):N16 α:=N16.rec (motive:=λ_=>N16 α) (λa0 a1 a2 a3 a4 a5 a6 a7 a8 a9 a10 a11 a12 a13 a14 a15=>⟨a0,a1,a2,a3,a4,a5,a6,a7,a8,a9,a10,a11,a12,v,a14,a15⟩) n
def N16.set14 {α:Type}(v:α)(n:N16 α):N16 α:=N16.rec (motive:=λ_=>N16 α) (λa0 a1 a2 a3 a4 a5 a6 a7 a8 a9 a10 a11 a12 a13 a14 a15=>⟨a0,a1,a2,a3,a4,a5,a6,a7,a8,a9,a10,a11,a12,a13,v,a15⟩) n
def N16.set15 {α:Type}(v:α)(n:N16 α):N16 α:=N16.rec (motive:=λ_=>N16 α) (λa0 a1 a2 a3 a4 a5 a6 a7 a8 a9 a10 a11 a12 a13 a14 a15=>⟨a0,a1,a2,a3,a4,a5,a6,a7,a8,a9,a10,a11,a12,a13,a14,v⟩) n
def N16.put {α:Type}(n:N16 α)(d:D)(v:α):N16 α:=D.rec (motive:=λ_=>α->N16 α->N16 α) N16.set0 N16.set1 N16.set2 N16.set3 N16.set4 N16.set5 N16.set6 N16.set7 N16.set8 N16.set9 N16.set10 N16.set11 N16.set12 N16.set13 N16.set14 N16.set15 d v n
theorem N16.get_put {α:Type}(n:N16 α)(d dx:D)(v:α)[Decidable (dx=d)]:(n.put d v).get dx=if dx=d then v else n.get dx:=by
 obtain⟨a0,a1,a2,a3,a4,a5,a6,a7,a8,a9,a10,a11,a12,a13,a14,a15⟩:=n;split
 ·rename_i h;subst h;cases dx<;>rfl
 ·rename_i h;cases d<;>cases dx<;>first | rfl | exact absurd rfl h
def N16.all {α:Type}(v:α):N16 α:=⟨v,v,v,v,v,v,v,v,v,v,v,v,v,v,v,v⟩
theorem N16.get_all {α:Type}(v:α)(d:D):(N16.all v).get d=v:=by cases d<;>rfl
abbrev E:=N16 (N16 Value)
def Ki (e:E):Env:=λt=>(e.get (dig (Nat.div t 16))).get (dig (Nat.mod t 16))
def QEp (e:E)(d:Nat)(v:Value):E:=e.put (dig (Nat.div d 16)) ((e.get (dig (Nat.div d 16))).put (dig (Nat.mod d 16)) v)
def QBs (e:E)(d:Option Nat)(v:Value):E:=Option.rec (motive:=λ_=>E) e (λd=>QEp e d v) d
def QIg (A B:Env):Prop:=∀t,t<256->A t=B t
open Classical in
theorem Quh (e:E){d t:Nat}(v:Value)(hd:d<256)(ht:t<256):Ki (QEp e d v) t=upd (Ki e) d v t:=by
 have e1:∀x y:Nat,Nat.div x y=x / y:=λ_ _=>rfl;have e2:∀x y:Nat,Nat.mod x y=x % y:=λ_ _=>rfl;simp only[Ki,QEp,upd,Kh,e1,e2];rw[N16.get_put]
 by_cases h:t=d
 ·subst h;rw[Lc rfl,N16.get_put,Lc rfl];simp
 ·simp only[h,NE,Ls]
  by_cases h1:dig (t / 16)=dig (d / 16)
  ·rw[Lc h1,N16.get_put];have h2:=QAt (by omega) (by omega) h1;rw[Le (λh3=>h (by have:=QAt (by omega) (by omega) h3;omega)),h1]
  ·rw[Le h1]
theorem QwP (e:E){d:Option Nat}(v:Value)(hd:Qns 256 d=true):QIg (Ki (QBs e d v)) (GF (Ki e) d v):=by
 intro t ht;cases d with
 | none=>rfl
 | some d=>exact Quh e v (by simpa[Qns] using hd) ht
def E.none:E:=N16.all (N16.all undef)
theorem QBt (t:Nat):Ki E.none t=undef:=by simp only[Ki,E.none,N16.get_all]
def Qui:List Value->Nat->E->E
 | [],_,e=>e
 | v::vs,i,e=>Qui vs (i+1) (QEp e i v)
theorem Quj:∀ (l:List Value) (i:Nat) (e:E) (j:Nat),i+l.length<=256->j<256->Ki (Qui l i e) j=if i<=j∧j<i+l.length then l.getD (j - i) undef else Ki e j
 | [],i,e,j,_,_=>by simp[Qui];omega
 | v::l,i,e,j,h,hj=>by
  simp only[Lo]at h;simp only[Qui];rw[Quj l (i+1) _ j (by omega) hj,Quh e v (by omega) hj];simp only[Lo]
  by_cases h1:j=i
  ·subst h1;rw[Le (by omega),Lc ⟨by omega,by omega⟩];simp
  ·by_cases h2:i+1<=j∧j<i+1+l.length
   ·rw[Lc h2,Lc ⟨by omega,by omega⟩,show j - i=(j - (i+1))+1 by omega];simp
   ·rw[Le h2,Le (by omega),QhE _ _ h1]
theorem QBu {l:List Value}(h:l.length<=256):QIg (Ki (Qui l 0 E.none)) (QdH l):=by
 intro j hj;rw[Quj l 0 _ j (by omega) hj];simp only[QdH,L7,Bz,LP,Nat.sub_zero,QBt];split
 ·rfl
 ·rename_i h1;simp[List.getD,N7 (by omega:l.length<=j)]
/-! ### Equality of values and blocks, by a run -/
def QbM (eq:Value->Value->Bool):List Value->List Value->Bool
 | [],[]=>true
 | x::xs,y::ys=>eq x y&&QbM eq xs ys
 | _,_=>false
theorem QnE {eq:Value->Value->Bool}(h:∀x y,eq x y=true->x=y):∀xs ys,QbM eq xs ys=true->xs=ys
 | [],[],_=>rfl
 | x::xs,y::ys,hb=>by
  simp only[QbM,Lm]at hb;rw[h x y hb.1,QnE h xs ys hb.2]
 | [],_::_,hb=>by simp[QbM]at hb
 | _::_,[],hb=>by simp[QbM]at hb
def Qgv:Nat->Value->Value->Bool
 | 0,_,_=>false
 | f+1,x,y=>match x,y with
  | .bool a,.bool b=>a==b
  | .int k a,.int k' b=>decide (k=k')&&decide (a=b)
  | .string a,.string b=>decide (bl a=bl b)
  | .pointer a,.pointer b=>decide (a=b)
  | .slice a l c,.slice a' l' c'=>decide (a=a')&&Nat.beq l l'&&Nat.beq c c'
  | .map a,.map b=>decide (a=b)
  | .nilFunc,.nilFunc=>true
  | .nilIface,.nilIface=>true
  | .iface t v,.iface t' v'=>Nat.beq t t'&&Qgv f v v'
  | .agg xs,.agg ys=>QbM (Qgv f) xs.toList ys.toList
  | .tuple xs,.tuple ys=>QbM (Qgv f) xs.toList ys.toList
  | .func fn xs zs,.func fn' ys us=>decide (fn=fn')&&QbM (Qgv f) xs.toList ys.toList&&QbM (Qgv f) zs.toList us.toList
  | _,_=>false
theorem Qfg:∀ (f:Nat) (x y:Value),Qgv f x y=true->x=y:=by
 intro f
 induction f with
 | zero=>intro x y h;simp[Qgv]at h
 | succ f ih=>
  intro x y h;have harr:∀ {xs ys:Array Value},QbM (Qgv f) xs.toList ys.toList=true->xs=ys:=λh=>Ru (QnE ih _ _ h);unfold Qgv at h;split at h
  ·simp at h;rw[h]
  ·simp only[Lm,Lv]at h;rw[h.1,h.2]
  ·rename_i a b;have h':bl a=bl b:=by simpa using h
   rw[<- QrB a,<- QrB b,h']
  ·simp at h;rw[h]
  ·simp only[Lm,Lv,Kh]at h;rw[h.1.1,h.1.2,h.2]
  ·simp at h;rw[h]
  ·rfl
  ·rfl
  ·simp only[Lm,Lv,Kh]at h;rw[h.1,ih _ _ h.2]
  ·rw[harr h]
  ·rw[harr h]
  ·simp only[Lm,Lv]at h;rw[h.1.1,harr h.1.2,harr h.2]
  ·cases h
def QGK:Option Blk->Option Blk->Bool
 | some (.cells c e r),some (.cells c' e' r')=>Nat.beq e e'&&r==r'&&QbM (Qgv 8) c c'
 | none,none=>true
 | _,_=>false
theorem QEq {x y:Option Blk}(h:QGK x y=true):x=y:=by
 unfold QGK at h;split at h
 ·simp only[Lm,Kh,Lv,L0]at h;rw[h.1.1,h.1.2,QnE (Qfg 8) _ _ h.2]
 ·rfl
 ·cases h
def QEr:Option Value->Value->Bool
 | some x,y=>Qgv 8 x y
 | none,_=>false
theorem QAu {x:Option Value}{y:Value}(h:QEr x y=true):x=some y:=by
 cases x with
 | none=>simp[QEr]at h
 | some x=>rw[Qfg 8 x y h]
/-! ### Regions that draw their order -/
structure Stp where
 t:Env
 H:Qa
 c:Cls
 v:Value
def GR (P:Program)(call:Xa)(n:Nat)(ops:Array Oper):List Oper->Env->Qa->Option (List Stp×Env×Qa)
 | [],t,H=>some ([],t,H)
 | o::rest,t,H=>
  bif Qje P n o then
   match ZE n ops t o with
   | some true=>match aop P call o t H with
    | some (c,v,H')=>match GR P call n ops rest (GF t o.dst v) H' with
     | some (l,r)=>some (⟨t,H,c,v⟩::l,r)
     | none=>none
    | none=>none
   | some false=>match GR P call n ops rest (GF t o.dst undef) H with
    | some (l,r)=>some (⟨t,H,.pure,undef⟩::l,r)
    | none=>none
   | none=>none
  else none
def QEs (o:Oper):Bool:=
 match o.op with
 | .store .. => true
 | .lookup .. => true
 | .mapUpdate .. => true
 | .insert .. => true
 | .next .. => true
 | .entry .. => true
 | .call ⟨.builtin b,_,_⟩=>match b with | .len | .cap | .max | .min | .unsafeSliceData=>false | _=>true
 | .call _=>true
 | _=>false
def Yi (ops:Array Oper)(i:Nat):Bool:=match ops[i]? with | some o=>QEs o | none=>false
def Yj (l:List Stp)(H:Qa)(i:Nat):Qa:=match l[i]? with | some s=>s.H | none=>H
def QhO (P:Program)(ops:Array Oper)(ms:List Nat)(l:List Stp)(H:Qa)(i:Nat)(s:Stp):Bool:=
 Nat.ble s.H.next (Yj l H (i+1)).next &&
 match s.c with
 | .pure=>true
 | .gen=>Yi ops i
 | .load=>match ops[i]? with
  | some o=>match o.op with
   | .load t x=>match ev (s.t) x with
    | .pointer (some a)=>(List.range ops.size).all λk=>!(Yi ops k)||QK ms i k||QK ms k i ||
      (QEr (ZC P t a (Yj l H k)) s.v&&QEr (ZC P t a (Yj l H (k+1))) s.v&&Qh s.H.next 6 s.v)
    | _=>false
   | _=>false
  | none=>false
 | .alloc b=>(List.range ops.size).all λk=>!(Yi ops k)||!(Nat.blt i k)||QK ms i k||QGK ((Yj l H (k+1)).get s.H.next) ((Yj l H k).get s.H.next)
def Qpi (p:Nat->Stp->Bool):Nat->List Stp->Bool
 | _,[]=>true
 | i,s::l=>p i s&&Qpi p (i+1) l
theorem Qqj {p:Nat->Stp->Bool}:∀ (l:List Stp) (i:Nat),Qpi p i l=true->∀ (j:Nat) s,l[j]? = some s->p (i+j) s=true
 | [],_,_,j,s,h=>by simp at h
 | x::l,i,h,j,s,hj=>by
  simp only[Qpi,Lm]at h;cases j with
  | zero=>simp at hj;subst hj;exact h.1
  | succ j=>have:=Qqj l (i+1) h.2 j s (by simpa using hj);rwa [show i+1+j=i+(j+1) by omega]at this
def Qu6:List Oper->List Stp->E->E
 | o::os,s::ss,e=>Qu6 os ss (QBs e o.dst s.v)
 | _,_,e=>e
def Qrq (P:Program)(call:Xa)(n:Nat)(ops:Array Oper)(t:Env)(H:Qa):Option (List Stp×Env×Qa):=
 bif P.follows .mixedOrders&&Qf3 ops (Yi ops) then
  match GR P call n ops ops.toList t H with
  | some (l,t1,H1)=>bif Qpi (QhO P ops (QV ops.toList []) l H1) 0 l then some (l,t1,H1) else none
  | none=>none
 else none
section
variable {P:Program} {n:Nat} {Q:Ex->Env->Qa->Prop}
def QCN (P:Program)(call:Xa)(n:Nat)(ops:Array Oper)(o:Oper)(s:Stp)(t':Env)(H':Qa):Prop:=
 Qje P n o=true∧t'=GF s.t o.dst s.v∧((ZE n ops (s.t) o=some true∧aop P call o (s.t) s.H=some (s.c,s.v,H'))∨(ZE n ops (s.t) o=some false∧s.c=.pure∧s.v=undef∧H'=s.H))
theorem QlW {call:Xa}{ops:Array Oper}:∀ (l:List Oper) (t:Env) (H:Qa) (tr:List Stp) (t1:Env) (H1:Qa),GR P call n ops l t H=some (tr,t1,H1)->
  tr.length=l.length∧(match tr[0]? with | some s=>s.t=t∧s.H=H | none=>t1=t∧H1=H)∧
  ∀ (j:Nat) o s,l[j]? = some o->tr[j]? = some s->QCN P call n ops o s (match tr[j+1]? with | some s'=>s'.t | none=>t1) (Yj tr H1 (j+1))
 | [],t,H,tr,t1,H1,h=>by simp only[GR,Lt,LB]at h;obtain⟨rfl,rfl,rfl⟩:=h;exact⟨rfl,⟨rfl,rfl⟩,λj o s hj=>by simp at hj⟩
 | o::rest,t,H,tr,t1,H1,h=>by
  have step:∀ (s:Stp) (l:List Stp) (t':Env) (H':Qa),s.t=t->s.H=H->GR P call n ops rest t' H'=some (l,t1,H1)->tr=s::l->QCN P call n ops o s t' H'->
    tr.length=(o::rest).length∧(match tr[0]? with | some s=>s.t=t∧s.H=H | none=>t1=t∧H1=H)∧
    ∀ (j:Nat) o' s,(o::rest)[j]? = some o'->tr[j]? = some s->QCN P call n ops o' s (match tr[j+1]? with | some s'=>s'.t | none=>t1) (Yj tr H1 (j+1)):=by
   intro s l t' H' e1 e2 hl htr hok;obtain⟨i1,i2,i3⟩:=QlW rest t' H' l t1 H1 hl;subst htr;refine⟨by simp[i1],by simp[e1,e2],λj o' s' hj hs=>?_⟩;cases j with
   | zero=>
    simp only[Bp,Lt]at hj hs;subst hj;subst hs;have:(match (s::l)[0+1]? with | some s'=>s'.t | none=>t1)=t'∧Yj (s::l) H1 (0+1)=H':=by
     simp only[Yj,LP,Bg];cases hl0:l[0]? with
     | none=>rw[hl0]at i2;exact⟨i2.1,i2.2⟩
     | some s1=>rw[hl0]at i2;exact⟨i2.1,i2.2⟩
    rw[this.1,this.2];exact hok
   | succ j=>
    have:=i3 j o' s' (by simpa using hj) (by simpa using hs);simpa[Yj] using this
  unfold GR at h;cases hok:Qje P n o with
  | false=>rw[hok]at h;cases h
  | true=>
   rw[hok]at h;simp only[Lq]at h;split at h
   ·rename_i hw;split at h
    ·rename_i c v H' ha;split at h
     ·rename_i l r hl;obtain⟨t1',H1'⟩:=r;simp only[Lt,LB]at h;obtain⟨rfl,rfl,rfl⟩:=h;exact step ⟨t,H,c,v⟩ l _ H' rfl rfl hl rfl ⟨hok,rfl,.inl ⟨hw,ha⟩⟩
     ·cases h
    ·cases h
   ·rename_i hw;split at h
    ·rename_i l r hl;obtain⟨t1',H1'⟩:=r;simp only[Lt,LB]at h;obtain⟨rfl,rfl,rfl⟩:=h;exact step ⟨t,H,.pure,undef⟩ l _ H rfl rfl hl rfl ⟨hok,rfl,.inr ⟨hw,rfl,rfl,rfl⟩⟩
    ·cases h
   ·cases h
theorem Qqk {ops:Array Oper}{g g':Nat->Bool}(h:∀i,i<ops.size->g i=true->g' i=true)(hd:Qf3 ops g'=true):Qf3 ops g=true:=by
 unfold Qf3 at hd ⊢;simp only[Li,LU]at hd ⊢;intro j hj;have h1:=hd j hj;split
 ·rfl
 ·rename_i o ho;rw[ho]at h1;simp only[Lm,Li,LU]at h1 ⊢;refine⟨h1.1,λi hi=>?_⟩;have h2:=h1.2 i hi;split
  ·rfl
  ·rename_i oi hoi;rw[hoi]at h2;simp only[Lm]at h2 ⊢;refine⟨h2.1,?_⟩;have h3:=h2.2;cases gi:g i with
   | false=>simp
   | true=>
    cases gj:g j with
    | false=>simp
    | true=>simpa[h i hi gi,h j hj gj] using h3
theorem Qtl {call:Xa}(hcall:QhN P call){id:Nat}{ops:Array Oper}{t t1:Env}{H H1:Qa}{tr:List Stp}(h:Qrq P call n ops t H=some (tr,t1,H1))(hq:Q .normal t1 H1):AWp P n (.region id ops true) Q t H:=by
 unfold Qrq at h;cases hc:(P.follows .mixedOrders&&Qf3 ops (Yi ops)) with
 | false=>rw[hc]at h;cases h
 | true=>
  rw[hc]at h;simp only[Lq]at h;simp only[Lm]at hc;obtain⟨hm,hd⟩:=hc;split at h
  ·rename_i l t1' H1' htr;cases hall:Qpi (QhO P ops (QV ops.toList []) l H1') 0 l with
   | false=>rw[hall]at h;cases h
   | true=>
    rw[hall]at h;simp only[Lq,Lt,LB]at h;obtain⟨rfl,rfl,rfl⟩:=h;obtain⟨s1,s2,s3⟩:=QlW ops.toList t H l t1' H1' htr;have hlen:l.length=ops.size:=by simpa using s1
    have hchk:∀ (j:Nat) s,l[j]? = some s->QhO P ops (QV ops.toList []) l H1' j s=true:=λj s hj=>by have:=Qqj l 0 hall j s hj;rwa [LP]at this
    let As:Nat->Env:=λi=>match l[i]? with | some s=>s.t | none=>t1'
    let Hs:Nat->Qa:=Yj l H1'
    let vs:Nat->Value:=λi=>match l[i]? with | some s=>s.v | none=>undef
    let cls:Nat->Cls:=λi=>match l[i]? with | some s=>s.c | none=>.pure
    have hat:∀ (i:Nat) o,ops[i]? = some o->∃s,l[i]? = some s:=λi o ho=>by
     have:i<l.length:=by rw[hlen];exact(Nj.1 ho).1
     exact⟨l[i],La this⟩
    have hgen:∀i,i<ops.size->Zf (cls i)=true->Yi ops i=true:=λi hi hg=>by
     obtain⟨s,hs⟩:=hat i ops[i] (Ng hi);have hcl:cls i=s.c:=by simp only[cls,hs]
     rw[hcl]at hg;have hk:=hchk i s hs;unfold QhO at hk;simp only[Lm]at hk;cases hsc:s.c with
     | gen=>rw[hsc]at hk;exact hk.2
     | _=>rw[hsc]at hg;cases hg
    have F:KB P n ops As Hs vs cls:=by
     refine⟨λi o ho=>?_,λi hi=>?_,λi o ho=>?_,λi o ho=>?_,Qqk hgen hd⟩
     ·obtain⟨s,hs⟩:=hat i o ho;have hok:=s3 i o s (by simpa using ho) hs;have e1:As i=s.t:=by simp only[As,hs]
      have e2:vs i=s.v:=by simp only[vs,hs]
      rw[e1,e2,<- hok.2.1]
     ·obtain⟨s,hs⟩:=hat i ops[i] (Ng hi);have hk:=hchk i s hs;unfold QhO at hk;simp only[Lm]at hk;have e1:Hs i=s.H:=by simp only[Hs,Yj,hs]
      rw[e1];simpa using hk.1
     ·obtain⟨s,hs⟩:=hat i o ho;exact(s3 i o s (by simpa using ho) hs).1
     ·obtain⟨s,hs⟩:=hat i o ho;have hok:=s3 i o s (by simpa using ho) hs;have hk:=hchk i s hs;have e1:As i=s.t:=by simp only[As,hs]
      have e2:vs i=s.v:=by simp only[vs,hs]
      have e3:Hs i=s.H:=by simp only[Hs,Yj,hs]
      have e4:cls i=s.c:=by simp only[cls,hs]
      unfold QyF;rw[e1,e2,e3,e4];rcases hok.2.2 with⟨hw,ha⟩ | ⟨hw,hc0,hv0,hH0⟩
      ·right;refine⟨hw,?_⟩;have hcl:=Qph hcall ha;unfold QhO at hk;simp only[Lm]at hk;cases hsc:s.c with
       | pure=>rw[hsc]at hcl;exact hcl
       | gen=>rw[hsc]at hcl;exact hcl
       | alloc b=>
        rw[hsc]at hcl hk;refine⟨hcl.1,hcl.2,λk hk1 hik hgk ho'=>?_⟩;have:=Li.1 hk.2 k (LU.2 hk1);have hb:Nat.blt i k=true:=by simpa using hik
        simp only[hgen k hk1 hgk,hb,ho',L8,Nt]at this;exact QEq this
       | load=>
        rw[hsc]at hcl hk;obtain⟨h1,tt,x,a,hop,ex,hl⟩:=hcl;refine⟨h1,tt,x,a,hop,ex,hl,λk hk1 hgk o1 o2=>?_⟩;have hk2:=hk.2;rw[ho]at hk2;simp only[hop,ex]at hk2;have:=Li.1 hk2 k (LU.2 hk1);simp only[hgen k hk1 hgk,o1,o2,L8,Nt,Lm]at this;exact⟨QAu this.1.1,QAu this.1.2,this.2⟩
      ·left;exact⟨hw,hv0,hH0,hc0⟩
    have hN:l[ops.size]? = none:=N7 (by omega);have eN:As ops.size=t1':=by simp only[As,hN]
    have eH:Hs ops.size=H1':=by simp only[Hs,Yj,hN]
    have e0:As 0=t∧Hs 0=H:=by
     cases hl0:l[0]? with
     | none=>rw[hl0]at s2;simp only[As,Hs,Yj,hl0,s2.1,s2.2,RU]
     | some s=>rw[hl0]at s2;simp only[As,Hs,Yj,hl0,s2.1,s2.2,RU]
    have:=QwL (id:=id) (Q:=Q) hm F (by rw[eN,eH];exact hq);rw[e0.1,e0.2]at this;exact this
  ·cases h
theorem Qfh {ops:Array Oper}{o:Oper}{rest:List Oper}{A:Env}{H:Qa}{b:Bool}{j:Nat}{want:Bool}(hg:o.guard=some (j,want))(hw:ZE n ops A o=some b)
  (hyes:b=true->∃v H',QC P o A H v H'∧Qmq P n ops rest Q (GF A o.dst v) H') (hno:b=false->Qmq P n ops rest Q (GF A o.dst undef) H) (hd:Qje P n o=true):Qmq P n ops (o::rest) Q A H:=by
 intro z ρ w a hs he;have hwc:Region.wanted o (yielded ops a.tmps)=b:=by
  unfold ZE at hw;rw[hg]at hw;simp only at hw;split at hw
  ·rename_i t hsl;split at hw
   ·rename_i htn;have hv:=he.tmps t htn;have hlt:t<a.tmps.size:=by rw[he.size];exact htn
    rw[N0,Ng hlt]at hv;simp only[NB]at hv;have hsl':=hsl;unfold Qcp at hsl';split at hw
    ·rename_i b0 eb;cases hw;rw[eb]at hv;have hcb:a.tmps[t]? = some (.bool b0):=by rw[Ng hlt,hv.plain_eq rfl]
     have hy:yielded ops a.tmps j=some b0:=by unfold yielded;rw[hsl'];simp[hcb]
     simp[Region.wanted,hg,hy]
    ·rename_i vs0 eb;cases hw;rw[eb]at hv;obtain⟨vs1,e1,_⟩:=hv.tuple_inv;have hcb:a.tmps[t]? = some (.tuple vs1):=by rw[Ng hlt,e1]
     have hy:yielded ops a.tmps j=none:=by unfold yielded;rw[hsl'];simp[hcb]
     simp[Region.wanted,hg,hy]
    ·cases hw
   ·cases hw
  ·cases hw
 refine wpListIn_step λK hK=>?_;cases b with
 | true=>
  obtain⟨v,H',ho,h⟩:=hyes rfl;rw[Lc hwc];refine ho ρ w a hs (he.op hs hd) K _ (λv' ρ' w' hv hst hs'=>?_) z;have:=h z ρ' w' (a.put o.dst v') hs' ((he.step hst).putO (QjS hd) hv);exact hK _ _ (Qp6 hst this)
 | false=>
  rw[Le (by rw[hwc];simp)];exact⟨λ_ _=>trivial,hK _ _ (hno rfl z ρ w _ hs (he.putO (QjS hd) (.closed (by simp[undef,ZB]))))⟩
end
inductive Sk where
 | i | b | s
inductive R where
 | mv (x:Operand)
 | pick (c x y:Operand)
 | bin (op:BinOp) (x y:Operand)
 | beq (ne:Bool) (x y:Operand)
 | eqs (ne:Bool) (ks:List Sk) (x y:Operand)
 | not (x:Operand)
 | toInt (k:IntKind) (x:Operand)
 | mkIf (t:TypeId) (x:Operand)
 | fld (agg:Bool) (off size:Nat) (x:Operand)
 | fldA (off:Nat) (x:Operand)
 | idxS (size:Nat) (x ix:Operand)
 | chr (x ix:Operand)
 | ext (x:Operand) (i:Nat)
 | build (z:List Value) (parts:List (Nat×Nat×Operand))
 | bslice (e size len:Nat) (z:List Value) (parts:List (Nat×Operand))
 | alloc (e:TypeId) (z:List Value)
 | box (e:TypeId) (x:Operand)
 | mkSl (e size bytes:Nat) (z:List Value) (x y:Operand)
 | slS (size:Nat) (x:Operand) (lo hi:Option Operand)
 | ld (agg:Bool) (size:Nat) (x:Operand)
 | st (size:Nat) (x y:Operand)
 | stf (size:Nat) (x y:Operand) (os:List Operand)
 | lenS (x:Operand)
 | lenT (x:Operand)
 | app (e size bytes:Nat) (x y:Operand)
 | gen (o:Op)
 | call (f:FuncId) (args:List Operand)
 | callv (c:Operand) (args:List Operand)
 | callF (f:FuncId) (args os:List Operand)
 | callG (f:FuncId) (args os:List Operand)
 | appF (e size bytes:Nat) (x y:Operand) (os:List Operand)
def GH:Xa:=⟨λ_ _ _=>none,λ_ _ _=>none⟩
def Qql (f:Operand->Value):List Value->List (Nat×Nat×Operand)->Option (List Value)
 | cells,[]=>some cells
 | cells,(off,size,x)::rest=>if(f x).cells.toList.length=size∧off+size<=cells.length then Qql f (splice cells off (f x).cells.toList) rest else none
def ZF (e size bytes:Nat)(s x:Value)(H:Qa):Option (Value×Qa):=
 match J4 size x H with
 | none=>none
 | some (m,news)=>
  if news.all (·.oneCell')=true then
   match s with
   | .slice none 0 0=>
    if m=0 then some (.slice none 0 0,H) else
    if m<=9223372036854775807∧m * bytes<=140737488355328 then some (.slice (some ⟨H.next,0,none⟩) m (UNK+size),H.push (.cells news e false)) else none
   | .slice (some a) len cap=>
    if m=0 then(if UNK<=cap∨len<=cap then some (.slice (some a) len cap,H) else none) else
    match H.get a.block with
    | some (.cells c e' ro)=>
     if a.off+len * size<=c.length∧len+m<=9223372036854775807∧(len+m) * bytes<=140737488355328 then
      if UNK<=cap then
       if ro=false∧e'=e∧a.off=0∧a.off+len * size=c.length then some (.slice (some ⟨H.next,0,none⟩) (len+m) (UNK+size),(H.kill a.block).push (.cells (c.drop a.off++news) e false))
       else if ro=false∧cap=UNK+size∧a.off+(len+m) * size<=c.length then some (.slice (some a) (len+m) cap,H.set a.block (.cells (splice c (a.off+len * size) news) e' false)) else none
      else if len+m<=cap then
       (if ro=false∧a.off+(len+m) * size<=c.length then some (.slice (some a) (len+m) cap,H.set a.block (.cells (splice c (a.off+len * size) news) e' false)) else none)
      else some (.slice (some ⟨H.next,0,none⟩) (len+m) (UNK+size),H.push (.cells ((c.drop a.off).take (len * size)++news) e false))
     else none
    | _=>none
   | _=>none
  else none
theorem QyL (e:TypeId)(inf:TypeInfo)(s x:Value)(H:Qa):Qli e inf s x H=ZF e inf.size inf.bytes s x H:=rfl
def QEt:Sk->Value->Value->Option Bool
 | .i,.int k a,.int k' b=>if k=k' then some (a==b) else none
 | .b,.bool a,.bool b=>some (a==b)
 | .s,.string a,.string b=>some (bl a==bl b)
 | _,_,_=>none
def Qd2:List Sk->Array Value->Array Value->Nat->Option Bool
 | [],_,_,_=>some true
 | k::ks,xs,ys,i=>match xs[i]?,ys[i]? with
  | some a,some b=>match QEt k a b with
   | some true=>Qd2 ks xs ys (i+1)
   | r=>r
  | _,_=>none
def VN (op:BinOp)(x y:Value):Option Value:=
 match x,y with
 | .int ik a,.int ik' b=>match op with
  | .shl | .shr=>QcR op ik a b
  | _=>if ik=ik' then Jh op ik a b else none
 | .string a,.string b=>Qei op (bl a) (bl b)
 | _,_=>none
def QjZ (H:Qa):Option Value->Option (Value×Qa)
 | some v=>some (v,H)
 | none=>none
def Quk (f:Operand->Value):Option Operand->Option (Option Int)
 | none=>some none
 | some x=>match f x with | .int _ m=>some (some m) | _=>none
def rop (P:Program)(r:R)(A:Env)(H:Qa):Option (Value×Qa):=
 match r with
 | .mv x=>some (ev A x,H)
 | .pick c x y=>match ev A c with | .bool t=>some (bif t then ev A x else ev A y,H) | _=>none
 | .bin op x y=>QjZ H (VN op (ev A x) (ev A y))
 | .beq ne x y=>match ev A x,ev A y with
  | .bool a,.bool b=>some (.bool (bif ne then !(a==b) else a==b),H)
  | _,_=>none
 | .eqs ne m x y=>match ev A x,ev A y with
  | .agg xs,.agg ys=>match Qd2 m xs ys 0 with | some b=>some (.bool (bif ne then !b else b),H) | none=>none
  | _,_=>none
 | .not x=>match ev A x with | .bool b=>some (.bool !b,H) | _=>none
 | .toInt k x=>match ev A x with | .int _ m=>some (.int k (k.wrap m),H) | _=>none
 | .mkIf t x=>some (.iface t (ev A x),H)
 | .fld agg off size x=>match ev A x with
  | .agg cs=>QjZ H (bif agg then some (.agg (cs.extract off (off+size))) else cs[off]?)
  | _=>none
 | .fldA off x=>match ev A x with | .pointer (some a)=>some (.pointer (some ⟨a.block,a.off+off,none⟩),H) | _=>none
 | .idxS size x ix=>match ev A ix,ev A x with
  | .int _ m,.slice (some a) len _=>if 0<=m∧m<len then some (.pointer (some ⟨a.block,a.off+m.toNat * size,none⟩),H) else none
  | _,_=>none
 | .chr x ix=>match ev A ix,ev A x with
  | .int _ m,.string s=>if 0<=m then(match (bl s)[m.toNat]? with | some b=>some (.int .u8 b.toNat,H) | none=>none) else none
  | _,_=>none
 | .ext x i=>match ev A x with | .tuple vs=>QjZ H vs[i]? | _=>none
 | .build z parts=>match Qql (ev A) z parts with | some r=>some (.agg r.toArray,H) | none=>none
 | .bslice e size len z parts=>match Qfb (λi=>some (i * size,size)) z (parts.map λp=>(p.1,ev A p.2)) with
  | some r=>some (.slice (some ⟨H.next,0,none⟩) len len,H.push (.cells r e false))
  | none=>none
 | .alloc e z=>some (.pointer (some ⟨H.next,0,none⟩),H.push (.cells z e false))
 | .box e x=>some (.pointer (some ⟨H.next,0,none⟩),H.push (.cells (ev A x).cells.toList e false))
 | .mkSl e size bytes z x y=>match ev A x,ev A y with
  | .int .i64 l,.int .i64 c=>if 0<=l∧l<=c∧(bytes:Int) * c<=281474976710656∧c<=9223372036854775807 then
    some (.slice (some ⟨H.next,0,none⟩) l.toNat c.toNat,H.push (.cells (Ze z.toArray (c.toNat * size)) e false)) else none
  | _,_=>none
 | .slS size x lo hi=>match Quk (ev A) lo,Quk (ev A) hi with
  | some l,some h=>QjZ H (Qaz size (ev A x) l h none)
  | _,_=>none
 | .ld agg size x=>match ev A x with
  | .pointer (some a)=>match H.get a.block with
   | some (.cells c _ _)=>bif agg then(if a.off+size<=c.length then some (.agg ((c.drop a.off).take size).toArray,H) else none) else QjZ H c[a.off]?
   | _=>none
  | _=>none
 | .st size x y=>match ev A x with
  | .pointer (some a)=>match H.get a.block with
   | some (.cells c e false)=>if(ev A y).cells.toList.length=size∧a.off+(ev A y).cells.toList.length<=c.length∧(ev A y).cells.toList.all (·.oneCell')=true then some (undef,H.set a.block (.cells (splice c a.off (ev A y).cells.toList) e false)) else none
   | _=>none
  | _=>none
 | .stf size x y _=>match ev A x with
  | .pointer (some a)=>match H.get a.block with
   | some (.cells c e false)=>if(ev A y).cells.toList.length=size∧a.off+(ev A y).cells.toList.length<=c.length∧(ev A y).cells.toList.all (·.oneCell')=true then some (undef,H.set a.block (.cells (splice c a.off (ev A y).cells.toList) e false)) else none
   | _=>none
  | _=>none
 | .lenS x=>match ev A x with | .slice _ m _=>some (.int .i64 (m:Int),H) | _=>none
 | .lenT x=>match ev A x with | .string s=>some (.int .i64 ((bl s).length:Int),H) | _=>none
 | .app e size bytes x y=>ZF e size bytes (ev A x) (ev A y) H
 | .gen o=>match aop P GH ⟨none,o,0, "",#[],none⟩ A H with | some (_,v,H')=>some (v,H') | none=>none
 | .call _ _=>none
 | .callv _ _=>none
 | .callF _ _ _=>none
 | .callG _ _ _=>none
 | .appF _ _ _ _ _ _=>none
/-! ### Resolving -/
def QnF (P:Program):List Field->Nat->Option (List Sk)
 | [],_=>some []
 | fd::fs,i=>
  if fd.name = "_" ∨ fd.offset≠i then none else
  match P.info? fd.type,QnF P fs (i+1) with
  | some _,some ks=>match P.underlying fd.type with
   | some (.int _)=>some (.i::ks)
   | some .bool=>some (.b::ks)
   | some .string=>some (.s::ks)
   | _=>none
  | _,_=>none
def QnG (pl:Array (Nat×Nat)):List (Nat×Operand)->Option (List (Nat×Nat×Operand))
 | []=>some []
 | (i,x)::rest=>match pl[i]?,QnG pl rest with
  | some (off,size),some l=>some ((off,size,x)::l)
  | _,_=>none
def Wl (P:Program)(op:Op):R:=
 match op with
 | .move x=>.mv x
 | .assign x=>.mv x
 | .pick c x y=>.pick c x y
 | .binOp b t x y _=>
  match P.underlying t with
  | some (.int _) | some .string=>.bin b x y
  | some .bool=>match b with | .eql=>.beq false x y | .neq=>.beq true x y | _=>.gen op
  | some (.struct fs)=>if P.stoodInHeld t||P.eqGuardType P.depth t then .gen op else match QnF P fs.toList 0 with
   | some ks=>(match b with | .eql=>.eqs false ks x y | .neq=>.eqs true ks x y | _=>.gen op)
   | none=>.gen op
  | _=>.gen op
 | .unOp .not _ x=>.not x
 | .convert src dst x=>match P.underlying src,P.underlying dst with
  | some (.int _),some (.int k)=>.toInt k x
  | _,_=>.gen op
 | .makeInterface t x=>match P.underlying t with
  | some (.interface _)=>.gen op
  | some _=>.mkIf t x
  | none=>.gen op
 | .field t x f=>match P.underlying t with
  | some (.struct fs)=>match fs[f]? with
   | some fd=>match P.underlying fd.type,P.info? fd.type with
    | some td,some inf=>.fld (GG td) fd.offset inf.size x
    | _,_=>.gen op
   | none=>.gen op
  | _=>.gen op
 | .fieldAddr t x f=>match P.underlying t with
  | some (.struct fs)=>match fs[f]? with
   | some fd=>match P.info? fd.type with
    | some inf=>if inf.size=0 then .gen op else .fldA fd.offset x
    | none=>.gen op
   | none=>.gen op
  | _=>.gen op
 | .indexAddr t x ix=>match P.underlying t with
  | some (.slice e)=>match P.info? e with
   | some inf=>.idxS inf.size x ix
   | none=>.gen op
  | _=>.gen op
 | .index t x ix=>match P.underlying t with
  | some .string=>.chr x ix
  | _=>.gen op
 | .extract x i=>.ext x i
 | .build t parts=>match P.underlying t,P.info? t with
  | some (.struct fs),some inf=>match inf.zero,Qnz P fs with
   | some z,some pl=>if z.cells.toList.all plain then(match QnG pl parts.toList with | some l=>.build z.cells.toList l | none=>.gen op) else .gen op
   | _,_=>.gen op
  | _,_=>.gen op
 | .buildSlice t len parts=>match P.underlying t with
  | some (.slice e)=>match P.info? e with
   | some inf=>match inf.zero with
    | some z=>if z.cells.toList.all plain&&Nat.blt 0 z.cells.size&&Nat.ble len 16777216&&Nat.ble (len * inf.size) 16777216 then .bslice e inf.size len (Ze z.cells (len * inf.size)) parts.toList else .gen op
    | none=>.gen op
   | none=>.gen op
  | _=>.gen op
 | .alloc e=>match P.info? e with
  | some inf=>match inf.zero with
   | some z=>if z.cells.toList.all plain then .alloc e z.cells.toList else .gen op
   | none=>.gen op
  | none=>.gen op
 | .makeSlice t x y=>match P.underlying t with
  | some (.slice e)=>match P.info? e with
   | some inf=>match inf.zero with
    | some z=>if QhG P e inf z then .mkSl e inf.size inf.bytes z.cells.toList x y else .gen op
    | none=>.gen op
   | none=>.gen op
  | _=>.gen op
 | .slice t x lo hi none=>match P.underlying t with
  | some (.slice e)=>match P.info? e with
   | some inf=>.slS inf.size x lo hi
   | none=>.gen op
  | _=>.gen op
 | .load t x=>match P.underlying t,P.info? t with
  | some d,some inf=>.ld (GG d) inf.size x
  | _,_=>.gen op
 | .store t x y=>match P.info? t with
  | some inf=>.st inf.size x y
  | none=>.gen op
 | .call ⟨.builtin .len,args,ts⟩=>match args.toList,ts.toList with
  | [x],[t]=>match P.underlying t with
   | some (.slice _)=>.lenS x
   | some .string=>.lenT x
   | _=>.gen op
  | _,_=>.gen op
 | .call ⟨.builtin .append,args,ts⟩=>match args.toList,ts.toList with
  | [x,y],[t,t2]=>match P.underlying t,P.underlying t2 with
   | some (.slice e),some td=>match P.info? e with
    | some inf=>match inf.zero with
     | some z=>if QjV td&&QhG P e inf z then .app e inf.size inf.bytes x y else .gen op
     | none=>.gen op
    | none=>.gen op
   | _,_=>.gen op
  | _,_=>.gen op
 | .call ⟨.value (.func f),args,_⟩=>.call f args.toList
 | .call ⟨.value c,args,_⟩=>.callv c args.toList
 | .box e x=>.box e x
 | op=>.gen op
section
variable {P:Program} {A:Env} {H:Qa}
def Qul (P:Program)(op:Op)(A:Env)(H:Qa)(v:Value)(H':Qa):Prop:=∃c,aop P GH ⟨none,op,0, "",#[],none⟩ A H=some (c,v,H')
theorem QBv {op:Op}{v:Value}{H':Qa}(h:rop P (.gen op) A H=some (v,H')):Qul P op A H v H':=by
 simp only[rop]at h;split at h
 ·rename_i c v1 H1 he;simp only[Lt,LB]at h;obtain⟨rfl,rfl⟩:=h;exact⟨c,he⟩
 ·cases h
theorem Qgw {r:Option Value}{v:Value}{H':Qa}(h:QjZ H r=some (v,H')):r=some v∧H'=H:=by
 cases r with
 | none=>cases h
 | some u=>simp[QjZ]at h;exact⟨by rw[h.1],h.2.symm⟩
theorem QBw {op:BinOp}{t:TypeId}{x y v:Value}{k:Bool}(h:VN op x y=some v):Qu2 P k op t x y=some v:=by
 unfold VN at h;split at h
 ·exact h
 ·exact h
 ·cases h
def QEu (P:Program)(t:TypeId):Sk->Prop
 | .i=>∃ik,P.underlying t=some (.int ik)
 | .b=>P.underlying t=some .bool
 | .s=>P.underlying t=some .string
theorem QwQ {f:Nat}{t:TypeId}{k:Sk}{a b:Value}{r:Bool}(h:QEt k a b=some r)(hk:QEu P t k):aeq P (f+1) t a b=some r:=by
 unfold QEt at h;split at h
 ·obtain⟨ik,hu⟩:=hk;simp only[aeq,hu];exact h
 ·simp only[QEu]at hk;simp only[aeq,hk];exact h
 ·simp only[QEu]at hk;simp only[aeq,hk];exact h
 ·cases h
theorem Qqm {f:Nat}:∀ (fs:List Field) (i:Nat) (ks:List Sk) (xs ys:Array Value) (b:Bool),QnF P fs i=some ks->Qd2 ks xs ys i=some b->XY P (aeq P (f+1)) fs xs ys=some b
 | [],i,ks,xs,ys,b,hs,h=>by simp only[QnF,Lt]at hs;subst hs;simpa[Qd2,XY] using h
 | fd::fs,i,ks,xs,ys,b,hs,h=>by
  unfold QnF at hs;split at hs
  ·cases hs
  ·rename_i h1;simp only[not_or,Decidable.not_not]at h1;split at hs
   ·rename_i inf ks1 hi hs1;have main:∀k,(∀zs:Array Value,QcS P fd.type zs fd.offset=zs[i]?)->QEu P fd.type k->
      Qd2 (k::ks1) xs ys i=some b->XY P (aeq P (f+1)) (fd::fs) xs ys=some b:=λk hap hk h=>by
     unfold Qd2 at h;unfold XY;rw[Le h1.1,hap,hap];split at h
     ·rename_i a c ha hc;rw[ha,hc];simp only;split at h
      ·rename_i he;rw[QwQ he hk];exact Qqm fs (i+1) ks1 xs ys b hs1 h
      ·rename_i r hr;have:=QwQ (f:=f) h hk;rw[this];cases b with
       | true=>exact absurd h hr
       | false=>rfl
     ·cases h
    split at hs
    ·rename_i ik hu;cases hs;exact main .i (λzs=>by simp[QcS,hu,hi,GG,h1.2]) ⟨ik,hu⟩ h
    ·rename_i hu;cases hs;exact main .b (λzs=>by simp[QcS,hu,hi,GG,h1.2]) hu h
    ·rename_i hu;cases hs;exact main .s (λzs=>by simp[QcS,hu,hi,GG,h1.2]) hu h
    ·cases hs
   ·cases hs
theorem Qqn {pl:Array (Nat×Nat)}:∀ (parts:List (Nat×Operand)) (l:List (Nat×Nat×Operand)) (cells:List Value),QnG pl parts=some l->Qfb (pl[·]?) cells (parts.map λp=>(p.1,ev A p.2))=Qql (ev A) cells l
 | [],l,cells,h=>by simp only[QnG,Lt]at h;subst h;rfl
 | (i,x)::rest,l,cells,h=>by
  unfold QnG at h;split at h
  ·rename_i off size l1 hp hr;cases h;simp only[NZ,Qfb,Qql,hp];rw[Qqn rest l1 _ hr]
  ·cases h
set_option maxHeartbeats 2000000 in
theorem QyM {op:Op}{v:Value}{H':Qa}(h:rop P (Wl P op) A H=some (v,H')):Qul P op A H v H':=by
 have gen:rop P (.gen op) A H=some (v,H')->Qul P op A H v H':=QBv;unfold Wl at h;split at h
 case h_1 x=>simp only[rop,Lt,LB]at h;obtain⟨rfl,rfl⟩:=h;exact⟨_,rfl⟩
 case h_2 x=>simp only[rop,Lt,LB]at h;obtain⟨rfl,rfl⟩:=h;exact⟨_,rfl⟩
 case h_3 c x y=>
  simp only[rop]at h;split at h
  ·rename_i t ht;simp only[Lt,LB]at h;obtain⟨rfl,rfl⟩:=h;exact⟨.pure,by simp only[aop,Qu3,ht]⟩
  ·cases h
 case h_4 b t x y yt=>
  have bin:rop P (.bin b x y) A H=some (v,H')->Qul P (.binOp b t x y yt) A H v H':=λh=>by
   obtain⟨h1,rfl⟩:=Qgw h;exact⟨.pure,by simp only[aop,Qfe,QBw h1,Ji]⟩
  split at h
  ·exact bin h
  ·exact bin h
  ·rename_i hu;have beq:∀ne:Bool,(b=bif ne then .neq else .eql)->rop P (.beq ne x y) A H=some (v,H')->Qul P (.binOp b t x y yt) A H v H':=λne hb h=>by
    simp only[rop]at h;split at h
    ·rename_i p q hp hq;simp only[Lt,LB]at h;obtain⟨rfl,rfl⟩:=h;refine⟨.pure,?_⟩;have hg:∀k,JF P k t (.bool p) (.bool q)=true:=λk=>by simp[JF,Qmw,Qu0]
     simp only[aop,Qfe,Qu2,hp,hq,Qqc,Qcs,hg,Bj,N3,hb];cases ne<;>simp[aeq,hu,Ji]
    ·cases h
   split at h
   ·exact beq false rfl h
   ·exact beq true rfl h
   ·exact gen h
  ·rename_i fs hu;split at h
   ·exact gen h
   ·rename_i hc;simp only[Nw,not_or,Bool.not_eq_true]at hc;split at h
    ·rename_i ks hks;have eqs:∀ne:Bool,(b=bif ne then .neq else .eql)->rop P (.eqs ne ks x y) A H=some (v,H')->Qul P (.binOp b t x y yt) A H v H':=λne hb h=>by
      simp only[rop]at h;split at h
      ·rename_i p q hp hq;split at h
       ·rename_i r hr;simp only[Lt,LB]at h;obtain⟨rfl,rfl⟩:=h;refine⟨.pure,?_⟩;have hg:∀k,JF P k t (.agg p) (.agg q)=true:=λk=>by simp[JF,Qmw,hc.2]
        have ha:=Qqm (f:=18) fs.toList 0 ks p q r hks hr;have ha2:aeq P 20 t (.agg p) (.agg q)=some r:=by
         unfold aeq;rw[hu];simp only[hc.1,LV,LN];exact ha
        simp only[aop,Qfe,Qu2,hp,hq,Qqc,Qcs,hg,Bj,N3,hb];cases ne<;>simp[ha2,Ji]
       ·cases h
      ·cases h
     split at h
     ·exact eqs false rfl h
     ·exact eqs true rfl h
     ·exact gen h
    ·exact gen h
  ·exact gen h
 case h_5 t x=>
  simp only[rop]at h;split at h
  ·rename_i p hp;simp only[Lt,LB]at h;obtain⟨rfl,rfl⟩:=h;exact⟨.pure,by simp only[aop,Qu4,hp,QrC,Ji]⟩
  ·cases h
 case h_6 src dst x=>
  split at h
  ·rename_i ik k hs hd;simp only[rop]at h;split at h
   ·rename_i k0 m hm;simp only[Lt,LB]at h;obtain⟨rfl,rfl⟩:=h;exact⟨.pure,by simp only[aop,Qgu,hs,hd,hm,Qrj,Ji]⟩
   ·cases h
  ·exact gen h
 case h_7 t x=>
  split at h
  ·exact gen h
  ·rename_i td hni hu;simp only[rop,Lt,LB]at h;obtain⟨rfl,rfl⟩:=h;refine⟨.pure,?_⟩;simp only[aop,VF,hu]
  ·exact gen h
 case h_8 t x f=>
  split at h
  ·rename_i fs hu;split at h
   ·rename_i fd hf;split at h
    ·rename_i td inf hd hi;simp only[rop]at h;split at h
     ·rename_i cs hcs;obtain⟨h1,rfl⟩:=Qgw h;refine⟨.pure,?_⟩;simp only[aop,Qrl,hu,hcs,hf,QcS,hd,hi];cases hag:GG td<;>rw[hag]at h1<;>simp only[Lq,Ls]at h1<;>simp[h1,Ji]
     ·cases h
    ·exact gen h
   ·exact gen h
  ·exact gen h
 case h_9 t x f=>
  split at h
  ·rename_i fs hu;split at h
   ·rename_i fd hf;split at h
    ·rename_i inf hi;split at h
     ·exact gen h
     ·rename_i hz;simp only[rop]at h;split at h
      ·rename_i a ha;simp only[Lt,LB]at h;obtain⟨rfl,rfl⟩:=h;refine⟨.pure,?_⟩;have:Nat.beq inf.size 0=false:=by simp[Kh,hz]
       simp only[aop,VY,hu,ha,hf,hi,this,Ls]
      ·cases h
    ·exact gen h
   ·exact gen h
  ·exact gen h
 case h_10 t x ix=>
  split at h
  ·rename_i e hu;split at h
   ·rename_i inf hi;simp only[rop]at h;split at h
    ·rename_i ik m a len cap hm ha;split at h
     ·rename_i hc;simp only[Lt,LB]at h;obtain⟨rfl,rfl⟩:=h;exact⟨.pure,by simp only[aop,VZ,hm,hu,ha,hi,hc,RU,N3]⟩
     ·cases h
    ·cases h
   ·exact gen h
  ·exact gen h
 case h_11 t x ix=>
  split at h
  ·rename_i hu;simp only[rop]at h;split at h
   ·rename_i ik m s hm hs;split at h
    ·rename_i h0;split at h
     ·rename_i b hb;simp only[Lt,LB]at h;obtain⟨rfl,rfl⟩:=h;exact⟨.pure,by simp only[aop,Qrm,hm,hu,hs,h0,N3,hb]⟩
     ·cases h
    ·cases h
   ·cases h
  ·exact gen h
 case h_12 x i=>
  simp only[rop]at h;split at h
  ·rename_i vs hv;obtain⟨h1,rfl⟩:=Qgw h;exact⟨.pure,by simp only[aop,Qlj,hv,h1,Ji]⟩
  ·cases h
 case h_13 t parts=>
  split at h
  ·rename_i fs inf hu hi;split at h
   ·rename_i z pl hz hpl;split at h
    ·rename_i hp;split at h
     ·rename_i l hl;simp only[rop]at h;split at h
      ·rename_i r hr;simp only[Lt,LB]at h;obtain⟨rfl,rfl⟩:=h;have:=Qqn (A:=A) parts.toList l z.cells.toList hl;rw[hr]at this;exact⟨.pure,by simp only[aop,Qrn,hu,hi,hz,hpl,hp,Lq,Jb,this,Dh,Ji]⟩
      ·cases h
     ·exact gen h
    ·exact gen h
   ·exact gen h
  ·exact gen h
 case h_14 t len parts=>
  split at h
  ·rename_i e hu;split at h
   ·rename_i inf hi;split at h
    ·rename_i z hz;split at h
     ·rename_i hc;simp only[rop]at h;split at h
      ·rename_i r hr;simp only[Lt,LB]at h;obtain⟨rfl,rfl⟩:=h;exact⟨.alloc _,by simp only[aop,Qd1,hu,hi,hz,hc,Lq,Jb,hr];rfl⟩
      ·cases h
     ·exact gen h
    ·exact gen h
   ·exact gen h
  ·exact gen h
 case h_15 e=>
  split at h
  ·rename_i inf hi;split at h
   ·rename_i z hz;split at h
    ·rename_i hp;simp only[rop,Lt,LB]at h;obtain⟨rfl,rfl⟩:=h;exact⟨.alloc _,by simp only[aop,Qro,hi,hz,hp,Lq];rfl⟩
    ·exact gen h
   ·exact gen h
  ·exact gen h
 case h_16 t x y=>
  split at h
  ·rename_i e hu;split at h
   ·rename_i inf hi;split at h
    ·rename_i z hz;split at h
     ·rename_i hel;simp only[rop]at h;split at h
      ·rename_i l c hl hc;split at h
       ·rename_i hcond;simp only[Lt,LB]at h;obtain⟨rfl,rfl⟩:=h;refine⟨.alloc (.cells (Ze z.cells (c.toNat * inf.size)) e false),?_⟩;simp only[aop,Qff,hu,hl,hc,hi,hz];rw[Lc ⟨hel,hcond⟩]
       ·cases h
      ·cases h
     ·exact gen h
    ·exact gen h
   ·exact gen h
  ·exact gen h
 case h_17 t x lo hi=>
  split at h
  ·rename_i e hu;split at h
   ·rename_i inf hin;simp only[rop]at h;split at h
    ·rename_i l hh hl hhi;obtain⟨h1,rfl⟩:=Qgw h;have e1:XC A lo=some l:=by rw[<- hl];cases lo<;>rfl
     have e2:XC A hi=some hh:=by rw[<- hhi];cases hi<;>rfl
     have e3:XC A none=some none:=rfl;exact⟨.pure,by simp only[aop,QnB,hu,hin,e1,e2,e3,RV,N1,N3,h1,Ji]⟩
    ·cases h
   ·exact gen h
  ·exact gen h
 case h_18 t x=>
  split at h
  ·rename_i d inf hu hi;simp only[rop]at h;split at h
   ·rename_i a ha;split at h
    ·rename_i c e ro hg;cases hag:GG d with
     | true=>
      rw[hag]at h;simp only[Lq]at h;split at h
      ·rename_i hle;simp only[Lt,LB]at h;obtain⟨rfl,rfl⟩:=h;exact⟨.load,by simp only[aop,QrR,ha,ZC,hu,hi,hg,hag,N3,hle]⟩
      ·cases h
     | false=>
      rw[hag]at h;obtain⟨h1,rfl⟩:=Qgw h;exact⟨.load,by simp only[aop,QrR,ha,ZC,hu,hi,hg,hag,LV,LN,h1]⟩
    ·cases h
   ·cases h
  ·exact gen h
 case h_19 t x y=>
  split at h
  ·rename_i inf hi;simp only[rop]at h;split at h
   ·rename_i a ha;split at h
    ·rename_i c e hg;split at h
     ·rename_i hc;simp only[Lt,LB]at h;obtain⟨rfl,rfl⟩:=h;refine⟨.gen,?_⟩;simp only[aop,QnC,ha,Qms,hi,hg];rw[Lc hc]
     ·cases h
    ·cases h
   ·cases h
  ·exact gen h
 case h_20 args ts=>
  split at h
  ·rename_i x t ha ht;split at h
   ·rename_i e hu;simp only[rop]at h;split at h
    ·rename_i q m c hx;simp only[Lt,LB]at h;obtain⟨rfl,rfl⟩:=h;exact⟨.pure,by simp only[aop,Qmz,ha,ht,QCz,hu,hx]⟩
    ·cases h
   ·rename_i hu;simp only[rop]at h;split at h
    ·rename_i s hx;simp only[Lt,LB]at h;obtain⟨rfl,rfl⟩:=h;exact⟨.pure,by simp only[aop,Qmz,ha,ht,QCz,hu,hx]⟩
    ·cases h
   ·exact gen h
  ·exact gen h
 case h_21 args ts=>
  split at h
  ·rename_i x y t t2 ha ht;split at h
   ·rename_i e td hu hu2;split at h
    ·rename_i inf hi;split at h
     ·rename_i z hz;split at h
      ·rename_i hc;simp only[rop]at h;refine⟨.gen,?_⟩;simp only[aop,Qmz,ha,ht,hu,hu2,hi,hz,hc,Lq,QyL,h,Dh]
      ·exact gen h
     ·exact gen h
    ·exact gen h
   ·exact gen h
  ·exact gen h
 case h_22=>cases h
 case h_23=>cases h
 case h_24 e x=>simp only[rop,Lt,LB]at h;obtain⟨rfl,rfl⟩:=h;exact⟨.alloc _,rfl⟩
 case h_25=>exact gen h
end
def Rep (n:Nat)(A:Env)(e:E):Prop:=∀t,t<n->A t=Ki e t
structure Ks (α:Type) where
 ret:E->Qa->α
 ext:Nat->E->Qa->α
 jmp:Nat->E->Qa->α
 pan:Value->E->Qa->α
abbrev KT (α:Type):=Ks α->(E->Qa->α)->E->Qa->α
section
variable (α:Type) (bad:α) (P:Program) (call:Xa) (n F:Nat)
def QIj (k:E->Qa->α)(e:E)(d:Option Nat)(r:Cls×Value×Qa):α:=
 Prod.rec (motive:=λ_=>α) (λ_ q=>Prod.rec (motive:=λ_=>α) (λv H=>k (QBs e d v) H) q) r
def QEw (o:Oper)(k:E->Qa->α)(e:E)(H:Qa):α:=
 Option.rec (motive:=λ_=>α) bad (QIj α k e o.dst) (aop P call o (Ki e) H)
def QyR (ops:Array Oper)(o:Oper)(k:E->Qa->α)(e:E)(H:Qa):α:=
 Option.rec (motive:=λ_=>α) bad (λb=>Bool.rec (motive:=λ_=>α) (k (QBs e o.dst undef) H) (QEw α bad P call o k e H) b) (ZE n ops (Ki e) o)
def QyS (ops:Array Oper)(ks:Ks α)(o:Oper)(k:E->Qa->α)(e:E)(H:Qa):α:=
 Bool.rec (motive:=λ_=>α) bad (Option.rec (motive:=λ_=>α) (QEw α bad P call o k e H) (λ_=>QyR α bad P call n ops o k e H) o.guard) (Qje P n o)
def Qum (ops:Array Oper)(ks:Ks α)(l:List Oper):(E->Qa->α)->E->Qa->α:=
 List.rec (motive:=λ_=>(E->Qa->α)->E->Qa->α) (λk=>k) (λo _ ih k=>QyS α bad P call n ops ks o (ih k)) l
def QyT (ops:Array Oper)(k:E->Qa->α)(e:E)(H:Qa):α:=
 match Qrq P call n ops (Ki e) H with
 | some (l,_,H1)=>k (Qu6 ops.toList l e) H1
 | none=>bad
def QCP (_:Nat)(ops:Array Oper)(draw:Bool):KT α:=λks k=>
 Bool.rec (motive:=λ_=>E->Qa->α) (Qum α bad P call n ops ks ops.toList k) (QyT α bad P call n ops k) draw
def vb (v:Value)(t f:α):α:=
 match v with
 | .bool b=>Bool.rec (motive:=λ_=>α) f t b
 | _=>bad
def QyU (x:Operand)(_ _:Code)(iha ihb:KT α):KT α:=λks k e H=>
 Bool.rec (motive:=λ_=>α) bad (vb α bad (ev (Ki e) x) (iha ks k e H) (ihb ks k e H)) (Qe9 P n x)
def QCQ:KT α:=λ_ k=>k
def QIk (_ _:Code)(iha ihb:KT α):KT α:=λks k=>iha ks (ihb ks k)
def QEx (id:Nat)(_:Code)(ih:KT α):KT α:=λks k=>
 ih ⟨ks.ret,λj=>Bool.rec (motive:=λ_=>E->Qa->α) (ks.ext j) k (Nat.beq j id),ks.jmp,ks.pan⟩ k
def QGO (_:Code)(ih:KT α):KT α:=λks _=>
 Nat.rec (motive:=λ_=>E->Qa->α) (λ_ _=>bad) (λ_ k=>ih ks k) F
def QAx:KT α:=λ_ _ _ _=>bad
def QGP (id:Nat):KT α:=λks _=>ks.ext id
def QGQ (l:Nat):KT α:=λks _=>ks.jmp l
def QIl:KT α:=λks _=>ks.ret
def QyV (ex:Code->KT α)(body:Code)(ks:Ks α)(k:E->Qa->α)(m:Nat):Code->E->Qa->α:=
 Nat.rec (motive:=λ_=>Code->E->Qa->α) (λ_ _ _=>bad)
  (λ_ ih rest=>ex rest ⟨ks.ret,ks.ext,λl=>Option.rec (motive:=λ_=>E->Qa->α) (ks.jmp l) ih (findLabel body l),ks.pan⟩ k) m
def QEy (ex:Code->KT α)(body:Code)(_:KT α):KT α:=λks k=>QyV α bad ex body ks k F body
def QyW (A:Env)(ks:Ks α)(k:E->Qa->α)(e:E)(l:Nat)(H2:Qa):α:=
 match H2.get l with
 | some (.loop _ _ _ _ _ st)=>(match st with
  | none=>k e (H2.kill l)
  | some .ret=>ks.ret e (H2.kill l)
  | some (.exit id)=>ks.ext id e (H2.kill l)
  | some (.goto t)=>ks.jmp t e (H2.kill l)
  | _=>bad)
 | _=>bad
def QyX (gf:FuncId)(xs ys:Array Value)(ps:Array Tmp)(as bd:Code)(ks:Ks α)(k:E->Qa->α)(e:E)(H:Qa):α:=
 Bool.rec (motive:=λ_=>α) bad (Option.rec (motive:=λ_=>α) bad (λr=>QyW α bad (Ki e) ks k e H.next r.2) (call.fn gf (xs.toList++[.func (.yield H.next) #[] #[]]++ys.toList) (H.push (.loop (Ki e) n ps as bd none)))) (entered P gf)
def Qj1 (g:Operand)(ps:Array Tmp)(as bd:Code)(_ _:KT α):KT α:=λks k e H=>
 Bool.rec (motive:=λ_=>α) bad (match ev (Ki e) g with
  | .func (.func gf) xs ys=>QyX α bad P call n gf xs ys ps as bd ks k e H
  | _=>bad) (Qe9 P n g)
def QGR (ex:Code->KT α)(c:Code):KT α:=
 Code.rec (motive:=λ_=>KT α) (QCQ α) (QCP α bad P call n) (QIk α) (QyU α bad P n) (QEx α) (QGO α bad F) (Qj1 α bad P call n) (QGP α) (QEy α bad F ex)
  (λ_=>QCQ α) (QGQ α) (QIl α) (λ_=>QAx α bad) c
def exec (G:Nat):Code->KT α:=
 Nat.rec (motive:=λ_=>Code->KT α) (λ_=>QAx α bad) (λ_ ex=>QGR α bad P call n F ex) G
end
section
variable {α:Type} {bad:α} {P:Program} {call:Xa} {n F:Nat} {Q:Ex->Env->Qa->Prop} {A B:Env} {H:Qa}
theorem Qeg.rep {z:Rd}{ρ:Ren}{w:World}{a:Act}(h:∀t,t<n->A t=B t)(he:Qeg z ρ H w n B a):Qeg z ρ H w n A a:=⟨⟨he.size,λt ht=>by rw[h t ht];exact he.tmps t ht⟩,he.fr⟩
theorem AWp.rep {c:Code}(h:∀t,t<n->A t=B t)(hw:AWp P n c Q A H):AWp P n c Q B H:=λz ρ w a hs he=>hw z ρ w a hs (he.rep h)
theorem Qmq.rep {ops:Array Oper}{l:List Oper}(h:∀t,t<n->A t=B t)(hw:Qmq P n ops l Q A H):Qmq P n ops l Q B H:=λz ρ w a hs he=>hw z ρ w a hs (he.rep h)
theorem QjY.rep {c:Code}(h:∀t,t<n->A t=B t)(hw:QjY P n c Q A H):QjY P n c Q B H:=λz ρ w a hs he=>hw z ρ w a hs (he.rep h)
theorem Qfc.rep {b c:Code}(h:∀t,t<n->A t=B t)(hw:Qfc P n b c Q A H):Qfc P n b c Q B H:=λz ρ w a hs he=>hw z ρ w a hs (he.rep h)
theorem AWp.post {c:Code}{Q':Ex->Env->Qa->Prop}(h:∀e A H,Q e A H->Q' e A H)(hw:AWp P n c Q A H):AWp P n c Q' A H:=λz ρ w a hs he=>
 FF (hw z ρ w a hs he) (λe a' w' ⟨e',ρ',A',H',hq,h1⟩=>⟨e',ρ',A',H',h _ _ _ hq,h1⟩)
def QBA (good:α->Prop)(n:Nat)(ks:Ks α)(k:E->Qa->α):Ex->Env->Qa->Prop
 | .normal,A,H=>∃e,Rep n A e∧good (k e H)
 | .ret,A,H=>∃e,Rep n A e∧good (ks.ret e H)
 | .exit j,A,H=>∃e,Rep n A e∧good (ks.ext j e H)
 | .goto l,A,H=>∃e,Rep n A e∧good (ks.jmp l e H)
 | .panic v,A,H=>∃e,Rep n A e∧good (ks.pan v e H)
theorem QAy (hn:n<=256){o:Oper}(h:Qje P n o=true):Qns 256 o.dst=true:=by
 have:=QjS h;cases hd:o.dst with
 | none=>rfl
 | some d=>rw[hd]at this;simp only[Qns,B5]at this ⊢;omega
variable {good:α->Prop} (hbad:¬good bad) (hn:n<=256) (hcall:QhN P call)
include hbad hn hcall
theorem Qqp {ops:Array Oper}{ks:Ks α}{k:E->Qa->α}:∀ (l:List Oper) (e:E) (H:Qa),good (Qum α bad P call n ops ks l k e H)->Qmq P n ops l (QBA good n ks k) (Ki e) H
 | [],e,H,h=>QwA ⟨e,λ_ _=>rfl,h⟩
 | o::rest,e,H,h=>by
  have h:good (QyS α bad P call n ops ks o (Qum α bad P call n ops ks rest k) e H):=h;unfold QyS at h;cases hok:Qje P n o with
  | false=>rw[hok]at h;exact absurd h hbad
  | true=>
   rw[hok]at h;have next:∀v H',good (Qum α bad P call n ops ks rest k (QBs e o.dst v) H')->Qmq P n ops rest (QBA good n ks k) (GF (Ki e) o.dst v) H':=λv H' hg=>
    (Qqp rest _ _ hg).rep (λt ht=>QwP e v (QAy hn hok) t (by omega))
   have hop:∀ (h:good (QEw α bad P call o (Qum α bad P call n ops ks rest k) e H)),∃v H',QC P o (Ki e) H v H'∧Qmq P n ops rest (QBA good n ks k) (GF (Ki e) o.dst v) H':=λh=>by
    unfold QEw at h;cases ha:aop P call o (Ki e) H with
    | none=>rw[ha]at h;exact absurd h hbad
    | some r=>
     obtain⟨c,v,H'⟩:=r;rw[ha]at h;exact⟨v,H',(Qph hcall ha).does,next v H' h⟩
   cases hg:o.guard with
   | none=>
    rw[hg]at h;obtain⟨v,H',h1,h2⟩:=hop h;exact Qt9 hg h1 hok h2
   | some jw=>
    rw[hg]at h;obtain⟨j,want⟩:=jw;have h:good (QyR α bad P call n ops o (Qum α bad P call n ops ks rest k) e H):=h;unfold QyR at h;cases hw:ZE n ops (Ki e) o with
    | none=>rw[hw]at h;exact absurd h hbad
    | some b=>
     rw[hw]at h;cases b with
     | true=>
      obtain⟨v,H',h1,h2⟩:=hop h;exact Qfh hg hw (λ_=>⟨v,H',h1,h2⟩) (λhh=>by cases hh) hok
     | false=>exact Qfh hg hw (λhh=>by cases hh) (λ_=>next undef H h) hok
omit hbad hcall in
theorem QmB:∀ (l:List Oper) (e:E) (A:Env) (H:Qa) (tr:List Stp) (A1:Env) (H1:Qa) {ops:Array Oper},GR P call n ops l A H=some (tr,A1,H1)->Rep n A e->Rep n A1 (Qu6 l tr e)
 | [],e,A,H,tr,A1,H1,ops,h,hr=>by
  simp only[GR,Lt,LB]at h;obtain⟨rfl,rfl,rfl⟩:=h;exact hr
 | o::rest,e,A,H,tr,A1,H1,ops,h,hr=>by
  have step:∀v,Qje P n o=true->Rep n (GF A o.dst v) (QBs e o.dst v):=λv hok t ht=>by
   rw[QwP e v (QAy hn hok) t (by omega)];cases o.dst with
   | none=>exact hr t ht
   | some d=>
    simp only[GF]
    by_cases hd:t=d
    ·subst hd;simp
    ·rw[QhE _ _ hd,QhE _ _ hd];exact hr t ht
  unfold GR at h;cases hok:Qje P n o with
  | false=>rw[hok]at h;cases h
  | true=>
   rw[hok]at h;simp only[Lq]at h;split at h
   ·split at h
    ·rename_i c v H' ha;split at h
     ·rename_i l' r hl;simp only[Lt,LB]at h;obtain⟨rfl,hr1⟩:=h;subst hr1;exact QmB rest _ _ _ _ _ _ hl (step v hok)
     ·cases h
    ·cases h
   ·split at h
    ·rename_i l' r hl;simp only[Lt,LB]at h;obtain⟨rfl,hr1⟩:=h;subst hr1;exact QmB rest _ _ _ _ _ _ hl (step undef hok)
    ·cases h
   ·cases h
theorem QmC:∀ (G:Nat) (c:Code) (ks:Ks α) (k:E->Qa->α) (e:E) (H:Qa),good (exec α bad P call n F G c ks k e H)->AWp P n c (QBA good n ks k) (Ki e) H:=by
 intro G
 induction G with
 | zero=>intro c ks k e H h;exact absurd h hbad
 | succ G ihG=>
  intro c
  induction c with
  | skip=>intro ks k e H h;exact Qrz ⟨e,λ_ _=>rfl,h⟩
  | label l=>intro ks k e H h;exact Qt8 ⟨e,λ_ _=>rfl,h⟩
  | ret=>intro ks k e H h;exact QAm ⟨e,λ_ _=>rfl,h⟩
  | exit id=>intro ks k e H h;exact Qwy ⟨e,λ_ _=>rfl,h⟩
  | goto l=>intro ks k e H h;exact Qwz ⟨e,λ_ _=>rfl,h⟩
  | refuse s=>intro ks k e H h;exact absurd h hbad
  | rangeFunc g ps as bd iha ihb=>
   intro ks k e H h;have h:good (Qj1 α bad P call n g ps as bd (QAx α bad) (QAx α bad) ks k e H):=h;unfold Qj1 at h;cases hok:Qe9 P n g with
   | false=>rw[hok]at h;exact absurd h hbad
   | true=>
    rw[hok]at h;have h:good (match ev (Ki e) g with | .func (.func gf) xs ys=>QyX α bad P call n gf xs ys ps as bd ks k e H | _=>bad):=h;split at h
    ·rename_i gf xs ys eg;unfold QyX at h;cases hen:entered P gf with
     | false=>rw[hen]at h;exact absurd h hbad
     | true=>
      rw[hen]at h;cases hc:call.fn gf (xs.toList++[.func (.yield H.next) #[] #[]]++ys.toList) (H.push (.loop (Ki e) n ps as bd none)) with
      | none=>rw[hc]at h;exact absurd h hbad
      | some r=>
       obtain⟨v,H2⟩:=r;rw[hc]at h;have h:good (QyW α bad (Ki e) ks k e H.next H2):=h;have hd:=(hcall.fn _ _ _ _ _ hc).does hen;unfold QyW at h;split at h
       ·rename_i A' n' ps' as' bd' st hl;refine QlV hok eg hen (.inl ⟨hen,hd⟩) hl ?_;cases st with
        | none=>exact⟨e,λ_ _=>rfl,h⟩
        | some c=>
         cases c<;>simp only at h<;>first
          | exact⟨e,λ_ _=>rfl,h⟩
          | exact absurd h hbad
       ·exact absurd h hbad
    ·exact absurd h hbad
  | region id ops draw=>
   intro ks k e H h;cases draw with
   | false=>
    have:=Qqp (ks:=ks) hbad hn hcall ops.toList e H h;exact QrA (l:=ops.toList) (by simpa using this)
   | true=>
    have h:good (QyT α bad P call n ops k e H):=h;unfold QyT at h;split at h
    ·rename_i l A1 H1 hd;refine Qtl hcall hd ⟨Qu6 ops.toList l e,?_,h⟩;unfold Qrq at hd;cases hc:(P.follows .mixedOrders&&Qf3 ops (Yi ops)) with
     | false=>rw[hc]at hd;cases hd
     | true=>
      rw[hc]at hd;simp only[Lq]at hd;split at hd
      ·rename_i l' t1' H1' htr;cases hall:Qpi (QhO P ops (QV ops.toList []) l' H1') 0 l' with
       | true=>
        rw[hall]at hd;simp only[Lq,Lt,LB]at hd;obtain⟨rfl,rfl,rfl⟩:=hd;exact QmB hn _ _ _ _ _ _ _ htr (λ_ _=>rfl)
       | false=>rw[hall]at hd;cases hd
      ·cases hd
    ·exact absurd h hbad
  | seq a b iha ihb=>
   intro ks k e H h;refine Qnt ((iha ks _ e H h).post ?_);intro ex A1 H1 hq;cases ex with
   | normal=>
    obtain⟨e1,hr,hg⟩:=hq;exact(ihb ks k e1 H1 hg).rep (λt ht=>(hr t ht).symm)
   | _=>exact hq
  | cond x a b iha ihb=>
   intro ks k e H h;have h:good (QyU α bad P n x a b (exec α bad P call n F (G+1) a) (exec α bad P call n F (G+1) b) ks k e H):=h;unfold QyU at h;cases hok:Qe9 P n x with
   | false=>rw[hok]at h;exact absurd h hbad
   | true=>
    rw[hok]at h;have h:good (vb α bad (ev (Ki e) x) (exec α bad P call n F (G+1) a ks k e H) (exec α bad P call n F (G+1) b ks k e H)):=h;unfold vb at h;split at h
    ·rename_i t ex;cases t with
     | true=>exact Qnu hok ex (iha ks k e H h)
     | false=>exact Qnu hok ex (ihb ks k e H h)
    ·exact absurd h hbad
  | block id b ih=>
   intro ks k e H h;refine Qec ((ih _ k e H h).post ?_);intro ex A1 H1 hq;cases ex with
   | exit j=>
    obtain⟨e1,hr,hg⟩:=hq;simp only[Qnv];have hg:good (Bool.rec (motive:=λ_=>E->Qa->α) (ks.ext j) k (Nat.beq j id) e1 H1):=hg
    by_cases hj:j=id
    ·rw[Lc hj];subst hj;have:Nat.beq j j=true:=by simp
     rw[this]at hg;exact⟨e1,hr,hg⟩
    ·rw[Le hj];have:Nat.beq j id=false:=by simp[Kh,hj]
     rw[this]at hg;exact⟨e1,hr,hg⟩
   | _=>exact hq
  | loop b ih=>
   intro ks k e H h;refine Qqe ?_;have key:∀ (m:Nat) (e:E) (H:Qa),good (Nat.rec (motive:=λ_=>E->Qa->α) (λ_ _=>bad) (λ_ k=>exec α bad P call n F (G+1) b ks k) m e H)->QjY P n b (QBA good n ks k) (Ki e) H:=by
    intro m
    induction m with
    | zero=>intro e H h;exact absurd h hbad
    | succ m ihm=>
     intro e H h;refine Qgr ((ih ks _ e H h).post ?_);intro ex A1 H1 hq;cases ex with
     | normal=>
      obtain⟨e1,hr,hg⟩:=hq;exact(ihm e1 H1 hg).rep (λt ht=>(hr t ht).symm)
     | _=>exact hq
   exact key F e H h
  | scope b ih=>
   intro ks k e H h;refine QhK ?_;have key:∀ (m:Nat) (c:Code) (e:E) (H:Qa),good (QyV α bad (exec α bad P call n F G) b ks k m c e H)->Qfc P n b c (QBA good n ks k) (Ki e) H:=by
    intro m
    induction m with
    | zero=>intro c e H h;exact absurd h hbad
    | succ m ihm=>
     intro c e H h;refine VM ((ihG c _ k e H h).post ?_);intro ex A1 H1 hq;cases ex with
     | goto l=>
      obtain⟨e1,hr,hg⟩:=hq;simp only[QBn];have hg:good (Option.rec (motive:=λ_=>E->Qa->α) (ks.jmp l) (QyV α bad (exec α bad P call n F G) b ks k m) (findLabel b l) e1 H1):=hg;split
      ·rename_i rest hf;rw[hf]at hg;exact(ihm rest e1 H1 hg).rep (λt ht=>(hr t ht).symm)
      ·rename_i hf;rw[hf]at hg;exact⟨e1,hr,hg⟩
     | _=>exact hq
   exact key F b e H h
end
/-! ### Functions -/
def QwS (P:Program)(fn:Func)(e:E)(H:Qa):Option (Value×Qa):=
 Option.rec (motive:=λ_=>Option (Value×Qa)) none (λv=>some (v,H)) (Qmv P fn.ntmps fn.results (Ki e) H)
def QyY (P:Program)(call:Xa)(F G:Nat)(fn:Func)(args:List Value)(H:Qa)(c:Code):Option (Value×Qa):=
 Bool.rec (motive:=λ_=>Option (Value×Qa)) none
  (exec (Option (Value×Qa)) none P call fn.ntmps F G c ⟨QwS P fn,λ_ _ _=>none,λ_ _ _=>none,λ_ _ _=>none⟩ (QwS P fn) (Qui args 0 E.none) H)
  (Nat.ble fn.ntmps 256&&Nat.ble args.length fn.ntmps)
def Qu9 (P:Program)(call:Xa)(F G:Nat)(f:FuncId)(args:List Value)(H:Qa)(fn:Func):Option (Value×Qa):=
 Bool.rec (motive:=λ_=>Option (Value×Qa)) none (Option.rec (motive:=λ_=>Option (Value×Qa)) none (QyY P call F G fn args H) fn.body) (entered P f)
def Qjf (A:Env)(b:Nat):N16 Value:=⟨A b,A (b+1),A (b+2),A (b+3),A (b+4),A (b+5),A (b+6),A (b+7),A (b+8),A (b+9),A (b+10),A (b+11),A (b+12),A (b+13),A (b+14),A (b+15)⟩
def eOf (A:Env):E:=⟨Qjf A 0,Qjf A 16,Qjf A 32,Qjf A 48,Qjf A 64,Qjf A 80,Qjf A 96,Qjf A 112,Qjf A 128,Qjf A 144,Qjf A 160,Qjf A 176,Qjf A 192,Qjf A 208,Qjf A 224,Qjf A 240⟩
theorem QCR (A:Env)(b:Nat)(d:D):(Qjf A b).get d=A (b+d.num):=by cases d<;>rfl
theorem QEz (A:Env)(d:D):(eOf A).get d=Qjf A (16 * d.num):=by cases d<;>rfl
theorem QCS (A:Env){t:Nat}(ht:t<256):Ki (eOf A) t=A t:=by
 have e1:∀x y:Nat,Nat.div x y=x / y:=λ_ _=>rfl;have e2:∀x y:Nat,Nat.mod x y=x % y:=λ_ _=>rfl;simp only[Ki,e1,e2];rw[QEz,QCR,Qrp (by omega),Qrp (by omega)];congr 1;omega
def QwT (l:Nat)(A:Env)(n:Nat)(ps:Array Tmp)(as bd:Code)(st:Option Code)(b:Bool)(H:Qa):Option (Value×Qa):=some (.bool b,H.set l (.loop A n ps as bd st))
def QGS (P:Program)(call:Xa)(F G:Nat)(l:Nat)(A:Env)(n:Nat)(ps:Array Tmp)(as bd:Code)(e:E)(H:Qa):Option (Value×Qa):=
 exec (Option (Value×Qa)) none P call n F G bd ⟨λ_ H1=>QwT l A n ps as bd (some .ret) false H1,λj _ H1=>QwT l A n ps as bd (some (.exit j)) false H1,λj _ H1=>QwT l A n ps as bd (some (.goto j)) false H1,λ_ _ _=>none⟩
  (λ_ H1=>QwT l A n ps as bd none true H1) e H
def Qva (P:Program)(call:Xa)(F G:Nat)(l:Nat)(args:List Value)(H:Qa):Option (Value×Qa):=
 match H.get l with
 | some (.loop A n ps as bd none)=>
  bif Nat.ble n 256&&Nat.beq args.length ps.size then
   exec (Option (Value×Qa)) none P call n F G as ⟨λ_ _=>none,λ_ _ _=>none,λ_ _ _=>none,λ_ _ _=>none⟩ (QGS P call F G l A n ps as bd) (eOf (Qqf A ps.toList args)) (H.kill l)
  else none
 | _=>none
theorem Qtm {P:Program}{call:Xa}(hcall:QhN P call){F G:Nat}{l:Nat}{args:List Value}{H H':Qa}{v:Value}(h:Qva P call F G l args H=some (v,H')):Qug P l args H v H':=by
  unfold Qva at h;split at h
  · rename_i A n ps as bd hl
    cases hc:(Nat.ble n 256&&Nat.beq args.length ps.size) with
    | false=>rw[hc]at h;cases h
    | true=>
      rw[hc]at h;simp only[Lq]at h;simp only[Lm,BL,Kh,Lv]at hc;refine Qqg hl hc.2 ?_;have main:=QmC (good:=λr:Option (Value×Qa)=>r=some (v,H')) (by simp) hc.1 hcall G as _ _ _ (H.kill l) h;refine(main.post ?_).rep (λt ht=>QCS _ (by omega));intro ex A1 H1 hq;cases ex with
      | normal=>
        obtain⟨e,hr,hg⟩:=hq;have body:=QmC (good:=λr:Option (Value×Qa)=>r=some (v,H')) (by simp) hc.1 hcall G bd _ _ _ H1 hg;refine(body.post ?_).rep (λt ht=>(hr t ht).symm);intro ex A2 H2 hq2;cases ex<;>first
          | (obtain⟨e2,_,hg2⟩:=hq2
             simp only[QwT,Lt,LB]at hg2;obtain⟨g1,g2⟩:=hg2;exact⟨g1.symm,by rw[<- g2];exact .refl _⟩)
          | (obtain⟨_,_,hx⟩:=hq2;cases hx)
      | ret=>obtain⟨_,_,hx⟩:=hq;cases hx
      | exit j=>obtain⟨_,_,hx⟩:=hq;cases hx
      | goto j=>obtain⟨_,_,hx⟩:=hq;cases hx
      | panic u=>obtain⟨_,_,hx⟩:=hq;cases hx
  · cases h
def run (P:Program)(known:CallF)(F G:Nat)(k:Nat):Xa:=
 Nat.rec (motive:=λ_=>Xa) ⟨λ_ _ _=>none,λ_ _ _=>none⟩
  (λ_ ih=>⟨λf args H=>Option.rec (motive:=λ_=>Option (Value×Qa)) (Option.rec (motive:=λ_=>Option (Value×Qa)) none (Qu9 P ih F G f args H) P.funcs[f]?) some (known f args H),Qva P ih F G⟩) k
theorem QBB {P:Program}{fn:Func}{A1:Env}{H1 H':Qa}{e:E}{v:Value}(hr:Rep fn.ntmps A1 e)(hk:QwS P fn e H1=some (v,H')):∃v1,Out.ret v=.ret v1∧Qmv P fn.ntmps fn.results A1 H1=some v1∧GE H' H1:=by
 unfold QwS at hk;cases ha:Qmv P fn.ntmps fn.results (Ki e) H1 with
 | none=>rw[ha]at hk;cases hk
 | some u=>
  rw[ha]at hk;have hk:some (u,H1)=some (v,H'):=hk;simp only[Lt,LB]at hk;obtain⟨e1,e2⟩:=hk;rw[<- e1,<- e2];refine⟨_,rfl,?_,.refl _⟩;rw[<- ha];have h1:∀r,QcT P fn.ntmps A1 H1 r=QcT P fn.ntmps (Ki e) H1 r:=λr=>by
   cases r with
   | tmp t=>
    simp only[QcT]
    by_cases ht:t<fn.ntmps
    ·simp only[ht,N3,hr t ht]
    ·simp only[ht,LN]
   | cell a t=>
    simp only[QcT]
    by_cases ht:a<fn.ntmps
    ·simp only[ht,N3,hr a ht]
    ·simp only[ht,LN]
  unfold Qmv;rw[show QcT P fn.ntmps A1 H1=QcT P fn.ntmps (Ki e) H1 from funext h1]
theorem Qvb {P:Program}{call:Xa}(hcall:QhN P call){F G:Nat}{f:FuncId}{fn:Func}{c:Code}{args:List Value}{H H':Qa}{v:Value}(hf:P.funcs[f]? = some fn)(hb:fn.body=some c)
  (h:QyY P call F G fn args H c=some (v,H')):Qgq P f args H (.ret v) H':=by
 unfold QyY at h;cases hc:(Nat.ble fn.ntmps 256&&Nat.ble args.length fn.ntmps) with
 | false=>rw[hc]at h;cases h
 | true=>
  rw[hc]at h;simp only[Lm,BL]at hc;have en:args.length+(fn.ntmps - args.length)=fn.ntmps:=by omega
  refine QrI hf hb ?_;rw[en];have main:=QmC (good:=λr:Option (Value×Qa)=>r=some (v,H')) (by simp) hc.1 hcall G c _ _ _ H h;have hres:∀ (A1:Env) (H1:Qa),(∃e,Rep fn.ntmps A1 e∧QwS P fn e H1=some (v,H'))->∃v1,Out.ret v=.ret v1∧Qmv P fn.ntmps fn.results A1 H1=some v1∧GE H' H1:=λA1 H1 ⟨e,hr,hk⟩=>QBB hr hk;refine(main.post ?_).rep (λt ht=>QBu (by omega) t (by omega));intro ex A1 H1 hq;cases ex with
  | normal=>exact hres A1 H1 hq
  | ret=>exact hres A1 H1 hq
  | exit j=>obtain⟨_,_,hx⟩:=hq;cases hx
  | goto j=>obtain⟨_,_,hx⟩:=hq;cases hx
  | panic u=>obtain⟨_,_,hx⟩:=hq;cases hx
theorem Qpm {P:Program}{known:CallF}(hk:CallOk P known){F G:Nat}:∀k,QhN P (run P known F G k):=by
 intro k
 induction k with
 | zero=>exact⟨λf args H v H' h=>(by cases h),λl args H v H' h=>(by cases h)⟩
 | succ k ih=>
  refine⟨λf args H v H' h=>?_,λl args H v H' h=>Qtm ih h⟩;have h:Option.rec (motive:=λ_=>Option (Value×Qa)) (Option.rec (motive:=λ_=>Option (Value×Qa)) none (Qu9 P (run P known F G k) F G f args H) P.funcs[f]?) some (known f args H)=some (v,H'):=h;cases hkn:known f args H with
  | some r=>rw[hkn]at h;cases h;exact hk f args H v H' hkn
  | none=>
   rw[hkn]at h;cases hf:P.funcs[f]? with
   | none=>rw[hf]at h;cases h
   | some fn=>
    rw[hf]at h;have hr:Qu9 P (run P known F G k) F G f args H fn=some (v,H'):=h;unfold Qu9 at hr;cases he:entered P f with
    | false=>rw[he]at hr;cases hr
    | true=>
     rw[he]at hr;cases hb:fn.body with
     | none=>rw[hb]at hr;cases hr
     | some c=>rw[hb]at hr;exact .inl ⟨he,Qvb ih hf hb hr⟩
def xknown (xt:FuncId->Option Xk):CallF:=λf args H=>
 match xt f with
 | some k=>(k.val args).map λv=>(v,H)
 | none=>none
theorem xknown_ok {P:Program}{xt:FuncId->Option Xk}(h:∀f k,xt f=some k->IsExt P f k):CallOk P (xknown xt):=by
 intro f args H v H' hr;unfold xknown at hr;split at hr
 ·rename_i k hk;simp only[Lx,LB]at hr;obtain⟨u,hu,rfl,rfl⟩:=hr;exact .inr (QCB (h f k hk) hu)
 ·cases hr
def shN (G δ id:Nat):Nat:=bif Nat.blt id G then id else id+δ
def shV (G δ:Nat):Nat->Value->Value
 | 0,v=>v
 | f+1,v=>match v with
  | .pointer (some a)=>.pointer (some ⟨shN G δ a.block,a.off,a.spot⟩)
  | .slice (some a) l c=>.slice (some ⟨shN G δ a.block,a.off,a.spot⟩) l c
  | .map (some r)=>.map (some (shN G δ r))
  | .iface t v=>.iface t (shV G δ f v)
  | .agg xs=>.agg (xs.toList.map (shV G δ f)).toArray
  | .tuple xs=>.tuple (xs.toList.map (shV G δ f)).toArray
  | .func fn xs ys=>.func fn (xs.toList.map (shV G δ f)).toArray (ys.toList.map (shV G δ f)).toArray
  | v=>v
def okD:Nat->Value->Bool
 | 0,v=>plain v
 | f+1,v=>match v with
  | .iface _ v=>okD f v
  | .agg xs=>xs.toList.all (okD f)
  | .tuple xs=>xs.toList.all (okD f)
  | .func fn xs ys=>QdZ fn&&xs.toList.all (okD f)&&ys.toList.all (okD f)
  | _=>true
theorem QBS (G δ:Nat):∀ (f:Nat) (v:Value),plain v=true->shV G δ f v=v
 | 0,v,_=>rfl
 | f+1,v,h=>by
  unfold shV;split<;>first | (simp[plain]at h;done) | rfl
theorem QIt {ρ ρ':Ren}{G δ:Nat}(hr:∀id i,ρ id=some i->ρ' (shN G δ id)=some i):∀ (f:Nat) {v v':Value},V ρ v v'->okD f v=true->V ρ' (shV G δ f v) v':=by
 intro f
 induction f with
 | zero=>
  intro v v' h hk;rw[h.plain_eq hk];exact .same _ hk
 | succ f ih=>
  intro v v' h hk;have arr:∀ (xs xs':Array Value),xs.size=xs'.size->(∀ (j:Nat) x x',xs[j]? = some x->xs'[j]? = some x'->V ρ x x')->xs.toList.all (okD f)=true->
    (xs.toList.map (shV G δ f)).toArray.size=xs'.size∧∀ (j:Nat) x x',(xs.toList.map (shV G δ f)).toArray[j]? = some x->xs'[j]? = some x'->V ρ' x x':=by
   intro xs xs' h1 h2 h3;refine⟨by simp[h1],λj x x' e e'=>?_⟩;simp only[List.getElem?_toArray,LD,Bl,Lx]at e;obtain⟨y,hy,rfl⟩:=e;exact ih (h2 j y x' hy e') (Li.1 h3 y (by simpa using BB hy))
  cases h with
  | same v hp=>rw[QBS G δ (f+1) v hp];exact .same v hp
  | ptr id off i h=>exact .ptr _ off i (hr id i h)
  | slice id off len cap cap' i a' h h1 h2 h0 h3 h4=>exact .slice _ off len cap cap' i a' (hr id i h) h1 h2 h0 h3 h4
  | map id i h=>exact .map _ i (hr id i h)
  | func fn xs ys xs' ys' hn h1 h2 h3 h4=>
   simp only[okD,Lm]at hk;obtain⟨p1,p2⟩:=arr xs xs' h1 h3 hk.1.2;obtain⟨q1,q2⟩:=arr ys ys' h2 h4 hk.2;exact .func fn _ _ xs' ys' hn p1 q1 p2 q2
  | yield l i h=>simp[okD,QdZ]at hk
  | iface t v v' h=>exact .iface t _ v' (ih h hk)
  | agg xs xs' h1 h2=>
   obtain⟨p1,p2⟩:=arr xs xs' h1 h2 hk;exact .agg _ xs' p1 p2
  | tuple xs xs' h1 h2=>
   obtain⟨p1,p2⟩:=arr xs xs' h1 h2 hk;exact .tuple _ xs' p1 p2
structure Row where
 src:Nat
 c:List Value
 e:TypeId
 ro:Bool
def Row.blk (G δ:Nat)(r:Row):Blk:=.cells (r.c.map (shV G δ 6)) r.e r.ro
def Qsd (G δ:Nat):List Row->Qa->Qa
 | [],H=>H
 | r::rs,H=>Qsd G δ rs (H.push (r.blk G δ))
def Qtw (G:Nat)(rs:List Row)(H:Qa):Qa:=Qsd G (H.next - G) rs H
theorem Qse {G δ:Nat}:∀ (rs:List Row) (H:Qa),(Qsd G δ rs H).next=H.next+rs.length
 | [],H=>rfl
 | r::rs,H=>by simp only[Qsd,Qse rs,Qc,Lo];omega
theorem Quu {G δ:Nat}:∀ (rs:List Row) (H:Qa) (id:Nat),(Qsd G δ rs H).get id=if H.next<=id∧id<H.next+rs.length then(rs[id - H.next]?).map (Row.blk G δ) else H.get id
 | [],H,id=>by simp only[Qsd,L9];rw[Le (by omega)]
 | r::rs,H,id=>by
  simp only[Qsd,Quu rs,Qc,Lo,Qd]
  by_cases h1:id=H.next
  ·subst h1;rw[Le (by omega),Lc rfl,Lc ⟨by omega,by omega⟩];simp
  ·by_cases h2:H.next+1<=id∧id<H.next+1+rs.length
   ·rw[Lc h2,Lc ⟨by omega,by omega⟩,show id - H.next=(id - (H.next+1))+1 by omega];simp
   ·rw[Le h2,Le h1,Le (by omega)]
def QdJ (G:Nat)(rs:List Row)(b:Nat):Option Nat:=bif Nat.blt b G then some b else(rs[b - G]?).map (·.src)
def QFa (o:Option Nat)(a:Nat):Bool:=match o with | some b=>Nat.beq b a | none=>false
theorem QAE {o:Option Nat}{a:Nat}(h:QFa o a=true):o=some a:=by
 cases o with
 | none=>cases h
 | some b=>simp only[QFa,Kh,Lv]at h;rw[h]
def Qpu (a:Addr):Bool:=match a.spot with | none=>true | some _=>false
def mtV (σ:Nat->Option Nat):Nat->Value->Value->Bool
 | 0,v,u=>plain v&&Qgv 8 v u
 | f+1,v,u=>match v,u with
  | .pointer (some a),.pointer (some b)=>QFa (σ b.block) a.block&&Nat.beq a.off b.off&&Qpu b
  | .slice (some a) l c,.slice (some b) l' c'=>QFa (σ b.block) a.block&&Nat.beq a.off b.off&&Qpu b&&Nat.beq l l'&&Nat.beq c c'
  | .iface t v,.iface t' u=>Nat.beq t t'&&mtV σ f v u
  | .agg xs,.agg ys=>QbM (mtV σ f) xs.toList ys.toList
  | .tuple xs,.tuple ys=>QbM (mtV σ f) xs.toList ys.toList
  | v,u=>plain v&&Qgv 8 v u
theorem QgO {eq:Value->Value->Bool}:∀ {xs ys:List Value},QbM eq xs ys=true->xs.length=ys.length∧∀ (j:Nat) x y,xs[j]? = some x->ys[j]? = some y->eq x y=true
 | [],[],_=>⟨rfl,λj x y h=>by simp at h⟩
 | x::xs,y::ys,h=>by
  simp only[QbM,Lm]at h;obtain⟨h1,h2⟩:=QgO h.2;refine⟨by simp[h1],λj a b ha hb=>?_⟩;cases j with
  | zero=>simp at ha hb;subst ha;subst hb;exact h.1
  | succ j=>exact h2 j a b (by simpa using ha) (by simpa using hb)
 | [],_::_,h=>by simp[QbM]at h
 | _::_,[],h=>by simp[QbM]at h
theorem QAF {σ:Nat->Option Nat}{ρ ρ':Ren}(hr:∀a b i,σ b=some a->ρ a=some i->ρ' b=some i):∀ (f:Nat) {v u v':Value},mtV σ f v u=true->V ρ v v'->V ρ' u v':=by
 intro f;have pl:∀ {v u v':Value},(plain v&&Qgv 8 v u)=true->V ρ v v'->V ρ' u v':=λh hv=>by
  simp only[Lm]at h;rw[<- Qfg 8 _ _ h.2,hv.plain_eq h.1];exact .same _ h.1
 induction f with
 | zero=>intro v u v' h hv;exact pl h hv
 | succ f ih=>
  intro v u v' h hv;have arr:∀ (xs ys xs':Array Value),xs.size=xs'.size->(∀ (j:Nat) x x',xs[j]? = some x->xs'[j]? = some x'->V ρ x x')->QbM (mtV σ f) xs.toList ys.toList=true->
    ys.size=xs'.size∧∀ (j:Nat) x x',ys[j]? = some x->xs'[j]? = some x'->V ρ' x x':=by
   intro xs ys xs' h1 h2 h3;obtain⟨g1,g2⟩:=QgO h3;simp only[Array.length_toList]at g1;refine⟨by omega,λj x x' e e'=>?_⟩;have hj:j<xs.size:=by rw[h1];exact(Nj.1 e').1
   exact ih (g2 j xs[j] x (by simp[hj]) (by simpa using e)) (h2 j _ x' (Ng hj) e')
  unfold mtV at h;split at h
  ·rename_i a b;simp only[Lm,Kh,Lv]at h;obtain⟨⟨h1,h2⟩,h3⟩:=h;obtain⟨i,g1,g2,g3⟩:=hv.ptr_inv;rw[g3,h2];obtain⟨b0,bo,bs⟩:=b;have:bs=none:=by cases bs with | none=>rfl | some _=>cases h3
   subst this;exact .ptr b0 bo i (hr _ _ i (QAE h1) g1)
  ·rename_i a l c b l' c';simp only[Lm,Kh,Lv]at h;obtain⟨⟨⟨⟨h1,h2⟩,h3⟩,h4⟩,h5⟩:=h;obtain⟨i,a',cap',g1,g2,g3,g4,g5,g0,g6,g7⟩:=hv.slice_inv;subst h4;subst h5;rw[g3];obtain⟨b0,bo,bs⟩:=b;have:bs=none:=by cases bs with | none=>rfl | some _=>cases h3
   subst this;simp only at h2;rw[h2]at g4 g6;exact .slice b0 bo l c cap' i a' (hr _ _ i (QAE h1) g1) g4 g5 g0 g6 g7
  ·rename_i t v0 t' u0;simp only[Lm,Kh,Lv]at h;obtain⟨rfl,h2⟩:=h;cases hv with
   | same _ hp=>simp[plain]at hp
   | iface _ _ v1 hv1=>exact .iface t u0 v1 (ih h2 hv1)
  ·rename_i xs ys;cases hv with
   | same _ hp=>simp[plain]at hp
   | agg _ xs' h1 h2=>obtain⟨p1,p2⟩:=arr xs ys xs' h1 h2 h;exact .agg ys xs' p1 p2
  ·rename_i xs ys;cases hv with
   | same _ hp=>simp[plain]at hp
   | tuple _ xs' h1 h2=>obtain⟨p1,p2⟩:=arr xs ys xs' h1 h2 h;exact .tuple ys xs' p1 p2
  ·exact pl h hv
def QGt (G:Nat)(B:Qa):Prop:=B.next=G∧∀id b,B.get id=some b->∃c e,b=.cells c e true∧c.all plain=true
structure Qzf (G:Nat) (H1:Qa) (rs:List Row):Prop where
 row:∀ (k:Nat) (r:Row),rs[k]? = some r->G<=r.src∧r.c.all (okD 6)=true∧∃c1,H1.get r.src=some (.cells c1 r.e r.ro)∧QbM (mtV (QdJ G rs) 6) c1 r.c=true
 inj:∀ (j k:Nat) (r r':Row),rs[j]? = some r->rs[k]? = some r'->j≠k->r.src≠r'.src
theorem Xf.turn {P:Program}{ρ ρ':Ren}{i:Kg}{w:World}{c u:List Value}{e:TypeId}{ro:Bool}(h:Xf P ρ i w (.cells c e ro))(hl:u.length=c.length)
  (hv:∀ (j:Nat) x y z,c[j]? = some x->u[j]? = some y->V ρ x z->V ρ' y z):Xf P ρ' i w (.cells u e ro):=by
 have hx:∀ (j:Nat) y,u[j]? = some y->∃x,c[j]? = some x:=λj y hj=>by
  have:j<c.length:=by rw[<- hl];exact(Lk.1 hj).1
  exact⟨c[j],La this⟩
 cases ro with
 | true=>
  refine⟨h.1,λj y hj=>?_⟩;obtain⟨x,hxj⟩:=hx j y hj;obtain⟨z,h1,h2⟩:=h.2 j x hxj;exact⟨z,h1,hv j x y z hxj hj h2⟩
 | false=>
  obtain⟨cur,fz,hh,h1,h2,h3,h4,h5,h6,h7⟩:=h;refine⟨cur,fz,hh,h1,h2,by omega,λj y hj=>?_,h5,by rw[hl];exact h6,h7⟩;obtain⟨x,hxj⟩:=hx j y hj;obtain⟨z,g1,g2⟩:=h4 j x hxj;exact⟨z,g1,hv j x y z hxj hj g2⟩
theorem V.closed_eq {ρ:Ren}{v v':Value}(h:V ρ v v')(hc:ZB v=true):v'=v:=by
 have arr:∀xs xs':Array Value,xs.all Ab.plain=true->xs.size=xs'.size->(∀ (j:Nat) x x',xs[j]? = some x->xs'[j]? = some x'->V ρ x x')->xs'=xs:=λxs xs' hx hs hv=>by
  apply Array.ext hs.symm;intro j h1 h2;have:=hv j xs[j] xs'[j] (Ng h2) (Ng h1);exact this.plain_eq (B1.1 hx _ (Array.getElem_mem h2))
 cases h with
 | same v hp=>rfl
 | agg xs xs' h1 h2=>rw[arr xs xs' hc h1 h2]
 | tuple xs xs' h1 h2=>rw[arr xs xs' hc h1 h2]
 | iface t v v' h=>rw[h.plain_eq hc]
 | _=>simp[ZB,Ab.plain]at hc
theorem QIu {P:Program}{f:FuncId}{args:List Value}{v u:Value}{B H1:Qa}(hB:QGt P.globals.size B)(hd:Qgq P f args B (.ret v) H1)(ha:args.all ZB=true)
  {rs:List Row} (hv:mtV (QdJ P.globals.size rs) 6 v u=true) (hu:okD 6 u=true) (hrs:Qzf P.globals.size H1 rs) (H:Qa) (hH:∀id b,B.get id=some b->H.get id=some b):
  Qgq P f args H (.ret (shV P.globals.size (H.next - P.globals.size) 6 u)) (Qtw P.globals.size rs H):=by
 intro ρ w args' hs hargs;obtain⟨hBn,hBt⟩:=hB;have hG:P.globals.size<=H.next:=by
  rcases B6 P.globals.size with h | h
  ·omega
  ·obtain⟨i,hi,_⟩:=hs.glob (P.globals.size - 1) (by omega);have:=hs.dom _ _ hi;omega
 have hargs0:VL (WK ρ P.globals.size) args args':=⟨hargs.1,λj x x' e e'=>by
  have hp:ZB x=true:=Li.1 ha x (Ln e);rw[(hargs.2 j x x' e e').closed_eq hp];exact .closed hp⟩
 have hsim:Sim P (WK ρ P.globals.size) B w:=by
  refine⟨λid j h=>by rw[hBn];exact(Yh h).1,λid b i hb hi=>?_,λid1 id2 b1 b2 i1 i2 h1 h2 h3 h4 h5=>?_,λg hg=>?_⟩
  ·obtain⟨c,e,rfl,hc⟩:=hBt id b hb;have:=hs.live id _ i (hH id _ hb) (Yh hi).2;refine⟨this.1,λj u hj=>?_⟩;obtain⟨u',h1,h2⟩:=this.2 j u hj;have hp:plain u=true:=Li.1 hc u (Ln hj);rw[h2.plain_eq hp]at h1;exact⟨u,h1,.same u hp⟩
  ·obtain⟨c,e,rfl,_⟩:=hBt id1 b1 h1;cases h5
  ·obtain⟨j,hj,e⟩:=hs.glob g hg;exact⟨j,ZD hg hj,e⟩
 refine(hd _ w args' hsim hargs0).mono ?_;rintro e w' ⟨ρ1,ho,hst,hs1⟩;have hnro:∀id b,B.get id=some b->b.ro=true:=λid b h=>by obtain⟨c,e,rfl,_⟩:=hBt id b h;rfl
 have hsame:∀b,b<w.heap.size->w'.heap[b]? = w.heap[b]? := λb hb=>hst.frame b hb (λid i bl _ h2 h3=>by rw[hnro id bl h2]at h3;cases h3);have hnew:∀id i,ρ1 id=some i->P.globals.size<=id->w.heap.size<=i.at_.block:=λid i h hid=>by
  have hn:WK ρ P.globals.size id=none:=by unfold WK;rw[Le (by omega)]
  rcases(hst.fresh id i h hn).2 with h | ⟨id0,i0,b0,_,_,h3,h4⟩
  ·exact h
  ·rw[hnro id0 b0 h3]at h4;cases h4
 have hblt:∀id,Nat.blt id P.globals.size=decide (id<P.globals.size):=λid=>by
  cases hb:Nat.blt id P.globals.size with
  | false=>
   by_cases h:id<P.globals.size
   ·have:Nat.blt id P.globals.size=true:=by simpa using h
    rw[hb]at this;cases this
   ·simp[h]
  | true=>simp only[B5]at hb;simp[hb]
 generalize hδ:H.next - P.globals.size=δ;have hsh:∀id,shN P.globals.size δ id=if id<P.globals.size then id else id+δ:=λid=>by
  unfold shN;rw[hblt];by_cases h:id<P.globals.size<;>simp[h]
 -- the blocks by their new numbers
 let ρc:Ren:=λb=>(QdJ P.globals.size rs b).bind ρ1
 let ρ':Ren:=λid=>if id<H.next then ρ id else ρc (id - δ)
 have hc1:∀a b i,QdJ P.globals.size rs b=some a->ρ1 a=some i->ρc b=some i:=λa b i h h'=>by simp only[ρc,h,R8,h']
 have hcin:∀b i,ρc b=some i->P.globals.size<=b->∃r,rs[b - P.globals.size]? = some r∧ρ1 r.src=some i:=λb i h hb=>by
  simp only[ρc,QdJ,hblt,show ¬b<P.globals.size by omega,NE,Ls]at h;cases hr:rs[b - P.globals.size]? with
  | none=>rw[hr]at h;cases h
  | some r=>rw[hr]at h;exact⟨r,rfl,h⟩
 have hmap:∀b i,ρc b=some i->ρ' (shN P.globals.size δ b)=some i:=λb i h=>by
  rw[hsh]
  by_cases hb:b<P.globals.size
  ·simp only[hb,N3,ρ'];rw[Lc (by omega)];simp only[ρc,QdJ,hblt,hb,Nf,Lq,R8]at h;obtain⟨i0,hi0,_⟩:=hs.glob b hb;have:=hst.mono b i0 (ZD hb hi0);rw[h]at this;cases this;exact hi0
  ·simp only[hb,LN,ρ'];rw[Le (by omega),show b+δ - δ=b by omega];exact h
 have hval:∀ {x y z:Value},mtV (QdJ P.globals.size rs) 6 x y=true->okD 6 y=true->V ρ1 x z->V ρ' (shV P.globals.size δ 6 y) z:=λh1 h2 h3=>QIt hmap 6 (QAF hc1 6 h1 h3) h2;have hsub:Sub ρ ρ':=λid i h=>by
  simp only[ρ'];rw[Lc (hs.dom id i h)];exact h
 have hget:∀id,(Qtw P.globals.size rs H).get id=if H.next<=id∧id<H.next+rs.length then(rs[id - H.next]?).map (Row.blk P.globals.size δ) else H.get id:=λid=>by
  unfold Qtw;rw[Quu,hδ]
 have hnext:(Qtw P.globals.size rs H).next=H.next+rs.length:=by unfold Qtw;exact Qse rs H
 have hidx:∀id,H.next<=id->id - δ - P.globals.size=id - H.next:=λid h=>by omega
 have hhigh:∀id i,ρ' id=some i->H.next<=id->∃r,rs[id - H.next]? = some r∧ρ1 r.src=some i:=λid i hi hid=>by
  simp only[ρ']at hi;rw[Le (by omega)]at hi;have:=hcin (id - δ) i hi (by omega);rwa [hidx id hid]at this
 have hlow:∀id i,ρ' id=some i->id<H.next->ρ id=some i:=λid i hi hid=>by
  simp only[ρ']at hi;rwa [Lc hid]at hi
 have hgl:∀id,id<H.next->(Qtw P.globals.size rs H).get id=H.get id:=λid hid=>by rw[hget,Le (by omega)]
 have hgh:∀id r,H.next<=id->rs[id - H.next]? = some r->(Qtw P.globals.size rs H).get id=some (r.blk P.globals.size δ):=λid r hid hr=>by
  have:=(Lk.1 hr).1;rw[hget,Lc ⟨hid,by omega⟩,hr];rfl
 refine⟨ρ',?_,⟨hsub,by rw[hnext];omega,λid i h h'=>?_,λid i b b' h h1 h2 h3=>?_,λid i h h'=>?_,hst.os,hst.tape,hst.output,hst.size,λb hb _=>hsame b hb⟩,
  ⟨λid i h=>?_,λid b i hb hi=>?_,λid1 id2 b1 b2 i1 i2 h1 h2 h3 h4 h5 h6=>?_,λg hg=>?_⟩⟩
 ·cases e with
  | returned v'=>exact hval hv hu ho
  | _=>exact ho.elim
 ·rw[hgl id (hs.dom id i h)];exact h'
 ·rw[hgl id (hs.dom id i h),h1]at h3;cases h3;exact h2
 ·have hid:H.next<=id:=by
   rcases Nq id H.next with hlt | hge
   ·rw[hlow id i h hlt]at h';cases h'
   ·exact hge
  obtain⟨r,hr,hr1⟩:=hhigh id i h hid;exact⟨hid,.inl (hnew r.src i hr1 (hrs.row _ r hr).1)⟩
 ·rw[hnext];rcases Nq id H.next with hlt | hge
  ·omega
  ·obtain⟨r,hr,_⟩:=hhigh id i h hge;have:=(Lk.1 hr).1;omega
 ·rcases Nq id H.next with hlt | hge
  ·rw[hgl id hlt]at hb;have hr:=hs.live id b i hb (hlow id i hi hlt);exact hr.mono hsub (hsame _ hr.lt)
  ·obtain⟨r,hr,hr1⟩:=hhigh id i hi hge;rw[hgh id r hge hr]at hb;cases hb;obtain⟨g1,g2,c1,g3,g4⟩:=hrs.row _ r hr;obtain⟨q1,q2⟩:=QgO g4;refine(hs1.live r.src _ i g3 hr1).turn (by simp[q1]) λj x y z hx hy hz=>?_;simp only[LD,Lx]at hy;obtain⟨y0,hy0,rfl⟩:=hy;exact hval (q2 j x y0 hx hy0) (Li.1 g2 y0 (Ln hy0)) hz
 ·have old:∀id b i,id<H.next->(Qtw P.globals.size rs H).get id=some b->ρ' id=some i->i.at_.block<w.heap.size:=λid b i hlt hb hi=>by
   rw[hgl id hlt]at hb;exact(hs.live id b i hb (hlow id i hi hlt)).lt
  have new:∀id i,H.next<=id->ρ' id=some i->w.heap.size<=i.at_.block:=λid i hge hi=>by
   obtain⟨r,hr,hr1⟩:=hhigh id i hi hge;exact hnew r.src i hr1 (hrs.row _ r hr).1
  rcases Nq id1 H.next with l1 | l1<;>rcases Nq id2 H.next with l2 | l2
  ·rw[hgl id1 l1]at h1;rw[hgl id2 l2]at h2;exact hs.sep id1 id2 b1 b2 i1 i2 h1 h2 (hlow id1 i1 h3 l1) (hlow id2 i2 h4 l2) h5 h6
  ·have a1:=old id1 b1 i1 l1 h1 h3;have a2:=new id2 i2 l2 h4;omega
  ·have a1:=new id1 i1 l1 h3;have a2:=old id2 b2 i2 l2 h2 h4;omega
  ·obtain⟨r,hr,hr1⟩:=hhigh id1 i1 h3 l1;obtain⟨r',hr',hr1'⟩:=hhigh id2 i2 h4 l2;rw[hgh id1 r l1 hr]at h1;rw[hgh id2 r' l2 hr']at h2;cases h1;cases h2;obtain⟨_,_,c1,g3,_⟩:=hrs.row _ r hr;obtain⟨_,_,c2,g4,_⟩:=hrs.row _ r' hr';exact hs1.sep r.src r'.src _ _ i1 i2 g3 g4 hr1 hr1' h5 (hrs.inj _ _ r r' hr hr' (by omega))
 ·obtain⟨j,hj,e⟩:=hs.glob g hg;exact⟨j,hsub _ _ hj,e⟩
/-! ### Tables, and calls that are known -/
structure Tab where
 id:Nat
 c:List Value
 e:TypeId
def JR (G:Nat)(tabs:List Tab):Qa:=⟨G,tabs.foldr (λt tr=>tr.set t.id (some (.cells t.c t.e true))) .nil⟩
theorem JB {G:Nat}:∀ {tabs:List Tab} {id:Nat} {b:Blk},(JR G tabs).get id=some b->∃t∈tabs,id=t.id∧b=.cells t.c t.e true
 | [],id,b,h=>by cases h
 | t::ts,id,b,h=>by
  have h:((JR G ts).tr.set t.id (some (.cells t.c t.e true))).get id=some b:=h;rw[Tr.get_set]at h
  by_cases e:id=t.id
  ·rw[Lc e]at h;cases h;exact⟨t,Ny ..,e,rfl⟩
  ·rw[Le e]at h;obtain⟨t',h1,h2,h3⟩:=JB (G:=G) (tabs:=ts) (id:=id) (b:=b) h;exact⟨t',NA _ h1,h2,h3⟩
def tabsOk (tabs:List Tab):Bool:=tabs.all λt=>t.c.all plain
theorem QDj {G:Nat}{tabs:List Tab}(h:tabsOk tabs=true):QGt G (JR G tabs):=
 ⟨rfl,λid b hb=>by
  obtain⟨t,h1,_,h3⟩:=JB hb;exact⟨t.c,t.e,h3,Li.1 h t h1⟩⟩
def QGu (t:Tab)(b:Option Blk):Bool:=
 match b with
 | some (.cells c e true)=>Nat.beq e t.e&&QbM (Qgv 8) c t.c
 | _=>false
def QmK (tabs:List Tab)(H:Qa):Bool:=tabs.all λt=>QGu t (H.get t.id)
theorem Qsf {G:Nat}{tabs:List Tab}{H:Qa}(h:QmK tabs H=true):∀id b,(JR G tabs).get id=some b->H.get id=some b:=λid b hb=>by
 obtain⟨t,h1,h2,h3⟩:=JB hb;have:=Li.1 h t h1;subst h2;subst h3;unfold QGu at this;split at this
 ·rename_i c e hg;simp only[Lm,Kh,Lv]at this;rw[hg,this.1,QnE (Qfg 8) _ _ this.2]
 ·cases this
def Qvr:List Row->Bool
 | r::r'::rs=>Nat.blt r.src r'.src&&Qvr (r'::rs)
 | _=>true
theorem Qee:∀ (rs:List Row),Qvr rs=true->∀ (j k:Nat) (r r':Row),rs[j]? = some r->rs[k]? = some r'->j<k->r.src<r'.src
 | [],_,j,k,r,r',h,_,_=>by simp at h
 | [x],_,j,k,r,r',h,h',hjk=>by
  have:=(Lk.1 h').1;simp at this;omega
 | x::y::rs,hr,j,k,r,r',h,h',hjk=>by
  simp only[Qvr,Lm,B5]at hr;cases k with
  | zero=>omega
  | succ k=>
   have hk:(y::rs)[k]? = some r':=by simpa using h'
   cases j with
   | zero=>
    simp at h;subst h;cases k with
    | zero=>simp at hk;subst hk;exact hr.1
    | succ k=>exact Nat.lt_trans hr.1 (Qee (y::rs) hr.2 0 (k+1) y r' (by simp) hk (by omega))
   | succ j=>exact Qee (y::rs) hr.2 j k r r' (by simpa using h) hk (by omega)
def Qzg (G:Nat)(σ:Nat->Option Nat)(H1:Qa)(r:Row):Bool:=
 Nat.ble G r.src&&r.c.all (okD 6)&&match H1.get r.src with
  | some (.cells c1 e ro)=>Nat.beq e r.e&&(ro==r.ro)&&QbM (mtV σ 6) c1 r.c
  | _=>false
def QqA (G:Nat)(u:Value)(rs:List Row)(r:Option (Value×Qa)):Bool:=
 match r with
 | some (v,H1)=>mtV (QdJ G rs) 6 v u&&okD 6 u&&Qvr rs&&rs.all (Qzg G (QdJ G rs) H1)
 | none=>false
theorem QDk {P:Program}{known:CallF}(hk:CallOk P known){F G k:Nat}{f:FuncId}{args:List Value}{tabs:List Tab}{u:Value}{rs:List Row}(he:entered P f=true)(ha:args.all ZB=true)(ht:tabsOk tabs=true)
  (h:QqA P.globals.size u rs ((run P known F G k).fn f args (JR P.globals.size tabs))=true) (H:Qa) (hH:QmK tabs H=true):
  Qgq P f args H (.ret (shV P.globals.size (H.next - P.globals.size) 6 u)) (Qtw P.globals.size rs H):=by
 unfold QqA at h;split at h
 ·rename_i v H1 hr;simp only[Lm]at h;obtain⟨⟨⟨h1,h2⟩,h3⟩,h4⟩:=h;refine QIu (QDj ht) (((Qpm hk k).fn f args _ v H1 hr).does he) ha h1 h2 ⟨λj r hj=>?_,λj m r r' hj hm hne=>?_⟩ H (Qsf hH)
  ·have:=Li.1 h4 r (Ln hj);unfold Qzg at this;simp only[Lm,BL]at this;obtain⟨⟨g1,g2⟩,g3⟩:=this;refine⟨g1,g2,?_⟩;split at g3
   ·rename_i c1 e ro hg;simp only[Lm,Kh,Lv,L0]at g3;exact⟨c1,by rw[hg,g3.1.1,g3.1.2],g3.2⟩
   ·cases g3
  ·rcases Nq j m with hlt | hge
   ·have:=Qee rs h3 j m r r' hj hm hlt;omega
   ·have:=Qee rs h3 m j r' r hm hj (by omega);omega
 ·cases h
def Jd (a b:CallF):CallF:=λf args H=>Option.rec (motive:=λ_=>Option (Value×Qa)) (b f args H) some (a f args H)
theorem orKnown_ok {P:Program}{a b:CallF}(ha:CallOk P a)(hb:CallOk P b):CallOk P (Jd a b):=by
 intro f args H v H' h;unfold Jd at h;cases he:a f args H with
 | some r=>rw[he]at h;cases h;exact ha f args H v H' he
 | none=>rw[he]at h;exact hb f args H v H' h
end Go.Ab
namespace Go.Ab
open Go.RowKit
section
variable {P:Program}
def globR (P:Program):Ren:=λg=>if g<P.globals.size then some ⟨⟨g,0,none⟩,0,0⟩ else none
def H0 (P:Program):Qa:=⟨P.globals.size,.nil⟩
theorem QHe (P:Program)(id:Nat):(H0 P).get id=none:=rfl
theorem St.below {ρ ρ':Ren}{H H':Qa}{w w':World}(h:St ρ H w ρ' H' w')(hro:∀id b,H.get id=some b->b.ro=true):Below w.heap.size w w':=
 ⟨h.os,h.tape,h.output,h.size,λb hb=>h.frame b hb (λid i bl _ h2 h3=>by rw[hro id bl h2]at h3;cases h3)⟩
theorem QDl {f:FuncId}{args:List Value}{v:Value}{H1:Qa}(hd:Qgq P f args (H0 P) (.ret v) H1)(ha:args.all plain=true)(hv:plain v=true)(H:Qa):Qgq P f args H (.ret v) H:=by
 intro ρ w args' hs hargs;have hargs':VL (WK ρ P.globals.size) args args':=⟨hargs.1,λj x x' e e'=>by
  have hp:plain x=true:=Li.1 ha x (Ln e);rw[(hargs.2 j x x' e e').plain_eq hp];exact .same x hp⟩
 have hsim:Sim P (WK ρ P.globals.size) (H0 P) w:=Sim.empty (λid j h=>(Yh h).1) (λg hg=>by
  obtain⟨j,hj,e⟩:=hs.glob g hg;exact⟨j,ZD hg hj,e⟩)
 refine(hd _ w args' hsim hargs').mono ?_;rintro e w' ⟨ρ',ho,hst,hs'⟩;have hbel:=hst.below (λid b h=>by rw[QHe]at h;cases h);refine⟨ρ,?_,⟨.refl ρ,Lb _,λ_ _ _ h=>h,λ_ _ b b' _ h hr h'=>(by rw[h]at h';cases h';exact hr),λid i h h'=>(by rw[h']at h;cases h),hbel.os,hbel.tape,hbel.output,hbel.size,λb hb _=>hbel.block b hb⟩,
  ⟨hs.dom,λid b i h h'=>(hs.live id b i h h').mono (.refl ρ) (hbel.block _ (hs.live id b i h h').lt),hs.sep,hs.glob⟩⟩
 cases e with
 | returned v'=>
  have:v'=v:=V.plain_eq ho hv;subst this;exact .same _ hv
 | _=>exact ho.elim
theorem Qtx {f:FuncId}{args args':List Value}{v:Value}{H H':Qa}(hd:Qgq P f args H (.ret v) H'){ρ:Ren}{w:World}(hs:Sim P ρ H w)(ha:VL ρ args args')(hv:plain v=true)(hro:∀id b,H.get id=some b->b.ro=true):
  Calls P f args'.toArray w λe w'=>e=.returned v∧Below w.heap.size w w':=by
 refine(hd ρ w args' hs ha).mono ?_;rintro e w' ⟨ρ',ho,hst,hs'⟩;refine⟨?_,hst.below hro⟩;cases e with
 | returned v'=>rw[V.plain_eq ho hv]
 | _=>exact ho.elim
theorem sim_tabs {tabs:List Tab}{w:World}(hb:∀t∈tabs,t.id<w.heap.size)(hc:∀t∈tabs,∀ (j:Nat) v,t.c[j]? = some v->w.cell? ⟨t.id,j,none⟩=some v)(hp:tabsOk tabs=true):
  Sim P (globR P) (JR P.globals.size tabs) w:=by
 refine⟨λid j h=>(by unfold globR at h;split at h;(assumption);cases h),λid b i hg hi=>?_,λid1 id2 b1 b2 i1 i2 h1 h2 h3 h4 h5=>?_,λg hg=>⟨_,(by unfold globR;rw[Lc hg]),rfl⟩⟩
 ·obtain⟨t,h1,rfl,rfl⟩:=JB hg;unfold globR at hi;split at hi
  ·cases hi;refine⟨hb t h1,λj v hj=>⟨v,?_,.same v (Li.1 (Li.1 hp t h1) v (Ln hj))⟩⟩;rw[Qe8,LP];exact hc t h1 j v hj
  ·cases hi
 ·obtain⟨t,_,_,rfl⟩:=JB h1;cases h5
theorem post_below {H:Type}{enc:TypeId×Value->H}{f:Func}{s:ChangeSpec}{fresh handsOn:Bool}{W W':World}{args:Array Value}{v:Value}{ds gs:List (DataW H)}{before pa pv:List MemPlace}
  (hW:DataW.Whole enc P f.params.toList s.vars false W args.toList ds gs before)
  (hres:∀ (b:Nat) (sp:Nat->Bool) (hd:Bool),DataW.TrodAll enc P W' b sp hd f.resultTypes.toList (v.resultList f.resultTypes.size) (s.fn H (ds++gs)).results [])
  (hargs:DataW.TrodAll enc P W' 0 (λb=>decide (b<W.heap.size)) true f.params.toList args.toList (s.fn H (ds++gs)).args pa)
  (hvars:DataW.TrodVars enc P W' (λb=>decide (b<W.heap.size)) s.vars (s.fn H (ds++gs)).vars pv) (hb:Below W.heap.size W W'):
  s.post enc P f false fresh handsOn false W args v W':=by
 refine⟨ds,gs,before,[],pa,pv,hW,hres _ _ _,hargs,hvars,⟨hb.os,hb.output,λi hi=>?_⟩,λh=>by cases h⟩;rw[hb.block i hi];cases hx:W.heap[i]? with
 | none=>simp
 | some o=>cases o<;>simp
end
def QmL (ρ:Ren)(τ:Nat->Nat)(n:Nat):Ren:=λid=>if id<n then ρ (τ id) else none
theorem Qpv {ρ:Ren}{τ:Nat->Nat}{n id:Nat}{i:Kg}(h:QmL ρ τ n id=some i):id<n∧ρ (τ id)=some i:=by
 unfold QmL at h;split at h
 ·rename_i hl;exact⟨hl,h⟩
 ·cases h
def Qq2 (τ:Nat->Nat)(n:Nat)(x y:Value):Prop:=∀ρ v,V ρ y v->V (QmL ρ τ n) x v
theorem Qq2.plain {τ:Nat->Nat}{n:Nat}{x:Value}(h:plain x=true):Qq2 τ n x x:=λρ v hv=>by
 rw[hv.plain_eq h];exact .same x h
theorem Qq2.slice {τ:Nat->Nat}{n id o l c:Nat}(h:id<n):Qq2 τ n (.slice (some ⟨id,o,none⟩) l c) (.slice (some ⟨τ id,o,none⟩) l c):=λρ v hv=>by
 cases hv with
 | same _ hp=>simp[Ab.plain]at hp
 | slice _ _ _ _ cap' i a' h0 h1 h2 h3 h4 h5=>exact .slice id o l c cap' i a' (by unfold QmL;rw[Lc h];exact h0) h1 h2 h3 h4 h5
theorem Qq2.ptr {τ:Nat->Nat}{n id o:Nat}(h:id<n):Qq2 τ n (.pointer (some ⟨id,o,none⟩)) (.pointer (some ⟨τ id,o,none⟩)):=λρ v hv=>by
 cases hv with
 | same _ hp=>simp[Ab.plain]at hp
 | ptr _ _ i h0=>exact .ptr id o i (by unfold QmL;rw[Lc h];exact h0)
theorem Qq2.agg {τ:Nat->Nat}{n:Nat}{xs ys:List Value}(hl:xs.length=ys.length)(h:∀ (j:Nat) x y,xs[j]? = some x->ys[j]? = some y->Qq2 τ n x y):Qq2 τ n (.agg xs.toArray) (.agg ys.toArray):=λρ v hv=>by
 cases hv with
 | same _ hp=>simp[Ab.plain]at hp
 | agg _ vs h1 h2=>
  refine .agg _ vs (by simpa[hl] using h1) λj x x' hx hx'=>?_;have hj:j<ys.length:=by
   have:=(Nj.1 hx).1;simp at this;omega
  exact h j x ys[j] (by simpa using hx) (La hj) ρ x' (h2 j _ x' (by simp[hj]) hx')
def shW (sh:Nat->Nat):Nat->Value->Value
 | 0,v=>v
 | f+1,v=>match v with
  | .pointer (some a)=>.pointer (some ⟨sh a.block,a.off,a.spot⟩)
  | .slice (some a) l c=>.slice (some ⟨sh a.block,a.off,a.spot⟩) l c
  | .map (some r)=>.map (some (sh r))
  | .iface t v=>.iface t (shW sh f v)
  | .agg xs=>.agg (xs.toList.map (shW sh f)).toArray
  | .tuple xs=>.tuple (xs.toList.map (shW sh f)).toArray
  | .func fn xs ys=>.func fn (xs.toList.map (shW sh f)).toArray (ys.toList.map (shW sh f)).toArray
  | v=>v
theorem Quv (sh:Nat->Nat):∀ (f:Nat) (v:Value),plain v=true->shW sh f v=v
 | 0,v,_=>rfl
 | f+1,v,h=>by
  unfold shW;split<;>first | (simp[plain]at h;done) | rfl
theorem QIv {ρ ρ':Ren}{sh:Nat->Nat}(hr:∀id i,ρ id=some i->ρ' (sh id)=some i):∀ (f:Nat) {v v':Value},V ρ v v'->okD f v=true->V ρ' (shW sh f v) v':=by
 intro f
 induction f with
 | zero=>
  intro v v' h hk;rw[h.plain_eq hk];exact .same _ hk
 | succ f ih=>
  intro v v' h hk;have arr:∀ (xs xs':Array Value),xs.size=xs'.size->(∀ (j:Nat) x x',xs[j]? = some x->xs'[j]? = some x'->V ρ x x')->xs.toList.all (okD f)=true->
    (xs.toList.map (shW sh f)).toArray.size=xs'.size∧∀ (j:Nat) x x',(xs.toList.map (shW sh f)).toArray[j]? = some x->xs'[j]? = some x'->V ρ' x x':=by
   intro xs xs' h1 h2 h3;refine⟨by simp[h1],λj x x' e e'=>?_⟩;simp only[List.getElem?_toArray,LD,Bl,Lx]at e;obtain⟨y,hy,rfl⟩:=e;exact ih (h2 j y x' hy e') (Li.1 h3 y (by simpa using BB hy))
  cases h with
  | same v hp=>rw[Quv sh (f+1) v hp];exact .same v hp
  | ptr id off i h=>exact .ptr _ off i (hr id i h)
  | slice id off len cap cap' i a' h h1 h2 h0 h3 h4=>exact .slice _ off len cap cap' i a' (hr id i h) h1 h2 h0 h3 h4
  | map id i h=>exact .map _ i (hr id i h)
  | func fn xs ys xs' ys' hn h1 h2 h3 h4=>
   simp only[okD,Lm]at hk;obtain⟨p1,p2⟩:=arr xs xs' h1 h3 hk.1.2;obtain⟨q1,q2⟩:=arr ys ys' h2 h4 hk.2;exact .func fn _ _ xs' ys' hn p1 q1 p2 q2
  | yield l i h=>simp[okD,QdZ]at hk
  | iface t v v' h=>exact .iface t _ v' (ih h hk)
  | agg xs xs' h1 h2=>
   obtain⟨p1,p2⟩:=arr xs xs' h1 h2 hk;exact .agg _ xs' p1 p2
  | tuple xs xs' h1 h2=>
   obtain⟨p1,p2⟩:=arr xs xs' h1 h2 hk;exact .tuple _ xs' p1 p2
def Row.blkW (sh:Nat->Nat)(r:Row):Blk:=.cells (r.c.map (shW sh 6)) r.e r.ro
def QaR (sh:Nat->Nat):List Row->Qa->Qa
 | [],H=>H
 | r::rs,H=>QaR sh rs (H.push (r.blkW sh))
theorem Qh6 {sh:Nat->Nat}:∀ (rs:List Row) (H:Qa),(QaR sh rs H).next=H.next+rs.length
 | [],H=>rfl
 | r::rs,H=>by simp only[QaR,Qh6 rs,Qc,Lo];omega
theorem QgQ {sh:Nat->Nat}:∀ (rs:List Row) (H:Qa) (id:Nat),(QaR sh rs H).get id=if H.next<=id∧id<H.next+rs.length then(rs[id - H.next]?).map (Row.blkW sh) else H.get id
 | [],H,id=>by simp only[QaR,L9];rw[Le (by omega)]
 | r::rs,H,id=>by
  simp only[QaR,QgQ rs,Qc,Lo,Qd]
  by_cases h1:id=H.next
  ·subst h1;rw[Le (by omega),Lc rfl,Lc ⟨by omega,by omega⟩];simp
  ·by_cases h2:H.next+1<=id∧id<H.next+1+rs.length
   ·rw[Lc h2,Lc ⟨by omega,by omega⟩,show id - H.next=(id - (H.next+1))+1 by omega];simp
   ·rw[Le h2,Le h1,Le (by omega)]
def shM (τ:Nat->Nat)(M n id:Nat):Nat:=bif Nat.blt id M then τ id else n+(id - M)
def Qh7 (τ:Nat->Nat)(M b:Nat):Option Nat:=bif Nat.blt b M then some (τ b) else none
theorem Qlp (a b:Nat):Nat.blt a b=decide (a<b):=by
 cases hb:Nat.blt a b with
 | false=>
  by_cases h:a<b
  ·have:Nat.blt a b=true:=by simpa using h
   rw[hb]at this;cases this
  ·simp[h]
 | true=>simp only[B5]at hb;simp[hb]
theorem Qxb {ρ:Ren}{τ:Nat->Nat}{n a b:Nat}{i:Kg}(h:Qh7 τ n b=some a)(h':ρ a=some i):QmL ρ τ n b=some i:=by
 unfold Qh7 at h;rw[Qlp]at h;unfold QmL
 by_cases hb:b<n
 ·simp only[hb,Nf,Lq,Lt]at h;rw[Lc hb,h];exact h'
 ·simp only[hb,NE,Ls]at h;cases h
theorem QFb {τ:Nat->Nat}{n f:Nat}{x y:Value}(h:mtV (Qh7 τ n) f y x=true):Qq2 τ n x y:=λρ v hv=>QAF (λa b i=>Qxb) f h hv
theorem QHf {P:Program}{f:FuncId}{args args2:List Value}{v u:Value}{B H1:Qa}{τ:Nat->Nat}(hd:Qgq P f args B (.ret v) H1)(hg:P.globals.size<=B.next)(hτ:∀g,g<P.globals.size->τ g=g)
  {rs:List Row} (hv:mtV (QdJ B.next rs) 6 v u=true) (hu:okD 6 u=true) (hrs:Qzf B.next H1 rs) (H:Qa)
  (hB:∀id b,B.get id=some b->∃c e c2 e2 ro,b=.cells c e true∧H.get (τ id)=some (.cells c2 e2 ro)∧c.length=c2.length∧∀ (j:Nat) x y,c[j]? = some x->c2[j]? = some y->Qq2 τ B.next x y)
  (ha:QbM (mtV (Qh7 τ B.next) 6) args2 args=true):
  Qgq P f args2 H (.ret (shW (shM τ B.next H.next) 6 u)) (QaR (shM τ B.next H.next) rs H):=by
 intro ρ w args' hs hargs;have hbk:=λa b i=>Qxb (ρ:=ρ) (τ:=τ) (n:=B.next) (a:=a) (b:=b) (i:=i);obtain⟨hal,hav⟩:=QgO ha;have hargs':VL (QmL ρ τ B.next) args args':=⟨by rw[<- hal];exact hargs.1,λj x x' e e'=>by
  have hj:j<args2.length:=by have:=(Lk.1 e).1;omega
  exact QAF hbk 6 (hav j args2[j] x (La hj) e) (hargs.2 j _ x' (La hj) e')⟩
 have hnro:∀id b,B.get id=some b->b.ro=true:=λid b h=>by obtain⟨c,e,c2,e2,ro,rfl,_⟩:=hB id b h;rfl
 have hsim:Sim P (QmL ρ τ B.next) B w:=by
  refine⟨λid j h=>(Qpv h).1,λid b i hb hi=>?_,λid1 id2 b1 b2 i1 i2 h1 h2 h3 h4 h5=>?_,λg hgl=>?_⟩
  ·obtain⟨c,e,c2,e2,ro,rfl,hh,hc,hx⟩:=hB id b hb;have hr:=hs.live _ _ i hh (Qpv hi).2;refine⟨hr.lt,λj u hj=>?_⟩;have hj2:j<c2.length:=by have:=(Lk.1 hj).1;omega
   obtain⟨u',h1,h2⟩:=hr.cellAt (La hj2);exact⟨u',h1,hx j u c2[j] hj (La hj2) ρ u' h2⟩
  ·rw[hnro id1 b1 h1]at h5;cases h5
  ·obtain⟨j,hj,e⟩:=hs.glob g hgl;refine⟨j,?_,e⟩;unfold QmL;rw[Lc (by omega),hτ g hgl];exact hj
 refine(hd _ w args' hsim hargs').mono ?_;rintro e w' ⟨ρ1,ho,hst,hs1⟩;have hsame:∀b,b<w.heap.size->w'.heap[b]? = w.heap[b]? := λb hb=>hst.frame b hb (λid i bl _ h2 h3=>by rw[hnro id bl h2]at h3;cases h3);have hnew:∀id i,ρ1 id=some i->B.next<=id->w.heap.size<=i.at_.block:=λid i h hid=>by
  have hn:QmL ρ τ B.next id=none:=by unfold QmL;rw[Le (by omega)]
  rcases(hst.fresh id i h hn).2 with h | ⟨id0,i0,b0,_,_,h3,h4⟩
  ·exact h
  ·rw[hnro id0 b0 h3]at h4;cases h4
 generalize hM:B.next=M at *;have hsh:∀id,shM τ M H.next id=if id<M then τ id else H.next+(id - M):=λid=>by
  unfold shM;rw[Qlp];by_cases h:id<M<;>simp[h]
 let ρc:Ren:=λb=>(QdJ M rs b).bind ρ1
 let ρ':Ren:=λid=>if id<H.next then ρ id else ρc (M+(id - H.next))
 have hc1:∀a b i,QdJ M rs b=some a->ρ1 a=some i->ρc b=some i:=λa b i h h'=>by simp only[ρc,h,R8,h']
 have hcin:∀b i,ρc b=some i->M<=b->∃r,rs[b - M]? = some r∧ρ1 r.src=some i:=λb i h hb=>by
  simp only[ρc,QdJ,Qlp,show ¬b<M by omega,NE,Ls]at h;cases hr:rs[b - M]? with
  | none=>rw[hr]at h;cases h
  | some r=>rw[hr]at h;exact⟨r,rfl,h⟩
 have hmap:∀b i,ρc b=some i->ρ' (shM τ M H.next b)=some i:=λb i h=>by
  rw[hsh]
  by_cases hb:b<M
  ·simp only[hb,N3,ρ'];simp only[ρc,QdJ,Qlp,hb,Nf,Lq,R8]at h;cases hk:QmL ρ τ M b with
   | none=>
    have:=(hst.fresh b i h hk).1;omega
   | some i0=>
    have:=hst.mono b i0 hk;rw[h]at this;cases this;have h2:=(Qpv hk).2;rw[Lc (hs.dom _ _ h2)];exact h2
  ·simp only[hb,LN,ρ'];rw[Le (by omega),show M+(H.next+(b - M) - H.next)=b by omega];exact h
 have hval:∀ {x y z:Value},mtV (QdJ M rs) 6 x y=true->okD 6 y=true->V ρ1 x z->V ρ' (shW (shM τ M H.next) 6 y) z:=λh1 h2 h3=>QIv hmap 6 (QAF hc1 6 h1 h3) h2;have hsub:Sub ρ ρ':=λid i h=>by
  simp only[ρ'];rw[Lc (hs.dom id i h)];exact h
 have hget:∀id,(QaR (shM τ M H.next) rs H).get id=if H.next<=id∧id<H.next+rs.length then(rs[id - H.next]?).map (Row.blkW (shM τ M H.next)) else H.get id:=λid=>QgQ rs H id
 have hnext:(QaR (shM τ M H.next) rs H).next=H.next+rs.length:=Qh6 rs H;have hhigh:∀id i,ρ' id=some i->H.next<=id->∃r,rs[id - H.next]? = some r∧ρ1 r.src=some i:=λid i hi hid=>by
  simp only[ρ']at hi;rw[Le (by omega)]at hi;have:=hcin _ i hi (by omega);rwa [show M+(id - H.next) - M=id - H.next by omega]at this
 have hlow:∀id i,ρ' id=some i->id<H.next->ρ id=some i:=λid i hi hid=>by
  simp only[ρ']at hi;rwa [Lc hid]at hi
 have hgl:∀id,id<H.next->(QaR (shM τ M H.next) rs H).get id=H.get id:=λid hid=>by rw[hget,Le (by omega)]
 have hgh:∀id r,H.next<=id->rs[id - H.next]? = some r->(QaR (shM τ M H.next) rs H).get id=some (r.blkW (shM τ M H.next)):=λid r hid hr=>by
  have:=(Lk.1 hr).1;rw[hget,Lc ⟨hid,by omega⟩,hr];rfl
 refine⟨ρ',?_,⟨hsub,by rw[hnext];omega,λid i h h'=>?_,λid i b b' h h1 h2 h3=>?_,λid i h h'=>?_,hst.os,hst.tape,hst.output,hst.size,λb hb _=>hsame b hb⟩,
  ⟨λid i h=>?_,λid b i hb hi=>?_,λid1 id2 b1 b2 i1 i2 h1 h2 h3 h4 h5 h6=>?_,λg hg=>?_⟩⟩
 ·cases e with
  | returned v'=>exact hval hv hu ho
  | _=>exact ho.elim
 ·rw[hgl id (hs.dom id i h)];exact h'
 ·rw[hgl id (hs.dom id i h),h1]at h3;cases h3;exact h2
 ·have hid:H.next<=id:=by
   rcases Nq id H.next with hlt | hge
   ·rw[hlow id i h hlt]at h';cases h'
   ·exact hge
  obtain⟨r,hr,hr1⟩:=hhigh id i h hid;exact⟨hid,.inl (hnew r.src i hr1 (hrs.row _ r hr).1)⟩
 ·rw[hnext];rcases Nq id H.next with hlt | hge
  ·omega
  ·obtain⟨r,hr,_⟩:=hhigh id i h hge;have:=(Lk.1 hr).1;omega
 ·rcases Nq id H.next with hlt | hge
  ·rw[hgl id hlt]at hb;have hr:=hs.live id b i hb (hlow id i hi hlt);exact hr.mono hsub (hsame _ hr.lt)
  ·obtain⟨r,hr,hr1⟩:=hhigh id i hi hge;rw[hgh id r hge hr]at hb;cases hb;obtain⟨g1,g2,c1,g3,g4⟩:=hrs.row _ r hr;obtain⟨q1,q2⟩:=QgO g4;refine(hs1.live r.src _ i g3 hr1).turn (by simp[q1]) λj x y z hx hy hz=>?_;simp only[LD,Lx]at hy;obtain⟨y0,hy0,rfl⟩:=hy;exact hval (q2 j x y0 hx hy0) (Li.1 g2 y0 (Ln hy0)) hz
 ·have old:∀id b i,id<H.next->(QaR (shM τ M H.next) rs H).get id=some b->ρ' id=some i->i.at_.block<w.heap.size:=λid b i hlt hb hi=>by
   rw[hgl id hlt]at hb;exact(hs.live id b i hb (hlow id i hi hlt)).lt
  have new:∀id i,H.next<=id->ρ' id=some i->w.heap.size<=i.at_.block:=λid i hge hi=>by
   obtain⟨r,hr,hr1⟩:=hhigh id i hi hge;exact hnew r.src i hr1 (hrs.row _ r hr).1
  rcases Nq id1 H.next with l1 | l1<;>rcases Nq id2 H.next with l2 | l2
  ·rw[hgl id1 l1]at h1;rw[hgl id2 l2]at h2;exact hs.sep id1 id2 b1 b2 i1 i2 h1 h2 (hlow id1 i1 h3 l1) (hlow id2 i2 h4 l2) h5 h6
  ·have a1:=old id1 b1 i1 l1 h1 h3;have a2:=new id2 i2 l2 h4;omega
  ·have a1:=new id1 i1 l1 h3;have a2:=old id2 b2 i2 l2 h2 h4;omega
  ·obtain⟨r,hr,hr1⟩:=hhigh id1 i1 h3 l1;obtain⟨r',hr',hr1'⟩:=hhigh id2 i2 h4 l2;rw[hgh id1 r l1 hr]at h1;rw[hgh id2 r' l2 hr']at h2;cases h1;cases h2;obtain⟨_,_,c1,g3,_⟩:=hrs.row _ r hr;obtain⟨_,_,c2,g4,_⟩:=hrs.row _ r' hr';exact hs1.sep r.src r'.src _ _ i1 i2 g3 g4 hr1 hr1' h5 (hrs.inj _ _ r r' hr hr' (by omega))
 ·obtain⟨j,hj,e⟩:=hs.glob g hg;exact⟨j,hsub _ _ hj,e⟩
/-! ### Known calls -/
structure SumI where
 f:FuncId
 args:List Value
 ins:List (List Value×TypeId)
 u:Value
 rs:List Row
def Qfl (H:Qa):List (List Value×TypeId)->Qa
 | []=>H
 | c::cs=>Qfl (H.push (.cells c.1 c.2 true)) cs
theorem Qn0:∀ (l:List (List Value×TypeId)) (H:Qa),(Qfl H l).next=H.next+l.length
 | [],H=>rfl
 | c::cs,H=>by simp only[Qfl,Qn0 cs,Qc,Lo];omega
theorem QqB:∀ (l:List (List Value×TypeId)) (H:Qa) (id:Nat) (b:Blk),(Qfl H l).get id=some b->H.get id=some b∨∃k c,l[k]? = some c∧id=H.next+k∧b=.cells c.1 c.2 true
 | [],H,id,b,h=>.inl h
 | c::cs,H,id,b,h=>by
  rcases QqB cs _ id b h with h | ⟨k,c',h1,h2,h3⟩
  ·rw[Qd]at h
   by_cases hid:id=H.next
   ·rw[Lc hid]at h;cases h;exact .inr ⟨0,c,rfl,hid,rfl⟩
   ·rw[Le hid]at h;exact .inl h
  ·exact .inr ⟨k+1,c',by simpa using h1,by rw[h2,Qc];omega,h3⟩
def QDm (g:Value->Value->List (Nat×Nat)->List (Nat×Nat)):List Value->List Value->List (Nat×Nat)->List (Nat×Nat)
 | x::xs,y::ys,l=>QDm g xs ys (g x y l)
 | _,_,l=>l
def fnd:Nat->Value->Value->List (Nat×Nat)->List (Nat×Nat)
 | 0,_,_,l=>l
 | f+1,x,y,l=>match x,y with
  | .pointer (some a),.pointer (some b)=>(a.block,b.block)::l
  | .slice (some a) _ _,.slice (some b) _ _=>(a.block,b.block)::l
  | .iface _ x,.iface _ y=>fnd f x y l
  | .agg xs,.agg ys=>QDm (fnd f) xs.toList ys.toList l
  | .tuple xs,.tuple ys=>QDm (fnd f) xs.toList ys.toList l
  | _,_=>l
def asc:List (Nat×Nat)->Nat->Nat
 | [],_=>0
 | p::l,n=>bif Nat.beq p.1 n then p.2 else asc l n
def QDn (H:Qa):List (List Value×TypeId)->Nat->List (Nat×Nat)->List (Nat×Nat)
 | [],_,l=>l
 | c::cs,n,l=>QDn H cs (n+1) (match H.get (asc l n) with | some (.cells c' _ _)=>QDm (fnd 6) c.1 c' l | _=>l)
def Qsg (G:Nat)(s:SumI)(args:List Value)(H:Qa)(id:Nat):Nat:=bif Nat.blt id G then id else asc (QDn H s.ins G (QDm (fnd 6) s.args args [])) id
def Quw (τ:Nat->Nat)(M:Nat)(H:Qa):List (List Value×TypeId)->Nat->Bool
 | [],_=>true
 | c::cs,n=>(match H.get (τ n) with | some (.cells c' _ _)=>QbM (mtV (Qh7 τ M) 6) c' c.1 | _=>false)&&Quw τ M H cs (n+1)
theorem Qux {τ:Nat->Nat}{M:Nat}{H:Qa}:∀ (l:List (List Value×TypeId)) (n:Nat),Quw τ M H l n=true->∀ (k:Nat) c,l[k]? = some c->∃c' e' ro,H.get (τ (n+k))=some (.cells c' e' ro)∧QbM (mtV (Qh7 τ M) 6) c' c.1=true
 | [],n,_,k,c,hk=>by simp at hk
 | c0::cs,n,h,k,c,hk=>by
  simp only[Quw,Lm]at h;cases k with
  | zero=>
   simp at hk;subst hk;obtain⟨h,_⟩:=h;split at h
   ·rename_i c' e' ro hg;exact⟨c',e',ro,hg,h⟩
   ·cases h
  | succ k=>
   obtain⟨c',e',ro,h1,h2⟩:=Qux cs (n+1) h.2 k c (by simpa using hk);exact⟨c',e',ro,by rw[show n+(k+1)=n+1+k by omega];exact h1,h2⟩
def SumIOk (P:Program)(tabs:List Tab)(s:SumI):Prop:=
 entered P s.f=true∧∃v H1,Qgq P s.f s.args (Qfl (JR P.globals.size tabs) s.ins) (.ret v) H1∧mtV (QdJ (P.globals.size+s.ins.length) s.rs) 6 v s.u=true∧okD 6 s.u=true∧Qzf (P.globals.size+s.ins.length) H1 s.rs
theorem sumI_ok {P:Program}{known:CallF}(hk:CallOk P known){F G k:Nat}{tabs:List Tab}{s:SumI}(he:entered P s.f=true)
  (h:QqA (P.globals.size+s.ins.length) s.u s.rs ((run P known F G k).fn s.f s.args (Qfl (JR P.globals.size tabs) s.ins))=true):SumIOk P tabs s:=by
 unfold QqA at h;split at h
 ·rename_i v H1 hr;simp only[Lm]at h;obtain⟨⟨⟨h1,h2⟩,h3⟩,h4⟩:=h;refine⟨he,v,H1,((Qpm hk k).fn s.f s.args _ v H1 hr).does he,h1,h2,⟨λj r hj=>?_,λj m r r' hj hm hne=>?_⟩⟩
  ·have:=Li.1 h4 r (Ln hj);unfold Qzg at this;simp only[Lm,BL]at this;obtain⟨⟨g1,g2⟩,g3⟩:=this;refine⟨g1,g2,?_⟩;split at g3
   ·rename_i c1 e ro hg;simp only[Lm,Kh,Lv,L0]at g3;exact⟨c1,by rw[hg,g3.1.1,g3.1.2],g3.2⟩
   ·cases g3
  ·rcases Nq j m with hlt | hge
   ·have:=Qee _ h3 j m r r' hj hm hlt;omega
   ·have:=Qee _ h3 m j r' r hm hj (by omega);omega
 ·cases h
theorem SumIOk.does {P:Program}{tabs:List Tab}{s:SumI}(hs:SumIOk P tabs s)(ht:tabsOk tabs=true){args:List Value}{H:Qa}{τ:Nat->Nat}(hτ:∀g,g<P.globals.size->τ g=g)(htab:∀t∈tabs,t.id<P.globals.size)
  (hH:QmK tabs H=true) (hi:Quw τ (P.globals.size+s.ins.length) H s.ins P.globals.size=true) (ha:QbM (mtV (Qh7 τ (P.globals.size+s.ins.length)) 6) args s.args=true):
  Qgq P s.f args H (.ret (shW (shM τ (P.globals.size+s.ins.length) H.next) 6 s.u)) (QaR (shM τ (P.globals.size+s.ins.length) H.next) s.rs H):=by
 obtain⟨he,v,H1,hd,h1,h2,h3⟩:=hs;have hM:(Qfl (JR P.globals.size tabs) s.ins).next=P.globals.size+s.ins.length:=Qn0 _ _;rw[<- hM]at h1 h3 hi ha ⊢;refine QHf hd (by rw[hM];omega) hτ h1 h2 h3 H (λid b hb=>?_) ha;rcases QqB _ _ _ _ hb with hb | ⟨k,c,hk,hid,rfl⟩
 ·have hg:=Qsf hH id b hb;obtain⟨t,ht1,rfl,rfl⟩:=JB hb;refine⟨t.c,t.e,t.c,t.e,true,rfl,by rw[hτ _ (htab t ht1)];exact hg,rfl,λj x y hx hy=>?_⟩;rw[hx]at hy;cases hy;exact Qq2.plain (Li.1 (Li.1 ht t ht1) x (Ln hx))
 ·obtain⟨c',e',ro,g1,g2⟩:=Qux _ _ hi k c hk;obtain⟨q1,q2⟩:=QgO g2;exact⟨c.1,c.2,c',e',ro,rfl,by rw[hid];exact g1,q1.symm,λj x y hx hy=>QFb (q2 j y x hy hx)⟩
def Qru (G:Nat)(tabs:List Tab)(f:FuncId)(args:List Value)(H:Qa):List SumI->Option (Value×Qa)
 | []=>none
 | s::ss=>bif Nat.beq f s.f&&(QbM (mtV (Qh7 (Qsg G s args H) (G+s.ins.length)) 6) args s.args&&(QmK tabs H&&Quw (Qsg G s args H) (G+s.ins.length) H s.ins G)) then
   some (shW (shM (Qsg G s args H) (G+s.ins.length) H.next) 6 s.u,QaR (shM (Qsg G s args H) (G+s.ins.length) H.next) s.rs H) else Qru G tabs f args H ss
theorem Qsh {P:Program}{tabs:List Tab}(ht:tabsOk tabs=true)(htab:∀t∈tabs,t.id<P.globals.size){f:FuncId}{args:List Value}{H:Qa}{v:Value}{H':Qa}:∀ {ss:List SumI},(∀s∈ss,SumIOk P tabs s)->Qru P.globals.size tabs f args H ss=some (v,H')->
  entered P f=true∧Qgq P f args H (.ret v) H'
 | [],_,h=>by cases h
 | s::ss,hs,h=>by
  simp only[Qru]at h;cases hc:(Nat.beq f s.f&&(QbM (mtV (Qh7 (Qsg P.globals.size s args H) (P.globals.size+s.ins.length)) 6) args s.args&&(QmK tabs H&&Quw (Qsg P.globals.size s args H) (P.globals.size+s.ins.length) H s.ins P.globals.size))) with
  | false=>
   rw[hc]at h;exact Qsh ht htab (ss:=ss) (λs' h'=>hs s' (NA _ h')) h
  | true=>
   rw[hc]at h;simp only[Lq,Lt,LB]at h;obtain⟨rfl,rfl⟩:=h;simp only[Lm,Kh,Lv]at hc;obtain⟨e1,e2,e3,e4⟩:=hc;have hs0:=hs s (Ny ..);subst e1;exact⟨hs0.1,hs0.does ht (λg hg=>by unfold Qsg;rw[Qlp];simp[hg]) htab e3 e4 e2⟩
def QmM (G:Nat)(tabs:List Tab)(sel:FuncId->List SumI):CallF:=λf args H=>Qru G tabs f args H (sel f)
theorem byFn_ok {P:Program}{tabs:List Tab}(ht:tabsOk tabs=true)(htab:∀t∈tabs,t.id<P.globals.size){sel:FuncId->List SumI}(h:∀f,∀s∈sel f,SumIOk P tabs s):CallOk P (QmM P.globals.size tabs sel):=λf args H v H' e=>by
 obtain⟨h1,h2⟩:=Qsh ht htab (h f) e;exact .inl ⟨h1,h2⟩
end Go.Ab
