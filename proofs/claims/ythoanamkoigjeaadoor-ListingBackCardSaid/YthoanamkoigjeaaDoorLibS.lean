/- The reader of lines: its first state. -/
import Derived.Test.YthoanamkoigjeaaDoorLibR
import Derived.Test.YthoanamkoigjeaaDoorLibO
set_option linter.unusedVariables false
set_option linter.unusedSimpArgs false
set_option maxRecDepth 100000
set_option maxHeartbeats 4000000
noncomputable section
namespace Go.Proofs.YthoanamkoigjeaaDoor.code
open Go.Ab
structure Im where
 org:Int
 b:List UInt8
 syms:List Sy
 marks:List Mk
def YV (l:List Sy):List Value:=l.flatMap Sy.cells
def WS (l:List Mk):List Value:=l.flatMap Mk.cells
structure Gr (H0 H:Qa) (D:Nat) (x:Im) (vb vs vm:Value):Prop where
 get:H.get D=some (.cells [.int .i64 x.org,vb,vs,vm] Qi false)
 gb:Gs 1 5 H0 H vb x.b.length (u8v x.b)
 gs:Gs 3 QM H0 H vs x.syms.length (YV x.syms)
 gm:Gs 3 Wt H0 H vm x.marks.length (WS x.marks)
 low:H0.next≤D
 ab:¬Qr vb D
 as_:¬Qr vs D
 am:¬Qr vm D
 bs:∀id,Qr vb id→¬Qr vs id
 bm:∀id,Qr vb id→¬Qr vm id
 sm:∀id,Qr vs id→¬Qr vm id
 wf:H.Wf
 ext:Ext H0 H
theorem Gr.more {H0 H H':Qa} {D:Nat} {x:Im} {vb vs vm:Value} (h:Gr H0 H D x vb vs vm) (hx:Ext H H') (hw:H'.Wf):Gr H0 H' D x vb vs vm:=by
 obtain⟨h1,h2,h3,h4,h5,h6,h7,h8,h9,h10,h11,h12,h13⟩:=h
 have k:∀ {size e v n cs},Gs size e H0 H v n cs→Gs size e H0 H' v n cs:=fun hg=>hg.ext fun id hid=>hx.get id (hg.low h12 hid).2
 exact⟨by rw[hx.get _ (h12.lt h1)];exact h1,k h2,k h3,k h4,h5,h6,h7,h8,h9,h10,h11,hw,h13.trans hx⟩
inductive Stg where
 | sym | mark
def stF:Stg→FuncId
 | .sym=>Wl
 | .mark=>Wa
def StP (H0:Qa) (D:Nat) (r:Option (Stg×Im)) (u:Value) (H':Qa):Prop:=match r with
 | none=>u=.nilFunc∧Ext H0 H'
 | some (g,x)=>u=.func (.func (stF g)) #[] #[]∧∃vb vs vm,Gr H0 H' D x vb vs vm
def Qcd (x:Im) (s:List UInt8):Option (Stg×Im):=match Qc s with
 | [_,w]=>if(s==VO (Qh w))=true∧0≤Qh w∧Qh w≤140737488355328 then some (.sym,{x with org:=Qh w}) else none
 | _=>none
theorem Vw:∀ (s w:List UInt8),w∈Qc s→w.length≤s.length
 | [],w,h=>by simp[Qc]at h;rw[h];simp
 | c::l,w,h=>by
  unfold Qc at h
  by_cases hc:c=32
  ·rw[if_pos hc]at h
   rcases List.mem_cons.1 h with rfl | h
   ·simp
   ·have:=Vw l w h;simp;omega
  ·rw[if_neg hc]at h
   cases hw:Qc l with
   | nil=>exact absurd hw (QaX l)
   | cons v vs=>
    rw[hw]at h
    have ih:=fun z hz=>Vw l z (by rw[hw];exact hz)
    rcases List.mem_cons.1 h with rfl | h
    ·have:=ih v (by simp);simp;omega
    ·have:=ih w (by simp[h]);simp;omega
theorem Qo8 {T:Qa→Prop} (hT:Tz T) {H0 H:Qa} {D:Nat} {x:Im} {vb vs vm:Value} (hw0:H0.Wf) (hT0:T H0) (hR:Gr H0 H D x vb vs vm) (s:List UInt8) (hl:s.length≤1000000):Qf prog W4 [.pointer (some ⟨D,0,none⟩),.string (mkS s)] H (StP H0 D (Qcd x s)):=by
 refine V7 fun hw=>?_
 simp only[Jp,sxA,sxB,Nat.reduceBEq,Nat.reduceEqDiff,reduceCtorEq,mxA,mxB,Nat.reduceAdd,reduceIte,Nat.reduceLeDiff,splice]
 refine(QgK s hl H).thenW ?_
 rintro u H1 _ hw1 ⟨⟨b,cap,e,rfl,hb,hg⟩,hx1⟩
 have hR1:=hR.more hx1 hw1
 have hwle:=Vw s
 unfold Qcd
 simp only[sxA,sxB,Nat.reduceBEq,Nat.reduceEqDiff,reduceCtorEq,mxA,mxB,Nat.reduceAdd,reduceIte,Nat.reduceLeDiff,splice,Qb]
 by_cases h2:(Qc s).length=2
 ·obtain⟨w0,w1,hws⟩:∃w0 w1,Qc s=[w0,w1]:=by
   match hm:Qc s with
   | [a,c]=>exact⟨a,c,rfl⟩
   | [] | [_] | _::_::_::_=>rw[hm]at h2;simp at h2
  rw[hws]at hg hwle ⊢
  have hw1l:=hwle w1 (by simp)
  have e2:(((2:Nat):Int)==2)=true:=rfl
  have c1:(0:Int)≤1∧(1:Int)<((2:Nat):Int):=by decide
  have u1:(1:Int).toNat=1:=rfl
  have hg:H1.get b=some (.cells [.string (mkS w0),.string (mkS w1)] e false):=hg
  simp only[sxA,sxB,Nat.reduceBEq,Nat.reduceEqDiff,reduceCtorEq,mxA,mxB,Nat.reduceAdd,reduceIte,Nat.reduceLeDiff,splice,e2,Zz,c1,u1,hg]
  refine(Qcb w1 (by omega) H1).thenW ?_
  rintro _ H2 _ hw2 ⟨rfl,hx2⟩
  have hR2:=hR1.more hx2 hw2
  have hni:=QaH w1
  simp only[sxA,sxB,Nat.reduceBEq,Nat.reduceEqDiff,reduceCtorEq,mxA,mxB,Nat.reduceAdd,reduceIte,Nat.reduceLeDiff,splice,QI,hR2.get]
  generalize hS:H2.set D _=H3
  have hR3:Gr H0 H3 D {x with org:=Qh w1} vb vs vm:=by
   obtain⟨h1,h2,h3,h4,h5,h6,h7,h8,h9,h10,h11,h12,h13⟩:=hR2
   have k:∀ {size ee v n cs},Gs size ee H0 H2 v n cs→¬Qr v D→Gs size ee H0 H3 v n cs:=fun hgg hd=>hgg.ext fun id hid=>by
    rw[← hS,Qa.get_set,if_neg (fun h=>hd (by rw[← h];exact hid))]
   exact⟨by rw[← hS,Qa.get_set,if_pos rfl],k h2 h6,k h3 h7,k h4 h8,h5,h6,h7,h8,h9,h10,h11,by rw[← hS];exact h12.set h1 _,by rw[← hS];exact h13.set h5 _⟩
  have hT3:T H3:=hT.q.ext _ _ hw0 hT0 hR3.ext
  refine(QfV hT _ hni H3 hT3).thenW ?_
  rintro _ H4 _ hw4 ⟨rfl,hx4⟩
  have hR4:=hR3.more hx4 hw4
  have hg4:=hR4.get
  simp only at hg4
  have hn:H.next≤H4.next:=by
   have:=hx1.next
   have:=hx2.next
   have:=hx4.next
   have:H3.next=H2.next:=by rw[← hS,Qa.next_set]
   omega
  simp only[sxA,sxB,Nat.reduceBEq,Nat.reduceEqDiff,reduceCtorEq,mxA,mxB,Nat.reduceAdd,reduceIte,Nat.reduceLeDiff,splice,syA]
  cases hs:s==VO (Qh w1) with
  | false=>
   simp only[sxA,sxB,Nat.reduceBEq,Nat.reduceEqDiff,reduceCtorEq,mxA,mxB,Nat.reduceAdd,reduceIte,Nat.reduceLeDiff,splice,Q7]
   refine .mk hn ?_
   simp[StP,hR4.ext]
  | true=>
   simp only[sxA,sxB,Nat.reduceBEq,Nat.reduceEqDiff,reduceCtorEq,mxA,mxB,Nat.reduceAdd,reduceIte,Nat.reduceLeDiff,splice,QI,hg4]
   by_cases h0:Qh w1<0
   ·simp only[sxA,sxB,Nat.reduceBEq,Nat.reduceEqDiff,reduceCtorEq,mxA,mxB,Nat.reduceAdd,reduceIte,Nat.reduceLeDiff,splice,decide_eq_true h0,Q7]
    refine .mk hn ?_
    rw[if_neg (by omega)]
    exact⟨rfl,hR4.ext⟩
   ·simp only[sxA,sxB,Nat.reduceBEq,Nat.reduceEqDiff,reduceCtorEq,mxA,mxB,Nat.reduceAdd,reduceIte,Nat.reduceLeDiff,splice,decide_eq_false h0,QI,hg4]
    by_cases h1:140737488355328<Qh w1
    ·simp only[sxA,sxB,Nat.reduceBEq,Nat.reduceEqDiff,reduceCtorEq,mxA,mxB,Nat.reduceAdd,reduceIte,Nat.reduceLeDiff,splice,decide_eq_true h1,Q7]
     refine .mk hn ?_
     rw[if_neg (by omega)]
     exact⟨rfl,hR4.ext⟩
    ·simp only[sxA,sxB,Nat.reduceBEq,Nat.reduceEqDiff,reduceCtorEq,mxA,mxB,Nat.reduceAdd,reduceIte,Nat.reduceLeDiff,splice,decide_eq_false h1,Q7]
     refine .mk hn ?_
     rw[if_pos ⟨by omega,by omega⟩]
     exact⟨rfl,vb,vs,vm,hR4⟩
 ·have e2:(((Qc s).length:Int)==2)=false:=beq_eq_false_iff_ne.2 (by omega)
  simp only[sxA,sxB,Nat.reduceBEq,Nat.reduceEqDiff,reduceCtorEq,mxA,mxB,Nat.reduceAdd,reduceIte,Nat.reduceLeDiff,splice,e2,Q7]
  refine .mk hx1.next ?_
  split
  ·rename_i hws;rw[hws]at h2;exact absurd rfl h2
  ·exact⟨rfl,hR1.ext⟩
def YM:List UInt8→List UInt8
 | a::b::l=>(16 * Zt a.toNat+Zt b.toNat).toUInt8::YM l
 | _=>[]
def QaI (l:List Mk):Int:=match l.getLast? with | some m=>m.line | none=>1
def Kt (x:Im) (s:List UInt8):Option (Stg×Im):=match Qc s with
 | [_,w1,w2,w3]=>
  if w3.length=0∨w3.length % 2≠0 then none
  else if x.marks.length=20000∨Qh w1<QaI x.marks∨1048576<Qh w1 then none
  else if Qh w2≠x.org+x.b.length∨1048576 - (x.b.length:Int)<((w3.length / 2:Nat):Int) then none
  else if(s==J5 (Qh w1) (Qh w2) (YM w3))=true then some (.mark,{x with b:=x.b++YM w3,marks:=x.marks++[⟨Qh w1,Qh w2,((w3.length / 2:Nat):Int)⟩]}) else none
 | _=>none
structure Qfh (x:Im):Prop where
 org:0≤x.org∧x.org≤140737488355328
 b:x.b.length≤1048576
 syms:x.syms.length≤20000
 marks:x.marks.length≤20000
 line:∀m∈x.marks,1≤m.line∧m.line≤1048576
theorem QaJ:∀l:List UInt8,(YM l).length=l.length / 2
 | []=>rfl
 | [_]=>by simp[YM]
 | a::b::l=>by rw[YM,List.length_cons,QaJ l];simp only[List.length_cons];omega
theorem QdN (c:Nat):Zt c≤15:=by
 unfold Zt
 have:=Qnv c
 cases h:Nat.beq (Xh c) 16 with
 | true=>simp
 | false=>
  have:Xh c≠16:=fun h2=>by rw[h2]at h;cases h
  simp;omega
theorem QcO (l:List Mk):(WS l).length=l.length * 3:=by
 unfold WS
 induction l with
 | nil=>rfl
 | cons m l ih=>rw[List.flatMap_cons,List.length_append,ih];simp[Mk.cells];omega
theorem Ql5 {l:List Mk} {i:Nat} {m:Mk} (h:l[i]? = some m):(WS l)[i * 3+0]? = some (.int .i64 m.line):=by
 induction l generalizing i with
 | nil=>simp at h
 | cons a l ih=>
  have e:WS (a::l)=a.cells++WS l:=rfl
  cases i with
  | zero=>simp at h;subst h;rfl
  | succ i=>
   rw[e,List.getElem?_append_right (by simp[Mk.cells];omega),show(i+1) * 3+0 - a.cells.length=i * 3+0 by simp[Mk.cells];omega]
   exact ih (by simpa using h)
theorem orZ (a b:Nat) (ha:a≤15) (hb:b≤15):IntKind.u8.wrap (IntKind.i64.wrap ((BitVec.ofInt IntKind.i64.bits (IntKind.i64.wrap ((a:Int) * 2 ^ (min (4:Int).toNat IntKind.i64.bits))) ||| BitVec.ofInt IntKind.i64.bits (b:Int)).toNat:Int))=(((16 * a+b).toUInt8.toNat:Nat):Int):=by
 have hk:((List.range 16).all fun a=>(List.range 16).all fun b=>decide (IntKind.u8.wrap (IntKind.i64.wrap ((BitVec.ofInt IntKind.i64.bits (IntKind.i64.wrap ((a:Int) * 2 ^ (min (4:Int).toNat IntKind.i64.bits))) ||| BitVec.ofInt IntKind.i64.bits (b:Int)).toNat:Int))=(((16 * a+b).toUInt8.toNat:Nat):Int)))=true:=by kernel_rfl
 exact of_decide_eq_true (List.all_eq_true.1 (List.all_eq_true.1 hk a (List.mem_range.2 (by omega))) b (List.mem_range.2 (by omega)))
theorem QhI:∀ (l:List UInt8) (i:Nat) (a b:UInt8),l[2 * i]? = some a→l[2 * i+1]? = some b→(YM l)[i]? = some ((16 * Zt a.toNat+Zt b.toNat).toUInt8)
 | [],i,a,b,h,_=>by simp at h
 | [_],i,a,b,_,h=>by simp at h
 | x::y::l,0,a,b,h1,h2=>by
  simp at h1 h2
  subst h1;subst h2;rfl
 | x::y::l,i+1,a,b,h1,h2=>by
  rw[YM,List.getElem?_cons_succ]
  exact QhI l i a b (by rw[show 2 * (i+1)=2 * i+1+1 by omega]at h1;simpa using h1) (by rw[show 2 * (i+1)+1=2 * i+1+1+1 by omega]at h2;simpa using h2)
theorem Gs.sl {size:Nat} {e:TypeId} {H0 H:Qa} {v:Value} {n:Nat} {cs:List Value} (h:Gs size e H0 H v n cs):∃a c,v=.slice a n c:=by
 rcases h with⟨h1,h2,h3⟩ | ⟨bm,h1,h2,h3,h4⟩
 ·exact⟨none,0,by rw[h1,h2]⟩
 ·exact⟨_,_,h1⟩
theorem Gr.low' {H0 H:Qa} {D:Nat} {x:Im} {vb vs vm:Value} (h:Gr H0 H D x vb vs vm):D<H.next∧(∀id,Qr vb id→id<H.next)∧(∀id,Qr vs id→id<H.next)∧(∀id,Qr vm id→id<H.next):=
 ⟨h.wf.lt h.get,fun _ hi=>(h.gb.low h.wf hi).2,fun _ hi=>(h.gs.low h.wf hi).2,fun _ hi=>(h.gm.low h.wf hi).2⟩
theorem Gr.setB {H0 H H1:Qa} {D:Nat} {x:Im} {vb vs vm vb':Value} {b':List UInt8} {n:Nat} {cs:List Value} (h:Gr H0 H D x vb vs vm) (hg:Gs 1 5 H0 H1 vb' n cs) (en:n=b'.length) (ec:cs=u8v b') (hx:Ext H0 H1) (hw:H1.Wf) (hk:∀id,id<H.next→¬Qr vb id→H1.get id=H.get id) (hn:∀id,Qr vb' id→id=H.next):H1.get D=some (.cells [.int .i64 x.org,vb,vs,vm] Qi false)∧Gr H0 (H1.set D (.cells [.int .i64 x.org,vb',vs,vm] Qi false)) D {x with b:=b'} vb' vs vm:=by
 subst en;subst ec
 obtain⟨l1,l2,l3,l4⟩:=h.low'
 have hD:H1.get D=some (.cells [.int .i64 x.org,vb,vs,vm] Qi false):=by rw[hk D l1 h.ab];exact h.get
 have k:∀ {size ee v n cs},Gs size ee H0 H1 v n cs→¬Qr v D→Gs size ee H0 (H1.set D (.cells [.int .i64 x.org,vb',vs,vm] Qi false)) v n cs:=fun hgg hd=>hgg.ext fun id hid=>by
  rw[Qa.get_set,if_neg (fun h=>hd (by rw[← h];exact hid))]
 have nb:∀id,Qr vb' id→¬Qr vs id∧¬Qr vm id∧id≠D:=fun id hi=>by
  have:=hn id hi
  exact⟨fun h=>by have:=l3 id h;omega,fun h=>by have:=l4 id h;omega,by omega⟩
 refine⟨hD,by rw[Qa.get_set,if_pos rfl],k hg fun hi=>(nb D hi).2.2 rfl,k (h.gs.ext fun id hi=>hk id (l3 id hi) fun hb=>h.bs id hb hi) h.as_,k (h.gm.ext fun id hi=>hk id (l4 id hi) fun hb=>h.bm id hb hi) h.am,h.low,fun hi=>(nb D hi).2.2 rfl,h.as_,h.am,fun id hi=>(nb id hi).1,fun id hi=>(nb id hi).2.1,h.sm,hw.set hD _,hx.set h.low _⟩
theorem Gr.setM {H0 H H1:Qa} {D:Nat} {x:Im} {vb vs vm vm':Value} {m':List Mk} {n:Nat} {cs:List Value} (h:Gr H0 H D x vb vs vm) (hg:Gs 3 Wt H0 H1 vm' n cs) (en:n=m'.length) (ec:cs=WS m') (hx:Ext H0 H1) (hw:H1.Wf) (hk:∀id,id<H.next→¬Qr vm id→H1.get id=H.get id) (hn:∀id,Qr vm' id→id=H.next):H1.get D=some (.cells [.int .i64 x.org,vb,vs,vm] Qi false)∧Gr H0 (H1.set D (.cells [.int .i64 x.org,vb,vs,vm'] Qi false)) D {x with marks:=m'} vb vs vm':=by
 subst en;subst ec
 obtain⟨l1,l2,l3,l4⟩:=h.low'
 have hD:H1.get D=some (.cells [.int .i64 x.org,vb,vs,vm] Qi false):=by rw[hk D l1 h.am];exact h.get
 have k:∀ {size ee v n cs},Gs size ee H0 H1 v n cs→¬Qr v D→Gs size ee H0 (H1.set D (.cells [.int .i64 x.org,vb,vs,vm'] Qi false)) v n cs:=fun hgg hd=>hgg.ext fun id hid=>by
  rw[Qa.get_set,if_neg (fun h=>hd (by rw[← h];exact hid))]
 have nb:∀id,Qr vm' id→¬Qr vb id∧¬Qr vs id∧id≠D:=fun id hi=>by
  have:=hn id hi
  exact⟨fun h=>by have:=l2 id h;omega,fun h=>by have:=l3 id h;omega,by omega⟩
 refine⟨hD,by rw[Qa.get_set,if_pos rfl],k (h.gb.ext fun id hi=>hk id (l2 id hi) fun hb=>h.bm id hi hb) h.ab,k (h.gs.ext fun id hi=>hk id (l3 id hi) fun hb=>h.sm id hi hb) h.as_,k hg fun hi=>(nb D hi).2.2 rfl,h.low,h.ab,h.as_,fun hi=>(nb D hi).2.2 rfl,h.bs,fun id hi hm=>(nb id hm).1 hi,fun id hi hm=>(nb id hm).2.1 hi,hw.set hD _,hx.set h.low _⟩
theorem Gr.setS {H0 H H1:Qa} {D:Nat} {x:Im} {vb vs vm vs':Value} {s':List Sy} {n:Nat} {cs:List Value} (h:Gr H0 H D x vb vs vm) (hg:Gs 3 QM H0 H1 vs' n cs) (en:n=s'.length) (ec:cs=YV s') (hx:Ext H0 H1) (hw:H1.Wf) (hk:∀id,id<H.next→¬Qr vs id→H1.get id=H.get id) (hn:∀id,Qr vs' id→id=H.next):H1.get D=some (.cells [.int .i64 x.org,vb,vs,vm] Qi false)∧Gr H0 (H1.set D (.cells [.int .i64 x.org,vb,vs',vm] Qi false)) D {x with syms:=s'} vb vs' vm:=by
 subst en;subst ec
 obtain⟨l1,l2,l3,l4⟩:=h.low'
 have hD:H1.get D=some (.cells [.int .i64 x.org,vb,vs,vm] Qi false):=by rw[hk D l1 h.as_];exact h.get
 have k:∀ {size ee v n cs},Gs size ee H0 H1 v n cs→¬Qr v D→Gs size ee H0 (H1.set D (.cells [.int .i64 x.org,vb,vs',vm] Qi false)) v n cs:=fun hgg hd=>hgg.ext fun id hid=>by
  rw[Qa.get_set,if_neg (fun h=>hd (by rw[← h];exact hid))]
 have nb:∀id,Qr vs' id→¬Qr vb id∧¬Qr vm id∧id≠D:=fun id hi=>by
  have:=hn id hi
  exact⟨fun h=>by have:=l2 id h;omega,fun h=>by have:=l4 id h;omega,by omega⟩
 refine⟨hD,by rw[Qa.get_set,if_pos rfl],k (h.gb.ext fun id hi=>hk id (l2 id hi) fun hb=>h.bs id hi hb) h.ab,k hg fun hi=>(nb D hi).2.2 rfl,k (h.gm.ext fun id hi=>hk id (l4 id hi) fun hb=>h.sm id hb hi) h.am,h.low,h.ab,fun hi=>(nb D hi).2.2 rfl,h.am,fun id hi hs=>(nb id hs).1 hi,h.bm,fun id hi=>(nb id hi).2.1,hw.set hD _,hx.set h.low _⟩
theorem Qnw (a b:List UInt8):u8v a++u8v b=u8v (a++b):=by simp[u8v]
theorem QkA (a:List Mk) (m:Mk):WS a++m.cells=WS (a++[m]):=by simp[WS]
theorem QhJ (a:List Sy) (m:Sy):YV a++m.cells=YV (a++[m]):=by simp[YV]
theorem Ql6 {T:Qa→Prop} (hT:Tz T) {H0 H:Qa} {D:Nat} {x:Im} {vb vs vm:Value} (hw0:H0.Wf) (hT0:T H0) (hF:Qfh x) (hR:Gr H0 H D x vb vs vm) (s:List UInt8) (hl:s.length≤1000000):Qf prog Wa [.pointer (some ⟨D,0,none⟩),.string (mkS s)] H (StP H0 D (Kt x s)):=by
 refine VK fun hw=>?_
 simp only[ZV,sxA,sxB,Nat.reduceBEq,Nat.reduceEqDiff,reduceCtorEq,mxA,mxB,Nat.reduceAdd,reduceIte,Nat.reduceLeDiff,splice]
 refine(QgK s hl H).thenW ?_
 rintro u H1 _ hw1 ⟨⟨b,cap,e,rfl,hb,hg⟩,hx1⟩
 have hR1:=hR.more hx1 hw1
 have hwle:=Vw s
 unfold Kt
 simp only[sxA,sxB,Nat.reduceBEq,Nat.reduceEqDiff,reduceCtorEq,mxA,mxB,Nat.reduceAdd,reduceIte,Nat.reduceLeDiff,splice,Qb]
 by_cases h4:(Qc s).length=4
 ·obtain⟨w0,w1,w2,w3,hws⟩:∃w0 w1 w2 w3,Qc s=[w0,w1,w2,w3]:=by
   match hm:Qc s with
   | [a,c,d,f]=>exact⟨a,c,d,f,rfl⟩
   | [] | [_] | [_,_] | [_,_,_] | _::_::_::_::_::_=>rw[hm]at h4;simp at h4
  rw[hws]at hg hwle ⊢
  have hw1l:=hwle w1 (by simp)
  have hw2l:=hwle w2 (by simp)
  have hw3l:=hwle w3 (by simp)
  have e2:(((4:Nat):Int)==4)=true:=rfl
  have c1:(0:Int)≤1∧(1:Int)<((4:Nat):Int):=by decide
  have c2:(0:Int)≤2∧(2:Int)<((4:Nat):Int):=by decide
  have c3:(0:Int)≤3∧(3:Int)<((4:Nat):Int):=by decide
  have u1:(1:Int).toNat=1:=rfl
  have u2:(2:Int).toNat=2:=rfl
  have u3:(3:Int).toNat=3:=rfl
  have hg:H1.get b=some (.cells [.string (mkS w0),.string (mkS w1),.string (mkS w2),.string (mkS w3)] e false):=hg
  have z0:((w3.length:Int)==0)=decide (w3.length=0):=by rw[Bool.eq_iff_iff,beq_iff_eq,decide_eq_true_eq];omega
  have zr:(w3.length:Int).tmod 2=((w3.length % 2:Nat):Int):=rfl
  have zm:(((w3.length % 2:Nat):Int)==0)=decide (w3.length % 2=0):=by rw[Bool.eq_iff_iff,beq_iff_eq,decide_eq_true_eq];omega
  have z2:¬ ((2:Int)=0):=by decide
  simp only[sxA,sxB,Nat.reduceBEq,Nat.reduceEqDiff,reduceCtorEq,mxA,mxB,Nat.reduceAdd,reduceIte,Nat.reduceLeDiff,splice,e2,c3,u3,hg,Qe,Qg,z0]
  by_cases hz:w3.length=0
  ·simp only[sxA,sxB,Nat.reduceBEq,Nat.reduceEqDiff,reduceCtorEq,mxA,mxB,Nat.reduceAdd,reduceIte,Nat.reduceLeDiff,splice,hz,decide_true,Qj]
   refine .mk hx1.next ?_
   rw[if_pos (by simp)]
   exact⟨rfl,hR1.ext⟩
  ·simp only[sxA,sxB,Nat.reduceBEq,Nat.reduceEqDiff,reduceCtorEq,mxA,mxB,Nat.reduceAdd,reduceIte,Nat.reduceLeDiff,splice,hz,decide_false,c3,u3,hg,Qe,Qg,z2,zr,zm]
   by_cases ho:w3.length % 2=0
   ·have hMl:=hF.marks
    obtain⟨fo1,fo2⟩:=hF.org
    have hBl:=hF.b
    have hgR:=hR1.get
    have hni1:=QaH w1
    have hni2:=QaH w2
    obtain⟨am,capm,hvm,hmm⟩:∃am capm,vm=.slice am x.marks.length capm∧(0<x.marks.length→∃bm,am=some ⟨bm,0,none⟩∧H1.get bm=some (.cells (WS x.marks) Wt false)):=by
     rcases hR1.gm with⟨h1,h2,h3⟩ | ⟨bm,h1,h2,h3,h4⟩
     ·exact⟨none,0,by rw[h1,h2],fun h=>by omega⟩
     ·exact⟨_,_,h1,fun _=>⟨bm,rfl,h3⟩⟩
    obtain⟨ab,capb,hvb⟩:∃ab capb,vb=.slice ab x.b.length capb:=by
     rcases hR1.gb with⟨h1,h2,h3⟩ | ⟨bm,h1,h2,h3,h4⟩
     ·exact⟨none,0,by rw[h1,h2]⟩
     ·exact⟨_,_,h1⟩
    have hlast:∃ln:Nat,QaI x.marks=(ln:Int)∧1≤ln∧ln≤1048576∧(x.marks.length=0→ln=1)∧(0<x.marks.length→(WS x.marks)[(x.marks.length - 1) * 3+0]? = some (.int .i64 (ln:Int))):=by
     unfold QaI
     cases hm:x.marks.getLast? with
     | none=>
      have:x.marks=[]:=List.getLast?_eq_none_iff.1 hm
      exact⟨1,rfl,by decide,by decide,fun _=>rfl,fun h=>by rw[this]at h;simp at h⟩
     | some m=>
      have hmem:=List.mem_of_getLast? hm
      obtain⟨l1,l2⟩:=hF.line m hmem
      refine⟨m.line.toNat,by simp;omega,by omega,by omega,fun h=>by rw[List.length_eq_zero_iff.1 h]at hmem;simp at hmem,fun h=>?_⟩
      rw[List.getLast?_eq_getElem?]at hm
      rw[Ql5 hm,Int.toNat_of_nonneg (by omega)]
    obtain⟨ln,hln,hln1,hln2,hln0,hlnm⟩:=hlast
    have hmark7:∀A:Env,A 0=.pointer (some ⟨D,0,none⟩)→A 1=.string (mkS s)→A 5=.slice (some ⟨b,0,none⟩) 4 cap→A 6=.int .i64 x.marks.length→A 7=.int .i64 (ln:Int)→Qw prog Xm ⟨Rt prog Jx H (StP H0 D (if x.marks.length=20000∨Qh w1<QaI x.marks∨1048576<Qh w1 then none
  else if Qh w2≠x.org+x.b.length∨1048576 - (x.b.length:Int)<((w3.length / 2:Nat):Int) then none
  else if(s==J5 (Qh w1) (Qh w2) (YM w3))=true then some (.mark,{x with b:=x.b++YM w3,marks:=x.marks++[⟨Qh w1,Qh w2,((w3.length / 2:Nat):Int)⟩]}) else none)),Qa0⟩ (Rt prog Jx H (StP H0 D (if x.marks.length=20000∨Qh w1<QaI x.marks∨1048576<Qh w1 then none
  else if Qh w2≠x.org+x.b.length∨1048576 - (x.b.length:Int)<((w3.length / 2:Nat):Int) then none
  else if(s==J5 (Qh w1) (Qh w2) (YM w3))=true then some (.mark,{x with b:=x.b++YM w3,marks:=x.marks++[⟨Qh w1,Qh w2,((w3.length / 2:Nat):Int)⟩]}) else none))) A H1:=by
     intro A q0 q1 q5 q6 q7
     rw[hln]
     generalize hsp:(if x.marks.length=20000∨Qh w1<(ln:Int)∨1048576<Qh w1 then none else _:Option (Stg×Im))=sp
     have hbn:=hw1.lt hg
     have hgv:=hg
     have bel:∀ (n:Nat) (z:List UInt8),QH n 6 (.string (mkS z))=true:=fun _ _=>rfl
     simp only[Xm,sxA,sxB,Nat.reduceBEq,Nat.reduceEqDiff,reduceCtorEq,mxA,mxB,Nat.reduceAdd,reduceIte,Nat.reduceLeDiff,splice,q0,q1,q5,q6,q7,c1,c2,c3,u1,u2,u3,hg]
     refine⟨⟨hbn,hbn⟩,?_⟩
     refine(Qcb w1 (by omega) H1).thenW ?_
     rintro _ H2 hn2 hw2 ⟨rfl,hx2⟩
     have hg2:H2.get b=some (.cells [.string (mkS w0),.string (mkS w1),.string (mkS w2),.string (mkS w3)] e false):=by rw[hx2.get _ hbn];exact hg
     simp only[sxA,sxB,Nat.reduceBEq,Nat.reduceEqDiff,reduceCtorEq,mxA,mxB,Nat.reduceAdd,reduceIte,Nat.reduceLeDiff,splice,q0,q1,q5,q6,q7,c1,c2,c3,u1,u2,u3,hg2,bel]
     refine⟨hx2.get,by omega,?_⟩
     refine(Qcb w2 (by omega) H2).thenW ?_
     rintro _ H3 hn3 hw3 ⟨rfl,hx3⟩
     have hg3:H3.get b=some (.cells [.string (mkS w0),.string (mkS w1),.string (mkS w2),.string (mkS w3)] e false):=by rw[hx3.get _ (by omega)];exact hg2
     have hx13:=hx2.trans hx3
     have hR3:=hR1.more hx13 hw3
     have q2:IntKind.i64.wrap ((w3.length:Int).tdiv 2)=((w3.length / 2:Nat):Int):=by
      rw[show(w3.length:Int).tdiv 2=((w3.length / 2:Nat):Int) from rfl,w64 (by unfold I64;omega)]
     have z2:¬ ((2:Int)=0):=by decide
     simp only[sxA,sxB,Nat.reduceBEq,Nat.reduceEqDiff,reduceCtorEq,mxA,mxB,Nat.reduceAdd,reduceIte,Nat.reduceLeDiff,splice,q0,q1,q5,q6,q7,c1,c2,c3,u1,u2,u3,hg3,bel,Qe,Qg,z2,q2]
     refine⟨hx3.get,?_⟩
     generalize hS:Qa.set (Qa.push H3 _) H3.next _=H4
     obtain⟨e4,hE4⟩:∃e4,H4=(H3.push (.cells [.int .i64 0,.int .i64 0,.int .i64 0] e4 false)).set H3.next (.cells [.int .i64 (Qh w1),.int .i64 (Qh w2),.int .i64 ((w3.length / 2:Nat):Int)] e4 false):=⟨_,hS.symm⟩
     clear hS
     have hx4:Ext H3 H4:=by rw[hE4];exact((Ext.refl H3).push _).set (Nat.le_refl _) _
     have hw4:H4.Wf:=by rw[hE4];exact(hw3.push _).set (by rw[Qa.get_push,if_pos rfl]) _
     have hg4:H4.get H3.next=some (.cells [.int .i64 (Qh w1),.int .i64 (Qh w2),.int .i64 ((w3.length / 2:Nat):Int)] e4 false):=by rw[hE4,Qa.get_set,if_pos rfl]
     clear hE4
     have hR4:=hR3.more hx4 hw4
     have hgR4:=hR4.get
     have hn4:=hx4.next
     have hn1:=hx1.next
     have hMl2:((x.marks.length:Int)==20000)=decide (x.marks.length=20000):=by rw[Bool.eq_iff_iff,beq_iff_eq,decide_eq_true_eq];omega
     have fail:∀ {P:Prop} [Decidable P] {z:Option (Stg×Im)},P→StP H0 D (if P then none else z) .nilFunc H4:=fun hP=>by
      rw[if_pos hP];exact⟨rfl,hR4.ext⟩
     simp only[sxA,sxB,Nat.reduceBEq,Nat.reduceEqDiff,reduceCtorEq,mxA,mxB,Nat.reduceAdd,reduceIte,Nat.reduceLeDiff,splice,q6,hMl2]
     by_cases k1:x.marks.length=20000
     ·simp only[sxA,sxB,Nat.reduceBEq,Nat.reduceEqDiff,reduceCtorEq,mxA,mxB,Nat.reduceAdd,reduceIte,Nat.reduceLeDiff,splice,k1,decide_true,Qj]
      refine .mk (by omega) ?_
      rw[← hsp,if_pos (.inl k1)]
      exact⟨rfl,hR4.ext⟩
     ·simp only[sxA,sxB,Nat.reduceBEq,Nat.reduceEqDiff,reduceCtorEq,mxA,mxB,Nat.reduceAdd,reduceIte,Nat.reduceLeDiff,splice,k1,decide_false,q6,q7,hg4]
      by_cases k2:Qh w1<(ln:Int)
      ·simp only[sxA,sxB,Nat.reduceBEq,Nat.reduceEqDiff,reduceCtorEq,mxA,mxB,Nat.reduceAdd,reduceIte,Nat.reduceLeDiff,splice,decide_eq_true k2,Qj]
       refine .mk (by omega) ?_
       rw[← hsp,if_pos (.inr (.inl k2))]
       exact⟨rfl,hR4.ext⟩
      ·simp only[sxA,sxB,Nat.reduceBEq,Nat.reduceEqDiff,reduceCtorEq,mxA,mxB,Nat.reduceAdd,reduceIte,Nat.reduceLeDiff,splice,decide_eq_false k2,hg4]
       by_cases k3:1048576<Qh w1
       ·simp only[sxA,sxB,Nat.reduceBEq,Nat.reduceEqDiff,reduceCtorEq,mxA,mxB,Nat.reduceAdd,reduceIte,Nat.reduceLeDiff,splice,decide_eq_true k3,Qj]
        refine .mk (by omega) ?_
        rw[← hsp,if_pos (.inr (.inr k3))]
        exact⟨rfl,hR4.ext⟩
       ·have hnA:¬ (x.marks.length=20000∨Qh w1<(ln:Int)∨1048576<Qh w1):=by omega
        simp only[sxA,sxB,Nat.reduceBEq,Nat.reduceEqDiff,reduceCtorEq,mxA,mxB,Nat.reduceAdd,reduceIte,Nat.reduceLeDiff,splice,decide_eq_false k3,Y7,QI,q0,hg4,hgR4,hvb,Qb]
        have ea:IntKind.i64.wrap (x.org+(x.b.length:Int))=x.org+(x.b.length:Int):=w64 (by unfold I64;omega)
        have eb:IntKind.i64.wrap (1048576 - (x.b.length:Int))=1048576 - (x.b.length:Int):=w64 (by unfold I64;omega)
        rw[ea]
        by_cases k4:Qh w2=x.org+(x.b.length:Int)
        ·have f4:(Qh w2==x.org+(x.b.length:Int))=true:=beq_iff_eq.2 k4
         simp only[sxA,sxB,Nat.reduceBEq,Nat.reduceEqDiff,reduceCtorEq,mxA,mxB,Nat.reduceAdd,reduceIte,Nat.reduceLeDiff,splice,f4,QI,q0,hg4,hgR4,hvb,Qb,eb]
         by_cases k5:1048576 - (x.b.length:Int)<((w3.length / 2:Nat):Int)
         ·simp only[sxA,sxB,Nat.reduceBEq,Nat.reduceEqDiff,reduceCtorEq,mxA,mxB,Nat.reduceAdd,reduceIte,Nat.reduceLeDiff,splice,decide_eq_true k5,Qj]
          refine .mk (by omega) ?_
          rw[← hsp,if_neg hnA,if_pos (.inr k5)]
          exact⟨rfl,hR4.ext⟩
         ·have hnB:¬ (Qh w2≠x.org+x.b.length∨1048576 - (x.b.length:Int)<((w3.length / 2:Nat):Int)):=by
           rintro(h | h)
           ·exact h k4
           ·exact k5 h
          rw[if_neg hnA,if_neg hnB]at hsp
          simp only[sxA,sxB,Nat.reduceBEq,Nat.reduceEqDiff,reduceCtorEq,mxA,mxB,Nat.reduceAdd,reduceIte,Nat.reduceLeDiff,splice,decide_eq_false k5,Y6,hg4]
          refine⟨by omega,?_⟩
          generalize hS:Qa.push H4 _=H5
          obtain⟨z,hz5,hE5⟩:∃z,z.length=w3.length / 2∧H5=H4.push (.cells z 5 false):=⟨_,by simp only[Xn,List.length_map,List.length_range];exact Int.toNat_natCast _,hS.symm⟩
          clear hS
          have hx5:Ext H4 H5:=by rw[hE5];exact(Ext.refl H4).push _
          have hw5:H5.Wf:=by rw[hE5];exact hw4.push _
          have hg5:H5.get H4.next=some (.cells z 5 false):=by rw[hE5,Qa.get_push,if_pos rfl]
          have hn5:H5.next=H4.next+1:=by rw[hE5,Qa.next_push]
          clear hE5
          have hzl:=QaJ w3
          have hnn:((w3.length / 2:Nat):Int).toNat=w3.length / 2:=Int.toNat_natCast _
          rw[hnn]
          refine QC (fun q A' H'=>∃ (i:Nat) (c:List Value),q=w3.length / 2 - i∧i≤w3.length / 2∧H'.Wf∧Ext H4 H'∧H'.next=H5.next∧H'.get H4.next=some (.cells c 5 false)∧c.length=w3.length / 2∧c.take i=u8v ((YM w3).take i)∧A' 0=.pointer (some ⟨D,0,none⟩)∧A' 1=.string (mkS s)∧A' 5=.slice (some ⟨b,0,none⟩) 4 cap∧A' 8=.pointer (some ⟨H3.next,0,none⟩)∧A' 9=.slice (some ⟨H4.next,0,none⟩) (w3.length / 2) (w3.length / 2)∧A' 107=.int .i64 ((w3.length / 2:Nat):Int)∧A' 108=.int .i64 i) (w3.length / 2) ?_ ?_
          ·refine⟨0,z,rfl,Nat.zero_le _,hw5,hx5,rfl,hg5,hz5,by simp[u8v],?_,?_,?_,?_,?_,?_,?_⟩
           all_goals simp only[uxA,uxB,Nat.reduceBEq,q0,q1,q5,Qb]
           all_goals rfl
          ·rintro q A' H6 ⟨i,c,rfl,hin,hw6,hx6,hn6,hg6,hc6,hct,r0,r1,r5,r8,r9,r107,r108⟩
           by_cases hi:i<w3.length / 2
           ·have e7:decide ((i:Int)<((w3.length / 2:Nat):Int))=true:=decide_eq_true (by omega)
            have hx16:=(hx13.trans hx4).trans hx6
            have hg6w:H6.get b=some (.cells [.string (mkS w0),.string (mkS w1),.string (mkS w2),.string (mkS w3)] e false):=by rw[hx16.get _ hbn];exact hg
            have hn6b:b<H6.next:=by have:=hx16.next;omega
            have m1:IntKind.i64.wrap (2 * (i:Int))=((2 * i:Nat):Int):=by rw[w64 (by unfold I64;omega)];omega
            have m2:IntKind.i64.wrap (((2 * i:Nat):Int)+1)=((2 * i+1:Nat):Int):=by rw[w64 (by unfold I64;omega)];rfl
            have ei:IntKind.i64.wrap ((i:Int)+1)=((i+1:Nat):Int):=by rw[w64 (by unfold I64;omega)];rfl
            have p1:=List.getElem?_eq_getElem (show 2 * i<w3.length by omega)
            have p2:=List.getElem?_eq_getElem (show 2 * i+1<w3.length by omega)
            have t1:(0:Int)≤((2 * i:Nat):Int):=Int.natCast_nonneg _
            have t2:(0:Int)≤((2 * i+1:Nat):Int):=Int.natCast_nonneg _
            have v1:((2 * i:Nat):Int).toNat=2 * i:=Int.toNat_natCast _
            have v2:((2 * i+1:Nat):Int).toNat=2 * i+1:=Int.toNat_natCast _
            have hz:=QhI w3 i _ _ p1 p2
            generalize w3[2 * i]=ca at *
            generalize w3[2 * i+1]=cb at *
            have t4:(0:Int)≤4:=by decide
            have hor:=orZ (Zt ca.toNat) (Zt cb.toNat) (QdN _) (QdN _)
            have c6:(0:Int)≤(i:Int)∧(i:Int)<((w3.length / 2:Nat):Int):=by omega
            have u6:(i:Int).toNat=i:=Int.toNat_natCast _
            have l6:i+1≤c.length:=by omega
            simp only[Xl,Y5,sxA,sxB,Nat.reduceBEq,Nat.reduceEqDiff,reduceCtorEq,mxA,mxB,Nat.reduceAdd,reduceIte,Nat.reduceLeDiff,splice,r0,r1,r5,r8,r9,r107,r108,e7,c3,u3,hg6w,m1,Qk,Qg,t1,v1,p1]
            refine⟨hn6b,?_⟩
            refine(V1 ca.toNat ca.toNat_lt H6).thenW ?_
            rintro _ H7 _ hw7 ⟨rfl,rfl⟩
            simp only[sxA,sxB,Nat.reduceBEq,Nat.reduceEqDiff,reduceCtorEq,mxA,mxB,Nat.reduceAdd,reduceIte,Nat.reduceLeDiff,splice,r5,r9,r108,c3,u3,hg6w,bel,m1,m2,t4,Qk,Qg,t2,v2,p2]
            refine⟨fun _ _=>rfl,?_⟩
            refine(V1 cb.toNat cb.toNat_lt H7).thenW ?_
            rintro _ H8 _ hw8 ⟨rfl,rfl⟩
            simp only[sxA,sxB,Nat.reduceBEq,Nat.reduceEqDiff,reduceCtorEq,mxA,mxB,Nat.reduceAdd,reduceIte,Nat.reduceLeDiff,r9,r108,hor,c6,decide_true,u6,hg6,l6,ei]
            refine⟨w3.length / 2 - (i+1),by omega,i+1,splice c i [.int .u8 ((((16 * Zt ca.toNat+Zt cb.toNat).toUInt8).toNat:Nat):Int)],rfl,by omega,hw8.set hg6 _,hx6.set (Nat.le_refl _) _,by rw[Qa.next_set];exact hn6,by rw[Qa.get_set,if_pos rfl],by rw[Wz (by simp;omega)];exact hc6,?_,?_,?_,?_,?_,?_,?_,?_⟩
            ·have hsp:(splice c i [.int .u8 ((((16 * Zt ca.toNat+Zt cb.toNat).toUInt8).toNat:Nat):Int)]).take (i+1)=c.take i++[.int .u8 ((((16 * Zt ca.toNat+Zt cb.toNat).toUInt8).toNat:Nat):Int)]:=by
              unfold splice
              rw[List.take_append,List.length_take,Nat.min_eq_left (by omega),show i+1 - i=1 by omega,List.take_take,Nat.min_eq_right (by omega)];rfl
             rw[hsp,hct,List.take_add_one,hz]
             simp[u8v]
            all_goals simp only[uxA,uxB,Nat.reduceBEq,r0,r1,r5,r8,r9,r107]
           ·have e7:decide ((i:Int)<((w3.length / 2:Nat):Int))=false:=decide_eq_false (by omega)
            have hin2:i=w3.length / 2:=by omega
            subst hin2
            rw[List.take_of_length_le (by omega),List.take_of_length_le (by omega)]at hct
            subst hct
            have hT6:T H6:=hT.q.ext _ _ hw0 hT0 (hR4.ext.trans hx6)
            have hg6m:H6.get H3.next=some (.cells [.int .i64 (Qh w1),.int .i64 (Qh w2),.int .i64 ((w3.length / 2:Nat):Int)] e4 false):=by rw[hx6.get _ (hw4.lt hg4)];exact hg4
            have hR6:=hR4.more hx6 hw6
            have hN1:Qh w1=((Qh w1).toNat:Int):=by omega
            simp only[Xl,Y4,sxA,sxB,Nat.reduceBEq,Nat.reduceEqDiff,reduceCtorEq,mxA,mxB,Nat.reduceAdd,reduceIte,Nat.reduceLeDiff,splice,r1,r8,r9,r107,r108,e7,hg6m]
            have hml:=QeG hT ⟨Qh w1,Qh w2,((w3.length / 2:Nat):Int)⟩ (Qh w1).toNat hN1 (by omega) hni2 (YM w3) (.slice (some ⟨H4.next,0,none⟩) (w3.length / 2) (w3.length / 2)) (by omega) H6 hT6 (YD.slO ⟨_,_,by rw[hzl],fun _=>⟨H4.next,5,false,rfl,hg6⟩⟩)
            refine hml.thenW ?_
            rintro _ H7 _ hw7 ⟨rfl,hx7⟩
            have hR7:=hR6.more hx7 hw7
            simp only[sxA,sxB,Nat.reduceBEq,Nat.reduceEqDiff,reduceCtorEq,mxA,mxB,Nat.reduceAdd,reduceIte,Nat.reduceLeDiff,splice,syA]
            cases hs:s==J5 (Qh w1) (Qh w2) (YM w3) with
            | false=>
             rw[hs]at hsp
             simp only[sxA,sxB,Nat.reduceBEq,Nat.reduceEqDiff,reduceCtorEq,mxA,mxB,Nat.reduceAdd,reduceIte,Nat.reduceLeDiff,splice,Qj]
             refine .mk (by have:=hx6.next;have:=hx7.next;omega) ?_
             rw[← hsp]
             exact⟨rfl,hR7.ext⟩
            | true=>
             rw[hs]at hsp
             have hg6a:H7.get H4.next=some (.cells (u8v (YM w3)) 5 false):=by rw[hx7.get _ (hw6.lt hg6)];exact hg6
             have hg7m:H7.get H3.next=some (.cells [.int .i64 (Qh w1),.int .i64 (Qh w2),.int .i64 ((w3.length / 2:Nat):Int)] e4 false):=by rw[hx7.get _ (hw6.lt hg6m)];exact hg6m
             have hgR7:=hR7.get
             simp only[sxA,sxB,Nat.reduceBEq,Nat.reduceEqDiff,reduceCtorEq,mxA,mxB,Nat.reduceAdd,reduceIte,Nat.reduceLeDiff,splice,Y3,QI,hgR7,r0,r8,r9]
             have hBn:x.b.length+w3.length / 2≤1048576:=by omega
             refine QcK hR7.gb hR7.ext hw7 (Vu hg6a (by omega) (by simp[u8v];omega)) (by simp[u8v,Value.oneCell']) (by omega) (by simp[u8v];omega) (by omega) (by omega) fun vb' H8 hgs8 hx8 hw8 hk8 hn8 hi8=>?_
             obtain⟨hgD8,hR8⟩:=hR7.setB hgs8 (b':=x.b++YM w3) (by rw[List.length_append,hzl]) (Qnw _ _) hx8 hw8 hk8 hi8
             obtain⟨ab8,cb8,rfl⟩:=hgs8.sl
             have hl3:=hR3.low'
             have hg8m:H8.get H3.next=some (.cells [.int .i64 (Qh w1),.int .i64 (Qh w2),.int .i64 ((w3.length / 2:Nat):Int)] e4 false):=by
              rw[hk8 _ (hw7.lt hg7m) fun h=>by have:=hl3.2.1 _ h;omega];exact hg7m
             simp only[sxA,sxB,Nat.reduceBEq,Nat.reduceEqDiff,reduceCtorEq,mxA,mxB,Nat.reduceAdd,reduceIte,Nat.reduceLeDiff,splice,hgD8]
             have hgD9:=hR8.get
             have hD3:¬H3.next=D:=by omega
             have hg9m:(H8.set D (.cells [.int .i64 x.org,.slice ab8 (x.b.length+w3.length / 2) cb8,vs,vm] Qi false)).get H3.next=some (.cells [.int .i64 (Qh w1),.int .i64 (Qh w2),.int .i64 ((w3.length / 2:Nat):Int)] e4 false):=by
              rw[Qa.get_set,if_neg hD3];exact hg8m
             have hn9:(H8.set D (.cells [.int .i64 x.org,.slice ab8 (x.b.length+w3.length / 2) cb8,vs,vm] Qi false)).next=H8.next:=Qa.next_set ..
             generalize Qa.set H8 D _=H9 at *
             simp only[sxA,sxB,Nat.reduceBEq,Nat.reduceEqDiff,reduceCtorEq,mxA,mxB,Nat.reduceAdd,reduceIte,Nat.reduceLeDiff,splice,QI,hgD9,r0,r8,hg9m]
             generalize hP:Qa.push H9 _=H10
             have hx10:Ext H9 H10:=by rw[← hP];exact(Ext.refl H9).push _
             have hw10:H10.Wf:=by rw[← hP];exact hR8.wf.push _
             have hg10:H10.get H9.next=some (.cells [.int .i64 (Qh w1),.int .i64 (Qh w2),.int .i64 ((w3.length / 2:Nat):Int)] Wt false):=by rw[← hP,Qa.get_push,if_pos rfl]
             clear hP
             have hR10:=hR8.more hx10 hw10
             refine QcK hR10.gm hR10.ext hw10 (Vu hg10 (by decide) rfl) rfl (Nat.le_refl _) rfl (by have:({x with b:=x.b++YM w3}:Im).marks=x.marks:=rfl;rw[this];omega) (by have:({x with b:=x.b++YM w3}:Im).marks=x.marks:=rfl;rw[this];omega) fun vm' H11 hgs11 hx11 hw11 hk11 hn11 hi11=>?_
             obtain⟨hgD11,hR11⟩:=hR10.setM hgs11 (m':=x.marks++[Mk.mk (Qh w1) (Qh w2) ((w3.length / 2:Nat):Int)]) (by rw[List.length_append];rfl) (QkA x.marks (Mk.mk (Qh w1) (Qh w2) ((w3.length / 2:Nat):Int))) hx11 hw11 hk11 hi11
             obtain⟨ab11,cb11,rfl⟩:=hgs11.sl
             simp only[sxA,sxB,Nat.reduceBEq,Nat.reduceEqDiff,reduceCtorEq,mxA,mxB,Nat.reduceAdd,reduceIte,Nat.reduceLeDiff,splice,hgD11,Qj]
             refine .mk (by have:=hx6.next;have:=hx7.next;have:=hx10.next;rw[Qa.next_set];omega) ?_
             rw[← hsp]
             exact⟨rfl,_,_,_,hR11⟩
        ·have f4:(Qh w2==x.org+(x.b.length:Int))=false:=beq_eq_false_iff_ne.2 k4
         simp only[sxA,sxB,Nat.reduceBEq,Nat.reduceEqDiff,reduceCtorEq,mxA,mxB,Nat.reduceAdd,reduceIte,Nat.reduceLeDiff,splice,f4,Qj]
         refine .mk (by omega) ?_
         rw[← hsp,if_neg hnA,if_pos (.inl k4)]
         exact⟨rfl,hR4.ext⟩
    have hI:¬ (w3.length=0∨w3.length % 2≠0):=by omega
    simp only[sxA,sxB,Nat.reduceBEq,Nat.reduceEqDiff,reduceCtorEq,mxA,mxB,Nat.reduceAdd,reduceIte,Nat.reduceLeDiff,splice,ho,decide_true,Y8,QI,hgR,hvm,Qb]
    rw[if_neg (by simp)]
    by_cases hM0:x.marks.length=0
    ·have e3:decide ((0:Int)<(x.marks.length:Int))=false:=decide_eq_false (by omega)
     simp only[sxA,sxB,Nat.reduceBEq,Nat.reduceEqDiff,reduceCtorEq,mxA,mxB,Nat.reduceAdd,reduceIte,Nat.reduceLeDiff,splice,e3]
     refine hmark7 _ ?_ ?_ ?_ ?_ ?_
     all_goals simp only[uxA,uxB,Nat.reduceBEq]
     rw[hln0 hM0];rfl
    ·have e3:decide ((0:Int)<(x.marks.length:Int))=true:=decide_eq_true (by omega)
     obtain⟨bm,rfl,hgm⟩:=hmm (by omega)
     have ei:IntKind.i64.wrap ((x.marks.length:Int) - 1)=((x.marks.length - 1:Nat):Int):=by rw[w64 (by unfold I64;omega)];omega
     have c5:(0:Int)≤((x.marks.length - 1:Nat):Int)∧((x.marks.length - 1:Nat):Int)<(x.marks.length:Int):=by omega
     have u5:((x.marks.length - 1:Nat):Int).toNat=x.marks.length - 1:=Int.toNat_natCast _
     have hlm:=hlnm (by omega)
     rw[Nat.add_zero]at hlm
     simp only[sxA,sxB,Nat.reduceBEq,Nat.reduceEqDiff,reduceCtorEq,mxA,mxB,Nat.reduceAdd,reduceIte,Nat.reduceLeDiff,splice,e3,QI,hgR,hvm,ei,c5,u5,hgm,hlm]
     refine hmark7 _ ?_ ?_ ?_ ?_ ?_
     all_goals simp only[uxA,uxB,Nat.reduceBEq]
   ·simp only[sxA,sxB,Nat.reduceBEq,Nat.reduceEqDiff,reduceCtorEq,mxA,mxB,Nat.reduceAdd,reduceIte,Nat.reduceLeDiff,splice,ho,decide_false,Qj]
    refine .mk hx1.next ?_
    rw[if_pos (by simp)]
    exact⟨rfl,hR1.ext⟩
 ·have e2:(((Qc s).length:Int)==4)=false:=beq_eq_false_iff_ne.2 (by omega)
  simp only[sxA,sxB,Nat.reduceBEq,Nat.reduceEqDiff,reduceCtorEq,mxA,mxB,Nat.reduceAdd,reduceIte,Nat.reduceLeDiff,splice,e2,Qj]
  refine .mk hx1.next ?_
  split
  ·rename_i hws;rw[hws]at h4;exact absurd rfl h4
  ·exact⟨rfl,hR1.ext⟩
def Sy.le (a b:List UInt8):Bool:=Op.bytesLess a b||a==b
def Vx (x:Im) (s w1 w2 w3:List UInt8):Option (Stg×Im):=
 if(s==Qba ⟨w1,Qh w2,w3==[104,101,114,101]⟩)=true∧V4 w1=true∧x.syms.length≠20000∧(∀y,x.syms.getLast? = some y→Sy.le w1 y.name=false) then some (.sym,{x with syms:=x.syms++[⟨w1,Qh w2,w3==[104,101,114,101]⟩]}) else none
def Qcf (x:Im) (s:List UInt8):Option (Stg×Im):=
 if(s.take 5==[109,97,114,107,32])=true then Kt x s else match Qc s with
 | [_,w1,w2,w3]=>Vx x s w1 w2 w3
 | _=>none
theorem QeJ (l:List Sy):(YV l).length=l.length * 3:=by
 unfold YV
 induction l with
 | nil=>rfl
 | cons m l ih=>rw[List.flatMap_cons,List.length_append,ih];simp[Sy.cells];omega
theorem QgP {l:List Sy} {i:Nat} {m:Sy} (h:l[i]? = some m):(YV l)[i * 3+0]? = some (.string (mkS m.name)):=by
 induction l generalizing i with
 | nil=>simp at h
 | cons a l ih=>
  have e:YV (a::l)=a.cells++YV l:=rfl
  cases i with
  | zero=>simp at h;subst h;rfl
  | succ i=>
   rw[e,List.getElem?_append_right (by simp[Sy.cells];omega),show(i+1) * 3+0 - a.cells.length=i * 3+0 by simp[Sy.cells];omega]
   exact ih (by simpa using h)
theorem Qo9 {T:Qa→Prop} (hT:Tz T) {H0 H:Qa} {D:Nat} {x:Im} {vb vs vm:Value} (hw0:H0.Wf) (hT0:T H0) (hF:Qfh x) (hR:Gr H0 H D x vb vs vm) (s:List UInt8) (hl:s.length≤1000000):Qf prog Wl [.pointer (some ⟨D,0,none⟩),.string (mkS s)] H (StP H0 D (Qcf x s)):=by
 refine V8 fun hw=>?_
 simp only[Jq,sxA,sxB,Nat.reduceBEq,Nat.reduceEqDiff,reduceCtorEq,mxA,mxB,Nat.reduceAdd,reduceIte,Nat.reduceLeDiff,splice]
 refine(QhB s [109,97,114,107,32] hl (by simp) H).thenW ?_
 rintro u H1 _ hw1 ⟨rfl,rfl⟩
 unfold Qcf
 rw[show([109,97,114,107,32]:List UInt8).length=5 from rfl]
 cases hm:s.take 5==[109,97,114,107,32] with
 | true=>
  rw[if_pos rfl]
  simp only[sxA,sxB,Nat.reduceBEq,Nat.reduceEqDiff,reduceCtorEq,mxA,mxB,Nat.reduceAdd,reduceIte,Nat.reduceLeDiff,splice]
  refine(Ql6 hT hw0 hT0 hF hR s hl).thenW ?_
  rintro u H2 hn2 hw2 hP
  simp only[sxA,sxB,Nat.reduceBEq,Nat.reduceEqDiff,reduceCtorEq,mxA,mxB,Nat.reduceAdd,reduceIte,Nat.reduceLeDiff,splice,Qt]
  exact .mk hn2 hP
 | false=>
  rw[if_neg (by simp)]
  simp only[sxA,sxB,Nat.reduceBEq,Nat.reduceEqDiff,reduceCtorEq,mxA,mxB,Nat.reduceAdd,reduceIte,Nat.reduceLeDiff,splice,ZC]
  refine(QgK s hl H1).thenW ?_
  rintro u H2 _ hw2 ⟨⟨b,cap,e,rfl,hb,hg⟩,hx2⟩
  have hR2:=hR.more hx2 hw2
  have hwle:=Vw s
  simp only[sxA,sxB,Nat.reduceBEq,Nat.reduceEqDiff,reduceCtorEq,mxA,mxB,Nat.reduceAdd,reduceIte,Nat.reduceLeDiff,splice,Qb]
  by_cases h4:(Qc s).length=4
  ·obtain⟨w0,w1,w2,w3,hws⟩:∃w0 w1 w2 w3,Qc s=[w0,w1,w2,w3]:=by
    match hm:Qc s with
    | [a,c,d,f]=>exact⟨a,c,d,f,rfl⟩
    | [] | [_] | [_,_] | [_,_,_] | _::_::_::_::_::_=>rw[hm]at h4;simp at h4
   rw[hws]at hg hwle ⊢
   have hw1l:=hwle w1 (by simp)
   have hw2l:=hwle w2 (by simp)
   have e2:(((4:Nat):Int)==4)=true:=rfl
   have c1:(0:Int)≤1∧(1:Int)<((4:Nat):Int):=by decide
   have c2:(0:Int)≤2∧(2:Int)<((4:Nat):Int):=by decide
   have c3:(0:Int)≤3∧(3:Int)<((4:Nat):Int):=by decide
   have u1:(1:Int).toNat=1:=rfl
   have u2:(2:Int).toNat=2:=rfl
   have u3:(3:Int).toNat=3:=rfl
   have hg:H2.get b=some (.cells [.string (mkS w0),.string (mkS w1),.string (mkS w2),.string (mkS w3)] e false):=hg
   have hbn:=hw2.lt hg
   have bel:∀ (n:Nat) (z:List UInt8),QH n 6 (.string (mkS z))=true:=fun _ _=>rfl
   simp only[sxA,sxB,Nat.reduceBEq,Nat.reduceEqDiff,reduceCtorEq,mxA,mxB,Nat.reduceAdd,reduceIte,Nat.reduceLeDiff,splice,e2,ZB,c1,c2,c3,u1,u2,u3,hg]
   refine⟨bel _ _,hbn,?_⟩
   refine(Qcb w2 (by omega) H2).thenW ?_
   rintro _ H3 hn3 hw3 ⟨rfl,hx3⟩
   have hg3:H3.get b=some (.cells [.string (mkS w0),.string (mkS w1),.string (mkS w2),.string (mkS w3)] e false):=by rw[hx3.get _ hbn];exact hg
   have hR3:=hR2.more hx3 hw3
   have hni:=QaH w2
   obtain⟨sa,caps,rfl⟩:=hR3.gs.sl
   have hgR3:=hR3.get
   have hD3:=hR3.low'.1
   have nD:¬D=H3.next:=by omega
   simp only[sxA,sxB,Nat.reduceBEq,Nat.reduceEqDiff,reduceCtorEq,mxA,mxB,Nat.reduceAdd,reduceIte,Nat.reduceLeDiff,splice,syA,c3,u3,hg3,bel,nD,hgR3,Qb]
   refine⟨hx3.get,?_⟩
   generalize hS:Qa.set (Qa.push H3 _) H3.next _=H4
   obtain⟨e4,hE4⟩:∃e4,H4=(H3.push (.cells [.string (mkS []),.int .i64 0,.bool false] e4 false)).set H3.next (.cells [.string (mkS w1),.int .i64 (Qh w2),.bool (w3==[104,101,114,101])] e4 false):=⟨_,hS.symm⟩
   clear hS
   have hx4:Ext H3 H4:=by rw[hE4];exact((Ext.refl H3).push _).set (Nat.le_refl _) _
   have hw4:H4.Wf:=by rw[hE4];exact(hw3.push _).set (by rw[Qa.get_push,if_pos rfl]) _
   have hg4:H4.get H3.next=some (.cells [.string (mkS w1),.int .i64 (Qh w2),.bool (w3==[104,101,114,101])] e4 false):=by rw[hE4,Qa.get_set,if_pos rfl]
   clear hE4
   have hR4:=hR3.more hx4 hw4
   have hT4:T H4:=hT.q.ext _ _ hw0 hT0 hR4.ext
   have hn4:=hx4.next
   have hn1:=hx2.next
   have hl4:H3.next<H4.next:=hw4.lt hg4
   have hxl:((x.syms.length:Int)==20000)=decide (x.syms.length=20000):=by rw[Bool.eq_iff_iff,beq_iff_eq,decide_eq_true_eq];omega
   refine(QfW hT ⟨w1,Qh w2,w3==[104,101,114,101]⟩ hni (by simp only;omega) H4 hT4).thenW ?_
   rintro _ H5 hn5 hw5 ⟨rfl,hx5⟩
   have hg5:H5.get H3.next=some (.cells [.string (mkS w1),.int .i64 (Qh w2),.bool (w3==[104,101,114,101])] e4 false):=by rw[hx5.get _ hl4];exact hg4
   have hR5:=hR4.more hx5 hw5
   have hl5:H3.next<H5.next:=hw5.lt hg5
   have hD5:¬H3.next=D:=by omega
   simp only[sxA,sxB,Nat.reduceBEq,Nat.reduceEqDiff,reduceCtorEq,mxA,mxB,Nat.reduceAdd,reduceIte,Nat.reduceLeDiff,splice,syA]
   cases hs:s==Qba ⟨w1,Qh w2,w3==[104,101,114,101]⟩ with
   | false=>
    have hsp:Vx x s w1 w2 w3=none:=by unfold Vx;rw[if_neg (by rw[hs];simp)]
    simp only[sxA,sxB,Nat.reduceBEq,Nat.reduceEqDiff,reduceCtorEq,mxA,mxB,Nat.reduceAdd,reduceIte,Nat.reduceLeDiff,splice,syA,Qt]
    refine .mk (by omega) ?_
    rw[hsp]
    exact⟨rfl,hR5.ext⟩
   | true=>
    simp only[sxA,sxB,Nat.reduceBEq,Nat.reduceEqDiff,reduceCtorEq,mxA,mxB,Nat.reduceAdd,reduceIte,Nat.reduceLeDiff,splice,syA,hg5,bel]
    refine(Qce (mkS w1) (by rw[Qg];omega) H5).thenW ?_
    rintro _ H6 _ hw6 ⟨rfl,rfl⟩
    rw[Qg]
    cases hnm:V4 w1 with
    | false=>
     have hsp:Vx x s w1 w2 w3=none:=by unfold Vx;rw[if_neg (by rw[hnm];simp)]
     simp only[sxA,sxB,Nat.reduceBEq,Nat.reduceEqDiff,reduceCtorEq,mxA,mxB,Nat.reduceAdd,reduceIte,Nat.reduceLeDiff,splice,syA,Qt]
     refine .mk (by omega) ?_
     rw[hsp]
     exact⟨rfl,hR5.ext⟩
    | true=>
     simp only[sxA,sxB,Nat.reduceBEq,Nat.reduceEqDiff,reduceCtorEq,mxA,mxB,Nat.reduceAdd,reduceIte,Nat.reduceLeDiff,splice,syA,hxl]
     by_cases hk:x.syms.length=20000
     ·have hsp:Vx x s w1 w2 w3=none:=by unfold Vx;rw[if_neg (by rw[hk];simp)]
      simp only[sxA,sxB,Nat.reduceBEq,Nat.reduceEqDiff,reduceCtorEq,mxA,mxB,Nat.reduceAdd,reduceIte,Nat.reduceLeDiff,splice,syA,hk,decide_true,Qt]
      refine .mk (by omega) ?_
      rw[hsp]
      exact⟨rfl,hR5.ext⟩
     ·simp only[sxA,sxB,Nat.reduceBEq,Nat.reduceEqDiff,reduceCtorEq,mxA,mxB,Nat.reduceAdd,reduceIte,Nat.reduceLeDiff,splice,syA,hk,decide_false,ZA]
      have hgR5:=hR5.get
      by_cases h0:x.syms.length=0
      ·have e3:decide ((0:Int)<(x.syms.length:Int))=false:=decide_eq_false (by omega)
       simp only[sxA,sxB,Nat.reduceBEq,Nat.reduceEqDiff,reduceCtorEq,mxA,mxB,Nat.reduceAdd,reduceIte,Nat.reduceLeDiff,splice,syA,e3,XF,QI,hgR5,hg5]
       have hsp:Vx x s w1 w2 w3=some (.sym,{x with syms:=x.syms++[⟨w1,Qh w2,w3==[104,101,114,101]⟩]}):=by unfold Vx;rw[if_pos ⟨hs,hnm,hk,fun y hy=>by rw[List.length_eq_zero_iff.1 h0]at hy;simp at hy⟩]
       generalize hP:Qa.push H6 _=H10
       have hx10:Ext H6 H10:=by rw[← hP];exact(Ext.refl H6).push _
       have hw10:H10.Wf:=by rw[← hP];exact hR5.wf.push _
       have hg10:H10.get H6.next=some (.cells [.string (mkS w1),.int .i64 (Qh w2),.bool (w3==[104,101,114,101])] QM false):=by rw[← hP,Qa.get_push,if_pos rfl]
       clear hP
       have hR10:=hR5.more hx10 hw10
       have hsl:=hF.syms
       refine QcK hR10.gs hR10.ext hw10 (Vu hg10 (by decide) rfl) rfl (Nat.le_refl _) rfl (by omega) (by omega) fun vs' H11 hgs11 hx11 hw11 hk11 hn11 hi11=>?_
       obtain⟨hgD11,hR11⟩:=hR10.setS hgs11 (s':=x.syms++[Sy.mk w1 (Qh w2) (w3==[104,101,114,101])]) (by rw[List.length_append];rfl) (QhJ x.syms (Sy.mk w1 (Qh w2) (w3==[104,101,114,101]))) hx11 hw11 hk11 hi11
       obtain⟨ab11,cb11,rfl⟩:=hgs11.sl
       simp only[sxA,sxB,Nat.reduceBEq,Nat.reduceEqDiff,reduceCtorEq,mxA,mxB,Nat.reduceAdd,reduceIte,Nat.reduceLeDiff,splice,syA,hgD11,Qt]
       refine .mk (by have:=hx10.next;rw[Qa.next_set];omega) ?_
       rw[hsp]
       exact⟨rfl,_,_,_,hR11⟩
      ·have e3:decide ((0:Int)<(x.syms.length:Int))=true:=decide_eq_true (by omega)
       obtain⟨bs,rfl,hgs⟩:∃bs,sa=some ⟨bs,0,none⟩∧H6.get bs=some (.cells (YV x.syms) QM false):=by
        rcases hR5.gs with⟨h1,h2,h3⟩ | ⟨bm,h1,h2,h3,h4⟩
        ·omega
        ·cases h1;exact⟨bm,rfl,h3⟩
       have ei:IntKind.i64.wrap ((x.syms.length:Int) - 1)=((x.syms.length - 1:Nat):Int):=by rw[w64 (by unfold I64;have:=hF.syms;omega)];omega
       have c5:(0:Int)≤((x.syms.length - 1:Nat):Int)∧((x.syms.length - 1:Nat):Int)<(x.syms.length:Int):=by omega
       have u5:((x.syms.length - 1:Nat):Int).toNat=x.syms.length - 1:=Int.toNat_natCast _
       obtain⟨y,hy⟩:∃y,x.syms[x.syms.length - 1]? = some y:=⟨_,List.getElem?_eq_getElem (by omega)⟩
       have hyl:x.syms.getLast? = some y:=by rw[List.getLast?_eq_getElem?];exact hy
       have hym:=QgP hy
       rw[Nat.add_zero]at hym
       simp only[sxA,sxB,Nat.reduceBEq,Nat.reduceEqDiff,reduceCtorEq,mxA,mxB,Nat.reduceAdd,reduceIte,Nat.reduceLeDiff,splice,syA,e3,QI,hgR5,hg5,bel,ei,c5,u5,hgs,hym]
       cases hle:Op.bytesLess w1 y.name||w1==y.name with
       | true=>
        have hsp:Vx x s w1 w2 w3=none:=by unfold Vx;rw[if_neg (fun h=>by have:=h.2.2.2 y hyl;unfold Sy.le at this;rw[hle]at this;cases this)]
        simp only[sxA,sxB,Nat.reduceBEq,Nat.reduceEqDiff,reduceCtorEq,mxA,mxB,Nat.reduceAdd,reduceIte,Nat.reduceLeDiff,splice,syA,Qt]
        refine .mk (by omega) ?_
        rw[hsp]
        exact⟨rfl,hR5.ext⟩
       | false=>
        simp only[sxA,sxB,Nat.reduceBEq,Nat.reduceEqDiff,reduceCtorEq,mxA,mxB,Nat.reduceAdd,reduceIte,Nat.reduceLeDiff,splice,syA,XF,QI,hgR5,hg5]
        have hsp:Vx x s w1 w2 w3=some (.sym,{x with syms:=x.syms++[⟨w1,Qh w2,w3==[104,101,114,101]⟩]}):=by unfold Vx;rw[if_pos ⟨hs,hnm,hk,fun z hz=>by rw[hyl]at hz;cases hz;exact hle⟩]
        generalize hP:Qa.push H6 _=H10
        have hx10:Ext H6 H10:=by rw[← hP];exact(Ext.refl H6).push _
        have hw10:H10.Wf:=by rw[← hP];exact hR5.wf.push _
        have hg10:H10.get H6.next=some (.cells [.string (mkS w1),.int .i64 (Qh w2),.bool (w3==[104,101,114,101])] QM false):=by rw[← hP,Qa.get_push,if_pos rfl]
        clear hP
        have hR10:=hR5.more hx10 hw10
        have hsl:=hF.syms
        refine QcK hR10.gs hR10.ext hw10 (Vu hg10 (by decide) rfl) rfl (Nat.le_refl _) rfl (by omega) (by omega) fun vs' H11 hgs11 hx11 hw11 hk11 hn11 hi11=>?_
        obtain⟨hgD11,hR11⟩:=hR10.setS hgs11 (s':=x.syms++[Sy.mk w1 (Qh w2) (w3==[104,101,114,101])]) (by rw[List.length_append];rfl) (QhJ x.syms (Sy.mk w1 (Qh w2) (w3==[104,101,114,101]))) hx11 hw11 hk11 hi11
        obtain⟨ab11,cb11,rfl⟩:=hgs11.sl
        simp only[sxA,sxB,Nat.reduceBEq,Nat.reduceEqDiff,reduceCtorEq,mxA,mxB,Nat.reduceAdd,reduceIte,Nat.reduceLeDiff,splice,syA,hgD11,Qt]
        refine .mk (by have:=hx10.next;rw[Qa.next_set];omega) ?_
        rw[hsp]
        exact⟨rfl,_,_,_,hR11⟩
  ·have e2:(((Qc s).length:Int)==4)=false:=beq_eq_false_iff_ne.2 (by omega)
   simp only[sxA,sxB,Nat.reduceBEq,Nat.reduceEqDiff,reduceCtorEq,mxA,mxB,Nat.reduceAdd,reduceIte,Nat.reduceLeDiff,splice,e2,Qt]
   refine .mk hx2.next ?_
   split
   ·rename_i hws;rw[hws]at h4;exact absurd rfl h4
   ·exact⟨rfl,hR2.ext⟩
structure Ki (H0 H:Qa) (x:Im) (vb vs vm:Value):Prop where
 gb:Gs 1 5 H0 H vb x.b.length (u8v x.b)
 gs:Gs 3 QM H0 H vs x.syms.length (YV x.syms)
 gm:Gs 3 Wt H0 H vm x.marks.length (WS x.marks)
 bs:∀id,Qr vb id→¬Qr vs id
 bm:∀id,Qr vb id→¬Qr vm id
 sm:∀id,Qr vs id→¬Qr vm id
theorem Gs.old {size:Nat} {e:TypeId} {H0 H1 H:Qa} {v:Value} {n:Nat} {cs:List Value} (h:Gs size e H1 H v n cs) (hn:H0.next≤H1.next):Gs size e H0 H v n cs:=by
 rcases h with h | ⟨b,rfl,h2,h3,h4⟩
 ·exact .inl h
 ·exact .inr ⟨b,rfl,by omega,h3,h4⟩
def im0:Im:=⟨0,[],[],[]⟩
theorem Ql8:Qfh im0:=⟨by decide,by decide,by decide,by decide,fun m hm=>by simp[im0]at hm⟩
def goS (g:Option Stg) (x:Im) (s:List UInt8):Option (Stg×Im):=match g with
 | none=>Qcd x s
 | some .sym=>Qcf x s
 | some .mark=>Kt x s
def gF:Option Stg→FuncId
 | none=>W4
 | some g=>stF g
def YF:Option Stg→Im→Nat→List (List UInt8)→Except Nat Im
 | _,x,_,[]=>.ok x
 | g,x,i,s::l=>match goS g x s with
  | none=>.error (i+1)
  | some (g',x')=>YF (some g') x' (i+1) l
def Ku (l:List (List UInt8)):Except Nat Im:=if l=[] then .error 1 else YF none im0 0 l
theorem Qi0 {x:Im} (h:Qfh x):1≤QaI x.marks:=by
 unfold QaI
 cases hm:x.marks.getLast? with
 | none=>exact Int.le_refl _
 | some m=>exact(h.line m (List.mem_of_getLast? hm)).1
theorem QeK {x x':Im} {g':Stg} {s:List UInt8} (h:Qfh x) (hs:Kt x s=some (g',x')):Qfh x':=by
 have hl:=Qi0 h
 obtain⟨h1,h2,h3,h4,h5⟩:=h
 unfold Kt at hs
 split at hs
 ·rename_i w0 w1 w2 w3 hw
  split at hs
  ·cases hs
  ·split at hs
   ·cases hs
   ·rename_i hA
    split at hs
    ·cases hs
    ·rename_i hB
     split at hs
     ·cases hs
      refine⟨h1,?_,h3,?_,?_⟩
      ·simp only[List.length_append,QaJ];omega
      ·simp only[List.length_append,List.length_cons,List.length_nil];omega
      ·intro m hm
       rcases List.mem_append.1 hm with hm | hm
       ·exact h5 m hm
       ·simp at hm;subst hm;simp only;omega
     ·cases hs
 ·cases hs
theorem Ql9 {g:Option Stg} {x x':Im} {g':Stg} {s:List UInt8} (h:Qfh x) (hs:goS g x s=some (g',x')):Qfh x':=by
 have h0:=h
 obtain⟨h1,h2,h3,h4,h5⟩:=h
 match g with
 | none=>
  simp only[goS,Qcd]at hs
  split at hs
  ·split at hs
   ·rename_i hc
    cases hs
    exact⟨hc.2,h2,h3,h4,h5⟩
   ·cases hs
  ·cases hs
 | some .mark=>exact QeK h0 hs
 | some .sym=>
  simp only[goS,Qcf]at hs
  split at hs
  ·exact QeK h0 hs
  ·split at hs
   ·unfold Vx at hs
    split at hs
    ·rename_i hc
     cases hs
     refine⟨h1,h2,?_,h4,h5⟩
     simp only[List.length_append,List.length_cons,List.length_nil];omega
    ·cases hs
   ·cases hs
def ImP (H0:Qa) (r:Except Nat Im) (u:Value) (H':Qa):Prop:=match r with
 | .error i=>u=.tuple #[.agg #[.int .i64 0,.slice none 0 0,.slice none 0 0,.slice none 0 0],.agg #[.int .i64 4,.int .i64 (i:Int)]]∧Ext H0 H'
 | .ok x=>∃vb vs vm,u=.tuple #[.agg #[.int .i64 x.org,vb,vs,vm],.agg #[.int .i64 0,.int .i64 0]]∧Ki H0 H' x vb vs vm∧Ext H0 H'
theorem Qpn {T:Qa→Prop} (hT:Tz T) {H0 H:Qa} {D:Nat} {x:Im} {vb vs vm:Value} (hw0:H0.Wf) (hT0:T H0) (hF:Qfh x) (hR:Gr H0 H D x vb vs vm) (s:List UInt8) (hl:s.length≤1000000) (g:Option Stg):Qf prog (gF g) [.pointer (some ⟨D,0,none⟩),.string (mkS s)] H (StP H0 D (goS g x s)):=by
 match g with
 | none=>exact Qo8 hT hw0 hT0 hR s hl
 | some .sym=>exact Qo9 hT hw0 hT0 hF hR s hl
 | some .mark=>exact Ql6 hT hw0 hT0 hF hR s hl
theorem Qma {T:Qa→Prop} (hT:Tz T) (l:List (List UInt8)) (lv:Value) (hl:∀s∈l,s.length≤1000000) (hn:l.length≤1000000) (H:Qa) (hTH:T H) (hs:YD H lv l.length (YU l)):Qf prog ZP [lv] H (ImP H (Ku l)):=by
 refine Qdt fun hw=>?_
 obtain⟨la,lcap,rfl,hla⟩:=hs
 simp only[VS,sxA,sxB,Nat.reduceBEq,Nat.reduceEqDiff,reduceCtorEq,mxA,mxB,Nat.reduceAdd,reduceIte,Nat.reduceLeDiff,splice,Qb]
 generalize hS:Qa.push (Qa.push H _) _=Hb
 have hxb:Ext H Hb:=by rw[← hS];exact((Ext.refl H).push _).push _
 have hwb:Hb.Wf:=by rw[← hS];exact(hw.push _).push _
 have hnb:Hb.next=H.next+2:=by rw[← hS,Qa.next_push,Qa.next_push]
 have hgb1:Hb.get H.next=some (.cells [.int .i64 0,.slice none 0 0,.slice none 0 0,.slice none 0 0] QW false):=by
  rw[← hS,Qa.get_push,Qa.next_push,if_neg (by omega),Qa.get_push,if_pos rfl]
 have hgb2:Hb.get (H.next+1)=some (.cells [.int .i64 0,.int .i64 0] Yu false):=by
  rw[← hS,Qa.get_push,Qa.next_push,if_pos rfl]
 clear hS
 have hTb:T Hb:=hT.q.ext _ _ hw hTH hxb
 rw[show H.next+1+1=Hb.next by omega]
 generalize hS:Qa.push Hb _=H3
 have hR3:Gr Hb H3 Hb.next im0 (.slice none 0 0) (.slice none 0 0) (.slice none 0 0):=by
  have nb:∀id,¬Qr (.slice none 0 0) id:=fun id h=>by obtain⟨o,n,c,h⟩:=h;cases h
  rw[← hS]
  exact⟨by rw[Qa.get_push,if_pos rfl];rfl,.inl ⟨rfl,rfl,rfl⟩,.inl ⟨rfl,rfl,rfl⟩,.inl ⟨rfl,rfl,rfl⟩,Nat.le_refl _,nb _,nb _,nb _,fun id h=>absurd h (nb _),fun id h=>absurd h (nb _),fun id h=>absurd h (nb _),hwb.push _,(Ext.refl Hb).push _⟩
 clear hS
 refine QC (fun m A' H'=>∃ (i:Nat) (g:Option Stg) (x:Im) (vb vs vm:Value),i≤l.length∧m=l.length - i∧Gr Hb H' Hb.next x vb vs vm∧Qfh x∧YF none im0 0 l=YF g x i (l.drop i)∧A' 0=.slice la l.length lcap∧A' 2=.pointer (some ⟨H.next,0,none⟩)∧A' 3=.pointer (some ⟨H.next+1,0,none⟩)∧A' 4=.pointer (some ⟨Hb.next,0,none⟩)∧A' 5=.func (.func (gF g)) #[] #[]∧A' 10=.slice la l.length lcap∧A' 11=.int .i64 l.length∧A' 12=.int .i64 i) l.length ?_ ?_
 ·refine⟨0,none,im0,.slice none 0 0,.slice none 0 0,.slice none 0 0,Nat.zero_le _,rfl,hR3,Ql8,rfl,?_,?_,?_,?_,?_,?_,?_,?_⟩
  all_goals simp only[uxA,uxB,Nat.reduceBEq]
  all_goals rfl
 ·rintro m A' H1 ⟨i,g,x,vb,vs,vm,hi,rfl,hR,hF,hrd,r0,r2,r3,r4,r5,r10,r11,r12⟩
  have hg1:H1.get H.next=some (.cells [.int .i64 0,.slice none 0 0,.slice none 0 0,.slice none 0 0] QW false):=by rw[hR.ext.get _ (by omega)];exact hgb1
  have hg2:H1.get (H.next+1)=some (.cells [.int .i64 0,.int .i64 0] Yu false):=by rw[hR.ext.get _ (by omega)];exact hgb2
  have hnn:=hR.ext.next
  by_cases h2:i<l.length
  ·have e1:decide ((i:Int)<(l.length:Int))=true:=decide_eq_true (by omega)
   have c1:(0:Int)≤(i:Int)∧(i:Int)<(l.length:Int):=by omega
   have u1:(i:Int).toNat=i:=Int.toNat_natCast _
   have ei:IntKind.i64.wrap ((i:Int)+1)=((i+1:Nat):Int):=by rw[w64 (by unfold I64;omega)];rfl
   obtain⟨b,e,ro,rfl,hgl⟩:=hla (by omega)
   have hgl1:H1.get b=some (.cells (YU l) e ro):=by rw[hR.ext.get _ (by have:=hw.lt hgl;omega),hxb.get _ (hw.lt hgl)];exact hgl
   have p1:=List.getElem?_eq_getElem h2
   have hlm:=hl _ (List.getElem_mem h2)
   have hdr:l.drop i=l[i]::l.drop (i+1):=List.drop_eq_getElem_cons h2
   rw[hdr]at hrd
   generalize l[i]=s at *
   have p2:=Qez p1
   simp only[ZS,GE,sxA,sxB,Nat.reduceBEq,Nat.reduceEqDiff,reduceCtorEq,mxA,mxB,Nat.reduceAdd,reduceIte,Nat.reduceLeDiff,splice,r0,r2,r3,r4,r5,r10,r11,r12,e1,c1,decide_true,u1,hgl1,p2]
   refine(Qpn hT hwb hTb hF hR s hlm g).thenW ?_
   rintro u H2 hn2 hw2 hP
   cases hgo:goS g x s with
   | none=>
    rw[hgo]at hP
    obtain⟨rfl,hx2⟩:=hP
    have hg1:H2.get H.next=some (.cells [.int .i64 0,.slice none 0 0,.slice none 0 0,.slice none 0 0] QW false):=by rw[hx2.get _ (by omega)];exact hgb1
    have hg2:H2.get (H.next+1)=some (.cells [.int .i64 0,.int .i64 0] Yu false):=by rw[hx2.get _ (by omega)];exact hgb2
    have hn2:=hx2.next
    have n12:¬H.next+1=H.next:=by omega
    have n21:¬H.next=H.next+1:=by omega
    have hrd2:Ku l=.error (i+1):=by
     have:YF g x i (s::l.drop (i+1))=.error (i+1):=by rw[YF,hgo]
     unfold Ku
     rw[if_neg (by intro h;rw[h]at h2;simp at h2),hrd,this]
    simp only[sxA,sxB,Nat.reduceBEq,Nat.reduceEqDiff,reduceCtorEq,mxA,mxB,Nat.reduceAdd,reduceIte,Nat.reduceLeDiff,splice]
    rw[Qkq (by kernel_rfl) (by simp only[uxA,uxB,Nat.reduceBEq])]
    simp only[sxA,sxB,Nat.reduceBEq,Nat.reduceEqDiff,reduceCtorEq,mxA,mxB,Nat.reduceAdd,reduceIte,Nat.reduceLeDiff,splice,r2,r3,hg1,hg2,ei,n12,n21,if_false,JG]
    refine .mk ?_ ?_
    ·simp only[Qa.next_set];omega
    ·rw[hrd2]
     refine⟨rfl,?_⟩
     exact((hxb.trans hx2).set (Nat.le_refl _) _).set (by omega) _
   | some r=>
    obtain⟨g',x'⟩:=r
    rw[hgo]at hP
    obtain⟨rfl,vb',vs',vm',hR2⟩:=hP
    simp only[sxA,sxB,Nat.reduceBEq,Nat.reduceEqDiff,reduceCtorEq,mxA,mxB,Nat.reduceAdd,reduceIte,Nat.reduceLeDiff,splice]
    rw[QlJ (by kernel_rfl) (f:=.func (stF g')) (a:=#[]) (b:=#[]) (by simp only[uxA,uxB,Nat.reduceBEq])]
    simp only[sxA,sxB,Nat.reduceBEq,Nat.reduceEqDiff,reduceCtorEq,mxA,mxB,Nat.reduceAdd,reduceIte,Nat.reduceLeDiff,splice,r12,ei]
    refine⟨l.length - (i+1),by omega,i+1,some g',x',vb',vs',vm',by omega,rfl,hR2,Ql9 hF hgo,by rw[hrd,YF,hgo],?_,?_,?_,?_,?_,?_,?_,?_⟩
    all_goals simp only[uxA,uxB,Nat.reduceBEq,r0,r2,r3,r4,r10,r11]
    all_goals rfl
  ·have e1:decide ((i:Int)<(l.length:Int))=false:=decide_eq_false (by omega)
   have hd:l.drop i=[]:=List.drop_eq_nil_of_le (by omega)
   rw[hd]at hrd
   simp only[ZS,GD,sxA,sxB,Nat.reduceBEq,Nat.reduceEqDiff,reduceCtorEq,mxA,mxB,Nat.reduceAdd,reduceIte,Nat.reduceLeDiff,splice,r0,r2,r3,r4,r5,r10,r11,r12,e1,Qb]
   have n12:¬H.next+1=H.next:=by omega
   have n21:¬H.next=H.next+1:=by omega
   have n13:¬Hb.next=H.next:=by omega
   have n23:¬Hb.next=H.next+1:=by omega
   have hgR:=hR.get
   by_cases h0:l=[]
   ·have e2:(((l.length:Nat):Int)==0)=true:=by rw[h0];rfl
    have hrd2:Ku l=.error 1:=by unfold Ku;rw[if_pos h0]
    simp only[sxA,sxB,Nat.reduceBEq,Nat.reduceEqDiff,reduceCtorEq,mxA,mxB,Nat.reduceAdd,reduceIte,Nat.reduceLeDiff,splice,e2,r2,r3,hg1,hg2,n12,n21,if_false,JG]
    refine .mk ?_ ?_
    ·simp only[Qa.next_set];omega
    ·rw[hrd2]
     refine⟨rfl,?_⟩
     exact((hxb.trans hR.ext).set (Nat.le_refl _) _).set (by omega) _
   ·have e2:(((l.length:Nat):Int)==0)=false:=beq_eq_false_iff_ne.2 fun h=>h0 (List.length_eq_zero_iff.1 (by omega))
    have hrd2:Ku l=.ok x:=by unfold Ku;rw[if_neg h0,hrd,YF]
    obtain⟨sb,cb,rfl⟩:=hR.gb.sl
    obtain⟨ss,cs,rfl⟩:=hR.gs.sl
    obtain⟨sm,cm,rfl⟩:=hR.gm.sl
    simp only[sxA,sxB,Nat.reduceBEq,Nat.reduceEqDiff,reduceCtorEq,mxA,mxB,Nat.reduceAdd,reduceIte,Nat.reduceLeDiff,splice,e2,r2,r3,r4,QI,hgR,hg1,hg2,n12,n21,n13,n23,if_false,JG]
    refine .mk ?_ ?_
    ·simp only[Qa.next_set];omega
    ·rw[hrd2]
     have k:∀ {size e v n cs b1 b2},Gs size e Hb H1 v n cs→Gs size e H ((H1.set H.next b1).set (H.next+1) b2) v n cs:=fun hg=>Gs.old (H1:=Hb) (hg.ext fun id hid=>by
      have:=(hg.low hR.wf hid).1
      rw[Qa.get_set,if_neg (by omega),Qa.get_set,if_neg (by omega)]) (by omega)
     exact⟨_,_,_,rfl,⟨k hR.gb,k hR.gs,k hR.gm,hR.bs,hR.bm,hR.sm⟩,((hxb.trans hR.ext).set (Nat.le_refl _) _).set (by omega) _⟩
end Go.Proofs.YthoanamkoigjeaaDoor.code
