/- Forms in memory, and the kit's parts that look at them. -/
import Derived.Test.YtfofbicfabokbaaGreatDoorC0Code
import Derived.Test.YtfofbicfabokbaaGreatDoorAbD
import Derived.Laws.BitsLemmas
set_option linter.unusedVariables false
set_option linter.unusedSimpArgs false
set_option maxRecDepth 100000
noncomputable section
namespace Go.Proofs.YtfofbicfabokbaaGreatDoor.code
open Go.Ab
def I64 (n:Int):Prop:=-9223372036854775808≤n∧n≤9223372036854775807
theorem w64 {n:Int} (h:I64 n):IntKind.i64.wrap n=n:=by
 rw[IntKind.wrap_i64];unfold I64 at h;omega
def ints (l:List Int):List Value:=l.map (.int .i64 ·)
theorem KG {l:List Int} {i:Nat} (h:i<l.length):(ints l)[i]? = some (.int .i64 (l.getD i 0)):=by
 simp[ints,List.getElem?_eq_getElem h,List.getD]
def KX (H:Qa) (v:Value) (n:Nat) (cs:List Value):Prop:=∃a cap,v=.slice a n cap∧(0<n→∃b e ro,a=some ⟨b,0,none⟩∧H.get b=some (.cells cs e ro))
theorem KX.ext {H H':Qa} {v:Value} {n:Nat} {cs:List Value} (hw:H.Wf) (he:Ext H H') (h:KX H v n cs):KX H' v n cs:=by
 obtain⟨a,cap,rfl,h1⟩:=h
 refine⟨a,cap,rfl,fun hn=>?_⟩
 obtain⟨b,e,ro,rfl,hb⟩:=h1 hn
 exact⟨b,e,ro,rfl,by rw[he.get b (hw.lt hb)];exact hb⟩
theorem Qr8 {H:Qa} {v:Value} {n:Nat} {cs:List Value} (h:KX H v n cs):∃a cap,v=.slice a n cap:=by
 obtain⟨a,cap,rfl,_⟩:=h;exact⟨a,cap,rfl⟩
structure Fm where
 op:Int
 pre:Int
 map:Int
 code:Int
 digit:Int
 w:Int
 l:Int
 vex:Bool
 shapes:List Int
 slots:List Int
 deriving DecidableEq
structure Lf where
 f:Fm
 sv:Value
 tv:Value
def Lf.cells (x:Lf):List Value:=[.int .i64 x.f.op,x.sv,x.tv,.int .i64 x.f.pre,.int .i64 x.f.map,.int .i64 x.f.code,.int .i64 x.f.digit,.int .i64 x.f.w,.bool x.f.vex,.int .i64 x.f.l]
def Lf.At (H:Qa) (x:Lf):Prop:=x.f.shapes.length≤1000∧x.f.slots.length≤1000∧KX H x.sv x.f.shapes.length (ints x.f.shapes)∧KX H x.tv x.f.slots.length (ints x.f.slots)
theorem Lf.At.ext {H H':Qa} {x:Lf} (hw:H.Wf) (he:Ext H H') (h:x.At H):x.At H':=⟨h.1,h.2.1,h.2.2.1.ext hw he,h.2.2.2.ext hw he⟩
def QS (xs:List Lf):List Value:=xs.flatMap Lf.cells
theorem Qp (x:Lf):x.cells.length=10:=rfl
theorem Wx:∀xs:List Lf,(QS xs).length=xs.length * 10
 | []=>rfl
 | x::xs=>by
  have:=Wx xs
  simp only[QS,List.flatMap_cons,List.length_append,Qp,List.length_cons]at this ⊢
  omega
theorem Zq:∀ (l:List Lf) (i:Nat) (p:Lf),l[i]? = some p→((QS l).drop (i * 10)).take 10=p.cells
 | [],i,p,h=>by simp at h
 | q::l,0,p,h=>by
  simp at h;subst h
  have:(QS (q::l))=q.cells++QS l:=by simp[QS]
  rw[this,Nat.zero_mul,List.drop_zero,List.take_append_of_le_length (by rw[Qp];exact Nat.le_refl 10),List.take_of_length_le (by rw[Qp];exact Nat.le_refl 10)]
 | q::l,i+1,p,h=>by
  have e:(QS (q::l))=q.cells++QS l:=by simp[QS]
  rw[e,show(i+1) * 10=q.cells.length+i * 10 by rw[Qp];omega,List.drop_append,List.drop_of_length_le (by omega),List.nil_append,Nat.add_sub_cancel_left]
  exact Zq l i p (by simpa using h)
theorem VQ (l:List Lf) (i j:Nat) (p:Lf) (h:l[i]? = some p) (hj:j<10):(QS l)[i * 10+j]? = p.cells[j]? := by
 rw[← Zq l i p h,List.getElem?_take,if_pos hj,List.getElem?_drop]
theorem QW (p:Lf):List.take 10 p.cells=p.cells:=Eq.trans rfl rfl
theorem QgA (xs:List Lf) (x:Lf):QS (xs++[x])=QS xs++x.cells:=by simp[QS]
def Qis (H:Qa) (v:Value) (xs:List Lf):Prop:=KX H v xs.length (QS xs)∧∀x∈xs,x.At H
theorem Qis.ext {H H':Qa} {v:Value} {xs:List Lf} (hw:H.Wf) (he:Ext H H') (h:Qis H v xs):Qis H' v xs:=⟨h.1.ext hw he,fun x hx=>(h.2 x hx).ext hw he⟩
theorem Qmr {H:Qa} {v:Value} {n:Nat} {cs:List Value} (h:KX H v n cs):v.oneCell'=true:=by
 obtain⟨a,cap,rfl,_⟩:=h;rfl
theorem W5 {H:Qa} {x:Lf} (h:x.At H):(x.cells.all fun v=>v.oneCell')=true:=by
 simp only[Lf.cells,List.all_cons,List.all_nil,Qmr h.2.2.1,Qmr h.2.2.2,Bool.and_true]
 rfl
def QdN:List Int→Int→Nat→Int
 | [],_,_=>-1
 | y::l,x,k=>if x=y then(k:Int) else QdN l x (k+1)
def QZ (l:List Int) (x:Int):Int:=QdN l x 0
theorem Qms (x:Int):∀ (l:List Int) (k i:Nat),(∀j,j<i→¬x=l.getD j 0)→i<l.length→x=l.getD i 0→QdN l x k=((k+i:Nat):Int)
 | [],k,i,_,hl,_=>by simp at hl
 | y::l,k,0,_,_,h=>by
  have h:x=y:=by simpa using h
  simp[QdN,h]
 | y::l,k,i+1,hn,hl,h=>by
  have h0:¬x=y:=by have:=hn 0 (by omega);simpa using this
  rw[QdN,if_neg h0,Qms x l (k+1) i (fun j hj=>by have:=hn (j+1) (by omega);simpa using this) (by simpa using hl) (by simpa using h)]
  congr 1;omega
theorem Qmt (x:Int):∀ (l:List Int) (k:Nat),(∀j,j<l.length→¬x=l.getD j 0)→QdN l x k=-1
 | [],k,_=>rfl
 | y::l,k,hn=>by
  have h0:¬x=y:=by have:=hn 0 (by simp);simpa using this
  rw[QdN,if_neg h0]
  exact Qmt x l (k+1) (fun j hj=>by have:=hn (j+1) (by simpa using hj);simpa using this)
theorem Qit (va:Value) (xs:List Int) (x:Int) (H:Qa) (ha:KX H va xs.length (ints xs)) (hl:xs.length≤1000):Qf prog Ye [va,.int .i64 x] H fun u H'=>u=.int .i64 (QZ xs x)∧H'=H:=by
 refine Qaq fun hw=>?_
 obtain⟨aa,acap,rfl,hsa⟩:=ha
 simp only[Jw,sxA,sxB,Nat.reduceBEq,Nat.reduceEqDiff,reduceCtorEq,mxA,mxB,Nat.reduceAdd,reduceIte,Nat.reduceLeDiff,splice]
 refine QX (fun m A' H'=>∃i:Nat,i≤xs.length∧m=xs.length - i∧H'=H∧(∀j,j<i→¬x=xs.getD j 0)∧A' 0=.slice aa xs.length acap∧A' 1=.int .i64 x∧A' 7=.int .i64 (xs.length:Int)∧A' 8=.int .i64 i) xs.length ?_ ?_
 ·refine⟨0,Nat.zero_le _,by omega,rfl,fun j h=>by omega,?_,?_,?_,?_⟩
  all_goals simp only[uxA,uxB,Nat.reduceBEq]
  rfl
 ·rintro m A' H' ⟨i,hi,rfl,hEq,hall,r0,r1,r7,r8⟩
  subst hEq
  simp only[sxA,sxB,Nat.reduceBEq,Nat.reduceEqDiff,reduceCtorEq,mxA,mxB,Nat.reduceAdd,reduceIte,Nat.reduceLeDiff,splice,r7,r8]
  refine Qg (fun h2=>?_) (fun h2=>?_)
  ·have h2:i<xs.length:=by have:=of_decide_eq_true h2;omega
   obtain⟨b1,e1,ro1,rfl,hb1⟩:=hsa (by omega)
   have c1:(0:Int)≤i∧(i:Int)<xs.length:=by omega
   have c3:(i:Int).toNat=i:=by omega
   have ei:IntKind.i64.wrap ((i:Int)+1)=((i+1:Nat):Int):=by rw[w64 (by unfold I64;omega)];omega
   have g1:=KG (l:=xs) (i:=i) (by omega)
   simp only[sxA,sxB,Nat.reduceBEq,Nat.reduceEqDiff,reduceCtorEq,mxA,mxB,Nat.reduceAdd,reduceIte,Nat.reduceLeDiff,splice,r0,r1,r8,c1,c3,hb1,g1]
   refine Qg (fun h3=>?_) (fun h3=>?_)
   ·have h3:x=xs.getD i 0:=by simpa using h3
    simp only[sxA,sxB,Nat.reduceBEq,Nat.reduceEqDiff,reduceCtorEq,mxA,mxB,Nat.reduceAdd,reduceIte,Nat.reduceLeDiff,splice,r8,ZQ]
    exact .mk (Nat.le_refl _) ⟨by rw[QZ,Qms x xs 0 i hall h2 h3,Nat.zero_add],rfl⟩
   ·have h3:¬x=xs.getD i 0:=by simpa using h3
    simp only[sxA,sxB,Nat.reduceBEq,Nat.reduceEqDiff,reduceCtorEq,mxA,mxB,Nat.reduceAdd,reduceIte,Nat.reduceLeDiff,splice,r8,ei]
    refine⟨xs.length - (i+1),by omega,i+1,by omega,rfl,rfl,fun j hj=>?_,?_,?_,?_,?_⟩
    ·rcases Nat.lt_or_ge j i with h | h
     ·exact hall j h
     ·rw[show j=i by omega];exact h3
    all_goals simp only[uxA,uxB,Nat.reduceBEq,r0,r1,r7]
  ·have h2:i=xs.length:=by have:=of_decide_eq_false h2;omega
   subst h2
   simp only[sxA,sxB,Nat.reduceBEq,Nat.reduceEqDiff,reduceCtorEq,mxA,mxB,Nat.reduceAdd,reduceIte,Nat.reduceLeDiff,splice,ZQ]
   exact .mk (Nat.le_refl _) ⟨by rw[QZ,Qmt x xs 0 hall],rfl⟩
theorem WC (x:Lf) (k:Int) (H:Qa) (hx:x.At H):Qf prog Q6 [.agg x.cells.toArray,.int .i64 k] H fun u H'=>u=.int .i64 (QZ x.f.slots k)∧∃m,H'=H.up m:=by
 refine Qjh fun hw=>?_
 obtain⟨l1,l2,h1,h2⟩:=hx
 obtain⟨a2,c2,e2,_⟩:=id h2
 simp only[Lf.cells,Qdr,e2,sxA,sxB,Nat.reduceBEq,Nat.reduceEqDiff,reduceCtorEq,mxA,mxB,Nat.reduceAdd,reduceIte,Nat.reduceLeDiff,splice]
 rw[← e2]
 refine(Qit _ x.f.slots k _ (h2.ext hw ((Ext.refl H).push _)) l2).mono ?_
 rintro _ _ ⟨rfl,rfl⟩
 simp only[sxA,sxB,Nat.reduceBEq,Nat.reduceEqDiff,reduceCtorEq,mxA,mxB,Nat.reduceAdd,reduceIte,Nat.reduceLeDiff,splice,Qid]
 exact .ext hw ((Ext.refl H).push _) ⟨rfl,_,rfl⟩
theorem Qpp {H:Qa} {l:List Int} {y:Lf} {ys:List Lf} (hy:y.At H) (h:ints l=QS (y::ys)):False:=by
 have h1:(ints l)[1]? = some y.sv:=by rw[h];simp[QS,Lf.cells]
 obtain⟨a,c,e,_⟩:=hy.2.2.1
 rw[e]at h1
 unfold ints at h1
 rw[List.getElem?_map]at h1
 cases hl:l[1]? with
 | none=>rw[hl]at h1;cases h1
 | some z=>rw[hl]at h1;cases h1
def Acc (H0 H:Qa) (v:Value) (ys:List Lf):Prop:=(v=.slice none 0 0∧ys=[])∨(∃b,v=.slice (some ⟨b,0,none⟩) ys.length (UNK+10)∧H0.next≤b∧H.get b=some (.cells (QS ys) Qc false)∧ys≠[]∧∀y∈ys,y.At H)
theorem Acc.ext {H0 H H':Qa} {v:Value} {ys:List Lf} (hw:H.Wf) (hx:Ext H H') (h:Acc H0 H v ys):Acc H0 H' v ys:=by
 rcases h with h | ⟨b,h1,h2,h3,h4,h5⟩
 ·exact .inl h
 ·exact .inr ⟨b,h1,h2,by rw[hx.get _ (hw.lt h3)];exact h3,h4,fun y hy=>(h5 y hy).ext hw hx⟩
theorem Acc.fms {H0 H:Qa} {v:Value} {ys:List Lf} (h:Acc H0 H v ys):Qis H v ys:=by
 rcases h with⟨rfl,rfl⟩ | ⟨b,rfl,h2,h3,h4,h5⟩
 ·exact⟨⟨none,0,rfl,fun h=>by simp at h⟩,fun x hx=>by cases hx⟩
 ·exact⟨⟨_,_,rfl,fun _=>⟨b,_,_,rfl,h3⟩⟩,h5⟩
theorem KX.kill {H:Qa} {v:Value} {l:List Int} {b:Nat} {y:Lf} {ys:List Lf} {e:TypeId} {ro:Bool} (hb:H.get b=some (.cells (QS (y::ys)) e ro)) (hy:y.At H) (h:KX H v l.length (ints l)):KX (H.kill b) v l.length (ints l):=by
 obtain⟨a,cap,rfl,h1⟩:=h
 refine⟨a,cap,rfl,fun hn=>?_⟩
 obtain⟨b1,e1,ro1,rfl,hb1⟩:=h1 hn
 refine⟨b1,e1,ro1,rfl,?_⟩
 have:b1≠b:=fun e=>by
  subst e
  rw[hb]at hb1
  simp only[Option.some.injEq,Blk.cells.injEq]at hb1
  exact Qpp hy hb1.1.symm
 rw[Qa.get_kill,if_neg this];exact hb1
theorem Lf.At.kill {H:Qa} {x:Lf} {b:Nat} {ys:List Lf} {e:TypeId} {ro:Bool} (hb:H.get b=some (.cells (QS ys) e ro)) (hn:ys≠[]) (hy:∀y∈ys,y.At H) (h:x.At H):x.At (H.kill b):=by
 cases ys with
 | nil=>exact absurd rfl hn
 | cons y ys=>exact⟨h.1,h.2.1,h.2.2.1.kill hb (hy y (List.mem_cons_self ..)),h.2.2.2.kill hb (hy y (List.mem_cons_self ..))⟩
def Qw4 (H:Qa) (g:Value) (p:Fm→Bool):Prop:=∃ (f:FuncId) (ys:List Value),g=.func (.func f) #[] ys.toArray∧∀ (x:Lf) H',Ext H H'→x.At H'→Qf prog f ([.agg x.cells.toArray]++ys) H' fun u H''=>u=.bool (p x.f)∧∃m,H''=H'.up m
def Qu9 (n cap:Nat):Prop:=cap=UNK+1∨(n≤cap∧cap<UNK)
def SlF (M:Nat) (v:Value) (l:List Int):Prop:=(l=[]∧v=.slice none 0 0)∨(l≠[]∧∃b cap,v=.slice (some ⟨b,0,none⟩) l.length cap∧M≤b∧Qu9 l.length cap)
theorem SlF.mono {M M':Nat} {v:Value} {l:List Int} (hm:M'≤M) (h:SlF M v l):SlF M' v l:=by
 rcases h with h | ⟨h,b,cap,h1,h2,h3⟩
 ·exact .inl h
 ·exact .inr ⟨h,b,cap,h1,by omega,h3⟩
def Lf.Fr (M:Nat) (x:Lf):Prop:=SlF M x.sv x.f.shapes∧SlF M x.tv x.f.slots
theorem Lf.Fr.mono {M M':Nat} {x:Lf} (hm:M'≤M) (h:x.Fr M):x.Fr M':=⟨h.1.mono hm,h.2.mono hm⟩
def QbM (T:Qa→Prop) (f:FuncId) (L:List Fm):Prop:=∀H,T H→Qf prog f [] H fun u H'=>Ext H H'∧∃xs:List Lf,xs.map (·.f)=L∧Acc H H' u xs∧xs.length≤1000∧∀x∈xs,x.Fr H.next
theorem Acc.mono {H0 H1 H:Qa} {v:Value} {ys:List Lf} (hn:H0.next≤H1.next) (h:Acc H1 H v ys):Acc H0 H v ys:=by
 rcases h with h | ⟨b,h1,h2,h3⟩
 ·exact .inl h
 ·exact .inr ⟨b,h1,by omega,h3⟩
def QbN (H H':Qa) (v:Value):Prop:=∀id bl,H.get id=some bl→(∀a l c,v=.slice (some a) l c→id≠a.block)→H'.get id=some bl
theorem QbN.ints {H0 H H':Qa} {v s:Value} {ys:List Lf} {l:List Int} (hk:QbN H H' v) (ha:Acc H0 H v ys) (h:KX H s l.length (ints l)):KX H' s l.length (ints l):=by
 obtain⟨a,cap,rfl,h1⟩:=h
 refine⟨a,cap,rfl,fun hn=>?_⟩
 obtain⟨b1,e1,ro1,rfl,hb1⟩:=h1 hn
 refine⟨b1,e1,ro1,rfl,hk _ _ hb1 fun a l c hv e=>?_⟩
 rcases ha with⟨rfl,_⟩ | ⟨b,rfl,h2,h3,h4,h5⟩
 ·cases hv
 ·cases hv
  subst e
  cases ys with
  | nil=>exact h4 rfl
  | cons y ys=>
   rw[h3]at hb1
   simp only[Option.some.injEq,Blk.cells.injEq]at hb1
   exact Qpp (h5 y (List.mem_cons_self ..)) hb1.1.symm
theorem QbN.at {H0 H H':Qa} {v:Value} {ys:List Lf} {x:Lf} (hk:QbN H H' v) (ha:Acc H0 H v ys) (h:x.At H):x.At H':=⟨h.1,h.2.1,hk.ints ha h.2.2.1,hk.ints ha h.2.2.2⟩
theorem QbN.fms {H0 H H':Qa} {v u:Value} {ys xs:List Lf} (hk:QbN H H' v) (ha:Acc H0 H v ys) (h:Qis H u xs) (hne:∀a l c a' l' c',u=.slice (some a) l c→v=.slice (some a') l' c'→a.block≠a'.block):Qis H' u xs:=by
 obtain⟨⟨a,cap,rfl,h1⟩,h2⟩:=h
 refine⟨⟨a,cap,rfl,fun hl=>?_⟩,fun x hx=>hk.at ha (h2 x hx)⟩
 obtain⟨b1,e1,ro1,rfl,hb1⟩:=h1 hl
 exact⟨b1,e1,ro1,rfl,hk _ _ hb1 fun a l c hv=>hne _ _ _ _ _ _ rfl hv⟩
theorem QbN.next {H H':Qa} {v:Value} (_:QbN H H' v):True:=trivial
theorem Acc.app {H0 H:Qa} {v:Value} {ys:List Lf} {x:Lf} {b1:Nat} {K:Value→Qa→Prop} (h:Acc H0 H v ys) (hx:Ext H0 H) (hw:H.Wf) (hxa:x.At H) (hl:ys.length≤100000) (hb1:H.get b1=some (.cells x.cells Qc false)) (hne:∀a l c,v=.slice (some a) l c→a.block≠b1)
  (hK:∀v' H',Ext H0 H'→H'.Wf→H.next≤H'.next→Acc H0 H' v' (ys++[x])→(∀a l c,v'=.slice (some a) l c→H.next≤a.block)→QbN H H' v→K v' H'):Qh1 Qc 10 112 v (.slice (some ⟨b1,0,none⟩) 1 1) H K:=by
 have hsrc:QbU 10 (.slice (some ⟨b1,0,none⟩) 1 1) H=some (1,x.cells):=by
  have:=Qhl (size:=10) (m:=1) (b:=b1) (o:=0) (cap:=1) (c:=x.cells) (e:=Qc) (ro:=false) (H:=H) hb1 (by decide) (by rw[Qp];decide)
  rw[this];rfl
 have a1:=W5 hxa
 have hn0:=hx.next
 rcases id h with⟨rfl,rfl⟩ | ⟨b,rfl,hb0,hgb,hyn,hya⟩
 ·refine Qh6 hsrc a1 (by decide) (by decide) (by decide) ?_
  have hk:QbN H (H.push (.cells x.cells Qc false)) (.slice none 0 0):=fun id bl hg _=>by
   rw[Qa.get_push,if_neg (by have:=hw.lt hg;omega)];exact hg
  refine hK _ _ (hx.push _) (hw.push _) (by simp) (.inr ⟨H.next,rfl,hn0,by rw[Qa.get_push,if_pos rfl];simp[QS],by simp,fun y hy=>?_⟩) (fun a l c e=>by cases e;exact Nat.le_refl _) hk
  simp only[List.nil_append,List.mem_singleton]at hy
  subst hy
  exact hk.at h hxa
 ·have hbl:=hw.lt hgb
  have hbn:b≠b1:=hne _ _ _ rfl
  refine Qh5 rfl hsrc a1 (by decide) (c:=QS ys) hgb (by rw[Wx];omega) (by omega) (by omega) (by unfold UNK;omega) ?_
  have hk:QbN H ((H.kill b).push (.cells (QS ys++x.cells) Qc false)) (.slice (some ⟨b,0,none⟩) ys.length (UNK+10)):=fun id bl hg hn=>by
   rw[Qa.get_push,if_neg (by have:=hw.lt hg;simp;omega),Qa.get_kill,if_neg (hn _ _ _ rfl)];exact hg
  have:=hK (.slice (some ⟨H.next,0,none⟩) (ys.length+1) (UNK+10)) ((H.kill b).push (.cells (QS ys++x.cells) Qc false)) ((hx.kill hb0).push _) ((hw.kill _).push _) (by simp)
   (.inr ⟨H.next,by simp,hn0,by rw[Qa.get_push,if_pos (by simp),QgA],by simp,fun y hy=>?_⟩) (fun a l c e=>by cases e;exact Nat.le_refl _) hk
  ·exact this
  ·simp only[List.mem_append,List.mem_singleton]at hy
   rcases hy with hy | rfl
   ·exact hk.at h (hya y hy)
   ·exact hk.at h hxa
theorem QgB (f:Fn) (xs ys:Array Value):(Value.func f xs ys).cells.toList=[.func f xs ys]:=Eq.trans rfl rfl
theorem Qe8 (f:Fn) (xs ys:Array Value):(Value.func f xs ys).oneCell'=true:=Eq.trans rfl rfl
theorem Qqy (f:FuncId) (l:List Value) (H:Qa) (k:Value→Qa→Prop):cvK (.func (.func f) #[] #[]) prog l H k=Qf prog f l H k:=by
 show Qf prog f (([]:List Value)++l++[]) H k=_
 rw[List.nil_append,List.append_nil]
theorem Qt8 (f:FuncId) (ys l:List Value) (H:Qa) (k:Value→Qa→Prop):cvK (.func (.func f) #[] ys.toArray) prog l H k=Qf prog f (l++ys) H k:=by
 show Qf prog f (([]:List Value)++l++ys) H k=_
 rw[List.nil_append]
def lis:List (Int×Int×FuncId):=[(1,16,Qa5),(16,47,Gx),(48,115,VC),(116,135,VD),(136,262,Qa6),(263,322,Qee)]
def liC (x:Int×Int×FuncId):List Value:=[.int .i64 x.1,.int .i64 x.2.1,.func (.func x.2.2) #[] #[]]
theorem Qjv (H:Qa):Qf prog V0 [] H fun u H'=>u=.slice (some ⟨H.next,0,none⟩) 6 6∧H'=H.push (.cells (lis.flatMap liC) Wl false):=by
 refine Qib fun hw=>?_
 simp only[Qcs,sxA,sxB,Nat.reduceBEq,Nat.reduceEqDiff,reduceCtorEq,mxA,mxB,Nat.reduceAdd,reduceIte,Nat.reduceLeDiff,splice,QgB,Qe8,QgO,Nat.reduceMul,Nat.reduceLeDiff,if_true]
 exact .mk (by simp) ⟨rfl,rfl⟩
theorem Qsb:∀ (l:List (Int×Int×FuncId)) (i:Nat) (p:Int×Int×FuncId),l[i]? = some p→((l.flatMap liC).drop (i * 3)).take 3=liC p
 | [],i,p,h=>by simp at h
 | q::l,0,p,h=>by
  simp at h;subst h
  simp[liC]
 | q::l,i+1,p,h=>by
  have e:((q::l).flatMap liC)=liC q++l.flatMap liC:=by simp
  have n:(liC q).length=3:=rfl
  rw[e,show(i+1) * 3=(liC q).length+i * 3 by rw[n];omega,List.drop_append,List.drop_of_length_le (by omega),List.nil_append,Nat.add_sub_cancel_left]
  exact Qsb l i p (by simpa using h)
def QaJ (LL:FuncId→List Fm) (fr to:Int) (p:Fm→Bool) (l:List (Int×Int×FuncId)):List Fm:=l.flatMap fun x=>bif decide (to<x.1)||decide (fr>x.2.1) then[] else(LL x.2.2).filter p
theorem QbO {T:Qa→Prop} (hT:∀H H',H.Wf→T H→Ext H H'→T H') (LL:FuncId→List Fm) (hL:∀x∈lis,QbM T x.2.2 (LL x.2.2)) (fr to:Int) (g:Value) (p:Fm→Bool) (H:Qa) (hg:Qw4 H g p) (ht:T H):
  Qf prog Jc [.int .i64 fr,.int .i64 to,g] H fun u H'=>Ext H H'∧∃ys:List Lf,ys.map (·.f)=QaJ LL fr to p lis∧Acc H H' u ys∧ys.length≤6000∧∀y∈ys,y.Fr H.next:=by
 refine QfJ fun hw=>?_
 obtain⟨gf,gys,rfl,hg⟩:=hg
 simp only[Qao,sxA,sxB,Nat.reduceBEq,Nat.reduceEqDiff,reduceCtorEq,mxA,mxB,Nat.reduceAdd,reduceIte,Nat.reduceLeDiff,splice]
 refine(Qjv H).thenW ?_
 rintro _ _ hn0 hw0 ⟨rfl,rfl⟩
 simp only[sxA,sxB,Nat.reduceBEq,Nat.reduceEqDiff,reduceCtorEq,mxA,mxB,Nat.reduceAdd,reduceIte,Nat.reduceLeDiff,splice]
 have hbl0:(H.push (.cells (lis.flatMap liC) Wl false)).get H.next=some (.cells (lis.flatMap liC) Wl false):=by rw[Qa.get_push,if_pos rfl]
 have hxp0:Ext H (H.push (.cells (lis.flatMap liC) Wl false)):=(Ext.refl H).push _
 have hnp0:(H.push (.cells (lis.flatMap liC) Wl false)).next=H.next+1:=rfl
 generalize H.push (.cells (lis.flatMap liC) Wl false)=Hp at hw0 hbl0 hxp0 hnp0
 have htp:=hT _ _ hw ht hxp0
 refine QX (fun m A' H'=>∃ (i:Nat) (ys:List Lf),i≤6∧m=6 - i∧H'.Wf∧Ext Hp H'∧ys.map (·.f)=QaJ LL fr to p (lis.take i)∧ys.length≤i * 1000∧Acc Hp H' (A' 7) ys∧(∀y∈ys,y.Fr H.next)∧
  A' 0=.int .i64 fr∧A' 1=.int .i64 to∧A' 2=.func (.func gf) #[] gys.toArray∧A' 12=.slice (some ⟨H.next,0,none⟩) 6 6∧A' 13=.int .i64 6∧A' 14=.int .i64 i) 6 ?_ ?_
 ·refine⟨0,[],Nat.zero_le _,rfl,hw0,.refl _,rfl,Nat.zero_le _,?_,fun y hy=>(by cases hy),?_,?_,?_,?_,?_,?_⟩
  all_goals simp only[uxA,uxB,Nat.reduceBEq]
  ·exact .inl ⟨rfl,rfl⟩
  all_goals rfl
 ·rintro m A' H' ⟨i,ys,hi,rfl,hw1,hx1,hys,hyl,hacc,hyf,r0,r1,r2,r12,r13,r14⟩
  have ht1:=hT _ _ hw0 htp hx1
  have hbl:H'.get H.next=some (.cells (lis.flatMap liC) Wl false):=by rw[hx1.get _ (hw0.lt hbl0)];exact hbl0
  simp only[sxA,sxB,Nat.reduceBEq,Nat.reduceEqDiff,reduceCtorEq,mxA,mxB,Nat.reduceAdd,reduceIte,Nat.reduceLeDiff,splice,r13,r14]
  refine Qg (fun h2=>?_) (fun h2=>?_)
  ·have h2:i<6:=by have:=of_decide_eq_true h2;omega
   have hp:lis[i]? = some (lis[i]'h2):=List.getElem?_eq_getElem h2
   generalize hpe:lis[i]'h2=x at hp
   have hxm:x∈lis:=List.mem_of_getElem? hp
   have c1:(0:Int)≤i∧(i:Int)<((6:Nat):Int):=by omega
   have c3:(i:Int).toNat=i:=by omega
   have c4:i * 3+3≤18:=by omega
   have n1:(lis.flatMap liC).length=18:=rfl
   obtain⟨xa,xb,xf⟩:=x
   have d1:List.take 3 (List.drop (i * 3) (lis.flatMap liC))=[.int .i64 xa,.int .i64 xb,.func (.func xf) #[] #[]]:=Qsb lis i _ hp
   have ei:IntKind.i64.wrap ((i:Int)+1)=((i+1:Nat):Int):=by rw[w64 (by unfold I64;omega)];omega
   simp only[sxA,sxB,Nat.reduceBEq,Nat.reduceEqDiff,reduceCtorEq,mxA,mxB,Nat.reduceAdd,reduceIte,Nat.reduceLeDiff,splice,QgB,Qe8,r0,r1,r12,r14,c1,c3,c4,hbl,n1,d1]
   have htk:lis.take (i+1)=lis.take i++[(xa,xb,xf)]:=by rw[List.take_add_one,hp];rfl
   obtain⟨q1,e1⟩:∃c,decide (to<xa)=c:=⟨_,rfl⟩
   obtain⟨q2,e2⟩:∃c,decide (fr>xb)=c:=⟨_,rfl⟩
   obtain⟨Hn,hHn⟩:∃h,h=(H'.push (.cells [.int .i64 0,.int .i64 0,.nilFunc] Wl false)).set H'.next (.cells [.int .i64 xa,.int .i64 xb,.func (.func xf) #[] #[]] Wl false):=⟨_,rfl⟩
   have hwn:Hn.Wf:=by rw[hHn];exact(hw1.push _).set (by rw[Qa.get_push,if_pos rfl]) _
   have hxp:Ext H' Hn:=by rw[hHn];exact((Ext.refl H').push _).set (Nat.le_refl _) _
   have hgn:Hn.get H'.next=some (.cells [.int .i64 xa,.int .i64 xb,.func (.func xf) #[] #[]] Wl false):=by rw[hHn,Qa.get_set,if_pos rfl]
   have hnn:Hn.next=H'.next+1:=by rw[hHn];rfl
   simp only[← hHn]
   have hskip:(q1||q2)=true→ys.map (·.f)=QaJ LL fr to p (lis.take (i+1)):=fun h=>by
    rw[htk,QaJ,List.flatMap_append,← QaJ,← hys]
    simp[e1,e2,h]
   have hadd:(q1||q2)=false→ys.map (·.f)++(LL xf).filter p=QaJ LL fr to p (lis.take (i+1)):=fun h=>by
    rw[htk,QaJ,List.flatMap_append,← QaJ,← hys]
    simp[e1,e2,h]
   cases q1<;>simp only[sxA,sxB,Nat.reduceBEq,Nat.reduceEqDiff,reduceCtorEq,mxA,mxB,Nat.reduceAdd,reduceIte,Nat.reduceLeDiff,splice,r0,r1,r14,e1,e2,ei,hgn]
   ·cases q2<;>simp only[sxA,sxB,Nat.reduceBEq,Nat.reduceEqDiff,reduceCtorEq,mxA,mxB,Nat.reduceAdd,reduceIte,Nat.reduceLeDiff,splice,r0,r1,r14,ei,hgn,Qqy]
    ·refine(hL _ hxm Hn (hT _ _ hw1 ht1 hxp)).thenW ?_
     rintro u H2 hn2 hw2 ⟨hx2,xs,hxs,hacx,hxl,hxfr⟩
     have hfm:=hacx.fms
     have hfr:∀a l c,u=.slice (some a) l c→Hn.next≤a.block:=fun a l c e=>by
      rcases hacx with⟨rfl,_⟩ | ⟨b,rfl,hb,_⟩
      ·cases e
      ·cases e;exact hb
     obtain⟨aa,cap,rfl,hsl⟩:=id hfm.1
     simp only[sxA,sxB,Nat.reduceBEq,Nat.reduceEqDiff,reduceCtorEq,mxA,mxB,Nat.reduceAdd,reduceIte,Nat.reduceLeDiff,splice]
     have ha2:=(hacc.ext hw1 hxp).ext hwn hx2
     have hx02:Ext Hp H2:=(hx1.trans hxp).trans hx2
     have hge:H.next≤Hn.next:=by have:=hx1.next;have:=hxp.next;omega
     refine QX (fun m A2 H3=>∃ (k:Nat) (zs:List Lf),k≤xs.length∧m=xs.length - k∧H3.Wf∧Ext Hp H3∧zs.map (·.f)=ys.map (·.f)++((xs.take k).map (·.f)).filter p∧zs.length≤ys.length+k∧Acc Hp H3 (A2 7) zs∧Qis H3 (.slice aa xs.length cap) xs∧(∀z∈zs,z.Fr H.next)∧
      (∀a l c b,A2 7=.slice (some a) l c→aa=some b→b.block≠a.block)∧
      A2 0=.int .i64 fr∧A2 1=.int .i64 to∧A2 2=.func (.func gf) #[] gys.toArray∧A2 12=.slice (some ⟨H.next,0,none⟩) 6 6∧A2 13=.int .i64 6∧A2 14=.int .i64 i∧A2 30=.slice aa xs.length cap∧A2 31=.int .i64 xs.length∧A2 32=.int .i64 k) xs.length ?_ ?_
     ·refine⟨0,ys,Nat.zero_le _,rfl,hw2,hx02,by simp,by omega,?_,hfm,hyf,?_,?_,?_,?_,?_,?_,?_,?_,?_,?_⟩
      all_goals simp only[uxA,uxB,Nat.reduceBEq,r0,r1,r2,r12,r13,r14]
      ·exact ha2
      ·intro a l c b hv hb
       subst hb
       have h1:=hfr _ _ _ rfl
       rcases hacc with⟨h,_⟩ | ⟨b2,h,_,h3,_⟩
       ·rw[h]at hv;cases hv
       ·rw[h]at hv;cases hv
        have:=hw1.lt h3
        simp only
        omega
      all_goals rfl
     ·rintro m A2 H3 ⟨k,zs,hk,rfl,hw3,hx3,hzs,hzl,hac3,hfm3,hzf,hne3,s0,s1,s2,s12,s13,s14,s30,s31,s32⟩
      simp only[sxA,sxB,Nat.reduceBEq,Nat.reduceEqDiff,reduceCtorEq,mxA,mxB,Nat.reduceAdd,reduceIte,Nat.reduceLeDiff,splice,s31,s32]
      refine Qg (fun h3=>?_) (fun h3=>?_)
      ·have h3:k<xs.length:=by have:=of_decide_eq_true h3;omega
       obtain⟨⟨a4,cap4,e4,hsl3⟩,hxa3⟩:=id hfm3
       cases e4
       obtain⟨b1,e1',ro1,rfl,hb1⟩:=hsl3 (by omega)
       have d1:(0:Int)≤k∧(k:Int)<xs.length:=by omega
       have d3:(k:Int).toNat=k:=by omega
       have d4:k * 10+10≤xs.length * 10:=by omega
       have ek:IntKind.i64.wrap ((k:Int)+1)=((k+1:Nat):Int):=by rw[w64 (by unfold I64;omega)];omega
       have hpk:=List.getElem?_eq_getElem h3
       have dd:=Zq xs k _ hpk
       have nn:=Wx xs
       have hym:xs[k]∈xs:=List.getElem_mem h3
       have wk:=hxa3 _ hym
       have wf:(xs[k]).Fr H.next:=(hxfr _ hym).mono hge
       have hxtk:xs.take (k+1)=xs.take k++[xs[k]]:=List.take_succ_eq_append_getElem h3
       generalize xs[k]=x at hpk dd hym wk wf hxtk
       have ak:=W5 wk
       simp only[sxA,sxB,Nat.reduceBEq,Nat.reduceEqDiff,reduceCtorEq,mxA,mxB,Nat.reduceAdd,reduceIte,Nat.reduceLeDiff,splice,s0,s1,s2,s30,s32,d1,d3,d4,hb1,nn,dd,Qp,QW,ak]
       obtain⟨G1,hG1⟩:∃h,h=(H3.push (.cells [.int .i64 0,.slice none 0 0,.slice none 0 0,.int .i64 0,.int .i64 0,.int .i64 0,.int .i64 0,.int .i64 0,.bool false,.int .i64 0] Qc false)).set H3.next (.cells x.cells Qc false):=⟨_,rfl⟩
       have hwG1:G1.Wf:=by rw[hG1];exact(hw3.push _).set (by rw[Qa.get_push,if_pos rfl]) _
       have hxG1:Ext H3 G1:=by rw[hG1];exact((Ext.refl H3).push _).set (Nat.le_refl _) _
       have hgG1:G1.get H3.next=some (.cells x.cells Qc false):=by rw[hG1,Qa.get_set,if_pos rfl]
       have hnG1:G1.next=H3.next+1:=by rw[hG1];rfl
       simp only[← hG1,Qt8]
       have hxH3:Ext H H3:=hxp0.trans hx3
       refine(hg x G1 (hxH3.trans hxG1) (wk.ext hw3 hxG1)).thenW ?_
       rintro _ G2 hn4 hw4 ⟨rfl,m4,rfl⟩
       simp only[Qa.next_up]at hn4
       have hxG2:Ext H3 (G1.up m4):=hxG1.up hn4
       have hgG2:(G1.up m4).get H3.next=some (.cells x.cells Qc false):=by rw[Qa.get_up];exact hgG1
       have hnG2:H3.next+1≤(G1.up m4).next:=by simp only[Qa.next_up];omega
       generalize G1.up m4=G2 at hw4 hxG2 hgG2 hnG2
       have hfil:((xs.take (k+1)).map (·.f)).filter p=((xs.take k).map (·.f)).filter p++bif p x.f then[x.f] else[]:=by
        rw[hxtk,List.map_append,List.filter_append]
        cases hpx:p x.f<;>simp[hpx]
       simp only[sxA,sxB,Nat.reduceBEq,Nat.reduceEqDiff,reduceCtorEq,mxA,mxB,Nat.reduceAdd,reduceIte,Nat.reduceLeDiff,splice]
       cases hpx:p x.f
       ·rw[hpx]at hfil
        simp only[sxA,sxB,Nat.reduceBEq,Nat.reduceEqDiff,reduceCtorEq,mxA,mxB,Nat.reduceAdd,reduceIte,Nat.reduceLeDiff,splice,s32,ek]
        refine⟨xs.length - (k+1),by omega,k+1,zs,by omega,rfl,hw4,hx3.trans hxG2,by rw[hfil,hzs];simp,by omega,?_,hfm3.ext hw3 hxG2,hzf,?_,?_,?_,?_,?_,?_,?_,?_,?_,?_⟩
        all_goals simp only[uxA,uxB,Nat.reduceBEq,s0,s1,s2,s12,s13,s14,s30,s31]
        ·exact hac3.ext hw3 hxG2
        ·exact fun a l c b h1 h2=>hne3 a l c b h1 (by rw[h2])
       ·rw[hpx]at hfil
        simp only[sxA,sxB,Nat.reduceBEq,Nat.reduceEqDiff,reduceCtorEq,mxA,mxB,Nat.reduceAdd,reduceIte,Nat.reduceLeDiff,splice,hgG2,Qp,QW,ak]
        have hac5:=(hac3.ext hw3 hxG2).ext hw4 ((Ext.refl G2).push (.cells x.cells Qc false))
        have hx5:Ext H3 (G2.push (.cells x.cells Qc false)):=hxG2.push _
        have hb5:=hfm3.ext hw3 hx5
        refine Acc.app hac5 (hx3.trans hx5) (hw4.push _) (wk.ext hw3 hx5) (by omega) (by rw[Qa.get_push,if_pos rfl]) (fun a l c hv e=>?_) fun v' H6 y1 y2 y3 y4 y5 y6=>?_
        ·rcases hac3 with⟨h,_⟩ | ⟨b2,h,_,h3',_⟩
         ·rw[h]at hv;cases hv
         ·rw[h]at hv;cases hv
          have:=hw3.lt h3'
          simp only at e
          omega
        ·simp only[sxA,sxB,Nat.reduceBEq,Nat.reduceEqDiff,reduceCtorEq,mxA,mxB,Nat.reduceAdd,reduceIte,Nat.reduceLeDiff,splice,s32,ek]
         refine⟨xs.length - (k+1),by omega,k+1,zs++[x],by omega,rfl,y2,y1,by rw[hfil,List.map_append,hzs];simp,by simp;omega,?_,y6.fms hac5 hb5 fun a l c a' l' c' ha hv=>?_,?_,?_,?_,?_,?_,?_,?_,?_,?_,?_,?_⟩
         rotate_left 2
         ·intro z hz
          simp only[List.mem_append,List.mem_singleton]at hz
          rcases hz with hz | rfl
          ·exact hzf z hz
          ·exact wf
         ·intro a l c b hv hb
          cases hb
          simp only[uxA,uxB,Nat.reduceBEq]at hv
          have h1:=y5 a l c hv
          have h2:=hw3.lt hb1
          simp only[Qa.next_push]at h1
          simp only
          omega
         rotate_right 2
         ·simp only[uxA,uxB,Nat.reduceBEq]
          exact y4
         ·cases ha
          exact hne3 _ _ _ _ hv rfl
         all_goals simp only[uxA,uxB,Nat.reduceBEq,s0,s1,s2,s12,s13,s14,s30,s31]
      ·have h3:k=xs.length:=by have:=of_decide_eq_false h3;omega
       subst h3
       simp only[sxA,sxB,Nat.reduceBEq,Nat.reduceEqDiff,reduceCtorEq,mxA,mxB,Nat.reduceAdd,reduceIte,Nat.reduceLeDiff,splice,s14,ei]
       refine⟨6 - (i+1),by omega,i+1,zs,by omega,rfl,hw3,hx3,?_,by omega,?_,hzf,?_,?_,?_,?_,?_,?_⟩
       ·rw[← hadd rfl,hzs,List.take_of_length_le (Nat.le_refl _),hxs]
       all_goals simp only[uxA,uxB,Nat.reduceBEq,s0,s1,s2,s12,s13]
       exact hac3
    ·refine⟨6 - (i+1),by omega,i+1,ys,by omega,rfl,hwn,hx1.trans hxp,hskip rfl,by omega,?_,hyf,?_,?_,?_,?_,?_,?_⟩
     all_goals simp only[uxA,uxB,Nat.reduceBEq,r0,r1,r2,r12,r13]
     exact hacc.ext hw1 hxp
   ·refine⟨6 - (i+1),by omega,i+1,ys,by omega,rfl,hwn,hx1.trans hxp,hskip rfl,by omega,?_,hyf,?_,?_,?_,?_,?_,?_⟩
    all_goals simp only[uxA,uxB,Nat.reduceBEq,r0,r1,r2,r12,r13]
    exact hacc.ext hw1 hxp
  ·have h2:i=6:=by have:=of_decide_eq_false h2;omega
   subst h2
   simp only[sxA,sxB,Nat.reduceBEq,Nat.reduceEqDiff,reduceCtorEq,mxA,mxB,Nat.reduceAdd,reduceIte,Nat.reduceLeDiff,splice,QeV]
   exact .mk (by have:=hx1.next;omega) ⟨hxp0.trans hx1,ys,hys,hacc.mono (by omega),by omega,hyf⟩
def WL (n:Int):List UInt8:=bif n==1 then[15] else bif n==2 then[15,56] else bif n==3 then[15,58] else[]
theorem QbQ (n:Int) (H:Qa):Qf prog Yp [.int .i64 n] H fun u H'=>u=.string (mkS (WL n))∧H'=H:=by
 refine QfL fun hw=>?_
 simp only[Qap,sxA,sxB,mxA,mxB,splice,simprocAttr]
 cases h1:n==1<;>simp only[sxA,sxB,mxA,mxB,splice,simprocAttr,JQ]
 ·cases h2:n==2<;>simp only[sxA,sxB,mxA,mxB,splice,simprocAttr,JQ]
  ·cases h3:n==3<;>simp only[sxA,sxB,mxA,mxB,splice,simprocAttr,JQ]
   ·exact .mk (Nat.le_refl _) ⟨by simp[WL,h1,h2,h3],rfl⟩
   ·exact .mk (Nat.le_refl _) ⟨by simp[WL,h1,h2,h3],rfl⟩
  ·exact .mk (Nat.le_refl _) ⟨by simp[WL,h1,h2],rfl⟩
 ·exact .mk (Nat.le_refl _) ⟨by simp[WL,h1],rfl⟩
def Qfa (n b:Int):Bool:=!(IntKind.i64.wrap (BitVec.ofInt IntKind.i64.bits n &&& BitVec.ofInt IntKind.i64.bits b).toNat==0)
def Qh (f:Fm):List UInt8:=(bif Qfa f.pre 1 then[102] else[])++((bif Qfa f.pre 2 then[242] else[])++((bif Qfa f.pre 4 then[243] else[])++WL f.map))
theorem Qsd (n:Int):(WL n).length≤2:=by unfold WL;cases n==1<;>cases n==2<;>cases n==3<;>simp
theorem QdO (x:Lf) (H:Qa) (hx:x.At H):Qf prog Ko [.agg x.cells.toArray] H fun u H'=>u=.string (mkS (Qh x.f))∧∃m,H'=H.up m:=by
 refine Qic fun hw=>?_
 have ec:(Value.agg x.cells.toArray).cells.toList=x.cells:=rfl
 have g3:x.cells[3]? = some (.int .i64 x.f.pre):=rfl
 have g4:x.cells[4]? = some (.int .i64 x.f.map):=rfl
 have he:=Qsd x.f.map
 obtain⟨q1,h1⟩:∃c,Qfa x.f.pre 1=c:=⟨_,rfl⟩
 obtain⟨q2,h2⟩:∃c,Qfa x.f.pre 2=c:=⟨_,rfl⟩
 obtain⟨q3,h3⟩:∃c,Qfa x.f.pre 4=c:=⟨_,rfl⟩
 have d1:(!(IntKind.i64.wrap (BitVec.ofInt IntKind.i64.bits x.f.pre &&& BitVec.ofInt IntKind.i64.bits 1).toNat==0))=q1:=h1
 have d2:(!(IntKind.i64.wrap (BitVec.ofInt IntKind.i64.bits x.f.pre &&& BitVec.ofInt IntKind.i64.bits 2).toNat==0))=q2:=h2
 have d3:(!(IntKind.i64.wrap (BitVec.ofInt IntKind.i64.bits x.f.pre &&& BitVec.ofInt IntKind.i64.bits 4).toNat==0))=q3:=h3
 simp only[Qct,ec,sxA,sxB,mxA,mxB,splice,simprocAttr,g3,d1]
 have fin:∀ (l:List UInt8) (K:Value→Qa→Prop),l.length≤3→K (.string (mkS (l++WL x.f.map))) (H.push (.cells x.cells Qc false))→True:=fun _ _ _ _=>trivial
 cases q1<;>simp only[sxA,sxB,mxA,mxB,splice,simprocAttr,Qb9,g3,d2,List.length_nil,List.length_cons,Nat.zero_add,Nat.reduceAdd,Nat.reduceLeDiff,true_and,List.nil_append,List.cons_append]
 all_goals cases q2<;>simp only[sxA,sxB,mxA,mxB,splice,simprocAttr,Qb9,g3,d3,List.length_nil,List.length_cons,Nat.zero_add,Nat.reduceAdd,Nat.reduceLeDiff,true_and,List.nil_append,List.cons_append]
 all_goals cases q3<;>simp only[sxA,sxB,mxA,mxB,splice,simprocAttr,Qb9,g4,List.length_nil,List.length_cons,Nat.zero_add,Nat.reduceAdd,Nat.reduceLeDiff,true_and,List.nil_append,List.cons_append]
 all_goals
  refine(QbQ x.f.map _).mono ?_
  rintro _ _ ⟨rfl,rfl⟩
  simp only[sxA,sxB,mxA,mxB,splice,simprocAttr,Qb9,QgP]
  refine⟨by first | omega | (simp only[List.length_nil,List.length_cons];omega),.ext hw ((Ext.refl H).push _) ⟨by simp[Qh,h1,h2,h3],_,rfl⟩⟩
def Quc (c:Int):Int:=IntKind.i64.wrap (IntKind.u8.wrap (BitVec.ofInt IntKind.u8.bits c &&& ~~~BitVec.ofInt IntKind.u8.bits 7).toNat)
def Q0 (f:Fm) (d:Nat) (c:Int):Bool:=
 bif f.vex then(d==0)&&((c==196)||((c==197)&&(f.map==1)&&!(f.w==1)))
 else match (Qh f)[d]? with
  | some b=>c==(b.toNat:Int)
  | none=>bif Nat.blt (Qh f).length d then false else bif decide (0≤QZ f.slots 4) then Quc c==f.code else IntKind.i64.wrap c==f.code
theorem Qiv (x:Lf) (d:Nat) (c:Int) (H:Qa) (hx:x.At H):Qf prog GL [.agg x.cells.toArray,.int .i64 d,.int .u8 c] H fun u H'=>u=.bool (Q0 x.f d c)∧∃m,H'=H.up m:=by
 refine QgQ fun hw=>?_
 have ec:(Value.agg x.cells.toArray).cells.toList=x.cells:=rfl
 have g8:x.cells[8]? = some (.bool x.f.vex):=rfl
 have g4:x.cells[4]? = some (.int .i64 x.f.map):=rfl
 have g5:x.cells[5]? = some (.int .i64 x.f.code):=rfl
 have g7:x.cells[7]? = some (.int .i64 x.f.w):=rfl
 have ha:=W5 hx
 have hx1:Ext H (H.push (.cells x.cells Qc false)):=(Ext.refl H).push _
 simp only[Qbs,ec,sxA,sxB,mxA,mxB,splice,simprocAttr,g8]
 cases hv:x.f.vex with
 | true=>
  have ed:((d:Int)==0)=(d==0):=by
   rw[Bool.eq_iff_iff];simp
  simp only[sxA,sxB,mxA,mxB,splice,simprocAttr,ed]
  have ht:Q0 x.f d c=((d==0)&&((c==196)||((c==197)&&(x.f.map==1)&&!(x.f.w==1)))):=by simp[Q0,hv]
  rw[ht]
  cases h1:d==0<;>simp only[sxA,sxB,mxA,mxB,splice,simprocAttr,Wt]
  ·exact .ext hw hx1 ⟨rfl,_,rfl⟩
  cases h2:c==196<;>simp only[sxA,sxB,mxA,mxB,splice,simprocAttr,Wt]
  ·cases h3:c==197<;>simp only[sxA,sxB,mxA,mxB,splice,simprocAttr,g4,Wt]
   ·exact .ext hw hx1 ⟨rfl,_,rfl⟩
   cases h4:x.f.map==1<;>simp only[sxA,sxB,mxA,mxB,splice,simprocAttr,g7,Wt]
   ·exact .ext hw hx1 ⟨rfl,_,rfl⟩
   exact .ext hw hx1 ⟨by simp,_,rfl⟩
  ·exact .ext hw hx1 ⟨rfl,_,rfl⟩
 | false=>
  simp only[sxA,sxB,mxA,mxB,splice,simprocAttr,Qp,QW,ha]
  refine(QdO x _ (hx.ext hw hx1)).thenW ?_
  rintro _ _ hn hw2 ⟨rfl,m,rfl⟩
  simp only[Qa.next_up,Qa.next_push]at hn
  have hx2:Ext H ((H.push (.cells x.cells Qc false)).up m):=hx1.up (by simp only[Qa.next_push];exact hn)
  have hg2:((H.push (.cells x.cells Qc false)).up m).get H.next=some (.cells x.cells Qc false):=by rw[Qa.get_up,Qa.get_push,if_pos rfl]
  have hb2:H.next<((H.push (.cells x.cells Qc false)).up m).next:=by simp only[Qa.next_up];omega
  have eu:∀m',((H.push (.cells x.cells Qc false)).up m).up m'=(H.push (.cells x.cells Qc false)).up m':=fun _=>rfl
  simp only[sxA,sxB,mxA,mxB,splice,simprocAttr,Qb9]
  have hfin:∀ (H2:Qa),Ext H H2→∀ (b:Bool),b=Q0 x.f d c→Ret H (fun u H'=>u=.bool (Q0 x.f d c)∧∃m,H'=H.up m) (.bool b) H2:=fun H2 h2 b hb=>.ext hw h2 ⟨by rw[hb],_,rfl⟩
  cases hl:decide ((d:Int)<((Qh x.f).length:Int)) with
  | true=>
   have hl:d<(Qh x.f).length:=by have:=of_decide_eq_true hl;omega
   have c1:(0:Int)≤d:=by omega
   have c2:(d:Int).toNat=d:=by omega
   have hg:=List.getElem?_eq_getElem hl
   simp only[sxA,sxB,mxA,mxB,splice,simprocAttr,Qb9,c1,c2,hg,Wt]
   refine hfin _ hx2 _ ?_
   simp[Q0,hv,hg]
  | false=>
   have hl:(Qh x.f).length≤d:=by have:=of_decide_eq_false hl;omega
   have hg:(Qh x.f)[d]? = none:=List.getElem?_eq_none hl
   simp only[sxA,sxB,mxA,mxB,splice,simprocAttr,Qb9]
   cases hl2:decide (((Qh x.f).length:Int)<(d:Int)) with
   | true=>
    have hl2:(Qh x.f).length<d:=by have:=of_decide_eq_true hl2;omega
    simp only[sxA,sxB,mxA,mxB,splice,simprocAttr,Wt]
    refine hfin _ hx2 _ ?_
    have:Nat.blt (Qh x.f).length d=true:=by simpa using hl2
    simp[Q0,hv,hg,this]
   | false=>
    have hl2:¬ (Qh x.f).length<d:=by have:=of_decide_eq_false hl2;omega
    have hb:Nat.blt (Qh x.f).length d=false:=by
     cases hb:Nat.blt (Qh x.f).length d with
     | false=>rfl
     | true=>exact absurd (by simpa using hb) hl2
    simp only[sxA,sxB,mxA,mxB,splice,simprocAttr,Qp,QW,ha]
    refine(WC x 4 _ (hx.ext hw hx2)).thenW ?_
    rintro _ _ hn3 hw3 ⟨rfl,m3,rfl⟩
    simp only[Qa.next_up]at hn3
    rw[eu]
    have hx3:Ext H ((H.push (.cells x.cells Qc false)).up m3):=hx1.up (by simp only[Qa.next_push];omega)
    simp only[sxA,sxB,mxA,mxB,splice,simprocAttr]
    cases h0:decide (0≤QZ x.f.slots 4) with
    | true=>
     simp only[sxA,sxB,mxA,mxB,splice,simprocAttr,g5,Wt]
     refine hfin _ hx3 _ ?_
     simp[Q0,hv,hg,hb,h0,Quc]
    | false=>
     simp only[sxA,sxB,mxA,mxB,splice,simprocAttr,g5,Wt]
     refine hfin _ hx3 _ ?_
     simp[Q0,hv,hg,hb,h0]
def cS (id:Nat) (l:List Int):Value:=match l with
 | []=>.slice none 0 0
 | _::_=>.slice (some ⟨id,0,none⟩) l.length (UNK+1)
def Qg2 (M:Nat):Nat→List Fm→List Lf
 | _,[]=>[]
 | i,x::xs=>⟨x,cS (M+1+2 * i) x.shapes,cS (M+2+2 * i) x.slots⟩::Qg2 M (i+1) xs
theorem QmL (M:Nat):∀ (L:List Fm) (i k:Nat),(Qg2 M i L)[k]? = (L[k]?).map fun x=>⟨x,cS (M+1+2 * (i+k)) x.shapes,cS (M+2+2 * (i+k)) x.slots⟩
 | [],i,k=>by simp[Qg2]
 | x::xs,i,0=>by simp[Qg2]
 | x::xs,i,k+1=>by
  simp only[Qg2,List.getElem?_cons_succ,QmL M xs (i+1) k]
  rw[show i+1+k=i+(k+1) by omega]
theorem QgE (M:Nat):∀ (L:List Fm) (i:Nat),(Qg2 M i L).length=L.length
 | [],i=>rfl
 | x::xs,i=>by simp[Qg2,QgE M xs (i+1)]
def QbR:List Fm→List Row
 | []=>[]
 | x::xs=>⟨0,ints x.shapes,3,true⟩::⟨0,ints x.slots,3,true⟩::QbR xs
theorem Qbk:∀L:List Fm,(QbR L).length=2 * L.length
 | []=>rfl
 | x::xs=>by simp[QbR,Qbk xs];omega
theorem Qj7:∀ (L:List Fm) (k:Nat) (r:Row),(QbR L)[k]? = some r→∃x,L[k / 2]? = some x∧r=⟨0,if k % 2=0 then ints x.shapes else ints x.slots,3,true⟩
 | [],k,r,h=>by simp[QbR]at h
 | x::xs,0,r,h=>by simp[QbR]at h;exact⟨x,rfl,by simp[← h]⟩
 | x::xs,1,r,h=>by simp[QbR]at h;exact⟨x,rfl,by simp[← h]⟩
 | x::xs,k+2,r,h=>by
  simp only[QbR,List.getElem?_cons_succ]at h
  obtain⟨y,h1,h2⟩:=Qj7 xs k r h
  refine⟨y,by rw[show(k+2) / 2=k / 2+1 by omega];simpa using h1,?_⟩
  rw[h2,show(k+2) % 2=k % 2 by omega]
def Ji (M:Nat) (L:List Fm):List Row:=match L with
 | []=>[]
 | _::_=>⟨0,QS (Qg2 M 0 L),Qc,true⟩::QbR L
def QqM (M:Nat) (L:List Fm):Value:=match L with
 | []=>.slice none 0 0
 | _::_=>.slice (some ⟨M,0,none⟩) L.length (UNK+10)
theorem Qxg (id:Nat) (l:List Int):okD 6 (cS id l)=true:=by cases l<;>rfl
theorem Qps (l:List Int):(ints l).all (okD 6)=true:=by
 rw[List.all_eq_true]
 intro v hv
 simp only[ints,List.mem_map]at hv
 obtain⟨x,_,rfl⟩:=hv
 rfl
theorem Qpt (M:Nat):∀ (L:List Fm) (i:Nat),(QS (Qg2 M i L)).all (okD 6)=true
 | [],i=>rfl
 | x::xs,i=>by
  have ih:=Qpt M xs (i+1)
  simp only[Qg2,QS,List.flatMap_cons,List.all_append,Bool.and_eq_true]at ih ⊢
  refine⟨?_,ih⟩
  simp only[Lf.cells,List.all_cons,List.all_nil,Qxg,Bool.and_true,Bool.true_and]
  rfl
theorem QmM:∀ (L:List Fm),∀r∈QbR L,r.ro=true∧r.c.all (okD 6)=true
 | [],r,h=>by cases h
 | x::xs,r,h=>by
  simp only[QbR,List.mem_cons]at h
  rcases h with rfl | rfl | h
  ·exact⟨rfl,Qps _⟩
  ·exact⟨rfl,Qps _⟩
  ·exact QmM xs r h
theorem QiB (M:Nat) (L:List Fm):∀r∈Ji M L,r.ro=true∧r.c.all (okD 6)=true:=fun r h=>by
 cases L with
 | nil=>cases h
 | cons x xs=>
  simp only[Ji,List.mem_cons]at h
  rcases h with rfl | h
  ·exact⟨rfl,Qpt M _ 0⟩
  ·exact QmM _ r h
theorem Qpu (M:Nat) (L:List Fm):okD 6 (QqM M L)=true:=by cases L<;>rfl
theorem V.newSlice {ρ:Ren} {b n cap s:Nat} {z:Value} (h:V ρ (.slice (some ⟨b,0,none⟩) n cap) z):∃inf:XF,(∃i,ρ b=some i∧inf.at_=i.at_)∧∀ (ρc:Ren) (id:Nat),ρc id=some inf→V ρc (.slice (some ⟨id,0,none⟩) n (UNK+s)) z:=by
 cases h with
 | same _ hp=>simp[Ab.plain]at hp
 | slice _ _ _ _ cap' i a' h0 h1 h2 h3 h4 h5=>
  refine⟨⟨i.at_,cap' * s,s⟩,⟨i,h0,rfl⟩,fun ρc id hid=>.slice id 0 n (UNK+s) cap' ⟨i.at_,cap' * s,s⟩ a' hid h1 h2 h3 (fun _=>⟨(Nat.add_sub_cancel_left ..).symm,Nat.zero_add _⟩) (fun hc=>by omega)⟩
theorem Qj8 {M:Nat} {H1:Qa} {v:Value} {ys:List Lf} {H0:Qa} (hm:H0.next=M) (ha:Acc H0 H1 v ys) (hf:∀y∈ys,y.Fr M):Pic prog M H1 v (QqM M (ys.map (·.f))) (Ji M (ys.map (·.f))):=by
 intro ρ1 w v' hs hv
 rcases ha with⟨rfl,rfl⟩ | ⟨b,rfl,hb0,hgb,hyn,hya⟩
 ·refine⟨fun _=>0,fun _=>⟨⟨0,0,none⟩,0,0⟩,fun k hk=>by simp[Ji]at hk,?_,fun k r hr=>by simp[Ji]at hr⟩
  have:=V.plain_eq hv rfl
  subst this
  exact .same _ rfl
 ·obtain⟨inf0,⟨i0,hi0,hat0⟩,hV0⟩:=V.newSlice (s:=10) hv
  have hlive:=hs.live b _ i0 hgb hi0
  obtain⟨y0,ys0,rfl⟩:∃y0 ys0,ys=y0::ys0:=by
   cases ys with
   | nil=>exact absurd rfl hyn
   | cons a l=>exact⟨a,l,rfl⟩
  have eL:(y0::ys0).map (·.f)=y0.f::ys0.map (·.f):=rfl
  generalize hys:y0::ys0=ys at *
  generalize hL:ys.map (·.f)=L at *
  have hLlen:L.length=ys.length:=by rw[← hL];simp
  have hrows:Ji M L=⟨0,QS (Qg2 M 0 L),Qc,true⟩::QbR L:=by rw[eL];rfl
  have hcv:QqM M L=.slice (some ⟨M,0,none⟩) ys.length (UNK+10):=by rw[← hLlen,eL];rfl
  -- what a row of numbers needs
  have one:∀ (l:List Int) (s:Value) (z:Value),SlF M s l→KX H1 s l.length (ints l)→V ρ1 s z→∃ (src:Nat) (inf:XF),(M≤src∧∃i,ρ1 src=some i∧inf.at_=i.at_)∧(∀ (ρc:Ren) (id:Nat),ρc id=some inf→V ρc (cS id l) z)∧∀ρc,Wa prog ρc inf w (.cells (ints l) 3 true):=by
   intro l s z hsf hsl hz
   rcases hsf with⟨rfl,rfl⟩ | ⟨hl,b1,cap,rfl,hb1,_⟩
   ·have:=V.plain_eq hz rfl
    subst this
    exact⟨b,inf0,⟨by omega,i0,hi0,hat0⟩,fun ρc id _=>.same _ rfl,fun ρc=>⟨by rw[hat0];exact hlive.lt,fun j v hj=>by simp[ints]at hj⟩⟩
   ·obtain⟨inf,⟨i,hi,hat⟩,hV⟩:=V.newSlice (s:=1) hz
    obtain⟨a,c,e,h1⟩:=hsl
    cases e
    obtain⟨b2,e2,ro2,e3,hg2⟩:=h1 (List.length_pos_iff.2 hl)
    cases e3
    have hl2:=hs.live b1 _ i hg2 hi
    refine⟨b1,inf,⟨hb1,i,hi,hat⟩,fun ρc id hid=>?_,fun ρc=>⟨by rw[hat];exact hl2.lt,fun j v hj=>?_⟩⟩
    ·have:=hV ρc id hid
     cases l with
     | nil=>exact absurd rfl hl
     | cons _ _=>exact this
    ·obtain⟨v1,h3,h4⟩:=hl2.cellAt hj
     rw[hat]
     refine⟨v1,h3,?_⟩
     have hpl:Ab.plain v=true:=by
      have:=List.mem_of_getElem? hj
      simp only[ints,List.mem_map]at this
      obtain⟨x,_,rfl⟩:=this
      rfl
     rw[h4.plain_eq hpl]
     exact .same _ hpl
  -- the rows,one by one
  have hall:∀k,k<2 * ys.length→∃ (p:Nat×XF),(M≤p.1∧∃i,ρ1 p.1=some i∧p.2.at_=i.at_)∧∀y,ys[k / 2]? = some y→((∀z,w.cell? (i0.at_.add (k / 2 * 10+1+k % 2))=some z→∀ (ρc:Ren) (id:Nat),ρc id=some p.2→V ρc (cS id (if k % 2=0 then y.f.shapes else y.f.slots)) z)∧∀ρc,Wa prog ρc p.2 w (.cells (if k % 2=0 then ints y.f.shapes else ints y.f.slots) 3 true)):=by
   intro k hk
   have hk2:k / 2<ys.length:=by omega
   have hy:=List.getElem?_eq_getElem hk2
   have hym:=List.mem_of_getElem? hy
   generalize ys[k / 2]'hk2=y at hy hym
   have hy1:=hya y hym
   have hy2:=hf y hym
   by_cases h0:k % 2=0
   ·have hc:(QS ys)[k / 2 * 10+1]? = some y.sv:=by rw[VQ ys _ 1 y hy (by decide)];rfl
    obtain⟨z,hz1,hz2⟩:=hlive.cellAt hc
    obtain⟨src,inf,h1,h2,h3⟩:=one _ _ _ hy2.1 hy1.2.2.1 hz2
    refine⟨(src,inf),h1,fun y' hy'=>?_⟩
    rw[hy]at hy';cases hy'
    simp only[h0,if_true,Nat.add_zero]
    exact⟨fun z' hz' ρc id hid=>by rw[hz1]at hz';cases hz';exact h2 ρc id hid,h3⟩
   ·have hc:(QS ys)[k / 2 * 10+2]? = some y.tv:=by rw[VQ ys _ 2 y hy (by decide)];rfl
    obtain⟨z,hz1,hz2⟩:=hlive.cellAt hc
    obtain⟨src,inf,h1,h2,h3⟩:=one _ _ _ hy2.2 hy1.2.2.2 hz2
    refine⟨(src,inf),h1,fun y' hy'=>?_⟩
    rw[hy]at hy';cases hy'
    simp only[h0,if_false,show k % 2=1 by omega]
    exact⟨fun z' hz' ρc id hid=>by rw[hz1]at hz';cases hz';exact h2 ρc id hid,h3⟩
  have hpick:∃g:Nat→Nat×XF,∀k,k<2 * ys.length→(M≤(g k).1∧∃i,ρ1 (g k).1=some i∧(g k).2.at_=i.at_)∧∀y,ys[k / 2]? = some y→((∀z,w.cell? (i0.at_.add (k / 2 * 10+1+k % 2))=some z→∀ (ρc:Ren) (id:Nat),ρc id=some (g k).2→V ρc (cS id (if k % 2=0 then y.f.shapes else y.f.slots)) z)∧∀ρc,Wa prog ρc (g k).2 w (.cells (if k % 2=0 then ints y.f.shapes else ints y.f.slots) 3 true)):=
   ⟨fun k=>if h:k<2 * ys.length then(hall k h).choose else(0,inf0),fun k hk=>by simp only[hk,dif_pos];exact(hall k hk).choose_spec⟩
  obtain⟨g,hg⟩:=hpick
  have hlenr:(Ji M L).length=1+2 * ys.length:=by rw[hrows];simp[Qbk,hLlen];omega
  refine⟨fun k=>if k=0 then b else(g (k - 1)).1,fun k=>if k=0 then inf0 else(g (k - 1)).2,fun k hk=>?_,?_,fun k r hr=>?_⟩
  ·by_cases h0:k=0
   ·subst h0;exact⟨by simp;omega,i0,hi0,hat0⟩
   ·simp only[h0,if_false]
    exact(hg (k - 1) (by omega)).1
  ·rw[hcv]
   refine hV0 _ M ?_
   simp[Qld,hlenr]
  ·have hid:∀k,k<2 * ys.length→Qld M (Ji M L).length ρ1 (fun k=>if k=0 then inf0 else(g (k - 1)).2) (M+1+k)=some (g k).2:=fun k hk=>by
    unfold Qld
    rw[if_neg (by omega),if_pos (by omega)]
    simp only[show ¬M+1+k - M=0 by omega,if_false,show M+1+k - M - 1=k by omega]
   generalize Qld M (Ji M L).length ρ1 (fun k=>if k=0 then inf0 else(g (k - 1)).2)=ρc at hid
   rw[hrows]at hr
   cases k with
   | zero=>
    simp at hr;subst hr
    simp only[if_true]
    refine⟨by rw[hat0];exact hlive.lt,fun j x hj=>?_⟩
    rw[hat0]
    have hjl:j<(QS (Qg2 M 0 L)).length:=(List.getElem?_eq_some_iff.1 hj).1
    rw[Wx,QgE,hLlen]at hjl
    have hq:j / 10<ys.length:=by omega
    have hy:=List.getElem?_eq_getElem hq
    have hym:=List.mem_of_getElem? hy
    generalize ys[j / 10]'hq=y at hy hym
    have hLy:L[j / 10]? = some y.f:=by rw[← hL];simp[hy]
    have hcan:=QmL M L 0 (j / 10)
    rw[hLy]at hcan
    have ej:j=j / 10 * 10+j % 10:=by omega
    have hr10:j % 10<10:=Nat.mod_lt _ (by decide)
    rw[Option.map_some]at hcan
    have hx1:=VQ _ _ _ _ hcan hr10
    have hx2:=VQ _ _ _ _ hy hr10
    rw[← ej]at hx1 hx2
    rw[hj]at hx1
    have h1:=hg (2 * (j / 10)) (by omega)
    have h2:=hg (2 * (j / 10)+1) (by omega)
    rw[show 2 * (j / 10) / 2=j / 10 by omega,show 2 * (j / 10) % 2=0 by omega]at h1
    rw[show(2 * (j / 10)+1) / 2=j / 10 by omega,show(2 * (j / 10)+1) % 2=1 by omega]at h2
    have h1:=(h1.2 y hy).1
    have h2:=(h2.2 y hy).1
    simp only[if_true,Nat.add_zero]at h1
    simp only[show ¬ (1:Nat)=0 by decide,if_false]at h2
    have hp1:=hid (2 * (j / 10)) (by omega)
    have hp2:=hid (2 * (j / 10)+1) (by omega)
    generalize j % 10=r at hr10 ej hx1 hx2
    have plainCase:∀q,(QS ys)[j]? = some q→Ab.plain q=true→x=q→∃v',w.cell? (i0.at_.add j)=some v'∧V ρc x v':=fun q hq1 hq2 hq3=>by
     obtain⟨z,hz1,hz2⟩:=hlive.cellAt hq1
     refine⟨z,hz1,?_⟩
     rw[hz2.plain_eq hq2,hq3]
     exact .same _ hq2
    have hcase:r=0∨r=1∨r=2∨r=3∨r=4∨r=5∨r=6∨r=7∨r=8∨r=9:=by omega
    rcases hcase with rfl | rfl | rfl | rfl | rfl | rfl | rfl | rfl | rfl | rfl
    ·exact plainCase _ hx2 rfl (by simpa[Lf.cells] using hx1)
    ·have hx1:x=cS (M+1+2 * (0+j / 10)) y.f.shapes:=by simpa[Lf.cells] using hx1
     obtain⟨z,hz1,hz2⟩:=hlive.cellAt hx2
     refine⟨z,hz1,?_⟩
     rw[hx1,Nat.zero_add]
     exact h1 z (by rw[← ej];exact hz1) ρc _ hp1
    ·have hx1:x=cS (M+2+2 * (0+j / 10)) y.f.slots:=by simpa[Lf.cells] using hx1
     obtain⟨z,hz1,hz2⟩:=hlive.cellAt hx2
     refine⟨z,hz1,?_⟩
     rw[hx1,Nat.zero_add,show M+2+2 * (j / 10)=M+1+(2 * (j / 10)+1) by omega]
     exact h2 z (by rw[show j / 10 * 10+1+1=j by omega];exact hz1) ρc _ hp2
    all_goals exact plainCase _ hx2 rfl (by simpa[Lf.cells] using hx1)
   | succ k=>
    simp only[List.getElem?_cons_succ]at hr
    have hkl:k<2 * ys.length:=by have:=(List.getElem?_eq_some_iff.1 hr).1;rw[Qbk,hLlen]at this;exact this
    obtain⟨x,h1,rfl⟩:=Qj7 L k r hr
    have hq:k / 2<ys.length:=by omega
    have hy:=List.getElem?_eq_getElem hq
    generalize ys[k / 2]'hq=y at hy
    have:x=y.f:=by rw[← hL]at h1;simp[hy]at h1;exact h1.symm
    subst this
    simp only[show ¬k+1=0 by omega,if_false,Nat.add_sub_cancel]
    exact((hg k hkl).2 y hy).2 ρc
def iI (k:Nat):Int:=bif Nat.beq k 0 then .negSucc 0 else .ofNat (k - 1)
def mkF (op pre mp code dg w vx l:Nat) (sh sl:List Nat):Fm:=⟨.ofNat op,.ofNat pre,.ofNat mp,.ofNat code,iI dg,iI w,.ofNat l,Nat.beq vx 1,sh.map .ofNat,sl.map .ofNat⟩
def Qfh (v:Value) (n:Int):Bool:=match v with | .int .i64 m=>Qal 8 (.int .i64 m) (.int .i64 n) | _=>false
theorem Vk {v:Value} {n:Int} (h:Qfh v n=true):v=.int .i64 n:=by
 unfold Qfh at h
 split at h
 ·exact Qa0 8 _ _ h
 ·cases h
def QoC (v:Value) (b:Bool):Bool:=match v with | .bool c=>(bif c then b else !b) | _=>false
theorem QqN {v:Value} {b:Bool} (h:QoC v b=true):v=.bool b:=by
 unfold QoC at h
 split at h
 ·rename_i c
  cases c<;>cases b<;>first | rfl | cases h
 ·cases h
def Qwj (n c:Nat):Bool:=Nat.beq c (UNK+1)||(Nat.ble n c&&Nat.ble (c+1) UNK)
theorem Quv {n c:Nat} (h:Qwj n c=true):Qu9 n c:=by
 simp only[Qwj,Bool.or_eq_true,Bool.and_eq_true,XG,decide_eq_true_eq,Nat.ble_eq]at h
 rcases h with h | ⟨h1,h2⟩
 ·exact .inl h
 ·exact .inr ⟨h1,h2⟩
def Quw (G:Nat) (rs:List Row) (v:Value) (l:List Int):Bool:=match l with
 | []=>Qal 8 v (.slice none 0 0)
 | _::_=>match v with
  | .slice (some a) n c=>Nat.ble G a.block&&(Nat.beq a.off 0&&(V7 a&&(Nat.beq n l.length&&(Nat.ble n 1000&&(Qwj n c&&(match rs[a.block - G]? with | some r=>ZM (Qal 8) r.c (ints l) | none=>false))))))
  | _=>false
def Qux (G:Nat) (rs:List Row):List Value→List Fm→Bool
 | [],[]=>true
 | a0::a1::a2::a3::a4::a5::a6::a7::a8::a9::cs,x::xs=>Qfh a0 x.op&&(Quw G rs a1 x.shapes&&(Quw G rs a2 x.slots&&(Qfh a3 x.pre&&(Qfh a4 x.map&&(Qfh a5 x.code&&(Qfh a6 x.digit&&(Qfh a7 x.w&&(QoC a8 x.vex&&(Qfh a9 x.l&&Qux G rs cs xs)))))))))
 | _,_=>false
def Quy (G:Nat) (rs:List Row) (u:Value) (L:List Fm):Bool:=match u with
 | .slice (some a) n c=>Nat.ble G a.block&&(Nat.beq a.off 0&&(V7 a&&(Nat.beq n L.length&&(Nat.ble n 1000&&(Nat.ble 1 n&&(Nat.beq c (UNK+10)&&(match rs[a.block - G]? with | some r=>Nat.beq r.e Qc&&(!r.ro&&Qux G rs r.c L) | none=>false)))))))
 | _=>false
theorem QfX {a:Addr} (h:V7 a=true):a.spot=none:=by
 unfold V7 at h
 split at h
 ·assumption
 ·cases h
section
variable {τ:Nat→Nat} {G:Nat} {rs:List Row} {H:Qa}
theorem QsF {b:Nat} (h:G≤b):shM τ G H.next b=H.next+(b - G):=by
 unfold shM;rw[VN];simp[show ¬b<G by omega]
theorem QsG (sh:Nat→Nat) (l:List Int):(ints l).map (shW sh 6)=ints l:=by
 unfold ints
 rw[List.map_map]
 exact List.map_congr_left fun x _=>Qj0 sh 6 _ rfl
theorem Qpv {v:Value} {l:List Int} (h:Quw G rs v l=true):l.length≤1000∧KX (X0 (shM τ G H.next) rs H) (shW (shM τ G H.next) 6 v) l.length (ints l)∧SlF H.next (shW (shM τ G H.next) 6 v) l:=by
 cases l with
 | nil=>
  have:=Qa0 8 _ _ (show Qal 8 v (.slice none 0 0)=true from h)
  subst this
  exact⟨by simp,⟨none,0,rfl,fun h=>by simp at h⟩,.inl ⟨rfl,rfl⟩⟩
 | cons x l=>
  unfold Quw at h
  simp only at h
  split at h
  ·rename_i a n cap
   simp only[Bool.and_eq_true,XG,decide_eq_true_eq,Nat.ble_eq]at h
   obtain⟨h1,h2,h3,h4,h5,hcp,h6⟩:=h
   split at h6
   ·rename_i r hr
    have h6:=QeI (Qa0 8) _ _ h6
    obtain⟨ab,ao,asp⟩:=a
    replace h3:=QfX h3
    simp only at h1 h2 h3 hr
    subst h2;subst h3;subst h4
    have hk:=(List.getElem?_eq_some_iff.1 hr).1
    have e1:shW (shM τ G H.next) 6 (.slice (some ⟨ab,0,none⟩) (x::l).length cap)=.slice (some ⟨H.next+(ab - G),0,none⟩) (x::l).length cap:=by
     show Value.slice (some ⟨shM τ G H.next ab,0,none⟩) _ _=_
     rw[QsF h1]
    rw[e1]
    refine⟨h5,⟨_,_,rfl,fun _=>⟨H.next+(ab - G),r.e,r.ro,rfl,?_⟩⟩,.inr ⟨by simp,_,_,rfl,by omega,Quv hcp⟩⟩
    rw[GF,if_pos ⟨by omega,by omega⟩,show H.next+(ab - G) - H.next=ab - G by omega,hr]
    show some (Blk.cells (r.c.map (shW (shM τ G H.next) 6)) r.e r.ro)=_
    rw[h6,QsG]
   ·cases h6
  ·cases h
theorem Qpw:∀ (cs:List Value) (L:List Fm),Qux G rs cs L=true→∃xs:List Lf,xs.map (·.f)=L∧cs.map (shW (shM τ G H.next) 6)=QS xs∧∀x∈xs,x.At (X0 (shM τ G H.next) rs H)∧x.Fr H.next
 | [],[],_=>⟨[],rfl,rfl,fun x h=>by cases h⟩
 | a0::a1::a2::a3::a4::a5::a6::a7::a8::a9::cs,x::L,h=>by
  simp only[Qux,Bool.and_eq_true]at h
  obtain⟨h0,h1,h2,h3,h4,h5,h6,h7,h8,h9,hr⟩:=h
  obtain⟨xs,e1,e2,e3⟩:=Qpw cs L hr
  have i0:=Vk h0;have i3:=Vk h3;have i4:=Vk h4;have i5:=Vk h5;have i6:=Vk h6;have i7:=Vk h7;have i8:=QqN h8;have i9:=Vk h9
  subst i0 i3 i4 i5 i6 i7 i8 i9
  obtain⟨s1,s2,s3⟩:=Qpv (τ:=τ) (H:=H) h1
  obtain⟨t1,t2,t3⟩:=Qpv (τ:=τ) (H:=H) h2
  refine⟨⟨x,shW (shM τ G H.next) 6 a1,shW (shM τ G H.next) 6 a2⟩::xs,by simp[e1],?_,fun y hy=>?_⟩
  rotate_left
  ·rcases List.mem_cons.1 hy with rfl | hy
   ·exact⟨⟨s1,t1,s2,t2⟩,s3,t3⟩
   ·exact e3 y hy
  ·simp only[List.map_cons,e2,QS,List.flatMap_cons,Lf.cells,List.cons_append,List.nil_append]
   rfl
theorem Quz {u:Value} {L:List Fm} (h:Quy G rs u L=true):∃xs:List Lf,xs.map (·.f)=L∧Acc H (X0 (shM τ G H.next) rs H) (shW (shM τ G H.next) 6 u) xs∧xs.length≤1000∧∀x∈xs,x.Fr H.next:=by
 unfold Quy at h
 split at h
 ·rename_i a n cap
  simp only[Bool.and_eq_true,XG,decide_eq_true_eq,Nat.ble_eq]at h
  obtain⟨h1,h2,h3,h4,h5,h7,h8,h6⟩:=h
  split at h6
  ·rename_i r hr
   simp only[Bool.and_eq_true,XG,decide_eq_true_eq,Bool.not_eq_true']at h6
   obtain⟨h9,h10,h6⟩:=h6
   subst h8
   obtain⟨xs,e1,e2,e3⟩:=Qpw (τ:=τ) (H:=H) _ _ h6
   obtain⟨ab,ao,asp⟩:=a
   replace h3:=QfX h3
   simp only at h1 h2 h3 hr
   subst h2;subst h3
   have hl:n=xs.length:=by rw[h4,← e1];simp
   subst hl
   have hk:=(List.getElem?_eq_some_iff.1 hr).1
   have e1':shW (shM τ G H.next) 6 (.slice (some ⟨ab,0,none⟩) xs.length (UNK+10))=.slice (some ⟨H.next+(ab - G),0,none⟩) xs.length (UNK+10):=by
    show Value.slice (some ⟨shM τ G H.next ab,0,none⟩) _ _=_
    rw[QsF h1]
   rw[e1']
   refine⟨xs,e1,.inr ⟨_,rfl,by omega,?_,fun h=>?_,fun x hx=>(e3 x hx).1⟩,h5,fun x hx=>(e3 x hx).2⟩
   ·rw[GF,if_pos ⟨by omega,by omega⟩,show H.next+(ab - G) - H.next=ab - G by omega,hr]
    show some (Blk.cells (r.c.map (shW (shM τ G H.next) 6)) r.e r.ro)=_
    rw[e2,h9,h10]
   ·rw[h]at h7;simp at h7
  ·cases h6
 ·cases h
end
theorem QqO {sh:Nat→Nat} (rs:List Row) (H:Qa):Ext H (X0 sh rs H):=⟨by rw[G8];omega,fun id hid=>by rw[GF,if_neg (by omega)]⟩
theorem QmN {sh:Nat→Nat}:∀ (rs:List Row) (H:Qa),H.Wf→(X0 sh rs H).Wf
 | [],H,h=>h
 | r::rs,H,h=>QmN rs _ (h.push _)
def Kk (tabs:List Tab) (H:Qa):Prop:=G7 tabs H=true
theorem Vl {tabs:List Tab} (H H':Qa) (hw:H.Wf) (h:Kk tabs H) (hx:Ext H H'):Kk tabs H':=by
 unfold Kk G7 at *
 rw[List.all_eq_true]at *
 intro t ht
 have h1:=h t ht
 cases hg:H.get t.id with
 | none=>rw[hg]at h1;cases h1
 | some b=>rw[hx.get _ (hw.lt hg)];exact h1
theorem Qle {tabs:List Tab} (ht:tabsOk tabs=true) (htab:∀t∈tabs,t.id<prog.globals.size) {s:SumI} (hs:SumIOk prog tabs s) (ha:s.args=[]) (hi:s.ins=[]) {L:List Fm} (hc:Quy prog.globals.size s.rs s.u L=true):QbM (Kk tabs) s.f L:=by
 intro H hH hw
 have hd:=hs.does ht (args:=[]) (H:=H) (τ:=fun n=>n) (fun _ _=>rfl) htab hH (by rw[hi];rfl) (by rw[ha];rfl)
 rw[hi]at hd
 obtain⟨xs,h1,h2,h3,h4⟩:=Quz (τ:=fun n=>n) (H:=H) hc
 exact⟨_,_,.inl ⟨hs.1,hd⟩,by rw[G8];exact Nat.le_add_right _ _,QmN _ _ hw,QqO _ _,xs,h1,h2,h3,h4⟩
def Qpx (G:Nat) (f:FuncId) (L:List Fm):List SumI→Bool
 | s::_=>Nat.beq s.f f&&(s.args.isEmpty&&(s.ins.isEmpty&&Quy G s.rs s.u L))
 | []=>false
theorem YB {tabs:List Tab} (ht:tabsOk tabs=true) (htab:∀t∈tabs,t.id<prog.globals.size) {l:List SumI} (hl:∀s∈l,SumIOk prog tabs s) {f:FuncId} {L:List Fm} (h:Qpx prog.globals.size f L l=true):QbM (Kk tabs) f L:=by
 cases l with
 | nil=>cases h
 | cons s l=>
  simp only[Qpx,Bool.and_eq_true,XG,decide_eq_true_eq,List.isEmpty_iff]at h
  obtain⟨h1,h2,h3,h4⟩:=h
  rw[← h1]
  exact Qle ht htab (hl s (List.mem_cons_self ..)) h2 h3 h4
theorem QoD {tabs:List Tab} (ht:tabsOk tabs=true) (htab:∀t∈tabs,t.id<prog.globals.size) {f:FuncId} {args:List Value} (he:entered prog f=true) {L:List Fm} (hpl:ZM (mtV (Jn (fun n=>n) prog.globals.size) 6) args args=true)
  (hq:∀H,H.next=prog.globals.size→Kk tabs H→Qf prog f args H fun u H'=>∃ys:List Lf,ys.map (·.f)=L∧Acc H H' u ys∧∀y∈ys,y.Fr H.next) (hwf:(QY prog.globals.size tabs).Wf) (htt:Kk tabs (QY prog.globals.size tabs)) {H:Qa} (hH:G7 tabs H=true):
  JZ prog f args H (.ret (shW (shM (fun n=>n) prog.globals.size H.next) 6 (QqM prog.globals.size L))) (X0 (shM (fun n=>n) prog.globals.size H.next) (Ji prog.globals.size L) H):=by
 have hn:(QY prog.globals.size tabs).next=prog.globals.size:=rfl
 obtain⟨v,H1,hc,_,_,ys,hy1,hy2,hy3⟩:=hq _ hn htt hwf
 have hd:=hc.does he
 subst hy1
 have hp:=Qj8 hn hy2 hy3
 refine QmK (B:=QY prog.globals.size tabs) hd (Nat.le_refl _) (fun _ _=>rfl) hp (Qpu _ _) (QiB _ _) H (fun id b hb=>?_) hpl
 have hg:=Qbc hH id b hb
 obtain⟨t,ht1,rfl,rfl⟩:=Xh hb
 refine⟨t.c,t.e,t.c,t.e,true,rfl,hg,rfl,fun j x y hx hy=>?_⟩
 rw[hx]at hy
 cases hy
 exact Qbd.plain (List.all_eq_true.1 (List.all_eq_true.1 ht t ht1) x (List.mem_of_getElem? hx))
theorem QiC (x:Lf) (H:Qa) (hx:x.At H):Qf prog JN [.agg x.cells.toArray] H fun u H'=>u=.bool true∧∃m,H'=H.up m:=by
 refine QgM fun hw=>?_
 simp only[Qbr,sxA,sxB,mxA,mxB,splice,simprocAttr,QfK]
 exact .ext hw ((Ext.refl H).push _) ⟨rfl,_,rfl⟩
theorem Qlf (x:Lf) (op:Int) (b:Nat) (H:Qa) {e:TypeId} {ro:Bool} (hb:H.get b=some (.cells [.int .i64 op] e ro)) (hx:x.At H):Qf prog JO [.agg x.cells.toArray,.pointer (some ⟨b,0,none⟩)] H fun u H'=>u=.bool (x.f.op==op)∧∃m,H'=H.up m:=by
 refine Qjg fun hw=>?_
 have hbl:=hw.lt hb
 have hne:¬b=H.next:=by omega
 simp only[Lf.cells,Qdq,sxA,sxB,mxA,mxB,splice,simprocAttr,hne,hb,Qia]
 exact .ext hw ((Ext.refl H).push _) ⟨rfl,_,rfl⟩
section
variable {T:Qa→Prop} (hT:∀H H',H.Wf→T H→Ext H H'→T H') (LL:FuncId→List Fm) (hL:∀x∈lis,QbM T x.2.2 (LL x.2.2))
include hT hL
def Qfi (H H':Qa) (u:Value) (L:List Fm):Prop:=Ext H H'∧∃ys:List Lf,ys.map (·.f)=L∧Acc H H' u ys∧ys.length≤6000∧∀y∈ys,y.Fr H.next
theorem Qfj (H:Qa) (ht:T H):Qf prog Wg [] H fun u H'=>Qfi H H' u (QaJ LL 1 322 (fun _=>true) lis):=by
 refine Qjf fun hw=>?_
 simp only[Qdp,sxA,sxB,mxA,mxB,splice,simprocAttr]
 refine(QbO hT LL hL 1 322 _ (fun _=>true) H ⟨JN,[],rfl,fun x H' hx ha=>QiC x H' ha⟩ ht).thenW ?_
 rintro u H' hn hw' h
 simp only[sxA,sxB,mxA,mxB,splice,simprocAttr,Qh7]
 exact .mk hn h
theorem QiD (op:Int) (H:Qa) (ht:T H):Qf prog Yb [.int .i64 op] H fun u H'=>Qfi H H' u (QaJ LL op op (fun f=>f.op==op) lis):=by
 refine Qmi fun hw=>?_
 simp only[Qgr,sxA,sxB,mxA,mxB,splice,simprocAttr,QeQ]
 have hx0:Ext H (H.push (.cells [.int .i64 op] 3 false)):=(Ext.refl H).push _
 have hg0:(H.push (.cells [.int .i64 op] 3 false)).get H.next=some (.cells [.int .i64 op] 3 false):=by rw[Qa.get_push,if_pos rfl]
 have hw0:=hw.push (.cells [.int .i64 op] 3 false)
 generalize H.push (.cells [.int .i64 op] 3 false)=H1 at hx0 hg0 hw0
 refine(QbO hT LL hL op op (.func (.func JO) #[] [.pointer (some ⟨H.next,0,none⟩)].toArray) (fun f=>f.op==op) H1 ⟨JO,[.pointer (some ⟨H.next,0,none⟩)],rfl,fun x H' hx ha=>Qlf x op H.next H' (e:=3) (ro:=false) (by rw[hx.get _ (hw0.lt hg0)];exact hg0) ha⟩ (hT _ _ hw ht hx0)).thenW ?_
 rintro u H' hn hw' ⟨hx,ys,h1,h2,h3,h4⟩
 simp only[sxA,sxB,mxA,mxB,splice,simprocAttr,QkK]
 exact .mk (hx0.trans hx).next ⟨hx0.trans hx,ys,h1,h2.mono hx0.next,h3,fun y hy=>(h4 y hy).mono hx0.next⟩
end
/-! ### As known calls -/
theorem QsH (LL:FuncId→List Fm) (p:Fm→Bool):QaJ LL 1 322 p lis=(QaJ LL 1 322 (fun _=>true) lis).filter p:=by
 simp[QaJ,lis]
theorem QiE (m:Option Nat):(Value.map m).cells.toList=[.map m]:=Eq.trans rfl rfl
theorem QgF (m:Option Nat):(Value.map m).oneCell'=true:=Eq.trans rfl rfl
def QmO (H H':Qa) (v:Value):Prop:=∀id,id<H.next→(∀a l c,v=.slice (some a) l c→id≠a.block)→H'.get id=H.get id
theorem QmO.a {H H':Qa} {v:Value} (h:QmO H H' v) (hw:H.Wf):QbN H H' v:=fun id bl hg hn=>by rw[h id (hw.lt hg) hn];exact hg
theorem Acc.app2 {H0 H:Qa} {v:Value} {ys:List Lf} {x:Lf} {b1:Nat} {K:Value→Qa→Prop} (h:Acc H0 H v ys) (hn0:H0.next≤H.next) (hw:H.Wf) (hxa:x.At H) (hl:ys.length≤100000) (hb1:H.get b1=some (.cells x.cells Qc false)) (hne:∀a l c,v=.slice (some a) l c→a.block≠b1)
  (hK:∀v' H',H'.Wf→H.next≤H'.next→Acc H0 H' v' (ys++[x])→(∃a l c,v'=.slice (some a) l c∧H.next≤a.block)→QmO H H' v→K v' H'):Qh1 Qc 10 112 v (.slice (some ⟨b1,0,none⟩) 1 1) H K:=by
 have hsrc:QbU 10 (.slice (some ⟨b1,0,none⟩) 1 1) H=some (1,x.cells):=by
  have:=Qhl (size:=10) (m:=1) (b:=b1) (o:=0) (cap:=1) (c:=x.cells) (e:=Qc) (ro:=false) (H:=H) hb1 (by decide) (by rw[Qp];decide)
  rw[this];rfl
 have a1:=W5 hxa
 rcases id h with⟨rfl,rfl⟩ | ⟨b,rfl,hb0,hgb,hyn,hya⟩
 ·refine Qh6 hsrc a1 (by decide) (by decide) (by decide) ?_
  have hk:QmO H (H.push (.cells x.cells Qc false)) (.slice none 0 0):=fun id hid _=>by rw[Qa.get_push,if_neg (by omega)]
  refine hK _ _ (hw.push _) (by simp) (.inr ⟨H.next,rfl,hn0,by rw[Qa.get_push,if_pos rfl];simp[QS],by simp,fun y hy=>?_⟩) ⟨_,_,_,rfl,Nat.le_refl _⟩ hk
  simp only[List.nil_append,List.mem_singleton]at hy
  subst hy
  exact(hk.a hw).at h hxa
 ·have hbl:=hw.lt hgb
  have hbn:b≠b1:=hne _ _ _ rfl
  refine Qh5 rfl hsrc a1 (by decide) (c:=QS ys) hgb (by rw[Wx];omega) (by omega) (by omega) (by unfold UNK;omega) ?_
  have hk:QmO H ((H.kill b).push (.cells (QS ys++x.cells) Qc false)) (.slice (some ⟨b,0,none⟩) ys.length (UNK+10)):=fun id hid hn=>by
   rw[Qa.get_push,if_neg (by simp;omega),Qa.get_kill,if_neg (hn _ _ _ rfl)]
  refine hK (.slice (some ⟨H.next,0,none⟩) (ys.length+1) (UNK+10)) ((H.kill b).push (.cells (QS ys++x.cells) Qc false)) ((hw.kill _).push _) (by simp)
   (.inr ⟨H.next,by simp,hn0,by rw[Qa.get_push,if_pos (by simp),QgA],by simp,fun y hy=>?_⟩) ⟨_,_,_,rfl,Nat.le_refl _⟩ hk
  simp only[List.mem_append,List.mem_singleton]at hy
  rcases hy with hy | rfl
  ·exact(hk.a hw).at h (hya y hy)
  ·exact(hk.a hw).at h hxa
def QqP (H0 H:Qa) (v:Value) (d:Nat) (ys:List Lf):Prop:=∃b mb fv,v=.pointer (some ⟨b,0,none⟩)∧H0.next≤b∧H0.next≤mb∧H.get b=some (.cells [.int .i64 d,fv,.map (some mb)] QC false)∧H.get mb=some (.map [])∧Acc H0 H fv ys
theorem KX.setMap {H:Qa} {v:Value} {n:Nat} {cs:List Value} {m:Nat} {es:List (Value×Value)} {b:Blk} (hm:H.get m=some (.map es)) (h:KX H v n cs):KX (H.set m b) v n cs:=by
 obtain⟨a,cap,rfl,h1⟩:=h
 refine⟨a,cap,rfl,fun hn=>?_⟩
 obtain⟨b1,e1,ro1,rfl,hb1⟩:=h1 hn
 refine⟨b1,e1,ro1,rfl,?_⟩
 rw[Qa.get_set,if_neg (fun e=>by subst e;rw[hm]at hb1;cases hb1)]
 exact hb1
theorem Lf.At.setMap {H:Qa} {x:Lf} {m:Nat} {es:List (Value×Value)} {b:Blk} (hm:H.get m=some (.map es)) (h:x.At H):x.At (H.set m b):=⟨h.1,h.2.1,h.2.2.1.setMap hm,h.2.2.2.setMap hm⟩
theorem Acc.setMap {H0 H:Qa} {v:Value} {ys:List Lf} {m:Nat} {es:List (Value×Value)} {b:Blk} (hm:H.get m=some (.map es)) (h:Acc H0 H v ys):Acc H0 (H.set m b) v ys:=by
 rcases h with h | ⟨b1,h1,h2,h3,h4,h5⟩
 ·exact .inl h
 ·refine .inr ⟨b1,h1,h2,?_,h4,fun y hy=>(h5 y hy).setMap hm⟩
  rw[Qa.get_set,if_neg (fun e=>by subst e;rw[hm]at h3;cases h3)]
  exact h3
section
variable {T:Qa→Prop} {L:List Fm} (hR:∀H,T H→Qf prog Wg [] H fun u H'=>Qfi H H' u L)
include hR
theorem QjA (H:Qa) (ht:T H):Qf prog VZ [] H fun u H'=>Ext H H'∧∃ys:List Lf,ys.map (·.f)=L∧QqP H H' u 0 ys∧ys.length≤6000∧∀y∈ys,y.Fr H.next:=by
 refine Qh9 fun hw=>?_
 simp only[Qcq,sxA,sxB,mxA,mxB,splice,simprocAttr]
 refine(hR H ht).thenW ?_
 rintro u H1 hn1 hw1 ⟨hx1,ys,e1,ha,hl,hf⟩
 have hfm:=ha.fms
 obtain⟨aa,cap,rfl,_⟩:=id hfm.1
 simp only[sxA,sxB,mxA,mxB,splice,simprocAttr,Qgm,QiE,QgF,Nat.reduceMul,QgN]
 have hx2:Ext H1 ((H1.push (.map [])).push (.cells [.int .i64 0,.slice aa ys.length cap,.map (some H1.next)] QC false)):=((Ext.refl H1).push _).push _
 refine .mk ((hx1.trans hx2).next) ⟨hx1.trans hx2,ys,e1,⟨H1.next+1,H1.next,_,rfl,by have:=hx1.next;omega,hx1.next,?_,?_,ha.ext hw1 hx2⟩,hl,hf⟩
 ·rw[Qa.get_push,if_pos (by simp)];rfl
 ·rw[Qa.get_push,if_neg (by simp),Qa.get_push,if_pos rfl]
end
def YL (d:Nat) (L:List Fm):Bool:=match L with
 | []=>false
 | f::_=>bif f.vex then d==0 else Nat.ble d (Qh f).length
theorem QjB {H0 H:Qa} {v:Value} {d:Nat} {ys:List Lf} (hN:QqP H0 H v d ys) (hl:ys.length≤6000):Qf prog Jl [v] H fun u H'=>u=.bool (YL d (ys.map (·.f)))∧∃m,H'=H.up m:=by
 refine Qdf fun hw=>?_
 obtain⟨b,mb,fv,rfl,hb0,hmb0,hb,hmb,ha⟩:=hN
 have hfm:=ha.fms
 obtain⟨⟨aa,cap,rfl,hsl⟩,hxa⟩:=id hfm
 simp only[Ga,sxA,sxB,mxA,mxB,splice,simprocAttr,hb]
 cases h0:((ys.length:Int)==0) with
 | true=>
  have h0:ys=[]:=by
   have:(ys.length:Int)=0:=by simpa using h0
   exact List.length_eq_zero_iff.1 (by omega)
  simp only[sxA,sxB,mxA,mxB,splice,simprocAttr,YT]
  exact .mk (Nat.le_refl _) ⟨by rw[h0];rfl,_,rfl⟩
 | false=>
  have hlp:0<ys.length:=by
   have:¬ (ys.length:Int)=0:=by simpa using h0
   omega
  obtain⟨b1,e1,ro1,rfl,hb1⟩:=hsl hlp
  have hy:=List.getElem?_eq_getElem hlp
  have hop:∀z,ys[0]? = some z→YL d (ys.map (·.f))=bif z.f.vex then d==0 else Nat.ble d (Qh z.f).length:=fun z hz=>by
   cases ys with
   | nil=>simp at hz
   | cons a l=>simp at hz;subst hz;rfl
  generalize ys[0]'hlp=y at hy
  have hym:=List.mem_of_getElem? hy
  have hop:=hop y hy
  have d1:(0:Int)≤0∧(0:Int)<(ys.length:Int):=by omega
  have d3:(0:Int).toNat=0:=rfl
  have nn:=Wx ys
  have d4:10≤ys.length * 10:=by omega
  have dd:=Zq ys 0 y hy
  rw[Nat.zero_mul,List.drop_zero]at dd
  have wk:=hxa y hym
  have ak:=W5 wk
  have g8:y.cells[8]? = some (.bool y.f.vex):=rfl
  have hbl:=hw.lt hb
  have hbn:¬b=H.next:=by omega
  simp only[sxA,sxB,mxA,mxB,splice,simprocAttr,hb,d1,d3,d4,hb1,nn,dd,Qp,QW,ak,g8]
  obtain⟨G1,hG1⟩:∃h,h=(H.push (.cells [.int .i64 0,.slice none 0 0,.slice none 0 0,.int .i64 0,.int .i64 0,.int .i64 0,.int .i64 0,.int .i64 0,.bool false,.int .i64 0] Qc false)).set H.next (.cells y.cells Qc false):=⟨_,rfl⟩
  have hwG1:G1.Wf:=by rw[hG1];exact(hw.push _).set (by rw[Qa.get_push,if_pos rfl]) _
  have hxG1:Ext H G1:=by rw[hG1];exact((Ext.refl H).push _).set (Nat.le_refl _) _
  have hgG1:G1.get H.next=some (.cells y.cells Qc false):=by rw[hG1,Qa.get_set,if_pos rfl]
  have hbG1:G1.get b=some (.cells [.int .i64 d,.slice (some ⟨b1,0,none⟩) ys.length cap,.map (some mb)] QC false):=by rw[hxG1.get _ hbl];exact hb
  simp only[← hG1]
  cases hv:y.f.vex with
  | true=>
   rw[hv]at hop
   have ed:((d:Int)==0)=(d==0):=by rw[Bool.eq_iff_iff];simp
   simp only[sxA,sxB,mxA,mxB,splice,simprocAttr,hbG1,ed,YT]
   exact .ext hw hxG1 ⟨by rw[hop];rfl,_,rfl⟩
  | false=>
   rw[hv]at hop
   simp only[sxA,sxB,mxA,mxB,splice,simprocAttr,hbG1,hgG1,Qp,QW,ak]
   refine⟨rfl,(QdO y G1 (wk.ext hw hxG1)).thenW ?_⟩
   rintro _ _ hn2 hw2 ⟨rfl,m2,rfl⟩
   simp only[Qa.next_up]at hn2
   simp only[sxA,sxB,mxA,mxB,splice,simprocAttr,Qb9,YT]
   refine⟨fun _ _=>rfl,.ext hw (hxG1.up hn2) ⟨?_,_,rfl⟩⟩
   rw[hop]
   congr 1
   rw[Bool.eq_iff_iff]
   simp
structure QiF (ty:TypeId):Prop where
 m:∃kt e td inf,prog.underlying ty=some (.map kt e)∧prog.underlying kt=some td∧prog.info? e=some inf∧inf.zero=some (.pointer none)∧∀c,Kw td (.int .u8 c)=true
theorem QcU {H0 H:Qa} {v:Value} {d:Nat} {ys:List Lf} (hty:QiF Ws) (hN:QqP H0 H v d ys) (hx0:Ext H0 H) (hl:ys.length≤6000) (hd:d≤1000000) (c:Int):Qf prog ZG [v,.int .u8 c] H fun u H'=>Ext H0 H'∧∃zs:List Lf,zs.map (·.f)=(ys.map (·.f)).filter (fun f=>Q0 f d c)∧QqP H0 H' u (d+1) zs∧zs.length≤ys.length∧∀z∈zs,z∈ys:=by
 refine Qcr fun hw=>?_
 obtain⟨kt,et,td,inf,ty1,ty2,ty3,ty4,ty5⟩:=hty.m
 obtain⟨b,mb,fv,rfl,hb0,hmb0,hb,hmb,ha⟩:=hN
 have hfm:=ha.fms
 obtain⟨⟨aa,cap,rfl,hsl⟩,hxa⟩:=id hfm
 have hbl:=hw.lt hb
 have hmbl:=hw.lt hmb
 have hbm:b≠mb:=fun e=>by subst e;rw[hb]at hmb;cases hmb
 simp only[KD,sxA,sxB,Nat.reduceBEq,Nat.reduceEqDiff,reduceCtorEq,mxA,mxB,Nat.reduceAdd,reduceIte,Nat.reduceLeDiff,splice,hb]
 rw[Qqq (m:=mb) ty1 ty2 ty3 ty4 rfl (by simp only[uxA,uxB,Nat.reduceBEq]) (by simp only[uxA,uxB,Nat.reduceBEq];exact ty5 c) hmb]
 have n1:¬b=H.next:=by omega
 have n2:¬b=H.next+1:=by omega
 have ed:IntKind.i64.wrap ((d:Int)+1)=((d+1:Nat):Int):=by rw[w64 (by unfold I64;omega)];omega
 simp only[sxA,sxB,Nat.reduceBEq,Nat.reduceEqDiff,reduceCtorEq,mxA,mxB,Nat.reduceAdd,reduceIte,Nat.reduceLeDiff,splice,hb,n1,n2,ed,QiE,QgF,Nat.reduceMul]
 have hx1:Ext H ((H.push (.map [])).push (.cells [.int .i64 ((d+1:Nat):Int),.slice none 0 0,.map (some H.next)] QC false)):=((Ext.refl H).push _).push _
 have hm1:((H.push (.map [])).push (.cells [.int .i64 ((d+1:Nat):Int),.slice none 0 0,.map (some H.next)] QC false)).get H.next=some (.map []):=by rw[Qa.get_push,if_neg (by simp),Qa.get_push,if_pos rfl]
 have hb1:((H.push (.map [])).push (.cells [.int .i64 ((d+1:Nat):Int),.slice none 0 0,.map (some H.next)] QC false)).get (H.next+1)=some (.cells [.int .i64 ((d+1:Nat):Int),.slice none 0 0,.map (some H.next)] QC false):=by rw[Qa.get_push,if_pos (by simp)]
 have hw1:=(hw.push (.map [])).push (.cells [.int .i64 ((d+1:Nat):Int),.slice none 0 0,.map (some H.next)] QC false)
 have hn1:((H.push (.map [])).push (.cells [.int .i64 ((d+1:Nat):Int),.slice none 0 0,.map (some H.next)] QC false)).next=H.next+2:=rfl
 generalize (H.push (.map [])).push (.cells [.int .i64 ((d+1:Nat):Int),.slice none 0 0,.map (some H.next)] QC false)=H1 at hx1 hm1 hb1 hw1 hn1
 refine QX (fun m A' H'=>∃ (k:Nat) (zs:List Lf) (av:Value),k≤ys.length∧m=ys.length - k∧H'.Wf∧Ext H H'∧H1.next≤H'.next∧H'.get H.next=some (.map [])∧H'.get (H.next+1)=some (.cells [.int .i64 ((d+1:Nat):Int),av,.map (some H.next)] QC false)∧Acc H1 H' av zs∧
   zs.map (·.f)=((ys.take k).map (·.f)).filter (fun f=>Q0 f d c)∧zs.length≤k∧(∀z∈zs,z∈ys)∧
   A' 0=.pointer (some ⟨b,0,none⟩)∧A' 1=.int .u8 c∧A' 7=.pointer (some ⟨H.next+1,0,none⟩)∧A' 32=.slice aa ys.length cap∧A' 33=.int .i64 ys.length∧A' 34=.int .i64 k) ys.length ?_ ?_
 ·refine⟨0,[],.slice none 0 0,Nat.zero_le _,by omega,hw1,hx1,Nat.le_refl _,hm1,hb1,.inl ⟨rfl,rfl⟩,by simp,by simp,fun z hz=>(by cases hz),?_,?_,?_,?_,?_,?_⟩
  all_goals simp only[uxA,uxB,Nat.reduceBEq]
  rfl
 ·rintro m A' H3 ⟨k,zs,av,hk,rfl,hw3,hx3,hn3,hm3,hb3,hac3,hzs,hzl,hzy,r0,r1,r7,r32,r33,r34⟩
  simp only[sxA,sxB,Nat.reduceBEq,Nat.reduceEqDiff,reduceCtorEq,mxA,mxB,Nat.reduceAdd,reduceIte,Nat.reduceLeDiff,splice,r33,r34]
  have hbH3:H3.get b=some (.cells [.int .i64 (d:Int),.slice aa ys.length cap,.map (some mb)] QC false):=by rw[hx3.get _ hbl];exact hb
  refine Qg (fun h3=>?_) (fun h3=>?_)
  ·have h3:k<ys.length:=by have:=of_decide_eq_true h3;omega
   obtain⟨b1,e1',ro1,rfl,hg1⟩:=hsl (by omega)
   have hg3:H3.get b1=some (.cells (QS ys) e1' ro1):=by rw[hx3.get _ (hw.lt hg1)];exact hg1
   have d1:(0:Int)≤k∧(k:Int)<ys.length:=by omega
   have d3:(k:Int).toNat=k:=by omega
   have d4:k * 10+10≤ys.length * 10:=by omega
   have ek:IntKind.i64.wrap ((k:Int)+1)=((k+1:Nat):Int):=by rw[w64 (by unfold I64;omega)];omega
   have hpk:=List.getElem?_eq_getElem h3
   have dd:=Zq ys k _ hpk
   have nn:=Wx ys
   have hym:ys[k]∈ys:=List.getElem_mem h3
   have wk:=(hxa _ hym).ext hw hx3
   have hxtk:ys.take (k+1)=ys.take k++[ys[k]]:=List.take_succ_eq_append_getElem h3
   generalize ys[k]=x at hpk dd hym wk hxtk
   have ak:=W5 wk
   have hbl3:=hw3.lt hbH3
   have n3:¬b=H3.next:=by omega
   simp only[sxA,sxB,Nat.reduceBEq,Nat.reduceEqDiff,reduceCtorEq,mxA,mxB,Nat.reduceAdd,reduceIte,Nat.reduceLeDiff,splice,r0,r1,r7,r32,r34,d1,d3,d4,hg3,nn,dd,Qp,QW,ak,hbH3,n3]
   obtain⟨G1,hG1⟩:∃h,h=(H3.push (.cells [.int .i64 0,.slice none 0 0,.slice none 0 0,.int .i64 0,.int .i64 0,.int .i64 0,.int .i64 0,.int .i64 0,.bool false,.int .i64 0] Qc false)).set H3.next (.cells x.cells Qc false):=⟨_,rfl⟩
   have hwG1:G1.Wf:=by rw[hG1];exact(hw3.push _).set (by rw[Qa.get_push,if_pos rfl]) _
   have hxG1:Ext H3 G1:=by rw[hG1];exact((Ext.refl H3).push _).set (Nat.le_refl _) _
   have hgG1:G1.get H3.next=some (.cells x.cells Qc false):=by rw[hG1,Qa.get_set,if_pos rfl]
   have hnG1:G1.next=H3.next+1:=by rw[hG1];rfl
   simp only[← hG1]
   refine(Qiv x d c G1 (wk.ext hw3 hxG1)).thenW ?_
   rintro _ G2 hn4 hw4 ⟨rfl,m4,rfl⟩
   simp only[Qa.next_up]at hn4
   have hxG2:Ext H3 (G1.up m4):=hxG1.up hn4
   have hgG2:(G1.up m4).get H3.next=some (.cells x.cells Qc false):=by rw[Qa.get_up];exact hgG1
   have hnG2:H3.next+1≤(G1.up m4).next:=by simp only[Qa.next_up];omega
   generalize G1.up m4=G2 at hw4 hxG2 hgG2 hnG2
   have hfil:((ys.take (k+1)).map (·.f)).filter (fun f=>Q0 f d c)=((ys.take k).map (·.f)).filter (fun f=>Q0 f d c)++bif Q0 x.f d c then[x.f] else[]:=by
    rw[hxtk,List.map_append,List.filter_append]
    cases hpx:Q0 x.f d c<;>simp[hpx]
   have hmG2:G2.get H.next=some (.map []):=by rw[hxG2.get _ (hw3.lt hm3)];exact hm3
   have hbG2:G2.get (H.next+1)=some (.cells [.int .i64 ((d+1:Nat):Int),av,.map (some H.next)] QC false):=by rw[hxG2.get _ (hw3.lt hb3)];exact hb3
   simp only[sxA,sxB,Nat.reduceBEq,Nat.reduceEqDiff,reduceCtorEq,mxA,mxB,Nat.reduceAdd,reduceIte,Nat.reduceLeDiff,splice]
   cases hpx:Q0 x.f d c
   ·rw[hpx]at hfil
    simp only[sxA,sxB,Nat.reduceBEq,Nat.reduceEqDiff,reduceCtorEq,mxA,mxB,Nat.reduceAdd,reduceIte,Nat.reduceLeDiff,splice,r34,ek]
    refine⟨ys.length - (k+1),by omega,k+1,zs,av,by omega,rfl,hw4,hx3.trans hxG2,by omega,hmG2,hbG2,hac3.ext hw3 hxG2,by rw[hfil,hzs];simp,by omega,hzy,?_,?_,?_,?_,?_,?_⟩
    all_goals simp only[uxA,uxB,Nat.reduceBEq,r0,r1,r7,r32,r33]
   ·rw[hpx]at hfil
    have n5:¬H.next+1=G2.next:=by omega
    simp only[sxA,sxB,Nat.reduceBEq,Nat.reduceEqDiff,reduceCtorEq,mxA,mxB,Nat.reduceAdd,reduceIte,Nat.reduceLeDiff,splice,r7,hgG2,hbG2,Qp,QW,ak,n5]
    have hx5:Ext H3 (G2.push (.cells x.cells Qc false)):=hxG2.push _
    have hac5:=hac3.ext hw3 hx5
    refine Acc.app2 hac5 (by simp only[Qa.next_push];omega) (hw4.push _) (wk.ext hw3 hx5) (by omega) (by rw[Qa.get_push,if_pos rfl]) (fun a l c' hv e=>?_) fun v' H6 y2 y3 y4 y5 y6=>?_
    ·rcases hac3 with⟨h,_⟩ | ⟨b2,h,_,h3',_⟩
     ·rw[h]at hv;cases hv
     ·rw[h]at hv;cases hv
      have:=hw3.lt h3'
      simp only at e
      omega
    ·obtain⟨a6,l6,c6,rfl,hb6⟩:=y5
     simp only[Qa.next_push]at y3 hb6
     have hav:∀id,id<H1.next→∀a l c,av=.slice (some a) l c→id≠a.block:=fun id hid a l c e=>by
      rcases hac3 with⟨h,_⟩ | ⟨b2,h,h2,_⟩
      ·rw[h]at e;cases e
      ·rw[h]at e;cases e
       simp only
       omega
     have hb7:H6.get (H.next+1)=some (.cells [.int .i64 ((d+1:Nat):Int),av,.map (some H.next)] QC false):=by
      rw[y6 _ (by simp only[Qa.next_push];omega) (hav _ (by omega)),Qa.get_push,if_neg n5];exact hbG2
     have hm7:H6.get H.next=some (.map []):=by
      rw[y6 _ (by simp only[Qa.next_push];omega) (hav _ (by omega)),Qa.get_push,if_neg (by omega)];exact hmG2
     have hx7:Ext H H6:=⟨by have:=hx3.next;omega,fun id hid=>by
      rw[y6 _ (by simp only[Qa.next_push];omega) (hav _ (by omega)),Qa.get_push,if_neg (by omega),hxG2.get _ (by have:=hx3.next;omega)]
      exact hx3.get _ hid⟩
     simp only[sxA,sxB,Nat.reduceBEq,Nat.reduceEqDiff,reduceCtorEq,mxA,mxB,Nat.reduceAdd,reduceIte,Nat.reduceLeDiff,splice,r34,ek,hb7]
     refine⟨ys.length - (k+1),by omega,k+1,zs++[x],.slice (some a6) l6 c6,by omega,rfl,y2.set hb7 _,hx7.set (by omega) _,by simp only[Qa.next_set];omega,by rw[Qa.get_set,if_neg (by omega)];exact hm7,by rw[Qa.get_set,if_pos rfl],?_,by rw[hfil,List.map_append,hzs];simp,by simp;omega,?_,?_,?_,?_,?_,?_,?_⟩
     ·rcases y4 with⟨h,_⟩ | ⟨b8,h,g1,g2,g3,g4⟩
      ·cases h
      ·refine .inr ⟨b8,h,g1,?_,g3,fun y hy=>?_⟩
       ·rw[Qa.get_set,if_neg (by omega)];exact g2
       ·have hq:=g4 y hy
        have keep:∀ (s:Value) (l:List Int),KX H6 s l.length (ints l)→KX (H6.set (H.next+1) (.cells [.int .i64 ((d+1:Nat):Int),.slice (some a6) l6 c6,.map (some H.next)] QC false)) s l.length (ints l):=fun s l h=>by
         obtain⟨a,cp,rfl,h1⟩:=h
         refine⟨a,cp,rfl,fun hn=>?_⟩
         obtain⟨bb,ee,rr,rfl,hbb⟩:=h1 hn
         refine⟨bb,ee,rr,rfl,?_⟩
         rw[Qa.get_set,if_neg (fun e=>?_)]
         ·exact hbb
         ·subst e
          rw[hb7]at hbb
          simp only[Option.some.injEq,Blk.cells.injEq]at hbb
          have h2:(ints l)[2]? = some (.map (some H.next)):=by rw[← hbb.1];rfl
          unfold ints at h2
          rw[List.getElem?_map]at h2
          cases hl2:l[2]? with
          | none=>rw[hl2]at h2;cases h2
          | some z=>rw[hl2]at h2;cases h2
        exact⟨hq.1,hq.2.1,keep _ _ hq.2.2.1,keep _ _ hq.2.2.2⟩
     ·intro z hz
      simp only[List.mem_append,List.mem_singleton]at hz
      rcases hz with hz | rfl
      ·exact hzy z hz
      ·exact hym
     all_goals simp only[uxA,uxB,Nat.reduceBEq,r0,r1,r7,r32,r33]
  ·have h3:k=ys.length:=by have:=of_decide_eq_false h3;omega
   subst h3
   have hmbH3:H3.get mb=some (.map []):=by rw[hx3.get _ hmbl];exact hmb
   simp only[sxA,sxB,Nat.reduceBEq,Nat.reduceEqDiff,reduceCtorEq,mxA,mxB,Nat.reduceAdd,reduceIte,Nat.reduceLeDiff,splice,r0,r1,r7,hbH3]
   rw[QrZ (m:=mb) ty1 ty2 (by simp only[uxA,uxB,Nat.reduceBEq]) (by simp only[uxA,uxB,Nat.reduceBEq];exact ty5 c) hmbH3]
   simp only[sxA,sxB,Nat.reduceBEq,Nat.reduceEqDiff,reduceCtorEq,mxA,mxB,Nat.reduceAdd,reduceIte,Nat.reduceLeDiff,splice,r7,QbW]
   have hx03:=hx0.trans hx3
   rw[List.take_of_length_le (Nat.le_refl _)]at hzs
   refine .mk (by simp only[Qa.next_set];exact hx3.next) ⟨hx03.set hmb0 _,zs,hzs,⟨H.next+1,H.next,av,rfl,by have:=hx0.next;omega,hx0.next,?_,?_,(hac3.mono (by have:=hx0.next;omega)).setMap hmbH3⟩,hzl,hzy⟩
   ·rw[Qa.get_set,if_neg (by omega)];exact hb3
   ·rw[Qa.get_set,if_neg (by omega)];exact hm3
def QsI (l:List Int):List Value:=l.map (.int .u8 ·)
def QiG (H:Qa) (v:Value) (bs:List Int):Prop:=∃a cap,v=.slice a bs.length cap∧(0<bs.length→∃b o c e ro,a=some ⟨b,o,none⟩∧H.get b=some (.cells c e ro)∧∀i,i<bs.length→c[o+i]? = some (.int .u8 (bs.getD i 0)))
theorem QiG.ext {H H':Qa} {v:Value} {bs:List Int} (hw:H.Wf) (he:Ext H H') (h:QiG H v bs):QiG H' v bs:=by
 obtain⟨a,cap,rfl,h1⟩:=h
 refine⟨a,cap,rfl,fun hn=>?_⟩
 obtain⟨b,o,c,e,ro,rfl,hb,hc⟩:=h1 hn
 exact⟨b,o,c,e,ro,rfl,by rw[he.get b (hw.lt hb)];exact hb,hc⟩
def WM (c:Int):Bool:=IntKind.u8.wrap (BitVec.ofInt IntKind.u8.bits c &&& BitVec.ofInt IntKind.u8.bits 240).toNat==64
def QV:List Int→Bool→Nat→List Fm→List Fm
 | [],_,_,L=>L
 | c::cs,ah,d,L=>bif YL d L then(bif ah&&WM c then QV cs false d L else QV cs (ah&&((c==102)||(c==242)||(c==243))) (d+1) (L.filter fun f=>Q0 f d c)) else L
theorem Qac {T:Qa→Prop} {L:List Fm} (hR:∀H,T H→Qf prog Wg [] H fun u H'=>Qfi H H' u L) (hty:QiF Ws) (va:Value) (bs:List Int) (H:Qa) (ht:T H) (hb:QiG H va bs) (hbl:bs.length≤100000):Qf prog Yy [va] H fun u H'=>Qfi H H' u (QV bs true 0 L):=by
 refine Qh8 fun hw=>?_
 simp only[Qcp,sxA,sxB,Nat.reduceBEq,Nat.reduceEqDiff,reduceCtorEq,mxA,mxB,Nat.reduceAdd,reduceIte,Nat.reduceLeDiff,splice]
 refine(QjA hR H ht).thenW ?_
 rintro nv H1 hn1 hw1 ⟨hx1,ys,e1,hN,hl,hf⟩
 obtain⟨aa,cap,rfl,hsl⟩:=id hb
 simp only[sxA,sxB,Nat.reduceBEq,Nat.reduceEqDiff,reduceCtorEq,mxA,mxB,Nat.reduceAdd,reduceIte,Nat.reduceLeDiff,splice]
 refine QX (fun m A' H'=>∃ (i:Nat) (ah:Bool) (d:Nat) (zs:List Lf),i≤bs.length∧m=bs.length - i∧H'.Wf∧Ext H H'∧QqP H H' (A' 3) d zs∧QV (bs.drop i) ah d (zs.map (·.f))=QV bs true 0 L∧d≤i∧zs.length≤6000∧(∀z∈zs,z.Fr H.next)∧
   A' 4=.bool ah∧A' 8=.slice aa bs.length cap∧A' 9=.int .i64 bs.length∧A' 10=.int .i64 i) bs.length ?_ ?_
 ·refine⟨0,true,0,ys,Nat.zero_le _,by omega,hw1,hx1,?_,by rw[List.drop_zero,e1],Nat.le_refl _,hl,hf,?_,?_,?_,?_⟩
  all_goals simp only[uxA,uxB,Nat.reduceBEq]
  ·exact hN
  rfl
 ·rintro m A' H3 ⟨i,ah,d,zs,hi,rfl,hw3,hx3,hN3,hgo,hdi,hzl,hzf,r4,r8,r9,r10⟩
  simp only[sxA,sxB,Nat.reduceBEq,Nat.reduceEqDiff,reduceCtorEq,mxA,mxB,Nat.reduceAdd,reduceIte,Nat.reduceLeDiff,splice,r9,r10]
  refine Qg (fun h3=>?_) (fun h3=>?_)
  ·have h3:i<bs.length:=by have:=of_decide_eq_true h3;omega
   obtain⟨b1,o1,c1,ee1,ro1,rfl,hg1,hc1⟩:=hsl (by omega)
   have hg3:H3.get b1=some (.cells c1 ee1 ro1):=by rw[hx3.get _ (hw.lt hg1)];exact hg1
   have d1:(0:Int)≤i∧(i:Int)<bs.length:=by omega
   have d3:(i:Int).toNat=i:=by omega
   have ek:IntKind.i64.wrap ((i:Int)+1)=((i+1:Nat):Int):=by rw[w64 (by unfold I64;omega)];omega
   have hci:=hc1 i h3
   have hdr:bs.drop i=bs.getD i 0::bs.drop (i+1):=by
    rw[List.drop_eq_getElem_cons h3]
    simp[List.getD,List.getElem?_eq_getElem h3]
   rw[hdr,QV]at hgo
   generalize bs.getD i 0=c at hci hgo hdr
   simp only[sxA,sxB,Nat.reduceBEq,Nat.reduceEqDiff,reduceCtorEq,mxA,mxB,Nat.reduceAdd,reduceIte,Nat.reduceLeDiff,splice,r8,r10,d1,d3,hg3,hci]
   refine(QjB hN3 hzl).thenW ?_
   rintro _ _ hn4 hw4 ⟨rfl,m4,rfl⟩
   simp only[Qa.next_up]at hn4
   have hxu:Ext H3 (H3.up m4):=(Ext.refl H3).up hn4
   have hN4:QqP H (H3.up m4) (A' 3) d zs:=by
    obtain⟨b,mb,fv,g1,g2,g3,g4,g5,g6⟩:=hN3
    exact⟨b,mb,fv,g1,g2,g3,by rw[Qa.get_up];exact g4,by rw[Qa.get_up];exact g5,g6.ext hw3 hxu⟩
   have hx4:=hx3.trans hxu
   generalize H3.up m4=H4 at hw4 hxu hN4 hx4
   simp only[sxA,sxB,Nat.reduceBEq,Nat.reduceEqDiff,reduceCtorEq,mxA,mxB,Nat.reduceAdd,reduceIte,Nat.reduceLeDiff,splice]
   cases hop:YL d (zs.map (·.f)) with
   | false=>
    rw[hop,cond_false]at hgo
    obtain⟨b,mb,fv,e3,hb0,hmb0,hgb,hmb,ha⟩:=hN4
    simp only[sxA,sxB,Nat.reduceBEq,Nat.reduceEqDiff,reduceCtorEq,mxA,mxB,Nat.reduceAdd,reduceIte,Nat.reduceLeDiff,splice,e3,hgb,Qbq]
    exact .mk hx4.next ⟨hx4,zs,hgo,ha,hzl,hzf⟩
   | true=>
    rw[hop,cond_true]at hgo
    simp only[sxA,sxB,Nat.reduceBEq,Nat.reduceEqDiff,reduceCtorEq,mxA,mxB,Nat.reduceAdd,reduceIte,Nat.reduceLeDiff,splice,r4]
    have rexd:(IntKind.u8.wrap (BitVec.ofInt IntKind.u8.bits c &&& BitVec.ofInt IntKind.u8.bits 240).toNat==64)=WM c:=rfl
    cases ah with
    | true=>
     simp only[Bool.true_and]at hgo
     simp only[sxA,sxB,Nat.reduceBEq,Nat.reduceEqDiff,reduceCtorEq,mxA,mxB,Nat.reduceAdd,reduceIte,Nat.reduceLeDiff,splice,rexd]
     cases hrx:WM c with
     | true=>
      rw[hrx,cond_true]at hgo
      simp only[sxA,sxB,Nat.reduceBEq,Nat.reduceEqDiff,reduceCtorEq,mxA,mxB,Nat.reduceAdd,reduceIte,Nat.reduceLeDiff,splice,r10,ek]
      refine⟨bs.length - (i+1),by omega,i+1,false,d,zs,by omega,rfl,hw4,hx4,?_,hgo,by omega,hzl,hzf,?_,?_,?_,?_⟩
      all_goals simp only[uxA,uxB,Nat.reduceBEq,r8,r9]
      exact hN4
     | false=>
      rw[hrx,cond_false]at hgo
      cases q1:c==102<;>cases q2:c==242<;>cases q3:c==243<;>simp only[sxA,sxB,Nat.reduceBEq,Nat.reduceEqDiff,reduceCtorEq,mxA,mxB,Nat.reduceAdd,reduceIte,Nat.reduceLeDiff,splice,r4,q1,q2,q3]
      all_goals
       rw[q1,q2,q3]at hgo
       simp only[Bool.or_false,Bool.or_true,Bool.false_or,Bool.true_or,Bool.or_self]at hgo
       refine(QcU hty hN4 hx4 hzl (by omega) c).thenW ?_
       rintro v6 H6 hn6 hw6 ⟨hx6,zs2,hz2,hN6,hl6,hs6⟩
       simp only[sxA,sxB,Nat.reduceBEq,Nat.reduceEqDiff,reduceCtorEq,mxA,mxB,Nat.reduceAdd,reduceIte,Nat.reduceLeDiff,splice,r10,ek]
       refine⟨bs.length - (i+1),by omega,i+1,_,d+1,zs2,by omega,rfl,hw6,hx6,?_,by rw[hz2];exact hgo,by omega,by omega,fun z hz=>hzf z (hs6 z hz),?_,?_,?_,?_⟩
       all_goals simp only[uxA,uxB,Nat.reduceBEq,r8,r9]
       first | exact hN6 | rfl
    | false=>
     simp only[Bool.false_and,cond_false]at hgo
     simp only[sxA,sxB,Nat.reduceBEq,Nat.reduceEqDiff,reduceCtorEq,mxA,mxB,Nat.reduceAdd,reduceIte,Nat.reduceLeDiff,splice,r4]
     refine(QcU hty hN4 hx4 hzl (by omega) c).thenW ?_
     rintro v6 H6 hn6 hw6 ⟨hx6,zs2,hz2,hN6,hl6,hs6⟩
     simp only[sxA,sxB,Nat.reduceBEq,Nat.reduceEqDiff,reduceCtorEq,mxA,mxB,Nat.reduceAdd,reduceIte,Nat.reduceLeDiff,splice,r10,ek]
     refine⟨bs.length - (i+1),by omega,i+1,_,d+1,zs2,by omega,rfl,hw6,hx6,?_,by rw[hz2];exact hgo,by omega,by omega,fun z hz=>hzf z (hs6 z hz),?_,?_,?_,?_⟩
     all_goals simp only[uxA,uxB,Nat.reduceBEq,r8,r9]
     first | exact hN6 | rfl
  ·have h3:i=bs.length:=by have:=of_decide_eq_false h3;omega
   subst h3
   rw[List.drop_of_length_le (Nat.le_refl _),QV]at hgo
   obtain⟨b,mb,fv,e3,hb0,hmb0,hgb,hmb,ha⟩:=hN3
   simp only[sxA,sxB,Nat.reduceBEq,Nat.reduceEqDiff,reduceCtorEq,mxA,mxB,Nat.reduceAdd,reduceIte,Nat.reduceLeDiff,splice,e3,hgb,Qbq]
   exact .mk hx3.next ⟨hx3,zs,hgo,ha,hzl,hzf⟩
def Qwn (c:Int):Int:=IntKind.i64.wrap (BitVec.ofInt IntKind.i64.bits c &&& ~~~BitVec.ofInt IntKind.i64.bits 7).toNat
def Qhr (f:Fm) (c:Int):Int:=bif decide (0≤QZ f.slots 4) then Qwn c else c
theorem QuF (x:BitVec 64):x &&& ~~~(BitVec.ofInt 64 7)=(x >>> 3) <<< 3:=by
 have h7:∀i:Fin 64,(BitVec.ofInt 64 7).getLsbD i.1=decide (i.1<3):=by decide
 apply BitVec.eq_of_getLsbD_eq
 intro i hi
 have:=h7 ⟨i,hi⟩
 simp only[BitVec.getLsbD_and,BitVec.getLsbD_not,BitVec.getLsbD_shiftLeft,BitVec.getLsbD_ushiftRight,this,hi,decide_true,Bool.true_and]
 by_cases h3:i<3
 ·simp[h3]
 ·simp[h3,show 3+(i - 3)=i by omega]
theorem Qfo (c:Int) (h:I64 c):Qwn c=c - c % 8:=by
 unfold Qwn
 show IntKind.i64.wrap ((BitVec.ofInt 64 c &&& ~~~BitVec.ofInt 64 7).toNat:Nat)=_
 rw[QuF,IntKind.wrap_i64]
 unfold I64 at h
 simp only[BitVec.toNat_shiftLeft,BitVec.toNat_ushiftRight,BitVec.toNat_ofInt,Nat.shiftLeft_eq,Nat.shiftRight_eq_div_pow]
 omega
def QoF (a b:Fm):Bool:=let c:=bif decide (0≤QZ a.slots 4) then b.code else a.code;(a.code==Qhr a c)&&(b.code==Qhr b c)
def QaM (f:Fm):Int:=if 0≤QZ f.slots 2∧QZ f.slots 2<f.shapes.length then f.shapes.getD (QZ f.slots 2).toNat 0 else 0
def Qg5 (f:Fm):Bool:=decide (1≤QaM f)&&decide (QaM f≤6)
def Qg6 (f:Fm):Bool:=(decide (15≤QaM f)&&decide (QaM f≤19))||(QaM f==34)
def Qfp (a b:Fm):Bool:=
 (a.vex==b.vex)&&(a.pre==b.pre)&&(a.map==b.map)&&(a.l==b.l) &&
 !((!(a.w==b.w)&&!(a.w==-1)&&!(b.w==-1))||!QoF a b) &&
 ((!decide (0≤QZ a.slots 2)||!decide (0≤QZ b.slots 2)) ||
  (!(decide (0≤a.digit)&&decide (0≤b.digit)&&!(a.digit==b.digit))&&!((Qg5 a&&Qg6 b)||(Qg6 a&&Qg5 b))))
theorem Vo (x n:Int) (hx:I64 x) (hn:1≤n∧n≤4611686018427387904) (H:Qa):Qf prog X9 [.int .i64 x,.int .i64 n] H fun u H'=>u=.int .i64 (x % n)∧H'=H:=by
 refine Qde fun hw=>?_
 have h1:¬n<1:=by omega
 have h2:n≠0:=by omega
 simp only[K9,sxA,sxB,simprocAttr,h1,decide_false]
 refine⟨h2,?_⟩
 have hp:=Int.emod_nonneg x h2
 have hp2:=Int.emod_lt_of_pos x (by omega:0<n)
 have ht:x.tmod n=if 0≤x then x % n else if x % n=0 then 0 else x % n - n:=by
  rw[Int.tmod_eq_emod]
  have hd:(n ∣ x)↔x % n=0:=⟨Int.emod_eq_zero_of_dvd,Int.dvd_of_emod_eq_zero⟩
  have hnn:(n.natAbs:Int)=n:=Int.natAbs_of_nonneg (by omega)
  by_cases h0:0≤x
  ·simp[h0]
  ·by_cases h3:x % n=0
   ·simp[h0,hd.2 h3,h3]
   ·have hnd:¬n ∣ x:=fun h=>h3 (hd.1 h)
    simp[h0,h3,hnd,hnn]
 refine Qg (fun h3=>?_) (fun h3=>?_)
 ·have h3:x.tmod n<0:=of_decide_eq_true h3
  have e:IntKind.i64.wrap (x.tmod n+n)=x % n:=by
   rw[w64 (by unfold I64;split at ht<;>(try split at ht)<;>omega)]
   split at ht<;>(try split at ht)<;>omega
  simp only[sxA,sxB,simprocAttr,KB,e]
  exact .mk (Nat.le_refl _) ⟨rfl,rfl⟩
 ·have h3:¬x.tmod n<0:=of_decide_eq_false h3
  have e:x.tmod n=x % n:=by split at ht<;>(try split at ht)<;>omega
  simp only[sxA,sxB,simprocAttr,KB,e]
  exact .mk (Nat.le_refl _) ⟨rfl,rfl⟩
end Go.Proofs.YtfofbicfabokbaaGreatDoor.code
