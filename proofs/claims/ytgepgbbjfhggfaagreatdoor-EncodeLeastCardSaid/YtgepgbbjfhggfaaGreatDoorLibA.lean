/- Forms in memory, and the kit's parts that look at them. -/
import Derived.Test.YtgepgbbjfhggfaaGreatDoorC0Code
import Derived.Test.YtgepgbbjfhggfaaGreatDoorAbD
import Derived.Laws.BitsLemmas
import Derived.Test.YtgepgbbjfhggfaaGreatDoorAbC
set_option linter.unusedVariables false
set_option linter.unusedSimpArgs false
set_option maxRecDepth 100000
noncomputable section
namespace Go.Proofs.YtgepgbbjfhggfaaGreatDoor.code
open Go.Ab
def I64 (n:Int):Prop:=-9223372036854775808≤n∧n≤9223372036854775807
theorem w64 {n:Int} (h:I64 n):IntKind.i64.wrap n=n:=by
 rw[IntKind.wrap_i64];unfold I64 at h;omega
def ints (l:List Int):List Value:=l.map (.int .i64 ·)
theorem Vw {l:List Int} {i:Nat} (h:i<l.length):(ints l)[i]? = some (.int .i64 (l.getD i 0)):=by
 simp[ints,List.getElem?_eq_getElem h,List.getD]
def Vy (H:Qa) (v:Value) (n:Nat) (cs:List Value):Prop:=∃a cap,v=.slice a n cap∧(0<n→∃b e ro,a=some ⟨b,0,none⟩∧H.get b=some (.cells cs e ro))
theorem Vy.ext {H H':Qa} {v:Value} {n:Nat} {cs:List Value} (hw:H.Wf) (he:Ext H H') (h:Vy H v n cs):Vy H' v n cs:=by
 obtain⟨a,cap,rfl,h1⟩:=h
 refine⟨a,cap,rfl,fun hn=>?_⟩
 obtain⟨b,e,ro,rfl,hb⟩:=h1 hn
 exact⟨b,e,ro,rfl,by rw[he.get b (hw.lt hb)];exact hb⟩
theorem QY {H:Qa} {v:Value} {n:Nat} {cs:List Value} (h:Vy H v n cs):∃a cap,v=.slice a n cap:=by
 obtain⟨a,cap,rfl,_⟩:=h;exact⟨a,cap,rfl⟩
structure Fm where
 op:Int
 pre:Int
 map:Int
 code:Int
 digit:Int
 w:Int
 l:Int
 vex:Bool
 shapes:List Int
 slots:List Int
 deriving DecidableEq
structure Lf where
 f:Fm
 sv:Value
 tv:Value
def Lf.cells (x:Lf):List Value:=[.int .i64 x.f.op,x.sv,x.tv,.int .i64 x.f.pre,.int .i64 x.f.map,.int .i64 x.f.code,.int .i64 x.f.digit,.int .i64 x.f.w,.bool x.f.vex,.int .i64 x.f.l]
def Lf.At (H:Qa) (x:Lf):Prop:=x.f.shapes.length≤1000∧x.f.slots.length≤1000∧Vy H x.sv x.f.shapes.length (ints x.f.shapes)∧Vy H x.tv x.f.slots.length (ints x.f.slots)
theorem Lf.At.ext {H H':Qa} {x:Lf} (hw:H.Wf) (he:Ext H H') (h:x.At H):x.At H':=⟨h.1,h.2.1,h.2.2.1.ext hw he,h.2.2.2.ext hw he⟩
def WN (xs:List Lf):List Value:=xs.flatMap Lf.cells
theorem QH (x:Lf):x.cells.length=10:=rfl
theorem Yq:∀xs:List Lf,(WN xs).length=xs.length * 10
 | []=>rfl
 | x::xs=>by
  have:=Yq xs
  simp only[WN,List.flatMap_cons,List.length_append,QH,List.length_cons]at this ⊢
  omega
theorem Qce:∀ (l:List Lf) (i:Nat) (p:Lf),l[i]? = some p→((WN l).drop (i * 10)).take 10=p.cells
 | [],i,p,h=>by simp at h
 | q::l,0,p,h=>by
  simp at h;subst h
  have:(WN (q::l))=q.cells++WN l:=by simp[WN]
  rw[this,Nat.zero_mul,List.drop_zero,List.take_append_of_le_length (by rw[QH];exact Nat.le_refl 10),List.take_of_length_le (by rw[QH];exact Nat.le_refl 10)]
 | q::l,i+1,p,h=>by
  have e:(WN (q::l))=q.cells++WN l:=by simp[WN]
  rw[e,show(i+1) * 10=q.cells.length+i * 10 by rw[QH];omega,List.drop_append,List.drop_of_length_le (by omega),List.nil_append,Nat.add_sub_cancel_left]
  exact Qce l i p (by simpa using h)
theorem Wm (p:Lf):List.take 10 p.cells=p.cells:=Eq.trans rfl rfl
theorem Qqy (xs:List Lf) (x:Lf):WN (xs++[x])=WN xs++x.cells:=by simp[WN]
def Qit (H:Qa) (v:Value) (xs:List Lf):Prop:=Vy H v xs.length (WN xs)∧∀x∈xs,x.At H
theorem Qit.ext {H H':Qa} {v:Value} {xs:List Lf} (hw:H.Wf) (he:Ext H H') (h:Qit H v xs):Qit H' v xs:=⟨h.1.ext hw he,fun x hx=>(h.2 x hx).ext hw he⟩
theorem Qqz {H:Qa} {v:Value} {n:Nat} {cs:List Value} (h:Vy H v n cs):v.oneCell'=true:=by
 obtain⟨a,cap,rfl,_⟩:=h;rfl
theorem QgW {H:Qa} {x:Lf} (h:x.At H):(x.cells.all fun v=>v.oneCell')=true:=by
 simp only[Lf.cells,List.all_cons,List.all_nil,Qqz h.2.2.1,Qqz h.2.2.2,Bool.and_true]
 rfl
def JF:List Int→Int→Nat→Int
 | [],_,_=>-1
 | y::l,x,k=>if x=y then(k:Int) else JF l x (k+1)
def QB (l:List Int) (x:Int):Int:=JF l x 0
theorem Ql8 (x:Int):∀ (l:List Int) (k i:Nat),(∀j,j<i→¬x=l.getD j 0)→i<l.length→x=l.getD i 0→JF l x k=((k+i:Nat):Int)
 | [],k,i,_,hl,_=>by simp at hl
 | y::l,k,0,_,_,h=>by
  have h:x=y:=by simpa using h
  simp[JF,h]
 | y::l,k,i+1,hn,hl,h=>by
  have h0:¬x=y:=by have:=hn 0 (by omega);simpa using this
  rw[JF,if_neg h0,Ql8 x l (k+1) i (fun j hj=>by have:=hn (j+1) (by omega);simpa using this) (by simpa using hl) (by simpa using h)]
  congr 1;omega
theorem Ql9 (x:Int):∀ (l:List Int) (k:Nat),(∀j,j<l.length→¬x=l.getD j 0)→JF l x k=-1
 | [],k,_=>rfl
 | y::l,k,hn=>by
  have h0:¬x=y:=by have:=hn 0 (by simp);simpa using this
  rw[JF,if_neg h0]
  exact Ql9 x l (k+1) (fun j hj=>by have:=hn (j+1) (by simpa using hj);simpa using this)
theorem Qma (va:Value) (xs:List Int) (x:Int) (H:Qa) (ha:Vy H va xs.length (ints xs)) (hl:xs.length≤1000):Qe prog Wp [va,.int .i64 x] H fun u H'=>u=.int .i64 (QB xs x)∧H'=H:=by
 refine Z3 fun hw=>?_
 obtain⟨aa,acap,rfl,hsa⟩:=ha
 simp only[XP,sxA,sxB,Nat.reduceBEq,Nat.reduceEqDiff,reduceCtorEq,mxA,mxB,Nat.reduceAdd,reduceIte,Nat.reduceLeDiff,splice]
 refine Qy (fun m A' H'=>∃i:Nat,i≤xs.length∧m=xs.length - i∧H'=H∧(∀j,j<i→¬x=xs.getD j 0)∧A' 0=.slice aa xs.length acap∧A' 1=.int .i64 x∧A' 7=.int .i64 (xs.length:Int)∧A' 8=.int .i64 i) xs.length ?_ ?_
 ·refine⟨0,Nat.zero_le _,by omega,rfl,fun j h=>by omega,?_,?_,?_,?_⟩
  all_goals simp only[uxA,uxB,Nat.reduceBEq]
  rfl
 ·rintro m A' H' ⟨i,hi,rfl,hEq,hall,r0,r1,r7,r8⟩
  subst hEq
  simp only[sxA,sxB,Nat.reduceBEq,Nat.reduceEqDiff,reduceCtorEq,mxA,mxB,Nat.reduceAdd,reduceIte,Nat.reduceLeDiff,splice,r7,r8]
  refine Qg (fun h2=>?_) (fun h2=>?_)
  ·have h2:i<xs.length:=by have:=of_decide_eq_true h2;omega
   obtain⟨b1,e1,ro1,rfl,hb1⟩:=hsa (by omega)
   have c1:(0:Int)≤i∧(i:Int)<xs.length:=by omega
   have c3:(i:Int).toNat=i:=by omega
   have ei:IntKind.i64.wrap ((i:Int)+1)=((i+1:Nat):Int):=by rw[w64 (by unfold I64;omega)];omega
   have g1:=Vw (l:=xs) (i:=i) (by omega)
   simp only[sxA,sxB,Nat.reduceBEq,Nat.reduceEqDiff,reduceCtorEq,mxA,mxB,Nat.reduceAdd,reduceIte,Nat.reduceLeDiff,splice,r0,r1,r8,c1,c3,hb1,g1]
   refine Qg (fun h3=>?_) (fun h3=>?_)
   ·have h3:x=xs.getD i 0:=by simpa using h3
    simp only[sxA,sxB,Nat.reduceBEq,Nat.reduceEqDiff,reduceCtorEq,mxA,mxB,Nat.reduceAdd,reduceIte,Nat.reduceLeDiff,splice,r8,WS]
    exact .mk (Nat.le_refl _) ⟨by rw[QB,Ql8 x xs 0 i hall h2 h3,Nat.zero_add],rfl⟩
   ·have h3:¬x=xs.getD i 0:=by simpa using h3
    simp only[sxA,sxB,Nat.reduceBEq,Nat.reduceEqDiff,reduceCtorEq,mxA,mxB,Nat.reduceAdd,reduceIte,Nat.reduceLeDiff,splice,r8,ei]
    refine⟨xs.length - (i+1),by omega,i+1,by omega,rfl,rfl,fun j hj=>?_,?_,?_,?_,?_⟩
    ·rcases Nat.lt_or_ge j i with h | h
     ·exact hall j h
     ·rw[show j=i by omega];exact h3
    all_goals simp only[uxA,uxB,Nat.reduceBEq,r0,r1,r7]
  ·have h2:i=xs.length:=by have:=of_decide_eq_false h2;omega
   subst h2
   simp only[sxA,sxB,Nat.reduceBEq,Nat.reduceEqDiff,reduceCtorEq,mxA,mxB,Nat.reduceAdd,reduceIte,Nat.reduceLeDiff,splice,WS]
   exact .mk (Nat.le_refl _) ⟨by rw[QB,Ql9 x xs 0 hall],rfl⟩
theorem QU (x:Lf) (k:Int) (H:Qa) (hx:x.At H):Qe prog QO [.agg x.cells.toArray,.int .i64 k] H fun u H'=>u=.int .i64 (QB x.f.slots k)∧∃m,H'=H.up m:=by
 refine QmR fun hw=>?_
 obtain⟨l1,l2,h1,h2⟩:=hx
 obtain⟨a2,c2,e2,_⟩:=id h2
 simp only[Lf.cells,QfF,e2,sxA,sxB,Nat.reduceBEq,Nat.reduceEqDiff,reduceCtorEq,mxA,mxB,Nat.reduceAdd,reduceIte,Nat.reduceLeDiff,splice]
 rw[← e2]
 refine(Qma _ x.f.slots k _ (h2.ext hw ((Ext.refl H).push _)) l2).mono ?_
 rintro _ _ ⟨rfl,rfl⟩
 simp only[sxA,sxB,Nat.reduceBEq,Nat.reduceEqDiff,reduceCtorEq,mxA,mxB,Nat.reduceAdd,reduceIte,Nat.reduceLeDiff,splice,QlH]
 exact .ext hw ((Ext.refl H).push _) ⟨rfl,_,rfl⟩
theorem QtE {H:Qa} {l:List Int} {y:Lf} {ys:List Lf} (hy:y.At H) (h:ints l=WN (y::ys)):False:=by
 have h1:(ints l)[1]? = some y.sv:=by rw[h];simp[WN,Lf.cells]
 obtain⟨a,c,e,_⟩:=hy.2.2.1
 rw[e]at h1
 unfold ints at h1
 rw[List.getElem?_map]at h1
 cases hl:l[1]? with
 | none=>rw[hl]at h1;cases h1
 | some z=>rw[hl]at h1;cases h1
def Acc (H0 H:Qa) (v:Value) (ys:List Lf):Prop:=(v=.slice none 0 0∧ys=[])∨(∃b,v=.slice (some ⟨b,0,none⟩) ys.length (UNK+10)∧H0.next≤b∧H.get b=some (.cells (WN ys) Qc false)∧ys≠[]∧∀y∈ys,y.At H)
theorem Acc.ext {H0 H H':Qa} {v:Value} {ys:List Lf} (hw:H.Wf) (hx:Ext H H') (h:Acc H0 H v ys):Acc H0 H' v ys:=by
 rcases h with h | ⟨b,h1,h2,h3,h4,h5⟩
 ·exact .inl h
 ·exact .inr ⟨b,h1,h2,by rw[hx.get _ (hw.lt h3)];exact h3,h4,fun y hy=>(h5 y hy).ext hw hx⟩
theorem Acc.fms {H0 H:Qa} {v:Value} {ys:List Lf} (h:Acc H0 H v ys):Qit H v ys:=by
 rcases h with⟨rfl,rfl⟩ | ⟨b,rfl,h2,h3,h4,h5⟩
 ·exact⟨⟨none,0,rfl,fun h=>by simp at h⟩,fun x hx=>by cases hx⟩
 ·exact⟨⟨_,_,rfl,fun _=>⟨b,_,_,rfl,h3⟩⟩,h5⟩
theorem Vy.kill {H:Qa} {v:Value} {l:List Int} {b:Nat} {y:Lf} {ys:List Lf} {e:TypeId} {ro:Bool} (hb:H.get b=some (.cells (WN (y::ys)) e ro)) (hy:y.At H) (h:Vy H v l.length (ints l)):Vy (H.kill b) v l.length (ints l):=by
 obtain⟨a,cap,rfl,h1⟩:=h
 refine⟨a,cap,rfl,fun hn=>?_⟩
 obtain⟨b1,e1,ro1,rfl,hb1⟩:=h1 hn
 refine⟨b1,e1,ro1,rfl,?_⟩
 have:b1≠b:=fun e=>by
  subst e
  rw[hb]at hb1
  simp only[Option.some.injEq,Blk.cells.injEq]at hb1
  exact QtE hy hb1.1.symm
 rw[Qa.get_kill,if_neg this];exact hb1
theorem Lf.At.kill {H:Qa} {x:Lf} {b:Nat} {ys:List Lf} {e:TypeId} {ro:Bool} (hb:H.get b=some (.cells (WN ys) e ro)) (hn:ys≠[]) (hy:∀y∈ys,y.At H) (h:x.At H):x.At (H.kill b):=by
 cases ys with
 | nil=>exact absurd rfl hn
 | cons y ys=>exact⟨h.1,h.2.1,h.2.2.1.kill hb (hy y (List.mem_cons_self ..)),h.2.2.2.kill hb (hy y (List.mem_cons_self ..))⟩
def QAv (H:Qa) (g:Value) (p:Fm→Bool):Prop:=∃ (f:FuncId) (ys:List Value),g=.func (.func f) #[] ys.toArray∧∀ (x:Lf) H',Ext H H'→x.At H'→Qe prog f ([.agg x.cells.toArray]++ys) H' fun u H''=>u=.bool (p x.f)∧∃m,H''=H'.up m
def QqH (n cap:Nat):Prop:=cap=UNK+1∨(n≤cap∧cap<UNK)
def SlF (M:Nat) (v:Value) (l:List Int):Prop:=(l=[]∧v=.slice none 0 0)∨(l≠[]∧∃b cap,v=.slice (some ⟨b,0,none⟩) l.length cap∧M≤b∧QqH l.length cap)
theorem SlF.mono {M M':Nat} {v:Value} {l:List Int} (hm:M'≤M) (h:SlF M v l):SlF M' v l:=by
 rcases h with h | ⟨h,b,cap,h1,h2,h3⟩
 ·exact .inl h
 ·exact .inr ⟨h,b,cap,h1,by omega,h3⟩
def Lf.Fr (M:Nat) (x:Lf):Prop:=SlF M x.sv x.f.shapes∧SlF M x.tv x.f.slots
theorem Lf.Fr.mono {M M':Nat} {x:Lf} (hm:M'≤M) (h:x.Fr M):x.Fr M':=⟨h.1.mono hm,h.2.mono hm⟩
def QeL (T:Qa→Prop) (f:FuncId) (L:List Fm):Prop:=∀H,T H→Qe prog f [] H fun u H'=>Ext H H'∧∃xs:List Lf,xs.map (·.f)=L∧Acc H H' u xs∧xs.length≤1000∧∀x∈xs,x.Fr H.next
theorem Acc.mono {H0 H1 H:Qa} {v:Value} {ys:List Lf} (hn:H0.next≤H1.next) (h:Acc H1 H v ys):Acc H0 H v ys:=by
 rcases h with h | ⟨b,h1,h2,h3⟩
 ·exact .inl h
 ·exact .inr ⟨b,h1,by omega,h3⟩
def QeM (H H':Qa) (v:Value):Prop:=∀id bl,H.get id=some bl→(∀a l c,v=.slice (some a) l c→id≠a.block)→H'.get id=some bl
theorem QeM.ints {H0 H H':Qa} {v s:Value} {ys:List Lf} {l:List Int} (hk:QeM H H' v) (ha:Acc H0 H v ys) (h:Vy H s l.length (ints l)):Vy H' s l.length (ints l):=by
 obtain⟨a,cap,rfl,h1⟩:=h
 refine⟨a,cap,rfl,fun hn=>?_⟩
 obtain⟨b1,e1,ro1,rfl,hb1⟩:=h1 hn
 refine⟨b1,e1,ro1,rfl,hk _ _ hb1 fun a l c hv e=>?_⟩
 rcases ha with⟨rfl,_⟩ | ⟨b,rfl,h2,h3,h4,h5⟩
 ·cases hv
 ·cases hv
  subst e
  cases ys with
  | nil=>exact h4 rfl
  | cons y ys=>
   rw[h3]at hb1
   simp only[Option.some.injEq,Blk.cells.injEq]at hb1
   exact QtE (h5 y (List.mem_cons_self ..)) hb1.1.symm
theorem QeM.at {H0 H H':Qa} {v:Value} {ys:List Lf} {x:Lf} (hk:QeM H H' v) (ha:Acc H0 H v ys) (h:x.At H):x.At H':=⟨h.1,h.2.1,hk.ints ha h.2.2.1,hk.ints ha h.2.2.2⟩
theorem QeM.fms {H0 H H':Qa} {v u:Value} {ys xs:List Lf} (hk:QeM H H' v) (ha:Acc H0 H v ys) (h:Qit H u xs) (hne:∀a l c a' l' c',u=.slice (some a) l c→v=.slice (some a') l' c'→a.block≠a'.block):Qit H' u xs:=by
 obtain⟨⟨a,cap,rfl,h1⟩,h2⟩:=h
 refine⟨⟨a,cap,rfl,fun hl=>?_⟩,fun x hx=>hk.at ha (h2 x hx)⟩
 obtain⟨b1,e1,ro1,rfl,hb1⟩:=h1 hl
 exact⟨b1,e1,ro1,rfl,hk _ _ hb1 fun a l c hv=>hne _ _ _ _ _ _ rfl hv⟩
theorem QeM.next {H H':Qa} {v:Value} (_:QeM H H' v):True:=trivial
theorem Acc.app {H0 H:Qa} {v:Value} {ys:List Lf} {x:Lf} {b1:Nat} {K:Value→Qa→Prop} (h:Acc H0 H v ys) (hx:Ext H0 H) (hw:H.Wf) (hxa:x.At H) (hl:ys.length≤100000) (hb1:H.get b1=some (.cells x.cells Qc false)) (hne:∀a l c,v=.slice (some a) l c→a.block≠b1)
  (hK:∀v' H',Ext H0 H'→H'.Wf→H.next≤H'.next→Acc H0 H' v' (ys++[x])→(∀a l c,v'=.slice (some a) l c→H.next≤a.block)→QeM H H' v→K v' H'):Qhv Qc 10 112 v (.slice (some ⟨b1,0,none⟩) 1 1) H K:=by
 have hsrc:Jh 10 (.slice (some ⟨b1,0,none⟩) 1 1) H=some (1,x.cells):=by
  have:=Qam (size:=10) (m:=1) (b:=b1) (o:=0) (cap:=1) (c:=x.cells) (e:=Qc) (ro:=false) (H:=H) hb1 (by decide) (by rw[QH];decide)
  rw[this];rfl
 have a1:=QgW hxa
 have hn0:=hx.next
 rcases id h with⟨rfl,rfl⟩ | ⟨b,rfl,hb0,hgb,hyn,hya⟩
 ·refine QlE hsrc a1 (by decide) (by decide) (by decide) ?_
  have hk:QeM H (H.push (.cells x.cells Qc false)) (.slice none 0 0):=fun id bl hg _=>by
   rw[Qa.get_push,if_neg (by have:=hw.lt hg;omega)];exact hg
  refine hK _ _ (hx.push _) (hw.push _) (by simp) (.inr ⟨H.next,rfl,hn0,by rw[Qa.get_push,if_pos rfl];simp[WN],by simp,fun y hy=>?_⟩) (fun a l c e=>by cases e;exact Nat.le_refl _) hk
  simp only[List.nil_append,List.mem_singleton]at hy
  subst hy
  exact hk.at h hxa
 ·have hbl:=hw.lt hgb
  have hbn:b≠b1:=hne _ _ _ rfl
  refine Qqh rfl hsrc a1 (by decide) (c:=WN ys) hgb (by rw[Yq];omega) (by omega) (by omega) (by unfold UNK;omega) ?_
  have hk:QeM H ((H.kill b).push (.cells (WN ys++x.cells) Qc false)) (.slice (some ⟨b,0,none⟩) ys.length (UNK+10)):=fun id bl hg hn=>by
   rw[Qa.get_push,if_neg (by have:=hw.lt hg;simp;omega),Qa.get_kill,if_neg (hn _ _ _ rfl)];exact hg
  have:=hK (.slice (some ⟨H.next,0,none⟩) (ys.length+1) (UNK+10)) ((H.kill b).push (.cells (WN ys++x.cells) Qc false)) ((hx.kill hb0).push _) ((hw.kill _).push _) (by simp)
   (.inr ⟨H.next,by simp,hn0,by rw[Qa.get_push,if_pos (by simp),Qqy],by simp,fun y hy=>?_⟩) (fun a l c e=>by cases e;exact Nat.le_refl _) hk
  ·exact this
  ·simp only[List.mem_append,List.mem_singleton]at hy
   rcases hy with hy | rfl
   ·exact hk.at h (hya y hy)
   ·exact hk.at h hxa
theorem Qkf (f:Fn) (xs ys:Array Value):(Value.func f xs ys).cells.toList=[.func f xs ys]:=Eq.trans rfl rfl
theorem Qiy (f:Fn) (xs ys:Array Value):(Value.func f xs ys).oneCell'=true:=Eq.trans rfl rfl
theorem QnX (f:FuncId) (l:List Value) (H:Qa) (k:Value→Qa→Prop):cvK (.func (.func f) #[] #[]) prog l H k=Qe prog f l H k:=by
 show Qe prog f (([]:List Value)++l++[]) H k=_
 rw[List.nil_append,List.append_nil]
theorem QtF (f:FuncId) (ys l:List Value) (H:Qa) (k:Value→Qa→Prop):cvK (.func (.func f) #[] ys.toArray) prog l H k=Qe prog f (l++ys) H k:=by
 show Qe prog f (([]:List Value)++l++ys) H k=_
 rw[List.nil_append]
def Qsw (H H':Qa) (u:Value) (L:List Fm):Prop:=Ext H H'∧∃ys:List Lf,ys.map (·.f)=L∧Acc H H' u ys∧ys.length≤6000∧∀y∈ys,y.Fr H.next
theorem Qg5 (x n:Int) (hx:I64 x) (hn:1≤n∧n≤4611686018427387904) (H:Qa):Qe prog ZR [.int .i64 x,.int .i64 n] H fun u H'=>u=.int .i64 (x % n)∧H'=H:=by
 refine Qff fun hw=>?_
 have h1:¬n<1:=by omega
 have h2:n≠0:=by omega
 simp only[GH,QBG,simprocAttr,h1,decide_false]
 refine⟨h2,?_⟩
 have hp:=Int.emod_nonneg x h2
 have hp2:=Int.emod_lt_of_pos x (by omega:0<n)
 have ht:x.tmod n=if 0≤x then x % n else if x % n=0 then 0 else x % n - n:=by
  rw[Int.tmod_eq_emod]
  have hd:(n ∣ x)↔x % n=0:=⟨Int.emod_eq_zero_of_dvd,Int.dvd_of_emod_eq_zero⟩
  have hnn:(n.natAbs:Int)=n:=Int.natAbs_of_nonneg (by omega)
  by_cases h0:0≤x
  ·simp[h0]
  ·by_cases h3:x % n=0
   ·simp[h0,hd.2 h3,h3]
   ·have hnd:¬n ∣ x:=fun h=>h3 (hd.1 h)
    simp[h0,h3,hnd,hnn]
 refine Qg (fun h3=>?_) (fun h3=>?_)
 ·have h3:x.tmod n<0:=of_decide_eq_true h3
  have e:IntKind.i64.wrap (x.tmod n+n)=x % n:=by
   rw[w64 (by unfold I64;split at ht<;>(try split at ht)<;>omega)]
   split at ht<;>(try split at ht)<;>omega
  simp only[QBG,simprocAttr,KZ,e]
  exact .mk (Nat.le_refl _) ⟨rfl,rfl⟩
 ·have h3:¬x.tmod n<0:=of_decide_eq_false h3
  have e:x.tmod n=x % n:=by split at ht<;>(try split at ht)<;>omega
  simp only[QBG,simprocAttr,KZ,e]
  exact .mk (Nat.le_refl _) ⟨rfl,rfl⟩
def lis:List (Int×Int×FuncId):=[(1,16,QcH),(16,47,G6),(48,115,Qao),(116,135,Qap),(136,262,QcI),(263,322,Qgr)]
def liC (x:Int×Int×FuncId):List Value:=[.int .i64 x.1,.int .i64 x.2.1,.func (.func x.2.2) #[] #[]]
theorem Qns (H:Qa):Qe prog Qa8 [] H fun u H'=>u=.slice (some ⟨H.next,0,none⟩) 6 6∧H'=H.push (.cells (lis.flatMap liC) Wg false):=by
 refine QlG fun hw=>?_
 simp only[Qeh,sxA,sxB,Nat.reduceBEq,Nat.reduceEqDiff,reduceCtorEq,mxA,mxB,Nat.reduceAdd,reduceIte,Nat.reduceLeDiff,splice,Qkf,Qiy,Qkl,Nat.reduceMul,Nat.reduceLeDiff,if_true]
 exact .mk (by simp) ⟨rfl,rfl⟩
theorem QwG:∀ (l:List (Int×Int×FuncId)) (i:Nat) (p:Int×Int×FuncId),l[i]? = some p→((l.flatMap liC).drop (i * 3)).take 3=liC p
 | [],i,p,h=>by simp at h
 | q::l,0,p,h=>by
  simp at h;subst h
  simp[liC]
 | q::l,i+1,p,h=>by
  have e:((q::l).flatMap liC)=liC q++l.flatMap liC:=by simp
  have n:(liC q).length=3:=rfl
  rw[e,show(i+1) * 3=(liC q).length+i * 3 by rw[n];omega,List.drop_append,List.drop_of_length_le (by omega),List.nil_append,Nat.add_sub_cancel_left]
  exact QwG l i p (by simpa using h)
def Qmy (LL:FuncId→List Fm) (fr to:Int) (p:Fm→Bool) (l:List (Int×Int×FuncId)):List Fm:=l.flatMap fun x=>bif decide (to<x.1)||decide (fr>x.2.1) then[] else(LL x.2.2).filter p
theorem QkG {T:Qa→Prop} (hT:∀H H',H.Wf→T H→Ext H H'→T H') (LL:FuncId→List Fm) (hL:∀x∈lis,QeL T x.2.2 (LL x.2.2)) (fr to:Int) (g:Value) (p:Fm→Bool) (H:Qa) (hg:QAv H g p) (ht:T H):
  Qe prog Gb [.int .i64 fr,.int .i64 to,g] H fun u H'=>Ext H H'∧∃ys:List Lf,ys.map (·.f)=Qmy LL fr to p lis∧Acc H H' u ys∧ys.length≤6000∧∀y∈ys,y.Fr H.next:=by
 refine Qi4 fun hw=>?_
 obtain⟨gf,gys,rfl,hg⟩:=hg
 simp only[QbF,sxA,sxB,Nat.reduceBEq,Nat.reduceEqDiff,reduceCtorEq,mxA,mxB,Nat.reduceAdd,reduceIte,Nat.reduceLeDiff,splice]
 refine(Qns H).thenW ?_
 rintro _ _ hn0 hw0 ⟨rfl,rfl⟩
 simp only[sxA,sxB,Nat.reduceBEq,Nat.reduceEqDiff,reduceCtorEq,mxA,mxB,Nat.reduceAdd,reduceIte,Nat.reduceLeDiff,splice]
 have hbl0:(H.push (.cells (lis.flatMap liC) Wg false)).get H.next=some (.cells (lis.flatMap liC) Wg false):=by rw[Qa.get_push,if_pos rfl]
 have hxp0:Ext H (H.push (.cells (lis.flatMap liC) Wg false)):=(Ext.refl H).push _
 have hnp0:(H.push (.cells (lis.flatMap liC) Wg false)).next=H.next+1:=rfl
 generalize H.push (.cells (lis.flatMap liC) Wg false)=Hp at hw0 hbl0 hxp0 hnp0
 have htp:=hT _ _ hw ht hxp0
 refine Qy (fun m A' H'=>∃ (i:Nat) (ys:List Lf),i≤6∧m=6 - i∧H'.Wf∧Ext Hp H'∧ys.map (·.f)=Qmy LL fr to p (lis.take i)∧ys.length≤i * 1000∧Acc Hp H' (A' 7) ys∧(∀y∈ys,y.Fr H.next)∧
  A' 0=.int .i64 fr∧A' 1=.int .i64 to∧A' 2=.func (.func gf) #[] gys.toArray∧A' 12=.slice (some ⟨H.next,0,none⟩) 6 6∧A' 13=.int .i64 6∧A' 14=.int .i64 i) 6 ?_ ?_
 ·refine⟨0,[],Nat.zero_le _,rfl,hw0,.refl _,rfl,Nat.zero_le _,?_,fun y hy=>(by cases hy),?_,?_,?_,?_,?_,?_⟩
  all_goals simp only[uxA,uxB,Nat.reduceBEq]
  ·exact .inl ⟨rfl,rfl⟩
  all_goals rfl
 ·rintro m A' H' ⟨i,ys,hi,rfl,hw1,hx1,hys,hyl,hacc,hyf,r0,r1,r2,r12,r13,r14⟩
  have ht1:=hT _ _ hw0 htp hx1
  have hbl:H'.get H.next=some (.cells (lis.flatMap liC) Wg false):=by rw[hx1.get _ (hw0.lt hbl0)];exact hbl0
  simp only[sxA,sxB,Nat.reduceBEq,Nat.reduceEqDiff,reduceCtorEq,mxA,mxB,Nat.reduceAdd,reduceIte,Nat.reduceLeDiff,splice,r13,r14]
  refine Qg (fun h2=>?_) (fun h2=>?_)
  ·have h2:i<6:=by have:=of_decide_eq_true h2;omega
   have hp:lis[i]? = some (lis[i]'h2):=List.getElem?_eq_getElem h2
   generalize hpe:lis[i]'h2=x at hp
   have hxm:x∈lis:=List.mem_of_getElem? hp
   have c1:(0:Int)≤i∧(i:Int)<((6:Nat):Int):=by omega
   have c3:(i:Int).toNat=i:=by omega
   have c4:i * 3+3≤18:=by omega
   have n1:(lis.flatMap liC).length=18:=rfl
   obtain⟨xa,xb,xf⟩:=x
   have d1:List.take 3 (List.drop (i * 3) (lis.flatMap liC))=[.int .i64 xa,.int .i64 xb,.func (.func xf) #[] #[]]:=QwG lis i _ hp
   have ei:IntKind.i64.wrap ((i:Int)+1)=((i+1:Nat):Int):=by rw[w64 (by unfold I64;omega)];omega
   simp only[sxA,sxB,Nat.reduceBEq,Nat.reduceEqDiff,reduceCtorEq,mxA,mxB,Nat.reduceAdd,reduceIte,Nat.reduceLeDiff,splice,Qkf,Qiy,r0,r1,r12,r14,c1,c3,c4,hbl,n1,d1]
   have htk:lis.take (i+1)=lis.take i++[(xa,xb,xf)]:=by rw[List.take_add_one,hp];rfl
   obtain⟨q1,e1⟩:∃c,decide (to<xa)=c:=⟨_,rfl⟩
   obtain⟨q2,e2⟩:∃c,decide (fr>xb)=c:=⟨_,rfl⟩
   obtain⟨Hn,hHn⟩:∃h,h=(H'.push (.cells [.int .i64 0,.int .i64 0,.nilFunc] Wg false)).set H'.next (.cells [.int .i64 xa,.int .i64 xb,.func (.func xf) #[] #[]] Wg false):=⟨_,rfl⟩
   have hwn:Hn.Wf:=by rw[hHn];exact(hw1.push _).set (by rw[Qa.get_push,if_pos rfl]) _
   have hxp:Ext H' Hn:=by rw[hHn];exact((Ext.refl H').push _).set (Nat.le_refl _) _
   have hgn:Hn.get H'.next=some (.cells [.int .i64 xa,.int .i64 xb,.func (.func xf) #[] #[]] Wg false):=by rw[hHn,Qa.get_set,if_pos rfl]
   have hnn:Hn.next=H'.next+1:=by rw[hHn];rfl
   simp only[← hHn]
   have hskip:(q1||q2)=true→ys.map (·.f)=Qmy LL fr to p (lis.take (i+1)):=fun h=>by
    rw[htk,Qmy,List.flatMap_append,← Qmy,← hys]
    simp[e1,e2,h]
   have hadd:(q1||q2)=false→ys.map (·.f)++(LL xf).filter p=Qmy LL fr to p (lis.take (i+1)):=fun h=>by
    rw[htk,Qmy,List.flatMap_append,← Qmy,← hys]
    simp[e1,e2,h]
   cases q1<;>simp only[sxA,sxB,Nat.reduceBEq,Nat.reduceEqDiff,reduceCtorEq,mxA,mxB,Nat.reduceAdd,reduceIte,Nat.reduceLeDiff,splice,r0,r1,r14,e1,e2,ei,hgn]
   ·cases q2<;>simp only[sxA,sxB,Nat.reduceBEq,Nat.reduceEqDiff,reduceCtorEq,mxA,mxB,Nat.reduceAdd,reduceIte,Nat.reduceLeDiff,splice,r0,r1,r14,ei,hgn,QnX]
    ·refine(hL _ hxm Hn (hT _ _ hw1 ht1 hxp)).thenW ?_
     rintro u H2 hn2 hw2 ⟨hx2,xs,hxs,hacx,hxl,hxfr⟩
     have hfm:=hacx.fms
     have hfr:∀a l c,u=.slice (some a) l c→Hn.next≤a.block:=fun a l c e=>by
      rcases hacx with⟨rfl,_⟩ | ⟨b,rfl,hb,_⟩
      ·cases e
      ·cases e;exact hb
     obtain⟨aa,cap,rfl,hsl⟩:=id hfm.1
     simp only[sxA,sxB,Nat.reduceBEq,Nat.reduceEqDiff,reduceCtorEq,mxA,mxB,Nat.reduceAdd,reduceIte,Nat.reduceLeDiff,splice]
     have ha2:=(hacc.ext hw1 hxp).ext hwn hx2
     have hx02:Ext Hp H2:=(hx1.trans hxp).trans hx2
     have hge:H.next≤Hn.next:=by have:=hx1.next;have:=hxp.next;omega
     refine Qy (fun m A2 H3=>∃ (k:Nat) (zs:List Lf),k≤xs.length∧m=xs.length - k∧H3.Wf∧Ext Hp H3∧zs.map (·.f)=ys.map (·.f)++((xs.take k).map (·.f)).filter p∧zs.length≤ys.length+k∧Acc Hp H3 (A2 7) zs∧Qit H3 (.slice aa xs.length cap) xs∧(∀z∈zs,z.Fr H.next)∧
      (∀a l c b,A2 7=.slice (some a) l c→aa=some b→b.block≠a.block)∧
      A2 0=.int .i64 fr∧A2 1=.int .i64 to∧A2 2=.func (.func gf) #[] gys.toArray∧A2 12=.slice (some ⟨H.next,0,none⟩) 6 6∧A2 13=.int .i64 6∧A2 14=.int .i64 i∧A2 30=.slice aa xs.length cap∧A2 31=.int .i64 xs.length∧A2 32=.int .i64 k) xs.length ?_ ?_
     ·refine⟨0,ys,Nat.zero_le _,rfl,hw2,hx02,by simp,by omega,?_,hfm,hyf,?_,?_,?_,?_,?_,?_,?_,?_,?_,?_⟩
      all_goals simp only[uxA,uxB,Nat.reduceBEq,r0,r1,r2,r12,r13,r14]
      ·exact ha2
      ·intro a l c b hv hb
       subst hb
       have h1:=hfr _ _ _ rfl
       rcases hacc with⟨h,_⟩ | ⟨b2,h,_,h3,_⟩
       ·rw[h]at hv;cases hv
       ·rw[h]at hv;cases hv
        have:=hw1.lt h3
        simp only
        omega
      all_goals rfl
     ·rintro m A2 H3 ⟨k,zs,hk,rfl,hw3,hx3,hzs,hzl,hac3,hfm3,hzf,hne3,s0,s1,s2,s12,s13,s14,s30,s31,s32⟩
      simp only[sxA,sxB,Nat.reduceBEq,Nat.reduceEqDiff,reduceCtorEq,mxA,mxB,Nat.reduceAdd,reduceIte,Nat.reduceLeDiff,splice,s31,s32]
      refine Qg (fun h3=>?_) (fun h3=>?_)
      ·have h3:k<xs.length:=by have:=of_decide_eq_true h3;omega
       obtain⟨⟨a4,cap4,e4,hsl3⟩,hxa3⟩:=id hfm3
       cases e4
       obtain⟨b1,e1',ro1,rfl,hb1⟩:=hsl3 (by omega)
       have d1:(0:Int)≤k∧(k:Int)<xs.length:=by omega
       have d3:(k:Int).toNat=k:=by omega
       have d4:k * 10+10≤xs.length * 10:=by omega
       have ek:IntKind.i64.wrap ((k:Int)+1)=((k+1:Nat):Int):=by rw[w64 (by unfold I64;omega)];omega
       have hpk:=List.getElem?_eq_getElem h3
       have dd:=Qce xs k _ hpk
       have nn:=Yq xs
       have hym:xs[k]∈xs:=List.getElem_mem h3
       have wk:=hxa3 _ hym
       have wf:(xs[k]).Fr H.next:=(hxfr _ hym).mono hge
       have hxtk:xs.take (k+1)=xs.take k++[xs[k]]:=List.take_succ_eq_append_getElem h3
       generalize xs[k]=x at hpk dd hym wk wf hxtk
       have ak:=QgW wk
       simp only[sxA,sxB,Nat.reduceBEq,Nat.reduceEqDiff,reduceCtorEq,mxA,mxB,Nat.reduceAdd,reduceIte,Nat.reduceLeDiff,splice,s0,s1,s2,s30,s32,d1,d3,d4,hb1,nn,dd,QH,Wm,ak]
       obtain⟨G1,hG1⟩:∃h,h=(H3.push (.cells [.int .i64 0,.slice none 0 0,.slice none 0 0,.int .i64 0,.int .i64 0,.int .i64 0,.int .i64 0,.int .i64 0,.bool false,.int .i64 0] Qc false)).set H3.next (.cells x.cells Qc false):=⟨_,rfl⟩
       have hwG1:G1.Wf:=by rw[hG1];exact(hw3.push _).set (by rw[Qa.get_push,if_pos rfl]) _
       have hxG1:Ext H3 G1:=by rw[hG1];exact((Ext.refl H3).push _).set (Nat.le_refl _) _
       have hgG1:G1.get H3.next=some (.cells x.cells Qc false):=by rw[hG1,Qa.get_set,if_pos rfl]
       have hnG1:G1.next=H3.next+1:=by rw[hG1];rfl
       simp only[← hG1,QtF]
       have hxH3:Ext H H3:=hxp0.trans hx3
       refine(hg x G1 (hxH3.trans hxG1) (wk.ext hw3 hxG1)).thenW ?_
       rintro _ G2 hn4 hw4 ⟨rfl,m4,rfl⟩
       simp only[Qa.next_up]at hn4
       have hxG2:Ext H3 (G1.up m4):=hxG1.up hn4
       have hgG2:(G1.up m4).get H3.next=some (.cells x.cells Qc false):=by rw[Qa.get_up];exact hgG1
       have hnG2:H3.next+1≤(G1.up m4).next:=by simp only[Qa.next_up];omega
       generalize G1.up m4=G2 at hw4 hxG2 hgG2 hnG2
       have hfil:((xs.take (k+1)).map (·.f)).filter p=((xs.take k).map (·.f)).filter p++bif p x.f then[x.f] else[]:=by
        rw[hxtk,List.map_append,List.filter_append]
        cases hpx:p x.f<;>simp[hpx]
       simp only[sxA,sxB,Nat.reduceBEq,Nat.reduceEqDiff,reduceCtorEq,mxA,mxB,Nat.reduceAdd,reduceIte,Nat.reduceLeDiff,splice]
       cases hpx:p x.f
       ·rw[hpx]at hfil
        simp only[sxA,sxB,Nat.reduceBEq,Nat.reduceEqDiff,reduceCtorEq,mxA,mxB,Nat.reduceAdd,reduceIte,Nat.reduceLeDiff,splice,s32,ek]
        refine⟨xs.length - (k+1),by omega,k+1,zs,by omega,rfl,hw4,hx3.trans hxG2,by rw[hfil,hzs];simp,by omega,?_,hfm3.ext hw3 hxG2,hzf,?_,?_,?_,?_,?_,?_,?_,?_,?_,?_⟩
        all_goals simp only[uxA,uxB,Nat.reduceBEq,s0,s1,s2,s12,s13,s14,s30,s31]
        ·exact hac3.ext hw3 hxG2
        ·exact fun a l c b h1 h2=>hne3 a l c b h1 (by rw[h2])
       ·rw[hpx]at hfil
        simp only[sxA,sxB,Nat.reduceBEq,Nat.reduceEqDiff,reduceCtorEq,mxA,mxB,Nat.reduceAdd,reduceIte,Nat.reduceLeDiff,splice,hgG2,QH,Wm,ak]
        have hac5:=(hac3.ext hw3 hxG2).ext hw4 ((Ext.refl G2).push (.cells x.cells Qc false))
        have hx5:Ext H3 (G2.push (.cells x.cells Qc false)):=hxG2.push _
        have hb5:=hfm3.ext hw3 hx5
        refine Acc.app hac5 (hx3.trans hx5) (hw4.push _) (wk.ext hw3 hx5) (by omega) (by rw[Qa.get_push,if_pos rfl]) (fun a l c hv e=>?_) fun v' H6 y1 y2 y3 y4 y5 y6=>?_
        ·rcases hac3 with⟨h,_⟩ | ⟨b2,h,_,h3',_⟩
         ·rw[h]at hv;cases hv
         ·rw[h]at hv;cases hv
          have:=hw3.lt h3'
          simp only at e
          omega
        ·simp only[sxA,sxB,Nat.reduceBEq,Nat.reduceEqDiff,reduceCtorEq,mxA,mxB,Nat.reduceAdd,reduceIte,Nat.reduceLeDiff,splice,s32,ek]
         refine⟨xs.length - (k+1),by omega,k+1,zs++[x],by omega,rfl,y2,y1,by rw[hfil,List.map_append,hzs];simp,by simp;omega,?_,y6.fms hac5 hb5 fun a l c a' l' c' ha hv=>?_,?_,?_,?_,?_,?_,?_,?_,?_,?_,?_,?_⟩
         rotate_left 2
         ·intro z hz
          simp only[List.mem_append,List.mem_singleton]at hz
          rcases hz with hz | rfl
          ·exact hzf z hz
          ·exact wf
         ·intro a l c b hv hb
          cases hb
          simp only[uxA,uxB,Nat.reduceBEq]at hv
          have h1:=y5 a l c hv
          have h2:=hw3.lt hb1
          simp only[Qa.next_push]at h1
          simp only
          omega
         rotate_right 2
         ·simp only[uxA,uxB,Nat.reduceBEq]
          exact y4
         ·cases ha
          exact hne3 _ _ _ _ hv rfl
         all_goals simp only[uxA,uxB,Nat.reduceBEq,s0,s1,s2,s12,s13,s14,s30,s31]
      ·have h3:k=xs.length:=by have:=of_decide_eq_false h3;omega
       subst h3
       simp only[sxA,sxB,Nat.reduceBEq,Nat.reduceEqDiff,reduceCtorEq,mxA,mxB,Nat.reduceAdd,reduceIte,Nat.reduceLeDiff,splice,s14,ei]
       refine⟨6 - (i+1),by omega,i+1,zs,by omega,rfl,hw3,hx3,?_,by omega,?_,hzf,?_,?_,?_,?_,?_,?_⟩
       ·rw[← hadd rfl,hzs,List.take_of_length_le (Nat.le_refl _),hxs]
       all_goals simp only[uxA,uxB,Nat.reduceBEq,s0,s1,s2,s12,s13]
       exact hac3
    ·refine⟨6 - (i+1),by omega,i+1,ys,by omega,rfl,hwn,hx1.trans hxp,hskip rfl,by omega,?_,hyf,?_,?_,?_,?_,?_,?_⟩
     all_goals simp only[uxA,uxB,Nat.reduceBEq,r0,r1,r2,r12,r13]
     exact hacc.ext hw1 hxp
   ·refine⟨6 - (i+1),by omega,i+1,ys,by omega,rfl,hwn,hx1.trans hxp,hskip rfl,by omega,?_,hyf,?_,?_,?_,?_,?_,?_⟩
    all_goals simp only[uxA,uxB,Nat.reduceBEq,r0,r1,r2,r12,r13]
    exact hacc.ext hw1 hxp
  ·have h2:i=6:=by have:=of_decide_eq_false h2;omega
   subst h2
   simp only[sxA,sxB,Nat.reduceBEq,Nat.reduceEqDiff,reduceCtorEq,mxA,mxB,Nat.reduceAdd,reduceIte,Nat.reduceLeDiff,splice,QhB]
   exact .mk (by have:=hx1.next;omega) ⟨hxp0.trans hx1,ys,hys,hacc.mono (by omega),by omega,hyf⟩
def iI (k:Nat):Int:=bif Nat.beq k 0 then .negSucc 0 else .ofNat (k - 1)
def mkF (op pre mp code dg w vx l:Nat) (sh sl:List Nat):Fm:=⟨.ofNat op,.ofNat pre,.ofNat mp,.ofNat code,iI dg,iI w,.ofNat l,Nat.beq vx 1,sh.map .ofNat,sl.map .ofNat⟩
def QiH (v:Value) (n:Int):Bool:=match v with | .int .i64 m=>QbA 8 (.int .i64 m) (.int .i64 n) | _=>false
theorem V8 {v:Value} {n:Int} (h:QiH v n=true):v=.int .i64 n:=by
 unfold QiH at h
 split at h
 ·exact Qai 8 _ _ h
 ·cases h
def QsH (v:Value) (b:Bool):Bool:=match v with | .bool c=>(bif c then b else !b) | _=>false
theorem QuZ {v:Value} {b:Bool} (h:QsH v b=true):v=.bool b:=by
 unfold QsH at h
 split at h
 ·rename_i c
  cases c<;>cases b<;>first | rfl | cases h
 ·cases h
def QzP (n c:Nat):Bool:=Nat.beq c (UNK+1)||(Nat.ble n c&&Nat.ble (c+1) UNK)
theorem Qyf {n c:Nat} (h:QzP n c=true):QqH n c:=by
 simp only[QzP,Bool.or_eq_true,Bool.and_eq_true,X1,decide_eq_true_eq,Nat.ble_eq]at h
 rcases h with h | ⟨h1,h2⟩
 ·exact .inl h
 ·exact .inr ⟨h1,h2⟩
def Qyg (G:Nat) (rs:List Row) (v:Value) (l:List Int):Bool:=match l with
 | []=>QbA 8 v (.slice none 0 0)
 | _::_=>match v with
  | .slice (some a) n c=>Nat.ble G a.block&&(Nat.beq a.off 0&&(Qi7 a&&(Nat.beq n l.length&&(Nat.ble n 1000&&(QzP n c&&(match rs[a.block - G]? with | some r=>JJ (QbA 8) r.c (ints l) | none=>false))))))
  | _=>false
def Qyh (G:Nat) (rs:List Row):List Value→List Fm→Bool
 | [],[]=>true
 | a0::a1::a2::a3::a4::a5::a6::a7::a8::a9::cs,x::xs=>QiH a0 x.op&&(Qyg G rs a1 x.shapes&&(Qyg G rs a2 x.slots&&(QiH a3 x.pre&&(QiH a4 x.map&&(QiH a5 x.code&&(QiH a6 x.digit&&(QiH a7 x.w&&(QsH a8 x.vex&&(QiH a9 x.l&&Qyh G rs cs xs)))))))))
 | _,_=>false
def Qyi (G:Nat) (rs:List Row) (u:Value) (L:List Fm):Bool:=match u with
 | .slice (some a) n c=>Nat.ble G a.block&&(Nat.beq a.off 0&&(Qi7 a&&(Nat.beq n L.length&&(Nat.ble n 1000&&(Nat.ble 1 n&&(Nat.beq c (UNK+10)&&(match rs[a.block - G]? with | some r=>Nat.beq r.e Qc&&(!r.ro&&Qyh G rs r.c L) | none=>false)))))))
 | _=>false
theorem Qn5 {a:Addr} (h:Qi7 a=true):a.spot=none:=by
 unfold Qi7 at h
 split at h
 ·assumption
 ·cases h
section
variable {τ:Nat→Nat} {G:Nat} {rs:List Row} {H:Qa}
theorem QwH {b:Nat} (h:G≤b):shM τ G H.next b=H.next+(b - G):=by
 unfold shM;rw[Qe6];simp[show ¬b<G by omega]
theorem QwI (sh:Nat→Nat) (l:List Int):(ints l).map (shW sh 6)=ints l:=by
 unfold ints
 rw[List.map_map]
 exact List.map_congr_left fun x _=>QnQ sh 6 _ rfl
theorem QtO {v:Value} {l:List Int} (h:Qyg G rs v l=true):l.length≤1000∧Vy (Js (shM τ G H.next) rs H) (shW (shM τ G H.next) 6 v) l.length (ints l)∧SlF H.next (shW (shM τ G H.next) 6 v) l:=by
 cases l with
 | nil=>
  have:=Qai 8 _ _ (show QbA 8 v (.slice none 0 0)=true from h)
  subst this
  exact⟨by simp,⟨none,0,rfl,fun h=>by simp at h⟩,.inl ⟨rfl,rfl⟩⟩
 | cons x l=>
  unfold Qyg at h
  simp only at h
  split at h
  ·rename_i a n cap
   simp only[Bool.and_eq_true,X1,decide_eq_true_eq,Nat.ble_eq]at h
   obtain⟨h1,h2,h3,h4,h5,hcp,h6⟩:=h
   split at h6
   ·rename_i r hr
    have h6:=Qhm (Qai 8) _ _ h6
    obtain⟨ab,ao,asp⟩:=a
    replace h3:=Qn5 h3
    simp only at h1 h2 h3 hr
    subst h2;subst h3;subst h4
    have hk:=(List.getElem?_eq_some_iff.1 hr).1
    have e1:shW (shM τ G H.next) 6 (.slice (some ⟨ab,0,none⟩) (x::l).length cap)=.slice (some ⟨H.next+(ab - G),0,none⟩) (x::l).length cap:=by
     show Value.slice (some ⟨shM τ G H.next ab,0,none⟩) _ _=_
     rw[QwH h1]
    rw[e1]
    refine⟨h5,⟨_,_,rfl,fun _=>⟨H.next+(ab - G),r.e,r.ro,rfl,?_⟩⟩,.inr ⟨by simp,_,_,rfl,by omega,Qyf hcp⟩⟩
    rw[QbS,if_pos ⟨by omega,by omega⟩,show H.next+(ab - G) - H.next=ab - G by omega,hr]
    show some (Blk.cells (r.c.map (shW (shM τ G H.next) 6)) r.e r.ro)=_
    rw[h6,QwI]
   ·cases h6
  ·cases h
theorem QtP:∀ (cs:List Value) (L:List Fm),Qyh G rs cs L=true→∃xs:List Lf,xs.map (·.f)=L∧cs.map (shW (shM τ G H.next) 6)=WN xs∧∀x∈xs,x.At (Js (shM τ G H.next) rs H)∧x.Fr H.next
 | [],[],_=>⟨[],rfl,rfl,fun x h=>by cases h⟩
 | a0::a1::a2::a3::a4::a5::a6::a7::a8::a9::cs,x::L,h=>by
  simp only[Qyh,Bool.and_eq_true]at h
  obtain⟨h0,h1,h2,h3,h4,h5,h6,h7,h8,h9,hr⟩:=h
  obtain⟨xs,e1,e2,e3⟩:=QtP cs L hr
  have i0:=V8 h0;have i3:=V8 h3;have i4:=V8 h4;have i5:=V8 h5;have i6:=V8 h6;have i7:=V8 h7;have i8:=QuZ h8;have i9:=V8 h9
  subst i0 i3 i4 i5 i6 i7 i8 i9
  obtain⟨s1,s2,s3⟩:=QtO (τ:=τ) (H:=H) h1
  obtain⟨t1,t2,t3⟩:=QtO (τ:=τ) (H:=H) h2
  refine⟨⟨x,shW (shM τ G H.next) 6 a1,shW (shM τ G H.next) 6 a2⟩::xs,by simp[e1],?_,fun y hy=>?_⟩
  rotate_left
  ·rcases List.mem_cons.1 hy with rfl | hy
   ·exact⟨⟨s1,t1,s2,t2⟩,s3,t3⟩
   ·exact e3 y hy
  ·simp only[List.map_cons,e2,WN,List.flatMap_cons,Lf.cells,List.cons_append,List.nil_append]
   rfl
theorem Qyj {u:Value} {L:List Fm} (h:Qyi G rs u L=true):∃xs:List Lf,xs.map (·.f)=L∧Acc H (Js (shM τ G H.next) rs H) (shW (shM τ G H.next) 6 u) xs∧xs.length≤1000∧∀x∈xs,x.Fr H.next:=by
 unfold Qyi at h
 split at h
 ·rename_i a n cap
  simp only[Bool.and_eq_true,X1,decide_eq_true_eq,Nat.ble_eq]at h
  obtain⟨h1,h2,h3,h4,h5,h7,h8,h6⟩:=h
  split at h6
  ·rename_i r hr
   simp only[Bool.and_eq_true,X1,decide_eq_true_eq,Bool.not_eq_true']at h6
   obtain⟨h9,h10,h6⟩:=h6
   subst h8
   obtain⟨xs,e1,e2,e3⟩:=QtP (τ:=τ) (H:=H) _ _ h6
   obtain⟨ab,ao,asp⟩:=a
   replace h3:=Qn5 h3
   simp only at h1 h2 h3 hr
   subst h2;subst h3
   have hl:n=xs.length:=by rw[h4,← e1];simp
   subst hl
   have hk:=(List.getElem?_eq_some_iff.1 hr).1
   have e1':shW (shM τ G H.next) 6 (.slice (some ⟨ab,0,none⟩) xs.length (UNK+10))=.slice (some ⟨H.next+(ab - G),0,none⟩) xs.length (UNK+10):=by
    show Value.slice (some ⟨shM τ G H.next ab,0,none⟩) _ _=_
    rw[QwH h1]
   rw[e1']
   refine⟨xs,e1,.inr ⟨_,rfl,by omega,?_,fun h=>?_,fun x hx=>(e3 x hx).1⟩,h5,fun x hx=>(e3 x hx).2⟩
   ·rw[QbS,if_pos ⟨by omega,by omega⟩,show H.next+(ab - G) - H.next=ab - G by omega,hr]
    show some (Blk.cells (r.c.map (shW (shM τ G H.next) 6)) r.e r.ro)=_
    rw[e2,h9,h10]
   ·rw[h]at h7;simp at h7
  ·cases h6
 ·cases h
end
theorem Qu0 {sh:Nat→Nat} (rs:List Row) (H:Qa):Ext H (Js sh rs H):=⟨by rw[QcW];omega,fun id hid=>by rw[QbS,if_neg (by omega)]⟩
theorem Qq2 {sh:Nat→Nat}:∀ (rs:List Row) (H:Qa),H.Wf→(Js sh rs H).Wf
 | [],H,h=>h
 | r::rs,H,h=>Qq2 rs _ (h.push _)
def QdT (tabs:List Tab) (H:Qa):Prop:=Qgv tabs H=true
theorem QiI {tabs:List Tab} (H H':Qa) (hw:H.Wf) (h:QdT tabs H) (hx:Ext H H'):QdT tabs H':=by
 unfold QdT Qgv at *
 rw[List.all_eq_true]at *
 intro t ht
 have h1:=h t ht
 cases hg:H.get t.id with
 | none=>rw[hg]at h1;cases h1
 | some b=>rw[hx.get _ (hw.lt hg)];exact h1
theorem Qpi {tabs:List Tab} (ht:tabsOk tabs=true) (htab:∀t∈tabs,t.id<prog.globals.size) {s:SumI} (hs:SumIOk prog tabs s) (ha:s.args=[]) (hi:s.ins=[]) {L:List Fm} (hc:Qyi prog.globals.size s.rs s.u L=true):QeL (QdT tabs) s.f L:=by
 intro H hH hw
 have hd:=hs.does ht (args:=[]) (H:=H) (τ:=fun n=>n) (fun _ _=>rfl) htab hH (by rw[hi];rfl) (by rw[ha];rfl)
 rw[hi]at hd
 obtain⟨xs,h1,h2,h3,h4⟩:=Qyj (τ:=fun n=>n) (H:=H) hc
 exact⟨_,_,.inl ⟨hs.1,hd⟩,by rw[QcW];exact Nat.le_add_right _ _,Qq2 _ _ hw,Qu0 _ _,xs,h1,h2,h3,h4⟩
def QtQ (G:Nat) (f:FuncId) (L:List Fm):List SumI→Bool
 | s::_=>Nat.beq s.f f&&(s.args.isEmpty&&(s.ins.isEmpty&&Qyi G s.rs s.u L))
 | []=>false
theorem Yr {tabs:List Tab} (ht:tabsOk tabs=true) (htab:∀t∈tabs,t.id<prog.globals.size) {l:List SumI} (hl:∀s∈l,SumIOk prog tabs s) {f:FuncId} {L:List Fm} (h:QtQ prog.globals.size f L l=true):QeL (QdT tabs) f L:=by
 cases l with
 | nil=>cases h
 | cons s l=>
  simp only[QtQ,Bool.and_eq_true,X1,decide_eq_true_eq,List.isEmpty_iff]at h
  obtain⟨h1,h2,h3,h4⟩:=h
  rw[← h1]
  exact Qpi ht htab (hl s (List.mem_cons_self ..)) h2 h3 h4
theorem QpB (x:Lf) (op:Int) (b:Nat) (H:Qa) {e:TypeId} {ro:Bool} (hb:H.get b=some (.cells [.int .i64 op] e ro)) (hx:x.At H):Qe prog Jn [.agg x.cells.toArray,.pointer (some ⟨b,0,none⟩)] H fun u H'=>u=.bool (x.f.op==op)∧∃m,H'=H.up m:=by
 refine QmQ fun hw=>?_
 have hbl:=hw.lt hb
 have hne:¬b=H.next:=by omega
 simp only[Lf.cells,QfE,QBD,simprocAttr,hne,hb,QlF]
 exact .ext hw ((Ext.refl H).push _) ⟨rfl,_,rfl⟩
section
variable {T:Qa→Prop} (hT:∀H H',H.Wf→T H→Ext H H'→T H') (LL:FuncId→List Fm) (hL:∀x∈lis,QeL T x.2.2 (LL x.2.2))
include hT hL
theorem Qs1 (op:Int) (H:Qa) (ht:T H):Qe prog XF [.int .i64 op] H fun u H'=>Qsw H H' u (Qmy LL op op (fun f=>f.op==op) lis):=by
 refine Qqj fun hw=>?_
 simp only[Qj0,QBD,simprocAttr,Qhw]
 have hx0:Ext H (H.push (.cells [.int .i64 op] 3 false)):=(Ext.refl H).push _
 have hg0:(H.push (.cells [.int .i64 op] 3 false)).get H.next=some (.cells [.int .i64 op] 3 false):=by rw[Qa.get_push,if_pos rfl]
 have hw0:=hw.push (.cells [.int .i64 op] 3 false)
 generalize H.push (.cells [.int .i64 op] 3 false)=H1 at hx0 hg0 hw0
 refine(QkG hT LL hL op op (.func (.func Jn) #[] [.pointer (some ⟨H.next,0,none⟩)].toArray) (fun f=>f.op==op) H1 ⟨Jn,[.pointer (some ⟨H.next,0,none⟩)],rfl,fun x H' hx ha=>QpB x op H.next H' (e:=3) (ro:=false) (by rw[hx.get _ (hw0.lt hg0)];exact hg0) ha⟩ (hT _ _ hw ht hx0)).thenW ?_
 rintro u H' hn hw' ⟨hx,ys,h1,h2,h3,h4⟩
 simp only[QBD,simprocAttr,Qoz]
 exact .mk (hx0.trans hx).next ⟨hx0.trans hx,ys,h1,h2.mono hx0.next,h3,fun y hy=>(h4 y hy).mono hx0.next⟩
end
/-! ### As known calls -/
end Go.Proofs.YtgepgbbjfhggfaaGreatDoor.code
