/- Forms in memory, and the kit's parts that look at them. -/
import Derived.Test.YtfofbicfabokbaaGreatDoorC0Code
import Derived.Test.YtfofbicfabokbaaGreatDoorAbD
import Derived.Laws.BitsLemmas
import Derived.Test.YtfofbicfabokbaaGreatDoorAbC
import Derived.Test.YtfofbicfabokbaaGreatDoorC9Ref
set_option linter.unusedVariables false
set_option linter.unusedSimpArgs false
set_option maxRecDepth 100000
noncomputable section
namespace Go.Proofs.YtfofbicfabokbaaGreatDoor.code
open Go.Ab
def I64 (n:Int):Prop:=-9223372036854775808<=n∧n<=9223372036854775807
theorem w64 {n:Int} (h:I64 n):IntKind.i64.wrap n=n:=by
 rw[NU];unfold I64 at h;omega
def ints (l:List Int):List Value:=l.map (.int .i64 ·)
theorem XQ {l:List Int} {i:Nat} (h:i<l.length):(ints l)[i]? = some (.int .i64 (l.getD i 0)):=by
 simp[ints,La h,List.getD]
theorem QuY (l:List Int):(ints l).length=l.length:=by simp[ints]
def ZA (H:Qa) (v:Value) (n:Nat) (cs:List Value):Prop:=∃a cap,v=.slice a n cap∧(0<n->∃b e ro,a=some ⟨b,0,none⟩∧H.get b=some (.cells cs e ro))
theorem ZA.ext {H H':Qa} {v:Value} {n:Nat} {cs:List Value} (hw:H.Wf) (he:Ext H H') (h:ZA H v n cs):ZA H' v n cs:=by
 obtain⟨a,cap,rfl,h1⟩:=h;refine⟨a,cap,rfl,λhn=>?_⟩;obtain⟨b,e,ro,rfl,hb⟩:=h1 hn;exact⟨b,e,ro,rfl,by rw[he.get b (hw.lt hb)];exact hb⟩
theorem QaS {H:Qa} {v:Value} {n:Nat} {cs:List Value} (h:ZA H v n cs):∃a cap,v=.slice a n cap:=by
 obtain⟨a,cap,rfl,_⟩:=h;exact⟨a,cap,rfl⟩
structure Fm where
 op:Int
 pre:Int
 map:Int
 code:Int
 digit:Int
 w:Int
 l:Int
 vex:Bool
 shapes:List Int
 slots:List Int
 deriving DecidableEq
structure Lf where
 f:Fm
 sv:Value
 tv:Value
def Lf.cells (x:Lf):List Value:=[.int .i64 x.f.op,x.sv,x.tv,.int .i64 x.f.pre,.int .i64 x.f.map,.int .i64 x.f.code,.int .i64 x.f.digit,.int .i64 x.f.w,.bool x.f.vex,.int .i64 x.f.l]
def Lf.At (H:Qa) (x:Lf):Prop:=x.f.shapes.length<=1000∧x.f.slots.length<=1000∧ZA H x.sv x.f.shapes.length (ints x.f.shapes)∧ZA H x.tv x.f.slots.length (ints x.f.slots)
theorem Lf.At.ext {H H':Qa} {x:Lf} (hw:H.Wf) (he:Ext H H') (h:x.At H):x.At H':=⟨h.1,h.2.1,h.2.2.1.ext hw he,h.2.2.2.ext hw he⟩
def Q3 (xs:List Lf):List Value:=xs.flatMap Lf.cells
theorem QG (x:Lf):x.cells.length=10:=rfl
theorem W0:∀xs:List Lf,(Q3 xs).length=xs.length * 10
 | []=>rfl
 | x::xs=>by
  have:=W0 xs;simp only[Q3,Ba,Lh,QG,Lo]at this ⊢;omega
theorem QdI:∀ (l:List Lf) (i:Nat) (p:Lf),l[i]? = some p->((Q3 l).drop (i * 10)).take 10=p.cells
 | [],i,p,h=>by simp at h
 | q::l,0,p,h=>by
  simp at h;subst h;have:(Q3 (q::l))=q.cells++Q3 l:=by simp[Q3]
  rw[this,BH,Lw,NO (by rw[QG];exact Lb 10),LF (by rw[QG];exact Lb 10)]
 | q::l,i+1,p,h=>by
  have e:(Q3 (q::l))=q.cells++Q3 l:=by simp[Q3]
  rw[e,show(i+1) * 10=q.cells.length+i * 10 by rw[QG];omega,B3,NK (by omega),LH,NL];exact QdI l i p (by simpa using h)
theorem QgM (l:List Lf) (i j:Nat) (p:Lf) (h:l[i]? = some p) (hj:j<10):(Q3 l)[i * 10+j]? = p.cells[j]? := by
 rw[<- QdI l i p h,Nl,Lc hj,Nk]
theorem Wu (p:Lf):List.take 10 p.cells=p.cells:=Nu rfl rfl
theorem Qo0 (xs:List Lf) (x:Lf):Q3 (xs++[x])=Q3 xs++x.cells:=by simp[Q3]
def QqL (H:Qa) (v:Value) (xs:List Lf):Prop:=ZA H v xs.length (Q3 xs)∧∀x∈xs,x.At H
theorem QqL.ext {H H':Qa} {v:Value} {xs:List Lf} (hw:H.Wf) (he:Ext H H') (h:QqL H v xs):QqL H' v xs:=⟨h.1.ext hw he,λx hx=>(h.2 x hx).ext hw he⟩
theorem Qu4 {H:Qa} {v:Value} {n:Nat} {cs:List Value} (h:ZA H v n cs):v.oneCell'=true:=by
 obtain⟨a,cap,rfl,_⟩:=h;rfl
theorem YI {H:Qa} {x:Lf} (h:x.At H):(x.cells.all λv=>v.oneCell')=true:=by
 simp only[Lf.cells,Bv,BI,Qu4 h.2.2.1,Qu4 h.2.2.2,Be];rfl
def QjA:List Int->Int->Nat->Int
 | [],_,_=>-1
 | y::l,x,k=>if x=y then(k:Int) else QjA l x (k+1)
def QC (l:List Int) (x:Int):Int:=QjA l x 0
theorem QqM (x:Int):∀ (l:List Int) (k i:Nat),(∀j,j<i->¬x=l.getD j 0)->i<l.length->x=l.getD i 0->QjA l x k=((k+i:Nat):Int)
 | [],k,i,_,hl,_=>by simp at hl
 | y::l,k,0,_,_,h=>by
  have h:x=y:=by simpa using h
  simp[QjA,h]
 | y::l,k,i+1,hn,hl,h=>by
  have h0:¬x=y:=by have:=hn 0 (by omega);simpa using this
  rw[QjA,Le h0,QqM x l (k+1) i (λj hj=>by have:=hn (j+1) (by omega);simpa using this) (by simpa using hl) (by simpa using h)];congr 1;omega
theorem QqN (x:Int):∀ (l:List Int) (k:Nat),(∀j,j<l.length->¬x=l.getD j 0)->QjA l x k=-1
 | [],k,_=>rfl
 | y::l,k,hn=>by
  have h0:¬x=y:=by have:=hn 0 (by simp);simpa using this
  rw[QjA,Le h0];exact QqN x l (k+1) (λj hj=>by have:=hn (j+1) (by simpa using hj);simpa using this)
theorem QqO (va:Value) (xs:List Int) (x:Int) (H:Qa) (ha:ZA H va xs.length (ints xs)) (hl:xs.length<=1000):Qh prog Kg [va,.int .i64 x] H λu H'=>u=.int .i64 (QC xs x)∧H'=H:=by
 refine QhA λhw=>?_;obtain⟨aa,acap,rfl,hsa⟩:=ha;simp only[QbO,Qb,simprocAttr];refine QE (λm A' H'=>∃i:Nat,i<=xs.length∧m=xs.length - i∧H'=H∧(∀j,j<i->¬x=xs.getD j 0)∧A' 0=.slice aa xs.length acap∧A' 1=.int .i64 x∧A' 7=.int .i64 (xs.length:Int)∧A' 8=.int .i64 i) xs.length ?_ ?_
 ·refine⟨0,L7 _,by omega,rfl,λj h=>by omega,?_,?_,?_,?_⟩
  all_goals simp only[uxA,uxB,Nat.reduceBEq]
  rfl
 ·rintro m A' H' ⟨i,hi,rfl,hEq,hall,r0,r1,r7,r8⟩;subst hEq;simp only[Qb,simprocAttr,r7,r8];refine Qf (λh2=>?_) (λh2=>?_)
  ·have h2:i<xs.length:=by have:=Lg h2;omega
   obtain⟨b1,e1,ro1,rfl,hb1⟩:=hsa (by omega);have c1:(0:Int)<=i∧(i:Int)<xs.length:=by omega
   have c3:(i:Int).toNat=i:=by omega
   have ei:IntKind.i64.wrap ((i:Int)+1)=((i+1:Nat):Int):=by rw[w64 (by unfold I64;omega)];omega
   have g1:=XQ (l:=xs) (i:=i) (by omega);simp only[Qb,simprocAttr,r0,r1,r8,c1,c3,hb1,g1];refine Qf (λh3=>?_) (λh3=>?_)
   ·have h3:x=xs.getD i 0:=by simpa using h3
    simp only[Qb,simprocAttr,r8,QaD];exact .mk (Lb _) ⟨by rw[QC,QqM x xs 0 i hall h2 h3,LP],rfl⟩
   ·have h3:¬x=xs.getD i 0:=by simpa using h3
    simp only[Qb,simprocAttr,r8,ei];refine⟨xs.length - (i+1),by omega,i+1,by omega,rfl,rfl,λj hj=>?_,?_,?_,?_,?_⟩
    ·rcases Nq j i with h | h
     ·exact hall j h
     ·rw[show j=i by omega];exact h3
    all_goals simp only[Qg,simprocAttr,r0,r1,r7]
  ·have h2:i=xs.length:=by have:=Ll h2;omega
   subst h2;simp only[Qb,simprocAttr,QaD];exact .mk (Lb _) ⟨by rw[QC,QqN x xs 0 hall],rfl⟩
theorem XS (x:Lf) (k:Int) (H:Qa) (hx:x.At H):Qh prog WM [.agg x.cells.toArray,.int .i64 k] H λu H'=>u=.int .i64 (QC x.f.slots k)∧∃m,H'=H.up m:=by
 refine QrK λhw=>?_;obtain⟨l1,l2,h1,h2⟩:=hx;obtain⟨a2,c2,e2,_⟩:=id h2;simp only[Lf.cells,QlH,e2,Qb,simprocAttr];rw[<- e2];refine(QqO _ x.f.slots k _ (h2.ext hw ((Ext.refl H).push _)) l2).mono ?_;rintro _ _ ⟨rfl,rfl⟩;simp only[Qb,simprocAttr,Qqy];exact .ext hw ((Ext.refl H).push _) ⟨rfl,_,rfl⟩
theorem Qx8 {H:Qa} {l:List Int} {y:Lf} {ys:List Lf} (hy:y.At H) (h:ints l=Q3 (y::ys)):False:=by
 have h1:(ints l)[1]? = some y.sv:=by rw[h];simp[Q3,Lf.cells]
 obtain⟨a,c,e,_⟩:=hy.2.2.1;rw[e]at h1;unfold ints at h1;rw[LD]at h1;cases hl:l[1]? with
 | none=>rw[hl]at h1;cases h1
 | some z=>rw[hl]at h1;cases h1
def Acc (H0 H:Qa) (v:Value) (ys:List Lf):Prop:=(v=.slice none 0 0∧ys=[])∨(∃b,v=.slice (some ⟨b,0,none⟩) ys.length (UNK+10)∧H0.next<=b∧H.get b=some (.cells (Q3 ys) Qc false)∧ys≠[]∧∀y∈ys,y.At H)
theorem Acc.ext {H0 H H':Qa} {v:Value} {ys:List Lf} (hw:H.Wf) (hx:Ext H H') (h:Acc H0 H v ys):Acc H0 H' v ys:=by
 rcases h with h | ⟨b,h1,h2,h3,h4,h5⟩
 ·exact .inl h
 ·exact .inr ⟨b,h1,h2,by rw[hx.get _ (hw.lt h3)];exact h3,h4,λy hy=>(h5 y hy).ext hw hx⟩
theorem Acc.fms {H0 H:Qa} {v:Value} {ys:List Lf} (h:Acc H0 H v ys):QqL H v ys:=by
 rcases h with⟨rfl,rfl⟩ | ⟨b,rfl,h2,h3,h4,h5⟩
 ·exact⟨⟨none,0,rfl,λh=>by simp at h⟩,λx hx=>by cases hx⟩
 ·exact⟨⟨_,_,rfl,λ_=>⟨b,_,_,rfl,h3⟩⟩,h5⟩
theorem ZA.kill {H:Qa} {v:Value} {l:List Int} {b:Nat} {y:Lf} {ys:List Lf} {e:TypeId} {ro:Bool} (hb:H.get b=some (.cells (Q3 (y::ys)) e ro)) (hy:y.At H) (h:ZA H v l.length (ints l)):ZA (H.kill b) v l.length (ints l):=by
 obtain⟨a,cap,rfl,h1⟩:=h;refine⟨a,cap,rfl,λhn=>?_⟩;obtain⟨b1,e1,ro1,rfl,hb1⟩:=h1 hn;refine⟨b1,e1,ro1,rfl,?_⟩;have:b1≠b:=λe=>by
  subst e;rw[hb]at hb1;simp only[Lt,Blk.cells.injEq]at hb1;exact Qx8 hy hb1.1.symm
 rw[J4,Le this];exact hb1
theorem Lf.At.kill {H:Qa} {x:Lf} {b:Nat} {ys:List Lf} {e:TypeId} {ro:Bool} (hb:H.get b=some (.cells (Q3 ys) e ro)) (hn:ys≠[]) (hy:∀y∈ys,y.At H) (h:x.At H):x.At (H.kill b):=by
 cases ys with
 | nil=>exact absurd rfl hn
 | cons y ys=>exact⟨h.1,h.2.1,h.2.2.1.kill hb (hy y (Ny ..)),h.2.2.2.kill hb (hy y (Ny ..))⟩
def QG7 (H:Qa) (g:Value) (p:Fm->Bool):Prop:=∃ (f:FuncId) (ys:List Value),g=.func (.func f) #[] ys.toArray∧∀ (x:Lf) H',Ext H H'->x.At H'->Qh prog f ([.agg x.cells.toArray]++ys) H' λu H''=>u=.bool (p x.f)∧∃m,H''=H'.up m
def QEQ (n cap:Nat):Prop:=cap=UNK+1∨(n<=cap∧cap<UNK)
def SlF (M:Nat) (v:Value) (l:List Int):Prop:=(l=[]∧v=.slice none 0 0)∨(l≠[]∧∃b cap,v=.slice (some ⟨b,0,none⟩) l.length cap∧M<=b∧QEQ l.length cap)
theorem SlF.mono {M M':Nat} {v:Value} {l:List Int} (hm:M'<=M) (h:SlF M v l):SlF M' v l:=by
 rcases h with h | ⟨h,b,cap,h1,h2,h3⟩
 ·exact .inl h
 ·exact .inr ⟨h,b,cap,h1,by omega,h3⟩
def Lf.Fr (M:Nat) (x:Lf):Prop:=SlF M x.sv x.f.shapes∧SlF M x.tv x.f.slots
theorem Lf.Fr.mono {M M':Nat} {x:Lf} (hm:M'<=M) (h:x.Fr M):x.Fr M':=⟨h.1.mono hm,h.2.mono hm⟩
def KJ (T:Qa->Prop) (f:FuncId) (L:List Fm):Prop:=∀H,T H->Qh prog f [] H λu H'=>Ext H H'∧∃xs:List Lf,xs.map (·.f)=L∧Acc H H' u xs∧xs.length<=1000∧∀x∈xs,x.Fr H.next
theorem Acc.mono {H0 H1 H:Qa} {v:Value} {ys:List Lf} (hn:H0.next<=H1.next) (h:Acc H1 H v ys):Acc H0 H v ys:=by
 rcases h with h | ⟨b,h1,h2,h3⟩
 ·exact .inl h
 ·exact .inr ⟨b,h1,by omega,h3⟩
def QgN (H H':Qa) (v:Value):Prop:=∀id bl,H.get id=some bl->(∀a l c,v=.slice (some a) l c->id≠a.block)->H'.get id=some bl
theorem QgN.ints {H0 H H':Qa} {v s:Value} {ys:List Lf} {l:List Int} (hk:QgN H H' v) (ha:Acc H0 H v ys) (h:ZA H s l.length (ints l)):ZA H' s l.length (ints l):=by
 obtain⟨a,cap,rfl,h1⟩:=h;refine⟨a,cap,rfl,λhn=>?_⟩;obtain⟨b1,e1,ro1,rfl,hb1⟩:=h1 hn;refine⟨b1,e1,ro1,rfl,hk _ _ hb1 λa l c hv e=>?_⟩;rcases ha with⟨rfl,_⟩ | ⟨b,rfl,h2,h3,h4,h5⟩
 ·cases hv
 ·cases hv;subst e;cases ys with
  | nil=>exact h4 rfl
  | cons y ys=>
   rw[h3]at hb1;simp only[Lt,Blk.cells.injEq]at hb1;exact Qx8 (h5 y (Ny ..)) hb1.1.symm
theorem QgN.at {H0 H H':Qa} {v:Value} {ys:List Lf} {x:Lf} (hk:QgN H H' v) (ha:Acc H0 H v ys) (h:x.At H):x.At H':=⟨h.1,h.2.1,hk.ints ha h.2.2.1,hk.ints ha h.2.2.2⟩
theorem QgN.fms {H0 H H':Qa} {v u:Value} {ys xs:List Lf} (hk:QgN H H' v) (ha:Acc H0 H v ys) (h:QqL H u xs) (hne:∀a l c a' l' c',u=.slice (some a) l c->v=.slice (some a') l' c'->a.block≠a'.block):QqL H' u xs:=by
 obtain⟨⟨a,cap,rfl,h1⟩,h2⟩:=h;refine⟨⟨a,cap,rfl,λhl=>?_⟩,λx hx=>hk.at ha (h2 x hx)⟩;obtain⟨b1,e1,ro1,rfl,hb1⟩:=h1 hl;exact⟨b1,e1,ro1,rfl,hk _ _ hb1 λa l c hv=>hne _ _ _ _ _ _ rfl hv⟩
theorem QgN.next {H H':Qa} {v:Value} (_:QgN H H' v):True:=trivial
theorem Acc.app {H0 H:Qa} {v:Value} {ys:List Lf} {x:Lf} {b1:Nat} {K:Value->Qa->Prop} (h:Acc H0 H v ys) (hx:Ext H0 H) (hw:H.Wf) (hxa:x.At H) (hl:ys.length<=100000) (hb1:H.get b1=some (.cells x.cells Qc false)) (hne:∀a l c,v=.slice (some a) l c->a.block≠b1)
  (hK:∀v' H',Ext H0 H'->H'.Wf->H.next<=H'.next->Acc H0 H' v' (ys++[x])->(∀a l c,v'=.slice (some a) l c->H.next<=a.block)->QgN H H' v->K v' H'):Qiq Qc 10 112 v (.slice (some ⟨b1,0,none⟩) 1 1) H K:=by
 have hsrc:Qcu 10 (.slice (some ⟨b1,0,none⟩) 1 1) H=some (1,x.cells):=by
  have:=QdL (size:=10) (m:=1) (b:=b1) (o:=0) (cap:=1) (c:=x.cells) (e:=Qc) (ro:=false) (H:=H) hb1 (by decide) (by rw[QG];decide);rw[this];rfl
 have a1:=YI hxa;have hn0:=hx.next;rcases id h with⟨rfl,rfl⟩ | ⟨b,rfl,hb0,hgb,hyn,hya⟩
 ·refine Qks hsrc a1 (by decide) (by decide) (by decide) ?_;have hk:QgN H (H.push (.cells x.cells Qc false)) (.slice none 0 0):=λid bl hg _=>by
   rw[Qi,Le (by have:=hw.lt hg;omega)];exact hg
  refine hK _ _ (hx.push _) (hw.push _) (by simp) (.inr ⟨H.next,rfl,hn0,by rw[Qi,Lc rfl];simp[Q3],by simp,λy hy=>?_⟩) (λa l c e=>by cases e;exact Lb _) hk;simp only[LH,Sa]at hy;subst hy;exact hk.at h hxa
 ·have hbl:=hw.lt hgb;have hbn:b≠b1:=hne _ _ _ rfl;refine Qhv rfl hsrc a1 (by decide) (c:=Q3 ys) hgb (by rw[W0];omega) (by omega) (by omega) (by unfold UNK;omega) ?_;have hk:QgN H ((H.kill b).push (.cells (Q3 ys++x.cells) Qc false)) (.slice (some ⟨b,0,none⟩) ys.length (UNK+10)):=λid bl hg hn=>by
   rw[Qi,Le (by have:=hw.lt hg;simp;omega),J4,Le (hn _ _ _ rfl)];exact hg
  have:=hK (.slice (some ⟨H.next,0,none⟩) (ys.length+1) (UNK+10)) ((H.kill b).push (.cells (Q3 ys++x.cells) Qc false)) ((hx.kill hb0).push _) ((hw.kill _).push _) (by simp)
   (.inr ⟨H.next,by simp,hn0,by rw[Qi,Lc (by simp),Qo0],by simp,λy hy=>?_⟩) (λa l c e=>by cases e;exact Lb _) hk
  ·exact this
  ·simp only[LI,Sa]at hy;rcases hy with hy | rfl
   ·exact hk.at h (hya y hy)
   ·exact hk.at h hxa
theorem Qo1 (f:Fn) (xs ys:Array Value):(Value.func f xs ys).cells.toList=[.func f xs ys]:=Nu rfl rfl
theorem Qnj (f:Fn) (xs ys:Array Value):(Value.func f xs ys).oneCell'=true:=Nu rfl rfl
theorem Qzt (f:FuncId) (l:List Value) (H:Qa) (k:Value->Qa->Prop):cvK (.func (.func f) #[] #[]) prog l H k=Qh prog f l H k:=by
 show Qh prog f (([]:List Value)++l++[]) H k=_;rw[LH,Na]
theorem QDr (f:FuncId) (ys l:List Value) (H:Qa) (k:Value->Qa->Prop):cvK (.func (.func f) #[] ys.toArray) prog l H k=Qh prog f (l++ys) H k:=by
 show Qh prog f (([]:List Value)++l++ys) H k=_;rw[LH]
def QiS (H H':Qa) (u:Value) (L:List Fm):Prop:=Ext H H'∧∃ys:List Lf,ys.map (·.f)=L∧Acc H H' u ys∧ys.length<=6000∧∀y∈ys,y.Fr H.next
def Qfg (n:Int):List UInt8:=bif n==1 then[15] else bif n==2 then[15,56] else bif n==3 then[15,58] else[]
theorem QjB (n:Int) (H:Qa):Qh prog KB [.int .i64 n] H λu H'=>u=.string (mkS (Qfg n))∧H'=H:=by
 refine QnY λhw=>?_;simp only[Qhz,Qb,simprocAttr];cases h1:n==1<;>simp only[Qb,simprocAttr,QcB]
 ·cases h2:n==2<;>simp only[Qb,simprocAttr,QcB]
  ·cases h3:n==3<;>simp only[Qb,simprocAttr,QcB]
   ·exact .mk (Lb _) ⟨by simp[Qfg,h1,h2,h3],rfl⟩
   ·exact .mk (Lb _) ⟨by simp[Qfg,h1,h2,h3],rfl⟩
  ·exact .mk (Lb _) ⟨by simp[Qfg,h1,h2],rfl⟩
 ·exact .mk (Lb _) ⟨by simp[Qfg,h1],rfl⟩
def Qzv (n b:Int):Bool:=!(IntKind.i64.wrap (BitVec.ofInt IntKind.i64.bits n &&& BitVec.ofInt IntKind.i64.bits b).toNat==0)
def Zs (f:Fm):List UInt8:=(bif Qzv f.pre 1 then[102] else[])++((bif Qzv f.pre 2 then[242] else[])++((bif Qzv f.pre 4 then[243] else[])++Qfg f.map))
theorem QBa (n:Int):(Qfg n).length<=2:=by unfold Qfg;cases n==1<;>cases n==2<;>cases n==3<;>simp
theorem Ql3 (x:Lf) (H:Qa) (hx:x.At H):Qh prog QdM [.agg x.cells.toArray] H λu H'=>u=.string (mkS (Zs x.f))∧∃m,H'=H.up m:=by
 refine Qqx λhw=>?_;have ec:(Value.agg x.cells.toArray).cells.toList=x.cells:=rfl;have g3:x.cells[3]? = some (.int .i64 x.f.pre):=rfl;have g4:x.cells[4]? = some (.int .i64 x.f.map):=rfl;have he:=QBa x.f.map;obtain⟨q1,h1⟩:∃c,Qzv x.f.pre 1=c:=⟨_,rfl⟩;obtain⟨q2,h2⟩:∃c,Qzv x.f.pre 2=c:=⟨_,rfl⟩;obtain⟨q3,h3⟩:∃c,Qzv x.f.pre 4=c:=⟨_,rfl⟩;have d1:(!(IntKind.i64.wrap (BitVec.ofInt IntKind.i64.bits x.f.pre &&& BitVec.ofInt IntKind.i64.bits 1).toNat==0))=q1:=h1;have d2:(!(IntKind.i64.wrap (BitVec.ofInt IntKind.i64.bits x.f.pre &&& BitVec.ofInt IntKind.i64.bits 2).toNat==0))=q2:=h2;have d3:(!(IntKind.i64.wrap (BitVec.ofInt IntKind.i64.bits x.f.pre &&& BitVec.ofInt IntKind.i64.bits 4).toNat==0))=q3:=h3;simp only[Qkz,ec,Qb,simprocAttr,g3,d1];have fin:∀ (l:List UInt8) (K:Value->Qa->Prop),l.length<=3->K (.string (mkS (l++Qfg x.f.map))) (H.push (.cells x.cells Qc false))->True:=λ_ _ _ _=>trivial;cases q1<;>simp only[Qb,simprocAttr,Qkg,g3,d2,L9,Lo,LP,Nat.reduceAdd,Nat.reduceLeDiff,Bz,LH,Nm]
 all_goals cases q2<;>simp only[Qb,simprocAttr,Qkg,g3,d3,L9,Lo,LP,Nat.reduceAdd,Nat.reduceLeDiff,Bz,LH,Nm]
 all_goals cases q3<;>simp only[Qb,simprocAttr,Qkg,g4,L9,Lo,LP,Nat.reduceAdd,Nat.reduceLeDiff,Bz,LH,Nm]
 all_goals
  refine(QjB x.f.map _).mono ?_;rintro _ _ ⟨rfl,rfl⟩;simp only[Qb,simprocAttr,Qkg,Qpm];refine⟨by first | omega | (simp only[L9,Lo];omega),.ext hw ((Ext.refl H).push _) ⟨by simp[Zs,h1,h2,h3],_,rfl⟩⟩
def QDt (c:Int):Int:=IntKind.i64.wrap (IntKind.u8.wrap (BitVec.ofInt IntKind.u8.bits c &&& ~~~BitVec.ofInt IntKind.u8.bits 7).toNat)
def Jb (f:Fm) (d:Nat) (c:Int):Bool:=
 bif f.vex then(d==0)&&((c==196)||((c==197)&&(f.map==1)&&!(f.w==1)))
 else match (Zs f)[d]? with
  | some b=>c==(b.toNat:Int)
  | none=>bif Nat.blt (Zs f).length d then false else bif decide (0<=QC f.slots 4) then QDt c==f.code else IntKind.i64.wrap c==f.code
theorem QqT (x:Lf) (d:Nat) (c:Int) (H:Qa) (hx:x.At H):Qh prog Qfx [.agg x.cells.toArray,.int .i64 d,.int .u8 c] H λu H'=>u=.bool (Jb x.f d c)∧∃m,H'=H.up m:=by
 refine Qpn λhw=>?_;have ec:(Value.agg x.cells.toArray).cells.toList=x.cells:=rfl;have g8:x.cells[8]? = some (.bool x.f.vex):=rfl;have g4:x.cells[4]? = some (.int .i64 x.f.map):=rfl;have g5:x.cells[5]? = some (.int .i64 x.f.code):=rfl;have g7:x.cells[7]? = some (.int .i64 x.f.w):=rfl;have ha:=YI hx;have hx1:Ext H (H.push (.cells x.cells Qc false)):=(Ext.refl H).push _;simp only[Qjg,ec,Qb,simprocAttr,g8];cases hv:x.f.vex with
 | true=>
  have ed:((d:Int)==0)=(d==0):=by
   rw[Ni];simp
  simp only[Qb,simprocAttr,ed];have ht:Jb x.f d c=((d==0)&&((c==196)||((c==197)&&(x.f.map==1)&&!(x.f.w==1)))):=by simp[Jb,hv]
  rw[ht];cases h1:d==0<;>simp only[Qb,simprocAttr,Xr]
  ·exact .ext hw hx1 ⟨rfl,_,rfl⟩
  cases h2:c==196<;>simp only[Qb,simprocAttr,Xr]
  ·cases h3:c==197<;>simp only[Qb,simprocAttr,g4,Xr]
   ·exact .ext hw hx1 ⟨rfl,_,rfl⟩
   cases h4:x.f.map==1<;>simp only[Qb,simprocAttr,g7,Xr]
   ·exact .ext hw hx1 ⟨rfl,_,rfl⟩
   exact .ext hw hx1 ⟨by simp,_,rfl⟩
  ·exact .ext hw hx1 ⟨rfl,_,rfl⟩
 | false=>
  simp only[Qb,simprocAttr,QG,Wu,ha];refine(Ql3 x _ (hx.ext hw hx1)).thenW ?_;rintro _ _ hn hw2 ⟨rfl,m,rfl⟩;simp only[Wm,Ql]at hn;have hx2:Ext H ((H.push (.cells x.cells Qc false)).up m):=hx1.up (by simp only[Ql];exact hn);have hg2:((H.push (.cells x.cells Qc false)).up m).get H.next=some (.cells x.cells Qc false):=by rw[W3,Qi,Lc rfl]
  have hb2:H.next<((H.push (.cells x.cells Qc false)).up m).next:=by simp only[Wm];omega
  have eu:∀m',((H.push (.cells x.cells Qc false)).up m).up m'=(H.push (.cells x.cells Qc false)).up m':=λ_=>rfl;simp only[Qb,simprocAttr,Qkg];have hfin:∀ (H2:Qa),Ext H H2->∀ (b:Bool),b=Jb x.f d c->Ret H (λu H'=>u=.bool (Jb x.f d c)∧∃m,H'=H.up m) (.bool b) H2:=λH2 h2 b hb=>.ext hw h2 ⟨by rw[hb],_,rfl⟩;cases hl:decide ((d:Int)<((Zs x.f).length:Int)) with
  | true=>
   have hl:d<(Zs x.f).length:=by have:=Lg hl;omega
   have c1:(0:Int)<=d:=by omega
   have c2:(d:Int).toNat=d:=by omega
   have hg:=La hl;simp only[Qb,simprocAttr,Qkg,c1,c2,hg,Xr];refine hfin _ hx2 _ ?_;simp[Jb,hv,hg]
  | false=>
   have hl:(Zs x.f).length<=d:=by have:=Ll hl;omega
   have hg:(Zs x.f)[d]? = none:=N7 hl;simp only[Qb,simprocAttr,Qkg];cases hl2:decide (((Zs x.f).length:Int)<(d:Int)) with
   | true=>
    have hl2:(Zs x.f).length<d:=by have:=Lg hl2;omega
    simp only[Qb,simprocAttr,Xr];refine hfin _ hx2 _ ?_;have:Nat.blt (Zs x.f).length d=true:=by simpa using hl2
    simp[Jb,hv,hg,this]
   | false=>
    have hl2:¬ (Zs x.f).length<d:=by have:=Ll hl2;omega
    have hb:Nat.blt (Zs x.f).length d=false:=by
     cases hb:Nat.blt (Zs x.f).length d with
     | false=>rfl
     | true=>exact absurd (by simpa using hb) hl2
    simp only[Qb,simprocAttr,QG,Wu,ha];refine(XS x 4 _ (hx.ext hw hx2)).thenW ?_;rintro _ _ hn3 hw3 ⟨rfl,m3,rfl⟩;simp only[Wm]at hn3;rw[eu];have hx3:Ext H ((H.push (.cells x.cells Qc false)).up m3):=hx1.up (by simp only[Ql];omega);simp only[Qb,simprocAttr];cases h0:decide (0<=QC x.f.slots 4) with
    | true=>
     simp only[Qb,simprocAttr,g5,Xr];refine hfin _ hx3 _ ?_;simp[Jb,hv,hg,hb,h0,QDt]
    | false=>
     simp only[Qb,simprocAttr,g5,Xr];refine hfin _ hx3 _ ?_;simp[Jb,hv,hg,hb,h0]
theorem Qq4 (m:Option Nat):(Value.map m).cells.toList=[.map m]:=Nu rfl rfl
theorem Qo7 (m:Option Nat):(Value.map m).oneCell'=true:=Nu rfl rfl
def Qvi (H H':Qa) (v:Value):Prop:=∀id,id<H.next->(∀a l c,v=.slice (some a) l c->id≠a.block)->H'.get id=H.get id
theorem Qvi.a {H H':Qa} {v:Value} (h:Qvi H H' v) (hw:H.Wf):QgN H H' v:=λid bl hg hn=>by rw[h id (hw.lt hg) hn];exact hg
theorem Acc.app2 {H0 H:Qa} {v:Value} {ys:List Lf} {x:Lf} {b1:Nat} {K:Value->Qa->Prop} (h:Acc H0 H v ys) (hn0:H0.next<=H.next) (hw:H.Wf) (hxa:x.At H) (hl:ys.length<=100000) (hb1:H.get b1=some (.cells x.cells Qc false)) (hne:∀a l c,v=.slice (some a) l c->a.block≠b1)
  (hK:∀v' H',H'.Wf->H.next<=H'.next->Acc H0 H' v' (ys++[x])->(∃a l c,v'=.slice (some a) l c∧H.next<=a.block)->Qvi H H' v->K v' H'):Qiq Qc 10 112 v (.slice (some ⟨b1,0,none⟩) 1 1) H K:=by
 have hsrc:Qcu 10 (.slice (some ⟨b1,0,none⟩) 1 1) H=some (1,x.cells):=by
  have:=QdL (size:=10) (m:=1) (b:=b1) (o:=0) (cap:=1) (c:=x.cells) (e:=Qc) (ro:=false) (H:=H) hb1 (by decide) (by rw[QG];decide);rw[this];rfl
 have a1:=YI hxa;rcases id h with⟨rfl,rfl⟩ | ⟨b,rfl,hb0,hgb,hyn,hya⟩
 ·refine Qks hsrc a1 (by decide) (by decide) (by decide) ?_;have hk:Qvi H (H.push (.cells x.cells Qc false)) (.slice none 0 0):=λid hid _=>by rw[Qi,Le (by omega)]
  refine hK _ _ (hw.push _) (by simp) (.inr ⟨H.next,rfl,hn0,by rw[Qi,Lc rfl];simp[Q3],by simp,λy hy=>?_⟩) ⟨_,_,_,rfl,Lb _⟩ hk;simp only[LH,Sa]at hy;subst hy;exact(hk.a hw).at h hxa
 ·have hbl:=hw.lt hgb;have hbn:b≠b1:=hne _ _ _ rfl;refine Qhv rfl hsrc a1 (by decide) (c:=Q3 ys) hgb (by rw[W0];omega) (by omega) (by omega) (by unfold UNK;omega) ?_;have hk:Qvi H ((H.kill b).push (.cells (Q3 ys++x.cells) Qc false)) (.slice (some ⟨b,0,none⟩) ys.length (UNK+10)):=λid hid hn=>by
   rw[Qi,Le (by simp;omega),J4,Le (hn _ _ _ rfl)]
  refine hK (.slice (some ⟨H.next,0,none⟩) (ys.length+1) (UNK+10)) ((H.kill b).push (.cells (Q3 ys++x.cells) Qc false)) ((hw.kill _).push _) (by simp)
   (.inr ⟨H.next,by simp,hn0,by rw[Qi,Lc (by simp),Qo0],by simp,λy hy=>?_⟩) ⟨_,_,_,rfl,Lb _⟩ hk
  simp only[LI,Sa]at hy;rcases hy with hy | rfl
  ·exact(hk.a hw).at h (hya y hy)
  ·exact(hk.a hw).at h hxa
def QzK (H0 H:Qa) (v:Value) (d:Nat) (ys:List Lf):Prop:=∃b mb fv,v=.pointer (some ⟨b,0,none⟩)∧H0.next<=b∧H0.next<=mb∧H.get b=some (.cells [.int .i64 d,fv,.map (some mb)] Wc false)∧H.get mb=some (.map [])∧Acc H0 H fv ys
theorem ZA.setMap {H:Qa} {v:Value} {n:Nat} {cs:List Value} {m:Nat} {es:List (Value×Value)} {b:Blk} (hm:H.get m=some (.map es)) (h:ZA H v n cs):ZA (H.set m b) v n cs:=by
 obtain⟨a,cap,rfl,h1⟩:=h;refine⟨a,cap,rfl,λhn=>?_⟩;obtain⟨b1,e1,ro1,rfl,hb1⟩:=h1 hn;refine⟨b1,e1,ro1,rfl,?_⟩;rw[Qm,Le (λe=>by subst e;rw[hm]at hb1;cases hb1)];exact hb1
theorem Lf.At.setMap {H:Qa} {x:Lf} {m:Nat} {es:List (Value×Value)} {b:Blk} (hm:H.get m=some (.map es)) (h:x.At H):x.At (H.set m b):=⟨h.1,h.2.1,h.2.2.1.setMap hm,h.2.2.2.setMap hm⟩
theorem Acc.setMap {H0 H:Qa} {v:Value} {ys:List Lf} {m:Nat} {es:List (Value×Value)} {b:Blk} (hm:H.get m=some (.map es)) (h:Acc H0 H v ys):Acc H0 (H.set m b) v ys:=by
 rcases h with h | ⟨b1,h1,h2,h3,h4,h5⟩
 ·exact .inl h
 ·refine .inr ⟨b1,h1,h2,?_,h4,λy hy=>(h5 y hy).setMap hm⟩;rw[Qm,Le (λe=>by subst e;rw[hm]at h3;cases h3)];exact h3
section
variable {T:Qa->Prop} {L:List Fm} (hR:∀H,T H->Qh prog XL [] H λu H'=>QiS H H' u L)
include hR
theorem Qr3 (H:Qa) (ht:T H):Qh prog QgT [] H λu H'=>Ext H H'∧∃ys:List Lf,ys.map (·.f)=L∧QzK H H' u 0 ys∧ys.length<=6000∧∀y∈ys,y.Fr H.next:=by
 refine Qqu λhw=>?_;simp only[Qkw,Qb,simprocAttr];refine(hR H ht).thenW ?_;rintro u H1 hn1 hw1 ⟨hx1,ys,e1,ha,hl,hf⟩;have hfm:=ha.fms;obtain⟨aa,cap,rfl,_⟩:=id hfm.1;simp only[Qb,simprocAttr,QoM,Qq4,Qo7,Nat.reduceMul,Qpk];have hx2:Ext H1 ((H1.push (.map [])).push (.cells [.int .i64 0,.slice aa ys.length cap,.map (some H1.next)] Wc false)):=((Ext.refl H1).push _).push _;refine .mk ((hx1.trans hx2).next) ⟨hx1.trans hx2,ys,e1,⟨H1.next+1,H1.next,_,rfl,by have:=hx1.next;omega,hx1.next,?_,?_,ha.ext hw1 hx2⟩,hl,hf⟩
 ·rw[Qi,Lc (by simp)];rfl
 ·rw[Qi,Le (by simp),Qi,Lc rfl]
end
def Qyc (d:Nat) (L:List Fm):Bool:=match L with
 | []=>false
 | f::_=>bif f.vex then d==0 else Nat.ble d (Zs f).length
theorem Qr4 {H0 H:Qa} {v:Value} {d:Nat} {ys:List Lf} (hN:QzK H0 H v d ys) (hl:ys.length<=6000):Qh prog Qby [v] H λu H'=>u=.bool (Qyc d (ys.map (·.f)))∧∃m,H'=H.up m:=by
 refine Qlo λhw=>?_;obtain⟨b,mb,fv,rfl,hb0,hmb0,hb,hmb,ha⟩:=hN;have hfm:=ha.fms;obtain⟨⟨aa,cap,rfl,hsl⟩,hxa⟩:=id hfm;simp only[QeK,Qb,simprocAttr,hb];cases h0:((ys.length:Int)==0) with
 | true=>
  have h0:ys=[]:=by
   have:(ys.length:Int)=0:=by simpa using h0
   exact N2.1 (by omega)
  simp only[Qb,simprocAttr,Vh];exact .mk (Lb _) ⟨by rw[h0];rfl,_,rfl⟩
 | false=>
  have hlp:0<ys.length:=by
   have:¬ (ys.length:Int)=0:=by simpa using h0
   omega
  obtain⟨b1,e1,ro1,rfl,hb1⟩:=hsl hlp;have hy:=La hlp;have hop:∀z,ys[0]? = some z->Qyc d (ys.map (·.f))=bif z.f.vex then d==0 else Nat.ble d (Zs z.f).length:=λz hz=>by
   cases ys with
   | nil=>simp at hz
   | cons a l=>simp at hz;subst hz;rfl
  generalize ys[0]'hlp=y at hy;have hym:=Ln hy;have hop:=hop y hy;have d1:(0:Int)<=0∧(0:Int)<(ys.length:Int):=by omega
  have d3:(0:Int).toNat=0:=rfl;have nn:=W0 ys;have d4:10<=ys.length * 10:=by omega
  have dd:=QdI ys 0 y hy;rw[BH,Lw]at dd;have wk:=hxa y hym;have ak:=YI wk;have g8:y.cells[8]? = some (.bool y.f.vex):=rfl;have hbl:=hw.lt hb;have hbn:¬b=H.next:=by omega
  simp only[Qb,simprocAttr,hb,d1,d3,d4,hb1,nn,dd,QG,Wu,ak,g8];obtain⟨G1,hG1⟩:∃h,h=(H.push (.cells [.int .i64 0,.slice none 0 0,.slice none 0 0,.int .i64 0,.int .i64 0,.int .i64 0,.int .i64 0,.int .i64 0,.bool false,.int .i64 0] Qc false)).set H.next (.cells y.cells Qc false):=⟨_,rfl⟩;have hwG1:G1.Wf:=by rw[hG1];exact(hw.push _).set (by rw[Qi,Lc rfl]) _
  have hxG1:Ext H G1:=by rw[hG1];exact((Ext.refl H).push _).set (Lb _) _
  have hgG1:G1.get H.next=some (.cells y.cells Qc false):=by rw[hG1,Qm,Lc rfl]
  have hbG1:G1.get b=some (.cells [.int .i64 d,.slice (some ⟨b1,0,none⟩) ys.length cap,.map (some mb)] Wc false):=by rw[hxG1.get _ hbl];exact hb
  simp only[<- hG1];cases hv:y.f.vex with
  | true=>
   rw[hv]at hop;have ed:((d:Int)==0)=(d==0):=by rw[Ni];simp
   simp only[Qb,simprocAttr,hbG1,ed,Vh];exact .ext hw hxG1 ⟨by rw[hop];rfl,_,rfl⟩
  | false=>
   rw[hv]at hop;simp only[Qb,simprocAttr,hbG1,hgG1,QG,Wu,ak];refine⟨rfl,(Ql3 y G1 (wk.ext hw hxG1)).thenW ?_⟩;rintro _ _ hn2 hw2 ⟨rfl,m2,rfl⟩;simp only[Wm]at hn2;simp only[Qb,simprocAttr,Qkg,Vh];refine⟨λ_ _=>rfl,.ext hw (hxG1.up hn2) ⟨?_,_,rfl⟩⟩;rw[hop];congr 1;rw[Ni];simp
structure QsH (ty:TypeId):Prop where
 m:∃kt e td inf,prog.underlying ty=some (.map kt e)∧prog.underlying kt=some td∧prog.info? e=some inf∧inf.zero=some (.pointer none)∧∀c,QdS td (.int .u8 c)=true
theorem Qk1 {H0 H:Qa} {v:Value} {d:Nat} {ys:List Lf} (hty:QsH Yc) (hN:QzK H0 H v d ys) (hx0:Ext H0 H) (hl:ys.length<=6000) (hd:d<=1000000) (c:Int):Qh prog Qap [v,.int .u8 c] H λu H'=>Ext H0 H'∧∃zs:List Lf,zs.map (·.f)=(ys.map (·.f)).filter (λf=>Jb f d c)∧QzK H0 H' u (d+1) zs∧zs.length<=ys.length∧∀z∈zs,z∈ys:=by
 refine Qkx λhw=>?_;obtain⟨kt,et,td,inf,ty1,ty2,ty3,ty4,ty5⟩:=hty.m;obtain⟨b,mb,fv,rfl,hb0,hmb0,hb,hmb,ha⟩:=hN;have hfm:=ha.fms;obtain⟨⟨aa,cap,rfl,hsl⟩,hxa⟩:=id hfm;have hbl:=hw.lt hb;have hmbl:=hw.lt hmb;have hbm:b≠mb:=λe=>by subst e;rw[hb]at hmb;cases hmb
 simp only[QdX,sxA,sxB,Nat.reduceBEq,Nat.reduceEqDiff,reduceCtorEq,mxA,mxB,Nat.reduceAdd,reduceIte,Nat.reduceLeDiff,splice,hb];rw[Qzn (m:=mb) ty1 ty2 ty3 ty4 rfl (by simp only[uxA,uxB,Nat.reduceBEq]) (by simp only[uxA,uxB,Nat.reduceBEq];exact ty5 c) hmb];have n1:¬b=H.next:=by omega
 have n2:¬b=H.next+1:=by omega
 have ed:IntKind.i64.wrap ((d:Int)+1)=((d+1:Nat):Int):=by rw[w64 (by unfold I64;omega)];omega
 simp only[sxA,sxB,Nat.reduceBEq,Nat.reduceEqDiff,reduceCtorEq,mxA,mxB,Nat.reduceAdd,reduceIte,Nat.reduceLeDiff,splice,hb,n1,n2,ed,Qq4,Qo7,Nat.reduceMul];have hx1:Ext H ((H.push (.map [])).push (.cells [.int .i64 ((d+1:Nat):Int),.slice none 0 0,.map (some H.next)] Wc false)):=((Ext.refl H).push _).push _;have hm1:((H.push (.map [])).push (.cells [.int .i64 ((d+1:Nat):Int),.slice none 0 0,.map (some H.next)] Wc false)).get H.next=some (.map []):=by rw[Qi,Le (by simp),Qi,Lc rfl]
 have hb1:((H.push (.map [])).push (.cells [.int .i64 ((d+1:Nat):Int),.slice none 0 0,.map (some H.next)] Wc false)).get (H.next+1)=some (.cells [.int .i64 ((d+1:Nat):Int),.slice none 0 0,.map (some H.next)] Wc false):=by rw[Qi,Lc (by simp)]
 have hw1:=(hw.push (.map [])).push (.cells [.int .i64 ((d+1:Nat):Int),.slice none 0 0,.map (some H.next)] Wc false);have hn1:((H.push (.map [])).push (.cells [.int .i64 ((d+1:Nat):Int),.slice none 0 0,.map (some H.next)] Wc false)).next=H.next+2:=rfl;generalize (H.push (.map [])).push (.cells [.int .i64 ((d+1:Nat):Int),.slice none 0 0,.map (some H.next)] Wc false)=H1 at hx1 hm1 hb1 hw1 hn1;refine QE (λm A' H'=>∃ (k:Nat) (zs:List Lf) (av:Value),k<=ys.length∧m=ys.length - k∧H'.Wf∧Ext H H'∧H1.next<=H'.next∧H'.get H.next=some (.map [])∧H'.get (H.next+1)=some (.cells [.int .i64 ((d+1:Nat):Int),av,.map (some H.next)] Wc false)∧Acc H1 H' av zs∧
   zs.map (·.f)=((ys.take k).map (·.f)).filter (λf=>Jb f d c)∧zs.length<=k∧(∀z∈zs,z∈ys)∧
   A' 0=.pointer (some ⟨b,0,none⟩)∧A' 1=.int .u8 c∧A' 7=.pointer (some ⟨H.next+1,0,none⟩)∧A' 32=.slice aa ys.length cap∧A' 33=.int .i64 ys.length∧A' 34=.int .i64 k) ys.length ?_ ?_
 ·refine⟨0,[],.slice none 0 0,L7 _,by omega,hw1,hx1,Lb _,hm1,hb1,.inl ⟨rfl,rfl⟩,by simp,by simp,λz hz=>(by cases hz),?_,?_,?_,?_,?_,?_⟩
  all_goals simp only[uxA,uxB,Nat.reduceBEq]
  rfl
 ·rintro m A' H3 ⟨k,zs,av,hk,rfl,hw3,hx3,hn3,hm3,hb3,hac3,hzs,hzl,hzy,r0,r1,r7,r32,r33,r34⟩;simp only[sxA,sxB,Nat.reduceBEq,Nat.reduceEqDiff,reduceCtorEq,mxA,mxB,Nat.reduceAdd,reduceIte,Nat.reduceLeDiff,splice,r33,r34];have hbH3:H3.get b=some (.cells [.int .i64 (d:Int),.slice aa ys.length cap,.map (some mb)] Wc false):=by rw[hx3.get _ hbl];exact hb
  refine Qf (λh3=>?_) (λh3=>?_)
  ·have h3:k<ys.length:=by have:=Lg h3;omega
   obtain⟨b1,e1',ro1,rfl,hg1⟩:=hsl (by omega);have hg3:H3.get b1=some (.cells (Q3 ys) e1' ro1):=by rw[hx3.get _ (hw.lt hg1)];exact hg1
   have d1:(0:Int)<=k∧(k:Int)<ys.length:=by omega
   have d3:(k:Int).toNat=k:=by omega
   have d4:k * 10+10<=ys.length * 10:=by omega
   have ek:IntKind.i64.wrap ((k:Int)+1)=((k+1:Nat):Int):=by rw[w64 (by unfold I64;omega)];omega
   have hpk:=La h3;have dd:=QdI ys k _ hpk;have nn:=W0 ys;have hym:ys[k]∈ys:=Nb h3;have wk:=(hxa _ hym).ext hw hx3;have hxtk:ys.take (k+1)=ys.take k++[ys[k]]:=NM h3;generalize ys[k]=x at hpk dd hym wk hxtk;have ak:=YI wk;have hbl3:=hw3.lt hbH3;have n3:¬b=H3.next:=by omega
   simp only[sxA,sxB,Nat.reduceBEq,Nat.reduceEqDiff,reduceCtorEq,mxA,mxB,Nat.reduceAdd,reduceIte,Nat.reduceLeDiff,splice,r0,r1,r7,r32,r34,d1,d3,d4,hg3,nn,dd,QG,Wu,ak,hbH3,n3];obtain⟨G1,hG1⟩:∃h,h=(H3.push (.cells [.int .i64 0,.slice none 0 0,.slice none 0 0,.int .i64 0,.int .i64 0,.int .i64 0,.int .i64 0,.int .i64 0,.bool false,.int .i64 0] Qc false)).set H3.next (.cells x.cells Qc false):=⟨_,rfl⟩;have hwG1:G1.Wf:=by rw[hG1];exact(hw3.push _).set (by rw[Qi,Lc rfl]) _
   have hxG1:Ext H3 G1:=by rw[hG1];exact((Ext.refl H3).push _).set (Lb _) _
   have hgG1:G1.get H3.next=some (.cells x.cells Qc false):=by rw[hG1,Qm,Lc rfl]
   have hnG1:G1.next=H3.next+1:=by rw[hG1];rfl
   simp only[<- hG1];refine(QqT x d c G1 (wk.ext hw3 hxG1)).thenW ?_;rintro _ G2 hn4 hw4 ⟨rfl,m4,rfl⟩;simp only[Wm]at hn4;have hxG2:Ext H3 (G1.up m4):=hxG1.up hn4;have hgG2:(G1.up m4).get H3.next=some (.cells x.cells Qc false):=by rw[W3];exact hgG1
   have hnG2:H3.next+1<=(G1.up m4).next:=by simp only[Wm];omega
   generalize G1.up m4=G2 at hw4 hxG2 hgG2 hnG2;have hfil:((ys.take (k+1)).map (·.f)).filter (λf=>Jb f d c)=((ys.take k).map (·.f)).filter (λf=>Jb f d c)++bif Jb x.f d c then[x.f] else[]:=by
    rw[hxtk,N6,Re];cases hpx:Jb x.f d c<;>simp[hpx]
   have hmG2:G2.get H.next=some (.map []):=by rw[hxG2.get _ (hw3.lt hm3)];exact hm3
   have hbG2:G2.get (H.next+1)=some (.cells [.int .i64 ((d+1:Nat):Int),av,.map (some H.next)] Wc false):=by rw[hxG2.get _ (hw3.lt hb3)];exact hb3
   simp only[sxA,sxB,Nat.reduceBEq,Nat.reduceEqDiff,reduceCtorEq,mxA,mxB,Nat.reduceAdd,reduceIte,Nat.reduceLeDiff,splice];cases hpx:Jb x.f d c
   ·rw[hpx]at hfil;simp only[sxA,sxB,Nat.reduceBEq,Nat.reduceEqDiff,reduceCtorEq,mxA,mxB,Nat.reduceAdd,reduceIte,Nat.reduceLeDiff,splice,r34,ek];refine⟨ys.length - (k+1),by omega,k+1,zs,av,by omega,rfl,hw4,hx3.trans hxG2,by omega,hmG2,hbG2,hac3.ext hw3 hxG2,by rw[hfil,hzs];simp,by omega,hzy,?_,?_,?_,?_,?_,?_⟩
    all_goals simp only[uxA,uxB,Nat.reduceBEq,r0,r1,r7,r32,r33]
   ·rw[hpx]at hfil;have n5:¬H.next+1=G2.next:=by omega
    simp only[sxA,sxB,Nat.reduceBEq,Nat.reduceEqDiff,reduceCtorEq,mxA,mxB,Nat.reduceAdd,reduceIte,Nat.reduceLeDiff,splice,r7,hgG2,hbG2,QG,Wu,ak,n5];have hx5:Ext H3 (G2.push (.cells x.cells Qc false)):=hxG2.push _;have hac5:=hac3.ext hw3 hx5;refine Acc.app2 hac5 (by simp only[Ql];omega) (hw4.push _) (wk.ext hw3 hx5) (by omega) (by rw[Qi,Lc rfl]) (λa l c' hv e=>?_) λv' H6 y2 y3 y4 y5 y6=>?_
    ·rcases hac3 with⟨h,_⟩ | ⟨b2,h,_,h3',_⟩
     ·rw[h]at hv;cases hv
     ·rw[h]at hv;cases hv;have:=hw3.lt h3';simp only at e;omega
    ·obtain⟨a6,l6,c6,rfl,hb6⟩:=y5;simp only[Ql]at y3 hb6;have hav:∀id,id<H1.next->∀a l c,av=.slice (some a) l c->id≠a.block:=λid hid a l c e=>by
      rcases hac3 with⟨h,_⟩ | ⟨b2,h,h2,_⟩
      ·rw[h]at e;cases e
      ·rw[h]at e;cases e;simp only;omega
     have hb7:H6.get (H.next+1)=some (.cells [.int .i64 ((d+1:Nat):Int),av,.map (some H.next)] Wc false):=by
      rw[y6 _ (by simp only[Ql];omega) (hav _ (by omega)),Qi,Le n5];exact hbG2
     have hm7:H6.get H.next=some (.map []):=by
      rw[y6 _ (by simp only[Ql];omega) (hav _ (by omega)),Qi,Le (by omega)];exact hmG2
     have hx7:Ext H H6:=⟨by have:=hx3.next;omega,λid hid=>by
      rw[y6 _ (by simp only[Ql];omega) (hav _ (by omega)),Qi,Le (by omega),hxG2.get _ (by have:=hx3.next;omega)];exact hx3.get _ hid⟩
     simp only[sxA,sxB,Nat.reduceBEq,Nat.reduceEqDiff,reduceCtorEq,mxA,mxB,Nat.reduceAdd,reduceIte,Nat.reduceLeDiff,splice,r34,ek,hb7];refine⟨ys.length - (k+1),by omega,k+1,zs++[x],.slice (some a6) l6 c6,by omega,rfl,y2.set hb7 _,hx7.set (by omega) _,by simp only[Q4];omega,by rw[Qm,Le (by omega)];exact hm7,by rw[Qm,Lc rfl],?_,by rw[hfil,N6,hzs];simp,by simp;omega,?_,?_,?_,?_,?_,?_,?_⟩
     ·rcases y4 with⟨h,_⟩ | ⟨b8,h,g1,g2,g3,g4⟩
      ·cases h
      ·refine .inr ⟨b8,h,g1,?_,g3,λy hy=>?_⟩
       ·rw[Qm,Le (by omega)];exact g2
       ·have hq:=g4 y hy;have keep:∀ (s:Value) (l:List Int),ZA H6 s l.length (ints l)->ZA (H6.set (H.next+1) (.cells [.int .i64 ((d+1:Nat):Int),.slice (some a6) l6 c6,.map (some H.next)] Wc false)) s l.length (ints l):=λs l h=>by
         obtain⟨a,cp,rfl,h1⟩:=h;refine⟨a,cp,rfl,λhn=>?_⟩;obtain⟨bb,ee,rr,rfl,hbb⟩:=h1 hn;refine⟨bb,ee,rr,rfl,?_⟩;rw[Qm,Le (λe=>?_)]
         ·exact hbb
         ·subst e;rw[hb7]at hbb;simp only[Lt,Blk.cells.injEq]at hbb;have h2:(ints l)[2]? = some (.map (some H.next)):=by rw[<- hbb.1];rfl
          unfold ints at h2;rw[LD]at h2;cases hl2:l[2]? with
          | none=>rw[hl2]at h2;cases h2
          | some z=>rw[hl2]at h2;cases h2
        exact⟨hq.1,hq.2.1,keep _ _ hq.2.2.1,keep _ _ hq.2.2.2⟩
     ·intro z hz;simp only[LI,Sa]at hz;rcases hz with hz | rfl
      ·exact hzy z hz
      ·exact hym
     all_goals simp only[uxA,uxB,Nat.reduceBEq,r0,r1,r7,r32,r33]
  ·have h3:k=ys.length:=by have:=Ll h3;omega
   subst h3;have hmbH3:H3.get mb=some (.map []):=by rw[hx3.get _ hmbl];exact hmb
   simp only[sxA,sxB,Nat.reduceBEq,Nat.reduceEqDiff,reduceCtorEq,mxA,mxB,Nat.reduceAdd,reduceIte,Nat.reduceLeDiff,splice,r0,r1,r7,hbH3];rw[QA0 (m:=mb) ty1 ty2 (by simp only[uxA,uxB,Nat.reduceBEq]) (by simp only[uxA,uxB,Nat.reduceBEq];exact ty5 c) hmbH3];simp only[sxA,sxB,Nat.reduceBEq,Nat.reduceEqDiff,reduceCtorEq,mxA,mxB,Nat.reduceAdd,reduceIte,Nat.reduceLeDiff,splice,r7,QjJ];have hx03:=hx0.trans hx3;rw[LF (Lb _)]at hzs;refine .mk (by simp only[Q4];exact hx3.next) ⟨hx03.set hmb0 _,zs,hzs,⟨H.next+1,H.next,av,rfl,by have:=hx0.next;omega,hx0.next,?_,?_,(hac3.mono (by have:=hx0.next;omega)).setMap hmbH3⟩,hzl,hzy⟩
   ·rw[Qm,Le (by omega)];exact hb3
   ·rw[Qm,Le (by omega)];exact hm3
def QBJ (l:List Int):List Value:=l.map (.int .u8 ·)
def QtG (H:Qa) (v:Value) (bs:List Int):Prop:=∃a cap,v=.slice a bs.length cap∧(0<bs.length->∃b o c e ro,a=some ⟨b,o,none⟩∧H.get b=some (.cells c e ro)∧∀i,i<bs.length->c[o+i]? = some (.int .u8 (bs.getD i 0)))
theorem QtG.ext {H H':Qa} {v:Value} {bs:List Int} (hw:H.Wf) (he:Ext H H') (h:QtG H v bs):QtG H' v bs:=by
 obtain⟨a,cap,rfl,h1⟩:=h;refine⟨a,cap,rfl,λhn=>?_⟩;obtain⟨b,o,c,e,ro,rfl,hb,hc⟩:=h1 hn;exact⟨b,o,c,e,ro,rfl,by rw[he.get b (hw.lt hb)];exact hb,hc⟩
def Qvj (c:Int):Bool:=IntKind.u8.wrap (BitVec.ofInt IntKind.u8.bits c &&& BitVec.ofInt IntKind.u8.bits 240).toNat==64
def Qg9:List Int->Bool->Nat->List Fm->List Fm
 | [],_,_,L=>L
 | c::cs,ah,d,L=>bif Qyc d L then(bif ah&&Qvj c then Qg9 cs false d L else Qg9 cs (ah&&((c==102)||(c==242)||(c==243))) (d+1) (L.filter λf=>Jb f d c)) else L
theorem Ql5 {T:Qa->Prop} {L:List Fm} (hR:∀H,T H->Qh prog XL [] H λu H'=>QiS H H' u L) (hty:QsH Yc) (va:Value) (bs:List Int) (H:Qa) (ht:T H) (hb:QtG H va bs) (hbl:bs.length<=100000):Qh prog QaA [va] H λu H'=>QiS H H' u (Qg9 bs true 0 L):=by
 refine Qqt λhw=>?_;simp only[Qkv,sxA,sxB,Nat.reduceBEq,Nat.reduceEqDiff,reduceCtorEq,mxA,mxB,Nat.reduceAdd,reduceIte,Nat.reduceLeDiff,splice];refine(Qr3 hR H ht).thenW ?_;rintro nv H1 hn1 hw1 ⟨hx1,ys,e1,hN,hl,hf⟩;obtain⟨aa,cap,rfl,hsl⟩:=id hb;simp only[sxA,sxB,Nat.reduceBEq,Nat.reduceEqDiff,reduceCtorEq,mxA,mxB,Nat.reduceAdd,reduceIte,Nat.reduceLeDiff,splice];refine QE (λm A' H'=>∃ (i:Nat) (ah:Bool) (d:Nat) (zs:List Lf),i<=bs.length∧m=bs.length - i∧H'.Wf∧Ext H H'∧QzK H H' (A' 3) d zs∧Qg9 (bs.drop i) ah d (zs.map (·.f))=Qg9 bs true 0 L∧d<=i∧zs.length<=6000∧(∀z∈zs,z.Fr H.next)∧
   A' 4=.bool ah∧A' 8=.slice aa bs.length cap∧A' 9=.int .i64 bs.length∧A' 10=.int .i64 i) bs.length ?_ ?_
 ·refine⟨0,true,0,ys,L7 _,by omega,hw1,hx1,?_,by rw[Lw,e1],Lb _,hl,hf,?_,?_,?_,?_⟩
  all_goals simp only[uxA,uxB,Nat.reduceBEq]
  ·exact hN
  rfl
 ·rintro m A' H3 ⟨i,ah,d,zs,hi,rfl,hw3,hx3,hN3,hgo,hdi,hzl,hzf,r4,r8,r9,r10⟩;simp only[sxA,sxB,Nat.reduceBEq,Nat.reduceEqDiff,reduceCtorEq,mxA,mxB,Nat.reduceAdd,reduceIte,Nat.reduceLeDiff,splice,r9,r10];refine Qf (λh3=>?_) (λh3=>?_)
  ·have h3:i<bs.length:=by have:=Lg h3;omega
   obtain⟨b1,o1,c1,ee1,ro1,rfl,hg1,hc1⟩:=hsl (by omega);have hg3:H3.get b1=some (.cells c1 ee1 ro1):=by rw[hx3.get _ (hw.lt hg1)];exact hg1
   have d1:(0:Int)<=i∧(i:Int)<bs.length:=by omega
   have d3:(i:Int).toNat=i:=by omega
   have ek:IntKind.i64.wrap ((i:Int)+1)=((i+1:Nat):Int):=by rw[w64 (by unfold I64;omega)];omega
   have hci:=hc1 i h3;have hdr:bs.drop i=bs.getD i 0::bs.drop (i+1):=by
    rw[Nh h3];simp[List.getD,La h3]
   rw[hdr,Qg9]at hgo;generalize bs.getD i 0=c at hci hgo hdr;simp only[sxA,sxB,Nat.reduceBEq,Nat.reduceEqDiff,reduceCtorEq,mxA,mxB,Nat.reduceAdd,reduceIte,Nat.reduceLeDiff,splice,r8,r10,d1,d3,hg3,hci];refine(Qr4 hN3 hzl).thenW ?_;rintro _ _ hn4 hw4 ⟨rfl,m4,rfl⟩;simp only[Wm]at hn4;have hxu:Ext H3 (H3.up m4):=(Ext.refl H3).up hn4;have hN4:QzK H (H3.up m4) (A' 3) d zs:=by
    obtain⟨b,mb,fv,g1,g2,g3,g4,g5,g6⟩:=hN3;exact⟨b,mb,fv,g1,g2,g3,by rw[W3];exact g4,by rw[W3];exact g5,g6.ext hw3 hxu⟩
   have hx4:=hx3.trans hxu;generalize H3.up m4=H4 at hw4 hxu hN4 hx4;simp only[sxA,sxB,Nat.reduceBEq,Nat.reduceEqDiff,reduceCtorEq,mxA,mxB,Nat.reduceAdd,reduceIte,Nat.reduceLeDiff,splice];cases hop:Qyc d (zs.map (·.f)) with
   | false=>
    rw[hop,Ls]at hgo;obtain⟨b,mb,fv,e3,hb0,hmb0,hgb,hmb,ha⟩:=hN4;simp only[sxA,sxB,Nat.reduceBEq,Nat.reduceEqDiff,reduceCtorEq,mxA,mxB,Nat.reduceAdd,reduceIte,Nat.reduceLeDiff,splice,e3,hgb,Qje];exact .mk hx4.next ⟨hx4,zs,hgo,ha,hzl,hzf⟩
   | true=>
    rw[hop,Lq]at hgo;simp only[sxA,sxB,Nat.reduceBEq,Nat.reduceEqDiff,reduceCtorEq,mxA,mxB,Nat.reduceAdd,reduceIte,Nat.reduceLeDiff,splice,r4];have rexd:(IntKind.u8.wrap (BitVec.ofInt IntKind.u8.bits c &&& BitVec.ofInt IntKind.u8.bits 240).toNat==64)=Qvj c:=rfl;cases ah with
    | true=>
     simp only[LJ]at hgo;simp only[sxA,sxB,Nat.reduceBEq,Nat.reduceEqDiff,reduceCtorEq,mxA,mxB,Nat.reduceAdd,reduceIte,Nat.reduceLeDiff,splice,rexd];cases hrx:Qvj c with
     | true=>
      rw[hrx,Lq]at hgo;simp only[sxA,sxB,Nat.reduceBEq,Nat.reduceEqDiff,reduceCtorEq,mxA,mxB,Nat.reduceAdd,reduceIte,Nat.reduceLeDiff,splice,r10,ek];refine⟨bs.length - (i+1),by omega,i+1,false,d,zs,by omega,rfl,hw4,hx4,?_,hgo,by omega,hzl,hzf,?_,?_,?_,?_⟩
      all_goals simp only[uxA,uxB,Nat.reduceBEq,r8,r9]
      exact hN4
     | false=>
      rw[hrx,Ls]at hgo;cases q1:c==102<;>cases q2:c==242<;>cases q3:c==243<;>simp only[sxA,sxB,Nat.reduceBEq,Nat.reduceEqDiff,reduceCtorEq,mxA,mxB,Nat.reduceAdd,reduceIte,Nat.reduceLeDiff,splice,r4,q1,q2,q3]
      all_goals
       rw[q1,q2,q3]at hgo;simp only[NI,Bd,Nt,N1,Bool.or_self]at hgo;refine(Qk1 hty hN4 hx4 hzl (by omega) c).thenW ?_;rintro v6 H6 hn6 hw6 ⟨hx6,zs2,hz2,hN6,hl6,hs6⟩;simp only[sxA,sxB,Nat.reduceBEq,Nat.reduceEqDiff,reduceCtorEq,mxA,mxB,Nat.reduceAdd,reduceIte,Nat.reduceLeDiff,splice,r10,ek];refine⟨bs.length - (i+1),by omega,i+1,_,d+1,zs2,by omega,rfl,hw6,hx6,?_,by rw[hz2];exact hgo,by omega,by omega,λz hz=>hzf z (hs6 z hz),?_,?_,?_,?_⟩
       all_goals simp only[uxA,uxB,Nat.reduceBEq,r8,r9]
       first | exact hN6 | rfl
    | false=>
     simp only[NG,Ls]at hgo;simp only[sxA,sxB,Nat.reduceBEq,Nat.reduceEqDiff,reduceCtorEq,mxA,mxB,Nat.reduceAdd,reduceIte,Nat.reduceLeDiff,splice,r4];refine(Qk1 hty hN4 hx4 hzl (by omega) c).thenW ?_;rintro v6 H6 hn6 hw6 ⟨hx6,zs2,hz2,hN6,hl6,hs6⟩;simp only[sxA,sxB,Nat.reduceBEq,Nat.reduceEqDiff,reduceCtorEq,mxA,mxB,Nat.reduceAdd,reduceIte,Nat.reduceLeDiff,splice,r10,ek];refine⟨bs.length - (i+1),by omega,i+1,_,d+1,zs2,by omega,rfl,hw6,hx6,?_,by rw[hz2];exact hgo,by omega,by omega,λz hz=>hzf z (hs6 z hz),?_,?_,?_,?_⟩
     all_goals simp only[uxA,uxB,Nat.reduceBEq,r8,r9]
     first | exact hN6 | rfl
  ·have h3:i=bs.length:=by have:=Ll h3;omega
   subst h3;rw[NK (Lb _),Qg9]at hgo;obtain⟨b,mb,fv,e3,hb0,hmb0,hgb,hmb,ha⟩:=hN3;simp only[sxA,sxB,Nat.reduceBEq,Nat.reduceEqDiff,reduceCtorEq,mxA,mxB,Nat.reduceAdd,reduceIte,Nat.reduceLeDiff,splice,e3,hgb,Qje];exact .mk hx3.next ⟨hx3,zs,hgo,ha,hzl,hzf⟩
def QFZ (c:Int):Int:=IntKind.i64.wrap (BitVec.ofInt IntKind.i64.bits c &&& ~~~BitVec.ofInt IntKind.i64.bits 7).toNat
def QtH (f:Fm) (c:Int):Int:=bif decide (0<=QC f.slots 4) then QFZ c else c
theorem QDO (x:BitVec 64):x &&& ~~~(BitVec.ofInt 64 7)=(x >>> 3) <<< 3:=by
 have h7:∀i:Fin 64,(BitVec.ofInt 64 7).getLsbD i.1=decide (i.1<3):=by decide
 apply BitVec.eq_of_getLsbD_eq;intro i hi;have:=h7 ⟨i,hi⟩;simp only[BitVec.getLsbD_and,BitVec.getLsbD_not,BitVec.getLsbD_shiftLeft,BitVec.getLsbD_ushiftRight,this,hi,Nf,LJ]
 by_cases h3:i<3
 ·simp[h3]
 ·simp[h3,show 3+(i - 3)=i by omega]
theorem Qyd (c:Int) (h:I64 c):QFZ c=c - c % 8:=by
 unfold QFZ;show IntKind.i64.wrap ((BitVec.ofInt 64 c &&& ~~~BitVec.ofInt 64 7).toNat:Nat)=_;rw[QDO,NU];unfold I64 at h;simp only[BitVec.toNat_shiftLeft,BitVec.toNat_ushiftRight,B7,Nat.shiftLeft_eq,Nat.shiftRight_eq_div_pow];omega
def QDP (a b:Fm):Bool:=let c:=bif decide (0<=QC a.slots 4) then b.code else a.code;(a.code==QtH a c)&&(b.code==QtH b c)
def Qvk (f:Fm):Int:=if 0<=QC f.slots 2∧QC f.slots 2<f.shapes.length then f.shapes.getD (QC f.slots 2).toNat 0 else 0
def QHi (f:Fm):Bool:=decide (1<=Qvk f)&&decide (Qvk f<=6)
def QHj (f:Fm):Bool:=(decide (15<=Qvk f)&&decide (Qvk f<=19))||(Qvk f==34)
def QsI (a b:Fm):Bool:=
 (a.vex==b.vex)&&(a.pre==b.pre)&&(a.map==b.map)&&(a.l==b.l) &&
 !((!(a.w==b.w)&&!(a.w==-1)&&!(b.w==-1))||!QDP a b) &&
 ((!decide (0<=QC a.slots 2)||!decide (0<=QC b.slots 2)) ||
  (!(decide (0<=a.digit)&&decide (0<=b.digit)&&!(a.digit==b.digit))&&!((QHi a&&QHj b)||(QHj a&&QHi b))))
def lis:List (Int×Int×FuncId):=[(1,16,Qiv),(16,47,Qfb),(48,115,QgA),(116,135,QgB),(136,262,Qiw),(263,322,Qmq)]
def liC (x:Int×Int×FuncId):List Value:=[.int .i64 x.1,.int .i64 x.2.1,.func (.func x.2.2) #[] #[]]
theorem Qsa (H:Qa):Qh prog QgU [] H λu H'=>u=.slice (some ⟨H.next,0,none⟩) 6 6∧H'=H.push (.cells (lis.flatMap liC) Xe false):=by
 refine Qqw λhw=>?_;simp only[Qky,sxA,sxB,Nat.reduceBEq,Nat.reduceEqDiff,reduceCtorEq,mxA,mxB,Nat.reduceAdd,reduceIte,Nat.reduceLeDiff,splice,Qo1,Qnj,Qpl,Nat.reduceMul,Nat.reduceLeDiff,N3];exact .mk (by simp) ⟨rfl,rfl⟩
theorem QCh:∀ (l:List (Int×Int×FuncId)) (i:Nat) (p:Int×Int×FuncId),l[i]? = some p->((l.flatMap liC).drop (i * 3)).take 3=liC p
 | [],i,p,h=>by simp at h
 | q::l,0,p,h=>by
  simp at h;subst h;simp[liC]
 | q::l,i+1,p,h=>by
  have e:((q::l).flatMap liC)=liC q++l.flatMap liC:=by simp
  have n:(liC q).length=3:=rfl;rw[e,show(i+1) * 3=(liC q).length+i * 3 by rw[n];omega,B3,NK (by omega),LH,NL];exact QCh l i p (by simpa using h)
def Qia (LL:FuncId->List Fm) (fr to:Int) (p:Fm->Bool) (l:List (Int×Int×FuncId)):List Fm:=l.flatMap λx=>bif decide (to<x.1)||decide (fr>x.2.1) then[] else(LL x.2.2).filter p
theorem QjD {T:Qa->Prop} (hT:∀H H',H.Wf->T H->Ext H H'->T H') (LL:FuncId->List Fm) (hL:∀x∈lis,KJ T x.2.2 (LL x.2.2)) (fr to:Int) (g:Value) (p:Fm->Bool) (H:Qa) (hg:QG7 H g p) (ht:T H):
  Qh prog Qbr [.int .i64 fr,.int .i64 to,g] H λu H'=>Ext H H'∧∃ys:List Lf,ys.map (·.f)=Qia LL fr to p lis∧Acc H H' u ys∧ys.length<=6000∧∀y∈ys,y.Fr H.next:=by
 refine QnW λhw=>?_;obtain⟨gf,gys,rfl,hg⟩:=hg;simp only[Qhy,sxA,sxB,Nat.reduceBEq,Nat.reduceEqDiff,reduceCtorEq,mxA,mxB,Nat.reduceAdd,reduceIte,Nat.reduceLeDiff,splice];refine(Qsa H).thenW ?_;rintro _ _ hn0 hw0 ⟨rfl,rfl⟩;simp only[sxA,sxB,Nat.reduceBEq,Nat.reduceEqDiff,reduceCtorEq,mxA,mxB,Nat.reduceAdd,reduceIte,Nat.reduceLeDiff,splice];have hbl0:(H.push (.cells (lis.flatMap liC) Xe false)).get H.next=some (.cells (lis.flatMap liC) Xe false):=by rw[Qi,Lc rfl]
 have hxp0:Ext H (H.push (.cells (lis.flatMap liC) Xe false)):=(Ext.refl H).push _;have hnp0:(H.push (.cells (lis.flatMap liC) Xe false)).next=H.next+1:=rfl;generalize H.push (.cells (lis.flatMap liC) Xe false)=Hp at hw0 hbl0 hxp0 hnp0;have htp:=hT _ _ hw ht hxp0;refine QE (λm A' H'=>∃ (i:Nat) (ys:List Lf),i<=6∧m=6 - i∧H'.Wf∧Ext Hp H'∧ys.map (·.f)=Qia LL fr to p (lis.take i)∧ys.length<=i * 1000∧Acc Hp H' (A' 7) ys∧(∀y∈ys,y.Fr H.next)∧
  A' 0=.int .i64 fr∧A' 1=.int .i64 to∧A' 2=.func (.func gf) #[] gys.toArray∧A' 12=.slice (some ⟨H.next,0,none⟩) 6 6∧A' 13=.int .i64 6∧A' 14=.int .i64 i) 6 ?_ ?_
 ·refine⟨0,[],L7 _,rfl,hw0,.refl _,rfl,L7 _,?_,λy hy=>(by cases hy),?_,?_,?_,?_,?_,?_⟩
  all_goals simp only[uxA,uxB,Nat.reduceBEq]
  ·exact .inl ⟨rfl,rfl⟩
  all_goals rfl
 ·rintro m A' H' ⟨i,ys,hi,rfl,hw1,hx1,hys,hyl,hacc,hyf,r0,r1,r2,r12,r13,r14⟩;have ht1:=hT _ _ hw0 htp hx1;have hbl:H'.get H.next=some (.cells (lis.flatMap liC) Xe false):=by rw[hx1.get _ (hw0.lt hbl0)];exact hbl0
  simp only[sxA,sxB,Nat.reduceBEq,Nat.reduceEqDiff,reduceCtorEq,mxA,mxB,Nat.reduceAdd,reduceIte,Nat.reduceLeDiff,splice,r13,r14];refine Qf (λh2=>?_) (λh2=>?_)
  ·have h2:i<6:=by have:=Lg h2;omega
   have hp:lis[i]? = some (lis[i]'h2):=La h2;generalize hpe:lis[i]'h2=x at hp;have hxm:x∈lis:=Ln hp;have c1:(0:Int)<=i∧(i:Int)<((6:Nat):Int):=by omega
   have c3:(i:Int).toNat=i:=by omega
   have c4:i * 3+3<=18:=by omega
   have n1:(lis.flatMap liC).length=18:=rfl;obtain⟨xa,xb,xf⟩:=x;have d1:List.take 3 (List.drop (i * 3) (lis.flatMap liC))=[.int .i64 xa,.int .i64 xb,.func (.func xf) #[] #[]]:=QCh lis i _ hp;have ei:IntKind.i64.wrap ((i:Int)+1)=((i+1:Nat):Int):=by rw[w64 (by unfold I64;omega)];omega
   simp only[sxA,sxB,Nat.reduceBEq,Nat.reduceEqDiff,reduceCtorEq,mxA,mxB,Nat.reduceAdd,reduceIte,Nat.reduceLeDiff,splice,Qo1,Qnj,r0,r1,r12,r14,c1,c3,c4,hbl,n1,d1];have htk:lis.take (i+1)=lis.take i++[(xa,xb,xf)]:=by rw[Nv,hp];rfl
   obtain⟨q1,e1⟩:∃c,decide (to<xa)=c:=⟨_,rfl⟩;obtain⟨q2,e2⟩:∃c,decide (fr>xb)=c:=⟨_,rfl⟩;obtain⟨Hn,hHn⟩:∃h,h=(H'.push (.cells [.int .i64 0,.int .i64 0,.nilFunc] Xe false)).set H'.next (.cells [.int .i64 xa,.int .i64 xb,.func (.func xf) #[] #[]] Xe false):=⟨_,rfl⟩;have hwn:Hn.Wf:=by rw[hHn];exact(hw1.push _).set (by rw[Qi,Lc rfl]) _
   have hxp:Ext H' Hn:=by rw[hHn];exact((Ext.refl H').push _).set (Lb _) _
   have hgn:Hn.get H'.next=some (.cells [.int .i64 xa,.int .i64 xb,.func (.func xf) #[] #[]] Xe false):=by rw[hHn,Qm,Lc rfl]
   have hnn:Hn.next=H'.next+1:=by rw[hHn];rfl
   simp only[<- hHn];have hskip:(q1||q2)=true->ys.map (·.f)=Qia LL fr to p (lis.take (i+1)):=λh=>by
    rw[htk,Qia,Bm,<- Qia,<- hys];simp[e1,e2,h]
   have hadd:(q1||q2)=false->ys.map (·.f)++(LL xf).filter p=Qia LL fr to p (lis.take (i+1)):=λh=>by
    rw[htk,Qia,Bm,<- Qia,<- hys];simp[e1,e2,h]
   cases q1<;>simp only[sxA,sxB,Nat.reduceBEq,Nat.reduceEqDiff,reduceCtorEq,mxA,mxB,Nat.reduceAdd,reduceIte,Nat.reduceLeDiff,splice,r0,r1,r14,e1,e2,ei,hgn]
   ·cases q2<;>simp only[sxA,sxB,Nat.reduceBEq,Nat.reduceEqDiff,reduceCtorEq,mxA,mxB,Nat.reduceAdd,reduceIte,Nat.reduceLeDiff,splice,r0,r1,r14,ei,hgn,Qzt]
    ·refine(hL _ hxm Hn (hT _ _ hw1 ht1 hxp)).thenW ?_;rintro u H2 hn2 hw2 ⟨hx2,xs,hxs,hacx,hxl,hxfr⟩;have hfm:=hacx.fms;have hfr:∀a l c,u=.slice (some a) l c->Hn.next<=a.block:=λa l c e=>by
      rcases hacx with⟨rfl,_⟩ | ⟨b,rfl,hb,_⟩
      ·cases e
      ·cases e;exact hb
     obtain⟨aa,cap,rfl,hsl⟩:=id hfm.1;simp only[sxA,sxB,Nat.reduceBEq,Nat.reduceEqDiff,reduceCtorEq,mxA,mxB,Nat.reduceAdd,reduceIte,Nat.reduceLeDiff,splice];have ha2:=(hacc.ext hw1 hxp).ext hwn hx2;have hx02:Ext Hp H2:=(hx1.trans hxp).trans hx2;have hge:H.next<=Hn.next:=by have:=hx1.next;have:=hxp.next;omega
     refine QE (λm A2 H3=>∃ (k:Nat) (zs:List Lf),k<=xs.length∧m=xs.length - k∧H3.Wf∧Ext Hp H3∧zs.map (·.f)=ys.map (·.f)++((xs.take k).map (·.f)).filter p∧zs.length<=ys.length+k∧Acc Hp H3 (A2 7) zs∧QqL H3 (.slice aa xs.length cap) xs∧(∀z∈zs,z.Fr H.next)∧
      (∀a l c b,A2 7=.slice (some a) l c->aa=some b->b.block≠a.block)∧
      A2 0=.int .i64 fr∧A2 1=.int .i64 to∧A2 2=.func (.func gf) #[] gys.toArray∧A2 12=.slice (some ⟨H.next,0,none⟩) 6 6∧A2 13=.int .i64 6∧A2 14=.int .i64 i∧A2 30=.slice aa xs.length cap∧A2 31=.int .i64 xs.length∧A2 32=.int .i64 k) xs.length ?_ ?_
     ·refine⟨0,ys,L7 _,rfl,hw2,hx02,by simp,by omega,?_,hfm,hyf,?_,?_,?_,?_,?_,?_,?_,?_,?_,?_⟩
      all_goals simp only[uxA,uxB,Nat.reduceBEq,r0,r1,r2,r12,r13,r14]
      ·exact ha2
      ·intro a l c b hv hb;subst hb;have h1:=hfr _ _ _ rfl;rcases hacc with⟨h,_⟩ | ⟨b2,h,_,h3,_⟩
       ·rw[h]at hv;cases hv
       ·rw[h]at hv;cases hv;have:=hw1.lt h3;simp only;omega
      all_goals rfl
     ·rintro m A2 H3 ⟨k,zs,hk,rfl,hw3,hx3,hzs,hzl,hac3,hfm3,hzf,hne3,s0,s1,s2,s12,s13,s14,s30,s31,s32⟩;simp only[sxA,sxB,Nat.reduceBEq,Nat.reduceEqDiff,reduceCtorEq,mxA,mxB,Nat.reduceAdd,reduceIte,Nat.reduceLeDiff,splice,s31,s32];refine Qf (λh3=>?_) (λh3=>?_)
      ·have h3:k<xs.length:=by have:=Lg h3;omega
       obtain⟨⟨a4,cap4,e4,hsl3⟩,hxa3⟩:=id hfm3;cases e4;obtain⟨b1,e1',ro1,rfl,hb1⟩:=hsl3 (by omega);have d1:(0:Int)<=k∧(k:Int)<xs.length:=by omega
       have d3:(k:Int).toNat=k:=by omega
       have d4:k * 10+10<=xs.length * 10:=by omega
       have ek:IntKind.i64.wrap ((k:Int)+1)=((k+1:Nat):Int):=by rw[w64 (by unfold I64;omega)];omega
       have hpk:=La h3;have dd:=QdI xs k _ hpk;have nn:=W0 xs;have hym:xs[k]∈xs:=Nb h3;have wk:=hxa3 _ hym;have wf:(xs[k]).Fr H.next:=(hxfr _ hym).mono hge;have hxtk:xs.take (k+1)=xs.take k++[xs[k]]:=NM h3;generalize xs[k]=x at hpk dd hym wk wf hxtk;have ak:=YI wk;simp only[sxA,sxB,Nat.reduceBEq,Nat.reduceEqDiff,reduceCtorEq,mxA,mxB,Nat.reduceAdd,reduceIte,Nat.reduceLeDiff,splice,s0,s1,s2,s30,s32,d1,d3,d4,hb1,nn,dd,QG,Wu,ak];obtain⟨G1,hG1⟩:∃h,h=(H3.push (.cells [.int .i64 0,.slice none 0 0,.slice none 0 0,.int .i64 0,.int .i64 0,.int .i64 0,.int .i64 0,.int .i64 0,.bool false,.int .i64 0] Qc false)).set H3.next (.cells x.cells Qc false):=⟨_,rfl⟩;have hwG1:G1.Wf:=by rw[hG1];exact(hw3.push _).set (by rw[Qi,Lc rfl]) _
       have hxG1:Ext H3 G1:=by rw[hG1];exact((Ext.refl H3).push _).set (Lb _) _
       have hgG1:G1.get H3.next=some (.cells x.cells Qc false):=by rw[hG1,Qm,Lc rfl]
       have hnG1:G1.next=H3.next+1:=by rw[hG1];rfl
       simp only[<- hG1,QDr];have hxH3:Ext H H3:=hxp0.trans hx3;refine(hg x G1 (hxH3.trans hxG1) (wk.ext hw3 hxG1)).thenW ?_;rintro _ G2 hn4 hw4 ⟨rfl,m4,rfl⟩;simp only[Wm]at hn4;have hxG2:Ext H3 (G1.up m4):=hxG1.up hn4;have hgG2:(G1.up m4).get H3.next=some (.cells x.cells Qc false):=by rw[W3];exact hgG1
       have hnG2:H3.next+1<=(G1.up m4).next:=by simp only[Wm];omega
       generalize G1.up m4=G2 at hw4 hxG2 hgG2 hnG2;have hfil:((xs.take (k+1)).map (·.f)).filter p=((xs.take k).map (·.f)).filter p++bif p x.f then[x.f] else[]:=by
        rw[hxtk,N6,Re];cases hpx:p x.f<;>simp[hpx]
       simp only[sxA,sxB,Nat.reduceBEq,Nat.reduceEqDiff,reduceCtorEq,mxA,mxB,Nat.reduceAdd,reduceIte,Nat.reduceLeDiff,splice];cases hpx:p x.f
       ·rw[hpx]at hfil;simp only[sxA,sxB,Nat.reduceBEq,Nat.reduceEqDiff,reduceCtorEq,mxA,mxB,Nat.reduceAdd,reduceIte,Nat.reduceLeDiff,splice,s32,ek];refine⟨xs.length - (k+1),by omega,k+1,zs,by omega,rfl,hw4,hx3.trans hxG2,by rw[hfil,hzs];simp,by omega,?_,hfm3.ext hw3 hxG2,hzf,?_,?_,?_,?_,?_,?_,?_,?_,?_,?_⟩
        all_goals simp only[uxA,uxB,Nat.reduceBEq,s0,s1,s2,s12,s13,s14,s30,s31]
        ·exact hac3.ext hw3 hxG2
        ·exact λa l c b h1 h2=>hne3 a l c b h1 (by rw[h2])
       ·rw[hpx]at hfil;simp only[sxA,sxB,Nat.reduceBEq,Nat.reduceEqDiff,reduceCtorEq,mxA,mxB,Nat.reduceAdd,reduceIte,Nat.reduceLeDiff,splice,hgG2,QG,Wu,ak];have hac5:=(hac3.ext hw3 hxG2).ext hw4 ((Ext.refl G2).push (.cells x.cells Qc false));have hx5:Ext H3 (G2.push (.cells x.cells Qc false)):=hxG2.push _;have hb5:=hfm3.ext hw3 hx5;refine Acc.app hac5 (hx3.trans hx5) (hw4.push _) (wk.ext hw3 hx5) (by omega) (by rw[Qi,Lc rfl]) (λa l c hv e=>?_) λv' H6 y1 y2 y3 y4 y5 y6=>?_
        ·rcases hac3 with⟨h,_⟩ | ⟨b2,h,_,h3',_⟩
         ·rw[h]at hv;cases hv
         ·rw[h]at hv;cases hv;have:=hw3.lt h3';simp only at e;omega
        ·simp only[sxA,sxB,Nat.reduceBEq,Nat.reduceEqDiff,reduceCtorEq,mxA,mxB,Nat.reduceAdd,reduceIte,Nat.reduceLeDiff,splice,s32,ek];refine⟨xs.length - (k+1),by omega,k+1,zs++[x],by omega,rfl,y2,y1,by rw[hfil,N6,hzs];simp,by simp;omega,?_,y6.fms hac5 hb5 λa l c a' l' c' ha hv=>?_,?_,?_,?_,?_,?_,?_,?_,?_,?_,?_,?_⟩
         rotate_left 2
         ·intro z hz;simp only[LI,Sa]at hz;rcases hz with hz | rfl
          ·exact hzf z hz
          ·exact wf
         ·intro a l c b hv hb;cases hb;simp only[uxA,uxB,Nat.reduceBEq]at hv;have h1:=y5 a l c hv;have h2:=hw3.lt hb1;simp only[Ql]at h1;simp only;omega
         rotate_right 2
         ·simp only[uxA,uxB,Nat.reduceBEq];exact y4
         ·cases ha;exact hne3 _ _ _ _ hv rfl
         all_goals simp only[uxA,uxB,Nat.reduceBEq,s0,s1,s2,s12,s13,s14,s30,s31]
      ·have h3:k=xs.length:=by have:=Ll h3;omega
       subst h3;simp only[sxA,sxB,Nat.reduceBEq,Nat.reduceEqDiff,reduceCtorEq,mxA,mxB,Nat.reduceAdd,reduceIte,Nat.reduceLeDiff,splice,s14,ei];refine⟨6 - (i+1),by omega,i+1,zs,by omega,rfl,hw3,hx3,?_,by omega,?_,hzf,?_,?_,?_,?_,?_,?_⟩
       ·rw[<- hadd rfl,hzs,LF (Lb _),hxs]
       all_goals simp only[uxA,uxB,Nat.reduceBEq,s0,s1,s2,s12,s13]
       exact hac3
    ·refine⟨6 - (i+1),by omega,i+1,ys,by omega,rfl,hwn,hx1.trans hxp,hskip rfl,by omega,?_,hyf,?_,?_,?_,?_,?_,?_⟩
     all_goals simp only[uxA,uxB,Nat.reduceBEq,r0,r1,r2,r12,r13]
     exact hacc.ext hw1 hxp
   ·refine⟨6 - (i+1),by omega,i+1,ys,by omega,rfl,hwn,hx1.trans hxp,hskip rfl,by omega,?_,hyf,?_,?_,?_,?_,?_,?_⟩
    all_goals simp only[uxA,uxB,Nat.reduceBEq,r0,r1,r2,r12,r13]
    exact hacc.ext hw1 hxp
  ·have h2:i=6:=by have:=Ll h2;omega
   subst h2;simp only[sxA,sxB,Nat.reduceBEq,Nat.reduceEqDiff,reduceCtorEq,mxA,mxB,Nat.reduceAdd,reduceIte,Nat.reduceLeDiff,splice,Qm5];exact .mk (by have:=hx1.next;omega) ⟨hxp0.trans hx1,ys,hys,hacc.mono (by omega),by omega,hyf⟩
def cS (id:Nat) (l:List Int):Value:=match l with
 | []=>.slice none 0 0
 | _::_=>.slice (some ⟨id,0,none⟩) l.length (UNK+1)
def QpE (M:Nat):Nat->List Fm->List Lf
 | _,[]=>[]
 | i,x::xs=>⟨x,cS (M+1+2 * i) x.shapes,cS (M+2+2 * i) x.slots⟩::QpE M (i+1) xs
theorem Qvx (M:Nat):∀ (L:List Fm) (i k:Nat),(QpE M i L)[k]? = (L[k]?).map λx=>⟨x,cS (M+1+2 * (i+k)) x.shapes,cS (M+2+2 * (i+k)) x.slots⟩
 | [],i,k=>by simp[QpE]
 | x::xs,i,0=>by simp[QpE]
 | x::xs,i,k+1=>by
  simp only[QpE,Bg,Qvx M xs (i+1) k];rw[show i+1+k=i+(k+1) by omega]
theorem Qpc (M:Nat):∀ (L:List Fm) (i:Nat),(QpE M i L).length=L.length
 | [],i=>rfl
 | x::xs,i=>by simp[QpE,Qpc M xs (i+1)]
def QjE:List Fm->List Row
 | []=>[]
 | x::xs=>⟨0,ints x.shapes,3,true⟩::⟨0,ints x.slots,3,true⟩::QjE xs
theorem Qja:∀L:List Fm,(QjE L).length=2 * L.length
 | []=>rfl
 | x::xs=>by simp[QjE,Qja xs];omega
theorem QsN:∀ (L:List Fm) (k:Nat) (r:Row),(QjE L)[k]? = some r->∃x,L[k / 2]? = some x∧r=⟨0,if k % 2=0 then ints x.shapes else ints x.slots,3,true⟩
 | [],k,r,h=>by simp[QjE]at h
 | x::xs,0,r,h=>by simp[QjE]at h;exact⟨x,rfl,by simp[<- h]⟩
 | x::xs,1,r,h=>by simp[QjE]at h;exact⟨x,rfl,by simp[<- h]⟩
 | x::xs,k+2,r,h=>by
  simp only[QjE,Bg]at h;obtain⟨y,h1,h2⟩:=QsN xs k r h;refine⟨y,by rw[show(k+2) / 2=k / 2+1 by omega];simpa using h1,?_⟩;rw[h2,show(k+2) % 2=k % 2 by omega]
def Qbu (M:Nat) (L:List Fm):List Row:=match L with
 | []=>[]
 | _::_=>⟨0,Q3 (QpE M 0 L),Qc,true⟩::QjE L
def Qz4 (M:Nat) (L:List Fm):Value:=match L with
 | []=>.slice none 0 0
 | _::_=>.slice (some ⟨M,0,none⟩) L.length (UNK+10)
theorem QHw (id:Nat) (l:List Int):okD 6 (cS id l)=true:=by cases l<;>rfl
theorem Qys (l:List Int):(ints l).all (okD 6)=true:=by
 rw[Li];intro v hv;simp only[ints,N4]at hv;obtain⟨x,_,rfl⟩:=hv;rfl
theorem Qyt (M:Nat):∀ (L:List Fm) (i:Nat),(Q3 (QpE M i L)).all (okD 6)=true
 | [],i=>rfl
 | x::xs,i=>by
  have ih:=Qyt M xs (i+1);simp only[QpE,Q3,Ba,Fo,Lm]at ih ⊢;refine⟨?_,ih⟩;simp only[Lf.cells,Bv,BI,QHw,Be,LJ];rfl
theorem Qvy:∀ (L:List Fm),∀r∈QjE L,r.ro=true∧r.c.all (okD 6)=true
 | [],r,h=>by cases h
 | x::xs,r,h=>by
  simp only[QjE,LK]at h;rcases h with rfl | rfl | h
  ·exact⟨rfl,Qys _⟩
  ·exact⟨rfl,Qys _⟩
  ·exact Qvy xs r h
theorem Qrg (M:Nat) (L:List Fm):∀r∈Qbu M L,r.ro=true∧r.c.all (okD 6)=true:=λr h=>by
 cases L with
 | nil=>cases h
 | cons x xs=>
  simp only[Qbu,LK]at h;rcases h with rfl | h
  ·exact⟨rfl,Qyt M _ 0⟩
  ·exact Qvy _ r h
theorem Qyu (M:Nat) (L:List Fm):okD 6 (Qz4 M L)=true:=by cases L<;>rfl
theorem V.newSlice {ρ:Ren} {b n cap s:Nat} {z:Value} (h:V ρ (.slice (some ⟨b,0,none⟩) n cap) z):∃inf:ZU,(∃i,ρ b=some i∧inf.at_=i.at_)∧∀ (ρc:Ren) (id:Nat),ρc id=some inf->V ρc (.slice (some ⟨id,0,none⟩) n (UNK+s)) z:=by
 cases h with
 | same _ hp=>simp[Ab.plain]at hp
 | slice _ _ _ _ cap' i a' h0 h1 h2 h3 h4 h5=>
  refine⟨⟨i.at_,cap' * s,s⟩,⟨i,h0,rfl⟩,λρc id hid=>.slice id 0 n (UNK+s) cap' ⟨i.at_,cap' * s,s⟩ a' hid h1 h2 h3 (λ_=>⟨(NL ..).symm,LP _⟩) (λhc=>by omega)⟩
theorem QsO {M:Nat} {H1:Qa} {v:Value} {ys:List Lf} {H0:Qa} (hm:H0.next=M) (ha:Acc H0 H1 v ys) (hf:∀y∈ys,y.Fr M):Pic prog M H1 v (Qz4 M (ys.map (·.f))) (Qbu M (ys.map (·.f))):=by
 intro ρ1 w v' hs hv;rcases ha with⟨rfl,rfl⟩ | ⟨b,rfl,hb0,hgb,hyn,hya⟩
 ·refine⟨λ_=>0,λ_=>⟨⟨0,0,none⟩,0,0⟩,λk hk=>by simp[Qbu]at hk,?_,λk r hr=>by simp[Qbu]at hr⟩;have:=V.plain_eq hv rfl;subst this;exact .same _ rfl
 ·obtain⟨inf0,⟨i0,hi0,hat0⟩,hV0⟩:=V.newSlice (s:=10) hv;have hlive:=hs.live b _ i0 hgb hi0;obtain⟨y0,ys0,rfl⟩:∃y0 ys0,ys=y0::ys0:=by
   cases ys with
   | nil=>exact absurd rfl hyn
   | cons a l=>exact⟨a,l,rfl⟩
  have eL:(y0::ys0).map (·.f)=y0.f::ys0.map (·.f):=rfl;generalize hys:y0::ys0=ys at *;generalize hL:ys.map (·.f)=L at *;have hLlen:L.length=ys.length:=by rw[<- hL];simp
  have hrows:Qbu M L=⟨0,Q3 (QpE M 0 L),Qc,true⟩::QjE L:=by rw[eL];rfl
  have hcv:Qz4 M L=.slice (some ⟨M,0,none⟩) ys.length (UNK+10):=by rw[<- hLlen,eL];rfl
  -- what a row of numbers needs
  have one:∀ (l:List Int) (s:Value) (z:Value),SlF M s l->ZA H1 s l.length (ints l)->V ρ1 s z->∃ (src:Nat) (inf:ZU),(M<=src∧∃i,ρ1 src=some i∧inf.at_=i.at_)∧(∀ (ρc:Ren) (id:Nat),ρc id=some inf->V ρc (cS id l) z)∧∀ρc,WT prog ρc inf w (.cells (ints l) 3 true):=by
   intro l s z hsf hsl hz;rcases hsf with⟨rfl,rfl⟩ | ⟨hl,b1,cap,rfl,hb1,_⟩
   ·have:=V.plain_eq hz rfl;subst this;exact⟨b,inf0,⟨by omega,i0,hi0,hat0⟩,λρc id _=>.same _ rfl,λρc=>⟨by rw[hat0];exact hlive.lt,λj v hj=>by simp[ints]at hj⟩⟩
   ·obtain⟨inf,⟨i,hi,hat⟩,hV⟩:=V.newSlice (s:=1) hz;obtain⟨a,c,e,h1⟩:=hsl;cases e;obtain⟨b2,e2,ro2,e3,hg2⟩:=h1 (Rj.2 hl);cases e3;have hl2:=hs.live b1 _ i hg2 hi;refine⟨b1,inf,⟨hb1,i,hi,hat⟩,λρc id hid=>?_,λρc=>⟨by rw[hat];exact hl2.lt,λj v hj=>?_⟩⟩
    ·have:=hV ρc id hid;cases l with
     | nil=>exact absurd rfl hl
     | cons _ _=>exact this
    ·obtain⟨v1,h3,h4⟩:=hl2.cellAt hj;rw[hat];refine⟨v1,h3,?_⟩;have hpl:Ab.plain v=true:=by
      have:=Ln hj;simp only[ints,N4]at this;obtain⟨x,_,rfl⟩:=this;rfl
     rw[h4.plain_eq hpl];exact .same _ hpl
  -- the rows,one by one
  have hall:∀k,k<2 * ys.length->∃ (p:Nat×ZU),(M<=p.1∧∃i,ρ1 p.1=some i∧p.2.at_=i.at_)∧∀y,ys[k / 2]? = some y->((∀z,w.cell? (i0.at_.add (k / 2 * 10+1+k % 2))=some z->∀ (ρc:Ren) (id:Nat),ρc id=some p.2->V ρc (cS id (if k % 2=0 then y.f.shapes else y.f.slots)) z)∧∀ρc,WT prog ρc p.2 w (.cells (if k % 2=0 then ints y.f.shapes else ints y.f.slots) 3 true)):=by
   intro k hk;have hk2:k / 2<ys.length:=by omega
   have hy:=La hk2;have hym:=Ln hy;generalize ys[k / 2]'hk2=y at hy hym;have hy1:=hya y hym;have hy2:=hf y hym
   by_cases h0:k % 2=0
   ·have hc:(Q3 ys)[k / 2 * 10+1]? = some y.sv:=by rw[QgM ys _ 1 y hy (by decide)];rfl
    obtain⟨z,hz1,hz2⟩:=hlive.cellAt hc;obtain⟨src,inf,h1,h2,h3⟩:=one _ _ _ hy2.1 hy1.2.2.1 hz2;refine⟨(src,inf),h1,λy' hy'=>?_⟩;rw[hy]at hy';cases hy';simp only[h0,N3,N9];exact⟨λz' hz' ρc id hid=>by rw[hz1]at hz';cases hz';exact h2 ρc id hid,h3⟩
   ·have hc:(Q3 ys)[k / 2 * 10+2]? = some y.tv:=by rw[QgM ys _ 2 y hy (by decide)];rfl
    obtain⟨z,hz1,hz2⟩:=hlive.cellAt hc;obtain⟨src,inf,h1,h2,h3⟩:=one _ _ _ hy2.2 hy1.2.2.2 hz2;refine⟨(src,inf),h1,λy' hy'=>?_⟩;rw[hy]at hy';cases hy';simp only[h0,LN,show k % 2=1 by omega];exact⟨λz' hz' ρc id hid=>by rw[hz1]at hz';cases hz';exact h2 ρc id hid,h3⟩
  have hpick:∃g:Nat->Nat×ZU,∀k,k<2 * ys.length->(M<=(g k).1∧∃i,ρ1 (g k).1=some i∧(g k).2.at_=i.at_)∧∀y,ys[k / 2]? = some y->((∀z,w.cell? (i0.at_.add (k / 2 * 10+1+k % 2))=some z->∀ (ρc:Ren) (id:Nat),ρc id=some (g k).2->V ρc (cS id (if k % 2=0 then y.f.shapes else y.f.slots)) z)∧∀ρc,WT prog ρc (g k).2 w (.cells (if k % 2=0 then ints y.f.shapes else ints y.f.slots) 3 true)):=
   ⟨λk=>if h:k<2 * ys.length then(hall k h).choose else(0,inf0),λk hk=>by simp only[hk,dif_pos];exact(hall k hk).choose_spec⟩
  obtain⟨g,hg⟩:=hpick;have hlenr:(Qbu M L).length=1+2 * ys.length:=by rw[hrows];simp[Qja,hLlen];omega
  refine⟨λk=>if k=0 then b else(g (k - 1)).1,λk=>if k=0 then inf0 else(g (k - 1)).2,λk hk=>?_,?_,λk r hr=>?_⟩
  ·by_cases h0:k=0
   ·subst h0;exact⟨by simp;omega,i0,hi0,hat0⟩
   ·simp only[h0,LN];exact(hg (k - 1) (by omega)).1
  ·rw[hcv];refine hV0 _ M ?_;simp[QtU,hlenr]
  ·have hid:∀k,k<2 * ys.length->QtU M (Qbu M L).length ρ1 (λk=>if k=0 then inf0 else(g (k - 1)).2) (M+1+k)=some (g k).2:=λk hk=>by
    unfold QtU;rw[Le (by omega),Lc (by omega)];simp only[show ¬M+1+k - M=0 by omega,LN,show M+1+k - M - 1=k by omega]
   generalize QtU M (Qbu M L).length ρ1 (λk=>if k=0 then inf0 else(g (k - 1)).2)=ρc at hid;rw[hrows]at hr;cases k with
   | zero=>
    simp at hr;subst hr;simp only[N3];refine⟨by rw[hat0];exact hlive.lt,λj x hj=>?_⟩;rw[hat0];have hjl:j<(Q3 (QpE M 0 L)).length:=(Lk.1 hj).1;rw[W0,Qpc,hLlen]at hjl;have hq:j / 10<ys.length:=by omega
    have hy:=La hq;have hym:=Ln hy;generalize ys[j / 10]'hq=y at hy hym;have hLy:L[j / 10]? = some y.f:=by rw[<- hL];simp[hy]
    have hcan:=Qvx M L 0 (j / 10);rw[hLy]at hcan;have ej:j=j / 10 * 10+j % 10:=by omega
    have hr10:j % 10<10:=Rm _ (by decide);rw[Dh]at hcan;have hx1:=QgM _ _ _ _ hcan hr10;have hx2:=QgM _ _ _ _ hy hr10;rw[<- ej]at hx1 hx2;rw[hj]at hx1;have h1:=hg (2 * (j / 10)) (by omega);have h2:=hg (2 * (j / 10)+1) (by omega);rw[show 2 * (j / 10) / 2=j / 10 by omega,show 2 * (j / 10) % 2=0 by omega]at h1;rw[show(2 * (j / 10)+1) / 2=j / 10 by omega,show(2 * (j / 10)+1) % 2=1 by omega]at h2;have h1:=(h1.2 y hy).1;have h2:=(h2.2 y hy).1;simp only[N3,N9]at h1;simp only[show ¬ (1:Nat)=0 by decide,LN]at h2;have hp1:=hid (2 * (j / 10)) (by omega);have hp2:=hid (2 * (j / 10)+1) (by omega);generalize j % 10=r at hr10 ej hx1 hx2;have plainCase:∀q,(Q3 ys)[j]? = some q->Ab.plain q=true->x=q->∃v',w.cell? (i0.at_.add j)=some v'∧V ρc x v':=λq hq1 hq2 hq3=>by
     obtain⟨z,hz1,hz2⟩:=hlive.cellAt hq1;refine⟨z,hz1,?_⟩;rw[hz2.plain_eq hq2,hq3];exact .same _ hq2
    have hcase:r=0∨r=1∨r=2∨r=3∨r=4∨r=5∨r=6∨r=7∨r=8∨r=9:=by omega
    rcases hcase with rfl | rfl | rfl | rfl | rfl | rfl | rfl | rfl | rfl | rfl
    ·exact plainCase _ hx2 rfl (by simpa[Lf.cells] using hx1)
    ·have hx1:x=cS (M+1+2 * (0+j / 10)) y.f.shapes:=by simpa[Lf.cells] using hx1
     obtain⟨z,hz1,hz2⟩:=hlive.cellAt hx2;refine⟨z,hz1,?_⟩;rw[hx1,LP];exact h1 z (by rw[<- ej];exact hz1) ρc _ hp1
    ·have hx1:x=cS (M+2+2 * (0+j / 10)) y.f.slots:=by simpa[Lf.cells] using hx1
     obtain⟨z,hz1,hz2⟩:=hlive.cellAt hx2;refine⟨z,hz1,?_⟩;rw[hx1,LP,show M+2+2 * (j / 10)=M+1+(2 * (j / 10)+1) by omega];exact h2 z (by rw[show j / 10 * 10+1+1=j by omega];exact hz1) ρc _ hp2
    all_goals exact plainCase _ hx2 rfl (by simpa[Lf.cells] using hx1)
   | succ k=>
    simp only[Bg]at hr;have hkl:k<2 * ys.length:=by have:=(Lk.1 hr).1;rw[Qja,hLlen]at this;exact this
    obtain⟨x,h1,rfl⟩:=QsN L k r hr;have hq:k / 2<ys.length:=by omega
    have hy:=La hq;generalize ys[k / 2]'hq=y at hy;have:x=y.f:=by rw[<- hL]at h1;simp[hy]at h1;exact h1.symm
    subst this;simp only[show ¬k+1=0 by omega,LN,Nat.add_sub_cancel];exact((hg k hkl).2 y hy).2 ρc
def iI (k:Nat):Int:=bif Nat.beq k 0 then .negSucc 0 else .ofNat (k - 1)
def mkF (op pre mp code dg w vx l:Nat) (sh sl:List Nat):Fm:=⟨.ofNat op,.ofNat pre,.ofNat mp,.ofNat code,iI dg,iI w,.ofNat l,Nat.beq vx 1,sh.map .ofNat,sl.map .ofNat⟩
def QnA (v:Value) (n:Int):Bool:=match v with | .int .i64 m=>Qhr 8 (.int .i64 m) (.int .i64 n) | _=>false
theorem Qgd {v:Value} {n:Int} (h:QnA v n=true):v=.int .i64 n:=by
 unfold QnA at h;split at h
 ·exact Qin 8 _ _ h
 ·cases h
def Qxm (v:Value) (b:Bool):Bool:=match v with | .bool c=>(bif c then b else !b) | _=>false
theorem Qz5 {v:Value} {b:Bool} (h:Qxm v b=true):v=.bool b:=by
 unfold Qxm at h;split at h
 ·rename_i c;cases c<;>cases b<;>first | rfl | cases h
 ·cases h
def QGs (n c:Nat):Bool:=Nat.beq c (UNK+1)||(Nat.ble n c&&Nat.ble (c+1) UNK)
theorem QEf {n c:Nat} (h:QGs n c=true):QEQ n c:=by
 simp only[QGs,Nw,Lm,JR,Lv,BL]at h;rcases h with h | ⟨h1,h2⟩
 ·exact .inl h
 ·exact .inr ⟨h1,h2⟩
def QEg (G:Nat) (rs:List Row) (v:Value) (l:List Int):Bool:=match l with
 | []=>Qhr 8 v (.slice none 0 0)
 | _::_=>match v with
  | .slice (some a) n c=>Nat.ble G a.block&&(Nat.beq a.off 0&&(Qg1 a&&(Nat.beq n l.length&&(Nat.ble n 1000&&(QGs n c&&(match rs[a.block - G]? with | some r=>Qay (Qhr 8) r.c (ints l) | none=>false))))))
  | _=>false
def QEh (G:Nat) (rs:List Row):List Value->List Fm->Bool
 | [],[]=>true
 | a0::a1::a2::a3::a4::a5::a6::a7::a8::a9::cs,x::xs=>QnA a0 x.op&&(QEg G rs a1 x.shapes&&(QEg G rs a2 x.slots&&(QnA a3 x.pre&&(QnA a4 x.map&&(QnA a5 x.code&&(QnA a6 x.digit&&(QnA a7 x.w&&(Qxm a8 x.vex&&(QnA a9 x.l&&QEh G rs cs xs)))))))))
 | _,_=>false
def QEi (G:Nat) (rs:List Row) (u:Value) (L:List Fm):Bool:=match u with
 | .slice (some a) n c=>Nat.ble G a.block&&(Nat.beq a.off 0&&(Qg1 a&&(Nat.beq n L.length&&(Nat.ble n 1000&&(Nat.ble 1 n&&(Nat.beq c (UNK+10)&&(match rs[a.block - G]? with | some r=>Nat.beq r.e Qc&&(!r.ro&&QEh G rs r.c L) | none=>false)))))))
 | _=>false
theorem Qol {a:Addr} (h:Qg1 a=true):a.spot=none:=by
 unfold Qg1 at h;split at h
 ·assumption
 ·cases h
section
variable {τ:Nat->Nat} {G:Nat} {rs:List Row} {H:Qa}
theorem QCi {b:Nat} (h:G<=b):shM τ G H.next b=H.next+(b - G):=by
 unfold shM;rw[QgJ];simp[show ¬b<G by omega]
theorem QCj (sh:Nat->Nat) (l:List Int):(ints l).map (shW sh 6)=ints l:=by
 unfold ints;rw[Ht];exact DC λx _=>Qsy sh 6 _ rfl
theorem Qyv {v:Value} {l:List Int} (h:QEg G rs v l=true):l.length<=1000∧ZA (Jw (shM τ G H.next) rs H) (shW (shM τ G H.next) 6 v) l.length (ints l)∧SlF H.next (shW (shM τ G H.next) 6 v) l:=by
 cases l with
 | nil=>
  have:=Qin 8 _ _ (show Qhr 8 v (.slice none 0 0)=true from h);subst this;exact⟨by simp,⟨none,0,rfl,λh=>by simp at h⟩,.inl ⟨rfl,rfl⟩⟩
 | cons x l=>
  unfold QEg at h;simp only at h;split at h
  ·rename_i a n cap;simp only[Lm,JR,Lv,BL]at h;obtain⟨h1,h2,h3,h4,h5,hcp,h6⟩:=h;split at h6
   ·rename_i r hr;have h6:=QmT (Qin 8) _ _ h6;obtain⟨ab,ao,asp⟩:=a
    replace h3:=Qol h3
    simp only at h1 h2 h3 hr;subst h2;subst h3;subst h4;have hk:=(Lk.1 hr).1;have e1:shW (shM τ G H.next) 6 (.slice (some ⟨ab,0,none⟩) (x::l).length cap)=.slice (some ⟨H.next+(ab - G),0,none⟩) (x::l).length cap:=by
     show Value.slice (some ⟨shM τ G H.next ab,0,none⟩) _ _=_;rw[QCi h1]
    rw[e1];refine⟨h5,⟨_,_,rfl,λ_=>⟨H.next+(ab - G),r.e,r.ro,rfl,?_⟩⟩,.inr ⟨by simp,_,_,rfl,by omega,QEf hcp⟩⟩;rw[Qfq,Lc ⟨by omega,by omega⟩,show H.next+(ab - G) - H.next=ab - G by omega,hr];show some (Blk.cells (r.c.map (shW (shM τ G H.next) 6)) r.e r.ro)=_;rw[h6,QCj]
   ·cases h6
  ·cases h
theorem Qyw:∀ (cs:List Value) (L:List Fm),QEh G rs cs L=true->∃xs:List Lf,xs.map (·.f)=L∧cs.map (shW (shM τ G H.next) 6)=Q3 xs∧∀x∈xs,x.At (Jw (shM τ G H.next) rs H)∧x.Fr H.next
 | [],[],_=>⟨[],rfl,rfl,λx h=>by cases h⟩
 | a0::a1::a2::a3::a4::a5::a6::a7::a8::a9::cs,x::L,h=>by
  simp only[QEh,Lm]at h;obtain⟨h0,h1,h2,h3,h4,h5,h6,h7,h8,h9,hr⟩:=h;obtain⟨xs,e1,e2,e3⟩:=Qyw cs L hr;have i0:=Qgd h0;have i3:=Qgd h3;have i4:=Qgd h4;have i5:=Qgd h5;have i6:=Qgd h6;have i7:=Qgd h7;have i8:=Qz5 h8;have i9:=Qgd h9;subst i0 i3 i4 i5 i6 i7 i8 i9;obtain⟨s1,s2,s3⟩:=Qyv (τ:=τ) (H:=H) h1;obtain⟨t1,t2,t3⟩:=Qyv (τ:=τ) (H:=H) h2;refine⟨⟨x,shW (shM τ G H.next) 6 a1,shW (shM τ G H.next) 6 a2⟩::xs,by simp[e1],?_,λy hy=>?_⟩
  rotate_left
  ·rcases LK.1 hy with rfl | hy
   ·exact⟨⟨s1,t1,s2,t2⟩,s3,t3⟩
   ·exact e3 y hy
  ·simp only[NZ,e2,Q3,Ba,Lf.cells,Nm,LH];rfl
theorem QEj {u:Value} {L:List Fm} (h:QEi G rs u L=true):∃xs:List Lf,xs.map (·.f)=L∧Acc H (Jw (shM τ G H.next) rs H) (shW (shM τ G H.next) 6 u) xs∧xs.length<=1000∧∀x∈xs,x.Fr H.next:=by
 unfold QEi at h;split at h
 ·rename_i a n cap;simp only[Lm,JR,Lv,BL]at h;obtain⟨h1,h2,h3,h4,h5,h7,h8,h6⟩:=h;split at h6
  ·rename_i r hr;simp only[Lm,JR,Lv,Lr]at h6;obtain⟨h9,h10,h6⟩:=h6;subst h8;obtain⟨xs,e1,e2,e3⟩:=Qyw (τ:=τ) (H:=H) _ _ h6;obtain⟨ab,ao,asp⟩:=a
   replace h3:=Qol h3
   simp only at h1 h2 h3 hr;subst h2;subst h3;have hl:n=xs.length:=by rw[h4,<- e1];simp
   subst hl;have hk:=(Lk.1 hr).1;have e1':shW (shM τ G H.next) 6 (.slice (some ⟨ab,0,none⟩) xs.length (UNK+10))=.slice (some ⟨H.next+(ab - G),0,none⟩) xs.length (UNK+10):=by
    show Value.slice (some ⟨shM τ G H.next ab,0,none⟩) _ _=_;rw[QCi h1]
   rw[e1'];refine⟨xs,e1,.inr ⟨_,rfl,by omega,?_,λh=>?_,λx hx=>(e3 x hx).1⟩,h5,λx hx=>(e3 x hx).2⟩
   ·rw[Qfq,Lc ⟨by omega,by omega⟩,show H.next+(ab - G) - H.next=ab - G by omega,hr];show some (Blk.cells (r.c.map (shW (shM τ G H.next) 6)) r.e r.ro)=_;rw[e2,h9,h10]
   ·rw[h]at h7;simp at h7
  ·cases h6
 ·cases h
end
theorem Qz6 {sh:Nat->Nat} (rs:List Row) (H:Qa):Ext H (Jw sh rs H):=⟨by rw[QfT];omega,λid hid=>by rw[Qfq,Le (by omega)]⟩
theorem Qvz {sh:Nat->Nat}:∀ (rs:List Row) (H:Qa),H.Wf->(Jw sh rs H).Wf
 | [],H,h=>h
 | r::rs,H,h=>Qvz rs _ (h.push _)
def V0 (tabs:List Tab) (H:Qa):Prop:=QfR tabs H=true
theorem Qeg {tabs:List Tab} (H H':Qa) (hw:H.Wf) (h:V0 tabs H) (hx:Ext H H'):V0 tabs H':=by
 unfold V0 QfR at *;rw[Li]at *;intro t ht;have h1:=h t ht;cases hg:H.get t.id with
 | none=>rw[hg]at h1;cases h1
 | some b=>rw[hx.get _ (hw.lt hg)];exact h1
theorem QtV {tabs:List Tab} (ht:tabsOk tabs=true) (htab:∀t∈tabs,t.id<prog.globals.size) {s:SumI} (hs:SumIOk prog tabs s) (ha:s.args=[]) (hi:s.ins=[]) {L:List Fm} (hc:QEi prog.globals.size s.rs s.u L=true):KJ (V0 tabs) s.f L:=by
 intro H hH hw;have hd:=hs.does ht (args:=[]) (H:=H) (τ:=λn=>n) (λ_ _=>rfl) htab hH (by rw[hi];rfl) (by rw[ha];rfl);rw[hi]at hd;obtain⟨xs,h1,h2,h3,h4⟩:=QEj (τ:=λn=>n) (H:=H) hc;exact⟨_,_,.inl ⟨hs.1,hd⟩,by rw[QfT];exact Ro _ _,Qvz _ _ hw,Qz6 _ _,xs,h1,h2,h3,h4⟩
def Qyx (G:Nat) (f:FuncId) (L:List Fm):List SumI->Bool
 | s::_=>Nat.beq s.f f&&(s.args.isEmpty&&(s.ins.isEmpty&&QEi G s.rs s.u L))
 | []=>false
theorem W2 {tabs:List Tab} (ht:tabsOk tabs=true) (htab:∀t∈tabs,t.id<prog.globals.size) {l:List SumI} (hl:∀s∈l,SumIOk prog tabs s) {f:FuncId} {L:List Fm} (h:Qyx prog.globals.size f L l=true):KJ (V0 tabs) f L:=by
 cases l with
 | nil=>cases h
 | cons s l=>
  simp only[Qyx,Lm,JR,Lv,DF]at h;obtain⟨h1,h2,h3,h4⟩:=h;rw[<- h1];exact QtV ht htab (hl s (Ny ..)) h2 h3 h4
theorem Qxn {tabs:List Tab} (ht:tabsOk tabs=true) (htab:∀t∈tabs,t.id<prog.globals.size) {f:FuncId} {args:List Value} (he:entered prog f=true) {L:List Fm} (hpl:Qay (mtV (QbB (λn=>n) prog.globals.size) 6) args args=true)
  (hq:∀H,H.next=prog.globals.size->V0 tabs H->Qh prog f args H λu H'=>∃ys:List Lf,ys.map (·.f)=L∧Acc H H' u ys∧∀y∈ys,y.Fr H.next) (hwf:(Wv prog.globals.size tabs).Wf) (htt:V0 tabs (Wv prog.globals.size tabs)) {H:Qa} (hH:QfR tabs H=true):
  Qhm prog f args H (.ret (shW (shM (λn=>n) prog.globals.size H.next) 6 (Qz4 prog.globals.size L))) (Jw (shM (λn=>n) prog.globals.size H.next) (Qbu prog.globals.size L) H):=by
 have hn:(Wv prog.globals.size tabs).next=prog.globals.size:=rfl;obtain⟨v,H1,hc,_,_,ys,hy1,hy2,hy3⟩:=hq _ hn htt hwf;have hd:=hc.does he;subst hy1;have hp:=QsO hn hy2 hy3;refine Qvw (B:=Wv prog.globals.size tabs) hd (Lb _) (λ_ _=>rfl) hp (Qyu _ _) (Qrg _ _) H (λid b hb=>?_) hpl;have hg:=QiM hH id b hb;obtain⟨t,ht1,rfl,rfl⟩:=Y8 hb;refine⟨t.c,t.e,t.c,t.e,true,rfl,hg,rfl,λj x y hx hy=>?_⟩;rw[hx]at hy;cases hy;exact QiN.plain (Li.1 (Li.1 ht t ht1) x (Ln hx))
theorem Qro (x:Lf) (H:Qa) (hx:x.At H):Qh prog Qcx [.agg x.cells.toArray] H λu H'=>u=.bool true∧∃m,H'=H.up m:=by
 refine Qpj λhw=>?_;simp only[Qjf,Qb,simprocAttr,QnX];exact .ext hw ((Ext.refl H).push _) ⟨rfl,_,rfl⟩
theorem Quh (x:Lf) (op:Int) (b:Nat) (H:Qa) {e:TypeId} {ro:Bool} (hb:H.get b=some (.cells [.int .i64 op] e ro)) (hx:x.At H):Qh prog Qcy [.agg x.cells.toArray,.pointer (some ⟨b,0,none⟩)] H λu H'=>u=.bool (x.f.op==op)∧∃m,H'=H.up m:=by
 refine QrJ λhw=>?_;have hbl:=hw.lt hb;have hne:¬b=H.next:=by omega
 simp only[Lf.cells,QlG,Qb,simprocAttr,hne,hb,Qqv];exact .ext hw ((Ext.refl H).push _) ⟨rfl,_,rfl⟩
section
variable {T:Qa->Prop} (hT:∀H H',H.Wf->T H->Ext H H'->T H') (LL:FuncId->List Fm) (hL:∀x∈lis,KJ T x.2.2 (LL x.2.2))
include hT hL
theorem QnB (H:Qa) (ht:T H):Qh prog XL [] H λu H'=>QiS H H' u (Qia LL 1 322 (λ_=>true) lis):=by
 refine QrI λhw=>?_;simp only[QlF,Qb,simprocAttr];refine(QjD hT LL hL 1 322 _ (λ_=>true) H ⟨Qcx,[],rfl,λx H' hx ha=>Qro x H' ha⟩ ht).thenW ?_;rintro u H' hn hw' h;simp only[Qb,simprocAttr,Qqs];exact .mk hn h
theorem Qrp (op:Int) (H:Qa) (ht:T H):Qh prog Kd [.int .i64 op] H λu H'=>QiS H H' u (Qia LL op op (λf=>f.op==op) lis):=by
 refine QuU λhw=>?_;simp only[QoR,Qb,simprocAttr,Qm0];have hx0:Ext H (H.push (.cells [.int .i64 op] 3 false)):=(Ext.refl H).push _;have hg0:(H.push (.cells [.int .i64 op] 3 false)).get H.next=some (.cells [.int .i64 op] 3 false):=by rw[Qi,Lc rfl]
 have hw0:=hw.push (.cells [.int .i64 op] 3 false);generalize H.push (.cells [.int .i64 op] 3 false)=H1 at hx0 hg0 hw0;refine(QjD hT LL hL op op (.func (.func Qcy) #[] [.pointer (some ⟨H.next,0,none⟩)].toArray) (λf=>f.op==op) H1 ⟨Qcy,[.pointer (some ⟨H.next,0,none⟩)],rfl,λx H' hx ha=>Quh x op H.next H' (e:=3) (ro:=false) (by rw[hx.get _ (hw0.lt hg0)];exact hg0) ha⟩ (hT _ _ hw ht hx0)).thenW ?_;rintro u H' hn hw' ⟨hx,ys,h1,h2,h3,h4⟩;simp only[Qb,simprocAttr,Qte];exact .mk (hx0.trans hx).next ⟨hx0.trans hx,ys,h1,h2.mono hx0.next,h3,λy hy=>(h4 y hy).mono hx0.next⟩
end
/-! ### As known calls -/
theorem QCp (LL:FuncId->List Fm) (p:Fm->Bool):Qia LL 1 322 p lis=(Qia LL 1 322 (λ_=>true) lis).filter p:=by
 simp[Qia,lis]
def QvX (tabs:List Tab) (L:List Fm) (H:Qa):Option (Value×Qa):=
 bif QfR tabs H then some (shW (shM (λn=>n) prog.globals.size H.next) 6 (Qz4 prog.globals.size L),Jw (shM (λn=>n) prog.globals.size H.next) (Qbu prog.globals.size L) H) else none
def QxI (tabs:List Tab) (LL:FuncId->List Fm):CallF:=λf args H=>
 bif Nat.beq f XL then(match args with | []=>QvX tabs (Qia LL 1 322 (λ_=>true) lis) H | _=>none)
 else bif Nat.beq f Kd then(match args with | [.int .i64 op]=>QvX tabs (Qia LL op op (λx=>x.op==op) lis) H | _=>none)
 else none
theorem QGE (σ:Nat->Option Nat) (f:Nat) (k:IntKind) (n:Int):mtV σ (f+1) (.int k n) (.int k n)=true:=by simp[mtV,plain,Qhr]
theorem Qrq {tabs:List Tab} (ht:tabsOk tabs=true) (htab:∀t∈tabs,t.id<prog.globals.size) (hwf:(Wv prog.globals.size tabs).Wf) (htt:V0 tabs (Wv prog.globals.size tabs)) {f:FuncId} {args:List Value} {L:List Fm} {H:Qa} {v:Value} {H':Qa} (he:entered prog f=true) (hpl:Qay (mtV (QbB (λn=>n) prog.globals.size) 6) args args=true)
  (hq:∀H,V0 tabs H->Qh prog f args H λu H'=>QiS H H' u L) (hp:QvX tabs L H=some (v,H')):GZ prog f args H v H':=by
 unfold QvX at hp;cases htb:QfR tabs H with
 | false=>rw[htb]at hp;cases hp
 | true=>
  rw[htb]at hp;simp only[Lq,Lt,LB]at hp;obtain⟨rfl,rfl⟩:=hp;exact .inl ⟨he,Qxn ht htab he hpl (λH hn hT=>(hq H hT).mono λu H' ⟨_,ys,h1,h2,_,h4⟩=>⟨ys,h1,h2,h4⟩) hwf htt htb⟩
theorem Qz7 {tabs:List Tab} (ht:tabsOk tabs=true) (htab:∀t∈tabs,t.id<prog.globals.size) (hwf:(Wv prog.globals.size tabs).Wf) (htt:V0 tabs (Wv prog.globals.size tabs)) (LL:FuncId->List Fm) (hL:∀x∈lis,KJ (V0 tabs) x.2.2 (LL x.2.2))
  (e1:entered prog XL=true) (e2:entered prog Kd=true):CallOk prog (QxI tabs LL):=by
 intro f args H v H' h;unfold QxI at h;cases b1:Nat.beq f XL with
 | true=>
  rw[b1,Lq]at h;have:=LA b1;subst this;split at h
  ·exact Qrq ht htab hwf htt e1 rfl (λH hT=>QnB Qeg LL hL H hT) h
  ·cases h
 | false=>
  rw[b1,Ls]at h;cases b2:Nat.beq f Kd with
  | true=>
   rw[b2,Lq]at h;have:=LA b2;subst this;split at h
   ·exact Qrq ht htab hwf htt e2 (by simp only[Qay,QGE,Bj]) (λH hT=>Qrp Qeg LL hL _ H hT) h
   ·cases h
  | false=>
   rw[b2,Ls]at h;cases h
theorem QCq {tabs:List Tab} (ht:tabsOk tabs=true) {kn:CallF} (hk:CallOk prog kn) {f:FuncId} (he:entered prog f=true) {F G k:Nat} (h:Qti ((run prog kn F G k).fn f [] (Wv prog.globals.size tabs))=true) (H:Qa) (hT:V0 tabs H):Qh prog f [] H λu H'=>u=.bool true∧H'=H:=by
 obtain⟨H1,hr⟩:=QuX h;have hd:=((Qsr hk k).fn f [] _ _ H1 hr).does he;refine QrG he (Qzs (args:=[]) (args2:=[]) (τ:=λn=>n) hd rfl (Lb _) (λ_ _=>rfl) (λid b hb=>?_) rfl λj x y hx=>by simp at hx);have hg:=QiM hT id b hb;obtain⟨t,ht1,rfl,rfl⟩:=Y8 hb;refine⟨t.c,t.e,t.c,t.e,true,rfl,hg,rfl,λj x y hx hy=>?_⟩;rw[hx]at hy;cases hy;exact QiN.plain (Li.1 (Li.1 ht t ht1) x (Ln hx))
theorem Qsb (xs ys:List Lf):Q3 (xs++ys)=Q3 xs++Q3 ys:=by simp[Q3]
theorem Qrv {H:Qa}:∀ (xs:List Lf),(∀x∈xs,x.At H)->((Q3 xs).all λv=>v.oneCell')=true
 | [],_=>rfl
 | x::xs,h=>by
  have h1:=YI (h x (Ny ..));have h2:=Qrv xs λy hy=>h y (NA _ hy);simp only[Q3,Ba,Fo,Lm]at h2 ⊢;exact⟨h1,h2⟩
theorem Acc.appL {H0 H1 H:Qa} {v u:Value} {ys xs:List Lf} {K:Value->Qa->Prop} (h:Acc H0 H v ys) (hyn:ys≠[]) (hx:Ext H0 H) (hw:H.Wf) (hu:Acc H1 H u xs) (hxn:xs≠[]) (hl:ys.length<=100000) (hl2:xs.length<=100000) (hne:∀a l c a' l' c',v=.slice (some a) l c->u=.slice (some a') l' c'->a.block≠a'.block)
  (hK:∀v' H',Ext H0 H'->H'.Wf->H.next<=H'.next->Acc H0 H' v' (ys++xs)->(∀a l c,v'=.slice (some a) l c->H.next<=a.block)->QgN H H' v->K v' H'):Qiq Qc 10 112 v u H K:=by
 rcases id h with⟨rfl,rfl⟩ | ⟨b,rfl,hb0,hgb,_,hya⟩
 ·exact absurd rfl hyn
 ·rcases id hu with⟨rfl,rfl⟩ | ⟨b1,rfl,hb1,hgb1,_,hxa⟩
  ·exact absurd rfl hxn
  ·have hlx:xs.length≠0:=λe=>hxn (N2.1 e);have hsrc:Qcu 10 (.slice (some ⟨b1,0,none⟩) xs.length (UNK+10)) H=some (xs.length,Q3 xs):=by
    rw[QdL hgb1 hlx (by rw[W0];omega),Lw,LF (by rw[W0];omega)]
   have hbl:=hw.lt hgb;have hbn:b≠b1:=hne _ _ _ _ _ _ rfl rfl;have hn0:=hx.next;refine Qhv rfl hsrc (Qrv xs hxa) hlx (c:=Q3 ys) hgb (by rw[W0];omega) (by omega) (by omega) (by unfold UNK;omega) ?_;have hk:QgN H ((H.kill b).push (.cells (Q3 ys++Q3 xs) Qc false)) (.slice (some ⟨b,0,none⟩) ys.length (UNK+10)):=λid bl hg hn=>by
    rw[Qi,Le (by have:=hw.lt hg;simp;omega),J4,Le (hn _ _ _ rfl)];exact hg
   refine hK (.slice (some ⟨H.next,0,none⟩) (ys.length+xs.length) (UNK+10)) ((H.kill b).push (.cells (Q3 ys++Q3 xs) Qc false)) ((hx.kill hb0).push _) ((hw.kill _).push _) (by simp)
    (.inr ⟨H.next,by simp,hn0,by rw[Qi,Lc (by simp),Qsb],by simp[hyn],λy hy=>?_⟩) (λa l c e=>by cases e;exact Lb _) hk
   simp only[LI]at hy;rcases hy with hy | hy
   ·exact hk.at h (hya y hy)
   ·exact hk.at h (hxa y hy)
section
variable {T:Qa->Prop} (hT:∀H H',H.Wf->T H->Ext H H'->T H')
include hT
theorem Qlc (H:Qa) (ht:T H) {L1 L2 L3 L4 L5 L6:List Fm} (t1:KJ T G6 L1) (t2:KJ T G7 L2) (t3:KJ T G8 L3) (t4:KJ T G9 L4) (t5:KJ T Va L5) (t6:KJ T Vb L6)
  (n1:L1≠[]) (n2:L2≠[]) (n3:L3≠[]) (n4:L4≠[]) (n5:L5≠[]) (n6:L6≠[]):Qh prog Wt [] H λu H'=>QiS H H' u (L1++(L2++(L3++(L4++(L5++L6))))):=by
 refine QjZ λhw=>?_;simp only[Qdi,Qb,simprocAttr]
 -- one list more
 have step:∀ (f:FuncId) (L:List Fm),KJ T f L->L≠[]->∀ (H1:Qa) (v:Value) (ys:List Lf),H1.Wf->Ext H H1->Acc H H1 v ys->ys≠[]->ys.length<=10000->(∀y∈ys,y.Fr H.next)->
   Qh prog f [] H1 λu H2=>∀K:Value->Qa->Prop,(∀v' H3 zs,H3.Wf->Ext H H3->zs.map (·.f)=ys.map (·.f)++L->zs.length<=ys.length+1000->zs≠[]->Acc H H3 v' zs->(∀z∈zs,z.Fr H.next)->K v' H3)->Qiq Qc 10 112 v u H2 K:=λf L hL hn H1 v ys hw1 hx1 hac hyn hyl hyf=>by
  intro _;obtain⟨u,H2,hc,hn2,hw2,hx2,xs,e1,hu,hxl,hxf⟩:=hL H1 (hT _ _ hw ht hx1) hw1;refine⟨u,H2,hc,hn2,hw2,λK hK=>?_⟩;have hxn:xs≠[]:=λe=>hn (by rw[<- e1,e];rfl);refine(hac.ext hw1 hx2).appL hyn (hx1.trans hx2) hw2 hu hxn (by omega) (by omega) (λa l c a' l' c' hv hu'=>?_) λv' H' y1 y2 y3 y4 y5 y6=>hK v' H' (ys++xs) y2 y1 (by simp[e1]) (by simp;omega) (by simp[hyn]) y4 λz hz=>?_
  ·rcases hac with⟨e,_⟩ | ⟨b,e,_,hg,_⟩
   ·rw[e]at hv;cases hv
   ·rw[e]at hv;cases hv;have:=hw1.lt hg;rcases hu with⟨e,_⟩ | ⟨b',e,hb',_⟩
    ·rw[e]at hu';cases hu'
    ·rw[e]at hu';cases hu';simp only;omega
  ·simp only[LI]at hz;rcases hz with hz | hz
   ·exact hyf z hz
   ·exact(hxf z hz).mono hx1.next
 refine(t1 H ht).thenW ?_;rintro v1 H1 hnx1 hw1 ⟨hx1,ys1,e1,ha1,hl1,hf1⟩;simp only[Qb,simprocAttr];refine(step _ L2 t2 n2 H1 v1 ys1 hw1 hx1 ha1 (λe=>n1 (by rw[<- e1,e];rfl)) (by omega) hf1).mono λu H' happ=>?_;simp only[Qb,simprocAttr];refine happ _ λv2 H2 ys2 hw2 hx2 e2 hl2 hn2 ha2 hf2=>?_;simp only[Qb,simprocAttr];refine(step _ L3 t3 n3 H2 v2 ys2 hw2 hx2 ha2 hn2 (by omega) hf2).mono λu H' happ=>?_;simp only[Qb,simprocAttr];refine happ _ λv3 H3 ys3 hw3 hx3 e3 hl3 hn3 ha3 hf3=>?_;simp only[Qb,simprocAttr];refine(step _ L4 t4 n4 H3 v3 ys3 hw3 hx3 ha3 hn3 (by omega) hf3).mono λu H' happ=>?_;simp only[Qb,simprocAttr];refine happ _ λv4 H4 ys4 hw4 hx4 e4 hl4 hn4 ha4 hf4=>?_;simp only[Qb,simprocAttr];refine(step _ L5 t5 n5 H4 v4 ys4 hw4 hx4 ha4 hn4 (by omega) hf4).mono λu H' happ=>?_;simp only[Qb,simprocAttr];refine happ _ λv5 H5 ys5 hw5 hx5 e5 hl5 hn5 ha5 hf5=>?_;simp only[Qb,simprocAttr];refine(step _ L6 t6 n6 H5 v5 ys5 hw5 hx5 ha5 hn5 (by omega) hf5).mono λu H' happ=>?_;simp only[Qb,simprocAttr];refine happ _ λv6 H6 ys6 hw6 hx6 e6 hl6 hn6 ha6 hf6=>?_;simp only[Qb,simprocAttr,QiY];exact .mk hx6.next ⟨hx6,ys6,by rw[e6,e5,e4,e3,e2,e1];simp,ha6,by omega,hf6⟩
end
end Go.Proofs.YtfofbicfabokbaaGreatDoor.code
