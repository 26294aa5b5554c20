/- Forms in memory, and the kit's parts that look at them. -/
import Derived.Test.YtgepgbbjfhggfaaGreatDoorC0Code
import Derived.Test.YtgepgbbjfhggfaaGreatDoorAbD
import Derived.Laws.BitsLemmas
import Derived.Test.YtgepgbbjfhggfaaGreatDoorAbC
import Derived.Test.YtgepgbbjfhggfaaGreatDoorC9Ref
set_option linter.unusedVariables false
set_option linter.unusedSimpArgs false
set_option maxRecDepth 100000
noncomputable section
namespace Go.Proofs.YtgepgbbjfhggfaaGreatDoor.code
open Go.Ab
def I64 (n:Int):Prop:=-9223372036854775808<=n∧n<=9223372036854775807
theorem w64 {n:Int}(h:I64 n):IntKind.i64.wrap n=n:=by
 rw[NU];unfold I64 at h;omega
def ints (l:List Int):List Value:=l.map (.int .i64 ·)
theorem Zh {l:List Int}{i:Nat}(h:i<l.length):(ints l)[i]? = some (.int .i64 (l.getD i 0)):=by
 simp[ints,La h,List.getD]
theorem Qxc (l:List Int):(ints l).length=l.length:=by simp[ints]
def Qdw (H:Qa)(v:Value)(n:Nat)(cs:List Value):Prop:=∃a cap,v=.slice a n cap∧(0<n->∃b e ro,a=some ⟨b,0,none⟩∧H.get b=some (.cells cs e ro))
theorem Qdw.ext {H H':Qa}{v:Value}{n:Nat}{cs:List Value}(hw:H.Wf)(he:Ext H H')(h:Qdw H v n cs):Qdw H' v n cs:=by
 obtain⟨a,cap,rfl,h1⟩:=h;refine⟨a,cap,rfl,λhn=>?_⟩;obtain⟨b,e,ro,rfl,hb⟩:=h1 hn;exact⟨b,e,ro,rfl,by rw[he.get b (hw.lt hb)];exact hb⟩
theorem Qu {H:Qa}{v:Value}{n:Nat}{cs:List Value}(h:Qdw H v n cs):∃a cap,v=.slice a n cap:=by
 obtain⟨a,cap,rfl,_⟩:=h;exact⟨a,cap,rfl⟩
structure Fm where
 op:Int
 pre:Int
 map:Int
 code:Int
 digit:Int
 w:Int
 l:Int
 vex:Bool
 shapes:List Int
 slots:List Int
 deriving DecidableEq
structure Lf where
 f:Fm
 sv:Value
 tv:Value
def Lf.cells (x:Lf):List Value:=[.int .i64 x.f.op,x.sv,x.tv,.int .i64 x.f.pre,.int .i64 x.f.map,.int .i64 x.f.code,.int .i64 x.f.digit,.int .i64 x.f.w,.bool x.f.vex,.int .i64 x.f.l]
def Lf.At (H:Qa)(x:Lf):Prop:=x.f.shapes.length<=1000∧x.f.slots.length<=1000∧Qdw H x.sv x.f.shapes.length (ints x.f.shapes)∧Qdw H x.tv x.f.slots.length (ints x.f.slots)
theorem Lf.At.ext {H H':Qa}{x:Lf}(hw:H.Wf)(he:Ext H H')(h:x.At H):x.At H':=⟨h.1,h.2.1,h.2.2.1.ext hw he,h.2.2.2.ext hw he⟩
def Ws (xs:List Lf):List Value:=xs.flatMap Lf.cells
theorem QI (x:Lf):x.cells.length=10:=rfl
theorem Xc:∀xs:List Lf,(Ws xs).length=xs.length * 10
 | []=>rfl
 | x::xs=>by
  have:=Xc xs;simp only[Ws,Ba,Lh,QI,Lo]at this ⊢;omega
theorem Qaa:∀ (l:List Lf) (i:Nat) (p:Lf),l[i]? = some p->((Ws l).drop (i * 10)).take 10=p.cells
 | [],i,p,h=>by simp at h
 | q::l,0,p,h=>by
  simp at h;subst h;have:(Ws (q::l))=q.cells++Ws l:=by simp[Ws]
  rw[this,BH,Lw,NO (by rw[QI];exact Lb 10),LF (by rw[QI];exact Lb 10)]
 | q::l,i+1,p,h=>by
  have e:(Ws (q::l))=q.cells++Ws l:=by simp[Ws]
  rw[e,show(i+1) * 10=q.cells.length+i * 10 by rw[QI];omega,B3,NK (by omega),LH,NL];exact Qaa l i p (by simpa using h)
theorem Qxe (l:List Lf)(i j:Nat)(p:Lf)(h:l[i]? = some p)(hj:j<10):(Ws l)[i * 10+j]? = p.cells[j]? := by
 rw[<- Qaa l i p h,Nl,Lc hj,Nk]
theorem lg0 (p:Lf):p.cells[0]? = some (.int .i64 p.f.op):=Nu rfl rfl
theorem Wq (p:Lf):List.take 10 p.cells=p.cells:=Nu rfl rfl
theorem Qxf (xs:List Lf)(x:Lf):Ws (xs++[x])=Ws xs++x.cells:=by simp[Ws]
def QiJ (H:Qa)(v:Value)(xs:List Lf):Prop:=Qdw H v xs.length (Ws xs)∧∀x∈xs,x.At H
theorem QiJ.ext {H H':Qa}{v:Value}{xs:List Lf}(hw:H.Wf)(he:Ext H H')(h:QiJ H v xs):QiJ H' v xs:=⟨h.1.ext hw he,λx hx=>(h.2 x hx).ext hw he⟩
theorem Qxg {H:Qa}{v:Value}{n:Nat}{cs:List Value}(h:Qdw H v n cs):v.oneCell'=true:=by
 obtain⟨a,cap,rfl,_⟩:=h;rfl
theorem Qeu {H:Qa}{x:Lf}(h:x.At H):(x.cells.all λv=>v.oneCell')=true:=by
 simp only[Lf.cells,Bv,BI,Qxg h.2.2.1,Qxg h.2.2.2,Be];rfl
def QdK:List Int->Int->Nat->Int
 | [],_,_=>-1
 | y::l,x,k=>if x=y then(k:Int) else QdK l x (k+1)
def Qn (l:List Int)(x:Int):Int:=QdK l x 0
theorem Qkc (x:Int):∀ (l:List Int) (k i:Nat),(∀j,j<i->¬x=l.getD j 0)->i<l.length->x=l.getD i 0->QdK l x k=((k+i:Nat):Int)
 | [],k,i,_,hl,_=>by simp at hl
 | y::l,k,0,_,_,h=>by
  have h:x=y:=by simpa using h
  simp[QdK,h]
 | y::l,k,i+1,hn,hl,h=>by
  have h0:¬x=y:=by have:=hn 0 (by omega);simpa using this
  rw[QdK,Le h0,Qkc x l (k+1) i (λj hj=>by have:=hn (j+1) (by omega);simpa using this) (by simpa using hl) (by simpa using h)];congr 1;omega
theorem Qkd (x:Int):∀ (l:List Int) (k:Nat),(∀j,j<l.length->¬x=l.getD j 0)->QdK l x k=-1
 | [],k,_=>rfl
 | y::l,k,hn=>by
  have h0:¬x=y:=by have:=hn 0 (by simp);simpa using this
  rw[QdK,Le h0];exact Qkd x l (k+1) (λj hj=>by have:=hn (j+1) (by simpa using hj);simpa using this)
theorem Qsi (va:Value)(xs:List Int)(x:Int)(H:Qa)(ha:Qdw H va xs.length (ints xs))(hl:xs.length<=1000):Qe prog 75 [va,.int .i64 x] H λu H'=>u=.int .i64 (Qn xs x)∧H'=H:=by
 refine V5 λhw=>?_;obtain⟨aa,acap,rfl,hsa⟩:=ha;simp only[Jj,Qb,simprocAttr];refine Qo (λm A' H'=>∃i:Nat,i<=xs.length∧m=xs.length - i∧H'=H∧(∀j,j<i->¬x=xs.getD j 0)∧A' 0=.slice aa xs.length acap∧A' 1=.int .i64 x∧A' 7=.int .i64 (xs.length:Int)∧A' 8=.int .i64 i) xs.length ?_ ?_
 ·refine⟨0,L7 _,by omega,rfl,λj h=>by omega,?_,?_,?_,?_⟩
  all_goals simp only[uxA,uxB,Nat.reduceBEq]
  rfl
 ·rintro m A' H' ⟨i,hi,rfl,hEq,hall,r0,r1,r7,r8⟩;subst hEq;simp only[Qb,simprocAttr,r7,r8];refine Qf (λh2=>?_) (λh2=>?_)
  ·have h2:i<xs.length:=by have:=Lg h2;omega
   obtain⟨b1,e1,ro1,rfl,hb1⟩:=hsa (by omega);have c1:(0:Int)<=i∧(i:Int)<xs.length:=by omega
   have c3:(i:Int).toNat=i:=by omega
   have ei:IntKind.i64.wrap ((i:Int)+1)=((i+1:Nat):Int):=by rw[w64 (by unfold I64;omega)];omega
   have g1:=Zh (l:=xs) (i:=i) (by omega);simp only[Qb,simprocAttr,r0,r1,r8,c1,c3,hb1,g1];refine Qf (λh3=>?_) (λh3=>?_)
   ·have h3:x=xs.getD i 0:=by simpa using h3
    simp only[Qb,simprocAttr,r8,Yp];exact .mk (Lb _) ⟨by rw[Qn,Qkc x xs 0 i hall h2 h3,LP],rfl⟩
   ·have h3:¬x=xs.getD i 0:=by simpa using h3
    simp only[Qb,simprocAttr,r8,ei];refine⟨xs.length - (i+1),by omega,i+1,by omega,rfl,rfl,λj hj=>?_,?_,?_,?_,?_⟩
    ·rcases Nq j i with h | h
     ·exact hall j h
     ·rw[show j=i by omega];exact h3
    all_goals simp only[Qg,simprocAttr,r0,r1,r7]
  ·have h2:i=xs.length:=by have:=Ll h2;omega
   subst h2;simp only[Qb,simprocAttr,Yp];exact .mk (Lb _) ⟨by rw[Qn,Qkd x xs 0 hall],rfl⟩
theorem Wt (x:Lf)(k:Int)(H:Qa)(hx:x.At H):Qe prog 248 [.agg x.cells.toArray,.int .i64 k] H λu H'=>u=.int .i64 (Qn x.f.slots k)∧∃m,H'=H.up m:=by
 refine Qts λhw=>?_;obtain⟨l1,l2,h1,h2⟩:=hx;obtain⟨a2,c2,e2,_⟩:=id h2;simp only[Lf.cells,Ql1,e2,Qb,simprocAttr];rw[<- e2];refine(Qsi _ x.f.slots k _ (h2.ext hw ((Ext.refl H).push _)) l2).mono ?_;rintro _ _ ⟨rfl,rfl⟩;simp only[Qb,simprocAttr,Qsb];exact .ext hw ((Ext.refl H).push _) ⟨rfl,_,rfl⟩
theorem QAJ {H:Qa}{l:List Int}{y:Lf}{ys:List Lf}(hy:y.At H)(h:ints l=Ws (y::ys)):False:=by
 have h1:(ints l)[1]? = some y.sv:=by rw[h];simp[Ws,Lf.cells]
 obtain⟨a,c,e,_⟩:=hy.2.2.1;rw[e]at h1;unfold ints at h1;rw[LD]at h1;cases hl:l[1]? with
 | none=>rw[hl]at h1;cases h1
 | some z=>rw[hl]at h1;cases h1
def Acc (H0 H:Qa)(v:Value)(ys:List Lf):Prop:=(v=.slice none 0 0∧ys=[])∨(∃b,v=.slice (some ⟨b,0,none⟩) ys.length (UNK+10)∧H0.next<=b∧H.get b=some (.cells (Ws ys) 45 false)∧ys≠[]∧∀y∈ys,y.At H)
theorem Acc.ext {H0 H H':Qa}{v:Value}{ys:List Lf}(hw:H.Wf)(hx:Ext H H')(h:Acc H0 H v ys):Acc H0 H' v ys:=by
 rcases h with h | ⟨b,h1,h2,h3,h4,h5⟩
 ·exact .inl h
 ·exact .inr ⟨b,h1,h2,by rw[hx.get _ (hw.lt h3)];exact h3,h4,λy hy=>(h5 y hy).ext hw hx⟩
theorem Acc.fms {H0 H:Qa}{v:Value}{ys:List Lf}(h:Acc H0 H v ys):QiJ H v ys:=by
 rcases h with⟨rfl,rfl⟩ | ⟨b,rfl,h2,h3,h4,h5⟩
 ·exact⟨⟨none,0,rfl,λh=>by simp at h⟩,λx hx=>by cases hx⟩
 ·exact⟨⟨_,_,rfl,λ_=>⟨b,_,_,rfl,h3⟩⟩,h5⟩
theorem Qdw.kill {H:Qa}{v:Value}{l:List Int}{b:Nat}{y:Lf}{ys:List Lf}{e:TypeId}{ro:Bool}(hb:H.get b=some (.cells (Ws (y::ys)) e ro))(hy:y.At H)(h:Qdw H v l.length (ints l)):Qdw (H.kill b) v l.length (ints l):=by
 obtain⟨a,cap,rfl,h1⟩:=h;refine⟨a,cap,rfl,λhn=>?_⟩;obtain⟨b1,e1,ro1,rfl,hb1⟩:=h1 hn;refine⟨b1,e1,ro1,rfl,?_⟩;have:b1≠b:=λe=>by
  subst e;rw[hb]at hb1;simp only[Lt,Blk.cells.injEq]at hb1;exact QAJ hy hb1.1.symm
 rw[WS,Le this];exact hb1
theorem Lf.At.kill {H:Qa}{x:Lf}{b:Nat}{ys:List Lf}{e:TypeId}{ro:Bool}(hb:H.get b=some (.cells (Ws ys) e ro))(hn:ys≠[])(hy:∀y∈ys,y.At H)(h:x.At H):x.At (H.kill b):=by
 cases ys with
 | nil=>exact absurd rfl hn
 | cons y ys=>exact⟨h.1,h.2.1,h.2.2.1.kill hb (hy y (Ny ..)),h.2.2.2.kill hb (hy y (Ny ..))⟩
def QIz (H:Qa)(g:Value)(p:Fm->Bool):Prop:=∃ (f:FuncId) (ys:List Value),g=.func (.func f) #[] ys.toArray∧∀ (x:Lf) H',Ext H H'->x.At H'->Qe prog f ([.agg x.cells.toArray]++ys) H' λu H''=>u=.bool (p x.f)∧∃m,H''=H'.up m
def Qxv (n cap:Nat):Prop:=cap=UNK+1∨(n<=cap∧cap<UNK)
def SlF (M:Nat)(v:Value)(l:List Int):Prop:=(l=[]∧v=.slice none 0 0)∨(l≠[]∧∃b cap,v=.slice (some ⟨b,0,none⟩) l.length cap∧M<=b∧Qxv l.length cap)
theorem SlF.mono {M M':Nat}{v:Value}{l:List Int}(hm:M'<=M)(h:SlF M v l):SlF M' v l:=by
 rcases h with h | ⟨h,b,cap,h1,h2,h3⟩
 ·exact .inl h
 ·exact .inr ⟨h,b,cap,h1,by omega,h3⟩
def Lf.Fr (M:Nat)(x:Lf):Prop:=SlF M x.sv x.f.shapes∧SlF M x.tv x.f.slots
theorem Lf.Fr.mono {M M':Nat}{x:Lf}(hm:M'<=M)(h:x.Fr M):x.Fr M':=⟨h.1.mono hm,h.2.mono hm⟩
def J8 (T:Qa->Prop)(f:FuncId)(L:List Fm):Prop:=∀H,T H->Qe prog f [] H λu H'=>Ext H H'∧∃xs:List Lf,xs.map (·.f)=L∧Acc H H' u xs∧xs.length<=1000∧∀x∈xs,x.Fr H.next
theorem Acc.mono {H0 H1 H:Qa}{v:Value}{ys:List Lf}(hn:H0.next<=H1.next)(h:Acc H1 H v ys):Acc H0 H v ys:=by
 rcases h with h | ⟨b,h1,h2,h3⟩
 ·exact .inl h
 ·exact .inr ⟨b,h1,by omega,h3⟩
def Qhq (H H':Qa)(v:Value):Prop:=∀id bl,H.get id=some bl->(∀a l c,v=.slice (some a) l c->id≠a.block)->H'.get id=some bl
theorem Qhq.ints {H0 H H':Qa}{v s:Value}{ys:List Lf}{l:List Int}(hk:Qhq H H' v)(ha:Acc H0 H v ys)(h:Qdw H s l.length (ints l)):Qdw H' s l.length (ints l):=by
 obtain⟨a,cap,rfl,h1⟩:=h;refine⟨a,cap,rfl,λhn=>?_⟩;obtain⟨b1,e1,ro1,rfl,hb1⟩:=h1 hn;refine⟨b1,e1,ro1,rfl,hk _ _ hb1 λa l c hv e=>?_⟩;rcases ha with⟨rfl,_⟩ | ⟨b,rfl,h2,h3,h4,h5⟩
 ·cases hv
 ·cases hv;subst e;cases ys with
  | nil=>exact h4 rfl
  | cons y ys=>
   rw[h3]at hb1;simp only[Lt,Blk.cells.injEq]at hb1;exact QAJ (h5 y (Ny ..)) hb1.1.symm
theorem Qhq.at {H0 H H':Qa}{v:Value}{ys:List Lf}{x:Lf}(hk:Qhq H H' v)(ha:Acc H0 H v ys)(h:x.At H):x.At H':=⟨h.1,h.2.1,hk.ints ha h.2.2.1,hk.ints ha h.2.2.2⟩
theorem Qhq.fms {H0 H H':Qa}{v u:Value}{ys xs:List Lf}(hk:Qhq H H' v)(ha:Acc H0 H v ys)(h:QiJ H u xs)(hne:∀a l c a' l' c',u=.slice (some a) l c->v=.slice (some a') l' c'->a.block≠a'.block):QiJ H' u xs:=by
 obtain⟨⟨a,cap,rfl,h1⟩,h2⟩:=h;refine⟨⟨a,cap,rfl,λhl=>?_⟩,λx hx=>hk.at ha (h2 x hx)⟩;obtain⟨b1,e1,ro1,rfl,hb1⟩:=h1 hl;exact⟨b1,e1,ro1,rfl,hk _ _ hb1 λa l c hv=>hne _ _ _ _ _ _ rfl hv⟩
theorem Qhq.next {H H':Qa}{v:Value}(_:Qhq H H' v):True:=trivial
theorem Acc.app {H0 H:Qa}{v:Value}{ys:List Lf}{x:Lf}{b1:Nat}{K:Value->Qa->Prop}(h:Acc H0 H v ys)(hx:Ext H0 H)(hw:H.Wf)(hxa:x.At H)(hl:ys.length<=100000)(hb1:H.get b1=some (.cells x.cells 45 false))(hne:∀a l c,v=.slice (some a) l c->a.block≠b1)
  (hK:∀v' H',Ext H0 H'->H'.Wf->H.next<=H'.next->Acc H0 H' v' (ys++[x])->(∀a l c,v'=.slice (some a) l c->H.next<=a.block)->Qhq H H' v->K v' H'):Qdr 45 10 112 v (.slice (some ⟨b1,0,none⟩) 1 1) H K:=by
 have hsrc:J4 10 (.slice (some ⟨b1,0,none⟩) 1 1) H=some (1,x.cells):=by
  have:=JI (size:=10) (m:=1) (b:=b1) (o:=0) (cap:=1) (c:=x.cells) (e:=45) (ro:=false) (H:=H) hb1 (by decide) (by rw[QI];decide);rw[this];rfl
 have a1:=Qeu hxa;have hn0:=hx.next;rcases id h with⟨rfl,rfl⟩ | ⟨b,rfl,hb0,hgb,hyn,hya⟩
 ·refine QnT hsrc a1 (by decide) (by decide) (by decide) ?_;have hk:Qhq H (H.push (.cells x.cells 45 false)) (.slice none 0 0):=λid bl hg _=>by
   rw[Qd,Le (by have:=hw.lt hg;omega)];exact hg
  refine hK _ _ (hx.push _) (hw.push _) (by simp) (.inr ⟨H.next,rfl,hn0,by rw[Qd,Lc rfl];simp[Ws],by simp,λy hy=>?_⟩) (λa l c e=>by cases e;exact Lb _) hk;simp only[LH,Sa]at hy;subst hy;exact hk.at h hxa
 ·have hbl:=hw.lt hgb;have hbn:b≠b1:=hne _ _ _ rfl;refine QnS rfl hsrc a1 (by decide) (c:=Ws ys) hgb (by rw[Xc];omega) (by omega) (by omega) (by unfold UNK;omega) ?_;have hk:Qhq H ((H.kill b).push (.cells (Ws ys++x.cells) 45 false)) (.slice (some ⟨b,0,none⟩) ys.length (UNK+10)):=λid bl hg hn=>by
   rw[Qd,Le (by have:=hw.lt hg;simp;omega),WS,Le (hn _ _ _ rfl)];exact hg
  have:=hK (.slice (some ⟨H.next,0,none⟩) (ys.length+1) (UNK+10)) ((H.kill b).push (.cells (Ws ys++x.cells) 45 false)) ((hx.kill hb0).push _) ((hw.kill _).push _) (by simp)
   (.inr ⟨H.next,by simp,hn0,by rw[Qd,Lc (by simp),Qxf],by simp,λy hy=>?_⟩) (λa l c e=>by cases e;exact Lb _) hk
  ·exact this
  ·simp only[LI,Sa]at hy;rcases hy with hy | rfl
   ·exact hk.at h (hya y hy)
   ·exact hk.at h hxa
theorem QqK (f:Fn)(xs ys:Array Value):(Value.func f xs ys).cells.toList=[.func f xs ys]:=Nu rfl rfl
theorem QoO (f:Fn)(xs ys:Array Value):(Value.func f xs ys).oneCell'=true:=Nu rfl rfl
theorem QuA (f:FuncId)(l:List Value)(H:Qa)(k:Value->Qa->Prop):cvK (.func (.func f) #[] #[]) prog l H k=Qe prog f l H k:=by
 show Qe prog f (([]:List Value)++l++[]) H k=_;rw[LH,Na]
theorem QAK (f:FuncId)(ys l:List Value)(H:Qa)(k:Value->Qa->Prop):cvK (.func (.func f) #[] ys.toArray) prog l H k=Qe prog f (l++ys) H k:=by
 show Qe prog f (([]:List Value)++l++ys) H k=_;rw[LH]
def Qnf (H H':Qa)(u:Value)(L:List Fm):Prop:=Ext H H'∧∃ys:List Lf,ys.map (·.f)=L∧Acc H H' u ys∧ys.length<=6000∧∀y∈ys,y.Fr H.next
def lis:List (Int×Int×FuncId):=[(1,16,97),(16,47,98),(48,115,99),(116,135,100),(136,262,101),(263,322,102)]
def liC (x:Int×Int×FuncId):List Value:=[.int .i64 x.1,.int .i64 x.2.1,.func (.func x.2.2) #[] #[]]
theorem Qt5 (H:Qa):Qe prog 61 [] H λu H'=>u=.slice (some ⟨H.next,0,none⟩) 6 6∧H'=H.push (.cells (lis.flatMap liC) 88 false):=by
 refine Qsa λhw=>?_;simp only[Qj5,sxA,sxB,Nat.reduceBEq,Nat.reduceEqDiff,reduceCtorEq,mxA,mxB,Nat.reduceAdd,reduceIte,Nat.reduceLeDiff,splice,QqK,QoO,QqX,Nat.reduceMul,Nat.reduceLeDiff,N3];exact .mk (by simp) ⟨rfl,rfl⟩
theorem QD5:∀ (l:List (Int×Int×FuncId)) (i:Nat) (p:Int×Int×FuncId),l[i]? = some p->((l.flatMap liC).drop (i * 3)).take 3=liC p
 | [],i,p,h=>by simp at h
 | q::l,0,p,h=>by
  simp at h;subst h;simp[liC]
 | q::l,i+1,p,h=>by
  have e:((q::l).flatMap liC)=liC q++l.flatMap liC:=by simp
  have n:(liC q).length=3:=rfl;rw[e,show(i+1) * 3=(liC q).length+i * 3 by rw[n];omega,B3,NK (by omega),LH,NL];exact QD5 l i p (by simpa using h)
def Qs9 (LL:FuncId->List Fm)(fr to:Int)(p:Fm->Bool)(l:List (Int×Int×FuncId)):List Fm:=l.flatMap λx=>bif decide (to<x.1)||decide (fr>x.2.1) then[] else(LL x.2.2).filter p
theorem Qrg {T:Qa->Prop}(hT:∀H H',H.Wf->T H->Ext H H'->T H')(LL:FuncId->List Fm)(hL:∀x∈lis,J8 T x.2.2 (LL x.2.2))(fr to:Int)(g:Value)(p:Fm->Bool)(H:Qa)(hg:QIz H g p)(ht:T H):
  Qe prog 36 [.int .i64 fr,.int .i64 to,g] H λu H'=>Ext H H'∧∃ys:List Lf,ys.map (·.f)=Qs9 LL fr to p lis∧Acc H H' u ys∧ys.length<=6000∧∀y∈ys,y.Fr H.next:=by
 refine Qpr λhw=>?_;obtain⟨gf,gys,rfl,hg⟩:=hg;simp only[QgC,sxA,sxB,Nat.reduceBEq,Nat.reduceEqDiff,reduceCtorEq,mxA,mxB,Nat.reduceAdd,reduceIte,Nat.reduceLeDiff,splice];refine(Qt5 H).thenW ?_;rintro _ _ hn0 hw0 ⟨rfl,rfl⟩;simp only[sxA,sxB,Nat.reduceBEq,Nat.reduceEqDiff,reduceCtorEq,mxA,mxB,Nat.reduceAdd,reduceIte,Nat.reduceLeDiff,splice];have hbl0:(H.push (.cells (lis.flatMap liC) 88 false)).get H.next=some (.cells (lis.flatMap liC) 88 false):=by rw[Qd,Lc rfl]
 have hxp0:Ext H (H.push (.cells (lis.flatMap liC) 88 false)):=(Ext.refl H).push _;have hnp0:(H.push (.cells (lis.flatMap liC) 88 false)).next=H.next+1:=rfl;generalize H.push (.cells (lis.flatMap liC) 88 false)=Hp at hw0 hbl0 hxp0 hnp0;have htp:=hT _ _ hw ht hxp0;refine Qo (λm A' H'=>∃ (i:Nat) (ys:List Lf),i<=6∧m=6 - i∧H'.Wf∧Ext Hp H'∧ys.map (·.f)=Qs9 LL fr to p (lis.take i)∧ys.length<=i * 1000∧Acc Hp H' (A' 7) ys∧(∀y∈ys,y.Fr H.next)∧
  A' 0=.int .i64 fr∧A' 1=.int .i64 to∧A' 2=.func (.func gf) #[] gys.toArray∧A' 12=.slice (some ⟨H.next,0,none⟩) 6 6∧A' 13=.int .i64 6∧A' 14=.int .i64 i) 6 ?_ ?_
 ·refine⟨0,[],L7 _,rfl,hw0,.refl _,rfl,L7 _,?_,λy hy=>(by cases hy),?_,?_,?_,?_,?_,?_⟩
  all_goals simp only[uxA,uxB,Nat.reduceBEq]
  ·exact .inl ⟨rfl,rfl⟩
  all_goals rfl
 ·rintro m A' H' ⟨i,ys,hi,rfl,hw1,hx1,hys,hyl,hacc,hyf,r0,r1,r2,r12,r13,r14⟩;have ht1:=hT _ _ hw0 htp hx1;have hbl:H'.get H.next=some (.cells (lis.flatMap liC) 88 false):=by rw[hx1.get _ (hw0.lt hbl0)];exact hbl0
  simp only[sxA,sxB,Nat.reduceBEq,Nat.reduceEqDiff,reduceCtorEq,mxA,mxB,Nat.reduceAdd,reduceIte,Nat.reduceLeDiff,splice,r13,r14];refine Qf (λh2=>?_) (λh2=>?_)
  ·have h2:i<6:=by have:=Lg h2;omega
   have hp:lis[i]? = some (lis[i]'h2):=La h2;generalize hpe:lis[i]'h2=x at hp;have hxm:x∈lis:=Ln hp;have c1:(0:Int)<=i∧(i:Int)<((6:Nat):Int):=by omega
   have c3:(i:Int).toNat=i:=by omega
   have c4:i * 3+3<=18:=by omega
   have n1:(lis.flatMap liC).length=18:=rfl;obtain⟨xa,xb,xf⟩:=x;have d1:List.take 3 (List.drop (i * 3) (lis.flatMap liC))=[.int .i64 xa,.int .i64 xb,.func (.func xf) #[] #[]]:=QD5 lis i _ hp;have ei:IntKind.i64.wrap ((i:Int)+1)=((i+1:Nat):Int):=by rw[w64 (by unfold I64;omega)];omega
   simp only[sxA,sxB,Nat.reduceBEq,Nat.reduceEqDiff,reduceCtorEq,mxA,mxB,Nat.reduceAdd,reduceIte,Nat.reduceLeDiff,splice,QqK,QoO,r0,r1,r12,r14,c1,c3,c4,hbl,n1,d1];have htk:lis.take (i+1)=lis.take i++[(xa,xb,xf)]:=by rw[Nv,hp];rfl
   obtain⟨q1,e1⟩:∃c,decide (to<xa)=c:=⟨_,rfl⟩;obtain⟨q2,e2⟩:∃c,decide (fr>xb)=c:=⟨_,rfl⟩;obtain⟨Hn,hHn⟩:∃h,h=(H'.push (.cells [.int .i64 0,.int .i64 0,.nilFunc] 88 false)).set H'.next (.cells [.int .i64 xa,.int .i64 xb,.func (.func xf) #[] #[]] 88 false):=⟨_,rfl⟩;have hwn:Hn.Wf:=by rw[hHn];exact(hw1.push _).set (by rw[Qd,Lc rfl]) _
   have hxp:Ext H' Hn:=by rw[hHn];exact((Ext.refl H').push _).set (Lb _) _
   have hgn:Hn.get H'.next=some (.cells [.int .i64 xa,.int .i64 xb,.func (.func xf) #[] #[]] 88 false):=by rw[hHn,Qq,Lc rfl]
   have hnn:Hn.next=H'.next+1:=by rw[hHn];rfl
   simp only[<- hHn];have hskip:(q1||q2)=true->ys.map (·.f)=Qs9 LL fr to p (lis.take (i+1)):=λh=>by
    rw[htk,Qs9,Bm,<- Qs9,<- hys];simp[e1,e2,h]
   have hadd:(q1||q2)=false->ys.map (·.f)++(LL xf).filter p=Qs9 LL fr to p (lis.take (i+1)):=λh=>by
    rw[htk,Qs9,Bm,<- Qs9,<- hys];simp[e1,e2,h]
   cases q1<;>simp only[sxA,sxB,Nat.reduceBEq,Nat.reduceEqDiff,reduceCtorEq,mxA,mxB,Nat.reduceAdd,reduceIte,Nat.reduceLeDiff,splice,r0,r1,r14,e1,e2,ei,hgn]
   ·cases q2<;>simp only[sxA,sxB,Nat.reduceBEq,Nat.reduceEqDiff,reduceCtorEq,mxA,mxB,Nat.reduceAdd,reduceIte,Nat.reduceLeDiff,splice,r0,r1,r14,ei,hgn,QuA]
    ·refine(hL _ hxm Hn (hT _ _ hw1 ht1 hxp)).thenW ?_;rintro u H2 hn2 hw2 ⟨hx2,xs,hxs,hacx,hxl,hxfr⟩;have hfm:=hacx.fms;have hfr:∀a l c,u=.slice (some a) l c->Hn.next<=a.block:=λa l c e=>by
      rcases hacx with⟨rfl,_⟩ | ⟨b,rfl,hb,_⟩
      ·cases e
      ·cases e;exact hb
     obtain⟨aa,cap,rfl,hsl⟩:=id hfm.1;simp only[sxA,sxB,Nat.reduceBEq,Nat.reduceEqDiff,reduceCtorEq,mxA,mxB,Nat.reduceAdd,reduceIte,Nat.reduceLeDiff,splice];have ha2:=(hacc.ext hw1 hxp).ext hwn hx2;have hx02:Ext Hp H2:=(hx1.trans hxp).trans hx2;have hge:H.next<=Hn.next:=by have:=hx1.next;have:=hxp.next;omega
     refine Qo (λm A2 H3=>∃ (k:Nat) (zs:List Lf),k<=xs.length∧m=xs.length - k∧H3.Wf∧Ext Hp H3∧zs.map (·.f)=ys.map (·.f)++((xs.take k).map (·.f)).filter p∧zs.length<=ys.length+k∧Acc Hp H3 (A2 7) zs∧QiJ H3 (.slice aa xs.length cap) xs∧(∀z∈zs,z.Fr H.next)∧
      (∀a l c b,A2 7=.slice (some a) l c->aa=some b->b.block≠a.block)∧
      A2 0=.int .i64 fr∧A2 1=.int .i64 to∧A2 2=.func (.func gf) #[] gys.toArray∧A2 12=.slice (some ⟨H.next,0,none⟩) 6 6∧A2 13=.int .i64 6∧A2 14=.int .i64 i∧A2 30=.slice aa xs.length cap∧A2 31=.int .i64 xs.length∧A2 32=.int .i64 k) xs.length ?_ ?_
     ·refine⟨0,ys,L7 _,rfl,hw2,hx02,by simp,by omega,?_,hfm,hyf,?_,?_,?_,?_,?_,?_,?_,?_,?_,?_⟩
      all_goals simp only[uxA,uxB,Nat.reduceBEq,r0,r1,r2,r12,r13,r14]
      ·exact ha2
      ·intro a l c b hv hb;subst hb;have h1:=hfr _ _ _ rfl;rcases hacc with⟨h,_⟩ | ⟨b2,h,_,h3,_⟩
       ·rw[h]at hv;cases hv
       ·rw[h]at hv;cases hv;have:=hw1.lt h3;simp only;omega
      all_goals rfl
     ·rintro m A2 H3 ⟨k,zs,hk,rfl,hw3,hx3,hzs,hzl,hac3,hfm3,hzf,hne3,s0,s1,s2,s12,s13,s14,s30,s31,s32⟩;simp only[sxA,sxB,Nat.reduceBEq,Nat.reduceEqDiff,reduceCtorEq,mxA,mxB,Nat.reduceAdd,reduceIte,Nat.reduceLeDiff,splice,s31,s32];refine Qf (λh3=>?_) (λh3=>?_)
      ·have h3:k<xs.length:=by have:=Lg h3;omega
       obtain⟨⟨a4,cap4,e4,hsl3⟩,hxa3⟩:=id hfm3;cases e4;obtain⟨b1,e1',ro1,rfl,hb1⟩:=hsl3 (by omega);have d1:(0:Int)<=k∧(k:Int)<xs.length:=by omega
       have d3:(k:Int).toNat=k:=by omega
       have d4:k * 10+10<=xs.length * 10:=by omega
       have ek:IntKind.i64.wrap ((k:Int)+1)=((k+1:Nat):Int):=by rw[w64 (by unfold I64;omega)];omega
       have hpk:=La h3;have dd:=Qaa xs k _ hpk;have nn:=Xc xs;have hym:xs[k]∈xs:=Nb h3;have wk:=hxa3 _ hym;have wf:(xs[k]).Fr H.next:=(hxfr _ hym).mono hge;have hxtk:xs.take (k+1)=xs.take k++[xs[k]]:=NM h3;generalize xs[k]=x at hpk dd hym wk wf hxtk;have ak:=Qeu wk;simp only[sxA,sxB,Nat.reduceBEq,Nat.reduceEqDiff,reduceCtorEq,mxA,mxB,Nat.reduceAdd,reduceIte,Nat.reduceLeDiff,splice,s0,s1,s2,s30,s32,d1,d3,d4,hb1,nn,dd,QI,Wq,ak];obtain⟨G1,hG1⟩:∃h,h=(H3.push (.cells [.int .i64 0,.slice none 0 0,.slice none 0 0,.int .i64 0,.int .i64 0,.int .i64 0,.int .i64 0,.int .i64 0,.bool false,.int .i64 0] 45 false)).set H3.next (.cells x.cells 45 false):=⟨_,rfl⟩;have hwG1:G1.Wf:=by rw[hG1];exact(hw3.push _).set (by rw[Qd,Lc rfl]) _
       have hxG1:Ext H3 G1:=by rw[hG1];exact((Ext.refl H3).push _).set (Lb _) _
       have hgG1:G1.get H3.next=some (.cells x.cells 45 false):=by rw[hG1,Qq,Lc rfl]
       have hnG1:G1.next=H3.next+1:=by rw[hG1];rfl
       simp only[<- hG1,QAK];have hxH3:Ext H H3:=hxp0.trans hx3;refine(hg x G1 (hxH3.trans hxG1) (wk.ext hw3 hxG1)).thenW ?_;rintro _ G2 hn4 hw4 ⟨rfl,m4,rfl⟩;simp only[Ql]at hn4;have hxG2:Ext H3 (G1.up m4):=hxG1.up hn4;have hgG2:(G1.up m4).get H3.next=some (.cells x.cells 45 false):=by rw[Y0];exact hgG1
       have hnG2:H3.next+1<=(G1.up m4).next:=by simp only[Ql];omega
       generalize G1.up m4=G2 at hw4 hxG2 hgG2 hnG2;have hfil:((xs.take (k+1)).map (·.f)).filter p=((xs.take k).map (·.f)).filter p++bif p x.f then[x.f] else[]:=by
        rw[hxtk,N6,Re];cases hpx:p x.f<;>simp[hpx]
       simp only[sxA,sxB,Nat.reduceBEq,Nat.reduceEqDiff,reduceCtorEq,mxA,mxB,Nat.reduceAdd,reduceIte,Nat.reduceLeDiff,splice];cases hpx:p x.f
       ·rw[hpx]at hfil;simp only[sxA,sxB,Nat.reduceBEq,Nat.reduceEqDiff,reduceCtorEq,mxA,mxB,Nat.reduceAdd,reduceIte,Nat.reduceLeDiff,splice,s32,ek];refine⟨xs.length - (k+1),by omega,k+1,zs,by omega,rfl,hw4,hx3.trans hxG2,by rw[hfil,hzs];simp,by omega,?_,hfm3.ext hw3 hxG2,hzf,?_,?_,?_,?_,?_,?_,?_,?_,?_,?_⟩
        all_goals simp only[uxA,uxB,Nat.reduceBEq,s0,s1,s2,s12,s13,s14,s30,s31]
        ·exact hac3.ext hw3 hxG2
        ·exact λa l c b h1 h2=>hne3 a l c b h1 (by rw[h2])
       ·rw[hpx]at hfil;simp only[sxA,sxB,Nat.reduceBEq,Nat.reduceEqDiff,reduceCtorEq,mxA,mxB,Nat.reduceAdd,reduceIte,Nat.reduceLeDiff,splice,hgG2,QI,Wq,ak];have hac5:=(hac3.ext hw3 hxG2).ext hw4 ((Ext.refl G2).push (.cells x.cells 45 false));have hx5:Ext H3 (G2.push (.cells x.cells 45 false)):=hxG2.push _;have hb5:=hfm3.ext hw3 hx5;refine Acc.app hac5 (hx3.trans hx5) (hw4.push _) (wk.ext hw3 hx5) (by omega) (by rw[Qd,Lc rfl]) (λa l c hv e=>?_) λv' H6 y1 y2 y3 y4 y5 y6=>?_
        ·rcases hac3 with⟨h,_⟩ | ⟨b2,h,_,h3',_⟩
         ·rw[h]at hv;cases hv
         ·rw[h]at hv;cases hv;have:=hw3.lt h3';simp only at e;omega
        ·simp only[sxA,sxB,Nat.reduceBEq,Nat.reduceEqDiff,reduceCtorEq,mxA,mxB,Nat.reduceAdd,reduceIte,Nat.reduceLeDiff,splice,s32,ek];refine⟨xs.length - (k+1),by omega,k+1,zs++[x],by omega,rfl,y2,y1,by rw[hfil,N6,hzs];simp,by simp;omega,?_,y6.fms hac5 hb5 λa l c a' l' c' ha hv=>?_,?_,?_,?_,?_,?_,?_,?_,?_,?_,?_,?_⟩
         rotate_left 2
         ·intro z hz;simp only[LI,Sa]at hz;rcases hz with hz | rfl
          ·exact hzf z hz
          ·exact wf
         ·intro a l c b hv hb;cases hb;simp only[uxA,uxB,Nat.reduceBEq]at hv;have h1:=y5 a l c hv;have h2:=hw3.lt hb1;simp only[Qc]at h1;simp only;omega
         rotate_right 2
         ·simp only[uxA,uxB,Nat.reduceBEq];exact y4
         ·cases ha;exact hne3 _ _ _ _ hv rfl
         all_goals simp only[uxA,uxB,Nat.reduceBEq,s0,s1,s2,s12,s13,s14,s30,s31]
      ·have h3:k=xs.length:=by have:=Ll h3;omega
       subst h3;simp only[sxA,sxB,Nat.reduceBEq,Nat.reduceEqDiff,reduceCtorEq,mxA,mxB,Nat.reduceAdd,reduceIte,Nat.reduceLeDiff,splice,s14,ei];refine⟨6 - (i+1),by omega,i+1,zs,by omega,rfl,hw3,hx3,?_,by omega,?_,hzf,?_,?_,?_,?_,?_,?_⟩
       ·rw[<- hadd rfl,hzs,LF (Lb _),hxs]
       all_goals simp only[uxA,uxB,Nat.reduceBEq,s0,s1,s2,s12,s13]
       exact hac3
    ·refine⟨6 - (i+1),by omega,i+1,ys,by omega,rfl,hwn,hx1.trans hxp,hskip rfl,by omega,?_,hyf,?_,?_,?_,?_,?_,?_⟩
     all_goals simp only[uxA,uxB,Nat.reduceBEq,r0,r1,r2,r12,r13]
     exact hacc.ext hw1 hxp
   ·refine⟨6 - (i+1),by omega,i+1,ys,by omega,rfl,hwn,hx1.trans hxp,hskip rfl,by omega,?_,hyf,?_,?_,?_,?_,?_,?_⟩
    all_goals simp only[uxA,uxB,Nat.reduceBEq,r0,r1,r2,r12,r13]
    exact hacc.ext hw1 hxp
  ·have h2:i=6:=by have:=Ll h2;omega
   subst h2;simp only[sxA,sxB,Nat.reduceBEq,Nat.reduceEqDiff,reduceCtorEq,mxA,mxB,Nat.reduceAdd,reduceIte,Nat.reduceLeDiff,splice,QnU];exact .mk (by have:=hx1.next;omega) ⟨hxp0.trans hx1,ys,hys,hacc.mono (by omega),by omega,hyf⟩
def iI (k:Nat):Int:=bif Nat.beq k 0 then .negSucc 0 else .ofNat (k - 1)
def mkF (op pre mp code dg w vx l:Nat)(sh sl:List Nat):Fm:=⟨.ofNat op,.ofNat pre,.ofNat mp,.ofNat code,iI dg,iI w,.ofNat l,Nat.beq vx 1,sh.map .ofNat,sl.map .ofNat⟩
def Qo6 (v:Value)(n:Int):Bool:=match v with | .int .i64 m=>Qgv 8 (.int .i64 m) (.int .i64 n) | _=>false
theorem Qe3 {v:Value}{n:Int}(h:Qo6 v n=true):v=.int .i64 n:=by
 unfold Qo6 at h;split at h
 ·exact Qfg 8 _ _ h
 ·cases h
def QzW (v:Value)(b:Bool):Bool:=match v with | .bool c=>(bif c then b else !b) | _=>false
theorem QCs {v:Value}{b:Bool}(h:QzW v b=true):v=.bool b:=by
 unfold QzW at h;split at h
 ·rename_i c;cases c<;>cases b<;>first | rfl | cases h
 ·cases h
def QHT (n c:Nat):Bool:=Nat.beq c (UNK+1)||(Nat.ble n c&&Nat.ble (c+1) UNK)
theorem QFY {n c:Nat}(h:QHT n c=true):Qxv n c:=by
 simp only[QHT,Nw,Lm,Kh,Lv,BL]at h;rcases h with h | ⟨h1,h2⟩
 ·exact .inl h
 ·exact .inr ⟨h1,h2⟩
def QFZ (G:Nat)(rs:List Row)(v:Value)(l:List Int):Bool:=match l with
 | []=>Qgv 8 v (.slice none 0 0)
 | _::_=>match v with
  | .slice (some a) n c=>Nat.ble G a.block&&(Nat.beq a.off 0&&(Qpu a&&(Nat.beq n l.length&&(Nat.ble n 1000&&(QHT n c&&(match rs[a.block - G]? with | some r=>QbM (Qgv 8) r.c (ints l) | none=>false))))))
  | _=>false
def QF0 (G:Nat)(rs:List Row):List Value->List Fm->Bool
 | [],[]=>true
 | a0::a1::a2::a3::a4::a5::a6::a7::a8::a9::cs,x::xs=>Qo6 a0 x.op&&(QFZ G rs a1 x.shapes&&(QFZ G rs a2 x.slots&&(Qo6 a3 x.pre&&(Qo6 a4 x.map&&(Qo6 a5 x.code&&(Qo6 a6 x.digit&&(Qo6 a7 x.w&&(QzW a8 x.vex&&(Qo6 a9 x.l&&QF0 G rs cs xs)))))))))
 | _,_=>false
def QF1 (G:Nat)(rs:List Row)(u:Value)(L:List Fm):Bool:=match u with
 | .slice (some a) n c=>Nat.ble G a.block&&(Nat.beq a.off 0&&(Qpu a&&(Nat.beq n L.length&&(Nat.ble n 1000&&(Nat.ble 1 n&&(Nat.beq c (UNK+10)&&(match rs[a.block - G]? with | some r=>Nat.beq r.e 45&&(!r.ro&&QF0 G rs r.c L) | none=>false)))))))
 | _=>false
theorem QuS {a:Addr}(h:Qpu a=true):a.spot=none:=by
 unfold Qpu at h;split at h
 ·assumption
 ·cases h
section
variable {τ:Nat->Nat} {G:Nat} {rs:List Row} {H:Qa}
theorem QD6 {b:Nat}(h:G<=b):shM τ G H.next b=H.next+(b - G):=by
 unfold shM;rw[Qlp];simp[show ¬b<G by omega]
theorem QD7 (sh:Nat->Nat)(l:List Int):(ints l).map (shW sh 6)=ints l:=by
 unfold ints;rw[Ht];exact DC λx _=>Quv sh 6 _ rfl
theorem QAY {v:Value}{l:List Int}(h:QFZ G rs v l=true):l.length<=1000∧Qdw (QaR (shM τ G H.next) rs H) (shW (shM τ G H.next) 6 v) l.length (ints l)∧SlF H.next (shW (shM τ G H.next) 6 v) l:=by
 cases l with
 | nil=>
  have:=Qfg 8 _ _ (show Qgv 8 v (.slice none 0 0)=true from h);subst this;exact⟨by simp,⟨none,0,rfl,λh=>by simp at h⟩,.inl ⟨rfl,rfl⟩⟩
 | cons x l=>
  unfold QFZ at h;simp only at h;split at h
  ·rename_i a n cap;simp only[Lm,Kh,Lv,BL]at h;obtain⟨h1,h2,h3,h4,h5,hcp,h6⟩:=h;split at h6
   ·rename_i r hr;have h6:=QnE (Qfg 8) _ _ h6;obtain⟨ab,ao,asp⟩:=a
    replace h3:=QuS h3
    simp only at h1 h2 h3 hr;subst h2;subst h3;subst h4;have hk:=(Lk.1 hr).1;have e1:shW (shM τ G H.next) 6 (.slice (some ⟨ab,0,none⟩) (x::l).length cap)=.slice (some ⟨H.next+(ab - G),0,none⟩) (x::l).length cap:=by
     show Value.slice (some ⟨shM τ G H.next ab,0,none⟩) _ _=_;rw[QD6 h1]
    rw[e1];refine⟨h5,⟨_,_,rfl,λ_=>⟨H.next+(ab - G),r.e,r.ro,rfl,?_⟩⟩,.inr ⟨by simp,_,_,rfl,by omega,QFY hcp⟩⟩;rw[QgQ,Lc ⟨by omega,by omega⟩,show H.next+(ab - G) - H.next=ab - G by omega,hr];show some (Blk.cells (r.c.map (shW (shM τ G H.next) 6)) r.e r.ro)=_;rw[h6,QD7]
   ·cases h6
  ·cases h
theorem QAZ:∀ (cs:List Value) (L:List Fm),QF0 G rs cs L=true->∃xs:List Lf,xs.map (·.f)=L∧cs.map (shW (shM τ G H.next) 6)=Ws xs∧∀x∈xs,x.At (QaR (shM τ G H.next) rs H)∧x.Fr H.next
 | [],[],_=>⟨[],rfl,rfl,λx h=>by cases h⟩
 | a0::a1::a2::a3::a4::a5::a6::a7::a8::a9::cs,x::L,h=>by
  simp only[QF0,Lm]at h;obtain⟨h0,h1,h2,h3,h4,h5,h6,h7,h8,h9,hr⟩:=h;obtain⟨xs,e1,e2,e3⟩:=QAZ cs L hr;have i0:=Qe3 h0;have i3:=Qe3 h3;have i4:=Qe3 h4;have i5:=Qe3 h5;have i6:=Qe3 h6;have i7:=Qe3 h7;have i8:=QCs h8;have i9:=Qe3 h9;subst i0 i3 i4 i5 i6 i7 i8 i9;obtain⟨s1,s2,s3⟩:=QAY (τ:=τ) (H:=H) h1;obtain⟨t1,t2,t3⟩:=QAY (τ:=τ) (H:=H) h2;refine⟨⟨x,shW (shM τ G H.next) 6 a1,shW (shM τ G H.next) 6 a2⟩::xs,by simp[e1],?_,λy hy=>?_⟩
  rotate_left
  ·rcases LK.1 hy with rfl | hy
   ·exact⟨⟨s1,t1,s2,t2⟩,s3,t3⟩
   ·exact e3 y hy
  ·simp only[NZ,e2,Ws,Ba,Lf.cells,Nm,LH];rfl
theorem QF2 {u:Value}{L:List Fm}(h:QF1 G rs u L=true):∃xs:List Lf,xs.map (·.f)=L∧Acc H (QaR (shM τ G H.next) rs H) (shW (shM τ G H.next) 6 u) xs∧xs.length<=1000∧∀x∈xs,x.Fr H.next:=by
 unfold QF1 at h;split at h
 ·rename_i a n cap;simp only[Lm,Kh,Lv,BL]at h;obtain⟨h1,h2,h3,h4,h5,h7,h8,h6⟩:=h;split at h6
  ·rename_i r hr;simp only[Lm,Kh,Lv,Lr]at h6;obtain⟨h9,h10,h6⟩:=h6;subst h8;obtain⟨xs,e1,e2,e3⟩:=QAZ (τ:=τ) (H:=H) _ _ h6;obtain⟨ab,ao,asp⟩:=a
   replace h3:=QuS h3
   simp only at h1 h2 h3 hr;subst h2;subst h3;have hl:n=xs.length:=by rw[h4,<- e1];simp
   subst hl;have hk:=(Lk.1 hr).1;have e1':shW (shM τ G H.next) 6 (.slice (some ⟨ab,0,none⟩) xs.length (UNK+10))=.slice (some ⟨H.next+(ab - G),0,none⟩) xs.length (UNK+10):=by
    show Value.slice (some ⟨shM τ G H.next ab,0,none⟩) _ _=_;rw[QD6 h1]
   rw[e1'];refine⟨xs,e1,.inr ⟨_,rfl,by omega,?_,λh=>?_,λx hx=>(e3 x hx).1⟩,h5,λx hx=>(e3 x hx).2⟩
   ·rw[QgQ,Lc ⟨by omega,by omega⟩,show H.next+(ab - G) - H.next=ab - G by omega,hr];show some (Blk.cells (r.c.map (shW (shM τ G H.next) 6)) r.e r.ro)=_;rw[e2,h9,h10]
   ·rw[h]at h7;simp at h7
  ·cases h6
 ·cases h
end
theorem QCt {sh:Nat->Nat}(rs:List Row)(H:Qa):Ext H (QaR sh rs H):=⟨by rw[Qh6];omega,λid hid=>by rw[QgQ,Le (by omega)]⟩
theorem Qx4 {sh:Nat->Nat}:∀ (rs:List Row) (H:Qa),H.Wf->(QaR sh rs H).Wf
 | [],H,h=>h
 | r::rs,H,h=>Qx4 rs _ (h.push _)
def QcL (tabs:List Tab)(H:Qa):Prop:=QmK tabs H=true
theorem QhD {tabs:List Tab}(H H':Qa)(hw:H.Wf)(h:QcL tabs H)(hx:Ext H H'):QcL tabs H':=by
 unfold QcL QmK at *;rw[Li]at *;intro t ht;have h1:=h t ht;cases hg:H.get t.id with
 | none=>rw[hg]at h1;cases h1
 | some b=>rw[hx.get _ (hw.lt hg)];exact h1
theorem Qv9 {tabs:List Tab}(ht:tabsOk tabs=true)(htab:∀t∈tabs,t.id<prog.globals.size){s:SumI}(hs:SumIOk prog tabs s)(ha:s.args=[])(hi:s.ins=[]){L:List Fm}(hc:QF1 prog.globals.size s.rs s.u L=true):J8 (QcL tabs) s.f L:=by
 intro H hH hw;have hd:=hs.does ht (args:=[]) (H:=H) (τ:=λn=>n) (λ_ _=>rfl) htab hH (by rw[hi];rfl) (by rw[ha];rfl);rw[hi]at hd;obtain⟨xs,h1,h2,h3,h4⟩:=QF2 (τ:=λn=>n) (H:=H) hc;exact⟨_,_,.inl ⟨hs.1,hd⟩,by rw[Qh6];exact Ro _ _,Qx4 _ _ hw,QCt _ _,xs,h1,h2,h3,h4⟩
def QA0 (G:Nat)(f:FuncId)(L:List Fm):List SumI->Bool
 | s::_=>Nat.beq s.f f&&(s.args.isEmpty&&(s.ins.isEmpty&&QF1 G s.rs s.u L))
 | []=>false
theorem WR {tabs:List Tab}(ht:tabsOk tabs=true)(htab:∀t∈tabs,t.id<prog.globals.size){l:List SumI}(hl:∀s∈l,SumIOk prog tabs s){f:FuncId}{L:List Fm}(h:QA0 prog.globals.size f L l=true):J8 (QcL tabs) f L:=by
 cases l with
 | nil=>cases h
 | cons s l=>
  simp only[QA0,Lm,Kh,Lv,DF]at h;obtain⟨h1,h2,h3,h4⟩:=h;rw[<- h1];exact Qv9 ht htab (hl s (Ny ..)) h2 h3 h4
theorem Qwu (x:Lf)(op:Int)(b:Nat)(H:Qa){e:TypeId}{ro:Bool}(hb:H.get b=some (.cells [.int .i64 op] e ro))(hx:x.At H):Qe prog 37 [.agg x.cells.toArray,.pointer (some ⟨b,0,none⟩)] H λu H'=>u=.bool (x.f.op==op)∧∃m,H'=H.up m:=by
 refine Qtr λhw=>?_;have hbl:=hw.lt hb;have hne:¬b=H.next:=by omega
 simp only[Lf.cells,Ql0,Qb,simprocAttr,hne,hb,Qr9];exact .ext hw ((Ext.refl H).push _) ⟨rfl,_,rfl⟩
section
variable {T:Qa->Prop} (hT:∀H H',H.Wf->T H->Ext H H'->T H') (LL:FuncId->List Fm) (hL:∀x∈lis,J8 T x.2.2 (LL x.2.2))
include hT hL
theorem QAh (op:Int)(H:Qa)(ht:T H):Qe prog 15 [.int .i64 op] H λu H'=>Qnf H H' u (Qs9 LL op op (λf=>f.op==op) lis):=by
 refine Qw7 λhw=>?_;simp only[Qqw,Qb,simprocAttr,QnM];have hx0:Ext H (H.push (.cells [.int .i64 op] 3 false)):=(Ext.refl H).push _;have hg0:(H.push (.cells [.int .i64 op] 3 false)).get H.next=some (.cells [.int .i64 op] 3 false):=by rw[Qd,Lc rfl]
 have hw0:=hw.push (.cells [.int .i64 op] 3 false);generalize H.push (.cells [.int .i64 op] 3 false)=H1 at hx0 hg0 hw0;refine(Qrg hT LL hL op op (.func (.func 37) #[] [.pointer (some ⟨H.next,0,none⟩)].toArray) (λf=>f.op==op) H1 ⟨37,[.pointer (some ⟨H.next,0,none⟩)],rfl,λx H' hx ha=>Qwu x op H.next H' (e:=3) (ro:=false) (by rw[hx.get _ (hw0.lt hg0)];exact hg0) ha⟩ (hT _ _ hw ht hx0)).thenW ?_;rintro u H' hn hw' ⟨hx,ys,h1,h2,h3,h4⟩;simp only[Qb,simprocAttr,Qvl];exact .mk (hx0.trans hx).next ⟨hx0.trans hx,ys,h1,h2.mono hx0.next,h3,λy hy=>(h4 y hy).mono hx0.next⟩
end
/-! ### As known calls -/
theorem Qt6 (xs ys:List Lf):Ws (xs++ys)=Ws xs++Ws ys:=by simp[Ws]
theorem Qth {H:Qa}:∀ (xs:List Lf),(∀x∈xs,x.At H)->((Ws xs).all λv=>v.oneCell')=true
 | [],_=>rfl
 | x::xs,h=>by
  have h1:=Qeu (h x (Ny ..));have h2:=Qth xs λy hy=>h y (NA _ hy);simp only[Ws,Ba,Fo,Lm]at h2 ⊢;exact⟨h1,h2⟩
theorem Acc.appL {H0 H1 H:Qa}{v u:Value}{ys xs:List Lf}{K:Value->Qa->Prop}(h:Acc H0 H v ys)(hyn:ys≠[])(hx:Ext H0 H)(hw:H.Wf)(hu:Acc H1 H u xs)(hxn:xs≠[])(hl:ys.length<=100000)(hl2:xs.length<=100000)(hne:∀a l c a' l' c',v=.slice (some a) l c->u=.slice (some a') l' c'->a.block≠a'.block)
  (hK:∀v' H',Ext H0 H'->H'.Wf->H.next<=H'.next->Acc H0 H' v' (ys++xs)->(∀a l c,v'=.slice (some a) l c->H.next<=a.block)->Qhq H H' v->K v' H'):Qdr 45 10 112 v u H K:=by
 rcases id h with⟨rfl,rfl⟩ | ⟨b,rfl,hb0,hgb,_,hya⟩
 ·exact absurd rfl hyn
 ·rcases id hu with⟨rfl,rfl⟩ | ⟨b1,rfl,hb1,hgb1,_,hxa⟩
  ·exact absurd rfl hxn
  ·have hlx:xs.length≠0:=λe=>hxn (N2.1 e);have hsrc:J4 10 (.slice (some ⟨b1,0,none⟩) xs.length (UNK+10)) H=some (xs.length,Ws xs):=by
    rw[JI hgb1 hlx (by rw[Xc];omega),Lw,LF (by rw[Xc];omega)]
   have hbl:=hw.lt hgb;have hbn:b≠b1:=hne _ _ _ _ _ _ rfl rfl;have hn0:=hx.next;refine QnS rfl hsrc (Qth xs hxa) hlx (c:=Ws ys) hgb (by rw[Xc];omega) (by omega) (by omega) (by unfold UNK;omega) ?_;have hk:Qhq H ((H.kill b).push (.cells (Ws ys++Ws xs) 45 false)) (.slice (some ⟨b,0,none⟩) ys.length (UNK+10)):=λid bl hg hn=>by
    rw[Qd,Le (by have:=hw.lt hg;simp;omega),WS,Le (hn _ _ _ rfl)];exact hg
   refine hK (.slice (some ⟨H.next,0,none⟩) (ys.length+xs.length) (UNK+10)) ((H.kill b).push (.cells (Ws ys++Ws xs) 45 false)) ((hx.kill hb0).push _) ((hw.kill _).push _) (by simp)
    (.inr ⟨H.next,by simp,hn0,by rw[Qd,Lc (by simp),Qt6],by simp[hyn],λy hy=>?_⟩) (λa l c e=>by cases e;exact Lb _) hk
   simp only[LI]at hy;rcases hy with hy | hy
   ·exact hk.at h (hya y hy)
   ·exact hk.at h (hxa y hy)
section
variable {T:Qa->Prop} (hT:∀H H',H.Wf->T H->Ext H H'->T H')
include hT
theorem Qlg (H:Qa)(ht:T H){L1 L2 L3 L4 L5 L6:List Fm}(t1:J8 T 91 L1)(t2:J8 T 92 L2)(t3:J8 T 93 L3)(t4:J8 T 94 L4)(t5:J8 T 95 L5)(t6:J8 T 96 L6)
  (n1:L1≠[]) (n2:L2≠[]) (n3:L3≠[]) (n4:L4≠[]) (n5:L5≠[]) (n6:L6≠[]):Qe prog 59 [] H λu H'=>Qnf H H' u (L1++(L2++(L3++(L4++(L5++L6))))):=by
 refine Qjv λhw=>?_;simp only[QbZ,Qb,simprocAttr]
 -- one list more
 have step:∀ (f:FuncId) (L:List Fm),J8 T f L->L≠[]->∀ (H1:Qa) (v:Value) (ys:List Lf),H1.Wf->Ext H H1->Acc H H1 v ys->ys≠[]->ys.length<=10000->(∀y∈ys,y.Fr H.next)->
   Qe prog f [] H1 λu H2=>∀K:Value->Qa->Prop,(∀v' H3 zs,H3.Wf->Ext H H3->zs.map (·.f)=ys.map (·.f)++L->zs.length<=ys.length+1000->zs≠[]->Acc H H3 v' zs->(∀z∈zs,z.Fr H.next)->K v' H3)->Qdr 45 10 112 v u H2 K:=λf L hL hn H1 v ys hw1 hx1 hac hyn hyl hyf=>by
  intro _;obtain⟨u,H2,hc,hn2,hw2,hx2,xs,e1,hu,hxl,hxf⟩:=hL H1 (hT _ _ hw ht hx1) hw1;refine⟨u,H2,hc,hn2,hw2,λK hK=>?_⟩;have hxn:xs≠[]:=λe=>hn (by rw[<- e1,e];rfl);refine(hac.ext hw1 hx2).appL hyn (hx1.trans hx2) hw2 hu hxn (by omega) (by omega) (λa l c a' l' c' hv hu'=>?_) λv' H' y1 y2 y3 y4 y5 y6=>hK v' H' (ys++xs) y2 y1 (by simp[e1]) (by simp;omega) (by simp[hyn]) y4 λz hz=>?_
  ·rcases hac with⟨e,_⟩ | ⟨b,e,_,hg,_⟩
   ·rw[e]at hv;cases hv
   ·rw[e]at hv;cases hv;have:=hw1.lt hg;rcases hu with⟨e,_⟩ | ⟨b',e,hb',_⟩
    ·rw[e]at hu';cases hu'
    ·rw[e]at hu';cases hu';simp only;omega
  ·simp only[LI]at hz;rcases hz with hz | hz
   ·exact hyf z hz
   ·exact(hxf z hz).mono hx1.next
 refine(t1 H ht).thenW ?_;rintro v1 H1 hnx1 hw1 ⟨hx1,ys1,e1,ha1,hl1,hf1⟩;simp only[Qb,simprocAttr];refine(step _ L2 t2 n2 H1 v1 ys1 hw1 hx1 ha1 (λe=>n1 (by rw[<- e1,e];rfl)) (by omega) hf1).mono λu H' happ=>?_;simp only[Qb,simprocAttr];refine happ _ λv2 H2 ys2 hw2 hx2 e2 hl2 hn2 ha2 hf2=>?_;simp only[Qb,simprocAttr];refine(step _ L3 t3 n3 H2 v2 ys2 hw2 hx2 ha2 hn2 (by omega) hf2).mono λu H' happ=>?_;simp only[Qb,simprocAttr];refine happ _ λv3 H3 ys3 hw3 hx3 e3 hl3 hn3 ha3 hf3=>?_;simp only[Qb,simprocAttr];refine(step _ L4 t4 n4 H3 v3 ys3 hw3 hx3 ha3 hn3 (by omega) hf3).mono λu H' happ=>?_;simp only[Qb,simprocAttr];refine happ _ λv4 H4 ys4 hw4 hx4 e4 hl4 hn4 ha4 hf4=>?_;simp only[Qb,simprocAttr];refine(step _ L5 t5 n5 H4 v4 ys4 hw4 hx4 ha4 hn4 (by omega) hf4).mono λu H' happ=>?_;simp only[Qb,simprocAttr];refine happ _ λv5 H5 ys5 hw5 hx5 e5 hl5 hn5 ha5 hf5=>?_;simp only[Qb,simprocAttr];refine(step _ L6 t6 n6 H5 v5 ys5 hw5 hx5 ha5 hn5 (by omega) hf5).mono λu H' happ=>?_;simp only[Qb,simprocAttr];refine happ _ λv6 H6 ys6 hw6 hx6 e6 hl6 hn6 ha6 hf6=>?_;simp only[Qb,simprocAttr,Qic];exact .mk hx6.next ⟨hx6,ys6,by rw[e6,e5,e4,e3,e2,e1];simp,ha6,by omega,hf6⟩
end
end Go.Proofs.YtgepgbbjfhggfaaGreatDoor.code
