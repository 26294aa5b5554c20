/- Forms in memory, and the kit's parts that look at them. -/
import Derived.Test.YtbkbdnlfkahaaaaGreatDoorC0Code
import Derived.Test.YtbkbdnlfkahaaaaGreatDoorAbD
import Derived.Laws.BitsLemmas
import Derived.Test.YtbkbdnlfkahaaaaGreatDoorAbC
set_option linter.unusedVariables false
set_option linter.unusedSimpArgs false
set_option maxRecDepth 100000
noncomputable section
namespace Go.Proofs.YtbkbdnlfkahaaaaGreatDoor.code
open Go.Ab
def I64 (n:Int):Prop:=-9223372036854775808<=n∧n<=9223372036854775807
theorem w64 {n:Int} (h:I64 n):IntKind.i64.wrap n=n:=by
 rw[NU];unfold I64 at h;omega
def ints (l:List Int):List Value:=l.map (.int .i64 ·)
theorem QgZ {l:List Int} {i:Nat} (h:i<l.length):(ints l)[i]? = some (.int .i64 (l.getD i 0)):=by
 simp[ints,La h,List.getD]
def Yo (H:Qa) (v:Value) (n:Nat) (cs:List Value):Prop:=∃a cap,v=.slice a n cap∧(0<n->∃b e ro,a=some ⟨b,0,none⟩∧H.get b=some (.cells cs e ro))
theorem Yo.ext {H H':Qa} {v:Value} {n:Nat} {cs:List Value} (hw:H.Wf) (he:Ext H H') (h:Yo H v n cs):Yo H' v n cs:=by
 obtain⟨a,cap,rfl,h1⟩:=h;refine⟨a,cap,rfl,λhn=>?_⟩;obtain⟨b,e,ro,rfl,hb⟩:=h1 hn;exact⟨b,e,ro,rfl,by rw[he.get b (hw.lt hb)];exact hb⟩
structure Fm where
 op:Int
 pre:Int
 map:Int
 code:Int
 digit:Int
 w:Int
 l:Int
 vex:Bool
 shapes:List Int
 slots:List Int
 deriving DecidableEq
structure Lf where
 f:Fm
 sv:Value
 tv:Value
def Lf.cells (x:Lf):List Value:=[.int .i64 x.f.op,x.sv,x.tv,.int .i64 x.f.pre,.int .i64 x.f.map,.int .i64 x.f.code,.int .i64 x.f.digit,.int .i64 x.f.w,.bool x.f.vex,.int .i64 x.f.l]
def Lf.At (H:Qa) (x:Lf):Prop:=x.f.shapes.length<=1000∧x.f.slots.length<=1000∧Yo H x.sv x.f.shapes.length (ints x.f.shapes)∧Yo H x.tv x.f.slots.length (ints x.f.slots)
theorem Lf.At.ext {H H':Qa} {x:Lf} (hw:H.Wf) (he:Ext H H') (h:x.At H):x.At H':=⟨h.1,h.2.1,h.2.2.1.ext hw he,h.2.2.2.ext hw he⟩
def Qo (xs:List Lf):List Value:=xs.flatMap Lf.cells
theorem Qn (x:Lf):x.cells.length=10:=rfl
theorem QS:∀xs:List Lf,(Qo xs).length=xs.length * 10
 | []=>rfl
 | x::xs=>by
  have:=QS xs;simp only[Qo,Ba,Lh,Qn,Lo]at this ⊢;omega
theorem Yp:∀ (l:List Lf) (i:Nat) (p:Lf),l[i]? = some p->((Qo l).drop (i * 10)).take 10=p.cells
 | [],i,p,h=>by simp at h
 | q::l,0,p,h=>by
  simp at h;subst h;have:(Qo (q::l))=q.cells++Qo l:=by simp[Qo]
  rw[this,BH,Lw,NO (by rw[Qn];exact Lb 10),LF (by rw[Qn];exact Lb 10)]
 | q::l,i+1,p,h=>by
  have e:(Qo (q::l))=q.cells++Qo l:=by simp[Qo]
  rw[e,show(i+1) * 10=q.cells.length+i * 10 by rw[Qn];omega,B3,NK (by omega),LH,NL];exact Yp l i p (by simpa using h)
theorem XZ (l:List Lf) (i j:Nat) (p:Lf) (h:l[i]? = some p) (hj:j<10):(Qo l)[i * 10+j]? = p.cells[j]? := by
 rw[<- Yp l i p h,Nl,Lc hj,Nk]
theorem Q4 (p:Lf):List.take 10 p.cells=p.cells:=Nu rfl rfl
theorem Kg (xs:List Lf) (x:Lf):Qo (xs++[x])=Qo xs++x.cells:=by simp[Qo]
def GG (H:Qa) (v:Value) (xs:List Lf):Prop:=Yo H v xs.length (Qo xs)∧∀x∈xs,x.At H
theorem GG.ext {H H':Qa} {v:Value} {xs:List Lf} (hw:H.Wf) (he:Ext H H') (h:GG H v xs):GG H' v xs:=⟨h.1.ext hw he,λx hx=>(h.2 x hx).ext hw he⟩
theorem QbD {H:Qa} {v:Value} {n:Nat} {cs:List Value} (h:Yo H v n cs):v.oneCell'=true:=by
 obtain⟨a,cap,rfl,_⟩:=h;rfl
theorem W3 {H:Qa} {x:Lf} (h:x.At H):(x.cells.all λv=>v.oneCell')=true:=by
 simp only[Lf.cells,Bv,BI,QbD h.2.2.1,QbD h.2.2.2,Be];rfl
def GH:List Int->Int->Nat->Int
 | [],_,_=>-1
 | y::l,x,k=>if x=y then(k:Int) else GH l x (k+1)
def Qe9 (l:List Int) (x:Int):Int:=GH l x 0
theorem QbE (x:Int):∀ (l:List Int) (k i:Nat),(∀j,j<i->¬x=l.getD j 0)->i<l.length->x=l.getD i 0->GH l x k=((k+i:Nat):Int)
 | [],k,i,_,hl,_=>by simp at hl
 | y::l,k,0,_,_,h=>by
  have h:x=y:=by simpa using h
  simp[GH,h]
 | y::l,k,i+1,hn,hl,h=>by
  have h0:¬x=y:=by have:=hn 0 (by omega);simpa using this
  rw[GH,Le h0,QbE x l (k+1) i (λj hj=>by have:=hn (j+1) (by omega);simpa using this) (by simpa using hl) (by simpa using h)];congr 1;omega
theorem QbF (x:Int):∀ (l:List Int) (k:Nat),(∀j,j<l.length->¬x=l.getD j 0)->GH l x k=-1
 | [],k,_=>rfl
 | y::l,k,hn=>by
  have h0:¬x=y:=by have:=hn 0 (by simp);simpa using this
  rw[GH,Le h0];exact QbF x l (k+1) (λj hj=>by have:=hn (j+1) (by simpa using hj);simpa using this)
theorem GI (va:Value) (xs:List Int) (x:Int) (H:Qa) (ha:Yo H va xs.length (ints xs)) (hl:xs.length<=1000):Qm prog Q9 [va,.int .i64 x] H λu H'=>u=.int .i64 (Qe9 xs x)∧H'=H:=by
 refine Yn λhw=>?_;obtain⟨aa,acap,rfl,hsa⟩:=ha;simp only[WM,QO,simprocAttr];refine XH (λm A' H'=>∃i:Nat,i<=xs.length∧m=xs.length - i∧H'=H∧(∀j,j<i->¬x=xs.getD j 0)∧A' 0=.slice aa xs.length acap∧A' 1=.int .i64 x∧A' 7=.int .i64 (xs.length:Int)∧A' 8=.int .i64 i) xs.length ?_ ?_
 ·refine⟨0,L7 _,by omega,rfl,λj h=>by omega,?_,?_,?_,?_⟩
  all_goals simp only[uxA,uxB,Nat.reduceBEq]
  rfl
 ·rintro m A' H' ⟨i,hi,rfl,hEq,hall,r0,r1,r7,r8⟩;subst hEq;simp only[QO,simprocAttr,r7,r8];refine Yk (λh2=>?_) (λh2=>?_)
  ·have h2:i<xs.length:=by have:=Lg h2;omega
   obtain⟨b1,e1,ro1,rfl,hb1⟩:=hsa (by omega);have c1:(0:Int)<=i∧(i:Int)<xs.length:=by omega
   have c3:(i:Int).toNat=i:=by omega
   have ei:IntKind.i64.wrap ((i:Int)+1)=((i+1:Nat):Int):=by rw[w64 (by unfold I64;omega)];omega
   have g1:=QgZ (l:=xs) (i:=i) (by omega);simp only[QO,simprocAttr,r0,r1,r8,c1,c3,hb1,g1];refine Yk (λh3=>?_) (λh3=>?_)
   ·have h3:x=xs.getD i 0:=by simpa using h3
    simp only[QO,simprocAttr,r8,Wx];exact .mk (Lb _) ⟨by rw[Qe9,QbE x xs 0 i hall h2 h3,LP],rfl⟩
   ·have h3:¬x=xs.getD i 0:=by simpa using h3
    simp only[QO,simprocAttr,r8,ei];refine⟨xs.length - (i+1),by omega,i+1,by omega,rfl,rfl,λj hj=>?_,?_,?_,?_,?_⟩
    ·rcases Nq j i with h | h
     ·exact hall j h
     ·rw[show j=i by omega];exact h3
    all_goals simp only[Qlt,simprocAttr,r0,r1,r7]
  ·have h2:i=xs.length:=by have:=Ll h2;omega
   subst h2;simp only[QO,simprocAttr,Wx];exact .mk (Lb _) ⟨by rw[Qe9,QbF x xs 0 hall],rfl⟩
theorem QaB (x:Lf) (k:Int) (H:Qa) (hx:x.At H):Qm prog YE [.agg x.cells.toArray,.int .i64 k] H λu H'=>u=.int .i64 (Qe9 x.f.slots k)∧∃m,H'=H.up m:=by
 refine Vd λhw=>?_;obtain⟨l1,l2,h1,h2⟩:=hx;obtain⟨a2,c2,e2,_⟩:=id h2;simp only[Lf.cells,ZH,e2,QO,simprocAttr];rw[<- e2];refine(GI _ x.f.slots k _ (h2.ext hw ((Ext.refl H).push _)) l2).mono ?_;rintro _ _ ⟨rfl,rfl⟩;simp only[QO,simprocAttr,GD];exact .ext hw ((Ext.refl H).push _) ⟨rfl,_,rfl⟩
theorem Qd4 {H:Qa} {l:List Int} {y:Lf} {ys:List Lf} (hy:y.At H) (h:ints l=Qo (y::ys)):False:=by
 have h1:(ints l)[1]? = some y.sv:=by rw[h];simp[Qo,Lf.cells]
 obtain⟨a,c,e,_⟩:=hy.2.2.1;rw[e]at h1;unfold ints at h1;rw[LD]at h1;cases hl:l[1]? with
 | none=>rw[hl]at h1;cases h1
 | some z=>rw[hl]at h1;cases h1
def Acc (H0 H:Qa) (v:Value) (ys:List Lf):Prop:=(v=.slice none 0 0∧ys=[])∨(∃b,v=.slice (some ⟨b,0,none⟩) ys.length (UNK+10)∧H0.next<=b∧H.get b=some (.cells (Qo ys) Qb false)∧ys≠[]∧∀y∈ys,y.At H)
theorem Acc.ext {H0 H H':Qa} {v:Value} {ys:List Lf} (hw:H.Wf) (hx:Ext H H') (h:Acc H0 H v ys):Acc H0 H' v ys:=by
 rcases h with h | ⟨b,h1,h2,h3,h4,h5⟩
 ·exact .inl h
 ·exact .inr ⟨b,h1,h2,by rw[hx.get _ (hw.lt h3)];exact h3,h4,λy hy=>(h5 y hy).ext hw hx⟩
theorem Acc.fms {H0 H:Qa} {v:Value} {ys:List Lf} (h:Acc H0 H v ys):GG H v ys:=by
 rcases h with⟨rfl,rfl⟩ | ⟨b,rfl,h2,h3,h4,h5⟩
 ·exact⟨⟨none,0,rfl,λh=>by simp at h⟩,λx hx=>by cases hx⟩
 ·exact⟨⟨_,_,rfl,λ_=>⟨b,_,_,rfl,h3⟩⟩,h5⟩
theorem Yo.kill {H:Qa} {v:Value} {l:List Int} {b:Nat} {y:Lf} {ys:List Lf} {e:TypeId} {ro:Bool} (hb:H.get b=some (.cells (Qo (y::ys)) e ro)) (hy:y.At H) (h:Yo H v l.length (ints l)):Yo (H.kill b) v l.length (ints l):=by
 obtain⟨a,cap,rfl,h1⟩:=h;refine⟨a,cap,rfl,λhn=>?_⟩;obtain⟨b1,e1,ro1,rfl,hb1⟩:=h1 hn;refine⟨b1,e1,ro1,rfl,?_⟩;have:b1≠b:=λe=>by
  subst e;rw[hb]at hb1;simp only[Lt,Blk.cells.injEq]at hb1;exact Qd4 hy hb1.1.symm
 rw[WW,Le this];exact hb1
theorem Lf.At.kill {H:Qa} {x:Lf} {b:Nat} {ys:List Lf} {e:TypeId} {ro:Bool} (hb:H.get b=some (.cells (Qo ys) e ro)) (hn:ys≠[]) (hy:∀y∈ys,y.At H) (h:x.At H):x.At (H.kill b):=by
 cases ys with
 | nil=>exact absurd rfl hn
 | cons y ys=>exact⟨h.1,h.2.1,h.2.2.1.kill hb (hy y (Ny ..)),h.2.2.2.kill hb (hy y (Ny ..))⟩
def Qlf (H:Qa) (g:Value) (p:Fm->Bool):Prop:=∃ (f:FuncId) (ys:List Value),g=.func (.func f) #[] ys.toArray∧∀ (x:Lf) H',Ext H H'->x.At H'->Qm prog f ([.agg x.cells.toArray]++ys) H' λu H''=>u=.bool (p x.f)∧∃m,H''=H'.up m
def QjJ (n cap:Nat):Prop:=cap=UNK+1∨(n<=cap∧cap<UNK)
def SlF (M:Nat) (v:Value) (l:List Int):Prop:=(l=[]∧v=.slice none 0 0)∨(l≠[]∧∃b cap,v=.slice (some ⟨b,0,none⟩) l.length cap∧M<=b∧QjJ l.length cap)
theorem SlF.mono {M M':Nat} {v:Value} {l:List Int} (hm:M'<=M) (h:SlF M v l):SlF M' v l:=by
 rcases h with h | ⟨h,b,cap,h1,h2,h3⟩
 ·exact .inl h
 ·exact .inr ⟨h,b,cap,h1,by omega,h3⟩
def Lf.Fr (M:Nat) (x:Lf):Prop:=SlF M x.sv x.f.shapes∧SlF M x.tv x.f.slots
theorem Lf.Fr.mono {M M':Nat} {x:Lf} (hm:M'<=M) (h:x.Fr M):x.Fr M':=⟨h.1.mono hm,h.2.mono hm⟩
def YN (T:Qa->Prop) (f:FuncId) (L:List Fm):Prop:=∀H,T H->Qm prog f [] H λu H'=>Ext H H'∧∃xs:List Lf,xs.map (·.f)=L∧Acc H H' u xs∧xs.length<=1000∧∀x∈xs,x.Fr H.next
theorem Acc.mono {H0 H1 H:Qa} {v:Value} {ys:List Lf} (hn:H0.next<=H1.next) (h:Acc H1 H v ys):Acc H0 H v ys:=by
 rcases h with h | ⟨b,h1,h2,h3⟩
 ·exact .inl h
 ·exact .inr ⟨b,h1,by omega,h3⟩
def YO (H H':Qa) (v:Value):Prop:=∀id bl,H.get id=some bl->(∀a l c,v=.slice (some a) l c->id≠a.block)->H'.get id=some bl
theorem YO.ints {H0 H H':Qa} {v s:Value} {ys:List Lf} {l:List Int} (hk:YO H H' v) (ha:Acc H0 H v ys) (h:Yo H s l.length (ints l)):Yo H' s l.length (ints l):=by
 obtain⟨a,cap,rfl,h1⟩:=h;refine⟨a,cap,rfl,λhn=>?_⟩;obtain⟨b1,e1,ro1,rfl,hb1⟩:=h1 hn;refine⟨b1,e1,ro1,rfl,hk _ _ hb1 λa l c hv e=>?_⟩;rcases ha with⟨rfl,_⟩ | ⟨b,rfl,h2,h3,h4,h5⟩
 ·cases hv
 ·cases hv;subst e;cases ys with
  | nil=>exact h4 rfl
  | cons y ys=>
   rw[h3]at hb1;simp only[Lt,Blk.cells.injEq]at hb1;exact Qd4 (h5 y (Ny ..)) hb1.1.symm
theorem YO.at {H0 H H':Qa} {v:Value} {ys:List Lf} {x:Lf} (hk:YO H H' v) (ha:Acc H0 H v ys) (h:x.At H):x.At H':=⟨h.1,h.2.1,hk.ints ha h.2.2.1,hk.ints ha h.2.2.2⟩
theorem YO.fms {H0 H H':Qa} {v u:Value} {ys xs:List Lf} (hk:YO H H' v) (ha:Acc H0 H v ys) (h:GG H u xs) (hne:∀a l c a' l' c',u=.slice (some a) l c->v=.slice (some a') l' c'->a.block≠a'.block):GG H' u xs:=by
 obtain⟨⟨a,cap,rfl,h1⟩,h2⟩:=h;refine⟨⟨a,cap,rfl,λhl=>?_⟩,λx hx=>hk.at ha (h2 x hx)⟩;obtain⟨b1,e1,ro1,rfl,hb1⟩:=h1 hl;exact⟨b1,e1,ro1,rfl,hk _ _ hb1 λa l c hv=>hne _ _ _ _ _ _ rfl hv⟩
theorem YO.next {H H':Qa} {v:Value} (_:YO H H' v):True:=trivial
theorem Acc.app {H0 H:Qa} {v:Value} {ys:List Lf} {x:Lf} {b1:Nat} {K:Value->Qa->Prop} (h:Acc H0 H v ys) (hx:Ext H0 H) (hw:H.Wf) (hxa:x.At H) (hl:ys.length<=100000) (hb1:H.get b1=some (.cells x.cells Qb false)) (hne:∀a l c,v=.slice (some a) l c->a.block≠b1)
  (hK:∀v' H',Ext H0 H'->H'.Wf->H.next<=H'.next->Acc H0 H' v' (ys++[x])->(∀a l c,v'=.slice (some a) l c->H.next<=a.block)->YO H H' v->K v' H'):Qdl Qb 10 112 v (.slice (some ⟨b1,0,none⟩) 1 1) H K:=by
 have hsrc:JA 10 (.slice (some ⟨b1,0,none⟩) 1 1) H=some (1,x.cells):=by
  have:=Qd3 (size:=10) (m:=1) (b:=b1) (o:=0) (cap:=1) (c:=x.cells) (e:=Qb) (ro:=false) (H:=H) hb1 (by decide) (by rw[Qn];decide);rw[this];rfl
 have a1:=W3 hxa;have hn0:=hx.next;rcases id h with⟨rfl,rfl⟩ | ⟨b,rfl,hb0,hgb,hyn,hya⟩
 ·refine QbB hsrc a1 (by decide) (by decide) (by decide) ?_;have hk:YO H (H.push (.cells x.cells Qb false)) (.slice none 0 0):=λid bl hg _=>by
   rw[Qg,Le (by have:=hw.lt hg;omega)];exact hg
  refine hK _ _ (hx.push _) (hw.push _) (by simp) (.inr ⟨H.next,rfl,hn0,by rw[Qg,Lc rfl];simp[Qo],by simp,λy hy=>?_⟩) (λa l c e=>by cases e;exact Lb _) hk;simp only[LH,Sa]at hy;subst hy;exact hk.at h hxa
 ·have hbl:=hw.lt hgb;have hbn:b≠b1:=hne _ _ _ rfl;refine QbA rfl hsrc a1 (by decide) (c:=Qo ys) hgb (by rw[QS];omega) (by omega) (by omega) (by unfold UNK;omega) ?_;have hk:YO H ((H.kill b).push (.cells (Qo ys++x.cells) Qb false)) (.slice (some ⟨b,0,none⟩) ys.length (UNK+10)):=λid bl hg hn=>by
   rw[Qg,Le (by have:=hw.lt hg;simp;omega),WW,Le (hn _ _ _ rfl)];exact hg
  have:=hK (.slice (some ⟨H.next,0,none⟩) (ys.length+1) (UNK+10)) ((H.kill b).push (.cells (Qo ys++x.cells) Qb false)) ((hx.kill hb0).push _) ((hw.kill _).push _) (by simp)
   (.inr ⟨H.next,by simp,hn0,by rw[Qg,Lc (by simp),Kg],by simp,λy hy=>?_⟩) (λa l c e=>by cases e;exact Lb _) hk
  ·exact this
  ·simp only[LI,Sa]at hy;rcases hy with hy | rfl
   ·exact hk.at h (hya y hy)
   ·exact hk.at h hxa
theorem Kh (f:Fn) (xs ys:Array Value):(Value.func f xs ys).cells.toList=[.func f xs ys]:=Nu rfl rfl
theorem Js (f:Fn) (xs ys:Array Value):(Value.func f xs ys).oneCell'=true:=Nu rfl rfl
theorem Qfa (f:FuncId) (l:List Value) (H:Qa) (k:Value->Qa->Prop):cvK (.func (.func f) #[] #[]) prog l H k=Qm prog f l H k:=by
 show Qm prog f (([]:List Value)++l++[]) H k=_;rw[LH,Na]
theorem Qjs (f:FuncId) (ys l:List Value) (H:Qa) (k:Value->Qa->Prop):cvK (.func (.func f) #[] ys.toArray) prog l H k=Qm prog f (l++ys) H k:=by
 show Qm prog f (([]:List Value)++l++ys) H k=_;rw[LH]
def QaC (H H':Qa) (u:Value) (L:List Fm):Prop:=Ext H H'∧∃ys:List Lf,ys.map (·.f)=L∧Acc H H' u ys∧ys.length<=6000∧∀y∈ys,y.Fr H.next
def lis:List (Int×Int×FuncId):=[(1,16,YF),(16,47,Xt),(48,115,XX),(116,135,XY),(136,262,YG),(263,322,Z0)]
def liC (x:Int×Int×FuncId):List Value:=[.int .i64 x.1,.int .i64 x.2.1,.func (.func x.2.2) #[] #[]]
theorem Vf (H:Qa):Qm prog X6 [] H λu H'=>u=.slice (some ⟨H.next,0,none⟩) 6 6∧H'=H.push (.cells (lis.flatMap liC) Qt false):=by
 refine GE λhw=>?_;simp only[Zk,sxA,sxB,Nat.reduceBEq,Nat.reduceEqDiff,reduceCtorEq,mxA,mxB,Nat.reduceAdd,reduceIte,Nat.reduceLeDiff,splice,Kh,Js,Kv,Nat.reduceMul,Nat.reduceLeDiff,N3];exact .mk (by simp) ⟨rfl,rfl⟩
theorem Qg0:∀ (l:List (Int×Int×FuncId)) (i:Nat) (p:Int×Int×FuncId),l[i]? = some p->((l.flatMap liC).drop (i * 3)).take 3=liC p
 | [],i,p,h=>by simp at h
 | q::l,0,p,h=>by
  simp at h;subst h;simp[liC]
 | q::l,i+1,p,h=>by
  have e:((q::l).flatMap liC)=liC q++l.flatMap liC:=by simp
  have n:(liC q).length=3:=rfl;rw[e,show(i+1) * 3=(liC q).length+i * 3 by rw[n];omega,B3,NK (by omega),LH,NL];exact Qg0 l i p (by simpa using h)
def YU (LL:FuncId->List Fm) (fr to:Int) (p:Fm->Bool) (l:List (Int×Int×FuncId)):List Fm:=l.flatMap λx=>bif decide (to<x.1)||decide (fr>x.2.1) then[] else(LL x.2.2).filter p
theorem YP {T:Qa->Prop} (hT:∀H H',H.Wf->T H->Ext H H'->T H') (LL:FuncId->List Fm) (hL:∀x∈lis,YN T x.2.2 (LL x.2.2)) (fr to:Int) (g:Value) (p:Fm->Bool) (H:Qa) (hg:Qlf H g p) (ht:T H):
  Qm prog WA [.int .i64 fr,.int .i64 to,g] H λu H'=>Ext H H'∧∃ys:List Lf,ys.map (·.f)=YU LL fr to p lis∧Acc H H' u ys∧ys.length<=6000∧∀y∈ys,y.Fr H.next:=by
 refine JN λhw=>?_;obtain⟨gf,gys,rfl,hg⟩:=hg;simp only[Yl,sxA,sxB,Nat.reduceBEq,Nat.reduceEqDiff,reduceCtorEq,mxA,mxB,Nat.reduceAdd,reduceIte,Nat.reduceLeDiff,splice];refine(Vf H).thenW ?_;rintro _ _ hn0 hw0 ⟨rfl,rfl⟩;simp only[sxA,sxB,Nat.reduceBEq,Nat.reduceEqDiff,reduceCtorEq,mxA,mxB,Nat.reduceAdd,reduceIte,Nat.reduceLeDiff,splice];have hbl0:(H.push (.cells (lis.flatMap liC) Qt false)).get H.next=some (.cells (lis.flatMap liC) Qt false):=by rw[Qg,Lc rfl]
 have hxp0:Ext H (H.push (.cells (lis.flatMap liC) Qt false)):=(Ext.refl H).push _;have hnp0:(H.push (.cells (lis.flatMap liC) Qt false)).next=H.next+1:=rfl;generalize H.push (.cells (lis.flatMap liC) Qt false)=Hp at hw0 hbl0 hxp0 hnp0;have htp:=hT _ _ hw ht hxp0;refine XH (λm A' H'=>∃ (i:Nat) (ys:List Lf),i<=6∧m=6 - i∧H'.Wf∧Ext Hp H'∧ys.map (·.f)=YU LL fr to p (lis.take i)∧ys.length<=i * 1000∧Acc Hp H' (A' 7) ys∧(∀y∈ys,y.Fr H.next)∧
  A' 0=.int .i64 fr∧A' 1=.int .i64 to∧A' 2=.func (.func gf) #[] gys.toArray∧A' 12=.slice (some ⟨H.next,0,none⟩) 6 6∧A' 13=.int .i64 6∧A' 14=.int .i64 i) 6 ?_ ?_
 ·refine⟨0,[],L7 _,rfl,hw0,.refl _,rfl,L7 _,?_,λy hy=>(by cases hy),?_,?_,?_,?_,?_,?_⟩
  all_goals simp only[uxA,uxB,Nat.reduceBEq]
  ·exact .inl ⟨rfl,rfl⟩
  all_goals rfl
 ·rintro m A' H' ⟨i,ys,hi,rfl,hw1,hx1,hys,hyl,hacc,hyf,r0,r1,r2,r12,r13,r14⟩;have ht1:=hT _ _ hw0 htp hx1;have hbl:H'.get H.next=some (.cells (lis.flatMap liC) Qt false):=by rw[hx1.get _ (hw0.lt hbl0)];exact hbl0
  simp only[sxA,sxB,Nat.reduceBEq,Nat.reduceEqDiff,reduceCtorEq,mxA,mxB,Nat.reduceAdd,reduceIte,Nat.reduceLeDiff,splice,r13,r14];refine Yk (λh2=>?_) (λh2=>?_)
  ·have h2:i<6:=by have:=Lg h2;omega
   have hp:lis[i]? = some (lis[i]'h2):=La h2;generalize hpe:lis[i]'h2=x at hp;have hxm:x∈lis:=Ln hp;have c1:(0:Int)<=i∧(i:Int)<((6:Nat):Int):=by omega
   have c3:(i:Int).toNat=i:=by omega
   have c4:i * 3+3<=18:=by omega
   have n1:(lis.flatMap liC).length=18:=rfl;obtain⟨xa,xb,xf⟩:=x;have d1:List.take 3 (List.drop (i * 3) (lis.flatMap liC))=[.int .i64 xa,.int .i64 xb,.func (.func xf) #[] #[]]:=Qg0 lis i _ hp;have ei:IntKind.i64.wrap ((i:Int)+1)=((i+1:Nat):Int):=by rw[w64 (by unfold I64;omega)];omega
   simp only[sxA,sxB,Nat.reduceBEq,Nat.reduceEqDiff,reduceCtorEq,mxA,mxB,Nat.reduceAdd,reduceIte,Nat.reduceLeDiff,splice,Kh,Js,r0,r1,r12,r14,c1,c3,c4,hbl,n1,d1];have htk:lis.take (i+1)=lis.take i++[(xa,xb,xf)]:=by rw[Nv,hp];rfl
   obtain⟨q1,e1⟩:∃c,decide (to<xa)=c:=⟨_,rfl⟩;obtain⟨q2,e2⟩:∃c,decide (fr>xb)=c:=⟨_,rfl⟩;obtain⟨Hn,hHn⟩:∃h,h=(H'.push (.cells [.int .i64 0,.int .i64 0,.nilFunc] Qt false)).set H'.next (.cells [.int .i64 xa,.int .i64 xb,.func (.func xf) #[] #[]] Qt false):=⟨_,rfl⟩;have hwn:Hn.Wf:=by rw[hHn];exact(hw1.push _).set (by rw[Qg,Lc rfl]) _
   have hxp:Ext H' Hn:=by rw[hHn];exact((Ext.refl H').push _).set (Lb _) _
   have hgn:Hn.get H'.next=some (.cells [.int .i64 xa,.int .i64 xb,.func (.func xf) #[] #[]] Qt false):=by rw[hHn,Wa,Lc rfl]
   have hnn:Hn.next=H'.next+1:=by rw[hHn];rfl
   simp only[<- hHn];have hskip:(q1||q2)=true->ys.map (·.f)=YU LL fr to p (lis.take (i+1)):=λh=>by
    rw[htk,YU,Bm,<- YU,<- hys];simp[e1,e2,h]
   have hadd:(q1||q2)=false->ys.map (·.f)++(LL xf).filter p=YU LL fr to p (lis.take (i+1)):=λh=>by
    rw[htk,YU,Bm,<- YU,<- hys];simp[e1,e2,h]
   cases q1<;>simp only[sxA,sxB,Nat.reduceBEq,Nat.reduceEqDiff,reduceCtorEq,mxA,mxB,Nat.reduceAdd,reduceIte,Nat.reduceLeDiff,splice,r0,r1,r14,e1,e2,ei,hgn]
   ·cases q2<;>simp only[sxA,sxB,Nat.reduceBEq,Nat.reduceEqDiff,reduceCtorEq,mxA,mxB,Nat.reduceAdd,reduceIte,Nat.reduceLeDiff,splice,r0,r1,r14,ei,hgn,Qfa]
    ·refine(hL _ hxm Hn (hT _ _ hw1 ht1 hxp)).thenW ?_;rintro u H2 hn2 hw2 ⟨hx2,xs,hxs,hacx,hxl,hxfr⟩;have hfm:=hacx.fms;have hfr:∀a l c,u=.slice (some a) l c->Hn.next<=a.block:=λa l c e=>by
      rcases hacx with⟨rfl,_⟩ | ⟨b,rfl,hb,_⟩
      ·cases e
      ·cases e;exact hb
     obtain⟨aa,cap,rfl,hsl⟩:=id hfm.1;simp only[sxA,sxB,Nat.reduceBEq,Nat.reduceEqDiff,reduceCtorEq,mxA,mxB,Nat.reduceAdd,reduceIte,Nat.reduceLeDiff,splice];have ha2:=(hacc.ext hw1 hxp).ext hwn hx2;have hx02:Ext Hp H2:=(hx1.trans hxp).trans hx2;have hge:H.next<=Hn.next:=by have:=hx1.next;have:=hxp.next;omega
     refine XH (λm A2 H3=>∃ (k:Nat) (zs:List Lf),k<=xs.length∧m=xs.length - k∧H3.Wf∧Ext Hp H3∧zs.map (·.f)=ys.map (·.f)++((xs.take k).map (·.f)).filter p∧zs.length<=ys.length+k∧Acc Hp H3 (A2 7) zs∧GG H3 (.slice aa xs.length cap) xs∧(∀z∈zs,z.Fr H.next)∧
      (∀a l c b,A2 7=.slice (some a) l c->aa=some b->b.block≠a.block)∧
      A2 0=.int .i64 fr∧A2 1=.int .i64 to∧A2 2=.func (.func gf) #[] gys.toArray∧A2 12=.slice (some ⟨H.next,0,none⟩) 6 6∧A2 13=.int .i64 6∧A2 14=.int .i64 i∧A2 30=.slice aa xs.length cap∧A2 31=.int .i64 xs.length∧A2 32=.int .i64 k) xs.length ?_ ?_
     ·refine⟨0,ys,L7 _,rfl,hw2,hx02,by simp,by omega,?_,hfm,hyf,?_,?_,?_,?_,?_,?_,?_,?_,?_,?_⟩
      all_goals simp only[uxA,uxB,Nat.reduceBEq,r0,r1,r2,r12,r13,r14]
      ·exact ha2
      ·intro a l c b hv hb;subst hb;have h1:=hfr _ _ _ rfl;rcases hacc with⟨h,_⟩ | ⟨b2,h,_,h3,_⟩
       ·rw[h]at hv;cases hv
       ·rw[h]at hv;cases hv;have:=hw1.lt h3;simp only;omega
      all_goals rfl
     ·rintro m A2 H3 ⟨k,zs,hk,rfl,hw3,hx3,hzs,hzl,hac3,hfm3,hzf,hne3,s0,s1,s2,s12,s13,s14,s30,s31,s32⟩;simp only[sxA,sxB,Nat.reduceBEq,Nat.reduceEqDiff,reduceCtorEq,mxA,mxB,Nat.reduceAdd,reduceIte,Nat.reduceLeDiff,splice,s31,s32];refine Yk (λh3=>?_) (λh3=>?_)
      ·have h3:k<xs.length:=by have:=Lg h3;omega
       obtain⟨⟨a4,cap4,e4,hsl3⟩,hxa3⟩:=id hfm3;cases e4;obtain⟨b1,e1',ro1,rfl,hb1⟩:=hsl3 (by omega);have d1:(0:Int)<=k∧(k:Int)<xs.length:=by omega
       have d3:(k:Int).toNat=k:=by omega
       have d4:k * 10+10<=xs.length * 10:=by omega
       have ek:IntKind.i64.wrap ((k:Int)+1)=((k+1:Nat):Int):=by rw[w64 (by unfold I64;omega)];omega
       have hpk:=La h3;have dd:=Yp xs k _ hpk;have nn:=QS xs;have hym:xs[k]∈xs:=Nb h3;have wk:=hxa3 _ hym;have wf:(xs[k]).Fr H.next:=(hxfr _ hym).mono hge;have hxtk:xs.take (k+1)=xs.take k++[xs[k]]:=NM h3;generalize xs[k]=x at hpk dd hym wk wf hxtk;have ak:=W3 wk;simp only[sxA,sxB,Nat.reduceBEq,Nat.reduceEqDiff,reduceCtorEq,mxA,mxB,Nat.reduceAdd,reduceIte,Nat.reduceLeDiff,splice,s0,s1,s2,s30,s32,d1,d3,d4,hb1,nn,dd,Qn,Q4,ak];obtain⟨G1,hG1⟩:∃h,h=(H3.push (.cells [.int .i64 0,.slice none 0 0,.slice none 0 0,.int .i64 0,.int .i64 0,.int .i64 0,.int .i64 0,.int .i64 0,.bool false,.int .i64 0] Qb false)).set H3.next (.cells x.cells Qb false):=⟨_,rfl⟩;have hwG1:G1.Wf:=by rw[hG1];exact(hw3.push _).set (by rw[Qg,Lc rfl]) _
       have hxG1:Ext H3 G1:=by rw[hG1];exact((Ext.refl H3).push _).set (Lb _) _
       have hgG1:G1.get H3.next=some (.cells x.cells Qb false):=by rw[hG1,Wa,Lc rfl]
       have hnG1:G1.next=H3.next+1:=by rw[hG1];rfl
       simp only[<- hG1,Qjs];have hxH3:Ext H H3:=hxp0.trans hx3;refine(hg x G1 (hxH3.trans hxG1) (wk.ext hw3 hxG1)).thenW ?_;rintro _ G2 hn4 hw4 ⟨rfl,m4,rfl⟩;simp only[G9]at hn4;have hxG2:Ext H3 (G1.up m4):=hxG1.up hn4;have hgG2:(G1.up m4).get H3.next=some (.cells x.cells Qb false):=by rw[Qbo];exact hgG1
       have hnG2:H3.next+1<=(G1.up m4).next:=by simp only[G9];omega
       generalize G1.up m4=G2 at hw4 hxG2 hgG2 hnG2;have hfil:((xs.take (k+1)).map (·.f)).filter p=((xs.take k).map (·.f)).filter p++bif p x.f then[x.f] else[]:=by
        rw[hxtk,N6,Re];cases hpx:p x.f<;>simp[hpx]
       simp only[sxA,sxB,Nat.reduceBEq,Nat.reduceEqDiff,reduceCtorEq,mxA,mxB,Nat.reduceAdd,reduceIte,Nat.reduceLeDiff,splice];cases hpx:p x.f
       ·rw[hpx]at hfil;simp only[sxA,sxB,Nat.reduceBEq,Nat.reduceEqDiff,reduceCtorEq,mxA,mxB,Nat.reduceAdd,reduceIte,Nat.reduceLeDiff,splice,s32,ek];refine⟨xs.length - (k+1),by omega,k+1,zs,by omega,rfl,hw4,hx3.trans hxG2,by rw[hfil,hzs];simp,by omega,?_,hfm3.ext hw3 hxG2,hzf,?_,?_,?_,?_,?_,?_,?_,?_,?_,?_⟩
        all_goals simp only[uxA,uxB,Nat.reduceBEq,s0,s1,s2,s12,s13,s14,s30,s31]
        ·exact hac3.ext hw3 hxG2
        ·exact λa l c b h1 h2=>hne3 a l c b h1 (by rw[h2])
       ·rw[hpx]at hfil;simp only[sxA,sxB,Nat.reduceBEq,Nat.reduceEqDiff,reduceCtorEq,mxA,mxB,Nat.reduceAdd,reduceIte,Nat.reduceLeDiff,splice,hgG2,Qn,Q4,ak];have hac5:=(hac3.ext hw3 hxG2).ext hw4 ((Ext.refl G2).push (.cells x.cells Qb false));have hx5:Ext H3 (G2.push (.cells x.cells Qb false)):=hxG2.push _;have hb5:=hfm3.ext hw3 hx5;refine Acc.app hac5 (hx3.trans hx5) (hw4.push _) (wk.ext hw3 hx5) (by omega) (by rw[Qg,Lc rfl]) (λa l c hv e=>?_) λv' H6 y1 y2 y3 y4 y5 y6=>?_
        ·rcases hac3 with⟨h,_⟩ | ⟨b2,h,_,h3',_⟩
         ·rw[h]at hv;cases hv
         ·rw[h]at hv;cases hv;have:=hw3.lt h3';simp only at e;omega
        ·simp only[sxA,sxB,Nat.reduceBEq,Nat.reduceEqDiff,reduceCtorEq,mxA,mxB,Nat.reduceAdd,reduceIte,Nat.reduceLeDiff,splice,s32,ek];refine⟨xs.length - (k+1),by omega,k+1,zs++[x],by omega,rfl,y2,y1,by rw[hfil,N6,hzs];simp,by simp;omega,?_,y6.fms hac5 hb5 λa l c a' l' c' ha hv=>?_,?_,?_,?_,?_,?_,?_,?_,?_,?_,?_,?_⟩
         rotate_left 2
         ·intro z hz;simp only[LI,Sa]at hz;rcases hz with hz | rfl
          ·exact hzf z hz
          ·exact wf
         ·intro a l c b hv hb;cases hb;simp only[uxA,uxB,Nat.reduceBEq]at hv;have h1:=y5 a l c hv;have h2:=hw3.lt hb1;simp only[Wi]at h1;simp only;omega
         rotate_right 2
         ·simp only[uxA,uxB,Nat.reduceBEq];exact y4
         ·cases ha;exact hne3 _ _ _ _ hv rfl
         all_goals simp only[uxA,uxB,Nat.reduceBEq,s0,s1,s2,s12,s13,s14,s30,s31]
      ·have h3:k=xs.length:=by have:=Ll h3;omega
       subst h3;simp only[sxA,sxB,Nat.reduceBEq,Nat.reduceEqDiff,reduceCtorEq,mxA,mxB,Nat.reduceAdd,reduceIte,Nat.reduceLeDiff,splice,s14,ei];refine⟨6 - (i+1),by omega,i+1,zs,by omega,rfl,hw3,hx3,?_,by omega,?_,hzf,?_,?_,?_,?_,?_,?_⟩
       ·rw[<- hadd rfl,hzs,LF (Lb _),hxs]
       all_goals simp only[uxA,uxB,Nat.reduceBEq,s0,s1,s2,s12,s13]
       exact hac3
    ·refine⟨6 - (i+1),by omega,i+1,ys,by omega,rfl,hwn,hx1.trans hxp,hskip rfl,by omega,?_,hyf,?_,?_,?_,?_,?_,?_⟩
     all_goals simp only[uxA,uxB,Nat.reduceBEq,r0,r1,r2,r12,r13]
     exact hacc.ext hw1 hxp
   ·refine⟨6 - (i+1),by omega,i+1,ys,by omega,rfl,hwn,hx1.trans hxp,hskip rfl,by omega,?_,hyf,?_,?_,?_,?_,?_,?_⟩
    all_goals simp only[uxA,uxB,Nat.reduceBEq,r0,r1,r2,r12,r13]
    exact hacc.ext hw1 hxp
  ·have h2:i=6:=by have:=Ll h2;omega
   subst h2;simp only[sxA,sxB,Nat.reduceBEq,Nat.reduceEqDiff,reduceCtorEq,mxA,mxB,Nat.reduceAdd,reduceIte,Nat.reduceLeDiff,splice,Jr];exact .mk (by have:=hx1.next;omega) ⟨hxp0.trans hx1,ys,hys,hacc.mono (by omega),by omega,hyf⟩
def cS (id:Nat) (l:List Int):Value:=match l with
 | []=>.slice none 0 0
 | _::_=>.slice (some ⟨id,0,none⟩) l.length (UNK+1)
def Kw (M:Nat):Nat->List Fm->List Lf
 | _,[]=>[]
 | i,x::xs=>⟨x,cS (M+1+2 * i) x.shapes,cS (M+2+2 * i) x.slots⟩::Kw M (i+1) xs
theorem QbH (M:Nat):∀ (L:List Fm) (i k:Nat),(Kw M i L)[k]? = (L[k]?).map λx=>⟨x,cS (M+1+2 * (i+k)) x.shapes,cS (M+2+2 * (i+k)) x.slots⟩
 | [],i,k=>by simp[Kw]
 | x::xs,i,0=>by simp[Kw]
 | x::xs,i,k+1=>by
  simp only[Kw,Bg,QbH M xs (i+1) k];rw[show i+1+k=i+(k+1) by omega]
theorem Ki (M:Nat):∀ (L:List Fm) (i:Nat),(Kw M i L).length=L.length
 | [],i=>rfl
 | x::xs,i=>by simp[Kw,Ki M xs (i+1)]
def YR:List Fm->List Row
 | []=>[]
 | x::xs=>⟨0,ints x.shapes,3,true⟩::⟨0,ints x.slots,3,true⟩::YR xs
theorem YH:∀L:List Fm,(YR L).length=2 * L.length
 | []=>rfl
 | x::xs=>by simp[YR,YH xs];omega
theorem VI:∀ (L:List Fm) (k:Nat) (r:Row),(YR L)[k]? = some r->∃x,L[k / 2]? = some x∧r=⟨0,if k % 2=0 then ints x.shapes else ints x.slots,3,true⟩
 | [],k,r,h=>by simp[YR]at h
 | x::xs,0,r,h=>by simp[YR]at h;exact⟨x,rfl,by simp[<- h]⟩
 | x::xs,1,r,h=>by simp[YR]at h;exact⟨x,rfl,by simp[<- h]⟩
 | x::xs,k+2,r,h=>by
  simp only[YR,Bg]at h;obtain⟨y,h1,h2⟩:=VI xs k r h;refine⟨y,by rw[show(k+2) / 2=k / 2+1 by omega];simpa using h1,?_⟩;rw[h2,show(k+2) % 2=k % 2 by omega]
def WB (M:Nat) (L:List Fm):List Row:=match L with
 | []=>[]
 | _::_=>⟨0,Qo (Kw M 0 L),Qb,true⟩::YR L
def Qfb (M:Nat) (L:List Fm):Value:=match L with
 | []=>.slice none 0 0
 | _::_=>.slice (some ⟨M,0,none⟩) L.length (UNK+10)
theorem Qlg (id:Nat) (l:List Int):okD 6 (cS id l)=true:=by cases l<;>rfl
theorem Qd5 (l:List Int):(ints l).all (okD 6)=true:=by
 rw[Li];intro v hv;simp only[ints,N4]at hv;obtain⟨x,_,rfl⟩:=hv;rfl
theorem Qd6 (M:Nat):∀ (L:List Fm) (i:Nat),(Qo (Kw M i L)).all (okD 6)=true
 | [],i=>rfl
 | x::xs,i=>by
  have ih:=Qd6 M xs (i+1);simp only[Kw,Qo,Ba,Fo,Lm]at ih ⊢;refine⟨?_,ih⟩;simp only[Lf.cells,Bv,BI,Qlg,Be,LJ];rfl
theorem QbI:∀ (L:List Fm),∀r∈YR L,r.ro=true∧r.c.all (okD 6)=true
 | [],r,h=>by cases h
 | x::xs,r,h=>by
  simp only[YR,LK]at h;rcases h with rfl | rfl | h
  ·exact⟨rfl,Qd5 _⟩
  ·exact⟨rfl,Qd5 _⟩
  ·exact QbI xs r h
theorem GJ (M:Nat) (L:List Fm):∀r∈WB M L,r.ro=true∧r.c.all (okD 6)=true:=λr h=>by
 cases L with
 | nil=>cases h
 | cons x xs=>
  simp only[WB,LK]at h;rcases h with rfl | h
  ·exact⟨rfl,Qd6 M _ 0⟩
  ·exact QbI _ r h
theorem Qd7 (M:Nat) (L:List Fm):okD 6 (Qfb M L)=true:=by cases L<;>rfl
theorem V.newSlice {ρ:Ren} {b n cap s:Nat} {z:Value} (h:V ρ (.slice (some ⟨b,0,none⟩) n cap) z):∃inf:QT,(∃i,ρ b=some i∧inf.at_=i.at_)∧∀ (ρc:Ren) (id:Nat),ρc id=some inf->V ρc (.slice (some ⟨id,0,none⟩) n (UNK+s)) z:=by
 cases h with
 | same _ hp=>simp[Ab.plain]at hp
 | slice _ _ _ _ cap' i a' h0 h1 h2 h3 h4 h5=>
  refine⟨⟨i.at_,cap' * s,s⟩,⟨i,h0,rfl⟩,λρc id hid=>.slice id 0 n (UNK+s) cap' ⟨i.at_,cap' * s,s⟩ a' hid h1 h2 h3 (λ_=>⟨(NL ..).symm,LP _⟩) (λhc=>by omega)⟩
theorem VJ {M:Nat} {H1:Qa} {v:Value} {ys:List Lf} {H0:Qa} (hm:H0.next=M) (ha:Acc H0 H1 v ys) (hf:∀y∈ys,y.Fr M):Pic prog M H1 v (Qfb M (ys.map (·.f))) (WB M (ys.map (·.f))):=by
 intro ρ1 w v' hs hv;rcases ha with⟨rfl,rfl⟩ | ⟨b,rfl,hb0,hgb,hyn,hya⟩
 ·refine⟨λ_=>0,λ_=>⟨⟨0,0,none⟩,0,0⟩,λk hk=>by simp[WB]at hk,?_,λk r hr=>by simp[WB]at hr⟩;have:=V.plain_eq hv rfl;subst this;exact .same _ rfl
 ·obtain⟨inf0,⟨i0,hi0,hat0⟩,hV0⟩:=V.newSlice (s:=10) hv;have hlive:=hs.live b _ i0 hgb hi0;obtain⟨y0,ys0,rfl⟩:∃y0 ys0,ys=y0::ys0:=by
   cases ys with
   | nil=>exact absurd rfl hyn
   | cons a l=>exact⟨a,l,rfl⟩
  have eL:(y0::ys0).map (·.f)=y0.f::ys0.map (·.f):=rfl;generalize hys:y0::ys0=ys at *;generalize hL:ys.map (·.f)=L at *;have hLlen:L.length=ys.length:=by rw[<- hL];simp
  have hrows:WB M L=⟨0,Qo (Kw M 0 L),Qb,true⟩::YR L:=by rw[eL];rfl
  have hcv:Qfb M L=.slice (some ⟨M,0,none⟩) ys.length (UNK+10):=by rw[<- hLlen,eL];rfl
  -- what a row of numbers needs
  have one:∀ (l:List Int) (s:Value) (z:Value),SlF M s l->Yo H1 s l.length (ints l)->V ρ1 s z->∃ (src:Nat) (inf:QT),(M<=src∧∃i,ρ1 src=some i∧inf.at_=i.at_)∧(∀ (ρc:Ren) (id:Nat),ρc id=some inf->V ρc (cS id l) z)∧∀ρc,Qq prog ρc inf w (.cells (ints l) 3 true):=by
   intro l s z hsf hsl hz;rcases hsf with⟨rfl,rfl⟩ | ⟨hl,b1,cap,rfl,hb1,_⟩
   ·have:=V.plain_eq hz rfl;subst this;exact⟨b,inf0,⟨by omega,i0,hi0,hat0⟩,λρc id _=>.same _ rfl,λρc=>⟨by rw[hat0];exact hlive.lt,λj v hj=>by simp[ints]at hj⟩⟩
   ·obtain⟨inf,⟨i,hi,hat⟩,hV⟩:=V.newSlice (s:=1) hz;obtain⟨a,c,e,h1⟩:=hsl;cases e;obtain⟨b2,e2,ro2,e3,hg2⟩:=h1 (Rj.2 hl);cases e3;have hl2:=hs.live b1 _ i hg2 hi;refine⟨b1,inf,⟨hb1,i,hi,hat⟩,λρc id hid=>?_,λρc=>⟨by rw[hat];exact hl2.lt,λj v hj=>?_⟩⟩
    ·have:=hV ρc id hid;cases l with
     | nil=>exact absurd rfl hl
     | cons _ _=>exact this
    ·obtain⟨v1,h3,h4⟩:=hl2.cellAt hj;rw[hat];refine⟨v1,h3,?_⟩;have hpl:Ab.plain v=true:=by
      have:=Ln hj;simp only[ints,N4]at this;obtain⟨x,_,rfl⟩:=this;rfl
     rw[h4.plain_eq hpl];exact .same _ hpl
  -- the rows,one by one
  have hall:∀k,k<2 * ys.length->∃ (p:Nat×QT),(M<=p.1∧∃i,ρ1 p.1=some i∧p.2.at_=i.at_)∧∀y,ys[k / 2]? = some y->((∀z,w.cell? (i0.at_.add (k / 2 * 10+1+k % 2))=some z->∀ (ρc:Ren) (id:Nat),ρc id=some p.2->V ρc (cS id (if k % 2=0 then y.f.shapes else y.f.slots)) z)∧∀ρc,Qq prog ρc p.2 w (.cells (if k % 2=0 then ints y.f.shapes else ints y.f.slots) 3 true)):=by
   intro k hk;have hk2:k / 2<ys.length:=by omega
   have hy:=La hk2;have hym:=Ln hy;generalize ys[k / 2]'hk2=y at hy hym;have hy1:=hya y hym;have hy2:=hf y hym
   by_cases h0:k % 2=0
   ·have hc:(Qo ys)[k / 2 * 10+1]? = some y.sv:=by rw[XZ ys _ 1 y hy (by decide)];rfl
    obtain⟨z,hz1,hz2⟩:=hlive.cellAt hc;obtain⟨src,inf,h1,h2,h3⟩:=one _ _ _ hy2.1 hy1.2.2.1 hz2;refine⟨(src,inf),h1,λy' hy'=>?_⟩;rw[hy]at hy';cases hy';simp only[h0,N3,N9];exact⟨λz' hz' ρc id hid=>by rw[hz1]at hz';cases hz';exact h2 ρc id hid,h3⟩
   ·have hc:(Qo ys)[k / 2 * 10+2]? = some y.tv:=by rw[XZ ys _ 2 y hy (by decide)];rfl
    obtain⟨z,hz1,hz2⟩:=hlive.cellAt hc;obtain⟨src,inf,h1,h2,h3⟩:=one _ _ _ hy2.2 hy1.2.2.2 hz2;refine⟨(src,inf),h1,λy' hy'=>?_⟩;rw[hy]at hy';cases hy';simp only[h0,LN,show k % 2=1 by omega];exact⟨λz' hz' ρc id hid=>by rw[hz1]at hz';cases hz';exact h2 ρc id hid,h3⟩
  have hpick:∃g:Nat->Nat×QT,∀k,k<2 * ys.length->(M<=(g k).1∧∃i,ρ1 (g k).1=some i∧(g k).2.at_=i.at_)∧∀y,ys[k / 2]? = some y->((∀z,w.cell? (i0.at_.add (k / 2 * 10+1+k % 2))=some z->∀ (ρc:Ren) (id:Nat),ρc id=some (g k).2->V ρc (cS id (if k % 2=0 then y.f.shapes else y.f.slots)) z)∧∀ρc,Qq prog ρc (g k).2 w (.cells (if k % 2=0 then ints y.f.shapes else ints y.f.slots) 3 true)):=
   ⟨λk=>if h:k<2 * ys.length then(hall k h).choose else(0,inf0),λk hk=>by simp only[hk,dif_pos];exact(hall k hk).choose_spec⟩
  obtain⟨g,hg⟩:=hpick;have hlenr:(WB M L).length=1+2 * ys.length:=by rw[hrows];simp[YH,hLlen];omega
  refine⟨λk=>if k=0 then b else(g (k - 1)).1,λk=>if k=0 then inf0 else(g (k - 1)).2,λk hk=>?_,?_,λk r hr=>?_⟩
  ·by_cases h0:k=0
   ·subst h0;exact⟨by simp;omega,i0,hi0,hat0⟩
   ·simp only[h0,LN];exact(hg (k - 1) (by omega)).1
  ·rw[hcv];refine hV0 _ M ?_;simp[QaD,hlenr]
  ·have hid:∀k,k<2 * ys.length->QaD M (WB M L).length ρ1 (λk=>if k=0 then inf0 else(g (k - 1)).2) (M+1+k)=some (g k).2:=λk hk=>by
    unfold QaD;rw[Le (by omega),Lc (by omega)];simp only[show ¬M+1+k - M=0 by omega,LN,show M+1+k - M - 1=k by omega]
   generalize QaD M (WB M L).length ρ1 (λk=>if k=0 then inf0 else(g (k - 1)).2)=ρc at hid;rw[hrows]at hr;cases k with
   | zero=>
    simp at hr;subst hr;simp only[N3];refine⟨by rw[hat0];exact hlive.lt,λj x hj=>?_⟩;rw[hat0];have hjl:j<(Qo (Kw M 0 L)).length:=(Lk.1 hj).1;rw[QS,Ki,hLlen]at hjl;have hq:j / 10<ys.length:=by omega
    have hy:=La hq;have hym:=Ln hy;generalize ys[j / 10]'hq=y at hy hym;have hLy:L[j / 10]? = some y.f:=by rw[<- hL];simp[hy]
    have hcan:=QbH M L 0 (j / 10);rw[hLy]at hcan;have ej:j=j / 10 * 10+j % 10:=by omega
    have hr10:j % 10<10:=Rm _ (by decide);rw[Dh]at hcan;have hx1:=XZ _ _ _ _ hcan hr10;have hx2:=XZ _ _ _ _ hy hr10;rw[<- ej]at hx1 hx2;rw[hj]at hx1;have h1:=hg (2 * (j / 10)) (by omega);have h2:=hg (2 * (j / 10)+1) (by omega);rw[show 2 * (j / 10) / 2=j / 10 by omega,show 2 * (j / 10) % 2=0 by omega]at h1;rw[show(2 * (j / 10)+1) / 2=j / 10 by omega,show(2 * (j / 10)+1) % 2=1 by omega]at h2;have h1:=(h1.2 y hy).1;have h2:=(h2.2 y hy).1;simp only[N3,N9]at h1;simp only[show ¬ (1:Nat)=0 by decide,LN]at h2;have hp1:=hid (2 * (j / 10)) (by omega);have hp2:=hid (2 * (j / 10)+1) (by omega);generalize j % 10=r at hr10 ej hx1 hx2;have plainCase:∀q,(Qo ys)[j]? = some q->Ab.plain q=true->x=q->∃v',w.cell? (i0.at_.add j)=some v'∧V ρc x v':=λq hq1 hq2 hq3=>by
     obtain⟨z,hz1,hz2⟩:=hlive.cellAt hq1;refine⟨z,hz1,?_⟩;rw[hz2.plain_eq hq2,hq3];exact .same _ hq2
    have hcase:r=0∨r=1∨r=2∨r=3∨r=4∨r=5∨r=6∨r=7∨r=8∨r=9:=by omega
    rcases hcase with rfl | rfl | rfl | rfl | rfl | rfl | rfl | rfl | rfl | rfl
    ·exact plainCase _ hx2 rfl (by simpa[Lf.cells] using hx1)
    ·have hx1:x=cS (M+1+2 * (0+j / 10)) y.f.shapes:=by simpa[Lf.cells] using hx1
     obtain⟨z,hz1,hz2⟩:=hlive.cellAt hx2;refine⟨z,hz1,?_⟩;rw[hx1,LP];exact h1 z (by rw[<- ej];exact hz1) ρc _ hp1
    ·have hx1:x=cS (M+2+2 * (0+j / 10)) y.f.slots:=by simpa[Lf.cells] using hx1
     obtain⟨z,hz1,hz2⟩:=hlive.cellAt hx2;refine⟨z,hz1,?_⟩;rw[hx1,LP,show M+2+2 * (j / 10)=M+1+(2 * (j / 10)+1) by omega];exact h2 z (by rw[show j / 10 * 10+1+1=j by omega];exact hz1) ρc _ hp2
    all_goals exact plainCase _ hx2 rfl (by simpa[Lf.cells] using hx1)
   | succ k=>
    simp only[Bg]at hr;have hkl:k<2 * ys.length:=by have:=(Lk.1 hr).1;rw[YH,hLlen]at this;exact this
    obtain⟨x,h1,rfl⟩:=VI L k r hr;have hq:k / 2<ys.length:=by omega
    have hy:=La hq;generalize ys[k / 2]'hq=y at hy;have:x=y.f:=by rw[<- hL]at h1;simp[hy]at h1;exact h1.symm
    subst this;simp only[show ¬k+1=0 by omega,LN,Nat.add_sub_cancel];exact((hg k hkl).2 y hy).2 ρc
def iI (k:Nat):Int:=bif Nat.beq k 0 then .negSucc 0 else .ofNat (k - 1)
def mkF (op pre mp code dg w vx l:Nat) (sh sl:List Nat):Fm:=⟨.ofNat op,.ofNat pre,.ofNat mp,.ofNat code,iI dg,iI w,.ofNat l,Nat.beq vx 1,sh.map .ofNat,sl.map .ofNat⟩
def Jt (v:Value) (n:Int):Bool:=match v with | .int .i64 m=>Yh 8 (.int .i64 m) (.int .i64 n) | _=>false
theorem XK {v:Value} {n:Int} (h:Jt v n=true):v=.int .i64 n:=by
 unfold Jt at h;split at h
 ·exact Yy 8 _ _ h
 ·cases h
def Qdo (v:Value) (b:Bool):Bool:=match v with | .bool c=>(bif c then b else !b) | _=>false
theorem Qfc {v:Value} {b:Bool} (h:Qdo v b=true):v=.bool b:=by
 unfold Qdo at h;split at h
 ·rename_i c;cases c<;>cases b<;>first | rfl | cases h
 ·cases h
def QkM (n c:Nat):Bool:=Nat.beq c (UNK+1)||(Nat.ble n c&&Nat.ble (c+1) UNK)
theorem Qjt {n c:Nat} (h:QkM n c=true):QjJ n c:=by
 simp only[QkM,Nw,Lm,QV,Lv,BL]at h;rcases h with h | ⟨h1,h2⟩
 ·exact .inl h
 ·exact .inr ⟨h1,h2⟩
def Qju (G:Nat) (rs:List Row) (v:Value) (l:List Int):Bool:=match l with
 | []=>Yh 8 v (.slice none 0 0)
 | _::_=>match v with
  | .slice (some a) n c=>Nat.ble G a.block&&(Nat.beq a.off 0&&(X4 a&&(Nat.beq n l.length&&(Nat.ble n 1000&&(QkM n c&&(match rs[a.block - G]? with | some r=>Wv (Yh 8) r.c (ints l) | none=>false))))))
  | _=>false
def Qjv (G:Nat) (rs:List Row):List Value->List Fm->Bool
 | [],[]=>true
 | a0::a1::a2::a3::a4::a5::a6::a7::a8::a9::cs,x::xs=>Jt a0 x.op&&(Qju G rs a1 x.shapes&&(Qju G rs a2 x.slots&&(Jt a3 x.pre&&(Jt a4 x.map&&(Jt a5 x.code&&(Jt a6 x.digit&&(Jt a7 x.w&&(Qdo a8 x.vex&&(Jt a9 x.l&&Qjv G rs cs xs)))))))))
 | _,_=>false
def Qjw (G:Nat) (rs:List Row) (u:Value) (L:List Fm):Bool:=match u with
 | .slice (some a) n c=>Nat.ble G a.block&&(Nat.beq a.off 0&&(X4 a&&(Nat.beq n L.length&&(Nat.ble n 1000&&(Nat.ble 1 n&&(Nat.beq c (UNK+10)&&(match rs[a.block - G]? with | some r=>Nat.beq r.e Qb&&(!r.ro&&Qjv G rs r.c L) | none=>false)))))))
 | _=>false
theorem JQ {a:Addr} (h:X4 a=true):a.spot=none:=by
 unfold X4 at h;split at h
 ·assumption
 ·cases h
section
variable {τ:Nat->Nat} {G:Nat} {rs:List Row} {H:Qa}
theorem Qg1 {b:Nat} (h:G<=b):shM τ G H.next b=H.next+(b - G):=by
 unfold shM;rw[XV];simp[show ¬b<G by omega]
theorem Qg2 (sh:Nat->Nat) (l:List Int):(ints l).map (shW sh 6)=ints l:=by
 unfold ints;rw[Ht];exact DC λx _=>Vy sh 6 _ rfl
theorem Qd8 {v:Value} {l:List Int} (h:Qju G rs v l=true):l.length<=1000∧Yo (QY (shM τ G H.next) rs H) (shW (shM τ G H.next) 6 v) l.length (ints l)∧SlF H.next (shW (shM τ G H.next) 6 v) l:=by
 cases l with
 | nil=>
  have:=Yy 8 _ _ (show Yh 8 v (.slice none 0 0)=true from h);subst this;exact⟨by simp,⟨none,0,rfl,λh=>by simp at h⟩,.inl ⟨rfl,rfl⟩⟩
 | cons x l=>
  unfold Qju at h;simp only at h;split at h
  ·rename_i a n cap;simp only[Lm,QV,Lv,BL]at h;obtain⟨h1,h2,h3,h4,h5,hcp,h6⟩:=h;split at h6
   ·rename_i r hr;have h6:=Jh (Yy 8) _ _ h6;obtain⟨ab,ao,asp⟩:=a
    replace h3:=JQ h3
    simp only at h1 h2 h3 hr;subst h2;subst h3;subst h4;have hk:=(Lk.1 hr).1;have e1:shW (shM τ G H.next) 6 (.slice (some ⟨ab,0,none⟩) (x::l).length cap)=.slice (some ⟨H.next+(ab - G),0,none⟩) (x::l).length cap:=by
     show Value.slice (some ⟨shM τ G H.next ab,0,none⟩) _ _=_;rw[Qg1 h1]
    rw[e1];refine⟨h5,⟨_,_,rfl,λ_=>⟨H.next+(ab - G),r.e,r.ro,rfl,?_⟩⟩,.inr ⟨by simp,_,_,rfl,by omega,Qjt hcp⟩⟩;rw[Xz,Lc ⟨by omega,by omega⟩,show H.next+(ab - G) - H.next=ab - G by omega,hr];show some (Blk.cells (r.c.map (shW (shM τ G H.next) 6)) r.e r.ro)=_;rw[h6,Qg2]
   ·cases h6
  ·cases h
theorem Qd9:∀ (cs:List Value) (L:List Fm),Qjv G rs cs L=true->∃xs:List Lf,xs.map (·.f)=L∧cs.map (shW (shM τ G H.next) 6)=Qo xs∧∀x∈xs,x.At (QY (shM τ G H.next) rs H)∧x.Fr H.next
 | [],[],_=>⟨[],rfl,rfl,λx h=>by cases h⟩
 | a0::a1::a2::a3::a4::a5::a6::a7::a8::a9::cs,x::L,h=>by
  simp only[Qjv,Lm]at h;obtain⟨h0,h1,h2,h3,h4,h5,h6,h7,h8,h9,hr⟩:=h;obtain⟨xs,e1,e2,e3⟩:=Qd9 cs L hr;have i0:=XK h0;have i3:=XK h3;have i4:=XK h4;have i5:=XK h5;have i6:=XK h6;have i7:=XK h7;have i8:=Qfc h8;have i9:=XK h9;subst i0 i3 i4 i5 i6 i7 i8 i9;obtain⟨s1,s2,s3⟩:=Qd8 (τ:=τ) (H:=H) h1;obtain⟨t1,t2,t3⟩:=Qd8 (τ:=τ) (H:=H) h2;refine⟨⟨x,shW (shM τ G H.next) 6 a1,shW (shM τ G H.next) 6 a2⟩::xs,by simp[e1],?_,λy hy=>?_⟩
  rotate_left
  ·rcases LK.1 hy with rfl | hy
   ·exact⟨⟨s1,t1,s2,t2⟩,s3,t3⟩
   ·exact e3 y hy
  ·simp only[NZ,e2,Qo,Ba,Lf.cells,Nm,LH];rfl
theorem Qjx {u:Value} {L:List Fm} (h:Qjw G rs u L=true):∃xs:List Lf,xs.map (·.f)=L∧Acc H (QY (shM τ G H.next) rs H) (shW (shM τ G H.next) 6 u) xs∧xs.length<=1000∧∀x∈xs,x.Fr H.next:=by
 unfold Qjw at h;split at h
 ·rename_i a n cap;simp only[Lm,QV,Lv,BL]at h;obtain⟨h1,h2,h3,h4,h5,h7,h8,h6⟩:=h;split at h6
  ·rename_i r hr;simp only[Lm,QV,Lv,Lr]at h6;obtain⟨h9,h10,h6⟩:=h6;subst h8;obtain⟨xs,e1,e2,e3⟩:=Qd9 (τ:=τ) (H:=H) _ _ h6;obtain⟨ab,ao,asp⟩:=a
   replace h3:=JQ h3
   simp only at h1 h2 h3 hr;subst h2;subst h3;have hl:n=xs.length:=by rw[h4,<- e1];simp
   subst hl;have hk:=(Lk.1 hr).1;have e1':shW (shM τ G H.next) 6 (.slice (some ⟨ab,0,none⟩) xs.length (UNK+10))=.slice (some ⟨H.next+(ab - G),0,none⟩) xs.length (UNK+10):=by
    show Value.slice (some ⟨shM τ G H.next ab,0,none⟩) _ _=_;rw[Qg1 h1]
   rw[e1'];refine⟨xs,e1,.inr ⟨_,rfl,by omega,?_,λh=>?_,λx hx=>(e3 x hx).1⟩,h5,λx hx=>(e3 x hx).2⟩
   ·rw[Xz,Lc ⟨by omega,by omega⟩,show H.next+(ab - G) - H.next=ab - G by omega,hr];show some (Blk.cells (r.c.map (shW (shM τ G H.next) 6)) r.e r.ro)=_;rw[e2,h9,h10]
   ·rw[h]at h7;simp at h7
  ·cases h6
 ·cases h
end
theorem Qfd {sh:Nat->Nat} (rs:List Row) (H:Qa):Ext H (QY sh rs H):=⟨by rw[XF];omega,λid hid=>by rw[Xz,Le (by omega)]⟩
theorem QbJ {sh:Nat->Nat}:∀ (rs:List Row) (H:Qa),H.Wf->(QY sh rs H).Wf
 | [],H,h=>h
 | r::rs,H,h=>QbJ rs _ (h.push _)
def XL (tabs:List Tab) (H:Qa):Prop:=XE tabs H=true
theorem Ju {tabs:List Tab} (H H':Qa) (hw:H.Wf) (h:XL tabs H) (hx:Ext H H'):XL tabs H':=by
 unfold XL XE at *;rw[Li]at *;intro t ht;have h1:=h t ht;cases hg:H.get t.id with
 | none=>rw[hg]at h1;cases h1
 | some b=>rw[hx.get _ (hw.lt hg)];exact h1
theorem QaE {tabs:List Tab} (ht:tabsOk tabs=true) (htab:∀t∈tabs,t.id<prog.globals.size) {s:SumI} (hs:SumIOk prog tabs s) (ha:s.args=[]) (hi:s.ins=[]) {L:List Fm} (hc:Qjw prog.globals.size s.rs s.u L=true):YN (XL tabs) s.f L:=by
 intro H hH hw;have hd:=hs.does ht (args:=[]) (H:=H) (τ:=λn=>n) (λ_ _=>rfl) htab hH (by rw[hi];rfl) (by rw[ha];rfl);rw[hi]at hd;obtain⟨xs,h1,h2,h3,h4⟩:=Qjx (τ:=λn=>n) (H:=H) hc;exact⟨_,_,.inl ⟨hs.1,hd⟩,by rw[XF];exact Ro _ _,QbJ _ _ hw,Qfd _ _,xs,h1,h2,h3,h4⟩
def Qea (G:Nat) (f:FuncId) (L:List Fm):List SumI->Bool
 | s::_=>Nat.beq s.f f&&(s.args.isEmpty&&(s.ins.isEmpty&&Qjw G s.rs s.u L))
 | []=>false
theorem Wh {tabs:List Tab} (ht:tabsOk tabs=true) (htab:∀t∈tabs,t.id<prog.globals.size) {l:List SumI} (hl:∀s∈l,SumIOk prog tabs s) {f:FuncId} {L:List Fm} (h:Qea prog.globals.size f L l=true):YN (XL tabs) f L:=by
 cases l with
 | nil=>cases h
 | cons s l=>
  simp only[Qea,Lm,QV,Lv,DF]at h;obtain⟨h1,h2,h3,h4⟩:=h;rw[<- h1];exact QaE ht htab (hl s (Ny ..)) h2 h3 h4
theorem Qdp {tabs:List Tab} (ht:tabsOk tabs=true) (htab:∀t∈tabs,t.id<prog.globals.size) {f:FuncId} {args:List Value} (he:entered prog f=true) {L:List Fm} (hpl:Wv (mtV (WE (λn=>n) prog.globals.size) 6) args args=true)
  (hq:∀H,H.next=prog.globals.size->XL tabs H->Qm prog f args H λu H'=>∃ys:List Lf,ys.map (·.f)=L∧Acc H H' u ys∧∀y∈ys,y.Fr H.next) (hwf:(tabHeap prog.globals.size tabs).Wf) (htt:XL tabs (tabHeap prog.globals.size tabs)) {H:Qa} (hH:XE tabs H=true):
  Xo prog f args H (.ret (shW (shM (λn=>n) prog.globals.size H.next) 6 (Qfb prog.globals.size L))) (QY (shM (λn=>n) prog.globals.size H.next) (WB prog.globals.size L) H):=by
 have hn:(tabHeap prog.globals.size tabs).next=prog.globals.size:=rfl;obtain⟨v,H1,hc,_,_,ys,hy1,hy2,hy3⟩:=hq _ hn htt hwf;have hd:=hc.does he;subst hy1;have hp:=VJ hn hy2 hy3;refine QbG (B:=tabHeap prog.globals.size tabs) hd (Lb _) (λ_ _=>rfl) hp (Qd7 _ _) (GJ _ _) H (λid b hb=>?_) hpl;have hg:=ZW hH id b hb;obtain⟨t,ht1,rfl,rfl⟩:=QP hb;refine⟨t.c,t.e,t.c,t.e,true,rfl,hg,rfl,λj x y hx hy=>?_⟩;rw[hx]at hy;cases hy;exact Zw.plain (Li.1 (Li.1 ht t ht1) x (Ln hx))
theorem GN (x:Lf) (H:Qa) (hx:x.At H):Qm prog WS [.agg x.cells.toArray] H λu H'=>u=.bool true∧∃m,H'=H.up m:=by
 refine Ku λhw=>?_;simp only[YM,QO,simprocAttr,JO];exact .ext hw ((Ext.refl H).push _) ⟨rfl,_,rfl⟩
theorem QaG (x:Lf) (op:Int) (b:Nat) (H:Qa) {e:TypeId} {ro:Bool} (hb:H.get b=some (.cells [.int .i64 op] e ro)) (hx:x.At H):Qm prog WT [.agg x.cells.toArray,.pointer (some ⟨b,0,none⟩)] H λu H'=>u=.bool (x.f.op==op)∧∃m,H'=H.up m:=by
 refine Ve λhw=>?_;have hbl:=hw.lt hb;have hne:¬b=H.next:=by omega
 simp only[Lf.cells,ZI,QO,simprocAttr,hne,hb,GF];exact .ext hw ((Ext.refl H).push _) ⟨rfl,_,rfl⟩
section
variable {T:Qa->Prop} (hT:∀H H',H.Wf->T H->Ext H H'->T H') (LL:FuncId->List Fm) (hL:∀x∈lis,YN T x.2.2 (LL x.2.2))
include hT hL
theorem Jv (H:Qa) (ht:T H):Qm prog QJ [] H λu H'=>QaC H H' u (YU LL 1 322 (λ_=>true) lis):=by
 refine Vc λhw=>?_;simp only[ZG,QO,simprocAttr];refine(YP hT LL hL 1 322 _ (λ_=>true) H ⟨WS,[],rfl,λx H' hx ha=>GN x H' ha⟩ ht).thenW ?_;rintro u H' hn hw' h;simp only[QO,simprocAttr,GB];exact .mk hn h
theorem Qds (op:Int) (H:Qa) (ht:T H):Qm prog XJ [.int .i64 op] H λu H'=>QaC H H' u (YU LL op op (λf=>f.op==op) lis):=by
 refine QbC λhw=>?_;simp only[Kf,QO,simprocAttr,Jq];have hx0:Ext H (H.push (.cells [.int .i64 op] 3 false)):=(Ext.refl H).push _;have hg0:(H.push (.cells [.int .i64 op] 3 false)).get H.next=some (.cells [.int .i64 op] 3 false):=by rw[Qg,Lc rfl]
 have hw0:=hw.push (.cells [.int .i64 op] 3 false);generalize H.push (.cells [.int .i64 op] 3 false)=H1 at hx0 hg0 hw0;refine(YP hT LL hL op op (.func (.func WT) #[] [.pointer (some ⟨H.next,0,none⟩)].toArray) (λf=>f.op==op) H1 ⟨WT,[.pointer (some ⟨H.next,0,none⟩)],rfl,λx H' hx ha=>QaG x op H.next H' (e:=3) (ro:=false) (by rw[hx.get _ (hw0.lt hg0)];exact hg0) ha⟩ (hT _ _ hw ht hx0)).thenW ?_;rintro u H' hn hw' ⟨hx,ys,h1,h2,h3,h4⟩;simp only[QO,simprocAttr,QaA];exact .mk (hx0.trans hx).next ⟨hx0.trans hx,ys,h1,h2.mono hx0.next,h3,λy hy=>(h4 y hy).mono hx0.next⟩
end
/-! ### As known calls -/
theorem Qg6 (LL:FuncId->List Fm) (p:Fm->Bool):YU LL 1 322 p lis=(YU LL 1 322 (λ_=>true) lis).filter p:=by
 simp[YU,lis]
def QbK (tabs:List Tab) (L:List Fm) (H:Qa):Option (Value×Qa):=
 bif XE tabs H then some (shW (shM (λn=>n) prog.globals.size H.next) 6 (Qfb prog.globals.size L),QY (shM (λn=>n) prog.globals.size H.next) (WB prog.globals.size L) H) else none
def Qdt (tabs:List Tab) (LL:FuncId->List Fm):CallF:=λf args H=>
 bif Nat.beq f QJ then(match args with | []=>QbK tabs (YU LL 1 322 (λ_=>true) lis) H | _=>none)
 else bif Nat.beq f XJ then(match args with | [.int .i64 op]=>QbK tabs (YU LL op op (λx=>x.op==op) lis) H | _=>none)
 else none
theorem QkN (σ:Nat->Option Nat) (f:Nat) (k:IntKind) (n:Int):mtV σ (f+1) (.int k n) (.int k n)=true:=by simp[mtV,plain,Yh]
theorem GO {tabs:List Tab} (ht:tabsOk tabs=true) (htab:∀t∈tabs,t.id<prog.globals.size) (hwf:(tabHeap prog.globals.size tabs).Wf) (htt:XL tabs (tabHeap prog.globals.size tabs)) {f:FuncId} {args:List Value} {L:List Fm} {H:Qa} {v:Value} {H':Qa} (he:entered prog f=true) (hpl:Wv (mtV (WE (λn=>n) prog.globals.size) 6) args args=true)
  (hq:∀H,XL tabs H->Qm prog f args H λu H'=>QaC H H' u L) (hp:QbK tabs L H=some (v,H')):Wk prog f args H v H':=by
 unfold QbK at hp;cases htb:XE tabs H with
 | false=>rw[htb]at hp;cases hp
 | true=>
  rw[htb]at hp;simp only[Lq,Lt,LB]at hp;obtain⟨rfl,rfl⟩:=hp;exact .inl ⟨he,Qdp ht htab he hpl (λH hn hT=>(hq H hT).mono λu H' ⟨_,ys,h1,h2,_,h4⟩=>⟨ys,h1,h2,h4⟩) hwf htt htb⟩
theorem Qfe {tabs:List Tab} (ht:tabsOk tabs=true) (htab:∀t∈tabs,t.id<prog.globals.size) (hwf:(tabHeap prog.globals.size tabs).Wf) (htt:XL tabs (tabHeap prog.globals.size tabs)) (LL:FuncId->List Fm) (hL:∀x∈lis,YN (XL tabs) x.2.2 (LL x.2.2))
  (e1:entered prog QJ=true) (e2:entered prog XJ=true):CallOk prog (Qdt tabs LL):=by
 intro f args H v H' h;unfold Qdt at h;cases b1:Nat.beq f QJ with
 | true=>
  rw[b1,Lq]at h;have:=LA b1;subst this;split at h
  ·exact GO ht htab hwf htt e1 rfl (λH hT=>Jv Ju LL hL H hT) h
  ·cases h
 | false=>
  rw[b1,Ls]at h;cases b2:Nat.beq f XJ with
  | true=>
   rw[b2,Lq]at h;have:=LA b2;subst this;split at h
   ·exact GO ht htab hwf htt e2 (by simp only[Wv,QkN,Bj]) (λH hT=>Qds Ju LL hL _ H hT) h
   ·cases h
  | false=>
   rw[b2,Ls]at h;cases h
end Go.Proofs.YtbkbdnlfkahaaaaGreatDoor.code
