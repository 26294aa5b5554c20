import Derived.Test.YtopkfjiipdjbmaaGreatDoorC0Code
import Derived.Test.YtopkfjiipdjbmaaGreatDoorAbD
import Derived.Laws.BitsLemmas
import Derived.Test.YtopkfjiipdjbmaaGreatDoorAbC
import Derived.KernelRfl
set_option linter.defProp false
set_option linter.unusedVariables false
set_option linter.unusedSimpArgs false
set_option maxRecDepth 100000
noncomputable section
namespace Go.Proofs.YtopkfjiipdjbmaaGreatDoor.code
open Go.Ab
def I64 (n:Int):Prop:=-9223372036854775808<=n∧n<=9223372036854775807
def w64 {n:Int}(h:I64 n):IntKind.i64.wrap n=n:=by
 rw[NU];unfold I64 at h;omega
def ints (l:List Int):List Value:=l.map (.int .i64 ·)
def ZY {l:List Int}{i:Nat}(h:i<l.length):(ints l)[i]? = some (.Z (l.getD i 0)):=by
 simp[ints,La h,List.getD]
def Qaa (H:Qa)(v:Value)(n:Nat)(cs:List Value):Prop:=∃a cap,v=.slice a n cap∧(0<n->∃b e ro,a=some ⟨b,0,none⟩∧H.get b=some (.cells cs e ro))
def Qaa.ext {H H':Qa}{v:Value}{n:Nat}{cs:List Value}(ae:H.Wf)(ac:Ext H H')(h:Qaa H v n cs):Qaa H' v n cs:=by
 obtain⟨a,cap,rfl,ab⟩:=h;refine⟨a,cap,rfl,λad=>?_⟩;obtain⟨b,e,ro,rfl,aa⟩:=ab ad;exact⟨b,e,ro,rfl,by rw[ac.get b (ae.lt aa)];exact aa⟩
def Wd {H:Qa}{v:Value}{n:Nat}{cs:List Value}(h:Qaa H v n cs):∃a cap,v=.slice a n cap:=by
 obtain⟨a,cap,rfl,_⟩:=h;exact⟨a,cap,rfl⟩
structure Fm where
 op:Int
 pre:Int
 map:Int
 code:Int
 digit:Int
 w:Int
 l:Int
 vex:Bool
 shapes:List Int
 slots:List Int
 deriving DecidableEq
structure Lf where
 f:Fm
 sv:Value
 tv:Value
def Lf.cells (x:Lf):List Value:=[.Z x.f.op,x.sv,x.tv,.Z x.f.pre,.Z x.f.map,.Z x.f.code,.Z x.f.digit,.Z x.f.w,.bool x.f.vex,.Z x.f.l]
def Lf.At (H:Qa)(x:Lf):Prop:=x.f.shapes.length<=1000∧x.f.slots.length<=1000∧Qaa H x.sv x.f.shapes.length (ints x.f.shapes)∧Qaa H x.tv x.f.slots.length (ints x.f.slots)
def Lf.At.ext {H H':Qa}{x:Lf}(ab:H.Wf)(aa:Ext H H')(h:x.At H):x.At H':=⟨h.1,h.2.1,h.2.2.1.ext ab aa,h.2.2.2.ext ab aa⟩
def Wm (xs:List Lf):List Value:=xs.flatMap Lf.cells
def Qv (x:Lf):x.cells.length=10:=rfl
def WM:∀xs:List Lf,(Wm xs).length=xs.length * 10
 | []=>rfl
 | x::xs=>by
  have:=WM xs;simp only[Wm,Ba,Lh,Qv,Lo]at this ⊢;omega
def GA:∀ (l:List Lf) (i:Nat) (p:Lf),l[i]? = some p->((Wm l).drop (i * 10)).take 10=p.cells
 | [],i,p,h=>by simp at h
 | q::l,0,p,h=>by
  simp at h;subst h;have:(Wm (q::l))=q.cells++Wm l:=by simp[Wm]
  rw[this,BH,Lw,NO (by rw[Qv];exact Lb 10),LF (by rw[Qv];exact Lb 10)]
 | q::l,i+1,p,h=>by
  have e:(Wm (q::l))=q.cells++Wm l:=by simp[Wm]
  rw[e,show(i+1) * 10=q.cells.length+i * 10 by rw[Qv];omega,B3,NK (by omega),LH,NL];exact GA l i p (by simpa using h)
def QV (p:Lf):List.take 10 p.cells=p.cells:=Nu rfl rfl
def QpE (xs:List Lf)(x:Lf):Wm (xs++[x])=Wm xs++x.cells:=by simp[Wm]
def QmB (H:Qa)(v:Value)(xs:List Lf):Prop:=Qaa H v xs.length (Wm xs)∧∀x∈xs,x.At H
def QmB.ext {H H':Qa}{v:Value}{xs:List Lf}(ab:H.Wf)(aa:Ext H H')(h:QmB H v xs):QmB H' v xs:=⟨h.1.ext ab aa,λx hx=>(h.2 x hx).ext ab aa⟩
def QxE {H:Qa}{v:Value}{n:Nat}{cs:List Value}(h:Qaa H v n cs):v.oneCell'=true:=by
 obtain⟨a,cap,rfl,_⟩:=h;rfl
def Zg {H:Qa}{x:Lf}(h:x.At H):(x.cells.all λv=>v.oneCell')=true:=by
 simp only[Lf.cells,Bv,BI,QxE h.2.2.1,QxE h.2.2.2,Be];rfl
def Ve:List Int->Int->Nat->Int
 | [],_,_=>-1
 | y::l,x,k=>if x=y then(k:Int) else Ve l x (k+1)
def Qy (l:List Int)(x:Int):Int:=Ve l x 0
def QrR (x:Int):∀ (l:List Int) (k i:Nat),(∀j,j<i->¬x=l.getD j 0)->i<l.length->x=l.getD i 0->Ve l x k=((k+i:Nat):Int)
 | [],k,i,_,hl,_=>by simp at hl
 | y::l,k,0,_,_,h=>by
  have h:x=y:=by simpa using h
  simp[Ve,h]
 | y::l,k,i+1,hn,hl,h=>by
  have aa:¬x=y:=by have:=hn 0 (by omega);simpa using this
  rw[Ve,Le aa,QrR x l (k+1) i (λj ab=>by have:=hn (j+1) (by omega);simpa using this) (by simpa using hl) (by simpa using h)];congr 1;omega
def QrS (x:Int):∀ (l:List Int) (k:Nat),(∀j,j<l.length->¬x=l.getD j 0)->Ve l x k=-1
 | [],k,_=>rfl
 | y::l,k,hn=>by
  have aa:¬x=y:=by have:=hn 0 (by simp);simpa using this
  rw[Ve,Le aa];exact QrS x l (k+1) (λj ab=>by have:=hn (j+1) (by simpa using ab);simpa using this)
def QrT (va:Value)(xs:List Int)(x:Int)(H:Qa)(aj:Qaa H va xs.length (ints xs))(an:xs.length<=1000):Qe Pg 87 [va,.Z x] H λu H'=>u=.Z (Qy xs x)∧H'=H:=by
 refine Gt λao=>?_;obtain⟨ae,ag,rfl,al⟩:=aj;simp only[YP,Qb,simprocAttr];refine Qp (λm A' H'=>∃i:Nat,i<=xs.length∧m=xs.length - i∧H'=H∧(∀j,j<i->¬x=xs.getD j 0)∧A' 0=.slice ae xs.length ag∧A' 1=.Z x∧A' 7=.Z (xs.length:Int)∧A' 8=.Z i) xs.length ?_ ?_
 ·refine⟨0,L7 _,by omega,rfl,λj h=>by omega,?_,?_,?_,?_⟩
  all_goals simp only[uxA,uxB,Nat.reduceBEq]
  rfl
 rintro m A' H' ⟨i,hi,rfl,ai,ac,r0,r1,ad,r8⟩;subst ai;simp only[Qb,simprocAttr,ad,r8];refine Qg (λaa=>?_) (λaa=>?_)
 ·have aa:i<xs.length:=by have:=Lg aa;omega
  obtain⟨b1,e1,ap,rfl,ak⟩:=al (by omega);have c1:(0:Int)<=i∧(i:Int)<xs.length:=by omega
  have c3:(i:Int).toNat=i:=by omega
  have ah:IntKind.i64.wrap ((i:Int)+1)=((i+1:Nat):Int):=by rw[w64 (by unfold I64;omega)];omega
  have g1:=ZY (l:=xs) (i:=i) (by omega);simp only[Qb,simprocAttr,r0,r1,r8,c1,c3,ak,g1];refine Qg (λab=>?_) (λab=>?_)
  ·have ab:x=xs.getD i 0:=by simpa using ab
   simp only[Qb,simprocAttr,W9];exact .mk (Lb _) ⟨by rw[Qy,QrR x xs 0 i ac aa ab,LP],rfl⟩
  have ab:¬x=xs.getD i 0:=by simpa using ab
  simp only[Qb,simprocAttr,r8,ah];refine⟨xs.length - (i+1),by omega,i+1,by omega,rfl,rfl,λj am=>?_,?_,?_,?_,?_⟩
  ·rcases Nq j i with h | h;·exact ac j h
   rw[show j=i by omega];exact ab
  all_goals simp only[Qf,simprocAttr,r0,r1,ad]
 have aa:i=xs.length:=by have:=Ll aa;omega
 subst aa;simp only[Qb,simprocAttr,W9];exact .mk (Lb _) ⟨by rw[Qy,QrS x xs 0 ac],rfl⟩
def QH (x:Lf)(k:Int)(H:Qa)(hx:x.At H):Qe Pg 53 [.agg x.cells.toArray,.Z k] H λu H'=>u=.Z (Qy x.f.slots k)∧∃m,H'=H.up m:=by
 refine Qs9 λab=>?_;obtain⟨ae,ac,ad,aa⟩:=hx;obtain⟨a2,c2,e2,_⟩:=id aa;simp only[Lf.cells,Qkl,e2,Qb,simprocAttr];rw[<- e2];refine(QrT _ x.f.slots k _ (aa.ext ab ((Ext.refl H).push _)) ac).mono ?_;rintro _ _ ⟨rfl,rfl⟩;simp only[Qb,simprocAttr,Qrr];exact .ext ab ((Ext.refl H).push _) ⟨rfl,_,rfl⟩
def QBi {H:Qa}{l:List Int}{y:Lf}{ad:List Lf}(ac:y.At H)(h:ints l=Wm (y::ad)):False:=by
 have aa:(ints l)[1]? = some y.sv:=by rw[h];simp[Wm,Lf.cells]
 obtain⟨a,c,e,_⟩:=ac.2.2.1;rw[e]at aa;unfold ints at aa;rw[LD]at aa;cases ab:l[1]? with
 | none=>rw[ab]at aa;cases aa
 | some z=>rw[ab]at aa;cases aa
def Acc (H0 H:Qa)(v:Value)(aa:List Lf):Prop:=(v=.slice none 0 0∧aa=[])∨(∃b,v=.S b aa.length (UNK+10)∧H0.y<=b∧H.get b=some (.C (Wm aa) 51)∧aa≠[]∧∀y∈aa,y.At H)
def Acc.ext {H0 H H':Qa}{v:Value}{ac:List Lf}(ab:H.Wf)(hx:Ext H H')(h:Acc H0 H v ac):Acc H0 H' v ac:=by
 rcases h with h | ⟨b,ad,ae,aa,ag,ah⟩;·exact .inl h
 exact .inr ⟨b,ad,ae,by rw[hx.get _ (ab.lt aa)];exact aa,ag,λy ai=>(ah y ai).ext ab hx⟩
def Acc.fms {H0 H:Qa}{v:Value}{aa:List Lf}(h:Acc H0 H v aa):QmB H v aa:=by
 rcases h with⟨rfl,rfl⟩ | ⟨b,rfl,ad,ab,ae,ac⟩;·exact⟨⟨none,0,rfl,λh=>by simp at h⟩,λx hx=>by cases hx⟩
 exact⟨⟨_,_,rfl,λ_=>⟨b,_,_,rfl,ab⟩⟩,ac⟩
def Qaa.kill {H:Qa}{v:Value}{l:List Int}{b:Nat}{y:Lf}{ah:List Lf}{e:TypeId}{ro:Bool}(ac:H.get b=some (.cells (Wm (y::ah)) e ro))(ae:y.At H)(h:Qaa H v l.length (ints l)):Qaa (H.kill b) v l.length (ints l):=by
 obtain⟨a,cap,rfl,ab⟩:=h;refine⟨a,cap,rfl,λad=>?_⟩;obtain⟨b1,e1,ag,rfl,aa⟩:=ab ad;refine⟨b1,e1,ag,rfl,?_⟩;have:b1≠b:=λe=>by
  subst e;rw[ac]at aa;simp only[Lt,Blk.cells.injEq]at aa;exact QBi ae aa.1.symm
 rw[Q0,Le this];exact aa
def Lf.At.kill {H:Qa}{x:Lf}{b:Nat}{aa:List Lf}{e:TypeId}{ro:Bool}(ab:H.get b=some (.cells (Wm aa) e ro))(ad:aa≠[])(ac:∀y∈aa,y.At H)(h:x.At H):x.At (H.kill b):=by
 cases aa with
 | nil=>exact absurd rfl ad
 | cons y aa=>exact⟨h.1,h.2.1,h.2.2.1.kill ab (ac y (Ny ..)),h.2.2.2.kill ab (ac y (Ny ..))⟩
def QLd (H:Qa)(g:Value)(p:Fm->Bool):Prop:=∃ (f:FuncId) (aa:List Value),g=.func (.func f) #[] aa.toArray∧∀ (x:Lf) H',Ext H H'->x.At H'->Qe Pg f ([.agg x.cells.toArray]++aa) H' λu H''=>u=.bool (p x.f)∧∃m,H''=H'.up m
def QxF (n cap:Nat):Prop:=cap=UNK+1∨(n<=cap∧cap<UNK)
def SlF (M:Nat)(v:Value)(l:List Int):Prop:=(l=[]∧v=.slice none 0 0)∨(l≠[]∧∃b cap,v=.S b l.length cap∧M<=b∧QxF l.length cap)
def SlF.mono {M M':Nat}{v:Value}{l:List Int}(ad:M'<=M)(h:SlF M v l):SlF M' v l:=by
 rcases h with h | ⟨h,b,cap,aa,ac,ab⟩;·exact .inl h
 exact .inr ⟨h,b,cap,aa,by omega,ab⟩
def Lf.Fr (M:Nat)(x:Lf):Prop:=SlF M x.sv x.f.shapes∧SlF M x.tv x.f.slots
def Lf.Fr.mono {M M':Nat}{x:Lf}(aa:M'<=M)(h:x.Fr M):x.Fr M':=⟨h.1.mono aa,h.2.mono aa⟩
def QiG (T:Qa->Prop)(f:FuncId)(L:List Fm):Prop:=∀H,T H->Qe Pg f [] H λu H'=>Ext H H'∧∃xs:List Lf,xs.map (·.f)=L∧Acc H H' u xs∧xs.length<=1000∧∀x∈xs,x.Fr H.y
def Acc.mono {H0 H1 H:Qa}{v:Value}{aa:List Lf}(ae:H0.y<=H1.y)(h:Acc H1 H v aa):Acc H0 H v aa:=by
 rcases h with h | ⟨b,ab,ad,ac⟩;·exact .inl h
 exact .inr ⟨b,ab,by omega,ac⟩
def Qhc (H H':Qa)(v:Value):Prop:=∀id bl,H.get id=some bl->(∀a l c,v=.slice (some a) l c->id≠a.block)->H'.get id=some bl
def Qhc.ints {H0 H H':Qa}{v s:Value}{ab:List Lf}{l:List Int}(aj:Qhc H H' v)(ai:Acc H0 H v ab)(h:Qaa H s l.length (ints l)):Qaa H' s l.length (ints l):=by
 obtain⟨a,cap,rfl,ad⟩:=h;refine⟨a,cap,rfl,λak=>?_⟩;obtain⟨b1,e1,al,rfl,aa⟩:=ad ak;refine⟨b1,e1,al,rfl,aj _ _ aa λa l c ac e=>?_⟩;rcases ai with⟨rfl,_⟩ | ⟨b,rfl,am,ae,ag,ah⟩;·cases ac
 cases ac;subst e;cases ab with
 | nil=>exact ag rfl
 | cons y ab=>
  rw[ae]at aa;simp only[Lt,Blk.cells.injEq]at aa;exact QBi (ah y (Ny ..)) aa.1.symm
def Qhc.at {H0 H H':Qa}{v:Value}{ac:List Lf}{x:Lf}(ab:Qhc H H' v)(aa:Acc H0 H v ac)(h:x.At H):x.At H':=⟨h.1,h.2.1,ab.ints aa h.2.2.1,ab.ints aa h.2.2.2⟩
def Qhc.fms {H0 H H':Qa}{v u:Value}{am xs:List Lf}(ab:Qhc H H' v)(ae:Acc H0 H v am)(h:QmB H u xs)(ai:∀a l c aa ak c',u=.slice (some a) l c->v=.slice (some aa) ak c'->a.block≠aa.block):QmB H' u xs:=by
 obtain⟨⟨a,cap,rfl,ac⟩,ad⟩:=h;refine⟨⟨a,cap,rfl,λah=>?_⟩,λx hx=>ab.at ae (ad x hx)⟩;obtain⟨b1,e1,al,rfl,ag⟩:=ac ah;exact⟨b1,e1,al,rfl,ab _ _ ag λa l c aj=>ai _ _ _ _ _ _ rfl aj⟩
def Qhc.y {H H':Qa}{v:Value}(_:Qhc H H' v):True:=trivial
def Acc.app {H0 H:Qa}{v:Value}{aa:List Lf}{x:Lf}{b1:Nat}{K:Value->Qa->Prop}(h:Acc H0 H v aa)(hx:Ext H0 H)(ae:H.Wf)(ag:x.At H)(av:aa.length<=100000)(an:H.get b1=some (.C x.cells 51))(ap:∀a l c,v=.slice (some a) l c->a.block≠b1)
  (ai:∀ah H',Ext H0 H'->H'.Wf->H.y<=H'.y->Acc H0 H' ah (aa++[x])->(∀a l c,ah=.slice (some a) l c->H.y<=a.block)->Qhc H H' v->K ah H'):Qdv 51 10 112 v (.S b1 1 1) H K:=by
 have al:YX 10 (.S b1 1 1) H=some (1,x.cells):=by
  have:=KM (size:=10) (m:=1) (b:=b1) (o:=0) (cap:=1) (c:=x.cells) (e:=51) (ro:=false) (H:=H) an (by decide) (by rw[Qv];decide);rw[this];rfl
 have a1:=Zg ag;have ak:=hx.y;rcases id h with⟨rfl,rfl⟩ | ⟨b,rfl,am,aj,ax,aq⟩
 ·refine Qe2 al a1 (by decide) (by decide) (by decide) ?_;have ac:Qhc H (H.push (.C x.cells 51)) (.slice none 0 0):=λid bl ad _=>by
   rw[Qc,Le (by have:=ae.lt ad;omega)];exact ad
  refine ai _ _ (hx.push _) (ae.push _) (by simp) (.inr ⟨H.y,rfl,ak,by rw[Qc,Lc rfl];simp[Wm],by simp,λy ab=>?_⟩) (λa l c e=>by cases e;exact Lb _) ac;simp only[LH,Sa]at ab;subst ab;exact ac.at h ag
 have ar:=ae.lt aj;have au:b≠b1:=ap _ _ _ rfl;refine Qin rfl al a1 (by decide) (c:=Wm aa) aj (by rw[WM];omega) (by omega) (by omega) (by unfold UNK;omega) ?_;have ac:Qhc H ((H.kill b).push (.C (Wm aa++x.cells) 51)) (.S b aa.length (UNK+10)):=λid bl ad ao=>by
  rw[Qc,Le (by have:=ae.lt ad;simp;omega),Q0,Le (ao _ _ _ rfl)];exact ad
 have:=ai (.S H.y (aa.length+1) (UNK+10)) ((H.kill b).push (.C (Wm aa++x.cells) 51)) ((hx.kill am).push _) ((ae.kill _).push _) (by simp)
  (.inr ⟨H.y,by simp,ak,by rw[Qc,Lc (by simp),QpE],by simp,λy ab=>?_⟩) (λa l c e=>by cases e;exact Lb _) ac
 ·exact this
 simp only[LI,Sa]at ab;rcases ab with ab | rfl;·exact ac.at h (aq y ab)
 exact ac.at h ag
def QpF (f:Fn)(xs aa:Array Value):(Value.func f xs aa).cells.toList=[.func f xs aa]:=Nu rfl rfl
def QmC (f:Fn)(xs aa:Array Value):(Value.func f xs aa).oneCell'=true:=Nu rfl rfl
def Quz (f:FuncId)(l:List Value)(H:Qa)(k:Value->Qa->Prop):cvK (.func (.func f) #[] #[]) Pg l H k=Qe Pg f l H k:=by
 show Qe Pg f (([]:List Value)++l++[]) H k=_;rw[LH,Na]
def QBj (f:FuncId)(aa l:List Value)(H:Qa)(k:Value->Qa->Prop):cvK (.func (.func f) #[] aa.toArray) Pg l H k=Qe Pg f (l++aa) H k:=by
 show Qe Pg f (([]:List Value)++l++aa) H k=_;rw[LH]
def QaY (H H':Qa)(u:Value)(L:List Fm):Prop:=Ext H H'∧∃aa:List Lf,aa.map (·.f)=L∧Acc H H' u aa∧aa.length<=6000∧∀y∈aa,y.Fr H.y
def lis:List (Int×Int×FuncId):=[(1,16,123),(16,47,124),(48,115,125),(116,135,126),(136,262,127),(263,322,128)]
def liC (x:Int×Int×FuncId):List Value:=[.Z x.1,.Z x.2.1,.func (.func x.2.2) #[] #[]]
def Qtl (H:Qa):Qe Pg 101 [] H λu H'=>u=.S H.y 6 6∧H'=H.push (.C (lis.flatMap liC) 177):=by
 refine Qrt λaa=>?_;simp only[Qis,Qb,simprocAttr,QpF,QpX,Nat.reduceMul,Nat.reduceLeDiff];exact .mk (by simp) ⟨rfl,rfl⟩
def QES:∀ (l:List (Int×Int×FuncId)) (i:Nat) (p:Int×Int×FuncId),l[i]? = some p->((l.flatMap liC).drop (i * 3)).take 3=liC p
 | [],i,p,h=>by simp at h
 | q::l,0,p,h=>by
  simp at h;subst h;simp[liC]
 | q::l,i+1,p,h=>by
  have e:((q::l).flatMap liC)=liC q++l.flatMap liC:=by simp
  have n:(liC q).length=3:=rfl;rw[e,show(i+1) * 3=(liC q).length+i * 3 by rw[n];omega,B3,NK (by omega),LH,NL];exact QES l i p (by simpa using h)
def QhX (LL:FuncId->List Fm)(fr aa:Int)(p:Fm->Bool)(l:List (Int×Int×FuncId)):List Fm:=l.flatMap λx=>bif decide (aa<x.1)||decide (fr>x.2.1) then[] else(LL x.2.2).filter p
def Qhd {T:Qa->Prop}(aN:∀H H',H.Wf->T H->Ext H H'->T H')(LL:FuncId->List Fm)(bD:∀x∈lis,QiG T x.2.2 (LL x.2.2))(fr ah:Int)(g:Value)(p:Fm->Bool)(H:Qa)(aQ:QLd H g p)(bP:T H):
  Qe Pg 66 [.Z fr,.Z ah,g] H λu H'=>Ext H H'∧∃aa:List Lf,aa.map (·.f)=QhX LL fr ah p lis∧Acc H H' u aa∧aa.length<=6000∧∀y∈aa,y.Fr H.y:=by
 refine Qn8 λbS=>?_;obtain⟨bn,bo,rfl,aQ⟩:=aQ;simp only[Qe7,Qb,simprocAttr];refine(Qtl H).w ?_;rintro _ _ cn aA ⟨rfl,rfl⟩;simp only[Qb,simprocAttr];have aO:(H.push (.C (lis.flatMap liC) 177)).get H.y=some (.C (lis.flatMap liC) 177):=by rw[Qc,Lc rfl]
 have aD:Ext H (H.push (.C (lis.flatMap liC) 177)):=(Ext.refl H).push _;have bN:(H.push (.C (lis.flatMap liC) 177)).y=H.y+1:=rfl;generalize H.push (.C (lis.flatMap liC) 177)=Hp at aA aO aD bN;have bR:=aN _ _ bS bP aD;refine Qp (λm A' H'=>∃ (i:Nat) (aa:List Lf),i<=6∧m=6 - i∧H'.Wf∧Ext Hp H'∧aa.map (·.f)=QhX LL fr ah p (lis.take i)∧aa.length<=i * 1000∧Acc Hp H' (A' 7) aa∧(∀y∈aa,y.Fr H.y)∧
  A' 0=.Z fr∧A' 1=.Z ah∧A' 2=.func (.func bn) #[] bo.toArray∧A' 12=.S H.y 6 6∧A' 13=.Z 6∧A' 14=.Z i) 6 ?_ ?_
 ·refine⟨0,[],L7 _,rfl,aA,.refl _,rfl,L7 _,?_,λy ca=>(by cases ca),?_,?_,?_,?_,?_,?_⟩
  all_goals simp only[Qf,simprocAttr]
  ·exact .inl ⟨rfl,rfl⟩
  all_goals rfl
 rintro m A' H' ⟨i,aa,hi,rfl,ai,ae,aV,cx,am,aE,r0,r1,r2,aH,r13,ao⟩;have bQ:=aN _ _ aA bR ae;have bI:H'.get H.y=some (.C (lis.flatMap liC) 177):=by rw[ae.get _ (aA.lt aO)];exact aO
 simp only[Qb,simprocAttr,r13,ao];refine Qg (λh2=>?_) (λh2=>?_)
 ·have h2:i<6:=by have:=Lg h2;omega
  have ay:lis[i]? = some (lis[i]'h2):=La h2;generalize cr:lis[i]'h2=x at ay;have bY:x∈lis:=Ln ay;have c1:(0:Int)<=i∧(i:Int)<((6:Nat):Int):=by omega
  have c3:(i:Int).toNat=i:=by omega
  have bA:i * 3+3<=18:=by omega
  have cb:(lis.flatMap liC).length=18:=rfl;obtain⟨ap,aq,ar⟩:=x;have d1:List.take 3 (List.drop (i * 3) (lis.flatMap liC))=[.Z ap,.Z aq,.func (.func ar) #[] #[]]:=QES lis i _ ay;have aM:IntKind.i64.wrap ((i:Int)+1)=((i+1:Nat):Int):=by rw[w64 (by unfold I64;omega)];omega
  simp only[sxA,sxB,Nat.reduceBEq,Nat.reduceEqDiff,reduceCtorEq,mxA,mxB,Nat.reduceAdd,reduceIte,Nat.reduceLeDiff,splice,QmC,r1,aH,ao,c1,c3,bA,bI,cb,d1];have b5:lis.take (i+1)=lis.take i++[(ap,aq,ar)]:=by rw[Nv,ay];rfl
  obtain⟨aY,e1⟩:∃c,decide (ah<ap)=c:=⟨_,rfl⟩;obtain⟨q2,e2⟩:∃c,decide (fr>aq)=c:=⟨_,rfl⟩;obtain⟨Hn,al⟩:∃h,h=(H'.push (.C [.Z 0,.Z 0,.nilFunc] 177)).set H'.y (.C [.Z ap,.Z aq,.func (.func ar) #[] #[]] 177):=⟨_,rfl⟩;have aR:Hn.Wf:=by rw[al];exact(ai.push _).set (by rw[Qc,Lc rfl]) _
  have ag:Ext H' Hn:=by rw[al];exact((Ext.refl H').push _).set (Lb _) _
  have bx:Hn.get H'.y=some (.C [.Z ap,.Z aq,.func (.func ar) #[] #[]] 177):=by rw[al,Qh,Lc rfl]
  have cq:Hn.y=H'.y+1:=by rw[al];rfl
  simp only[<- al];have b4:(aY||q2)=true->aa.map (·.f)=QhX LL fr ah p (lis.take (i+1)):=λh=>by
   rw[b5,QhX,Bm,<- QhX,<- aV];simp[e1,e2,h]
  have bG:(aY||q2)=false->aa.map (·.f)++(LL ar).filter p=QhX LL fr ah p (lis.take (i+1)):=λh=>by
   rw[b5,QhX,Bm,<- QhX,<- aV];simp[e1,e2,h]
  cases aY<;>simp only[Qb,simprocAttr,r0,ao,e1,e2,aM,bx]
  ·cases q2<;>simp only[Qb,simprocAttr,ao,aM,bx,Quz]
   ·refine(bD _ bY Hn (aN _ _ ai bQ ag)).w ?_;rintro u H2 co bT ⟨b6,xs,bZ,bq,cw,bX⟩;have bu:=bq.fms;have bJ:∀a l c,u=.slice (some a) l c->Hn.y<=a.block:=λa l c e=>by
     rcases bq with⟨rfl,_⟩ | ⟨b,rfl,an,_⟩;·cases e
     cases e;exact an
    obtain⟨aL,cap,rfl,ct⟩:=id bu.1;simp only[Qb,simprocAttr];have bF:=(am.ext ai ag).ext aR b6;have bU:Ext Hp H2:=(ae.trans ag).trans b6;have bL:H.y<=Hn.y:=by have:=ae.y;have:=ag.y;omega
    refine Qp (λm A2 H3=>∃ (k:Nat) (zs:List Lf),k<=xs.length∧m=xs.length - k∧H3.Wf∧Ext Hp H3∧zs.map (·.f)=aa.map (·.f)++((xs.take k).map (·.f)).filter p∧zs.length<=aa.length+k∧Acc Hp H3 (A2 7) zs∧QmB H3 (.slice aL xs.length cap) xs∧(∀z∈zs,z.Fr H.y)∧
     (∀a l c b,A2 7=.slice (some a) l c->aL=some b->b.block≠a.block)∧
     A2 0=.Z fr∧A2 1=.Z ah∧A2 2=.func (.func bn) #[] bo.toArray∧A2 12=.S H.y 6 6∧A2 13=.Z 6∧A2 14=.Z i∧A2 30=.slice aL xs.length cap∧A2 31=.Z xs.length∧A2 32=.Z k) xs.length ?_ ?_
    ·refine⟨0,aa,L7 _,rfl,bT,bU,by simp,by omega,?_,bu,aE,?_,?_,?_,?_,?_,?_,?_,?_,?_,?_⟩
     all_goals simp only[Qf,simprocAttr,r0,r1,r2,aH,r13,ao]
     ·exact bF
     ·intro a l c b ab an;subst an;have au:=bJ _ _ _ rfl;rcases am with⟨h,_⟩ | ⟨b9,h,_,ac,_⟩;·rw[h]at ab;cases ab
      rw[h]at ab;cases ab;have:=ai.lt ac;simp only;omega
     all_goals rfl
    rintro m A2 H3 ⟨k,zs,cm,rfl,ad,aC,aX,cy,av,aP,aW,b2,aZ,ba,aI,bc,bd,bg,bh,bi,aJ⟩;simp only[Qb,simprocAttr,bi,aJ];refine Qg (λac=>?_) (λac=>?_)
    ·have ac:k<xs.length:=by have:=Lg ac;omega
     obtain⟨⟨a4,cj,e4,bO⟩,bW⟩:=id aP;cases e4;obtain⟨b1,cl,c4,rfl,br⟩:=bO (by omega);have d1:(0:Int)<=k∧(k:Int)<xs.length:=by omega
     have d3:(k:Int).toNat=k:=by omega
     have d4:k * 10+10<=xs.length * 10:=by omega
     have bm:IntKind.i64.wrap ((k:Int)+1)=((k+1:Nat):Int):=by rw[w64 (by unfold I64;omega)];omega
     have b3:=La ac;have bj:=GA xs k _ b3;have cc:=WM xs;have aU:xs[k]∈xs:=Nb ac;have aK:=bW _ aU;have wf:(xs[k]).Fr H.y:=(bX _ aU).mono bL;have b7:xs.take (k+1)=xs.take k++[xs[k]]:=NM ac;generalize xs[k]=x at b3 bj aU aK wf b7;have b8:=Zg aK;simp only[Qb,simprocAttr,aI,bh,aJ,d1,d3,d4,br,cc,bj,Qv,QV,b8];obtain⟨G1,ak⟩:∃h,h=(H3.push (.C [.Z 0,.slice none 0 0,.slice none 0 0,.Z 0,.Z 0,.Z 0,.Z 0,.Z 0,.bool false,.Z 0] 51)).set H3.y (.C x.cells 51):=⟨_,rfl⟩;have cv:G1.Wf:=by rw[ak];exact(ad.push _).set (by rw[Qc,Lc rfl]) _
     have aT:Ext H3 G1:=by rw[ak];exact((Ext.refl H3).push _).set (Lb _) _
     have bK:G1.get H3.y=some (.C x.cells 51):=by rw[ak,Qh,Lc rfl]
     have cp:G1.y=H3.y+1:=by rw[ak];rfl
     simp only[<- ak,QBj];have bV:Ext H H3:=aD.trans aC;refine(aQ x G1 (bV.trans aT) (aK.ext ad aT)).w ?_;rintro _ G2 bz aB ⟨rfl,aG,rfl⟩;simp only[Qw]at bz;have aj:Ext H3 (G1.up aG):=aT.up bz;have bw:(G1.up aG).get H3.y=some (.C x.cells 51):=by rw[Xo];exact bK
     have bM:H3.y+1<=(G1.up aG).y:=by simp only[Qw];omega
     generalize G1.up aG=G2 at aB aj bw bM;have ax:((xs.take (k+1)).map (·.f)).filter p=((xs.take k).map (·.f)).filter p++bif p x.f then[x.f] else[]:=by
      rw[b7,N6,Re];cases az:p x.f<;>simp[az]
     simp only[Qb,simprocAttr];cases az:p x.f
     ·rw[az]at ax;simp only[Qb,simprocAttr,aJ,bm];refine⟨xs.length - (k+1),by omega,k+1,zs,by omega,rfl,aB,aC.trans aj,by rw[ax,aX];simp,by omega,?_,aP.ext ad aj,aW,?_,?_,?_,?_,?_,?_,?_,?_,?_,?_⟩
      all_goals simp only[Qf,simprocAttr,aZ,ba,aI,bc,bd,bg,bh,bi]
      ·exact av.ext ad aj
      exact λa l c b au h2=>b2 a l c b au (by rw[h2])
     rw[az]at ax;simp only[Qb,simprocAttr,bw,Qv,QV];have bp:=(av.ext ad aj).ext aB ((Ext.refl G2).push (.C x.cells 51));have aS:Ext H3 (G2.push (.C x.cells 51)):=aj.push _;have bH:=aP.ext ad aS;refine Acc.app bp (aC.trans aS) (aB.push _) (aK.ext ad aS) (by omega) (by rw[Qc,Lc rfl]) (λa l c ab e=>?_) λc5 H6 cd ce c6 cf cg ch=>?_
     ·rcases av with⟨h,_⟩ | ⟨b9,h,_,bC,_⟩;·rw[h]at ab;cases ab
      rw[h]at ab;cases ab;have:=ad.lt bC;simp only at e;omega
     simp only[Qb,simprocAttr,aJ,bm];refine⟨xs.length - (k+1),by omega,k+1,zs++[x],by omega,rfl,ce,cd,by rw[ax,N6,aX];simp,by simp;omega,?_,ch.fms bp bH λa l c ci cz c' bE ab=>?_,?_,?_,?_,?_,?_,?_,?_,?_,?_,?_,?_⟩
     rotate_left 2
     ·intro z aF;simp only[LI,Sa]at aF;rcases aF with aF | rfl;·exact aW z aF
      exact wf
     ·intro a l c b ab an;cases an;simp only[Qf,simprocAttr]at ab;have au:=cg a l c ab;have h2:=ad.lt br;simp only[Qd]at au;simp only;omega
     rotate_right 2
     ·simp only[Qf,simprocAttr];exact cf
     ·cases bE;exact b2 _ _ _ _ ab rfl
     all_goals simp only[Qf,simprocAttr,aZ,ba,aI,bc,bd,bg,bh,bi]
    have ac:k=xs.length:=by have:=Ll ac;omega
    subst ac;simp only[Qb,simprocAttr,bg,aM];refine⟨6 - (i+1),by omega,i+1,zs,by omega,rfl,ad,aC,?_,by omega,?_,aW,?_,?_,?_,?_,?_,?_⟩;·rw[<- bG rfl,aX,LF (Lb _),bZ]
    all_goals simp only[Qf,simprocAttr,aZ,ba,aI,bc,bd]
    exact av
   refine⟨6 - (i+1),by omega,i+1,aa,by omega,rfl,aR,ae.trans ag,b4 rfl,by omega,?_,aE,?_,?_,?_,?_,?_,?_⟩
   all_goals simp only[Qf,simprocAttr,r0,r1,r2,aH,r13]
   exact am.ext ai ag
  refine⟨6 - (i+1),by omega,i+1,aa,by omega,rfl,aR,ae.trans ag,b4 rfl,by omega,?_,aE,?_,?_,?_,?_,?_,?_⟩
  all_goals simp only[Qf,simprocAttr,r0,r1,r2,aH,r13]
  exact am.ext ai ag
 have h2:i=6:=by have:=Ll h2;omega
 subst h2;simp only[Qb,simprocAttr,Qmp];exact .mk (by have:=ae.y;omega) ⟨aD.trans ae,aa,aV,am.mono (by omega),by omega,aE⟩
def iI (k:Nat):Int:=bif Nat.beq k 0 then .negSucc 0 else .ofNat (k - 1)
def mkF (op pre mp code aa w vx l:Nat)(ab sl:List Nat):Fm:=⟨.ofNat op,.ofNat pre,.ofNat mp,.ofNat code,iI aa,iI w,.ofNat l,Nat.beq vx 1,ab.map .ofNat,sl.map .ofNat⟩
def QmD (v:Value)(n:Int):Bool:=match v with | .Z m=>Qch 8 (.Z m) (.Z n) | _=>false
def QcA {v:Value}{n:Int}(h:QmD v n=true):v=.Z n:=by
 unfold QmD at h;split at h;·exact GP 8 _ _ h
 cases h
def Qz2 (v:Value)(b:Bool):Bool:=match v with | .bool c=>(bif c then b else !b) | _=>false
def QC5 {v:Value}{b:Bool}(h:Qz2 v b=true):v=.bool b:=by
 unfold Qz2 at h;split at h;·rename_i c;cases c<;>cases b<;>first | rfl | cases h
 cases h
def QJB (n c:Nat):Bool:=Nat.beq c (UNK+1)||(Nat.ble n c&&Nat.ble (c+1) UNK)
def QHj {n c:Nat}(h:QJB n c=true):QxF n c:=by
 simp only[QJB,Nw,Lm,Zn,Lv,BL]at h;rcases h with h | ⟨aa,ab⟩;·exact .inl h
 exact .inr ⟨aa,ab⟩
def QHk (G:Nat)(rs:List Row)(v:Value)(l:List Int):Bool:=match l with
 | []=>Qch 8 v (.slice none 0 0)
 | _::_=>match v with
  | .slice (some a) n c=>Nat.ble G a.block&&(Nat.beq a.off 0&&(Qoc a&&(Nat.beq n l.length&&(Nat.ble n 1000&&(QJB n c&&(match rs[a.block - G]? with | some r=>GJ (Qch 8) r.c (ints l) | none=>false))))))
  | _=>false
def QHl (G:Nat)(rs:List Row):List Value->List Fm->Bool
 | [],[]=>true
 | a0::a1::a2::a3::a4::a5::a6::a7::a8::a9::cs,x::xs=>QmD a0 x.op&&(QHk G rs a1 x.shapes&&(QHk G rs a2 x.slots&&(QmD a3 x.pre&&(QmD a4 x.map&&(QmD a5 x.code&&(QmD a6 x.digit&&(QmD a7 x.w&&(Qz2 a8 x.vex&&(QmD a9 x.l&&QHl G rs cs xs)))))))))
 | _,_=>false
def QHm (G:Nat)(rs:List Row)(u:Value)(L:List Fm):Bool:=match u with
 | .slice (some a) n c=>Nat.ble G a.block&&(Nat.beq a.off 0&&(Qoc a&&(Nat.beq n L.length&&(Nat.ble n 1000&&(Nat.ble 1 n&&(Nat.beq c (UNK+10)&&(match rs[a.block - G]? with | some r=>Nat.beq r.e 51&&(!r.ro&&QHl G rs r.c L) | none=>false)))))))
 | _=>false
def QuA {a:Addr}(h:Qoc a=true):a.spot=none:=by
 unfold Qoc at h;split at h;·assumption
 cases h
section
variable {τ:Nat->Nat} {G:Nat} {rs:List Row} {H:Qa}
def QET {b:Nat}(h:G<=b):shM τ G H.y b=H.y+(b - G):=by
 unfold shM;rw[QjL];simp[show ¬b<G by omega]
def QEU (aa:Nat->Nat)(l:List Int):(ints l).map (shW aa 6)=ints l:=by
 unfold ints;rw[Ht];exact DC λx _=>Qup aa 6 _ rfl
def QBk {v:Value}{l:List Int}(h:QHk G rs v l=true):l.length<=1000∧Qaa (G7 (shM τ G H.y) rs H) (shW (shM τ G H.y) 6 v) l.length (ints l)∧SlF H.y (shW (shM τ G H.y) 6 v) l:=by
 cases l with
 | nil=>
  have:=GP 8 _ _ (show Qch 8 v (.slice none 0 0)=true from h);subst this;exact⟨by simp,⟨none,0,rfl,λh=>by simp at h⟩,.inl ⟨rfl,rfl⟩⟩
 | cons x l=>
  unfold QHk at h;simp only at h;split at h
  ·rename_i a n cap;simp only[Lm,Zn,Lv,BL]at h;obtain⟨ae,ag,ac,ah,ai,aj,ab⟩:=h;split at ab
   ·rename_i r ad;have ab:=QjE (GP 8) _ _ ab;obtain⟨aa,ak,al⟩:=a
    replace ac:=QuA ac
    simp only at ae ag ac ad;subst ag;subst ac;subst ah;have am:=(Lk.1 ad).1;have e1:shW (shM τ G H.y) 6 (.S aa (x::l).length cap)=.slice (some ⟨H.y+(aa - G),0,none⟩) (x::l).length cap:=by
     show Value.S (shM τ G H.y aa) _ _=_;rw[QET ae]
    rw[e1];refine⟨ai,⟨_,_,rfl,λ_=>⟨H.y+(aa - G),r.e,r.ro,rfl,?_⟩⟩,.inr ⟨by simp,_,_,rfl,by omega,QHj aj⟩⟩;rw[Qfd,Lc ⟨by omega,by omega⟩,show H.y+(aa - G) - H.y=aa - G by omega,ad];show some (Blk.cells (r.c.map (shW (shM τ G H.y) 6)) r.e r.ro)=_;rw[ab,QEU]
   cases ab
  cases h
def QBl:∀ (cs:List Value) (L:List Fm),QHl G rs cs L=true->∃xs:List Lf,xs.map (·.f)=L∧cs.map (shW (shM τ G H.y) 6)=Wm xs∧∀x∈xs,x.At (G7 (shM τ G H.y) rs H)∧x.Fr H.y
 | [],[],_=>⟨[],rfl,rfl,λx h=>by cases h⟩
 | a0::a1::a2::a3::a4::a5::a6::a7::a8::a9::cs,x::L,h=>by
  simp only[QHl,Lm]at h;obtain⟨ab,ac,ad,ae,ag,ah,ai,aj,ak,al,am⟩:=h;obtain⟨xs,e1,e2,e3⟩:=QBl cs L am;have an:=QcA ab;have ao:=QcA ae;have ap:=QcA ag;have aq:=QcA ah;have ar:=QcA ai;have au:=QcA aj;have av:=QC5 ak;have ax:=QcA al;subst an ao ap aq ar au av ax;obtain⟨ay,az,aA⟩:=QBk (τ:=τ) (H:=H) ac;obtain⟨t1,t2,aB⟩:=QBk (τ:=τ) (H:=H) ad;refine⟨⟨x,shW (shM τ G H.y) 6 a1,shW (shM τ G H.y) 6 a2⟩::xs,by simp[e1],?_,λy aa=>?_⟩
  rotate_left
  ·rcases LK.1 aa with rfl | aa;·exact⟨⟨ay,t1,az,t2⟩,aA,aB⟩
   exact e3 y aa
  simp only[NZ,e2,Wm,Ba,Lf.cells,Nm,LH];rfl
def QHn {u:Value}{L:List Fm}(h:QHm G rs u L=true):∃xs:List Lf,xs.map (·.f)=L∧Acc H (G7 (shM τ G H.y) rs H) (shW (shM τ G H.y) 6 u) xs∧xs.length<=1000∧∀x∈xs,x.Fr H.y:=by
 unfold QHm at h;split at h
 ·rename_i a n cap;simp only[Lm,Zn,Lv,BL]at h;obtain⟨ae,ag,ac,ak,al,ah,am,aa⟩:=h;split at aa
  ·rename_i r ad;simp only[Lm,Lv,Lr]at aa;obtain⟨an,aj,aa⟩:=aa;subst am;obtain⟨xs,e1,e2,e3⟩:=QBl (τ:=τ) (H:=H) _ _ aa;obtain⟨ab,ap,aq⟩:=a
   replace ac:=QuA ac
   simp only at ae ag ac ad;subst ag;subst ac;have ao:n=xs.length:=by rw[ak,<- e1];simp
   subst ao;have ar:=(Lk.1 ad).1;have ai:shW (shM τ G H.y) 6 (.S ab xs.length (UNK+10))=.slice (some ⟨H.y+(ab - G),0,none⟩) xs.length (UNK+10):=by
    show Value.S (shM τ G H.y ab) _ _=_;rw[QET ae]
   rw[ai];refine⟨xs,e1,.inr ⟨_,rfl,by omega,?_,λh=>?_,λx hx=>(e3 x hx).1⟩,al,λx hx=>(e3 x hx).2⟩;·rw[Qfd,Lc ⟨by omega,by omega⟩,show H.y+(ab - G) - H.y=ab - G by omega,ad];show some (Blk.cells (r.c.map (shW (shM τ G H.y) 6)) r.e r.ro)=_;rw[e2,an,aj]
   rw[h]at ah;simp at ah
  cases aa
 cases h
end
def QC6 {aa:Nat->Nat}(rs:List Row)(H:Qa):Ext H (G7 aa rs H):=⟨by rw[Qgs];omega,λid ab=>by rw[Qfd,Le (by omega)]⟩
def QxG {aa:Nat->Nat}:∀ (rs:List Row) (H:Qa),H.Wf->(G7 aa rs H).Wf
 | [],H,h=>h
 | r::rs,H,h=>QxG rs _ (h.push _)
def QgB (tabs:List Tab)(H:Qa):Prop:=Qco tabs H=true
def QiH {tabs:List Tab}(H H':Qa)(ad:H.Wf)(h:QgB tabs H)(hx:Ext H H'):QgB tabs H':=by
 unfold QgB Qco at *;rw[Li]at *;intro t ac;have aa:=h t ac;cases ab:H.get t.id with
 | none=>rw[ab]at aa;cases aa
 | some b=>rw[hx.get _ (ad.lt ab)];exact aa
def Qvx {tabs:List Tab}(ak:tabsOk tabs=true)(al:∀t∈tabs,t.id<Pg.globals.size){s:SumI}(ab:SumIOk Pg tabs s)(ai:s.args=[])(hi:s.ins=[]){L:List Fm}(aj:QHm Pg.globals.size s.rs s.u L=true):QiG (QgB tabs) s.f L:=by
 intro H ah am;have aa:=ab.does ak (args:=[]) (H:=H) (τ:=λn=>n) (λ_ _=>rfl) al ah (by rw[hi];rfl) (by rw[ai];rfl);rw[hi]at aa;obtain⟨xs,ac,ad,ae,ag⟩:=QHn (τ:=λn=>n) (H:=H) aj;exact⟨_,_,.inl ⟨ab.1,aa⟩,by rw[Qgs];exact Ro _ _,QxG _ _ am,QC6 _ _,xs,ac,ad,ae,ag⟩
def QBm (G:Nat)(f:FuncId)(L:List Fm):List SumI->Bool
 | s::_=>Nat.beq s.f f&&(s.args.isEmpty&&(s.ins.isEmpty&&QHm G s.rs s.u L))
 | []=>false
def ZA {tabs:List Tab}(ag:tabsOk tabs=true)(ah:∀t∈tabs,t.id<Pg.globals.size){l:List SumI}(ae:∀s∈l,SumIOk Pg tabs s){f:FuncId}{L:List Fm}(h:QBm Pg.globals.size f L l=true):QiG (QgB tabs) f L:=by
 cases l with
 | nil=>cases h
 | cons s l=>
  simp only[QBm,Lm,Zn,Lv,DF]at h;obtain⟨aa,ab,ac,ad⟩:=h;rw[<- aa];exact Qvx ag ah (ae s (Ny ..)) ab ac ad
def QrZ (x:Lf)(H:Qa)(hx:x.At H):Qe Pg 82 [.agg x.cells.toArray] H λu H'=>u=.bool true∧∃m,H'=H.up m:=by
 refine QpW λaa=>?_;simp only[Qg1,Qb,simprocAttr,Qn9];exact .ext aa ((Ext.refl H).push _) ⟨rfl,_,rfl⟩
def QvQ (x:Lf)(op:Int)(b:Nat)(H:Qa){e:TypeId}{ro:Bool}(aa:H.get b=some (.cells [.Z op] e ro))(hx:x.At H):Qe Pg 67 [.agg x.cells.toArray,.P b] H λu H'=>u=.bool (x.f.op==op)∧∃m,H'=H.up m:=by
 refine Qta λab=>?_;have ad:=ab.lt aa;have ac:¬b=H.y:=by omega
 simp only[Lf.cells,Qkm,Qb,simprocAttr,ac,aa,Qrs];exact .ext ab ((Ext.refl H).push _) ⟨rfl,_,rfl⟩
section
variable {T:Qa->Prop} (hT:∀H H',H.Wf->T H->Ext H H'->T H') (LL:FuncId->List Fm) (hL:∀x∈lis,QiG T x.2.2 (LL x.2.2))
include hT hL
def QvR (H:Qa)(ac:T H):Qe Pg 48 [] H λu H'=>QaY H H' u (QhX LL 1 322 (λ_=>true) lis):=by
 refine Qs8 λad=>?_;simp only[Qkk,Qb,simprocAttr];refine(Qhd hT LL hL 1 322 _ (λ_=>true) H ⟨82,[],rfl,λx H' hx aa=>QrZ x H' aa⟩ ac).w ?_;rintro u H' ab ae h;simp only[Qb,simprocAttr,Qrq];exact .mk ab h
def QAn (op:Int)(H:Qa)(ak:T H):Qe Pg 36 [.Z op] H λu H'=>QaY H H' u (QhX LL op op (λf=>f.op==op) lis):=by
 refine Qw9 λac=>?_;simp only[Qpt,Qb,simprocAttr];have aa:Ext H (H.push (.C [.Z op] 3)):=(Ext.refl H).push _;have ab:(H.push (.C [.Z op] 3)).get H.y=some (.C [.Z op] 3):=by rw[Qc,Lc rfl]
 have ad:=ac.push (.C [.Z op] 3);generalize H.push (.C [.Z op] 3)=H1 at aa ab ad;refine(Qhd hT LL hL op op (.func (.func 67) #[] [.P H.y].toArray) (λf=>f.op==op) H1 ⟨67,[.P H.y],rfl,λx H' hx aj=>QvQ x op H.y H' (e:=3) (ro:=false) (by rw[hx.get _ (ad.lt ab)];exact ab) aj⟩ (hT _ _ ac ak aa)).w ?_;rintro u H' an ao ⟨hx,am,ae,ag,ah,ai⟩;simp only[Qb,simprocAttr,Qvc];exact .mk (aa.trans hx).y ⟨aa.trans hx,am,ae,ag.mono aa.y,ah,λy al=>(ai y al).mono aa.y⟩
end
/-! ### As known calls -/
def QEY (LL:FuncId->List Fm)(p:Fm->Bool):QhX LL 1 322 p lis=(QhX LL 1 322 (λ_=>true) lis).filter p:=by
 simp[QhX,lis]
def QdF (n:Int):List UInt8:=bif n==1 then[15] else bif n==2 then[15,56] else bif n==3 then[15,58] else[]
def QhF (n:Int)(H:Qa):Qe Pg 83 [.Z n] H λu H'=>u=.string (mkS (QdF n))∧H'=H:=by
 refine Qob λad=>?_;simp only[Qe9,Qb,simprocAttr];cases aa:n==1<;>simp only[Qb,simprocAttr,G5]
 ·cases ab:n==2<;>simp only[Qb,simprocAttr,G5]
  ·cases ac:n==3<;>simp only[Qb,simprocAttr,G5];·exact .mk (Lb _) ⟨by simp[QdF,aa,ab,ac],rfl⟩
   exact .mk (Lb _) ⟨by simp[QdF,aa,ab,ac],rfl⟩
  exact .mk (Lb _) ⟨by simp[QdF,aa,ab],rfl⟩
 exact .mk (Lb _) ⟨by simp[QdF,aa],rfl⟩
def QC8 (n b:Int):Bool:=!(IntKind.i64.wrap (BitVec.ofInt IntKind.i64.bits n &&& BitVec.ofInt IntKind.i64.bits b).toNat==0)
def QbQ (f:Fm):List UInt8:=(bif QC8 f.pre 1 then[102] else[])++((bif QC8 f.pre 2 then[242] else[])++((bif QC8 f.pre 4 then[243] else[])++QdF f.map))
def QE5 (n:Int):(QdF n).length<=2:=by unfold QdF;cases n==1<;>cases n==2<;>cases n==3<;>simp
def QkZ (x:Lf)(H:Qa)(hx:x.At H):Qe Pg 49 [.agg x.cells.toArray] H λu H'=>u=.string (mkS (QbQ x.f))∧∃m,H'=H.up m:=by
 refine Qrw λai=>?_;have ah:(Value.agg x.cells.toArray).cells.toList=x.cells:=rfl;have g3:x.cells[3]? = some (.Z x.f.pre):=rfl;have g4:x.cells[4]? = some (.Z x.f.map):=rfl;have ak:=QE5 x.f.map;obtain⟨ad,aa⟩:∃c,QC8 x.f.pre 1=c:=⟨_,rfl⟩;obtain⟨ae,ab⟩:∃c,QC8 x.f.pre 2=c:=⟨_,rfl⟩;obtain⟨ag,ac⟩:∃c,QC8 x.f.pre 4=c:=⟨_,rfl⟩;have d1:(!(IntKind.i64.wrap (BitVec.ofInt IntKind.i64.bits x.f.pre &&& BitVec.ofInt IntKind.i64.bits 1).toNat==0))=ad:=aa;have d2:(!(IntKind.i64.wrap (BitVec.ofInt IntKind.i64.bits x.f.pre &&& BitVec.ofInt IntKind.i64.bits 2).toNat==0))=ae:=ab;have d3:(!(IntKind.i64.wrap (BitVec.ofInt IntKind.i64.bits x.f.pre &&& BitVec.ofInt IntKind.i64.bits 4).toNat==0))=ag:=ac;simp only[Qiw,ah,Qb,simprocAttr,g3,d1];have aj:∀ (l:List UInt8) (K:Value->Qa->Prop),l.length<=3->K (.string (mkS (l++QdF x.f.map))) (H.push (.C x.cells 51))->True:=λ_ _ _ _=>trivial;cases ad<;>simp only[Qb,simprocAttr,Xh,g3,d2,Nat.reduceLeDiff]
 all_goals cases ae<;>simp only[Qb,simprocAttr,Xh,g3,d3,Nat.reduceAdd,Nat.reduceLeDiff]
 all_goals cases ag<;>simp only[Qb,simprocAttr,Xh,g4,Nat.reduceAdd,Nat.reduceLeDiff]
 all_goals
  refine(QhF x.f.map _).mono ?_;rintro _ _ ⟨rfl,rfl⟩;simp only[Qb,simprocAttr,Xh,QpZ];refine⟨by first | omega | (simp only[L9,Lo];omega),.ext ai ((Ext.refl H).push _) ⟨by simp[QbQ,aa,ab,ac],_,rfl⟩⟩
def QJY (c:Int):Int:=IntKind.i64.wrap (IntKind.u8.wrap (BitVec.ofInt IntKind.u8.bits c &&& ~~~BitVec.ofInt IntKind.u8.bits 7).toNat)
def Jz (f:Fm)(d:Nat)(c:Int):Bool:=
 bif f.vex then(d==0)&&((c==196)||((c==197)&&(f.map==1)&&!(f.w==1)))
 else match (QbQ f)[d]? with
  | some b=>c==(b.toNat:Int)
  | none=>bif Nat.blt (QbQ f).length d then false else bif decide (0<=Qy f.slots 4) then QJY c==f.code else IntKind.i64.wrap c==f.code
def Qsq (x:Lf)(d:Nat)(c:Int)(H:Qa)(hx:x.At H):Qe Pg 50 [.agg x.cells.toArray,.Z d,.int .u8 c] H λu H'=>u=.bool (Jz x.f d c)∧∃m,H'=H.up m:=by
 refine Qp0 λaa=>?_;have aq:(Value.agg x.cells.toArray).cells.toList=x.cells:=rfl;have av:x.cells[8]? = some (.bool x.f.vex):=rfl;have g4:x.cells[4]? = some (.Z x.f.map):=rfl;have ak:x.cells[5]? = some (.Z x.f.code):=rfl;have au:x.cells[7]? = some (.Z x.f.w):=rfl;have aD:=Zg hx;have ab:Ext H (H.push (.C x.cells 51)):=(Ext.refl H).push _;simp only[Qg3,aq,Qb,simprocAttr,av];cases ah:x.f.vex with
 | true=>
  have ed:((d:Int)==0)=(d==0):=by
   rw[Ni];simp
  simp only[Qb,simprocAttr,ed];have ay:Jz x.f d c=((d==0)&&((c==196)||((c==197)&&(x.f.map==1)&&!(x.f.w==1)))):=by simp[Jz,ah]
  rw[ay];cases aA:d==0<;>simp only[Qb,simprocAttr,WG];·exact .ext aa ab ⟨rfl,_,rfl⟩
  cases am:c==196<;>simp only[Qb,simprocAttr,WG]
  ·cases aB:c==197<;>simp only[Qb,simprocAttr,g4,WG];·exact .ext aa ab ⟨rfl,_,rfl⟩
   cases aC:x.f.map==1<;>simp only[Qb,simprocAttr,au,WG];·exact .ext aa ab ⟨rfl,_,rfl⟩
   exact .ext aa ab ⟨by simp,_,rfl⟩
  exact .ext aa ab ⟨rfl,_,rfl⟩
 | false=>
  simp only[Qb,simprocAttr,Qv,QV];refine(QkZ x _ (hx.ext aa ab)).w ?_;rintro _ _ an aG ⟨rfl,m,rfl⟩;simp only[Qw,Qd]at an;have aj:Ext H ((H.push (.C x.cells 51)).up m):=ab.up (by simp only[Qd];exact an);have aF:((H.push (.C x.cells 51)).up m).get H.y=some (.C x.cells 51):=by rw[Xo,Qc,Lc rfl]
  have aE:H.y<((H.push (.C x.cells 51)).up m).y:=by simp only[Qw];omega
  have ar:∀ap,((H.push (.C x.cells 51)).up m).up ap=(H.push (.C x.cells 51)).up ap:=λ_=>rfl;simp only[Qb,simprocAttr,Xh];have ai:∀ (H2:Qa),Ext H H2->∀ (b:Bool),b=Jz x.f d c->Ret H (λu H'=>u=.bool (Jz x.f d c)∧∃m,H'=H.up m) (.bool b) H2:=λH2 am b ac=>.ext aa am ⟨by rw[ac],_,rfl⟩;cases ae:decide ((d:Int)<((QbQ x.f).length:Int)) with
  | true=>
   have ae:d<(QbQ x.f).length:=by have:=Lg ae;omega
   have c1:(0:Int)<=d:=by omega
   have c2:(d:Int).toNat=d:=by omega
   have ad:=La ae;simp only[Qb,simprocAttr,Xh,c1,c2,ad,WG];refine ai _ aj _ ?_;simp[Jz,ah,ad]
  | false=>
   have ae:(QbQ x.f).length<=d:=by have:=Ll ae;omega
   have ad:(QbQ x.f)[d]? = none:=N7 ae;simp only[Qb,simprocAttr,Xh];cases ag:decide (((QbQ x.f).length:Int)<(d:Int)) with
   | true=>
    have ag:(QbQ x.f).length<d:=by have:=Lg ag;omega
    simp only[Qb,simprocAttr,WG];refine ai _ aj _ ?_;have:Nat.blt (QbQ x.f).length d=true:=by simpa using ag
    simp[Jz,ah,ad,this]
   | false=>
    have ag:¬ (QbQ x.f).length<d:=by have:=Ll ag;omega
    have ac:Nat.blt (QbQ x.f).length d=false:=by
     cases ac:Nat.blt (QbQ x.f).length d with
     | false=>rfl
     | true=>exact absurd (by simpa using ac) ag
    simp only[Qb,simprocAttr,Qv,QV];refine(QH x 4 _ (hx.ext aa aj)).w ?_;rintro _ _ ax aH ⟨rfl,az,rfl⟩;simp only[Qw]at ax;rw[ar];have ao:Ext H ((H.push (.C x.cells 51)).up az):=ab.up (by simp only[Qd];omega);simp only[Qb,simprocAttr];cases al:decide (0<=Qy x.f.slots 4) with
    | true=>
     simp only[Qb,simprocAttr,ak,WG];refine ai _ ao _ ?_;simp[Jz,ah,ad,ac,al,QJY]
    | false=>
     simp only[Qb,simprocAttr,ak,WG];refine ai _ ao _ ?_;simp[Jz,ah,ad,ac,al]
def QsO (m:Option Nat):(Value.map m).cells.toList=[.map m]:=Nu rfl rfl
def Qlr (m:Option Addr):(Value.pointer m).cells.toList=[.pointer m]:=Nu rfl rfl
def Qix (m:Option Addr):(Value.pointer m).oneCell'=true:=Nu rfl rfl
def QyL (H H':Qa)(v:Value):Prop:=∀id,id<H.y->(∀a l c,v=.slice (some a) l c->id≠a.block)->H'.get id=H.get id
def QyL.a {H H':Qa}{v:Value}(h:QyL H H' v)(ac:H.Wf):Qhc H H' v:=λid bl aa ab=>by rw[h id (ac.lt aa) ab];exact aa
def Acc.app2 {H0 H:Qa}{v:Value}{aa:List Lf}{x:Lf}{b1:Nat}{K:Value->Qa->Prop}(h:Acc H0 H v aa)(aj:H0.y<=H.y)(ad:H.Wf)(ae:x.At H)(av:aa.length<=100000)(al:H.get b1=some (.C x.cells 51))(ao:∀a l c,v=.slice (some a) l c->a.block≠b1)
  (ah:∀ag H',H'.Wf->H.y<=H'.y->Acc H0 H' ag (aa++[x])->(∃a l c,ag=.slice (some a) l c∧H.y<=a.block)->QyL H H' v->K ag H'):Qdv 51 10 112 v (.S b1 1 1) H K:=by
 have ak:YX 10 (.S b1 1 1) H=some (1,x.cells):=by
  have:=KM (size:=10) (m:=1) (b:=b1) (o:=0) (cap:=1) (c:=x.cells) (e:=51) (ro:=false) (H:=H) al (by decide) (by rw[Qv];decide);rw[this];rfl
 have a1:=Zg ae;rcases id h with⟨rfl,rfl⟩ | ⟨b,rfl,aq,ai,ax,ap⟩
 ·refine Qe2 ak a1 (by decide) (by decide) (by decide) ?_;have ac:QyL H (H.push (.C x.cells 51)) (.slice none 0 0):=λid am _=>by rw[Qc,Le (by omega)]
  refine ah _ _ (ad.push _) (by simp) (.inr ⟨H.y,rfl,aj,by rw[Qc,Lc rfl];simp[Wm],by simp,λy ab=>?_⟩) ⟨_,_,_,rfl,Lb _⟩ ac;simp only[LH,Sa]at ab;subst ab;exact(ac.a ad).at h ae
 have ar:=ad.lt ai;have au:b≠b1:=ao _ _ _ rfl;refine Qin rfl ak a1 (by decide) (c:=Wm aa) ai (by rw[WM];omega) (by omega) (by omega) (by unfold UNK;omega) ?_;have ac:QyL H ((H.kill b).push (.C (Wm aa++x.cells) 51)) (.S b aa.length (UNK+10)):=λid am an=>by
  rw[Qc,Le (by simp;omega),Q0,Le (an _ _ _ rfl)]
 refine ah (.S H.y (aa.length+1) (UNK+10)) ((H.kill b).push (.C (Wm aa++x.cells) 51)) ((ad.kill _).push _) (by simp)
  (.inr ⟨H.y,by simp,aj,by rw[Qc,Lc (by simp),QpE],by simp,λy ab=>?_⟩) ⟨_,_,_,rfl,Lb _⟩ ac
 simp only[LI,Sa]at ab;rcases ab with ab | rfl;·exact(ac.a ad).at h (ap y ab)
 exact(ac.a ad).at h ae
def QDs (H0 H:Qa)(v:Value)(d:Nat)(ac:List Lf):Prop:=∃b aa ab,v=.P b∧H0.y<=b∧H0.y<=aa∧H.get b=some (.C [.Z d,ab,.map (some aa)] 66)∧H.get aa=some (.map [])∧Acc H0 H ab ac
def Qaa.setMap {H:Qa}{v:Value}{n:Nat}{cs:List Value}{m:Nat}{es:List (Value×Value)}{b:Blk}(ac:H.get m=some (.map es))(h:Qaa H v n cs):Qaa (H.set m b) v n cs:=by
 obtain⟨a,cap,rfl,ab⟩:=h;refine⟨a,cap,rfl,λad=>?_⟩;obtain⟨b1,e1,ae,rfl,aa⟩:=ab ad;refine⟨b1,e1,ae,rfl,?_⟩;rw[Qh,Le (λe=>by subst e;rw[ac]at aa;cases aa)];exact aa
def Lf.At.setMap {H:Qa}{x:Lf}{m:Nat}{es:List (Value×Value)}{b:Blk}(aa:H.get m=some (.map es))(h:x.At H):x.At (H.set m b):=⟨h.1,h.2.1,h.2.2.1.setMap aa,h.2.2.2.setMap aa⟩
def Acc.setMap {H0 H:Qa}{v:Value}{ac:List Lf}{m:Nat}{es:List (Value×Value)}{b:Blk}(ab:H.get m=some (.map es))(h:Acc H0 H v ac):Acc H0 (H.set m b) v ac:=by
 rcases h with h | ⟨b1,ad,ae,aa,ag,ah⟩;·exact .inl h
 refine .inr ⟨b1,ad,ae,?_,ag,λy ai=>(ah y ai).setMap ab⟩;rw[Qh,Le (λe=>by subst e;rw[ab]at aa;cases aa)];exact aa
section
variable {T:Qa->Prop} {L:List Fm} (hR:∀H,T H->Qe Pg 48 [] H λu H'=>QaY H H' u L)
include hR
def QtU (H:Qa)(aj:T H):Qe Pg 26 [] H λu H'=>Ext H H'∧∃aa:List Lf,aa.map (·.f)=L∧QDs H H' u 0 aa∧aa.length<=6000∧∀y∈aa,y.Fr H.y:=by
 refine Qrv λam=>?_;simp only[Qiu,Qb,simprocAttr];refine(hR H aj).w ?_;rintro u H1 al ak ⟨ab,aa,e1,ad,ai,ag⟩;have ah:=ad.fms;obtain⟨ae,cap,rfl,_⟩:=id ah.1;simp only[Qb,simprocAttr,QsO,QpY];have ac:Ext H1 ((H1.push (.map [])).push (.C [.Z 0,.slice ae aa.length cap,.map (some H1.y)] 66)):=((Ext.refl H1).push _).push _;refine .mk ((ab.trans ac).y) ⟨ab.trans ac,aa,e1,⟨H1.y+1,H1.y,_,rfl,by have:=ab.y;omega,ab.y,?_,?_,ad.ext ak ac⟩,ai,ag⟩;·rw[Qc,Lc (by simp)];rfl
 rw[Qc,Le (by simp),Qc,Lc rfl]
end
def QyM (d:Nat)(L:List Fm):Bool:=match L with
 | []=>false
 | f::_=>bif f.vex then d==0 else Nat.ble d (QbQ f).length
def QtV {H0 H:Qa}{v:Value}{d:Nat}{aa:List Lf}(ar:QDs H0 H v d aa)(aJ:aa.length<=6000):Qe Pg 27 [v] H λu H'=>u=.bool (QyM d (aa.map (·.f)))∧∃m,H'=H.up m:=by
 refine QjW λac=>?_;obtain⟨b,aD,aG,rfl,aH,aL,ag,aK,au⟩:=ar;have ay:=au.fms;obtain⟨⟨aF,cap,rfl,aA⟩,aB⟩:=id ay;simp only[Qbn,Qb,simprocAttr,ag];cases ad:((aa.length:Int)==0) with
 | true=>
  have ad:aa=[]:=by
   have:(aa.length:Int)=0:=by simpa using ad
   exact N2.1 (by omega)
  simp only[Qb,simprocAttr,ZX];exact .mk (Lb _) ⟨by rw[ad];rfl,_,rfl⟩
 | false=>
  have hlp:0<aa.length:=by
   have:¬ (aa.length:Int)=0:=by simpa using ad
   omega
  obtain⟨b1,e1,aP,rfl,av⟩:=aA hlp;have ai:=La hlp;have ab:∀z,aa[0]? = some z->QyM d (aa.map (·.f))=bif z.f.vex then d==0 else Nat.ble d (QbQ z.f).length:=λz aj=>by
   cases aa with
   | nil=>simp at aj
   | cons a l=>simp at aj;subst aj;rfl
  generalize aa[0]'hlp=y at ai;have aC:=Ln ai;have ab:=ab y ai;have d1:(0:Int)<=0∧(0:Int)<(aa.length:Int):=by omega
  have d3:(0:Int).toNat=0:=rfl;have aE:=WM aa;have d4:10<=aa.length * 10:=by omega
  have ak:=GA aa 0 y ai;rw[BH,Lw]at ak;have ao:=aB y aC;have ap:=Zg ao;have aq:y.cells[8]? = some (.bool y.f.vex):=rfl;have ax:=ac.lt ag;have aI:¬b=H.y:=by omega
  simp only[Qb,simprocAttr,ag,d1,d3,d4,av,aE,ak,Qv,ap,aq];obtain⟨G1,ae⟩:∃h,h=(H.push (.C [.Z 0,.slice none 0 0,.slice none 0 0,.Z 0,.Z 0,.Z 0,.Z 0,.Z 0,.bool false,.Z 0] 51)).set H.y (.C y.cells 51):=⟨_,rfl⟩;have aN:G1.Wf:=by rw[ae];exact(ac.push _).set (by rw[Qc,Lc rfl]) _
  have ah:Ext H G1:=by rw[ae];exact((Ext.refl H).push _).set (Lb _) _
  have az:G1.get H.y=some (.C y.cells 51):=by rw[ae,Qh,Lc rfl]
  have al:G1.get b=some (.C [.Z d,.S b1 aa.length cap,.map (some aD)] 66):=by rw[ah.get _ ax];exact ag
  simp only[<- ae];cases an:y.f.vex with
  | true=>
   rw[an]at ab;have ed:((d:Int)==0)=(d==0):=by rw[Ni];simp
   simp only[Qb,simprocAttr,al,ed,ZX];exact .ext ac ah ⟨by rw[ab];rfl,_,rfl⟩
  | false=>
   rw[an]at ab;simp only[Qb,simprocAttr,al,az,Qv,QV];refine⟨rfl,(QkZ y G1 (ao.ext ac ah)).w ?_⟩;rintro _ _ am aM ⟨rfl,aO,rfl⟩;simp only[Qw]at am;simp only[Qb,simprocAttr,Xh,ZX];refine⟨λ_ _=>rfl,.ext ac (ah.up am) ⟨?_,_,rfl⟩⟩;rw[ab];congr 1;rw[Ni];simp
structure QhN (ty:TypeId):Prop where
 m:∃kt e td inf,Pg.underlying ty=some (.map kt e)∧Pg.underlying kt=some td∧Pg.info? e=some inf∧inf.zero=some (.pointer none)∧∀c,Qax td (.int .u8 c)=true
def Qjz {H0 H:Qa}{v:Value}{d:Nat}{aa:List Lf}(bL:QhN 64)(b5:QDs H0 H v d aa)(ay:Ext H0 H)(cm:aa.length<=6000)(cj:d<=1000000)(c:Int):Qe Pg 28 [v,.int .u8 c] H λu H'=>Ext H0 H'∧∃zs:List Lf,zs.map (·.f)=(aa.map (·.f)).filter (λf=>Jz f d c)∧QDs H0 H' u (d+1) zs∧zs.length<=aa.length∧∀z∈zs,z∈aa:=by
 refine Qiv λan=>?_;obtain⟨cr,ce,ct,cq,bo,bp,bY,bZ,bq⟩:=bL.m;obtain⟨b,ao,cf,rfl,cg,bF,al,am,b6⟩:=b5;have bA:=b6.fms;obtain⟨⟨aP,cap,rfl,bK⟩,bO⟩:=id bA;have b9:=an.lt al;have bG:=an.lt am;have ci:b≠ao:=λe=>by subst e;rw[al]at am;cases am
 simp only[QaF,Qb,simprocAttr,al];rw[QCG (m:=ao) bo bp bY bZ rfl (by simp only[Qf,simprocAttr]) (by simp only[Qf,simprocAttr];exact bq c) am];have bR:¬b=H.y:=by omega
 have bS:¬b=H.y+1:=by omega
 have ed:IntKind.i64.wrap ((d:Int)+1)=((d+1:Nat):Int):=by rw[w64 (by unfold I64;omega)];omega
 simp only[Qb,simprocAttr,al,bR,bS,ed,QsO];have bh:Ext H ((H.push (.map [])).push (.C [.Z ((d+1:Nat):Int),.slice none 0 0,.map (some H.y)] 66)):=((Ext.refl H).push _).push _;have aY:((H.push (.map [])).push (.C [.Z ((d+1:Nat):Int),.slice none 0 0,.map (some H.y)] 66)).get H.y=some (.map []):=by rw[Qc,Le (by simp),Qc,Lc rfl]
 have aT:((H.push (.map [])).push (.C [.Z ((d+1:Nat):Int),.slice none 0 0,.map (some H.y)] 66)).get (H.y+1)=some (.C [.Z ((d+1:Nat):Int),.slice none 0 0,.map (some H.y)] 66):=by rw[Qc,Lc (by simp)]
 have bg:=(an.push (.map [])).push (.C [.Z ((d+1:Nat):Int),.slice none 0 0,.map (some H.y)] 66);have bI:((H.push (.map [])).push (.C [.Z ((d+1:Nat):Int),.slice none 0 0,.map (some H.y)] 66)).y=H.y+2:=rfl;generalize (H.push (.map [])).push (.C [.Z ((d+1:Nat):Int),.slice none 0 0,.map (some H.y)] 66)=H1 at bh aY aT bg bI;refine Qp (λm A' H'=>∃ (k:Nat) (zs:List Lf) (ae:Value),k<=aa.length∧m=aa.length - k∧H'.Wf∧Ext H H'∧H1.y<=H'.y∧H'.get H.y=some (.map [])∧H'.get (H.y+1)=some (.C [.Z ((d+1:Nat):Int),ae,.map (some H.y)] 66)∧Acc H1 H' ae zs∧
   zs.map (·.f)=((aa.take k).map (·.f)).filter (λf=>Jz f d c)∧zs.length<=k∧(∀z∈zs,z∈aa)∧
   A' 0=.P b∧A' 1=.int .u8 c∧A' 7=.P (H.y+1)∧A' 32=.slice aP aa.length cap∧A' 33=.Z aa.length∧A' 34=.Z k) aa.length ?_ ?_
 ·refine⟨0,[],.slice none 0 0,L7 _,by omega,bg,bh,Lb _,aY,aT,.inl ⟨rfl,rfl⟩,by simp,by simp,λz ai=>(by cases ai),?_,?_,?_,?_,?_,?_⟩
  all_goals simp only[uxA,uxB,Nat.reduceBEq]
  rfl
 rintro m A' H3 ⟨k,zs,ae,cl,rfl,ad,ab,cn,aI,aE,ak,az,bQ,aL,r0,r1,ap,aM,aN,aB⟩;simp only[Qb,simprocAttr,aN,aB];have aH:H3.get b=some (.C [.Z (d:Int),.slice aP aa.length cap,.map (some ao)] 66):=by rw[ab.get _ b9];exact al
 refine Qg (λac=>?_) (λac=>?_)
 ·have ac:k<aa.length:=by have:=Lg ac;omega
  obtain⟨b1,bz,bW,rfl,aU⟩:=bK (by omega);have bC:H3.get b1=some (.cells (Wm aa) bz bW):=by rw[ab.get _ (an.lt aU)];exact aU
  have d1:(0:Int)<=k∧(k:Int)<aa.length:=by omega
  have d3:(k:Int).toNat=k:=by omega
  have d4:k * 10+10<=aa.length * 10:=by omega
  have aS:IntKind.i64.wrap ((k:Int)+1)=((k+1:Nat):Int):=by rw[w64 (by unfold I64;omega)];omega
  have bd:=La ac;have aR:=GA aa k _ bd;have bV:=WM aa;have aK:aa[k]∈aa:=Nb ac;have aC:=(bO _ aK).ext an ab;have bm:aa.take (k+1)=aa.take k++[aa[k]]:=NM ac;generalize aa[k]=x at bd aR aK aC bm;have br:=Zg aC;have ch:=ad.lt aH;have bT:¬b=H3.y:=by omega
  simp only[Qb,simprocAttr,r0,r1,aM,aB,d1,d3,d4,bC,bV,aR,Qv,QV,br,aH,bT];obtain⟨G1,aj⟩:∃h,h=(H3.push (.C [.Z 0,.slice none 0 0,.slice none 0 0,.Z 0,.Z 0,.Z 0,.Z 0,.Z 0,.bool false,.Z 0] 51)).set H3.y (.C x.cells 51):=⟨_,rfl⟩;have cp:G1.Wf:=by rw[aj];exact(ad.push _).set (by rw[Qc,Lc rfl]) _
  have bj:Ext H3 G1:=by rw[aj];exact((Ext.refl H3).push _).set (Lb _) _
  have bD:G1.get H3.y=some (.C x.cells 51):=by rw[aj,Qh,Lc rfl]
  have co:G1.y=H3.y+1:=by rw[aj];rfl
  simp only[<- aj];refine(Qsq x d c G1 (aC.ext ad bj)).w ?_;rintro _ G2 bc aJ ⟨rfl,aA,rfl⟩;simp only[Qw]at bc;have ah:Ext H3 (G1.up aA):=bj.up bc;have aV:(G1.up aA).get H3.y=some (.C x.cells 51):=by rw[Xo];exact bD
  have bJ:H3.y+1<=(G1.up aA).y:=by simp only[Qw];omega
  generalize G1.up aA=G2 at aJ ah aV bJ;have ar:((aa.take (k+1)).map (·.f)).filter (λf=>Jz f d c)=((aa.take k).map (·.f)).filter (λf=>Jz f d c)++bif Jz x.f d c then[x.f] else[]:=by
   rw[bm,N6,Re];cases au:Jz x.f d c<;>simp[au]
  have aZ:G2.get H.y=some (.map []):=by rw[ah.get _ (ad.lt aI)];exact aI
  have aG:G2.get (H.y+1)=some (.C [.Z ((d+1:Nat):Int),ae,.map (some H.y)] 66):=by rw[ah.get _ (ad.lt aE)];exact aE
  simp only[Qb,simprocAttr];cases au:Jz x.f d c
  ·rw[au]at ar;simp only[Qb,simprocAttr,aB,aS];refine⟨aa.length - (k+1),by omega,k+1,zs,ae,by omega,rfl,aJ,ab.trans ah,by omega,aZ,aG,ak.ext ad ah,by rw[ar,az];simp,by omega,aL,?_,?_,?_,?_,?_,?_⟩
   all_goals simp only[Qf,simprocAttr,r0,r1,ap,aM,aN]
  rw[au]at ar;have bU:¬H.y+1=G2.y:=by omega
  simp only[Qb,simprocAttr,ap,aV,aG,Qv,QV];have bi:Ext H3 (G2.push (.C x.cells 51)):=ah.push _;have b7:=ak.ext ad bi;refine Acc.app2 b7 (by simp only[Qd];omega) (aJ.push _) (aC.ext ad bi) (by omega) (by rw[Qc,Lc rfl]) (λa l c' ax e=>?_) λcv H6 ca cb cc cd aO=>?_
  ·rcases ak with⟨h,_⟩ | ⟨bu,h,_,b4,_⟩;·rw[h]at ax;cases ax
   rw[h]at ax;cases ax;have:=ad.lt b4;simp only at e;omega
  obtain⟨a6,bn,aQ,rfl,b8⟩:=cd;simp only[Qd]at cb b8;have aD:∀id,id<H1.y->∀a l c,ae=.slice (some a) l c->id≠a.block:=λid aW a l c e=>by
   rcases ak with⟨h,_⟩ | ⟨bu,h,ag,_⟩;·rw[h]at e;cases e
   rw[h]at e;cases e;simp only;omega
  have aF:H6.get (H.y+1)=some (.C [.Z ((d+1:Nat):Int),ae,.map (some H.y)] 66):=by
   rw[aO _ (by simp only[Qd];omega) (aD _ (by omega)),Qc,Le bU];exact aG
  have bE:H6.get H.y=some (.map []):=by
   rw[aO _ (by simp only[Qd];omega) (aD _ (by omega)),Qc,Le (by omega)];exact aZ
  have bN:Ext H H6:=⟨by have:=ab.y;omega,λid aW=>by
   rw[aO _ (by simp only[Qd];omega) (aD _ (by omega)),Qc,Le (by omega),ah.get _ (by have:=ab.y;omega)];exact ab.get _ aW⟩
  simp only[Qb,simprocAttr,aB,aS,aF];refine⟨aa.length - (k+1),by omega,k+1,zs++[x],.slice (some a6) bn aQ,by omega,rfl,ca.set aF _,bN.set (by omega) _,by simp only[Qo];omega,by rw[Qh,Le (by omega)];exact bE,by rw[Qh,Lc rfl],?_,by rw[ar,N6,az];simp,by simp;omega,?_,?_,?_,?_,?_,?_,?_⟩
  ·rcases cc with⟨h,_⟩ | ⟨bw,h,g1,g2,g3,g4⟩;·cases h
   refine .inr ⟨bw,h,g1,?_,g3,λy bP=>?_⟩;·rw[Qh,Le (by omega)];exact g2
   have av:=g4 y bP;have keep:∀ (s:Value) (l:List Int),Qaa H6 s l.length (ints l)->Qaa (H6.set (H.y+1) (.C [.Z ((d+1:Nat):Int),.slice (some a6) bn aQ,.map (some H.y)] 66)) s l.length (ints l):=λs l h=>by
    obtain⟨a,bx,rfl,b3⟩:=h;refine⟨a,bx,rfl,λbH=>?_⟩;obtain⟨bb,b2,bX,rfl,aq⟩:=b3 bH;refine⟨bb,b2,bX,rfl,?_⟩;rw[Qh,Le (λe=>?_)];·exact aq
    subst e;rw[aF]at aq;simp only[Lt,Blk.cells.injEq]at aq;have ag:(ints l)[2]? = some (.map (some H.y)):=by rw[<- aq.1];rfl
    unfold ints at ag;rw[LD]at ag;cases aX:l[2]? with
    | none=>rw[aX]at ag;cases ag
    | some z=>rw[aX]at ag;cases ag
   exact⟨av.1,av.2.1,keep _ _ av.2.2.1,keep _ _ av.2.2.2⟩
  ·intro z ai;simp only[LI,Sa]at ai;rcases ai with ai | rfl;·exact aL z ai
   exact aK
  all_goals simp only[Qf,simprocAttr,r0,r1,ap,aM,aN]
 have ac:k=aa.length:=by have:=Ll ac;omega
 subst ac;have ba:H3.get ao=some (.map []):=by rw[ab.get _ bG];exact am
 simp only[Qb,simprocAttr,r0,r1,ap,aH];rw[QEm (m:=ao) bo bp (by simp only[Qf,simprocAttr]) (by simp only[Qf,simprocAttr];exact bq c) ba];simp only[Qb,simprocAttr,ap,QhU];have bM:=ay.trans ab;rw[LF (Lb _)]at az;refine .mk (by simp only[Qo];exact ab.y) ⟨bM.set bF _,zs,az,⟨H.y+1,H.y,ae,rfl,by have:=ay.y;omega,ay.y,?_,?_,(ak.mono (by have:=ay.y;omega)).setMap ba⟩,bQ,aL⟩;·rw[Qh,Le (by omega)];exact aE
 rw[Qh,Le (by omega)];exact aI
def Qwq (H:Qa)(v:Value)(bs:List Int):Prop:=∃a cap,v=.slice a bs.length cap∧(0<bs.length->∃b o c e ro,a=some ⟨b,o,none⟩∧H.get b=some (.cells c e ro)∧∀i,i<bs.length->c[o+i]? = some (.int .u8 (bs.getD i 0)))
def Qwq.ext {H H':Qa}{v:Value}{bs:List Int}(ag:H.Wf)(ad:Ext H H')(h:Qwq H v bs):Qwq H' v bs:=by
 obtain⟨a,cap,rfl,ab⟩:=h;refine⟨a,cap,rfl,λae=>?_⟩;obtain⟨b,o,c,e,ro,rfl,aa,ac⟩:=ab ae;exact⟨b,o,c,e,ro,rfl,by rw[ad.get b (ag.lt aa)];exact aa,ac⟩
def QyN (c:Int):Bool:=IntKind.u8.wrap (BitVec.ofInt IntKind.u8.bits c &&& BitVec.ofInt IntKind.u8.bits 240).toNat==64
def Qbe:List Int->Bool->Nat->List Fm->List Fm
 | [],_,_,L=>L
 | c::cs,ah,d,L=>bif QyM d L then(bif ah&&QyN c then Qbe cs false d L else Qbe cs (ah&&((c==102)||(c==242)||(c==243))) (d+1) (L.filter λf=>Jz f d c)) else L
def QtW {T:Qa->Prop}{L:List Fm}(aT:∀H,T H->Qe Pg 48 [] H λu H'=>QaY H H' u L)(aJ:QhN 64)(va:Value)(bs:List Int)(H:Qa)(bi:T H)(aU:Qwq H va bs)(bw:bs.length<=100000):Qe Pg 16 [va] H λu H'=>QaY H H' u (Qbe bs true 0 L):=by
 refine Qru λbj=>?_;simp only[Qit,Qb,simprocAttr];refine(QtU aT H bi).w ?_;rintro nv H1 bz bm ⟨bo,bu,e1,aS,aZ,aX⟩;obtain⟨aO,cap,rfl,bh⟩:=id aU;simp only[Qb,simprocAttr];refine Qp (λm A' H'=>∃ (i:Nat) (ai:Bool) (d:Nat) (zs:List Lf),i<=bs.length∧m=bs.length - i∧H'.Wf∧Ext H H'∧QDs H H' (A' 3) d zs∧Qbe (bs.drop i) ai d (zs.map (·.f))=Qbe bs true 0 L∧d<=i∧zs.length<=6000∧(∀z∈zs,z.Fr H.y)∧
   A' 4=.bool ai∧A' 8=.slice aO bs.length cap∧A' 9=.Z bs.length∧A' 10=.Z i) bs.length ?_ ?_
 ·refine⟨0,true,0,bu,L7 _,by omega,bm,bo,?_,by rw[Lw,e1],Lb _,aZ,aX,?_,?_,?_,?_⟩
  all_goals simp only[uxA,uxB,Nat.reduceBEq]
  ·exact aS
  rfl
 rintro m A' H3 ⟨i,ai,d,zs,hi,rfl,bn,aj,an,aa,bx,ad,ag,r4,r8,ak,ah⟩;simp only[Qb,simprocAttr,ak,ah];refine Qg (λab=>?_) (λab=>?_)
 ·have ab:i<bs.length:=by have:=Lg ab;omega
  obtain⟨b1,o1,c1,aP,bq,rfl,aF,aW⟩:=bh (by omega);have aY:H3.get b1=some (.cells c1 aP bq):=by rw[aj.get _ (bj.lt aF)];exact aF
  have d1:(0:Int)<=i∧(i:Int)<bs.length:=by omega
  have d3:(i:Int).toNat=i:=by omega
  have al:IntKind.i64.wrap ((i:Int)+1)=((i+1:Nat):Int):=by rw[w64 (by unfold I64;omega)];omega
  have aD:=aW i ab;have aE:bs.drop i=bs.getD i 0::bs.drop (i+1):=by
   rw[Nh ab];simp[List.getD,La ab]
  rw[aE,Qbe]at aa;generalize bs.getD i 0=c at aD aa aE;simp only[Qb,simprocAttr,r8,ah,d1,d3,aY,aD];refine(QtV an ad).w ?_;rintro _ _ aG aK ⟨rfl,aA,rfl⟩;simp only[Qw]at aG;have ax:Ext H3 (H3.up aA):=(Ext.refl H3).up aG;have ae:QDs H (H3.up aA) (A' 3) d zs:=by
   obtain⟨b,aB,am,g1,g2,g3,g4,aQ,aR⟩:=an;exact⟨b,aB,am,g1,g2,g3,by rw[Xo];exact g4,by rw[Xo];exact aQ,aR.ext bn ax⟩
  have ac:=aj.trans ax;generalize H3.up aA=H4 at aK ax ae ac;simp only[Qb,simprocAttr];cases aH:QyM d (zs.map (·.f)) with
  | false=>
   rw[aH,Ls]at aa;obtain⟨b,aB,am,e3,aV,bd,aq,bc,ap⟩:=ae;simp only[Qb,simprocAttr,e3,aq,Qg2];exact .mk ac.y ⟨ac,zs,aa,ap,ad,ag⟩
  | true=>
   rw[aH,Lq]at aa;simp only[Qb,simprocAttr,r4];have bp:(IntKind.u8.wrap (BitVec.ofInt IntKind.u8.bits c &&& BitVec.ofInt IntKind.u8.bits 240).toNat==64)=QyN c:=rfl;cases ai with
   | true=>
    simp only[LJ]at aa;simp only[Qb,simprocAttr,bp];cases aI:QyN c with
    | true=>
     rw[aI,Lq]at aa;simp only[Qb,simprocAttr,ah,al];refine⟨bs.length - (i+1),by omega,i+1,false,d,zs,by omega,rfl,aK,ac,?_,aa,by omega,ad,ag,?_,?_,?_,?_⟩
     all_goals simp only[Qf,simprocAttr,r8,ak]
     exact ae
    | false=>
     rw[aI,Ls]at aa;cases aL:c==102<;>cases aM:c==242<;>cases aN:c==243<;>simp only[Qb,simprocAttr,r4,aL,aM,aN]
     all_goals
      rw[aL,aM,aN]at aa;simp only[NI,Bd,Bool.or_self]at aa;refine(Qjz aJ ae ac ad (by omega) c).w ?_;rintro br H6 bg au ⟨av,aC,az,ao,ba,ar⟩;simp only[Qb,simprocAttr,ah,al];refine⟨bs.length - (i+1),by omega,i+1,_,d+1,aC,by omega,rfl,au,av,?_,by rw[az];exact aa,by omega,by omega,λz ay=>ag z (ar z ay),?_,?_,?_,?_⟩
      all_goals simp only[Qf,simprocAttr,r8,ak]
      first | exact ao | rfl
   | false=>
    simp only[NG,Ls]at aa;simp only[Qb,simprocAttr,r4];refine(Qjz aJ ae ac ad (by omega) c).w ?_;rintro br H6 bg au ⟨av,aC,az,ao,ba,ar⟩;simp only[Qb,simprocAttr,ah,al];refine⟨bs.length - (i+1),by omega,i+1,_,d+1,aC,by omega,rfl,au,av,?_,by rw[az];exact aa,by omega,by omega,λz ay=>ag z (ar z ay),?_,?_,?_,?_⟩
    all_goals simp only[Qf,simprocAttr,r8,ak]
    first | exact ao | rfl
 have ab:i=bs.length:=by have:=Ll ab;omega
 subst ab;rw[NK (Lb _),Qbe]at aa;obtain⟨b,aB,am,e3,aV,bd,aq,bc,ap⟩:=an;simp only[Qb,simprocAttr,e3,aq,Qg2];exact .mk aj.y ⟨aj,zs,aa,ap,ad,ag⟩
def QFX:Bool:=match Pg.underlying 64 with
 | some (.map k e)=>(match Pg.underlying k,Pg.info? e with
  | some (.int _),some inf=>(match inf.zero with | some (.pointer none)=>true | _=>false)
  | _,_=>false)
 | _=>false
def QFY (h:QFX=true):QhN 64:=by
 unfold QFX at h;split at h
 ·rename_i k e aa;split at h
  ·rename_i ik ae ab ac;split at h;·rename_i ad;exact⟨⟨k,e,_,ae,aa,ab,ac,ad,λc=>rfl⟩⟩
   cases h
  cases h
 cases h
