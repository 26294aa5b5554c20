/- Forms in memory, and the kit's parts that look at them. -/
import Derived.Test.YtgepgbbjfhggfaaGreatDoorC0Code
import Derived.Test.YtgepgbbjfhggfaaGreatDoorAbD
import Derived.Laws.BitsLemmas
import Derived.Test.YtgepgbbjfhggfaaGreatDoorAbC
import Derived.Test.YtgepgbbjfhggfaaGreatDoorC9Ref
set_option linter.unusedVariables false
set_option linter.unusedSimpArgs false
set_option maxRecDepth 100000
noncomputable section
namespace Go.Proofs.YtgepgbbjfhggfaaGreatDoor.code
open Go.Ab
def I64 (n:Int):Prop:=-9223372036854775808<=n∧n<=9223372036854775807
theorem w64 {n:Int}(h:I64 n):IntKind.i64.wrap n=n:=by
 rw[NU];unfold I64 at h;omega
def ints (l:List Int):List Value:=l.map (.int .i64 ·)
theorem ZJ {l:List Int}{i:Nat}(h:i<l.length):(ints l)[i]? = some (.int .i64 (l.getD i 0)):=by
 simp[ints,La h,List.getD]
theorem Qxt (l:List Int):(ints l).length=l.length:=by simp[ints]
def QdA (H:Qa)(v:Value)(n:Nat)(cs:List Value):Prop:=∃a cap,v=.slice a n cap∧(0<n->∃b e ro,a=some ⟨b,0,none⟩∧H.get b=some (.cells cs e ro))
theorem QdA.ext {H H':Qa}{v:Value}{n:Nat}{cs:List Value}(ac:H.Wf)(aa:Ext H H')(h:QdA H v n cs):QdA H' v n cs:=by
 obtain⟨a,cap,rfl,q⟩:=h;refine⟨a,cap,rfl,λab=>?_⟩;obtain⟨b,e,ro,rfl,hb⟩:=q ab;exact⟨b,e,ro,rfl,by rw[aa.get b (ac.lt hb)];exact hb⟩
theorem Qu {H:Qa}{v:Value}{n:Nat}{cs:List Value}(h:QdA H v n cs):∃a cap,v=.slice a n cap:=by
 obtain⟨a,cap,rfl,_⟩:=h;exact⟨a,cap,rfl⟩
structure Fm where
 op:Int
 pre:Int
 map:Int
 code:Int
 digit:Int
 w:Int
 l:Int
 vex:Bool
 shapes:List Int
 slots:List Int
 deriving DecidableEq
structure Lf where
 f:Fm
 sv:Value
 tv:Value
def Lf.cells (x:Lf):List Value:=[.int .i64 x.f.op,x.sv,x.tv,.int .i64 x.f.pre,.int .i64 x.f.map,.int .i64 x.f.code,.int .i64 x.f.digit,.int .i64 x.f.w,.bool x.f.vex,.int .i64 x.f.l]
def Lf.At (H:Qa)(x:Lf):Prop:=x.f.shapes.length<=1000∧x.f.slots.length<=1000∧QdA H x.sv x.f.shapes.length (ints x.f.shapes)∧QdA H x.tv x.f.slots.length (ints x.f.slots)
theorem Lf.At.ext {H H':Qa}{x:Lf}(aa:H.Wf)(q:Ext H H')(h:x.At H):x.At H':=⟨h.1,h.2.1,h.2.2.1.ext aa q,h.2.2.2.ext aa q⟩
def Wv (xs:List Lf):List Value:=xs.flatMap Lf.cells
theorem QK (x:Lf):x.cells.length=10:=rfl
theorem XH:∀xs:List Lf,(Wv xs).length=xs.length * 10
 | []=>rfl
 | x::xs=>by
  have:=XH xs;simp only[Wv,Ba,Lh,QK,Lo]at this ⊢;omega
theorem QcG:∀ (l:List Lf) (i:Nat) (p:Lf),l[i]? = some p->((Wv l).drop (i * 10)).take 10=p.cells
 | [],i,p,h=>by simp at h
 | q::l,0,p,h=>by
  simp at h;subst h;have:(Wv (q::l))=q.cells++Wv l:=by simp[Wv]
  rw[this,BH,Lw,NO (by rw[QK];exact Lb 10),LF (by rw[QK];exact Lb 10)]
 | q::l,i+1,p,h=>by
  have e:(Wv (q::l))=q.cells++Wv l:=by simp[Wv]
  rw[e,show(i+1) * 10=q.cells.length+i * 10 by rw[QK];omega,B3,NK (by omega),LH,NL];exact QcG l i p (by simpa using h)
theorem Qxv (l:List Lf)(i j:Nat)(p:Lf)(h:l[i]? = some p)(q:j<10):(Wv l)[i * 10+j]? = p.cells[j]? := by
 rw[<- QcG l i p h,Nl,Lc q,Nk]
theorem lg0 (p:Lf):p.cells[0]? = some (.int .i64 p.f.op):=Nu rfl rfl
theorem Wt (p:Lf):List.take 10 p.cells=p.cells:=Nu rfl rfl
theorem Qxw (xs:List Lf)(x:Lf):Wv (xs++[x])=Wv xs++x.cells:=by simp[Wv]
def Qkj (H:Qa)(v:Value)(xs:List Lf):Prop:=QdA H v xs.length (Wv xs)∧∀x∈xs,x.At H
theorem Qkj.ext {H H':Qa}{v:Value}{xs:List Lf}(aa:H.Wf)(q:Ext H H')(h:Qkj H v xs):Qkj H' v xs:=⟨h.1.ext aa q,λx ab=>(h.2 x ab).ext aa q⟩
theorem Qxx {H:Qa}{v:Value}{n:Nat}{cs:List Value}(h:QdA H v n cs):v.oneCell'=true:=by
 obtain⟨a,cap,rfl,_⟩:=h;rfl
theorem Qex {H:Qa}{x:Lf}(h:x.At H):(x.cells.all λv=>v.oneCell')=true:=by
 simp only[Lf.cells,Bv,BI,Qxx h.2.2.1,Qxx h.2.2.2,Be];rfl
def QdO:List Int->Int->Nat->Int
 | [],_,_=>-1
 | y::l,x,k=>if x=y then(k:Int) else QdO l x (k+1)
def Qp (l:List Int)(x:Int):Int:=QdO l x 0
theorem Qn9 (x:Int):∀ (l:List Int) (k i:Nat),(∀j,j<i->¬x=l.getD j 0)->i<l.length->x=l.getD i 0->QdO l x k=((k+i:Nat):Int)
 | [],k,i,_,hl,_=>by simp at hl
 | y::l,k,0,_,_,h=>by
  have h:x=y:=by simpa using h
  simp[QdO,h]
 | y::l,k,i+1,hn,hl,h=>by
  have q:¬x=y:=by have:=hn 0 (by omega);simpa using this
  rw[QdO,Le q,Qn9 x l (k+1) i (λj aa=>by have:=hn (j+1) (by omega);simpa using this) (by simpa using hl) (by simpa using h)];congr 1;omega
theorem Qoa (x:Int):∀ (l:List Int) (k:Nat),(∀j,j<l.length->¬x=l.getD j 0)->QdO l x k=-1
 | [],k,_=>rfl
 | y::l,k,hn=>by
  have q:¬x=y:=by have:=hn 0 (by simp);simpa using this
  rw[QdO,Le q];exact Qoa x l (k+1) (λj aa=>by have:=hn (j+1) (by simpa using aa);simpa using this)
theorem Qsx (va:Value)(xs:List Int)(x:Int)(H:Qa)(al:QdA H va xs.length (ints xs))(ar:xs.length<=1000):Qe prog 75 [va,.int .i64 x] H λu H'=>u=.int .i64 (Qp xs x)∧H'=H:=by
 refine V9 λau=>?_;obtain⟨ag,ah,rfl,an⟩:=al;simp only[Jl,Qb,simprocAttr];refine Qo (λm A' H'=>∃i:Nat,i<=xs.length∧m=xs.length - i∧H'=H∧(∀j,j<i->¬x=xs.getD j 0)∧A' 0=.slice ag xs.length ah∧A' 1=.int .i64 x∧A' 7=.int .i64 (xs.length:Int)∧A' 8=.int .i64 i) xs.length ?_ ?_
 ·refine⟨0,L7 _,by omega,rfl,λj h=>by omega,?_,?_,?_,?_⟩
  all_goals simp only[uxA,uxB,Nat.reduceBEq]
  rfl
 ·rintro m A' H' ⟨i,hi,rfl,ak,ac,ad,r1,ae,ab⟩;subst ak;simp only[Qb,simprocAttr,ae,ab];refine Qf (λq=>?_) (λq=>?_)
  ·have q:i<xs.length:=by have:=Lg q;omega
   obtain⟨ao,e1,av,rfl,am⟩:=an (by omega);have ai:(0:Int)<=i∧(i:Int)<xs.length:=by omega
   have aj:(i:Int).toNat=i:=by omega
   have ei:IntKind.i64.wrap ((i:Int)+1)=((i+1:Nat):Int):=by rw[w64 (by unfold I64;omega)];omega
   have g1:=ZJ (l:=xs) (i:=i) (by omega);simp only[Qb,simprocAttr,ad,r1,ab,ai,aj,am,g1];refine Qf (λaa=>?_) (λaa=>?_)
   ·have aa:x=xs.getD i 0:=by simpa using aa
    simp only[Qb,simprocAttr,ab,Yt];exact .mk (Lb _) ⟨by rw[Qp,Qn9 x xs 0 i ac q aa,LP],rfl⟩
   ·have aa:¬x=xs.getD i 0:=by simpa using aa
    simp only[Qb,simprocAttr,ab,ei];refine⟨xs.length - (i+1),by omega,i+1,by omega,rfl,rfl,λj aq=>?_,?_,?_,?_,?_⟩
    ·rcases Nq j i with h | h
     ·exact ac j h
     ·rw[show j=i by omega];exact aa
    all_goals simp only[Qg,simprocAttr,ad,r1,ae]
  ·have q:i=xs.length:=by have:=Ll q;omega
   subst q;simp only[Qb,simprocAttr,Yt];exact .mk (Lb _) ⟨by rw[Qp,Qoa x xs 0 ac],rfl⟩
theorem Ww (x:Lf)(k:Int)(H:Qa)(ab:x.At H):Qe prog 248 [.agg x.cells.toArray,.int .i64 k] H λu H'=>u=.int .i64 (Qp x.f.slots k)∧∃m,H'=H.up m:=by
 refine QtI λaa=>?_;obtain⟨ag,ac,ae,q⟩:=ab;obtain⟨a2,ad,e2,_⟩:=id q;simp only[Lf.cells,Ql9,e2,Qb,simprocAttr];rw[<- e2];refine(Qsx _ x.f.slots k _ (q.ext aa ((Ext.refl H).push _)) ac).mono ?_;rintro _ _ ⟨rfl,rfl⟩;simp only[Qb,simprocAttr,Qsq];exact .ext aa ((Ext.refl H).push _) ⟨rfl,_,rfl⟩
theorem QA4 {H:Qa}{l:List Int}{y:Lf}{ys:List Lf}(ab:y.At H)(h:ints l=Wv (y::ys)):False:=by
 have q:(ints l)[1]? = some y.sv:=by rw[h];simp[Wv,Lf.cells]
 obtain⟨a,c,e,_⟩:=ab.2.2.1;rw[e]at q;unfold ints at q;rw[LD]at q;cases aa:l[1]? with
 | none=>rw[aa]at q;cases q
 | some z=>rw[aa]at q;cases q
def Acc (H0 H:Qa)(v:Value)(ys:List Lf):Prop:=(v=.slice none 0 0∧ys=[])∨(∃b,v=.slice (some ⟨b,0,none⟩) ys.length (UNK+10)∧H0.next<=b∧H.get b=some (.cells (Wv ys) 45 false)∧ys≠[]∧∀y∈ys,y.At H)
theorem Acc.ext {H0 H H':Qa}{v:Value}{ys:List Lf}(aa:H.Wf)(ab:Ext H H')(h:Acc H0 H v ys):Acc H0 H' v ys:=by
 rcases h with h | ⟨b,ac,ad,q,ae,ag⟩
 ·exact .inl h
 ·exact .inr ⟨b,ac,ad,by rw[ab.get _ (aa.lt q)];exact q,ae,λy ah=>(ag y ah).ext aa ab⟩
theorem Acc.fms {H0 H:Qa}{v:Value}{ys:List Lf}(h:Acc H0 H v ys):Qkj H v ys:=by
 rcases h with⟨rfl,rfl⟩ | ⟨b,rfl,ac,q,ad,aa⟩
 ·exact⟨⟨none,0,rfl,λh=>by simp at h⟩,λx ab=>by cases ab⟩
 ·exact⟨⟨_,_,rfl,λ_=>⟨b,_,_,rfl,q⟩⟩,aa⟩
theorem QdA.kill {H:Qa}{v:Value}{l:List Int}{b:Nat}{y:Lf}{ys:List Lf}{e:TypeId}{ro:Bool}(hb:H.get b=some (.cells (Wv (y::ys)) e ro))(ad:y.At H)(h:QdA H v l.length (ints l)):QdA (H.kill b) v l.length (ints l):=by
 obtain⟨a,cap,rfl,ab⟩:=h;refine⟨a,cap,rfl,λac=>?_⟩;obtain⟨aa,e1,ae,rfl,q⟩:=ab ac;refine⟨aa,e1,ae,rfl,?_⟩;have:aa≠b:=λe=>by
  subst e;rw[hb]at q;simp only[Lt,Blk.cells.injEq]at q;exact QA4 ad q.1.symm
 rw[WV,Le this];exact q
theorem Lf.At.kill {H:Qa}{x:Lf}{b:Nat}{ys:List Lf}{e:TypeId}{ro:Bool}(hb:H.get b=some (.cells (Wv ys) e ro))(aa:ys≠[])(q:∀y∈ys,y.At H)(h:x.At H):x.At (H.kill b):=by
 cases ys with
 | nil=>exact absurd rfl aa
 | cons y ys=>exact⟨h.1,h.2.1,h.2.2.1.kill hb (q y (Ny ..)),h.2.2.2.kill hb (q y (Ny ..))⟩
def QIY (H:Qa)(g:Value)(p:Fm->Bool):Prop:=∃ (f:FuncId) (ys:List Value),g=.func (.func f) #[] ys.toArray∧∀ (x:Lf) H',Ext H H'->x.At H'->Qe prog f ([.agg x.cells.toArray]++ys) H' λu H''=>u=.bool (p x.f)∧∃m,H''=H'.up m
def QxL (n cap:Nat):Prop:=cap=UNK+1∨(n<=cap∧cap<UNK)
def SlF (M:Nat)(v:Value)(l:List Int):Prop:=(l=[]∧v=.slice none 0 0)∨(l≠[]∧∃b cap,v=.slice (some ⟨b,0,none⟩) l.length cap∧M<=b∧QxL l.length cap)
theorem SlF.mono {M M':Nat}{v:Value}{l:List Int}(ac:M'<=M)(h:SlF M v l):SlF M' v l:=by
 rcases h with h | ⟨h,b,cap,q,ab,aa⟩
 ·exact .inl h
 ·exact .inr ⟨h,b,cap,q,by omega,aa⟩
def Lf.Fr (M:Nat)(x:Lf):Prop:=SlF M x.sv x.f.shapes∧SlF M x.tv x.f.slots
theorem Lf.Fr.mono {M M':Nat}{x:Lf}(q:M'<=M)(h:x.Fr M):x.Fr M':=⟨h.1.mono q,h.2.mono q⟩
def Kc (T:Qa->Prop)(f:FuncId)(L:List Fm):Prop:=∀H,T H->Qe prog f [] H λu H'=>Ext H H'∧∃xs:List Lf,xs.map (·.f)=L∧Acc H H' u xs∧xs.length<=1000∧∀x∈xs,x.Fr H.next
theorem Acc.mono {H0 H1 H:Qa}{v:Value}{ys:List Lf}(ac:H0.next<=H1.next)(h:Acc H1 H v ys):Acc H0 H v ys:=by
 rcases h with h | ⟨b,q,ab,aa⟩
 ·exact .inl h
 ·exact .inr ⟨b,q,by omega,aa⟩
def Qhv (H H':Qa)(v:Value):Prop:=∀id bl,H.get id=some bl->(∀a l c,v=.slice (some a) l c->id≠a.block)->H'.get id=some bl
theorem Qhv.ints {H0 H H':Qa}{v s:Value}{ys:List Lf}{l:List Int}(ai:Qhv H H' v)(ah:Acc H0 H v ys)(h:QdA H s l.length (ints l)):QdA H' s l.length (ints l):=by
 obtain⟨a,cap,rfl,ac⟩:=h;refine⟨a,cap,rfl,λaj=>?_⟩;obtain⟨ab,e1,ak,rfl,q⟩:=ac aj;refine⟨ab,e1,ak,rfl,ai _ _ q λa l c aa e=>?_⟩;rcases ah with⟨rfl,_⟩ | ⟨b,rfl,al,ad,ae,ag⟩
 ·cases aa
 ·cases aa;subst e;cases ys with
  | nil=>exact ae rfl
  | cons y ys=>
   rw[ad]at q;simp only[Lt,Blk.cells.injEq]at q;exact QA4 (ag y (Ny ..)) q.1.symm
theorem Qhv.at {H0 H H':Qa}{v:Value}{ys:List Lf}{x:Lf}(aa:Qhv H H' v)(q:Acc H0 H v ys)(h:x.At H):x.At H':=⟨h.1,h.2.1,aa.ints q h.2.2.1,aa.ints q h.2.2.2⟩
theorem Qhv.fms {H0 H H':Qa}{v u:Value}{ys xs:List Lf}(aa:Qhv H H' v)(ae:Acc H0 H v ys)(h:Qkj H u xs)(ai:∀a l c q al c',u=.slice (some a) l c->v=.slice (some q) al c'->a.block≠q.block):Qkj H' u xs:=by
 obtain⟨⟨a,cap,rfl,ac⟩,ad⟩:=h;refine⟨⟨a,cap,rfl,λah=>?_⟩,λx ak=>aa.at ae (ad x ak)⟩;obtain⟨ab,e1,am,rfl,ag⟩:=ac ah;exact⟨ab,e1,am,rfl,aa _ _ ag λa l c aj=>ai _ _ _ _ _ _ rfl aj⟩
theorem Qhv.next {H H':Qa}{v:Value}(_:Qhv H H' v):True:=trivial
theorem Acc.app {H0 H:Qa}{v:Value}{ys:List Lf}{x:Lf}{aa:Nat}{K:Value->Qa->Prop}(h:Acc H0 H v ys)(ae:Ext H0 H)(ad:H.Wf)(ag:x.At H)(aw:ys.length<=100000)(an:H.get aa=some (.cells x.cells 45 false))(aq:∀a l c,v=.slice (some a) l c->a.block≠aa)
  (ai:∀ah H',Ext H0 H'->H'.Wf->H.next<=H'.next->Acc H0 H' ah (ys++[x])->(∀a l c,ah=.slice (some a) l c->H.next<=a.block)->Qhv H H' v->K ah H'):QbP 45 10 112 v (.slice (some ⟨aa,0,none⟩) 1 1) H K:=by
 have al:Zt 10 (.slice (some ⟨aa,0,none⟩) 1 1) H=some (1,x.cells):=by
  have:=Y5 (size:=10) (m:=1) (b:=aa) (o:=0) (cap:=1) (c:=x.cells) (e:=45) (ro:=false) (H:=H) an (by decide) (by rw[QK];decide);rw[this];rfl
 have a1:=Qex ag;have ak:=ae.next;rcases id h with⟨rfl,rfl⟩ | ⟨b,rfl,am,aj,ax,ar⟩
 ·refine Qn1 al a1 (by decide) (by decide) (by decide) ?_;have ab:Qhv H (H.push (.cells x.cells 45 false)) (.slice none 0 0):=λid bl ac _=>by
   rw[Qc,Le (by have:=ad.lt ac;omega)];exact ac
  refine ai _ _ (ae.push _) (ad.push _) (by simp) (.inr ⟨H.next,rfl,ak,by rw[Qc,Lc rfl];simp[Wv],by simp,λy q=>?_⟩) (λa l c e=>by cases e;exact Lb _) ab;simp only[LH,Sa]at q;subst q;exact ab.at h ag
 ·have au:=ad.lt aj;have av:b≠aa:=aq _ _ _ rfl;refine Qn0 rfl al a1 (by decide) (c:=Wv ys) aj (by rw[XH];omega) (by omega) (by omega) (by unfold UNK;omega) ?_;have ab:Qhv H ((H.kill b).push (.cells (Wv ys++x.cells) 45 false)) (.slice (some ⟨b,0,none⟩) ys.length (UNK+10)):=λid bl ac ao=>by
   rw[Qc,Le (by have:=ad.lt ac;simp;omega),WV,Le (ao _ _ _ rfl)];exact ac
  have:=ai (.slice (some ⟨H.next,0,none⟩) (ys.length+1) (UNK+10)) ((H.kill b).push (.cells (Wv ys++x.cells) 45 false)) ((ae.kill am).push _) ((ad.kill _).push _) (by simp)
   (.inr ⟨H.next,by simp,ak,by rw[Qc,Lc (by simp),Qxw],by simp,λy q=>?_⟩) (λa l c e=>by cases e;exact Lb _) ab
  ·exact this
  ·simp only[LI,Sa]at q;rcases q with q | rfl
   ·exact ab.at h (ar y q)
   ·exact ab.at h ag
theorem QqW (f:Fn)(xs ys:Array Value):(Value.func f xs ys).cells.toList=[.func f xs ys]:=Nu rfl rfl
theorem QoY (f:Fn)(xs ys:Array Value):(Value.func f xs ys).oneCell'=true:=Nu rfl rfl
theorem QpY (f:FuncId)(l:List Value)(H:Qa)(k:Value->Qa->Prop):cvK (.func (.func f) #[] #[]) prog l H k=Qe prog f l H k:=by
 show Qe prog f (([]:List Value)++l++[]) H k=_;rw[LH,Na]
theorem QA5 (f:FuncId)(ys l:List Value)(H:Qa)(k:Value->Qa->Prop):cvK (.func (.func f) #[] ys.toArray) prog l H k=Qe prog f (l++ys) H k:=by
 show Qe prog f (([]:List Value)++l++ys) H k=_;rw[LH]
def QkX (H H':Qa)(u:Value)(L:List Fm):Prop:=Ext H H'∧∃ys:List Lf,ys.map (·.f)=L∧Acc H H' u ys∧ys.length<=6000∧∀y∈ys,y.Fr H.next
def lis:List (Int×Int×FuncId):=[(1,16,97),(16,47,98),(48,115,99),(116,135,100),(136,262,101),(263,322,102)]
def liC (x:Int×Int×FuncId):List Value:=[.int .i64 x.1,.int .i64 x.2.1,.func (.func x.2.2) #[] #[]]
theorem Quk (H:Qa):Qe prog 61 [] H λu H'=>u=.slice (some ⟨H.next,0,none⟩) 6 6∧H'=H.push (.cells (lis.flatMap liC) 88 false):=by
 refine Qsp λq=>?_;simp only[Qkc,sxA,sxB,Nat.reduceBEq,Nat.reduceEqDiff,reduceCtorEq,mxA,mxB,Nat.reduceAdd,reduceIte,Nat.reduceLeDiff,splice,QqW,QoY,Qq9,Nat.reduceMul,Nat.reduceLeDiff,N3];exact .mk (by simp) ⟨rfl,rfl⟩
theorem QEv:∀ (l:List (Int×Int×FuncId)) (i:Nat) (p:Int×Int×FuncId),l[i]? = some p->((l.flatMap liC).drop (i * 3)).take 3=liC p
 | [],i,p,h=>by simp at h
 | q::l,0,p,h=>by
  simp at h;subst h;simp[liC]
 | q::l,i+1,p,h=>by
  have e:((q::l).flatMap liC)=liC q++l.flatMap liC:=by simp
  have n:(liC q).length=3:=rfl;rw[e,show(i+1) * 3=(liC q).length+i * 3 by rw[n];omega,B3,NK (by omega),LH,NL];exact QEv l i p (by simpa using h)
def Qto (LL:FuncId->List Fm)(fr q:Int)(p:Fm->Bool)(l:List (Int×Int×FuncId)):List Fm:=l.flatMap λx=>bif decide (q<x.1)||decide (fr>x.2.1) then[] else(LL x.2.2).filter p
theorem Qrv {T:Qa->Prop}(aN:∀H H',H.Wf->T H->Ext H H'->T H')(LL:FuncId->List Fm)(b8:∀x∈lis,Kc T x.2.2 (LL x.2.2))(fr ae:Int)(g:Value)(p:Fm->Bool)(H:Qa)(aQ:QIY H g p)(bK:T H):
  Qe prog 36 [.int .i64 fr,.int .i64 ae,g] H λu H'=>Ext H H'∧∃ys:List Lf,ys.map (·.f)=Qto LL fr ae p lis∧Acc H H' u ys∧ys.length<=6000∧∀y∈ys,y.Fr H.next:=by
 refine QpC λbN=>?_;obtain⟨bj,bk,rfl,aQ⟩:=aQ;simp only[QgJ,sxA,sxB,Nat.reduceBEq,Nat.reduceEqDiff,reduceCtorEq,mxA,mxB,Nat.reduceAdd,reduceIte,Nat.reduceLeDiff,splice];refine(Quk H).thenW ?_;rintro _ _ cl ay ⟨rfl,rfl⟩;simp only[sxA,sxB,Nat.reduceBEq,Nat.reduceEqDiff,reduceCtorEq,mxA,mxB,Nat.reduceAdd,reduceIte,Nat.reduceLeDiff,splice];have aO:(H.push (.cells (lis.flatMap liC) 88 false)).get H.next=some (.cells (lis.flatMap liC) 88 false):=by rw[Qc,Lc rfl]
 have aB:Ext H (H.push (.cells (lis.flatMap liC) 88 false)):=(Ext.refl H).push _;have bI:(H.push (.cells (lis.flatMap liC) 88 false)).next=H.next+1:=rfl;generalize H.push (.cells (lis.flatMap liC) 88 false)=Hp at ay aO aB bI;have bM:=aN _ _ bN bK aB;refine Qo (λm A' H'=>∃ (i:Nat) (ys:List Lf),i<=6∧m=6 - i∧H'.Wf∧Ext Hp H'∧ys.map (·.f)=Qto LL fr ae p (lis.take i)∧ys.length<=i * 1000∧Acc Hp H' (A' 7) ys∧(∀y∈ys,y.Fr H.next)∧
  A' 0=.int .i64 fr∧A' 1=.int .i64 ae∧A' 2=.func (.func bj) #[] bk.toArray∧A' 12=.slice (some ⟨H.next,0,none⟩) 6 6∧A' 13=.int .i64 6∧A' 14=.int .i64 i) 6 ?_ ?_
 ·refine⟨0,[],L7 _,rfl,ay,.refl _,rfl,L7 _,?_,λy bV=>(by cases bV),?_,?_,?_,?_,?_,?_⟩
  all_goals simp only[uxA,uxB,Nat.reduceBEq]
  ·exact .inl ⟨rfl,rfl⟩
  all_goals rfl
 ·rintro m A' H' ⟨i,ys,hi,rfl,ag,ac,aV,cv,al,aC,ai,r1,r2,aF,aG,am⟩;have bL:=aN _ _ ay bM ac;have bD:H'.get H.next=some (.cells (lis.flatMap liC) 88 false):=by rw[ac.get _ (ay.lt aO)];exact aO
  simp only[sxA,sxB,Nat.reduceBEq,Nat.reduceEqDiff,reduceCtorEq,mxA,mxB,Nat.reduceAdd,reduceIte,Nat.reduceLeDiff,splice,aG,am];refine Qf (λh2=>?_) (λh2=>?_)
  ·have h2:i<6:=by have:=Lg h2;omega
   have aw:lis[i]? = some (lis[i]'h2):=La h2;generalize cp:lis[i]'h2=x at aw;have bT:x∈lis:=Ln aw;have b4:(0:Int)<=i∧(i:Int)<((6:Nat):Int):=by omega
   have b5:(i:Int).toNat=i:=by omega
   have b6:i * 3+3<=18:=by omega
   have bW:(lis.flatMap liC).length=18:=rfl;obtain⟨an,ao,aq⟩:=x;have d1:List.take 3 (List.drop (i * 3) (lis.flatMap liC))=[.int .i64 an,.int .i64 ao,.func (.func aq) #[] #[]]:=QEv lis i _ aw;have ei:IntKind.i64.wrap ((i:Int)+1)=((i+1:Nat):Int):=by rw[w64 (by unfold I64;omega)];omega
   simp only[sxA,sxB,Nat.reduceBEq,Nat.reduceEqDiff,reduceCtorEq,mxA,mxB,Nat.reduceAdd,reduceIte,Nat.reduceLeDiff,splice,QqW,QoY,ai,r1,aF,am,b4,b5,b6,bD,bW,d1];have bz:lis.take (i+1)=lis.take i++[(an,ao,aq)]:=by rw[Nv,aw];rfl
   obtain⟨aY,e1⟩:∃c,decide (ae<an)=c:=⟨_,rfl⟩;obtain⟨q2,e2⟩:∃c,decide (fr>ao)=c:=⟨_,rfl⟩;obtain⟨Hn,ak⟩:∃h,h=(H'.push (.cells [.int .i64 0,.int .i64 0,.nilFunc] 88 false)).set H'.next (.cells [.int .i64 an,.int .i64 ao,.func (.func aq) #[] #[]] 88 false):=⟨_,rfl⟩;have aR:Hn.Wf:=by rw[ak];exact(ag.push _).set (by rw[Qc,Lc rfl]) _
   have ad:Ext H' Hn:=by rw[ak];exact((Ext.refl H').push _).set (Lb _) _
   have br:Hn.get H'.next=some (.cells [.int .i64 an,.int .i64 ao,.func (.func aq) #[] #[]] 88 false):=by rw[ak,Qn,Lc rfl]
   have co:Hn.next=H'.next+1:=by rw[ak];rfl
   simp only[<- ak];have bx:(aY||q2)=true->ys.map (·.f)=Qto LL fr ae p (lis.take (i+1)):=λh=>by
    rw[bz,Qto,Bm,<- Qto,<- aV];simp[e1,e2,h]
   have bB:(aY||q2)=false->ys.map (·.f)++(LL aq).filter p=Qto LL fr ae p (lis.take (i+1)):=λh=>by
    rw[bz,Qto,Bm,<- Qto,<- aV];simp[e1,e2,h]
   cases aY<;>simp only[sxA,sxB,Nat.reduceBEq,Nat.reduceEqDiff,reduceCtorEq,mxA,mxB,Nat.reduceAdd,reduceIte,Nat.reduceLeDiff,splice,ai,r1,am,e1,e2,ei,br]
   ·cases q2<;>simp only[sxA,sxB,Nat.reduceBEq,Nat.reduceEqDiff,reduceCtorEq,mxA,mxB,Nat.reduceAdd,reduceIte,Nat.reduceLeDiff,splice,ai,r1,am,ei,br,QpY]
    ·refine(b8 _ bT Hn (aN _ _ ag bL ad)).thenW ?_;rintro u H2 cm bO ⟨b1,xs,bU,bn,ct,bS⟩;have bp:=bn.fms;have bE:∀a l c,u=.slice (some a) l c->Hn.next<=a.block:=λa l c e=>by
      rcases bn with⟨rfl,_⟩ | ⟨b,rfl,hb,_⟩
      ·cases e
      ·cases e;exact hb
     obtain⟨aM,cap,rfl,cq⟩:=id bp.1;simp only[sxA,sxB,Nat.reduceBEq,Nat.reduceEqDiff,reduceCtorEq,mxA,mxB,Nat.reduceAdd,reduceIte,Nat.reduceLeDiff,splice];have bA:=(al.ext ag ad).ext aR b1;have bP:Ext Hp H2:=(ac.trans ad).trans b1;have bG:H.next<=Hn.next:=by have:=ac.next;have:=ad.next;omega
     refine Qo (λm A2 H3=>∃ (k:Nat) (zs:List Lf),k<=xs.length∧m=xs.length - k∧H3.Wf∧Ext Hp H3∧zs.map (·.f)=ys.map (·.f)++((xs.take k).map (·.f)).filter p∧zs.length<=ys.length+k∧Acc Hp H3 (A2 7) zs∧Qkj H3 (.slice aM xs.length cap) xs∧(∀z∈zs,z.Fr H.next)∧
      (∀a l c b,A2 7=.slice (some a) l c->aM=some b->b.block≠a.block)∧
      A2 0=.int .i64 fr∧A2 1=.int .i64 ae∧A2 2=.func (.func bj) #[] bk.toArray∧A2 12=.slice (some ⟨H.next,0,none⟩) 6 6∧A2 13=.int .i64 6∧A2 14=.int .i64 i∧A2 30=.slice aM xs.length cap∧A2 31=.int .i64 xs.length∧A2 32=.int .i64 k) xs.length ?_ ?_
     ·refine⟨0,ys,L7 _,rfl,bO,bP,by simp,by omega,?_,bp,aC,?_,?_,?_,?_,?_,?_,?_,?_,?_,?_⟩
      all_goals simp only[uxA,uxB,Nat.reduceBEq,ai,r1,r2,aF,aG,am]
      ·exact bA
      ·intro a l c b q hb;subst hb;have ar:=bE _ _ _ rfl;rcases al with⟨h,_⟩ | ⟨b3,h,_,aa,_⟩
       ·rw[h]at q;cases q
       ·rw[h]at q;cases q;have:=ag.lt aa;simp only;omega
      all_goals rfl
     ·rintro m A2 H3 ⟨k,zs,cj,rfl,ab,aA,aX,cw,au,aP,aW,bv,aH,aI,aJ,aZ,ba,bb,bc,bd,aK⟩;simp only[sxA,sxB,Nat.reduceBEq,Nat.reduceEqDiff,reduceCtorEq,mxA,mxB,Nat.reduceAdd,reduceIte,Nat.reduceLeDiff,splice,bd,aK];refine Qf (λaa=>?_) (λaa=>?_)
      ·have aa:k<xs.length:=by have:=Lg aa;omega
       obtain⟨⟨a4,ch,e4,bJ⟩,bR⟩:=id aP;cases e4;obtain⟨cg,ci,cy,rfl,bo⟩:=bJ (by omega);have d1:(0:Int)<=k∧(k:Int)<xs.length:=by omega
       have d3:(k:Int).toNat=k:=by omega
       have d4:k * 10+10<=xs.length * 10:=by omega
       have bi:IntKind.i64.wrap ((k:Int)+1)=((k+1:Nat):Int):=by rw[w64 (by unfold I64;omega)];omega
       have bw:=La aa;have bh:=QcG xs k _ bw;have bX:=XH xs;have aU:xs[k]∈xs:=Nb aa;have aL:=bR _ aU;have wf:(xs[k]).Fr H.next:=(bS _ aU).mono bG;have b2:xs.take (k+1)=xs.take k++[xs[k]]:=NM aa;generalize xs[k]=x at bw bh aU aL wf b2;have bg:=Qex aL;simp only[sxA,sxB,Nat.reduceBEq,Nat.reduceEqDiff,reduceCtorEq,mxA,mxB,Nat.reduceAdd,reduceIte,Nat.reduceLeDiff,splice,aH,aI,aJ,bc,aK,d1,d3,d4,bo,bX,bh,QK,Wt,bg];obtain⟨G1,aj⟩:∃h,h=(H3.push (.cells [.int .i64 0,.slice none 0 0,.slice none 0 0,.int .i64 0,.int .i64 0,.int .i64 0,.int .i64 0,.int .i64 0,.bool false,.int .i64 0] 45 false)).set H3.next (.cells x.cells 45 false):=⟨_,rfl⟩;have cr:G1.Wf:=by rw[aj];exact(ab.push _).set (by rw[Qc,Lc rfl]) _
       have aT:Ext H3 G1:=by rw[aj];exact((Ext.refl H3).push _).set (Lb _) _
       have bF:G1.get H3.next=some (.cells x.cells 45 false):=by rw[aj,Qn,Lc rfl]
       have cn:G1.next=H3.next+1:=by rw[aj];rfl
       simp only[<- aj,QA5];have bQ:Ext H H3:=aB.trans aA;refine(aQ x G1 (bQ.trans aT) (aL.ext ab aT)).thenW ?_;rintro _ G2 bu az ⟨rfl,aE,rfl⟩;simp only[Ql]at bu;have ah:Ext H3 (G1.up aE):=aT.up bu;have bq:(G1.up aE).get H3.next=some (.cells x.cells 45 false):=by rw[Zk];exact bF
       have bH:H3.next+1<=(G1.up aE).next:=by simp only[Ql];omega
       generalize G1.up aE=G2 at az ah bq bH;have av:((xs.take (k+1)).map (·.f)).filter p=((xs.take k).map (·.f)).filter p++bif p x.f then[x.f] else[]:=by
        rw[b2,N6,Re];cases ax:p x.f<;>simp[ax]
       simp only[sxA,sxB,Nat.reduceBEq,Nat.reduceEqDiff,reduceCtorEq,mxA,mxB,Nat.reduceAdd,reduceIte,Nat.reduceLeDiff,splice];cases ax:p x.f
       ·rw[ax]at av;simp only[sxA,sxB,Nat.reduceBEq,Nat.reduceEqDiff,reduceCtorEq,mxA,mxB,Nat.reduceAdd,reduceIte,Nat.reduceLeDiff,splice,aK,bi];refine⟨xs.length - (k+1),by omega,k+1,zs,by omega,rfl,az,aA.trans ah,by rw[av,aX];simp,by omega,?_,aP.ext ab ah,aW,?_,?_,?_,?_,?_,?_,?_,?_,?_,?_⟩
        all_goals simp only[uxA,uxB,Nat.reduceBEq,aH,aI,aJ,aZ,ba,bb,bc,bd]
        ·exact au.ext ab ah
        ·exact λa l c b ar h2=>bv a l c b ar (by rw[h2])
       ·rw[ax]at av;simp only[sxA,sxB,Nat.reduceBEq,Nat.reduceEqDiff,reduceCtorEq,mxA,mxB,Nat.reduceAdd,reduceIte,Nat.reduceLeDiff,splice,bq,QK,Wt,bg];have bm:=(au.ext ab ah).ext az ((Ext.refl G2).push (.cells x.cells 45 false));have aS:Ext H3 (G2.push (.cells x.cells 45 false)):=ah.push _;have bC:=aP.ext ab aS;refine Acc.app bm (aA.trans aS) (az.push _) (aL.ext ab aS) (by omega) (by rw[Qc,Lc rfl]) (λa l c q e=>?_) λcz H6 bY bZ c0 ca cc ce=>?_
        ·rcases au with⟨h,_⟩ | ⟨b3,h,_,b7,_⟩
         ·rw[h]at q;cases q
         ·rw[h]at q;cases q;have:=ab.lt b7;simp only at e;omega
        ·simp only[sxA,sxB,Nat.reduceBEq,Nat.reduceEqDiff,reduceCtorEq,mxA,mxB,Nat.reduceAdd,reduceIte,Nat.reduceLeDiff,splice,aK,bi];refine⟨xs.length - (k+1),by omega,k+1,zs++[x],by omega,rfl,bZ,bY,by rw[av,N6,aX];simp,by simp;omega,?_,ce.fms bm bC λa l c cf cx c' b9 q=>?_,?_,?_,?_,?_,?_,?_,?_,?_,?_,?_,?_⟩
         rotate_left 2
         ·intro z aD;simp only[LI,Sa]at aD;rcases aD with aD | rfl
          ·exact aW z aD
          ·exact wf
         ·intro a l c b q hb;cases hb;simp only[uxA,uxB,Nat.reduceBEq]at q;have ar:=cc a l c q;have h2:=ab.lt bo;simp only[Qd]at ar;simp only;omega
         rotate_right 2
         ·simp only[uxA,uxB,Nat.reduceBEq];exact ca
         ·cases b9;exact bv _ _ _ _ q rfl
         all_goals simp only[uxA,uxB,Nat.reduceBEq,aH,aI,aJ,aZ,ba,bb,bc,bd]
      ·have aa:k=xs.length:=by have:=Ll aa;omega
       subst aa;simp only[sxA,sxB,Nat.reduceBEq,Nat.reduceEqDiff,reduceCtorEq,mxA,mxB,Nat.reduceAdd,reduceIte,Nat.reduceLeDiff,splice,bb,ei];refine⟨6 - (i+1),by omega,i+1,zs,by omega,rfl,ab,aA,?_,by omega,?_,aW,?_,?_,?_,?_,?_,?_⟩
       ·rw[<- bB rfl,aX,LF (Lb _),bU]
       all_goals simp only[uxA,uxB,Nat.reduceBEq,aH,aI,aJ,aZ,ba]
       exact au
    ·refine⟨6 - (i+1),by omega,i+1,ys,by omega,rfl,aR,ac.trans ad,bx rfl,by omega,?_,aC,?_,?_,?_,?_,?_,?_⟩
     all_goals simp only[uxA,uxB,Nat.reduceBEq,ai,r1,r2,aF,aG]
     exact al.ext ag ad
   ·refine⟨6 - (i+1),by omega,i+1,ys,by omega,rfl,aR,ac.trans ad,bx rfl,by omega,?_,aC,?_,?_,?_,?_,?_,?_⟩
    all_goals simp only[uxA,uxB,Nat.reduceBEq,ai,r1,r2,aF,aG]
    exact al.ext ag ad
  ·have h2:i=6:=by have:=Ll h2;omega
   subst h2;simp only[sxA,sxB,Nat.reduceBEq,Nat.reduceEqDiff,reduceCtorEq,mxA,mxB,Nat.reduceAdd,reduceIte,Nat.reduceLeDiff,splice,Qn2];exact .mk (by have:=ac.next;omega) ⟨aB.trans ac,ys,aV,al.mono (by omega),by omega,aC⟩
def iI (k:Nat):Int:=bif Nat.beq k 0 then .negSucc 0 else .ofNat (k - 1)
def mkF (op pre mp code q w vx l:Nat)(sh sl:List Nat):Fm:=⟨.ofNat op,.ofNat pre,.ofNat mp,.ofNat code,iI q,iI w,.ofNat l,Nat.beq vx 1,sh.map .ofNat,sl.map .ofNat⟩
def Qph (v:Value)(n:Int):Bool:=match v with | .int .i64 m=>QgC 8 (.int .i64 m) (.int .i64 n) | _=>false
theorem Qe8 {v:Value}{n:Int}(h:Qph v n=true):v=.int .i64 n:=by
 unfold Qph at h;split at h
 ·exact Qfm 8 _ _ h
 ·cases h
def QAg (v:Value)(b:Bool):Bool:=match v with | .bool c=>(bif c then b else !b) | _=>false
theorem QCM {v:Value}{b:Bool}(h:QAg v b=true):v=.bool b:=by
 unfold QAg at h;split at h
 ·rename_i c;cases c<;>cases b<;>first | rfl | cases h
 ·cases h
def QIi (n c:Nat):Bool:=Nat.beq c (UNK+1)||(Nat.ble n c&&Nat.ble (c+1) UNK)
theorem QGl {n c:Nat}(h:QIi n c=true):QxL n c:=by
 simp only[QIi,Nw,Lm,Kk,Lv,BL]at h;rcases h with h | ⟨q,aa⟩
 ·exact .inl h
 ·exact .inr ⟨q,aa⟩
def QGm (G:Nat)(rs:List Row)(v:Value)(l:List Int):Bool:=match l with
 | []=>QgC 8 v (.slice none 0 0)
 | _::_=>match v with
  | .slice (some a) n c=>Nat.ble G a.block&&(Nat.beq a.off 0&&(QpF a&&(Nat.beq n l.length&&(Nat.ble n 1000&&(QIi n c&&(match rs[a.block - G]? with | some r=>QbO (QgC 8) r.c (ints l) | none=>false))))))
  | _=>false
def QGn (G:Nat)(rs:List Row):List Value->List Fm->Bool
 | [],[]=>true
 | a0::a1::a2::a3::a4::a5::a6::a7::a8::a9::cs,x::xs=>Qph a0 x.op&&(QGm G rs a1 x.shapes&&(QGm G rs a2 x.slots&&(Qph a3 x.pre&&(Qph a4 x.map&&(Qph a5 x.code&&(Qph a6 x.digit&&(Qph a7 x.w&&(QAg a8 x.vex&&(Qph a9 x.l&&QGn G rs cs xs)))))))))
 | _,_=>false
def QGo (G:Nat)(rs:List Row)(u:Value)(L:List Fm):Bool:=match u with
 | .slice (some a) n c=>Nat.ble G a.block&&(Nat.beq a.off 0&&(QpF a&&(Nat.beq n L.length&&(Nat.ble n 1000&&(Nat.ble 1 n&&(Nat.beq c (UNK+10)&&(match rs[a.block - G]? with | some r=>Nat.beq r.e 45&&(!r.ro&&QGn G rs r.c L) | none=>false)))))))
 | _=>false
theorem Qva {a:Addr}(h:QpF a=true):a.spot=none:=by
 unfold QpF at h;split at h
 ·assumption
 ·cases h
section
variable {τ:Nat->Nat} {G:Nat} {rs:List Row} {H:Qa}
theorem QEw {b:Nat}(h:G<=b):shM τ G H.next b=H.next+(b - G):=by
 unfold shM;rw[Qlx];simp[show ¬b<G by omega]
theorem QEx (sh:Nat->Nat)(l:List Int):(ints l).map (shW sh 6)=ints l:=by
 unfold ints;rw[Ht];exact DC λx _=>QuK sh 6 _ rfl
theorem QBj {v:Value}{l:List Int}(h:QGm G rs v l=true):l.length<=1000∧QdA (QaT (shM τ G H.next) rs H) (shW (shM τ G H.next) 6 v) l.length (ints l)∧SlF H.next (shW (shM τ G H.next) 6 v) l:=by
 cases l with
 | nil=>
  have:=Qfm 8 _ _ (show QgC 8 v (.slice none 0 0)=true from h);subst this;exact⟨by simp,⟨none,0,rfl,λh=>by simp at h⟩,.inl ⟨rfl,rfl⟩⟩
 | cons x l=>
  unfold QGm at h;simp only at h;split at h
  ·rename_i a n cap;simp only[Lm,Kk,Lv,BL]at h;obtain⟨ad,ae,ab,ag,ah,ai,aa⟩:=h;split at aa
   ·rename_i r ac;have aa:=QnM (Qfm 8) _ _ aa;obtain⟨q,aj,ak⟩:=a
    replace ab:=Qva ab
    simp only at ad ae ab ac;subst ae;subst ab;subst ag;have al:=(Lk.1 ac).1;have e1:shW (shM τ G H.next) 6 (.slice (some ⟨q,0,none⟩) (x::l).length cap)=.slice (some ⟨H.next+(q - G),0,none⟩) (x::l).length cap:=by
     show Value.slice (some ⟨shM τ G H.next q,0,none⟩) _ _=_;rw[QEw ad]
    rw[e1];refine⟨ah,⟨_,_,rfl,λ_=>⟨H.next+(q - G),r.e,r.ro,rfl,?_⟩⟩,.inr ⟨by simp,_,_,rfl,by omega,QGl ai⟩⟩;rw[QgX,Lc ⟨by omega,by omega⟩,show H.next+(q - G) - H.next=q - G by omega,ac];show some (Blk.cells (r.c.map (shW (shM τ G H.next) 6)) r.e r.ro)=_;rw[aa,QEx]
   ·cases aa
  ·cases h
theorem QBk:∀ (cs:List Value) (L:List Fm),QGn G rs cs L=true->∃xs:List Lf,xs.map (·.f)=L∧cs.map (shW (shM τ G H.next) 6)=Wv xs∧∀x∈xs,x.At (QaT (shM τ G H.next) rs H)∧x.Fr H.next
 | [],[],_=>⟨[],rfl,rfl,λx h=>by cases h⟩
 | a0::a1::a2::a3::a4::a5::a6::a7::a8::a9::cs,x::L,h=>by
  simp only[QGn,Lm]at h;obtain⟨aa,ab,ac,ad,ae,ag,ah,ai,aj,ak,al⟩:=h;obtain⟨xs,e1,e2,e3⟩:=QBk cs L al;have am:=Qe8 aa;have an:=Qe8 ad;have ao:=Qe8 ae;have aq:=Qe8 ag;have ar:=Qe8 ah;have au:=Qe8 ai;have av:=QCM aj;have aw:=Qe8 ak;subst am an ao aq ar au av aw;obtain⟨ax,ay,az⟩:=QBj (τ:=τ) (H:=H) ab;obtain⟨t1,t2,t3⟩:=QBj (τ:=τ) (H:=H) ac;refine⟨⟨x,shW (shM τ G H.next) 6 a1,shW (shM τ G H.next) 6 a2⟩::xs,by simp[e1],?_,λy q=>?_⟩
  rotate_left
  ·rcases LK.1 q with rfl | q
   ·exact⟨⟨ax,t1,ay,t2⟩,az,t3⟩
   ·exact e3 y q
  ·simp only[NZ,e2,Wv,Ba,Lf.cells,Nm,LH];rfl
theorem QGp {u:Value}{L:List Fm}(h:QGo G rs u L=true):∃xs:List Lf,xs.map (·.f)=L∧Acc H (QaT (shM τ G H.next) rs H) (shW (shM τ G H.next) 6 u) xs∧xs.length<=1000∧∀x∈xs,x.Fr H.next:=by
 unfold QGo at h;split at h
 ·rename_i a n cap;simp only[Lm,Kk,Lv,BL]at h;obtain⟨ae,ag,ab,ak,al,ah,am,q⟩:=h;split at q
  ·rename_i r ac;simp only[Lm,Kk,Lv,Lr]at q;obtain⟨an,aj,q⟩:=q;subst am;obtain⟨xs,e1,e2,e3⟩:=QBk (τ:=τ) (H:=H) _ _ q;obtain⟨aa,aq,ar⟩:=a
   replace ab:=Qva ab
   simp only at ae ag ab ac;subst ag;subst ab;have ao:n=xs.length:=by rw[ak,<- e1];simp
   subst ao;have au:=(Lk.1 ac).1;have ai:shW (shM τ G H.next) 6 (.slice (some ⟨aa,0,none⟩) xs.length (UNK+10))=.slice (some ⟨H.next+(aa - G),0,none⟩) xs.length (UNK+10):=by
    show Value.slice (some ⟨shM τ G H.next aa,0,none⟩) _ _=_;rw[QEw ae]
   rw[ai];refine⟨xs,e1,.inr ⟨_,rfl,by omega,?_,λh=>?_,λx ad=>(e3 x ad).1⟩,al,λx ad=>(e3 x ad).2⟩
   ·rw[QgX,Lc ⟨by omega,by omega⟩,show H.next+(aa - G) - H.next=aa - G by omega,ac];show some (Blk.cells (r.c.map (shW (shM τ G H.next) 6)) r.e r.ro)=_;rw[e2,an,aj]
   ·rw[h]at ah;simp at ah
  ·cases q
 ·cases h
end
theorem QCN {sh:Nat->Nat}(rs:List Row)(H:Qa):Ext H (QaT sh rs H):=⟨by rw[Qid];omega,λid q=>by rw[QgX,Le (by omega)]⟩
theorem Qym {sh:Nat->Nat}:∀ (rs:List Row) (H:Qa),H.Wf->(QaT sh rs H).Wf
 | [],H,h=>h
 | r::rs,H,h=>Qym rs _ (h.push _)
def QcT (tabs:List Tab)(H:Qa):Prop:=QmS tabs H=true
theorem Qlm {tabs:List Tab}(H H':Qa)(ac:H.Wf)(h:QcT tabs H)(ad:Ext H H'):QcT tabs H':=by
 unfold QcT QmS at *;rw[Li]at *;intro t ab;have q:=h t ab;cases aa:H.get t.id with
 | none=>rw[aa]at q;cases q
 | some b=>rw[ad.get _ (ac.lt aa)];exact q
theorem Qwq {tabs:List Tab}(aj:tabsOk tabs=true)(ak:∀t∈tabs,t.id<prog.globals.size){s:SumI}(aa:SumIOk prog tabs s)(ah:s.args=[])(hi:s.ins=[]){L:List Fm}(ai:QGo prog.globals.size s.rs s.u L=true):Kc (QcT tabs) s.f L:=by
 intro H ag al;have q:=aa.does aj (args:=[]) (H:=H) (τ:=λn=>n) (λ_ _=>rfl) ak ag (by rw[hi];rfl) (by rw[ah];rfl);rw[hi]at q;obtain⟨xs,ab,ac,ad,ae⟩:=QGp (τ:=λn=>n) (H:=H) ai;exact⟨_,_,.inl ⟨aa.1,q⟩,by rw[Qid];exact Ro _ _,Qym _ _ al,QCN _ _,xs,ab,ac,ad,ae⟩
def QBl (G:Nat)(f:FuncId)(L:List Fm):List SumI->Bool
 | s::_=>Nat.beq s.f f&&(s.args.isEmpty&&(s.ins.isEmpty&&QGo G s.rs s.u L))
 | []=>false
theorem WU {tabs:List Tab}(ae:tabsOk tabs=true)(ag:∀t∈tabs,t.id<prog.globals.size){l:List SumI}(ad:∀s∈l,SumIOk prog tabs s){f:FuncId}{L:List Fm}(h:QBl prog.globals.size f L l=true):Kc (QcT tabs) f L:=by
 cases l with
 | nil=>cases h
 | cons s l=>
  simp only[QBl,Lm,Kk,Lv,DF]at h;obtain⟨q,aa,ab,ac⟩:=h;rw[<- q];exact Qwq ae ag (ad s (Ny ..)) aa ab ac
theorem QwL (x:Lf)(op:Int)(b:Nat)(H:Qa){e:TypeId}{ro:Bool}(hb:H.get b=some (.cells [.int .i64 op] e ro))(ac:x.At H):Qe prog 37 [.agg x.cells.toArray,.pointer (some ⟨b,0,none⟩)] H λu H'=>u=.bool (x.f.op==op)∧∃m,H'=H.up m:=by
 refine QtH λq=>?_;have ab:=q.lt hb;have aa:¬b=H.next:=by omega
 simp only[Lf.cells,Ql8,Qb,simprocAttr,aa,hb,Qso];exact .ext q ((Ext.refl H).push _) ⟨rfl,_,rfl⟩
section
variable {T:Qa->Prop} (hT:∀H H',H.Wf->T H->Ext H H'->T H') (LL:FuncId->List Fm) (hL:∀x∈lis,Kc T x.2.2 (LL x.2.2))
include hT hL
theorem QAB (op:Int)(H:Qa)(ak:T H):Qe prog 15 [.int .i64 op] H λu H'=>QkX H H' u (Qto LL op op (λf=>f.op==op) lis):=by
 refine Qxo λac=>?_;simp only[QqI,Qb,simprocAttr,QnU];have q:Ext H (H.push (.cells [.int .i64 op] 3 false)):=(Ext.refl H).push _;have ab:(H.push (.cells [.int .i64 op] 3 false)).get H.next=some (.cells [.int .i64 op] 3 false):=by rw[Qc,Lc rfl]
 have ad:=ac.push (.cells [.int .i64 op] 3 false);generalize H.push (.cells [.int .i64 op] 3 false)=H1 at q ab ad;refine(Qrv hT LL hL op op (.func (.func 37) #[] [.pointer (some ⟨H.next,0,none⟩)].toArray) (λf=>f.op==op) H1 ⟨37,[.pointer (some ⟨H.next,0,none⟩)],rfl,λx H' aa aj=>QwL x op H.next H' (e:=3) (ro:=false) (by rw[aa.get _ (ad.lt ab)];exact ab) aj⟩ (hT _ _ ac ak q)).thenW ?_;rintro u H' am an ⟨aa,ys,ae,ag,ah,ai⟩;simp only[Qb,simprocAttr,QvE];exact .mk (q.trans aa).next ⟨q.trans aa,ys,ae,ag.mono q.next,ah,λy al=>(ai y al).mono q.next⟩
end
/-! ### As known calls -/
theorem Qul (xs ys:List Lf):Wv (xs++ys)=Wv xs++Wv ys:=by simp[Wv]
theorem Qtw {H:Qa}:∀ (xs:List Lf),(∀x∈xs,x.At H)->((Wv xs).all λv=>v.oneCell')=true
 | [],_=>rfl
 | x::xs,h=>by
  have aa:=Qex (h x (Ny ..));have q:=Qtw xs λy ab=>h y (NA _ ab);simp only[Wv,Ba,Fo,Lm]at q ⊢;exact⟨aa,q⟩
theorem Acc.appL {H0 H1 H:Qa}{v u:Value}{ys xs:List Lf}{K:Value->Qa->Prop}(h:Acc H0 H v ys)(am:ys≠[])(aj:Ext H0 H)(ab:H.Wf)(ax:Acc H1 H u xs)(al:xs≠[])(aD:ys.length<=100000)(aE:xs.length<=100000)(av:∀a l c ad az c',v=.slice (some a) l c->u=.slice (some ad) az c'->a.block≠ad.block)
  (an:∀ac H',Ext H0 H'->H'.Wf->H.next<=H'.next->Acc H0 H' ac (ys++xs)->(∀a l c,ac=.slice (some a) l c->H.next<=a.block)->Qhv H H' v->K ac H'):QbP 45 10 112 v u H K:=by
 rcases id h with⟨rfl,rfl⟩ | ⟨b,rfl,ao,ah,_,ay⟩
 ·exact absurd rfl am
 ·rcases id ax with⟨rfl,rfl⟩ | ⟨ae,rfl,aA,aq,_,ak⟩
  ·exact absurd rfl al
  ·have ai:xs.length≠0:=λe=>al (N2.1 e);have aw:Zt 10 (.slice (some ⟨ae,0,none⟩) xs.length (UNK+10)) H=some (xs.length,Wv xs):=by
    rw[Y5 aq ai (by rw[XH];omega),Lw,LF (by rw[XH];omega)]
   have aB:=ab.lt ah;have aC:b≠ae:=av _ _ _ _ _ _ rfl rfl;have au:=aj.next;refine Qn0 rfl aw (Qtw xs ak) ai (c:=Wv ys) ah (by rw[XH];omega) (by omega) (by omega) (by unfold UNK;omega) ?_;have aa:Qhv H ((H.kill b).push (.cells (Wv ys++Wv xs) 45 false)) (.slice (some ⟨b,0,none⟩) ys.length (UNK+10)):=λid bl ag ar=>by
    rw[Qc,Le (by have:=ab.lt ag;simp;omega),WV,Le (ar _ _ _ rfl)];exact ag
   refine an (.slice (some ⟨H.next,0,none⟩) (ys.length+xs.length) (UNK+10)) ((H.kill b).push (.cells (Wv ys++Wv xs) 45 false)) ((aj.kill ao).push _) ((ab.kill _).push _) (by simp)
    (.inr ⟨H.next,by simp,au,by rw[Qc,Lc (by simp),Qul],by simp[am],λy q=>?_⟩) (λa l c e=>by cases e;exact Lb _) aa
   simp only[LI]at q;rcases q with q | q
   ·exact aa.at h (ay y q)
   ·exact aa.at h (ak y q)
section
variable {T:Qa->Prop} (hT:∀H H',H.Wf->T H->Ext H H'->T H')
include hT
theorem Qlo (H:Qa)(al:T H){L1 L2 L3 L4 L5 L6:List Fm}(t1:Kc T 91 L1)(t2:Kc T 92 L2)(t3:Kc T 93 L3)(t4:Kc T 94 L4)(t5:Kc T 95 L5)(t6:Kc T 96 L6)
  (aY:L1≠[]) (aZ:L2≠[]) (ba:L3≠[]) (bb:L4≠[]) (bc:L5≠[]) (bd:L6≠[]):Qe prog 59 [] H λu H'=>QkX H H' u (L1++(L2++(L3++(L4++(L5++L6))))):=by
 refine QjD λaO=>?_;simp only[Qb5,Qb,simprocAttr]
 -- one list more
 have step:∀ (f:FuncId) (L:List Fm),Kc T f L->L≠[]->∀ (H1:Qa) (v:Value) (ys:List Lf),H1.Wf->Ext H H1->Acc H H1 v ys->ys≠[]->ys.length<=10000->(∀y∈ys,y.Fr H.next)->
   Qe prog f [] H1 λu H2=>∀K:Value->Qa->Prop,(∀ai H3 zs,H3.Wf->Ext H H3->zs.map (·.f)=ys.map (·.f)++L->zs.length<=ys.length+1000->zs≠[]->Acc H H3 ai zs->(∀z∈zs,z.Fr H.next)->K ai H3)->QbP 45 10 112 v u H2 K:=λf L av aK H1 v ys ab ac ak ao bB aX=>by
  intro _;obtain⟨u,H2,aC,aj,ag,ah,xs,e1,am,bA,aV⟩:=av H1 (hT _ _ aO al ac) ab;refine⟨u,H2,aC,aj,ag,λK au=>?_⟩;have aW:xs≠[]:=λe=>aK (by rw[<- e1,e];rfl);refine(ak.ext ab ah).appL ao (ac.trans ah) ag am aW (by omega) (by omega) (λa l c bx bC c' ae ad=>?_) λai H' bm bn bE bo bF bG=>au ai H' (ys++xs) bn bm (by simp[e1]) (by simp;omega) (by simp[ao]) bo λz aa=>?_
  ·rcases ak with⟨e,_⟩ | ⟨b,e,_,aJ,_⟩
   ·rw[e]at ae;cases ae
   ·rw[e]at ae;cases ae;have:=ab.lt aJ;rcases am with⟨e,_⟩ | ⟨b',e,bz,_⟩
    ·rw[e]at ad;cases ad
    ·rw[e]at ad;cases ad;simp only;omega
  ·simp only[LI]at aa;rcases aa with aa | aa
   ·exact aX z aa
   ·exact(aV z aa).mono ac.next
 refine(t1 H al).thenW ?_;rintro bg H1 b8 ab ⟨ac,bp,e1,aw,b1,aD⟩;simp only[Qb,simprocAttr];refine(step _ L2 t2 aZ H1 bg bp ab ac aw (λe=>aY (by rw[<- e1,e];rfl)) (by omega) aD).mono λu H' q=>?_;simp only[Qb,simprocAttr];refine q _ λbh H2 bq ag ah e2 b2 aj ax aE=>?_;simp only[Qb,simprocAttr];refine(step _ L3 t3 ba H2 bh bq ag ah ax aj (by omega) aE).mono λu H' q=>?_;simp only[Qb,simprocAttr];refine q _ λbi H3 br aP aS e3 b3 aL ay aF=>?_;simp only[Qb,simprocAttr];refine(step _ L4 t4 bb H3 bi br aP aS ay aL (by omega) aF).mono λu H' q=>?_;simp only[Qb,simprocAttr];refine q _ λbj H4 bu aQ aT e4 b4 aM az aG=>?_;simp only[Qb,simprocAttr];refine(step _ L5 t5 bc H4 bj bu aQ aT az aM (by omega) aG).mono λu H' q=>?_;simp only[Qb,simprocAttr];refine q _ λbk H5 bv aR aU aq b5 aN aA aH=>?_;simp only[Qb,simprocAttr];refine(step _ L6 t6 bd H5 bk bv aR aU aA aN (by omega) aH).mono λu H' q=>?_;simp only[Qb,simprocAttr];refine q _ λbD H6 bw b9 an ar b6 b7 aB aI=>?_;simp only[Qb,simprocAttr,Qil];exact .mk an.next ⟨an,bw,by rw[ar,aq,e4,e3,e2,e1];simp,aB,by omega,aI⟩
end
end Go.Proofs.YtgepgbbjfhggfaaGreatDoor.code
