/- Forms in memory, and the kit's parts that look at them. -/
import Derived.Test.YtmedjaegakinnaaGreatDoorC0Code
import Derived.Test.YtmedjaegakinnaaGreatDoorAbD
import Derived.Laws.BitsLemmas
import Derived.Test.YtmedjaegakinnaaGreatDoorAbC
import Derived.KernelRfl
set_option linter.defProp false
set_option linter.unusedVariables false
set_option linter.unusedSimpArgs false
set_option maxRecDepth 100000
noncomputable section
namespace Go.Proofs.YtmedjaegakinnaaGreatDoor.code
open Go.Ab
def I64 (n:Int):Prop:=-9223372036854775808<=n∧n<=9223372036854775807
def w64 {n:Int}(h:I64 n):IntKind.i64.wrap n=n:=by
 rw[NU];unfold I64 at h;omega
def ints (l:List Int):List Value:=l.map (.int .i64 ·)
def Kd {l:List Int}{i:Nat}(h:i<l.length):(ints l)[i]? = some (.Z (l.getD i 0)):=by
 simp[ints,La h,List.getD]
def VM (H:Qa)(v:Value)(n:Nat)(cs:List Value):Prop:=∃a cap,v=.slice a n cap∧(0<n->∃b e ro,a=some ⟨b,0,none⟩∧H.get b=some (.cells cs e ro))
def VM.ext {H H':Qa}{v:Value}{n:Nat}{cs:List Value}(ad:H.Wf)(ab:Ext H H')(h:VM H v n cs):VM H' v n cs:=by
 obtain⟨a,cap,rfl,aa⟩:=h;refine⟨a,cap,rfl,λac=>?_⟩;obtain⟨b,e,ro,rfl,q⟩:=aa ac;exact⟨b,e,ro,rfl,by rw[ab.get b (ad.lt q)];exact q⟩
def Xt {H:Qa}{v:Value}{n:Nat}{cs:List Value}(h:VM H v n cs):∃a cap,v=.slice a n cap:=by
 obtain⟨a,cap,rfl,_⟩:=h;exact⟨a,cap,rfl⟩
structure Fm where
 op:Int
 pre:Int
 map:Int
 code:Int
 digit:Int
 w:Int
 l:Int
 vex:Bool
 shapes:List Int
 slots:List Int
 deriving DecidableEq
structure Lf where
 f:Fm
 sv:Value
 tv:Value
def Lf.cells (x:Lf):List Value:=[.Z x.f.op,x.sv,x.tv,.Z x.f.pre,.Z x.f.map,.Z x.f.code,.Z x.f.digit,.Z x.f.w,.bool x.f.vex,.Z x.f.l]
def Lf.At (H:Qa)(x:Lf):Prop:=x.f.shapes.length<=1000∧x.f.slots.length<=1000∧VM H x.sv x.f.shapes.length (ints x.f.shapes)∧VM H x.tv x.f.slots.length (ints x.f.slots)
def Lf.At.ext {H H':Qa}{x:Lf}(aa:H.Wf)(q:Ext H H')(h:x.At H):x.At H':=⟨h.1,h.2.1,h.2.2.1.ext aa q,h.2.2.2.ext aa q⟩
def WP (xs:List Lf):List Value:=xs.flatMap Lf.cells
def Qw (x:Lf):x.cells.length=10:=rfl
def XR:∀xs:List Lf,(WP xs).length=xs.length * 10
 | []=>rfl
 | x::xs=>by
  have:=XR xs;simp only[WP,Ba,Lh,Qw,Lo]at this ⊢;omega
def QaT:∀ (l:List Lf) (i:Nat) (p:Lf),l[i]? = some p->((WP l).drop (i * 10)).take 10=p.cells
 | [],i,p,h=>by simp at h
 | q::l,0,p,h=>by
  simp at h;subst h;have:(WP (q::l))=q.cells++WP l:=by simp[WP]
  rw[this,BH,Lw,NO (by rw[Qw];exact Lb 10),LF (by rw[Qw];exact Lb 10)]
 | q::l,i+1,p,h=>by
  have e:(WP (q::l))=q.cells++WP l:=by simp[WP]
  rw[e,show(i+1) * 10=q.cells.length+i * 10 by rw[Qw];omega,B3,NK (by omega),LH,NL];exact QaT l i p (by simpa using h)
def Wj (p:Lf):List.take 10 p.cells=p.cells:=Nu rfl rfl
def QnD (xs:List Lf)(x:Lf):WP (xs++[x])=WP xs++x.cells:=by simp[WP]
def Qk9 (H:Qa)(v:Value)(xs:List Lf):Prop:=VM H v xs.length (WP xs)∧∀x∈xs,x.At H
def Qk9.ext {H H':Qa}{v:Value}{xs:List Lf}(aa:H.Wf)(q:Ext H H')(h:Qk9 H v xs):Qk9 H' v xs:=⟨h.1.ext aa q,λx hx=>(h.2 x hx).ext aa q⟩
def Qvv {H:Qa}{v:Value}{n:Nat}{cs:List Value}(h:VM H v n cs):v.oneCell'=true:=by
 obtain⟨a,cap,rfl,_⟩:=h;rfl
def Y8 {H:Qa}{x:Lf}(h:x.At H):(x.cells.all λv=>v.oneCell')=true:=by
 simp only[Lf.cells,Bv,BI,Qvv h.2.2.1,Qvv h.2.2.2,Be];rfl
def Ke:List Int->Int->Nat->Int
 | [],_,_=>-1
 | y::l,x,k=>if x=y then(k:Int) else Ke l x (k+1)
def Qh (l:List Int)(x:Int):Int:=Ke l x 0
def Qla (x:Int):∀ (l:List Int) (k i:Nat),(∀j,j<i->¬x=l.getD j 0)->i<l.length->x=l.getD i 0->Ke l x k=((k+i:Nat):Int)
 | [],k,i,_,hl,_=>by simp at hl
 | y::l,k,0,_,_,h=>by
  have h:x=y:=by simpa using h
  simp[Ke,h]
 | y::l,k,i+1,hn,hl,h=>by
  have q:¬x=y:=by have:=hn 0 (by omega);simpa using this
  rw[Ke,Le q,Qla x l (k+1) i (λj aa=>by have:=hn (j+1) (by omega);simpa using this) (by simpa using hl) (by simpa using h)];congr 1;omega
def QpT (x:Int):∀ (l:List Int) (k:Nat),(∀j,j<l.length->¬x=l.getD j 0)->Ke l x k=-1
 | [],k,_=>rfl
 | y::l,k,hn=>by
  have q:¬x=y:=by have:=hn 0 (by simp);simpa using this
  rw[Ke,Le q];exact QpT x l (k+1) (λj aa=>by have:=hn (j+1) (by simpa using aa);simpa using this)
def QpU (va:Value)(xs:List Int)(x:Int)(H:Qa)(am:VM H va xs.length (ints xs))(aq:xs.length<=1000):Qe Pg 78 [va,.Z x] H λu H'=>u=.Z (Qh xs x)∧H'=H:=by
 refine KU λar=>?_;obtain⟨ae,ag,rfl,ao⟩:=am;simp only[YL,Qb,simprocAttr];refine Qu (λm A' H'=>∃i:Nat,i<=xs.length∧m=xs.length - i∧H'=H∧(∀j,j<i->¬x=xs.getD j 0)∧A' 0=.slice ae xs.length ag∧A' 1=.Z x∧A' 7=.Z (xs.length:Int)∧A' 8=.Z i) xs.length ?_ ?_
 ·refine⟨0,L7 _,by omega,rfl,λj h=>by omega,?_,?_,?_,?_⟩
  all_goals simp only[uxA,uxB,Nat.reduceBEq]
  rfl
 rintro m A' H' ⟨i,hi,rfl,ak,ab,ac,r1,ad,r8⟩;subst ak;simp only[Qb,simprocAttr,ad,r8];refine Qg (λq=>?_) (λq=>?_)
 ·have q:i<xs.length:=by have:=Lg q;omega
  obtain⟨b1,e1,au,rfl,an⟩:=ao (by omega);have ah:(0:Int)<=i∧(i:Int)<xs.length:=by omega
  have ai:(i:Int).toNat=i:=by omega
  have aj:IntKind.i64.wrap ((i:Int)+1)=((i+1:Nat):Int):=by rw[w64 (by unfold I64;omega)];omega
  have g1:=Kd (l:=xs) (i:=i) (by omega);simp only[Qb,simprocAttr,ac,r1,r8,ah,ai,an,g1];refine Qg (λaa=>?_) (λaa=>?_)
  ·have aa:x=xs.getD i 0:=by simpa using aa
   simp only[Qb,simprocAttr,Xn];exact .mk (Lb _) ⟨by rw[Qh,Qla x xs 0 i ab q aa,LP],rfl⟩
  have aa:¬x=xs.getD i 0:=by simpa using aa
  simp only[Qb,simprocAttr,r8,aj];refine⟨xs.length - (i+1),by omega,i+1,by omega,rfl,rfl,λj ap=>?_,?_,?_,?_,?_⟩
  ·rcases Nq j i with h | h;·exact ab j h
   rw[show j=i by omega];exact aa
  all_goals simp only[Qd,simprocAttr,ac,r1,ad]
 have q:i=xs.length:=by have:=Ll q;omega
 subst q;simp only[Qb,simprocAttr,Xn];exact .mk (Lb _) ⟨by rw[Qh,QpT x xs 0 ab],rfl⟩
def QG (x:Lf)(k:Int)(H:Qa)(hx:x.At H):Qe Pg 59 [.agg x.cells.toArray,.Z k] H λu H'=>u=.Z (Qh x.f.slots k)∧∃m,H'=H.up m:=by
 refine Qq9 λaa=>?_;obtain⟨ae,ab,ad,q⟩:=hx;obtain⟨a2,ac,e2,_⟩:=id q;simp only[Lf.cells,Qig,e2,Qb,simprocAttr];rw[<- e2];refine(QpU _ x.f.slots k _ (q.ext aa ((Ext.refl H).push _)) ab).mono ?_;rintro _ _ ⟨rfl,rfl⟩;simp only[Qb,simprocAttr,Qpu];exact .ext aa ((Ext.refl H).push _) ⟨rfl,_,rfl⟩
def WG (n:Int):List UInt8:=bif n==1 then[15] else bif n==2 then[15,56] else bif n==3 then[15,58] else[]
def QfI (n:Int)(H:Qa):Qe Pg 74 [.Z n] H λu H'=>u=.string (mkS (WG n))∧H'=H:=by
 refine Qmi λac=>?_;simp only[Qdn,Qb,simprocAttr];cases q:n==1<;>simp only[Qb,simprocAttr,Gh]
 ·cases aa:n==2<;>simp only[Qb,simprocAttr,Gh]
  ·cases ab:n==3<;>simp only[Qb,simprocAttr,Gh];·exact .mk (Lb _) ⟨by simp[WG,q,aa,ab],rfl⟩
   exact .mk (Lb _) ⟨by simp[WG,q,aa,ab],rfl⟩
  exact .mk (Lb _) ⟨by simp[WG,q,aa],rfl⟩
 exact .mk (Lb _) ⟨by simp[WG,q],rfl⟩
def Qlh (n b:Int):Bool:=!(IntKind.i64.wrap (BitVec.ofInt IntKind.i64.bits n &&& BitVec.ofInt IntKind.i64.bits b).toNat==0)
def Qo (f:Fm):List UInt8:=(bif Qlh f.pre 1 then[102] else[])++((bif Qlh f.pre 2 then[242] else[])++((bif Qlh f.pre 4 then[243] else[])++WG f.map))
def QCz (n:Int):(WG n).length<=2:=by unfold WG;cases n==1<;>cases n==2<;>cases n==3<;>simp
def QiM (x:Lf)(H:Qa)(hx:x.At H):Qe Pg 55 [.agg x.cells.toArray] H λu H'=>u=.string (mkS (Qo x.f))∧∃m,H'=H.up m:=by
 refine Qpt λah=>?_;have ag:(Value.agg x.cells.toArray).cells.toList=x.cells:=rfl;have g3:x.cells[3]? = some (.Z x.f.pre):=rfl;have g4:x.cells[4]? = some (.Z x.f.map):=rfl;have aj:=QCz x.f.map;obtain⟨ac,q⟩:∃c,Qlh x.f.pre 1=c:=⟨_,rfl⟩;obtain⟨ad,aa⟩:∃c,Qlh x.f.pre 2=c:=⟨_,rfl⟩;obtain⟨ae,ab⟩:∃c,Qlh x.f.pre 4=c:=⟨_,rfl⟩;have d1:(!(IntKind.i64.wrap (BitVec.ofInt IntKind.i64.bits x.f.pre &&& BitVec.ofInt IntKind.i64.bits 1).toNat==0))=ac:=q;have d2:(!(IntKind.i64.wrap (BitVec.ofInt IntKind.i64.bits x.f.pre &&& BitVec.ofInt IntKind.i64.bits 2).toNat==0))=ad:=aa;have d3:(!(IntKind.i64.wrap (BitVec.ofInt IntKind.i64.bits x.f.pre &&& BitVec.ofInt IntKind.i64.bits 4).toNat==0))=ae:=ab;simp only[Qgu,ag,Qb,simprocAttr,g3,d1];have ai:∀ (l:List UInt8) (K:Value->Qa->Prop),l.length<=3->K (.string (mkS (l++WG x.f.map))) (H.push (.C x.cells 57))->True:=λ_ _ _ _=>trivial;cases ac<;>simp only[Qb,simprocAttr,QcX,g3,d2,Nat.reduceLeDiff]
 all_goals cases ad<;>simp only[Qb,simprocAttr,QcX,g3,d3,Nat.reduceAdd,Nat.reduceLeDiff]
 all_goals cases ae<;>simp only[Qb,simprocAttr,QcX,g4,Nat.reduceAdd,Nat.reduceLeDiff]
 all_goals
  refine(QfI x.f.map _).mono ?_;rintro _ _ ⟨rfl,rfl⟩;simp only[Qb,simprocAttr,QcX,Qn0];refine⟨by first | omega | (simp only[L9,Lo];omega),.ext ah ((Ext.refl H).push _) ⟨by simp[Qo,q,aa,ab],_,rfl⟩⟩
def QFp (c:Int):Int:=IntKind.i64.wrap (IntKind.u8.wrap (BitVec.ofInt IntKind.u8.bits c &&& ~~~BitVec.ofInt IntKind.u8.bits 7).toNat)
def Wp (f:Fm)(d:Nat)(c:Int):Bool:=
 bif f.vex then(d==0)&&((c==196)||((c==197)&&(f.map==1)&&!(f.w==1)))
 else match (Qo f)[d]? with
  | some b=>c==(b.toNat:Int)
  | none=>bif Nat.blt (Qo f).length d then false else bif decide (0<=Qh f.slots 4) then QFp c==f.code else IntKind.i64.wrap c==f.code
def QpY (x:Lf)(d:Nat)(c:Int)(H:Qa)(hx:x.At H):Qe Pg 56 [.agg x.cells.toArray,.Z d,.int .u8 c] H λu H'=>u=.bool (Wp x.f d c)∧∃m,H'=H.up m:=by
 refine Qn1 λq=>?_;have au:(Value.agg x.cells.toArray).cells.toList=x.cells:=rfl;have ax:x.cells[8]? = some (.bool x.f.vex):=rfl;have g4:x.cells[4]? = some (.Z x.f.map):=rfl;have aj:x.cells[5]? = some (.Z x.f.code):=rfl;have aw:x.cells[7]? = some (.Z x.f.w):=rfl;have aE:=Y8 hx;have aa:Ext H (H.push (.C x.cells 57)):=(Ext.refl H).push _;simp only[Qfb,au,Qb,simprocAttr,ax];cases ag:x.f.vex with
 | true=>
  have ed:((d:Int)==0)=(d==0):=by
   rw[Ni];simp
  simp only[Qb,simprocAttr,ed];have az:Wp x.f d c=((d==0)&&((c==196)||((c==197)&&(x.f.map==1)&&!(x.f.w==1)))):=by simp[Wp,ag]
  rw[az];cases aB:d==0<;>simp only[Qb,simprocAttr,WQ];·exact .ext q aa ⟨rfl,_,rfl⟩
  cases am:c==196<;>simp only[Qb,simprocAttr,WQ]
  ·cases aC:c==197<;>simp only[Qb,simprocAttr,g4,WQ];·exact .ext q aa ⟨rfl,_,rfl⟩
   cases aD:x.f.map==1<;>simp only[Qb,simprocAttr,aw,WQ];·exact .ext q aa ⟨rfl,_,rfl⟩
   exact .ext q aa ⟨by simp,_,rfl⟩
  exact .ext q aa ⟨rfl,_,rfl⟩
 | false=>
  simp only[Qb,simprocAttr,Qw,Wj];refine(QiM x _ (hx.ext q aa)).w ?_;rintro _ _ an aH ⟨rfl,m,rfl⟩;simp only[Q8,Qf]at an;have ai:Ext H ((H.push (.C x.cells 57)).up m):=aa.up (by simp only[Qf];exact an);have aG:((H.push (.C x.cells 57)).up m).get H.y=some (.C x.cells 57):=by rw[XB,Qc,Lc rfl]
  have aF:H.y<((H.push (.C x.cells 57)).up m).y:=by simp only[Q8];omega
  have av:∀ap,((H.push (.C x.cells 57)).up m).up ap=(H.push (.C x.cells 57)).up ap:=λ_=>rfl;simp only[Qb,simprocAttr,QcX];have ah:∀ (H2:Qa),Ext H H2->∀ (b:Bool),b=Wp x.f d c->Ret H (λu H'=>u=.bool (Wp x.f d c)∧∃m,H'=H.up m) (.bool b) H2:=λH2 am b ab=>.ext q am ⟨by rw[ab],_,rfl⟩;cases ad:decide ((d:Int)<((Qo x.f).length:Int)) with
  | true=>
   have ad:d<(Qo x.f).length:=by have:=Lg ad;omega
   have aq:(0:Int)<=d:=by omega
   have ar:(d:Int).toNat=d:=by omega
   have ac:=La ad;simp only[Qb,simprocAttr,QcX,aq,ar,ac,WQ];refine ah _ ai _ ?_;simp[Wp,ag,ac]
  | false=>
   have ad:(Qo x.f).length<=d:=by have:=Ll ad;omega
   have ac:(Qo x.f)[d]? = none:=N7 ad;simp only[Qb,simprocAttr,QcX];cases ae:decide (((Qo x.f).length:Int)<(d:Int)) with
   | true=>
    have ae:(Qo x.f).length<d:=by have:=Lg ae;omega
    simp only[Qb,simprocAttr,WQ];refine ah _ ai _ ?_;have:Nat.blt (Qo x.f).length d=true:=by simpa using ae
    simp[Wp,ag,ac,this]
   | false=>
    have ae:¬ (Qo x.f).length<d:=by have:=Ll ae;omega
    have ab:Nat.blt (Qo x.f).length d=false:=by
     cases ab:Nat.blt (Qo x.f).length d with
     | false=>rfl
     | true=>exact absurd (by simpa using ab) ae
    simp only[Qb,simprocAttr,Qw,Wj];refine(QG x 4 _ (hx.ext q ai)).w ?_;rintro _ _ ay aI ⟨rfl,aA,rfl⟩;simp only[Q8]at ay;rw[av];have ao:Ext H ((H.push (.C x.cells 57)).up aA):=aa.up (by simp only[Qf];omega);simp only[Qb,simprocAttr];cases ak:decide (0<=Qh x.f.slots 4) with
    | true=>
     simp only[Qb,simprocAttr,aj,WQ];refine ah _ ao _ ?_;simp[Wp,ag,ac,ab,ak,QFp]
    | false=>
     simp only[Qb,simprocAttr,aj,WQ];refine ah _ ao _ ?_;simp[Wp,ag,ac,ab,ak]
def Qzc {H:Qa}{l:List Int}{y:Lf}{ys:List Lf}(ab:y.At H)(h:ints l=WP (y::ys)):False:=by
 have q:(ints l)[1]? = some y.sv:=by rw[h];simp[WP,Lf.cells]
 obtain⟨a,c,e,_⟩:=ab.2.2.1;rw[e]at q;unfold ints at q;rw[LD]at q;cases aa:l[1]? with
 | none=>rw[aa]at q;cases q
 | some z=>rw[aa]at q;cases q
def Acc (H0 H:Qa)(v:Value)(ys:List Lf):Prop:=(v=.slice none 0 0∧ys=[])∨(∃b,v=.S b ys.length (UNK+10)∧H0.y<=b∧H.get b=some (.C (WP ys) 57)∧ys≠[]∧∀y∈ys,y.At H)
def Acc.ext {H0 H H':Qa}{v:Value}{ys:List Lf}(aa:H.Wf)(hx:Ext H H')(h:Acc H0 H v ys):Acc H0 H' v ys:=by
 rcases h with h | ⟨b,ab,ac,q,ad,ae⟩;·exact .inl h
 exact .inr ⟨b,ab,ac,by rw[hx.get _ (aa.lt q)];exact q,ad,λy ag=>(ae y ag).ext aa hx⟩
def Acc.fms {H0 H:Qa}{v:Value}{ys:List Lf}(h:Acc H0 H v ys):Qk9 H v ys:=by
 rcases h with⟨rfl,rfl⟩ | ⟨b,rfl,ab,q,ac,aa⟩;·exact⟨⟨none,0,rfl,λh=>by simp at h⟩,λx hx=>by cases hx⟩
 exact⟨⟨_,_,rfl,λ_=>⟨b,_,_,rfl,q⟩⟩,aa⟩
def VM.kill {H:Qa}{v:Value}{l:List Int}{b:Nat}{y:Lf}{ys:List Lf}{e:TypeId}{ro:Bool}(ab:H.get b=some (.cells (WP (y::ys)) e ro))(ad:y.At H)(h:VM H v l.length (ints l)):VM (H.kill b) v l.length (ints l):=by
 obtain⟨a,cap,rfl,aa⟩:=h;refine⟨a,cap,rfl,λac=>?_⟩;obtain⟨b1,e1,ae,rfl,q⟩:=aa ac;refine⟨b1,e1,ae,rfl,?_⟩;have:b1≠b:=λe=>by
  subst e;rw[ab]at q;simp only[Lt,Blk.cells.injEq]at q;exact Qzc ad q.1.symm
 rw[WE,Le this];exact q
def Lf.At.kill {H:Qa}{x:Lf}{b:Nat}{ys:List Lf}{e:TypeId}{ro:Bool}(q:H.get b=some (.cells (WP ys) e ro))(ab:ys≠[])(aa:∀y∈ys,y.At H)(h:x.At H):x.At (H.kill b):=by
 cases ys with
 | nil=>exact absurd rfl ab
 | cons y ys=>exact⟨h.1,h.2.1,h.2.2.1.kill q (aa y (Ny ..)),h.2.2.2.kill q (aa y (Ny ..))⟩
def QJZ (H:Qa)(g:Value)(p:Fm->Bool):Prop:=∃ (f:FuncId) (ys:List Value),g=.func (.func f) #[] ys.toArray∧∀ (x:Lf) H',Ext H H'->x.At H'->Qe Pg f ([.agg x.cells.toArray]++ys) H' λu H''=>u=.bool (p x.f)∧∃m,H''=H'.up m
def QvC (n cap:Nat):Prop:=cap=UNK+1∨(n<=cap∧cap<UNK)
def SlF (M:Nat)(v:Value)(l:List Int):Prop:=(l=[]∧v=.slice none 0 0)∨(l≠[]∧∃b cap,v=.S b l.length cap∧M<=b∧QvC l.length cap)
def SlF.mono {M M':Nat}{v:Value}{l:List Int}(ac:M'<=M)(h:SlF M v l):SlF M' v l:=by
 rcases h with h | ⟨h,b,cap,q,ab,aa⟩;·exact .inl h
 exact .inr ⟨h,b,cap,q,by omega,aa⟩
def Lf.Fr (M:Nat)(x:Lf):Prop:=SlF M x.sv x.f.shapes∧SlF M x.tv x.f.slots
def Lf.Fr.mono {M M':Nat}{x:Lf}(q:M'<=M)(h:x.Fr M):x.Fr M':=⟨h.1.mono q,h.2.mono q⟩
def Qha (T:Qa->Prop)(f:FuncId)(L:List Fm):Prop:=∀H,T H->Qe Pg f [] H λu H'=>Ext H H'∧∃xs:List Lf,xs.map (·.f)=L∧Acc H H' u xs∧xs.length<=1000∧∀x∈xs,x.Fr H.y
def Acc.mono {H0 H1 H:Qa}{v:Value}{ys:List Lf}(ac:H0.y<=H1.y)(h:Acc H1 H v ys):Acc H0 H v ys:=by
 rcases h with h | ⟨b,q,ab,aa⟩;·exact .inl h
 exact .inr ⟨b,q,by omega,aa⟩
def QfJ (H H':Qa)(v:Value):Prop:=∀id bl,H.get id=some bl->(∀a l c,v=.slice (some a) l c->id≠a.block)->H'.get id=some bl
def QfJ.ints {H0 H H':Qa}{v s:Value}{ys:List Lf}{l:List Int}(ah:QfJ H H' v)(ag:Acc H0 H v ys)(h:VM H s l.length (ints l)):VM H' s l.length (ints l):=by
 obtain⟨a,cap,rfl,ab⟩:=h;refine⟨a,cap,rfl,λai=>?_⟩;obtain⟨b1,e1,aj,rfl,q⟩:=ab ai;refine⟨b1,e1,aj,rfl,ah _ _ q λa l c aa e=>?_⟩;rcases ag with⟨rfl,_⟩ | ⟨b,rfl,ak,ac,ad,ae⟩;·cases aa
 cases aa;subst e;cases ys with
 | nil=>exact ad rfl
 | cons y ys=>
  rw[ac]at q;simp only[Lt,Blk.cells.injEq]at q;exact Qzc (ae y (Ny ..)) q.1.symm
def QfJ.at {H0 H H':Qa}{v:Value}{ys:List Lf}{x:Lf}(aa:QfJ H H' v)(q:Acc H0 H v ys)(h:x.At H):x.At H':=⟨h.1,h.2.1,aa.ints q h.2.2.1,aa.ints q h.2.2.2⟩
def QfJ.fms {H0 H H':Qa}{v u:Value}{ys xs:List Lf}(aa:QfJ H H' v)(ad:Acc H0 H v ys)(h:Qk9 H u xs)(ah:∀a l c q aj c',u=.slice (some a) l c->v=.slice (some q) aj c'->a.block≠q.block):Qk9 H' u xs:=by
 obtain⟨⟨a,cap,rfl,ab⟩,ac⟩:=h;refine⟨⟨a,cap,rfl,λag=>?_⟩,λx hx=>aa.at ad (ac x hx)⟩;obtain⟨b1,e1,ak,rfl,ae⟩:=ab ag;exact⟨b1,e1,ak,rfl,aa _ _ ae λa l c ai=>ah _ _ _ _ _ _ rfl ai⟩
def QfJ.y {H H':Qa}{v:Value}(_:QfJ H H' v):True:=trivial
def Acc.app {H0 H:Qa}{v:Value}{ys:List Lf}{x:Lf}{b1:Nat}{K:Value->Qa->Prop}(h:Acc H0 H v ys)(hx:Ext H0 H)(ac:H.Wf)(ad:x.At H)(au:ys.length<=100000)(am:H.get b1=some (.C x.cells 57))(ao:∀a l c,v=.slice (some a) l c->a.block≠b1)
  (ag:∀ae H',Ext H0 H'->H'.Wf->H.y<=H'.y->Acc H0 H' ae (ys++[x])->(∀a l c,ae=.slice (some a) l c->H.y<=a.block)->QfJ H H' v->K ae H'):QfY 57 10 112 v (.S b1 1 1) H K:=by
 have aj:Zx 10 (.S b1 1 1) H=some (1,x.cells):=by
  have:=Gg (size:=10) (m:=1) (b:=b1) (o:=0) (cap:=1) (c:=x.cells) (e:=57) (ro:=false) (H:=H) am (by decide) (by rw[Qw];decide);rw[this];rfl
 have a1:=Y8 ad;have ai:=hx.y;rcases id h with⟨rfl,rfl⟩ | ⟨b,rfl,ak,ah,av,ap⟩
 ·refine Qgq aj a1 (by decide) (by decide) (by decide) ?_;have aa:QfJ H (H.push (.C x.cells 57)) (.slice none 0 0):=λid bl ab _=>by
   rw[Qc,Le (by have:=ac.lt ab;omega)];exact ab
  refine ag _ _ (hx.push _) (ac.push _) (by simp) (.inr ⟨H.y,rfl,ai,by rw[Qc,Lc rfl];simp[WP],by simp,λy q=>?_⟩) (λa l c e=>by cases e;exact Lb _) aa;simp only[LH,Sa]at q;subst q;exact aa.at h ad
 have aq:=ac.lt ah;have ar:b≠b1:=ao _ _ _ rfl;refine Qkl rfl aj a1 (by decide) (c:=WP ys) ah (by rw[XR];omega) (by omega) (by omega) (by unfold UNK;omega) ?_;have aa:QfJ H ((H.kill b).push (.C (WP ys++x.cells) 57)) (.S b ys.length (UNK+10)):=λid bl ab an=>by
  rw[Qc,Le (by have:=ac.lt ab;simp;omega),WE,Le (an _ _ _ rfl)];exact ab
 have:=ag (.S H.y (ys.length+1) (UNK+10)) ((H.kill b).push (.C (WP ys++x.cells) 57)) ((hx.kill ak).push _) ((ac.kill _).push _) (by simp)
  (.inr ⟨H.y,by simp,ai,by rw[Qc,Lc (by simp),QnD],by simp,λy q=>?_⟩) (λa l c e=>by cases e;exact Lb _) aa
 ·exact this
 simp only[LI,Sa]at q;rcases q with q | rfl;·exact aa.at h (ap y q)
 exact aa.at h ad
def QvD (f:Fn)(xs ys:Array Value):(Value.func f xs ys).cells.toList=[.func f xs ys]:=Nu rfl rfl
def Qtu (f:Fn)(xs ys:Array Value):(Value.func f xs ys).oneCell'=true:=Nu rfl rfl
def Qsn (f:FuncId)(l:List Value)(H:Qa)(k:Value->Qa->Prop):cvK (.func (.func f) #[] #[]) Pg l H k=Qe Pg f l H k:=by
 show Qe Pg f (([]:List Value)++l++[]) H k=_;rw[LH,Na]
def Qzd (f:FuncId)(ys l:List Value)(H:Qa)(k:Value->Qa->Prop):cvK (.func (.func f) #[] ys.toArray) Pg l H k=Qe Pg f (l++ys) H k:=by
 show Qe Pg f (([]:List Value)++l++ys) H k=_;rw[LH]
def QdY (H H':Qa)(u:Value)(L:List Fm):Prop:=Ext H H'∧∃ys:List Lf,ys.map (·.f)=L∧Acc H H' u ys∧ys.length<=6000∧∀y∈ys,y.Fr H.y
def QpZ (m:Option Nat):(Value.map m).cells.toList=[.map m]:=Nu rfl rfl
def QvE (H H':Qa)(v:Value):Prop:=∀id,id<H.y->(∀a l c,v=.slice (some a) l c->id≠a.block)->H'.get id=H.get id
def QvE.a {H H':Qa}{v:Value}(h:QvE H H' v)(ab:H.Wf):QfJ H H' v:=λid bl q aa=>by rw[h id (ab.lt q) aa];exact q
def Acc.app2 {H0 H:Qa}{v:Value}{ys:List Lf}{x:Lf}{b1:Nat}{K:Value->Qa->Prop}(h:Acc H0 H v ys)(ah:H0.y<=H.y)(ab:H.Wf)(ac:x.At H)(au:ys.length<=100000)(aj:H.get b1=some (.C x.cells 57))(an:∀a l c,v=.slice (some a) l c->a.block≠b1)
  (ae:∀ad H',H'.Wf->H.y<=H'.y->Acc H0 H' ad (ys++[x])->(∃a l c,ad=.slice (some a) l c∧H.y<=a.block)->QvE H H' v->K ad H'):QfY 57 10 112 v (.S b1 1 1) H K:=by
 have ai:Zx 10 (.S b1 1 1) H=some (1,x.cells):=by
  have:=Gg (size:=10) (m:=1) (b:=b1) (o:=0) (cap:=1) (c:=x.cells) (e:=57) (ro:=false) (H:=H) aj (by decide) (by rw[Qw];decide);rw[this];rfl
 have a1:=Y8 ac;rcases id h with⟨rfl,rfl⟩ | ⟨b,rfl,ap,ag,av,ao⟩
 ·refine Qgq ai a1 (by decide) (by decide) (by decide) ?_;have aa:QvE H (H.push (.C x.cells 57)) (.slice none 0 0):=λid ak _=>by rw[Qc,Le (by omega)]
  refine ae _ _ (ab.push _) (by simp) (.inr ⟨H.y,rfl,ah,by rw[Qc,Lc rfl];simp[WP],by simp,λy q=>?_⟩) ⟨_,_,_,rfl,Lb _⟩ aa;simp only[LH,Sa]at q;subst q;exact(aa.a ab).at h ac
 have aq:=ab.lt ag;have ar:b≠b1:=an _ _ _ rfl;refine Qkl rfl ai a1 (by decide) (c:=WP ys) ag (by rw[XR];omega) (by omega) (by omega) (by unfold UNK;omega) ?_;have aa:QvE H ((H.kill b).push (.C (WP ys++x.cells) 57)) (.S b ys.length (UNK+10)):=λid ak am=>by
  rw[Qc,Le (by simp;omega),WE,Le (am _ _ _ rfl)]
 refine ae (.S H.y (ys.length+1) (UNK+10)) ((H.kill b).push (.C (WP ys++x.cells) 57)) ((ab.kill _).push _) (by simp)
  (.inr ⟨H.y,by simp,ah,by rw[Qc,Lc (by simp),QnD],by simp,λy q=>?_⟩) ⟨_,_,_,rfl,Lb _⟩ aa
 simp only[LI,Sa]at q;rcases q with q | rfl;·exact(aa.a ab).at h (ao y q)
 exact(aa.a ab).at h ac
def QAQ (H0 H:Qa)(v:Value)(d:Nat)(ys:List Lf):Prop:=∃b q aa,v=.P b∧H0.y<=b∧H0.y<=q∧H.get b=some (.C [.Z d,aa,.map (some q)] 83)∧H.get q=some (.map [])∧Acc H0 H aa ys
def VM.setMap {H:Qa}{v:Value}{n:Nat}{cs:List Value}{m:Nat}{es:List (Value×Value)}{b:Blk}(ab:H.get m=some (.map es))(h:VM H v n cs):VM (H.set m b) v n cs:=by
 obtain⟨a,cap,rfl,aa⟩:=h;refine⟨a,cap,rfl,λac=>?_⟩;obtain⟨b1,e1,ad,rfl,q⟩:=aa ac;refine⟨b1,e1,ad,rfl,?_⟩;rw[Qj,Le (λe=>by subst e;rw[ab]at q;cases q)];exact q
def Lf.At.setMap {H:Qa}{x:Lf}{m:Nat}{es:List (Value×Value)}{b:Blk}(q:H.get m=some (.map es))(h:x.At H):x.At (H.set m b):=⟨h.1,h.2.1,h.2.2.1.setMap q,h.2.2.2.setMap q⟩
def Acc.setMap {H0 H:Qa}{v:Value}{ys:List Lf}{m:Nat}{es:List (Value×Value)}{b:Blk}(aa:H.get m=some (.map es))(h:Acc H0 H v ys):Acc H0 (H.set m b) v ys:=by
 rcases h with h | ⟨b1,ab,ac,q,ad,ae⟩;·exact .inl h
 refine .inr ⟨b1,ab,ac,?_,ad,λy ag=>(ae y ag).setMap aa⟩;rw[Qj,Le (λe=>by subst e;rw[aa]at q;cases q)];exact q
section
variable {T:Qa->Prop} {L:List Fm} (hR:∀H,T H->Qe Pg 32 [] H λu H'=>QdY H H' u L)
include hR
def Qrx (H:Qa)(ah:T H):Qe Pg 34 [] H λu H'=>Ext H H'∧∃ys:List Lf,ys.map (·.f)=L∧QAQ H H' u 0 ys∧ys.length<=6000∧∀y∈ys,y.Fr H.y:=by
 refine Qpr λak=>?_;simp only[Qgs,Qb,simprocAttr];refine(hR H ah).w ?_;rintro u H1 aj ai ⟨q,ys,e1,ab,ag,ad⟩;have ae:=ab.fms;obtain⟨ac,cap,rfl,_⟩:=id ae.1;simp only[Qb,simprocAttr,QpZ,QnY];have aa:Ext H1 ((H1.push (.map [])).push (.C [.Z 0,.slice ac ys.length cap,.map (some H1.y)] 83)):=((Ext.refl H1).push _).push _;refine .mk ((q.trans aa).y) ⟨q.trans aa,ys,e1,⟨H1.y+1,H1.y,_,rfl,by have:=q.y;omega,q.y,?_,?_,ab.ext ai aa⟩,ag,ad⟩;·rw[Qc,Lc (by simp)];rfl
 rw[Qc,Le (by simp),Qc,Lc rfl]
end
def ZP (d:Nat)(L:List Fm):Bool:=match L with
 | []=>false
 | f::_=>bif f.vex then d==0 else Nat.ble d (Qo f).length
def Qry {H0 H:Qa}{v:Value}{d:Nat}{ys:List Lf}(aq:QAQ H0 H v d ys)(aH:ys.length<=6000):Qe Pg 35 [v] H λu H'=>u=.bool (ZP d (ys.map (·.f)))∧∃m,H'=H.up m:=by
 refine QhS λaa=>?_;obtain⟨b,aB,aE,rfl,aF,aJ,ad,aI,ar⟩:=aq;have aw:=ar.fms;obtain⟨⟨aD,cap,rfl,ay⟩,az⟩:=id aw;simp only[Qad,Qb,simprocAttr,ad];cases ab:((ys.length:Int)==0) with
 | true=>
  have ab:ys=[]:=by
   have:(ys.length:Int)=0:=by simpa using ab
   exact N2.1 (by omega)
  simp only[Qb,simprocAttr,ZW];exact .mk (Lb _) ⟨by rw[ab];rfl,_,rfl⟩
 | false=>
  have hlp:0<ys.length:=by
   have:¬ (ys.length:Int)=0:=by simpa using ab
   omega
  obtain⟨b1,e1,aN,rfl,au⟩:=ay hlp;have ag:=La hlp;have q:∀z,ys[0]? = some z->ZP d (ys.map (·.f))=bif z.f.vex then d==0 else Nat.ble d (Qo z.f).length:=λz ah=>by
   cases ys with
   | nil=>simp at ah
   | cons a l=>simp at ah;subst ah;rfl
  generalize ys[0]'hlp=y at ag;have aA:=Ln ag;have q:=q y ag;have d1:(0:Int)<=0∧(0:Int)<(ys.length:Int):=by omega
  have d3:(0:Int).toNat=0:=rfl;have aC:=XR ys;have d4:10<=ys.length * 10:=by omega
  have ai:=QaT ys 0 y ag;rw[BH,Lw]at ai;have an:=az y aA;have ao:=Y8 an;have ap:y.cells[8]? = some (.bool y.f.vex):=rfl;have av:=aa.lt ad;have aG:¬b=H.y:=by omega
  simp only[Qb,simprocAttr,ad,d1,d3,d4,au,aC,ai,Qw,ao,ap];obtain⟨G1,ac⟩:∃h,h=(H.push (.C [.Z 0,.slice none 0 0,.slice none 0 0,.Z 0,.Z 0,.Z 0,.Z 0,.Z 0,.bool false,.Z 0] 57)).set H.y (.C y.cells 57):=⟨_,rfl⟩;have aL:G1.Wf:=by rw[ac];exact(aa.push _).set (by rw[Qc,Lc rfl]) _
  have ae:Ext H G1:=by rw[ac];exact((Ext.refl H).push _).set (Lb _) _
  have ax:G1.get H.y=some (.C y.cells 57):=by rw[ac,Qj,Lc rfl]
  have aj:G1.get b=some (.C [.Z d,.S b1 ys.length cap,.map (some aB)] 83):=by rw[ae.get _ av];exact ad
  simp only[<- ac];cases am:y.f.vex with
  | true=>
   rw[am]at q;have ed:((d:Int)==0)=(d==0):=by rw[Ni];simp
   simp only[Qb,simprocAttr,aj,ed,ZW];exact .ext aa ae ⟨by rw[q];rfl,_,rfl⟩
  | false=>
   rw[am]at q;simp only[Qb,simprocAttr,aj,ax,Qw,Wj];refine⟨rfl,(QiM y G1 (an.ext aa ae)).w ?_⟩;rintro _ _ ak aK ⟨rfl,aM,rfl⟩;simp only[Q8]at ak;simp only[Qb,simprocAttr,QcX,ZW];refine⟨λ_ _=>rfl,.ext aa (ae.up ak) ⟨?_,_,rfl⟩⟩;rw[q];congr 1;rw[Ni];simp
structure QiN (ty:TypeId):Prop where
 m:∃kt e td inf,Pg.underlying ty=some (.map kt e)∧Pg.underlying kt=some td∧Pg.info? e=some inf∧inf.zero=some (.pointer none)∧∀c,VC td (.int .u8 c)=true
def Qhb {H0 H:Qa}{v:Value}{d:Nat}{ys:List Lf}(bM:QiN 81)(b7:QAQ H0 H v d ys)(aw:Ext H0 H)(cp:ys.length<=6000)(cm:d<=1000000)(c:Int):Qe Pg 36 [v,.int .u8 c] H λu H'=>Ext H0 H'∧∃zs:List Lf,zs.map (·.f)=(ys.map (·.f)).filter (λf=>Wp f d c)∧QAQ H0 H' u (d+1) zs∧zs.length<=ys.length∧∀z∈zs,z∈ys:=by
 refine Qgt λam=>?_;obtain⟨cw,cg,cx,cv,bm,bn,bZ,ca,bo⟩:=bM.m;obtain⟨b,an,ch,rfl,ci,bG,aj,ak,b8⟩:=b7;have bC:=b8.fms;obtain⟨⟨aN,cap,rfl,bL⟩,bP⟩:=id bC;have bB:=am.lt aj;have bH:=am.lt ak;have cl:b≠an:=λe=>by subst e;rw[aj]at ak;cases ak
 simp only[VF,Qb,simprocAttr,aj];rw[QAK (m:=an) bm bn bZ ca rfl (by simp only[Qd,simprocAttr]) (by simp only[Qd,simprocAttr];exact bo c) ak];have bS:¬b=H.y:=by omega
 have bT:¬b=H.y+1:=by omega
 have ed:IntKind.i64.wrap ((d:Int)+1)=((d+1:Nat):Int):=by rw[w64 (by unfold I64;omega)];omega
 simp only[Qb,simprocAttr,aj,bS,bT,ed,QpZ];have bd:Ext H ((H.push (.map [])).push (.C [.Z ((d+1:Nat):Int),.slice none 0 0,.map (some H.y)] 83)):=((Ext.refl H).push _).push _;have aW:((H.push (.map [])).push (.C [.Z ((d+1:Nat):Int),.slice none 0 0,.map (some H.y)] 83)).get H.y=some (.map []):=by rw[Qc,Le (by simp),Qc,Lc rfl]
 have aR:((H.push (.map [])).push (.C [.Z ((d+1:Nat):Int),.slice none 0 0,.map (some H.y)] 83)).get (H.y+1)=some (.C [.Z ((d+1:Nat):Int),.slice none 0 0,.map (some H.y)] 83):=by rw[Qc,Lc (by simp)]
 have bc:=(am.push (.map [])).push (.C [.Z ((d+1:Nat):Int),.slice none 0 0,.map (some H.y)] 83);have bJ:((H.push (.map [])).push (.C [.Z ((d+1:Nat):Int),.slice none 0 0,.map (some H.y)] 83)).y=H.y+2:=rfl;generalize (H.push (.map [])).push (.C [.Z ((d+1:Nat):Int),.slice none 0 0,.map (some H.y)] 83)=H1 at bd aW aR bc bJ;refine Qu (λm A' H'=>∃ (k:Nat) (zs:List Lf) (ac:Value),k<=ys.length∧m=ys.length - k∧H'.Wf∧Ext H H'∧H1.y<=H'.y∧H'.get H.y=some (.map [])∧H'.get (H.y+1)=some (.C [.Z ((d+1:Nat):Int),ac,.map (some H.y)] 83)∧Acc H1 H' ac zs∧
   zs.map (·.f)=((ys.take k).map (·.f)).filter (λf=>Wp f d c)∧zs.length<=k∧(∀z∈zs,z∈ys)∧
   A' 0=.P b∧A' 1=.int .u8 c∧A' 7=.P (H.y+1)∧A' 32=.slice aN ys.length cap∧A' 33=.Z ys.length∧A' 34=.Z k) ys.length ?_ ?_
 ·refine⟨0,[],.slice none 0 0,L7 _,by omega,bc,bd,Lb _,aW,aR,.inl ⟨rfl,rfl⟩,by simp,by simp,λz ag=>(by cases ag),?_,?_,?_,?_,?_,?_⟩
  all_goals simp only[uxA,uxB,Nat.reduceBEq]
  rfl
 rintro m A' H3 ⟨k,zs,ac,co,rfl,ab,q,cq,aG,aC,ai,ax,bR,aJ,ay,r1,ao,aK,aL,az⟩;simp only[Qb,simprocAttr,aL,az];have aF:H3.get b=some (.C [.Z (d:Int),.slice aN ys.length cap,.map (some an)] 83):=by rw[q.get _ bB];exact aj
 refine Qg (λaa=>?_) (λaa=>?_)
 ·have aa:k<ys.length:=by have:=Lg aa;omega
  obtain⟨b1,bu,bX,rfl,aS⟩:=bL (by omega);have bD:H3.get b1=some (.cells (WP ys) bu bX):=by rw[q.get _ (am.lt aS)];exact aS
  have d1:(0:Int)<=k∧(k:Int)<ys.length:=by omega
  have d3:(k:Int).toNat=k:=by omega
  have d4:k * 10+10<=ys.length * 10:=by omega
  have aQ:IntKind.i64.wrap ((k:Int)+1)=((k+1:Nat):Int):=by rw[w64 (by unfold I64;omega)];omega
  have ba:=La aa;have aP:=QaT ys k _ ba;have bW:=XR ys;have aI:ys[k]∈ys:=Nb aa;have aA:=(bP _ aI).ext am q;have bi:ys.take (k+1)=ys.take k++[ys[k]]:=NM aa;generalize ys[k]=x at ba aP aI aA bi;have bp:=Y8 aA;have cj:=ab.lt aF;have bU:¬b=H3.y:=by omega
  simp only[Qb,simprocAttr,ay,r1,aK,az,d1,d3,d4,bD,bW,aP,Qw,Wj,bp,aF,bU];obtain⟨G1,ah⟩:∃h,h=(H3.push (.C [.Z 0,.slice none 0 0,.slice none 0 0,.Z 0,.Z 0,.Z 0,.Z 0,.Z 0,.bool false,.Z 0] 57)).set H3.y (.C x.cells 57):=⟨_,rfl⟩;have ct:G1.Wf:=by rw[ah];exact(ab.push _).set (by rw[Qc,Lc rfl]) _
  have bh:Ext H3 G1:=by rw[ah];exact((Ext.refl H3).push _).set (Lb _) _
  have bE:G1.get H3.y=some (.C x.cells 57):=by rw[ah,Qj,Lc rfl]
  have cr:G1.y=H3.y+1:=by rw[ah];rfl
  simp only[<- ah];refine(QpY x d c G1 (aA.ext ab bh)).w ?_;rintro _ G2 aZ aH ⟨rfl,m4,rfl⟩;simp only[Q8]at aZ;have ae:Ext H3 (G1.up m4):=bh.up aZ;have aT:(G1.up m4).get H3.y=some (.C x.cells 57):=by rw[XB];exact bE
  have bK:H3.y+1<=(G1.up m4).y:=by simp only[Q8];omega
  generalize G1.up m4=G2 at aH ae aT bK;have aq:((ys.take (k+1)).map (·.f)).filter (λf=>Wp f d c)=((ys.take k).map (·.f)).filter (λf=>Wp f d c)++bif Wp x.f d c then[x.f] else[]:=by
   rw[bi,N6,Re];cases ar:Wp x.f d c<;>simp[ar]
  have aX:G2.get H.y=some (.map []):=by rw[ae.get _ (ab.lt aG)];exact aG
  have aE:G2.get (H.y+1)=some (.C [.Z ((d+1:Nat):Int),ac,.map (some H.y)] 83):=by rw[ae.get _ (ab.lt aC)];exact aC
  simp only[Qb,simprocAttr];cases ar:Wp x.f d c
  ·rw[ar]at aq;simp only[Qb,simprocAttr,az,aQ];refine⟨ys.length - (k+1),by omega,k+1,zs,ac,by omega,rfl,aH,q.trans ae,by omega,aX,aE,ai.ext ab ae,by rw[aq,ax];simp,by omega,aJ,?_,?_,?_,?_,?_,?_⟩
   all_goals simp only[Qd,simprocAttr,ay,r1,ao,aK,aL]
  rw[ar]at aq;have bV:¬H.y+1=G2.y:=by omega
  simp only[Qb,simprocAttr,ao,aT,aE,Qw,Wj];have bg:Ext H3 (G2.push (.C x.cells 57)):=ae.push _;have b9:=ai.ext ab bg;refine Acc.app2 b9 (by simp only[Qf];omega) (aH.push _) (aA.ext ab bg) (by omega) (by rw[Qc,Lc rfl]) (λa l c' av e=>?_) λcy H6 cb cc ce cf aM=>?_
  ·rcases ai with⟨h,_⟩ | ⟨b2,h,_,bz,_⟩;·rw[h]at av;cases av
   rw[h]at av;cases av;have:=ab.lt bz;simp only at e;omega
  obtain⟨a6,bj,aO,rfl,bA⟩:=cf;simp only[Qf]at cc bA;have aB:∀id,id<H1.y->∀a l c,ac=.slice (some a) l c->id≠a.block:=λid aU a l c e=>by
   rcases ai with⟨h,_⟩ | ⟨b2,h,ad,_⟩;·rw[h]at e;cases e
   rw[h]at e;cases e;simp only;omega
  have aD:H6.get (H.y+1)=some (.C [.Z ((d+1:Nat):Int),ac,.map (some H.y)] 83):=by
   rw[aM _ (by simp only[Qf];omega) (aB _ (by omega)),Qc,Le bV];exact aE
  have bF:H6.get H.y=some (.map []):=by
   rw[aM _ (by simp only[Qf];omega) (aB _ (by omega)),Qc,Le (by omega)];exact aX
  have bO:Ext H H6:=⟨by have:=q.y;omega,λid aU=>by
   rw[aM _ (by simp only[Qf];omega) (aB _ (by omega)),Qc,Le (by omega),ae.get _ (by have:=q.y;omega)];exact q.get _ aU⟩
  simp only[Qb,simprocAttr,az,aQ,aD];refine⟨ys.length - (k+1),by omega,k+1,zs++[x],.slice (some a6) bj aO,by omega,rfl,cb.set aD _,bO.set (by omega) _,by simp only[QR];omega,by rw[Qj,Le (by omega)];exact bF,by rw[Qj,Lc rfl],?_,by rw[aq,N6,ax];simp,by simp;omega,?_,?_,?_,?_,?_,?_,?_⟩
  ·rcases ce with⟨h,_⟩ | ⟨bq,h,g1,g2,g3,g4⟩;·cases h
   refine .inr ⟨bq,h,g1,?_,g3,λy bQ=>?_⟩;·rw[Qj,Le (by omega)];exact g2
   have au:=g4 y bQ;have keep:∀ (s:Value) (l:List Int),VM H6 s l.length (ints l)->VM (H6.set (H.y+1) (.C [.Z ((d+1:Nat):Int),.slice (some a6) bj aO,.map (some H.y)] 83)) s l.length (ints l):=λs l h=>by
    obtain⟨a,br,rfl,bx⟩:=h;refine⟨a,br,rfl,λbI=>?_⟩;obtain⟨bb,bw,bY,rfl,ap⟩:=bx bI;refine⟨bb,bw,bY,rfl,?_⟩;rw[Qj,Le (λe=>?_)];·exact ap
    subst e;rw[aD]at ap;simp only[Lt,Blk.cells.injEq]at ap;have ad:(ints l)[2]? = some (.map (some H.y)):=by rw[<- ap.1];rfl
    unfold ints at ad;rw[LD]at ad;cases aV:l[2]? with
    | none=>rw[aV]at ad;cases ad
    | some z=>rw[aV]at ad;cases ad
   exact⟨au.1,au.2.1,keep _ _ au.2.2.1,keep _ _ au.2.2.2⟩
  ·intro z ag;simp only[LI,Sa]at ag;rcases ag with ag | rfl;·exact aJ z ag
   exact aI
  all_goals simp only[Qd,simprocAttr,ay,r1,ao,aK,aL]
 have aa:k=ys.length:=by have:=Ll aa;omega
 subst aa;have aY:H3.get an=some (.map []):=by rw[q.get _ bH];exact ak
 simp only[Qb,simprocAttr,ay,r1,ao,aF];rw[QCm (m:=an) bm bn (by simp only[Qd,simprocAttr]) (by simp only[Qd,simprocAttr];exact bo c) aY];simp only[Qb,simprocAttr,ao,QfZ];have bN:=aw.trans q;rw[LF (Lb _)]at ax;refine .mk (by simp only[QR];exact q.y) ⟨bN.set bG _,zs,ax,⟨H.y+1,H.y,ac,rfl,by have:=aw.y;omega,aw.y,?_,?_,(ai.mono (by have:=aw.y;omega)).setMap aY⟩,bR,aJ⟩;·rw[Qj,Le (by omega)];exact aC
 rw[Qj,Le (by omega)];exact aG
def Qli (H:Qa)(v:Value)(bs:List Int):Prop:=∃a cap,v=.slice a bs.length cap∧(0<bs.length->∃b o c e ro,a=some ⟨b,o,none⟩∧H.get b=some (.cells c e ro)∧∀i,i<bs.length->c[o+i]? = some (.int .u8 (bs.getD i 0)))
def Qli.ext {H H':Qa}{v:Value}{bs:List Int}(ae:H.Wf)(ac:Ext H H')(h:Qli H v bs):Qli H' v bs:=by
 obtain⟨a,cap,rfl,aa⟩:=h;refine⟨a,cap,rfl,λad=>?_⟩;obtain⟨b,o,c,e,ro,rfl,q,ab⟩:=aa ad;exact⟨b,o,c,e,ro,rfl,by rw[ac.get b (ae.lt q)];exact q,ab⟩
def Xa (c:Int):Bool:=IntKind.u8.wrap (BitVec.ofInt IntKind.u8.bits c &&& BitVec.ofInt IntKind.u8.bits 240).toNat==64
def Q7:List Int->Bool->Nat->List Fm->List Fm
 | [],_,_,L=>L
 | c::cs,ah,d,L=>bif ZP d L then(bif ah&&Xa c then Q7 cs false d L else Q7 cs (ah&&((c==102)||(c==242)||(c==243))) (d+1) (L.filter λf=>Wp f d c)) else L
def Qrz {T:Qa->Prop}{L:List Fm}(aS:∀H,T H->Qe Pg 32 [] H λu H'=>QdY H H' u L)(aH:QiN 81)(va:Value)(bs:List Int)(H:Qa)(bh:T H)(aT:Qli H va bs)(br:bs.length<=100000):Qe Pg 19 [va] H λu H'=>QdY H H' u (Q7 bs true 0 L):=by
 refine Qpp λbi=>?_;simp only[Qgr,Qb,simprocAttr];refine(Qrx aS H bh).w ?_;rintro nv H1 bw bj ⟨bn,ys,e1,aR,aY,aW⟩;obtain⟨aM,cap,rfl,bg⟩:=id aT;simp only[Qb,simprocAttr];refine Qu (λm A' H'=>∃ (i:Nat) (ah:Bool) (d:Nat) (zs:List Lf),i<=bs.length∧m=bs.length - i∧H'.Wf∧Ext H H'∧QAQ H H' (A' 3) d zs∧Q7 (bs.drop i) ah d (zs.map (·.f))=Q7 bs true 0 L∧d<=i∧zs.length<=6000∧(∀z∈zs,z.Fr H.y)∧
   A' 4=.bool ah∧A' 8=.slice aM bs.length cap∧A' 9=.Z bs.length∧A' 10=.Z i) bs.length ?_ ?_
 ·refine⟨0,true,0,ys,L7 _,by omega,bj,bn,?_,by rw[Lw,e1],Lb _,aY,aW,?_,?_,?_,?_⟩
  all_goals simp only[uxA,uxB,Nat.reduceBEq]
  ·exact aR
  rfl
 rintro m A' H3 ⟨i,ah,d,zs,hi,rfl,bm,ai,an,q,bu,ac,ae,r4,r8,aj,ag⟩;simp only[Qb,simprocAttr,aj,ag];refine Qg (λaa=>?_) (λaa=>?_)
 ·have aa:i<bs.length:=by have:=Lg aa;omega
  obtain⟨b1,o1,aN,aO,bp,rfl,aD,aV⟩:=bg (by omega);have aX:H3.get b1=some (.cells aN aO bp):=by rw[ai.get _ (bi.lt aD)];exact aD
  have d1:(0:Int)<=i∧(i:Int)<bs.length:=by omega
  have d3:(i:Int).toNat=i:=by omega
  have ak:IntKind.i64.wrap ((i:Int)+1)=((i+1:Nat):Int):=by rw[w64 (by unfold I64;omega)];omega
  have aB:=aV i aa;have aC:bs.drop i=bs.getD i 0::bs.drop (i+1):=by
   rw[Nh aa];simp[List.getD,La aa]
  rw[aC,Q7]at q;generalize bs.getD i 0=c at aB q aC;simp only[Qb,simprocAttr,r8,ag,d1,d3,aX,aB];refine(Qry an ac).w ?_;rintro _ _ aE aI ⟨rfl,m4,rfl⟩;simp only[Q8]at aE;have aw:Ext H3 (H3.up m4):=(Ext.refl H3).up aE;have ad:QAQ H (H3.up m4) (A' 3) d zs:=by
   obtain⟨b,az,am,g1,g2,g3,g4,aP,aQ⟩:=an;exact⟨b,az,am,g1,g2,g3,by rw[XB];exact g4,by rw[XB];exact aP,aQ.ext bm aw⟩
  have ab:=ai.trans aw;generalize H3.up m4=H4 at aI aw ad ab;simp only[Qb,simprocAttr];cases aF:ZP d (zs.map (·.f)) with
  | false=>
   rw[aF,Ls]at q;obtain⟨b,az,am,e3,aU,bc,aq,ba,ap⟩:=ad;simp only[Qb,simprocAttr,e3,aq,Qe9];exact .mk ab.y ⟨ab,zs,q,ap,ac,ae⟩
  | true=>
   rw[aF,Lq]at q;simp only[Qb,simprocAttr,r4];have bo:(IntKind.u8.wrap (BitVec.ofInt IntKind.u8.bits c &&& BitVec.ofInt IntKind.u8.bits 240).toNat==64)=Xa c:=rfl;cases ah with
   | true=>
    simp only[LJ]at q;simp only[Qb,simprocAttr,bo];cases aG:Xa c with
    | true=>
     rw[aG,Lq]at q;simp only[Qb,simprocAttr,ag,ak];refine⟨bs.length - (i+1),by omega,i+1,false,d,zs,by omega,rfl,aI,ab,?_,q,by omega,ac,ae,?_,?_,?_,?_⟩
     all_goals simp only[Qd,simprocAttr,r8,aj]
     exact ad
    | false=>
     rw[aG,Ls]at q;cases aJ:c==102<;>cases aK:c==242<;>cases aL:c==243<;>simp only[Qb,simprocAttr,r4,aJ,aK,aL]
     all_goals
      rw[aJ,aK,aL]at q;simp only[NI,Bd,Bool.or_self]at q;refine(Qhb aH ad ab ac (by omega) c).w ?_;rintro bq H6 bd au ⟨av,aA,ay,ao,aZ,ar⟩;simp only[Qb,simprocAttr,ag,ak];refine⟨bs.length - (i+1),by omega,i+1,_,d+1,aA,by omega,rfl,au,av,?_,by rw[ay];exact q,by omega,by omega,λz ax=>ae z (ar z ax),?_,?_,?_,?_⟩
      all_goals simp only[Qd,simprocAttr,r8,aj]
      first | exact ao | rfl
   | false=>
    simp only[NG,Ls]at q;simp only[Qb,simprocAttr,r4];refine(Qhb aH ad ab ac (by omega) c).w ?_;rintro bq H6 bd au ⟨av,aA,ay,ao,aZ,ar⟩;simp only[Qb,simprocAttr,ag,ak];refine⟨bs.length - (i+1),by omega,i+1,_,d+1,aA,by omega,rfl,au,av,?_,by rw[ay];exact q,by omega,by omega,λz ax=>ae z (ar z ax),?_,?_,?_,?_⟩
    all_goals simp only[Qd,simprocAttr,r8,aj]
    first | exact ao | rfl
 have aa:i=bs.length:=by have:=Ll aa;omega
 subst aa;rw[NK (Lb _),Q7]at q;obtain⟨b,az,am,e3,aU,bc,aq,ba,ap⟩:=an;simp only[Qb,simprocAttr,e3,aq,Qe9];exact .mk ai.y ⟨ai,zs,q,ap,ac,ae⟩
def lis:List (Int×Int×FuncId):=[(1,16,96),(16,47,97),(48,115,98),(116,135,99),(136,262,100),(263,322,101)]
def liC (x:Int×Int×FuncId):List Value:=[.Z x.1,.Z x.2.1,.func (.func x.2.2) #[] #[]]
def QrV (H:Qa):Qe Pg 72 [] H λu H'=>u=.S H.y 6 6∧H'=H.push (.C (lis.flatMap liC) 130):=by
 refine Qpv λq=>?_;simp only[Qgv,Qb,simprocAttr,QvD,Qn2,Nat.reduceMul,Nat.reduceLeDiff];exact .mk (by simp) ⟨rfl,rfl⟩
def QEa:∀ (l:List (Int×Int×FuncId)) (i:Nat) (p:Int×Int×FuncId),l[i]? = some p->((l.flatMap liC).drop (i * 3)).take 3=liC p
 | [],i,p,h=>by simp at h
 | q::l,0,p,h=>by
  simp at h;subst h;simp[liC]
 | q::l,i+1,p,h=>by
  have e:((q::l).flatMap liC)=liC q++l.flatMap liC:=by simp
  have n:(liC q).length=3:=rfl;rw[e,show(i+1) * 3=(liC q).length+i * 3 by rw[n];omega,B3,NK (by omega),LH,NL];exact QEa l i p (by simpa using h)
def Qga (LL:FuncId->List Fm)(fr q:Int)(p:Fm->Bool)(l:List (Int×Int×FuncId)):List Fm:=l.flatMap λx=>bif decide (q<x.1)||decide (fr>x.2.1) then[] else(LL x.2.2).filter p
def QfS {T:Qa->Prop}(aK:∀H H',H.Wf->T H->Ext H H'->T H')(LL:FuncId->List Fm)(bE:∀x∈lis,Qha T x.2.2 (LL x.2.2))(fr ae:Int)(g:Value)(p:Fm->Bool)(H:Qa)(aN:QJZ H g p)(bQ:T H):
  Qe Pg 51 [.Z fr,.Z ae,g] H λu H'=>Ext H H'∧∃ys:List Lf,ys.map (·.f)=Qga LL fr ae p lis∧Acc H H' u ys∧ys.length<=6000∧∀y∈ys,y.Fr H.y:=by
 refine Qmg λbT=>?_;obtain⟨bh,bi,rfl,aN⟩:=aN;simp only[Qdm,Qb,simprocAttr];refine(QrV H).w ?_;rintro _ _ cq ay ⟨rfl,rfl⟩;simp only[Qb,simprocAttr];have aL:(H.push (.C (lis.flatMap liC) 130)).get H.y=some (.C (lis.flatMap liC) 130):=by rw[Qc,Lc rfl]
 have aB:Ext H (H.push (.C (lis.flatMap liC) 130)):=(Ext.refl H).push _;have bO:(H.push (.C (lis.flatMap liC) 130)).y=H.y+1:=rfl;generalize H.push (.C (lis.flatMap liC) 130)=Hp at ay aL aB bO;have bS:=aK _ _ bT bQ aB;refine Qu (λm A' H'=>∃ (i:Nat) (ys:List Lf),i<=6∧m=6 - i∧H'.Wf∧Ext Hp H'∧ys.map (·.f)=Qga LL fr ae p (lis.take i)∧ys.length<=i * 1000∧Acc Hp H' (A' 7) ys∧(∀y∈ys,y.Fr H.y)∧
  A' 0=.Z fr∧A' 1=.Z ae∧A' 2=.func (.func bh) #[] bi.toArray∧A' 12=.S H.y 6 6∧A' 13=.Z 6∧A' 14=.Z i) 6 ?_ ?_
 ·refine⟨0,[],L7 _,rfl,ay,.refl _,rfl,L7 _,?_,λy cb=>(by cases cb),?_,?_,?_,?_,?_,?_⟩
  all_goals simp only[Qd,simprocAttr]
  ·exact .inl ⟨rfl,rfl⟩
  all_goals rfl
 rintro m A' H' ⟨i,ys,hi,rfl,ag,ac,aS,c1,ak,aC,aE,r1,r2,aF,r13,an⟩;have bR:=aK _ _ ay bS ac;have bJ:H'.get H.y=some (.C (lis.flatMap liC) 130):=by rw[ac.get _ (ay.lt aL)];exact aL
 simp only[Qb,simprocAttr,r13,an];refine Qg (λh2=>?_) (λh2=>?_)
 ·have h2:i<6:=by have:=Lg h2;omega
  have aw:lis[i]? = some (lis[i]'h2):=La h2;generalize cw:lis[i]'h2=x at aw;have bZ:x∈lis:=Ln aw;have bA:(0:Int)<=i∧(i:Int)<((6:Nat):Int):=by omega
  have bB:(i:Int).toNat=i:=by omega
  have bC:i * 3+3<=18:=by omega
  have cc:(lis.flatMap liC).length=18:=rfl;obtain⟨ao,ap,aq⟩:=x;have d1:List.take 3 (List.drop (i * 3) (lis.flatMap liC))=[.Z ao,.Z ap,.func (.func aq) #[] #[]]:=QEa lis i _ aw;have aJ:IntKind.i64.wrap ((i:Int)+1)=((i+1:Nat):Int):=by rw[w64 (by unfold I64;omega)];omega
  simp only[sxA,sxB,Nat.reduceBEq,Nat.reduceEqDiff,reduceCtorEq,mxA,mxB,Nat.reduceAdd,reduceIte,Nat.reduceLeDiff,splice,Qtu,r1,aF,an,bA,bB,bC,bJ,cc,d1];have bz:lis.take (i+1)=lis.take i++[(ao,ap,aq)]:=by rw[Nv,aw];rfl
  obtain⟨aV,e1⟩:∃c,decide (ae<ao)=c:=⟨_,rfl⟩;obtain⟨q2,e2⟩:∃c,decide (fr>ap)=c:=⟨_,rfl⟩;obtain⟨Hn,aj⟩:∃h,h=(H'.push (.C [.Z 0,.Z 0,.nilFunc] 130)).set H'.y (.C [.Z ao,.Z ap,.func (.func aq) #[] #[]] 130):=⟨_,rfl⟩;have aO:Hn.Wf:=by rw[aj];exact(ag.push _).set (by rw[Qc,Lc rfl]) _
  have ad:Ext H' Hn:=by rw[aj];exact((Ext.refl H').push _).set (Lb _) _
  have bq:Hn.get H'.y=some (.C [.Z ao,.Z ap,.func (.func aq) #[] #[]] 130):=by rw[aj,Qj,Lc rfl]
  have cv:Hn.y=H'.y+1:=by rw[aj];rfl
  simp only[<- aj];have bx:(aV||q2)=true->ys.map (·.f)=Qga LL fr ae p (lis.take (i+1)):=λh=>by
   rw[bz,Qga,Bm,<- Qga,<- aS];simp[e1,e2,h]
  have bH:(aV||q2)=false->ys.map (·.f)++(LL aq).filter p=Qga LL fr ae p (lis.take (i+1)):=λh=>by
   rw[bz,Qga,Bm,<- Qga,<- aS];simp[e1,e2,h]
  cases aV<;>simp only[Qb,simprocAttr,aE,an,e1,e2,aJ,bq]
  ·cases q2<;>simp only[Qb,simprocAttr,an,aJ,bq,Qsn]
   ·refine(bE _ bZ Hn (aK _ _ ag bR ad)).w ?_;rintro u H2 cr bU ⟨b7,xs,ca,bm,cz,bY⟩;have bo:=bm.fms;have bK:∀a l c,u=.slice (some a) l c->Hn.y<=a.block:=λa l c e=>by
     rcases bm with⟨rfl,_⟩ | ⟨b,rfl,am,_⟩;·cases e
     cases e;exact am
    obtain⟨aI,cap,rfl,cx⟩:=id bo.1;simp only[Qb,simprocAttr];have bG:=(ak.ext ag ad).ext aO b7;have bV:Ext Hp H2:=(ac.trans ad).trans b7;have bM:H.y<=Hn.y:=by have:=ac.y;have:=ad.y;omega
    refine Qu (λm A2 H3=>∃ (k:Nat) (zs:List Lf),k<=xs.length∧m=xs.length - k∧H3.Wf∧Ext Hp H3∧zs.map (·.f)=ys.map (·.f)++((xs.take k).map (·.f)).filter p∧zs.length<=ys.length+k∧Acc Hp H3 (A2 7) zs∧Qk9 H3 (.slice aI xs.length cap) xs∧(∀z∈zs,z.Fr H.y)∧
     (∀a l c b,A2 7=.slice (some a) l c->aI=some b->b.block≠a.block)∧
     A2 0=.Z fr∧A2 1=.Z ae∧A2 2=.func (.func bh) #[] bi.toArray∧A2 12=.S H.y 6 6∧A2 13=.Z 6∧A2 14=.Z i∧A2 30=.slice aI xs.length cap∧A2 31=.Z xs.length∧A2 32=.Z k) xs.length ?_ ?_
    ·refine⟨0,ys,L7 _,rfl,bU,bV,by simp,by omega,?_,bo,aC,?_,?_,?_,?_,?_,?_,?_,?_,?_,?_⟩
     all_goals simp only[Qd,simprocAttr,aE,r1,r2,aF,r13,an]
     ·exact bG
     ·intro a l c b q am;subst am;have ar:=bK _ _ _ rfl;rcases ak with⟨h,_⟩ | ⟨b2,h,_,aa,_⟩;·rw[h]at q;cases q
      rw[h]at q;cases q;have:=ag.lt aa;simp only;omega
     all_goals rfl
    rintro m A2 H3 ⟨k,zs,cp,rfl,ab,aA,aU,c2,au,aM,aT,bu,aW,s1,s2,aX,aY,aZ,ba,bc,aG⟩;simp only[Qb,simprocAttr,bc,aG];refine Qg (λaa=>?_) (λaa=>?_)
    ·have aa:k<xs.length:=by have:=Lg aa;omega
     obtain⟨⟨a4,cm,e4,bP⟩,bX⟩:=id aM;cases e4;obtain⟨b1,co,c4,rfl,bn⟩:=bP (by omega);have d1:(0:Int)<=k∧(k:Int)<xs.length:=by omega
     have d3:(k:Int).toNat=k:=by omega
     have d4:k * 10+10<=xs.length * 10:=by omega
     have bg:IntKind.i64.wrap ((k:Int)+1)=((k+1:Nat):Int):=by rw[w64 (by unfold I64;omega)];omega
     have bw:=La aa;have bd:=QaT xs k _ bw;have ce:=XR xs;have aR:xs[k]∈xs:=Nb aa;have aH:=bX _ aR;have wf:(xs[k]).Fr H.y:=(bY _ aR).mono bM;have b8:xs.take (k+1)=xs.take k++[xs[k]]:=NM aa;generalize xs[k]=x at bw bd aR aH wf b8;have b9:=Y8 aH;simp only[Qb,simprocAttr,s2,ba,aG,d1,d3,d4,bn,ce,bd,Qw,Wj,b9];obtain⟨G1,ai⟩:∃h,h=(H3.push (.C [.Z 0,.slice none 0 0,.slice none 0 0,.Z 0,.Z 0,.Z 0,.Z 0,.Z 0,.bool false,.Z 0] 57)).set H3.y (.C x.cells 57):=⟨_,rfl⟩;have cy:G1.Wf:=by rw[ai];exact(ab.push _).set (by rw[Qc,Lc rfl]) _
     have aQ:Ext H3 G1:=by rw[ai];exact((Ext.refl H3).push _).set (Lb _) _
     have bL:G1.get H3.y=some (.C x.cells 57):=by rw[ai,Qj,Lc rfl]
     have ct:G1.y=H3.y+1:=by rw[ai];rfl
     simp only[<- ai,Qzd];have bW:Ext H H3:=aB.trans aA;refine(aN x G1 (bW.trans aQ) (aH.ext ab aQ)).w ?_;rintro _ G2 br az ⟨rfl,m4,rfl⟩;simp only[Q8]at br;have ah:Ext H3 (G1.up m4):=aQ.up br;have bp:(G1.up m4).get H3.y=some (.C x.cells 57):=by rw[XB];exact bL
     have bN:H3.y+1<=(G1.up m4).y:=by simp only[Q8];omega
     generalize G1.up m4=G2 at az ah bp bN;have av:((xs.take (k+1)).map (·.f)).filter p=((xs.take k).map (·.f)).filter p++bif p x.f then[x.f] else[]:=by
      rw[b8,N6,Re];cases ax:p x.f<;>simp[ax]
     simp only[Qb,simprocAttr];cases ax:p x.f
     ·rw[ax]at av;simp only[Qb,simprocAttr,aG,bg];refine⟨xs.length - (k+1),by omega,k+1,zs,by omega,rfl,az,aA.trans ah,by rw[av,aU];simp,by omega,?_,aM.ext ab ah,aT,?_,?_,?_,?_,?_,?_,?_,?_,?_,?_⟩
      all_goals simp only[Qd,simprocAttr,aW,s1,s2,aX,aY,aZ,ba,bc]
      ·exact au.ext ab ah
      exact λa l c b ar h2=>bu a l c b ar (by rw[h2])
     rw[ax]at av;simp only[Qb,simprocAttr,bp,Qw,Wj];have bj:=(au.ext ab ah).ext az ((Ext.refl G2).push (.C x.cells 57));have aP:Ext H3 (G2.push (.C x.cells 57)):=ah.push _;have bI:=aM.ext ab aP;refine Acc.app bj (aA.trans aP) (az.push _) (aH.ext ab aP) (by omega) (by rw[Qc,Lc rfl]) (λa l c q e=>?_) λc5 H6 cf cg c6 ch ci cj=>?_
     ·rcases au with⟨h,_⟩ | ⟨b2,h,_,bD,_⟩;·rw[h]at q;cases q
      rw[h]at q;cases q;have:=ab.lt bD;simp only at e;omega
     simp only[Qb,simprocAttr,aG,bg];refine⟨xs.length - (k+1),by omega,k+1,zs++[x],by omega,rfl,cg,cf,by rw[av,N6,aU];simp,by simp;omega,?_,cj.fms bj bI λa l c cl c3 c' bF q=>?_,?_,?_,?_,?_,?_,?_,?_,?_,?_,?_,?_⟩
     rotate_left 2
     ·intro z aD;simp only[LI,Sa]at aD;rcases aD with aD | rfl;·exact aT z aD
      exact wf
     ·intro a l c b q am;cases am;simp only[Qd,simprocAttr]at q;have ar:=ci a l c q;have h2:=ab.lt bn;simp only[Qf]at ar;simp only;omega
     rotate_right 2
     ·simp only[Qd,simprocAttr];exact ch
     ·cases bF;exact bu _ _ _ _ q rfl
     all_goals simp only[Qd,simprocAttr,aW,s1,s2,aX,aY,aZ,ba,bc]
    have aa:k=xs.length:=by have:=Ll aa;omega
    subst aa;simp only[Qb,simprocAttr,aZ,aJ];refine⟨6 - (i+1),by omega,i+1,zs,by omega,rfl,ab,aA,?_,by omega,?_,aT,?_,?_,?_,?_,?_,?_⟩;·rw[<- bH rfl,aU,LF (Lb _),ca]
    all_goals simp only[Qd,simprocAttr,aW,s1,s2,aX,aY]
    exact au
   refine⟨6 - (i+1),by omega,i+1,ys,by omega,rfl,aO,ac.trans ad,bx rfl,by omega,?_,aC,?_,?_,?_,?_,?_,?_⟩
   all_goals simp only[Qd,simprocAttr,aE,r1,r2,aF,r13]
   exact ak.ext ag ad
  refine⟨6 - (i+1),by omega,i+1,ys,by omega,rfl,aO,ac.trans ad,bx rfl,by omega,?_,aC,?_,?_,?_,?_,?_,?_⟩
  all_goals simp only[Qd,simprocAttr,aE,r1,r2,aF,r13]
  exact ak.ext ag ad
 have h2:i=6:=by have:=Ll h2;omega
 subst h2;simp only[Qb,simprocAttr,Qkm];exact .mk (by have:=ac.y;omega) ⟨aB.trans ac,ys,aS,ak.mono (by omega),by omega,aC⟩
def iI (k:Nat):Int:=bif Nat.beq k 0 then .negSucc 0 else .ofNat (k - 1)
def mkF (op pre mp code dg w vx l:Nat)(q sl:List Nat):Fm:=⟨.ofNat op,.ofNat pre,.ofNat mp,.ofNat code,iI dg,iI w,.ofNat l,Nat.beq vx 1,q.map .ofNat,sl.map .ofNat⟩
def QlN (v:Value)(n:Int):Bool:=match v with | .Z m=>Qdi 8 (.Z m) (.Z n) | _=>false
def QbY {v:Value}{n:Int}(h:QlN v n=true):v=.Z n:=by
 unfold QlN at h;split at h;·exact Qcd 8 _ _ h
 cases h
def Qyt (v:Value)(b:Bool):Bool:=match v with | .bool c=>(bif c then b else !b) | _=>false
def QBA {v:Value}{b:Bool}(h:Qyt v b=true):v=.bool b:=by
 unfold Qyt at h;split at h;·rename_i c;cases c<;>cases b<;>first | rfl | cases h
 cases h
def QJk (n c:Nat):Bool:=Nat.beq c (UNK+1)||(Nat.ble n c&&Nat.ble (c+1) UNK)
def QGI {n c:Nat}(h:QJk n c=true):QvC n c:=by
 simp only[QJk,Nw,Lm,Zw,Lv,BL]at h;rcases h with h | ⟨q,aa⟩;·exact .inl h
 exact .inr ⟨q,aa⟩
def QGJ (G:Nat)(rs:List Row)(v:Value)(l:List Int):Bool:=match l with
 | []=>Qdi 8 v (.slice none 0 0)
 | _::_=>match v with
  | .slice (some a) n c=>Nat.ble G a.block&&(Nat.beq a.off 0&&(Qmz a&&(Nat.beq n l.length&&(Nat.ble n 1000&&(QJk n c&&(match rs[a.block - G]? with | some r=>GU (Qdi 8) r.c (ints l) | none=>false))))))
  | _=>false
def QGK (G:Nat)(rs:List Row):List Value->List Fm->Bool
 | [],[]=>true
 | a0::a1::a2::a3::a4::a5::a6::a7::a8::a9::cs,x::xs=>QlN a0 x.op&&(QGJ G rs a1 x.shapes&&(QGJ G rs a2 x.slots&&(QlN a3 x.pre&&(QlN a4 x.map&&(QlN a5 x.code&&(QlN a6 x.digit&&(QlN a7 x.w&&(Qyt a8 x.vex&&(QlN a9 x.l&&QGK G rs cs xs)))))))))
 | _,_=>false
def QGL (G:Nat)(rs:List Row)(u:Value)(L:List Fm):Bool:=match u with
 | .slice (some a) n c=>Nat.ble G a.block&&(Nat.beq a.off 0&&(Qmz a&&(Nat.beq n L.length&&(Nat.ble n 1000&&(Nat.ble 1 n&&(Nat.beq c (UNK+10)&&(match rs[a.block - G]? with | some r=>Nat.beq r.e 57&&(!r.ro&&QGK G rs r.c L) | none=>false)))))))
 | _=>false
def QsL {a:Addr}(h:Qmz a=true):a.spot=none:=by
 unfold Qmz at h;split at h;·assumption
 cases h
section
variable {τ:Nat->Nat} {G:Nat} {rs:List Row} {H:Qa}
def QEb {b:Nat}(h:G<=b):shM τ G H.y b=H.y+(b - G):=by
 unfold shM;rw[QhH];simp[show ¬b<G by omega]
def QEc (q:Nat->Nat)(l:List Int):(ints l).map (shW q 6)=ints l:=by
 unfold ints;rw[Ht];exact DC λx _=>Qsj q 6 _ rfl
def QzS {v:Value}{l:List Int}(h:QGJ G rs v l=true):l.length<=1000∧VM (Gz (shM τ G H.y) rs H) (shW (shM τ G H.y) 6 v) l.length (ints l)∧SlF H.y (shW (shM τ G H.y) 6 v) l:=by
 cases l with
 | nil=>
  have:=Qcd 8 _ _ (show Qdi 8 v (.slice none 0 0)=true from h);subst this;exact⟨by simp,⟨none,0,rfl,λh=>by simp at h⟩,.inl ⟨rfl,rfl⟩⟩
 | cons x l=>
  unfold QGJ at h;simp only at h;split at h
  ·rename_i a n cap;simp only[Lm,Zw,Lv,BL]at h;obtain⟨ad,ae,ab,ag,ah,ai,aa⟩:=h;split at aa
   ·rename_i r ac;have aa:=Qkb (Qcd 8) _ _ aa;obtain⟨q,aj,ak⟩:=a
    replace ab:=QsL ab
    simp only at ad ae ab ac;subst ae;subst ab;subst ag;have am:=(Lk.1 ac).1;have e1:shW (shM τ G H.y) 6 (.S q (x::l).length cap)=.slice (some ⟨H.y+(q - G),0,none⟩) (x::l).length cap:=by
     show Value.S (shM τ G H.y q) _ _=_;rw[QEb ad]
    rw[e1];refine⟨ah,⟨_,_,rfl,λ_=>⟨H.y+(q - G),r.e,r.ro,rfl,?_⟩⟩,.inr ⟨by simp,_,_,rfl,by omega,QGI ai⟩⟩;rw[QdN,Lc ⟨by omega,by omega⟩,show H.y+(q - G) - H.y=q - G by omega,ac];show some (Blk.cells (r.c.map (shW (shM τ G H.y) 6)) r.e r.ro)=_;rw[aa,QEc]
   cases aa
  cases h
def QzT:∀ (cs:List Value) (L:List Fm),QGK G rs cs L=true->∃xs:List Lf,xs.map (·.f)=L∧cs.map (shW (shM τ G H.y) 6)=WP xs∧∀x∈xs,x.At (Gz (shM τ G H.y) rs H)∧x.Fr H.y
 | [],[],_=>⟨[],rfl,rfl,λx h=>by cases h⟩
 | a0::a1::a2::a3::a4::a5::a6::a7::a8::a9::cs,x::L,h=>by
  simp only[QGK,Lm]at h;obtain⟨aa,ab,ac,ad,ae,ag,ah,ai,aj,ak,am⟩:=h;obtain⟨xs,e1,e2,e3⟩:=QzT cs L am;have an:=QbY aa;have ao:=QbY ad;have ap:=QbY ae;have aq:=QbY ag;have ar:=QbY ah;have au:=QbY ai;have av:=QBA aj;have aw:=QbY ak;subst an ao ap aq ar au av aw;obtain⟨s1,s2,s3⟩:=QzS (τ:=τ) (H:=H) ab;obtain⟨t1,t2,ax⟩:=QzS (τ:=τ) (H:=H) ac;refine⟨⟨x,shW (shM τ G H.y) 6 a1,shW (shM τ G H.y) 6 a2⟩::xs,by simp[e1],?_,λy q=>?_⟩
  rotate_left
  ·rcases LK.1 q with rfl | q;·exact⟨⟨s1,t1,s2,t2⟩,s3,ax⟩
   exact e3 y q
  simp only[NZ,e2,WP,Ba,Lf.cells,Nm,LH];rfl
def QGM {u:Value}{L:List Fm}(h:QGL G rs u L=true):∃xs:List Lf,xs.map (·.f)=L∧Acc H (Gz (shM τ G H.y) rs H) (shW (shM τ G H.y) 6 u) xs∧xs.length<=1000∧∀x∈xs,x.Fr H.y:=by
 unfold QGL at h;split at h
 ·rename_i a n cap;simp only[Lm,Zw,Lv,BL]at h;obtain⟨ad,ae,ab,aj,ak,ag,am,q⟩:=h;split at q
  ·rename_i r ac;simp only[Lm,Lv,Lr]at q;obtain⟨an,ai,q⟩:=q;subst am;obtain⟨xs,e1,e2,e3⟩:=QzT (τ:=τ) (H:=H) _ _ q;obtain⟨aa,ap,aq⟩:=a
   replace ab:=QsL ab
   simp only at ad ae ab ac;subst ae;subst ab;have ao:n=xs.length:=by rw[aj,<- e1];simp
   subst ao;have ar:=(Lk.1 ac).1;have ah:shW (shM τ G H.y) 6 (.S aa xs.length (UNK+10))=.slice (some ⟨H.y+(aa - G),0,none⟩) xs.length (UNK+10):=by
    show Value.S (shM τ G H.y aa) _ _=_;rw[QEb ad]
   rw[ah];refine⟨xs,e1,.inr ⟨_,rfl,by omega,?_,λh=>?_,λx hx=>(e3 x hx).1⟩,ak,λx hx=>(e3 x hx).2⟩;·rw[QdN,Lc ⟨by omega,by omega⟩,show H.y+(aa - G) - H.y=aa - G by omega,ac];show some (Blk.cells (r.c.map (shW (shM τ G H.y) 6)) r.e r.ro)=_;rw[e2,an,ai]
   rw[h]at ag;simp at ag
  cases q
 cases h
end
def QBB {q:Nat->Nat}(rs:List Row)(H:Qa):Ext H (Gz q rs H):=⟨by rw[QeE];omega,λid aa=>by rw[QdN,Le (by omega)]⟩
def QwC {q:Nat->Nat}:∀ (rs:List Row) (H:Qa),H.Wf->(Gz q rs H).Wf
 | [],H,h=>h
 | r::rs,H,h=>QwC rs _ (h.push _)
def Qe6 (tabs:List Tab)(H:Qa):Prop:=QjG tabs H=true
def QlO {tabs:List Tab}(H H':Qa)(ac:H.Wf)(h:Qe6 tabs H)(hx:Ext H H'):Qe6 tabs H':=by
 unfold Qe6 QjG at *;rw[Li]at *;intro t ab;have q:=h t ab;cases aa:H.get t.id with
 | none=>rw[aa]at q;cases q
 | some b=>rw[hx.get _ (ac.lt aa)];exact q
def Qum {tabs:List Tab}(aj:tabsOk tabs=true)(ak:∀t∈tabs,t.id<Pg.globals.size){s:SumI}(aa:SumIOk Pg tabs s)(ah:s.args=[])(hi:s.ins=[]){L:List Fm}(ai:QGL Pg.globals.size s.rs s.u L=true):Qha (Qe6 tabs) s.f L:=by
 intro H ag am;have q:=aa.does aj (args:=[]) (H:=H) (τ:=λn=>n) (λ_ _=>rfl) ak ag (by rw[hi];rfl) (by rw[ah];rfl);rw[hi]at q;obtain⟨xs,ab,ac,ad,ae⟩:=QGM (τ:=λn=>n) (H:=H) ai;exact⟨_,_,.inl ⟨aa.1,q⟩,by rw[QeE];exact Ro _ _,QwC _ _ am,QBB _ _,xs,ab,ac,ad,ae⟩
def QzU (G:Nat)(f:FuncId)(L:List Fm):List SumI->Bool
 | s::_=>Nat.beq s.f f&&(s.args.isEmpty&&(s.ins.isEmpty&&QGL G s.rs s.u L))
 | []=>false
def Zu {tabs:List Tab}(ae:tabsOk tabs=true)(ag:∀t∈tabs,t.id<Pg.globals.size){l:List SumI}(ad:∀s∈l,SumIOk Pg tabs s){f:FuncId}{L:List Fm}(h:QzU Pg.globals.size f L l=true):Qha (Qe6 tabs) f L:=by
 cases l with
 | nil=>cases h
 | cons s l=>
  simp only[QzU,Lm,Zw,Lv,DF]at h;obtain⟨q,aa,ab,ac⟩:=h;rw[<- q];exact Qum ae ag (ad s (Ny ..)) aa ab ac
def QqV (x:Lf)(H:Qa)(hx:x.At H):Qe Pg 53 [.agg x.cells.toArray] H λu H'=>u=.bool true∧∃m,H'=H.up m:=by
 refine QnZ λq=>?_;simp only[Qfa,Qb,simprocAttr,Qmh];exact .ext q ((Ext.refl H).push _) ⟨rfl,_,rfl⟩
def QuF (x:Lf)(op:Int)(b:Nat)(H:Qa){e:TypeId}{ro:Bool}(q:H.get b=some (.cells [.Z op] e ro))(hx:x.At H):Qe Pg 52 [.agg x.cells.toArray,.P b] H λu H'=>u=.bool (x.f.op==op)∧∃m,H'=H.up m:=by
 refine Qq8 λaa=>?_;have ac:=aa.lt q;have ab:¬b=H.y:=by omega
 simp only[Lf.cells,Qif,Qb,simprocAttr,ab,q,Qps];exact .ext aa ((Ext.refl H).push _) ⟨rfl,_,rfl⟩
section
variable {T:Qa->Prop} (hT:∀H H',H.Wf->T H->Ext H H'->T H') (LL:FuncId->List Fm) (hL:∀x∈lis,Qha T x.2.2 (LL x.2.2))
include hT hL
def QuG (H:Qa)(ab:T H):Qe Pg 32 [] H λu H'=>QdY H H' u (Qga LL 1 322 (λ_=>true) lis):=by
 refine Qq7 λac=>?_;simp only[Qie,Qb,simprocAttr];refine(QfS hT LL hL 1 322 _ (λ_=>true) H ⟨53,[],rfl,λx H' hx q=>QqV x H' q⟩ ab).w ?_;rintro u H' aa ad h;simp only[Qb,simprocAttr,Qpq];exact .mk aa h
def QyO (op:Int)(H:Qa)(aj:T H):Qe Pg 31 [.Z op] H λu H'=>QdY H H' u (Qga LL op op (λf=>f.op==op) lis):=by
 refine Qvn λab=>?_;simp only[Qnu,Qb,simprocAttr];have q:Ext H (H.push (.C [.Z op] 3)):=(Ext.refl H).push _;have aa:(H.push (.C [.Z op] 3)).get H.y=some (.C [.Z op] 3):=by rw[Qc,Lc rfl]
 have ac:=ab.push (.C [.Z op] 3);generalize H.push (.C [.Z op] 3)=H1 at q aa ac;refine(QfS hT LL hL op op (.func (.func 52) #[] [.P H.y].toArray) (λf=>f.op==op) H1 ⟨52,[.P H.y],rfl,λx H' hx ai=>QuF x op H.y H' (e:=3) (ro:=false) (by rw[hx.get _ (ac.lt aa)];exact aa) ai⟩ (hT _ _ ab aj q)).w ?_;rintro u H' am an ⟨hx,ys,ad,ae,ag,ah⟩;simp only[Qb,simprocAttr,Qtd];exact .mk (q.trans hx).y ⟨q.trans hx,ys,ad,ae.mono q.y,ag,λy ak=>(ah y ak).mono q.y⟩
end
/-! ### As known calls -/
def QEh (LL:FuncId->List Fm)(p:Fm->Bool):Qga LL 1 322 p lis=(Qga LL 1 322 (λ_=>true) lis).filter p:=by
 simp[Qga,lis]
def QEk:Bool:=match Pg.underlying 81 with
 | some (.map k e)=>(match Pg.underlying k,Pg.info? e with
  | some (.int _),some inf=>(match inf.zero with | some (.pointer none)=>true | _=>false)
  | _,_=>false)
 | _=>false
def QEl (h:QEk=true):QiN 81:=by
 unfold QEk at h;split at h
 ·rename_i k e q;split at h
  ·rename_i ik ad aa ab;split at h;·rename_i ac;exact⟨⟨k,e,_,ad,q,aa,ab,ac,λc=>rfl⟩⟩
   cases h
  cases h
 cases h
