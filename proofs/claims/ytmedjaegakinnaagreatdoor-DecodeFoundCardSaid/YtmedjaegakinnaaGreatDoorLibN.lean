/- Whether two forms meet, in plain Lean. -/
import Derived.Test.YtmedjaegakinnaaGreatDoorLibA
import Derived.Test.YtmedjaegakinnaaGreatDoorC4Shape
import Derived.Test.YtmedjaegakinnaaGreatDoorLibB
set_option maxHeartbeats 4000000
set_option linter.defProp false
set_option linter.unusedVariables false
set_option linter.unusedSimpArgs false
set_option maxRecDepth 100000
namespace Go.Proofs.YtmedjaegakinnaaGreatDoor.code
open Go.Ab
def QIs (c:Int):Int:=IntKind.i64.wrap (BitVec.ofInt IntKind.i64.bits c &&& ~~~BitVec.ofInt IntKind.i64.bits 7).toNat
def QoI (f:Fm)(c:Int):Int:=bif decide (0<=Qh f.slots 4) then QIs c else c
def QFP (x:BitVec 64):x &&& ~~~(BitVec.ofInt 64 7)=(x >>> 3) <<< 3:=by
 have aa:∀i:Fin 64,(BitVec.ofInt 64 7).getLsbD i.1=decide (i.1<3):=by decide
 apply BitVec.eq_of_getLsbD_eq;intro i hi;have:=aa ⟨i,hi⟩;simp only[BitVec.getLsbD_and,BitVec.getLsbD_not,BitVec.getLsbD_shiftLeft,BitVec.getLsbD_ushiftRight,this,hi,Nf,LJ]
 by_cases q:i<3;·simp[q]
 simp[q,show 3+(i - 3)=i by omega]
def Qlw (c:Int)(h:I64 c):QIs c=c - c % 8:=by
 unfold QIs;show IntKind.i64.wrap ((BitVec.ofInt 64 c &&& ~~~BitVec.ofInt 64 7).toNat:Nat)=_;rw[QFP,NU];unfold I64 at h;simp only[BitVec.toNat_shiftLeft,BitVec.toNat_ushiftRight,B7,Nat.shiftLeft_eq,Nat.shiftRight_eq_div_pow];omega
def Qx8 (a b:Fm):Bool:=let c:=bif decide (0<=Qh a.slots 4) then b.code else a.code;(a.code==QoI a c)&&(b.code==QoI b c)
def Qd7 (f:Fm):Int:=if 0<=Qh f.slots 2∧Qh f.slots 2<f.shapes.length then f.shapes.getD (Qh f.slots 2).toNat 0 else 0
def Qoj (f:Fm):Bool:=decide (1<=Qd7 f)&&decide (Qd7 f<=6)
def Qok (f:Fm):Bool:=(decide (15<=Qd7 f)&&decide (Qd7 f<=19))||(Qd7 f==34)
def Qlx (a b:Fm):Bool:=
 (a.vex==b.vex)&&(a.pre==b.pre)&&(a.map==b.map)&&(a.l==b.l) &&
 !((!(a.w==b.w)&&!(a.w==-1)&&!(b.w==-1))||!Qx8 a b) &&
 ((!decide (0<=Qh a.slots 2)||!decide (0<=Qh b.slots 2)) ||
  (!(decide (0<=a.digit)&&decide (0<=b.digit)&&!(a.digit==b.digit))&&!((Qoj a&&Qok b)||(Qok a&&Qoj b))))
def opV (o:Int):Bool:=decide (1<=o)&&decide (o<=322)
def QKe (o:Int)(H:Qa):Qe Pg 41 [.Z o] H λu H'=>u=.bool (opV o)∧H'=H:=by
 refine QiI λq=>?_;simp(disch:=(try simp only[hnP])<;>try omega) only[Qc6,QE,simprocAttr]
 repeat' (first
   | (refine Qz (λh=>?_) (λh=>?_)<;>(try simp only[Lr,Lu]at h)<;>simp(disch:=(try simp only[hnP])<;>try omega) only[QE,simprocAttr,QbC,h])
   | fail)
 all_goals refine .mk (Lb _) ⟨?_,rfl⟩
 all_goals (simp_all [opV]<;>omega)
def QaC (q sl:Int):Bool:=
 if sl=6 then decide (28<=q)&&decide (q<=33) else if sl=5 then decide (20<=q)&&decide (q<=27)
 else if sl=1∨sl=3∨sl=4∨sl=7 then decide (1<=q)&&decide (q<=6) else if sl=2 then(decide (1<=q)&&decide (q<=19))||(q==34) else false
def Qt2 (q sl:Int)(H:Qa):Qe Pg 250 [.Z q,.Z sl] H λu H'=>u=.bool (QaC q sl)∧H'=H:=by
 refine QrK λaa=>?_;simp(disch:=(try simp only[hnP])<;>try omega) only[QiX,QfM,QfN,QfO,QfP,QfQ,QE,simprocAttr]
 repeat' (first
   | (refine Qz (λh=>?_) (λh=>?_)<;>(try simp only[Lr,Lu]at h)<;>simp(disch:=(try simp only[hnP])<;>try omega) only[QE,simprocAttr,Qhv,h])
   | (refine Qg (λh=>?_) (λh=>?_)<;>(try simp only[Lr,Lu]at h)<;>simp(disch:=(try simp only[hnP])<;>try omega) only[QE,simprocAttr,Qhv,h])
   | fail)
 all_goals refine .mk (Lb _) ⟨?_,rfl⟩
 all_goals (simp only[L0,Lv,NY,LC,Da]at *)
 all_goals (unfold QaC;simp_all<;>omega)
def QqK (c:Int):Bool:=(decide (64<=c)&&decide (c<=79))||(c==15)||(c==102)||(c==196)||(c==197)||(c==242)||(c==243)
def QrL (c:Int)(H:Qa):Qe Pg 189 [.Z c] H λu H'=>u=.bool (QqK c)∧H'=H:=by
 refine QqJ λq=>?_;simp(disch:=(try simp only[hnP])<;>try omega) only[Qhu,QE,simprocAttr]
 repeat' (first
   | (refine Qz (λh=>?_) (λh=>?_)<;>(try simp only[Lr,Lu]at h)<;>simp(disch:=(try simp only[hnP])<;>try omega) only[QE,simprocAttr,QfL,h])
   | (refine Qg (λh=>?_) (λh=>?_)<;>(try simp only[Lr,Lu]at h)<;>simp(disch:=(try simp only[hnP])<;>try omega) only[QE,simprocAttr,QfL,h])
   | fail)
 all_goals refine .mk (Lb _) ⟨?_,rfl⟩
 all_goals (simp only[QqK];simp_all<;>omega)
def QDE (H:Qa)(v:Value)(l:List Int):Prop:=∃a cap,v=.slice a l.length cap∧(0<l.length->∃b e ro cs,a=some ⟨b,0,none⟩∧H.get b=some (.cells cs e ro)∧∀j,j<l.length->cs[j]? = some (.Z (l.getD j 0)))
def Qwj (va:Value)(xs:List Int)(x:Int)(H:Qa)(am:QDE H va xs)(ar:xs.length<=1000):Qe Pg 78 [va,.Z x] H λu H'=>u=.Z (Qh xs x)∧H'=H:=by
 refine KU λau=>?_;obtain⟨ae,ag,rfl,ap⟩:=am;simp only[YL,Qb,simprocAttr];refine Qu (λm A' H'=>∃i:Nat,i<=xs.length∧m=xs.length - i∧H'=H∧(∀j,j<i->¬x=xs.getD j 0)∧A' 0=.slice ae xs.length ag∧A' 1=.Z x∧A' 7=.Z (xs.length:Int)∧A' 8=.Z i) xs.length ?_ ?_
 ·refine⟨0,L7 _,by omega,rfl,λj h=>by omega,?_,?_,?_,?_⟩
  all_goals simp only[uxA,uxB,Nat.reduceBEq]
  rfl
 rintro m A' H' ⟨i,hi,rfl,ak,ab,ac,r1,ad,r8⟩;subst ak;simp only[Qb,simprocAttr,ad,r8];refine Qg (λq=>?_) (λq=>?_)
 ·have q:i<xs.length:=by have:=Lg q;omega
  obtain⟨b1,e1,av,cs,rfl,an,ao⟩:=ap (by omega);have ah:(0:Int)<=i∧(i:Int)<xs.length:=by omega
  have ai:(i:Int).toNat=i:=by omega
  have aj:IntKind.i64.wrap ((i:Int)+1)=((i+1:Nat):Int):=by rw[w64 (by unfold I64;omega)];omega
  have g1:=ao i q;simp only[Qb,simprocAttr,ac,r1,r8,ah,ai,an,g1];refine Qg (λaa=>?_) (λaa=>?_)
  ·have aa:x=xs.getD i 0:=by simpa using aa
   simp only[Qb,simprocAttr,Xn];exact .mk (Lb _) ⟨by rw[Qh,Qla x xs 0 i ab q aa,LP],rfl⟩
  have aa:¬x=xs.getD i 0:=by simpa using aa
  simp only[Qb,simprocAttr,r8,aj];refine⟨xs.length - (i+1),by omega,i+1,by omega,rfl,rfl,λj aq=>?_,?_,?_,?_,?_⟩
  ·rcases Nq j i with h | h;·exact ab j h
   rw[show j=i by omega];exact aa
  all_goals simp only[Qd,simprocAttr,ac,r1,ad]
 have q:i=xs.length:=by have:=Ll q;omega
 subst q;simp only[Qb,simprocAttr,Xn];exact .mk (Lb _) ⟨by rw[Qh,QpT x xs 0 ab],rfl⟩
def Qyg (va:Value)(xs:List Int)(x:Int)(H:Qa)(q:QDE H va xs)(aa:xs.length<=1000):Qe Pg 249 [va,.Z x] H λu H'=>u=.bool (decide (0<=Qh xs x))∧H'=H:=by
 refine QbV λab=>?_;simp only[Jo,Qb,simprocAttr];refine(Qwj va xs x H q aa).w ?_;rintro _ _ _ _ ⟨rfl,rfl⟩;simp only[Qb,simprocAttr,QaO];exact .mk (Lb _) ⟨rfl,rfl⟩
def QGa {b len cap i:Nat}(q:QvC len cap)(hi:i<=len):Yh 1 (.S b len cap) none (some (i:Int)) none=some (.S b i cap):=by
 unfold Yh;rcases q with rfl | ⟨aa,ab⟩;·simp only[Br,NB];rw[Lc (Ro _ _),Lc ⟨B0 _,by omega,by omega,trivial⟩];simp
 simp only[Br,NB];rw[Le (by omega),Lc (by omega)];simp
def QmQ (l:List Int)(k:Nat):Bool:=(l.getD k 0==6)||!(decide (0<=Qh (l.take k) (l.getD k 0)))
def QsE (l:List Int):Bool:=(List.range l.length).all (QmQ l)
def GS {n:Nat}{p:Nat->Bool}(h:∀j,j<n->p j=true):(List.range n).all p=true:=by
 rw[Li];intro j q;exact h j (LU.1 q)
def KJ {n i:Nat}{p:Nat->Bool}(hi:i<n)(h:p i=false):(List.range n).all p=false:=by
 rw[List.all_eq_false];exact⟨i,LU.2 hi,by rw[h];decide⟩
def Qt3 (va:Value)(xs:List Int)(H:Qa)(aw:VM H va xs.length (ints xs))(aB:xs.length<=1000)(ax:∀a n c,va=.slice (some a) n c->QvC n c):Qe Pg 187 [va] H λu H'=>u=.bool (QsE xs)∧H'=H:=by
 refine QrJ λaC=>?_;obtain⟨ai,ab,rfl,ay⟩:=aw;simp only[QiW,Qb,simprocAttr];refine Qu (λm A' H'=>∃i:Nat,i<=xs.length∧m=xs.length - i∧H'=H∧(∀j,j<i->QmQ xs j=true)∧A' 0=.slice ai xs.length ab∧A' 5=.slice ai xs.length ab∧A' 6=.Z (xs.length:Int)∧A' 7=.Z i) xs.length ?_ ?_
 ·refine⟨0,L7 _,by omega,rfl,λj h=>by omega,?_,?_,?_,?_⟩
  all_goals simp only[uxA,uxB,Nat.reduceBEq]
  rfl
 rintro m A' H' ⟨i,hi,rfl,av,ak,ae,ag,ah,ac⟩;subst av;simp only[Qb,simprocAttr,ah,ac];refine Qg (λq=>?_) (λq=>?_)
 ·have q:i<xs.length:=by have:=Lg q;omega
  obtain⟨b1,e1,aA,rfl,am⟩:=ay (by omega);have ar:(0:Int)<=i∧(i:Int)<xs.length:=by omega
  have au:(i:Int).toNat=i:=by omega
  have aj:IntKind.i64.wrap ((i:Int)+1)=((i+1:Nat):Int):=by rw[w64 (by unfold I64;omega)];omega
  have g1:=Kd (l:=xs) (i:=i) (by omega);have next:QmQ xs i=true->∀j,j<i+1->QmQ xs j=true:=λh j ad=>by
   rcases Nq j i with h' | h';·exact ak j h'
   rw[show j=i by omega];exact h
  have aa:QmQ xs i=((xs.getD i 0==6)||!(decide (0<=Qh (xs.take i) (xs.getD i 0)))):=rfl;simp only[Qb,simprocAttr,ag,ac,ar,au,am,g1];cases ao:xs.getD i 0==6 with
  | true=>
   rw[ao,N1]at aa;simp only[Qb,simprocAttr,ac,aj];refine⟨xs.length - (i+1),by omega,i+1,by omega,rfl,rfl,next aa,?_,?_,?_,?_⟩
   all_goals simp only[Qd,simprocAttr,ae,ag,ah]
  | false=>
   rw[ao,Nt]at aa;have an:(xs.take i).length=i:=by rw[Sb];omega
   have az:QDE H' (.S b1 i ab) (xs.take i):=⟨some ⟨b1,0,none⟩,ab,by rw[an],λ_=>⟨b1,e1,aA,_,rfl,am,λj ad=>by
    rw[an]at ad;rw[Kd (by omega)];simp[List.getD,ad]⟩⟩
   have aq:=QGa (b:=b1) (ax _ _ _ rfl) (Nat.le_of_lt q);simp only[Qb,simprocAttr,ae,aq];refine(Qyg _ (xs.take i) (xs.getD i 0) H' az (by omega)).w ?_;rintro _ _ _ _ ⟨rfl,rfl⟩;simp only[Qb,simprocAttr];cases ap:decide (0<=Qh (xs.take i) (xs.getD i 0)) with
   | true=>
    rw[ap]at aa;simp only[Qb,simprocAttr,Qht];exact .mk (Lb _) ⟨by rw[QsE,KJ q aa],rfl⟩
   | false=>
    rw[ap]at aa;simp only[Qb,simprocAttr,ac,aj];refine⟨xs.length - (i+1),by omega,i+1,by omega,rfl,rfl,next aa,?_,?_,?_,?_⟩
    all_goals simp only[Qd,simprocAttr,ae,ag,ah]
 have q:i=xs.length:=by have:=Ll q;omega
 subst q;simp only[Qb,simprocAttr,Qht];exact .mk (Lb _) ⟨by rw[QsE,GS ak],rfl⟩
def Qyh (f:Fm)(k:Nat):Bool:=QaC (f.shapes.getD k 0) (f.slots.getD k 0)
def Qej (f:Fm):Bool:=(f.shapes.length==f.slots.length)&&(List.range f.slots.length).all (Qyh f)
def Qoo (x:Lf)(H:Qa)(hx:x.At H):Qe Pg 188 [.agg x.cells.toArray] H λu H'=>u=.bool (Qej x.f)∧∃m,H'=H.up m:=by
 refine QmP λag=>?_;have aq:(Value.agg x.cells.toArray).cells.toList=x.cells:=rfl;have ah:Ext H (H.push (.C x.cells 57)):=(Ext.refl H).push _;have ad:(H.push (.C x.cells 57)).get H.y=some (.C x.cells 57):=by rw[Qc,Lc rfl]
 have az:=ag.push (.C x.cells 57);obtain⟨aC,aD,au,aa⟩:=hx.ext ag ah;obtain⟨a1,ao,e1,s1⟩:=au;obtain⟨a2,ai,e2,s2⟩:=aa;have am:x.cells[1]? = some (.slice a1 x.f.shapes.length ao):=by rw[<- e1];rfl
 have an:x.cells[2]? = some (.slice a2 x.f.slots.length ai):=by rw[<- e2];rfl
 simp only[Qei,aq,Qb,simprocAttr,am,an];generalize aA:H.push (.C x.cells 57)=H0 at ah ad az s1 s2;have ac:∀b,b=Qej x.f->Ret H (λu H'=>u=.bool (Qej x.f)∧∃m,H'=H.up m) (.bool b) H0:=λb aw=>.ext ag ah ⟨by rw[aw],_,rfl⟩
 by_cases ae:x.f.shapes.length=x.f.slots.length
 ·have e0:((x.f.shapes.length:Int)==(x.f.slots.length:Int))=true:=by simp[ae]
  simp only[e0,Qb,simprocAttr,ad,an];refine Qu (λm A' H'=>∃i:Nat,i<=x.f.slots.length∧m=x.f.slots.length - i∧H'=H0∧(∀j,j<i->Qyh x.f j=true)∧A' 1=.P H.y∧A' 13=.slice a2 x.f.slots.length ai∧A' 14=.Z (x.f.slots.length:Int)∧A' 15=.Z i) x.f.slots.length ?_ ?_
  ·refine⟨0,L7 _,by omega,rfl,λj h=>by omega,?_,?_,?_,?_⟩
   all_goals simp only[uxA,uxB,Nat.reduceBEq]
   rfl
  rintro m A' H' ⟨i,hi,rfl,av,aj,r1,r13,ak,r15⟩;subst av;simp only[Qb,simprocAttr,ak,r15];refine Qg (λaa=>?_) (λaa=>?_)
  ·have aa:i<x.f.slots.length:=by have:=Lg aa;omega
   obtain⟨b1,t1,aE,rfl,ax⟩:=s1 (by omega);obtain⟨b2,t2,aF,rfl,ay⟩:=s2 (by omega);have d1:(0:Int)<=i∧(i:Int)<x.f.slots.length:=by omega
   have d2:(0:Int)<=i∧(i:Int)<x.f.shapes.length:=by omega
   have ap:(i:Int).toNat=i:=by omega
   have ar:IntKind.i64.wrap ((i:Int)+1)=((i+1:Nat):Int):=by rw[w64 (by unfold I64;omega)];omega
   have g1:=Kd (l:=x.f.shapes) (i:=i) (by omega);have g2:=Kd (l:=x.f.slots) (i:=i) (by omega);simp only[Qb,simprocAttr,r1,r13,r15,d1,d2,ap,ax,ay,g1,g2,ad,am];refine(Qt2 _ _ _).w ?_;rintro _ _ _ _ ⟨rfl,rfl⟩;have ab:Qyh x.f i=QaC (x.f.shapes.getD i 0) (x.f.slots.getD i 0):=rfl;simp only[Qb,simprocAttr];cases q:QaC (x.f.shapes.getD i 0) (x.f.slots.getD i 0) with
   | false=>
    rw[q]at ab;simp only[Qb,simprocAttr,GR];exact ac _ (by rw[Qej,KJ aa ab,NJ])
   | true=>
    rw[q]at ab;simp only[Qb,simprocAttr,r15,ar];refine⟨x.f.slots.length - (i+1),by omega,i+1,by omega,rfl,rfl,λj aB=>?_,?_,?_,?_,?_⟩
    ·rcases Nq j i with h | h;·exact aj j h
     rw[show j=i by omega];exact ab
    all_goals simp only[Qd,simprocAttr,r1,r13,ak]
  have aa:i=x.f.slots.length:=by have:=Ll aa;omega
  subst aa;simp only[Qb,simprocAttr,GR];exact ac _ (by rw[Qej,GS aj,ae];simp)
 have e0:((x.f.shapes.length:Int)==(x.f.slots.length:Int))=false:=by simp;omega
 simp only[e0,Qb,simprocAttr,GR];exact ac _ (by rw[Qej];simp[ae])
def QqL (f:Fm):Bool:=bif !f.vex then((f.w==0)||(f.w==1))&&(f.l==0)&&decide (Qh f.slots 3<0)&&decide (Qh f.slots 7<0) else((f.pre==0)||(f.pre==1)||(f.pre==2)||(f.pre==4))&&(!(f.map==0))&&decide (-1<=f.w)&&decide (f.w<=1)&&((f.l==0)||(f.l==1))
def QmR (x:Lf)(H:Qa)(hx:x.At H):Qe Pg 186 [.agg x.cells.toArray] H λu H'=>u=.bool (QqL x.f)∧∃m,H'=H.up m:=by
 refine QlH λab=>?_;have ad:=λH' (q:Ext H H')=>QG x 3 H' (hx.ext ab q);have ae:=λH' (q:Ext H H')=>QG x 7 H' (hx.ext ab q);have ac:QqL x.f=bif !x.f.vex then((x.f.w==0)||(x.f.w==1))&&(x.f.l==0)&&decide (Qh x.f.slots 3<0)&&decide (Qh x.f.slots 7<0) else((x.f.pre==0)||(x.f.pre==1)||(x.f.pre==2)||(x.f.pre==4))&&(!(x.f.map==0))&&decide (-1<=x.f.w)&&decide (x.f.w<=1)&&((x.f.l==0)||(x.f.l==1)):=rfl
 rw[ac];clear ac hx;generalize Qh x.f.slots 3=i3 at *;generalize Qh x.f.slots 7=i7 at *;obtain⟨⟨an,ao,am,ai,aj,ar,ak,ag,ap,aq⟩,sv,tv⟩:=x;simp only[Lf.cells]at ad ae ⊢;cases ag
 all_goals simp(disch:=(try simp only[hnP])<;>try omega) only[QcW,W0,W1,W2,W3,QE,simprocAttr]
 all_goals repeat' (first
   | (refine Qz (λh=>?_) (λh=>?_)<;>(try simp only[Lr,Lu]at h)<;>simp(disch:=(try simp only[hnP])<;>try omega) only[W0,W1,W2,W3,QE,simprocAttr,Zi,h])
   | (refine Qg (λh=>?_) (λh=>?_)<;>(try simp only[Lr,Lu]at h)<;>simp(disch:=(try simp only[hnP])<;>try omega) only[W0,W1,W2,W3,QE,simprocAttr,Zi,h])
   | (refine(ad _ (by(repeat' (first | exact Ext.refl _ | refine Ext.push ?_ _ | refine Ext.up ?_ (by simp only[Qf,QR,Q8];omega))))).w ?_;rintro _ _ aa ah ⟨rfl,k,rfl⟩;(try simp only[Qf,Q8,QR]at aa);simp(disch:=(try simp only[hnP])<;>try omega) only[W0,W1,W2,W3,QE,simprocAttr,Zi])
   | (refine(ae _ (by(repeat' (first | exact Ext.refl _ | refine Ext.push ?_ _ | refine Ext.up ?_ (by simp only[Qf,QR,Q8];omega))))).w ?_;rintro _ _ aa ah ⟨rfl,k,rfl⟩;(try simp only[Qf,Q8,QR]at aa);simp(disch:=(try simp only[hnP])<;>try omega) only[W0,W1,W2,W3,QE,simprocAttr,Zi])
   | fail)
 all_goals refine .ext ab ?_ ⟨?_,_,rfl⟩
 all_goals try (repeat' (first | exact Ext.refl _ | refine Ext.push ?_ _ | refine Ext.up ?_ (by simp only[Qf,QR,Q8];omega)))
 all_goals (simp_all<;>omega)
def QrM (x:Lf)(H:Qa)(hx:x.At H):Qe Pg 185 [.agg x.cells.toArray] H λu H'=>u=.bool (decide (0<=Qh x.f.slots 2))∧∃m,H'=H.up m:=by
 refine QqI λaa=>?_;have ab:(Value.agg x.cells.toArray).cells.toList=x.cells:=rfl;simp only[Qhs,ab,Qw,Wj,Qb,simprocAttr];refine(QG x 2 _ (hx.ext aa ((Ext.refl H).push _))).w ?_;rintro _ _ q ac ⟨rfl,m,rfl⟩;simp only[Q8,Qf]at q;simp only[Qb,simprocAttr,Qon];exact .ext aa (((Ext.refl H).push _).up (by simp only[Qf];exact q)) ⟨rfl,_,rfl⟩
def QBm (c:Int):Int:=IntKind.i64.wrap (BitVec.ofInt IntKind.i64.bits c &&& BitVec.ofInt IntKind.i64.bits 7).toNat
def QrN (f:Fm):List Bool:=
 let r:=decide (0<=Qh f.slots 1);let m:=decide (0<=Qh f.slots 2);let c:=decide (0<=Qh f.slots 4);let d:=decide (0<=f.digit)
 [f.shapes.length==f.slots.length,QqL f,QsE f.slots,Qej f,!c||((QBm f.code==0)&&!r&&!m&&!d),!r||!d,!m||r||d,m||(!r&&!d),!(f.map==0)||!QqK f.code]
def QGb {M:Nat}{v:Value}{l:List Int}(h:SlF M v l):∀a n c,v=.slice (some a) n c->QvC n c:=by
 rintro a n c rfl;rcases h with⟨_,h⟩ | ⟨_,b,cap,h,_,q⟩;·cases h
 cases h;exact q
def QhP {M:Nat}{v:Value}{l:List Int}{H:Qa}{cs:List Value}(ad:H.Wf)(h:SlF M v l)(aa:VM H v l.length cs)(m:Nat)(ae:H.y<=m)(n:Nat):Qp m (n+1) v=true:=by
 rcases h with⟨_,rfl⟩ | ⟨ac,b,cap,rfl,_,_⟩;·rfl
 obtain⟨a,c,e,q⟩:=aa;cases e;obtain⟨b2,_,_,e3,ab⟩:=q (Rj.2 ac);cases e3;have:=ad.lt ab;simp only[Qp,B5];omega
def QrO (x:Lf)(H:Qa)(hx:x.At H)(ar:x.Fr 0):Qe Pg 105 [.agg x.cells.toArray] H λu H'=>∃b,u=.S b 9 9∧Ext H H'∧H'.get b=some (.C ((QrN x.f).map .bool) 4):=by
  refine QqH λab=>?_;have bs:=λm aa n=>QhP ab ar.1 hx.2.2.1 m aa n;have bt:=λm aa n=>QhP ab ar.2 hx.2.2.2 m aa n;have ao:∀m,H.y<=m->Qp m 6 (.agg x.cells.toArray)=true:=λm aa=>by
    have ai:=bs m aa 4;have an:=bt m aa 4;simp[Qp,Lf.cells,plain]at ai an ⊢;exact⟨ai,an⟩
  have aA:∀m,H.y<=m->Qp m 6 x.sv=true:=λm aa=>bs m aa 5;have aq:∀m,H.y<=m->Qp m 6 x.tv=true:=λm aa=>bt m aa 5;have bn:=λH' (q:Ext H H')=>QG x 1 H' (hx.ext ab q);have bo:=λH' (q:Ext H H')=>QG x 4 H' (hx.ext ab q);have bq:=λH' (q:Ext H H')=>QrM x H' (hx.ext ab q);have br:=λH' (q:Ext H H')=>QmR x H' (hx.ext ab q);have bp:=λH' (q:Ext H H')=>Qoo x H' (hx.ext ab q);have aX:=λH' (q:Ext H H')=>Qt3 x.tv x.f.slots H' (hx.ext ab q).2.2.2 hx.2.1 (QGb ar.2);have bu:=λH'=>QrL x.f.code H';have bc:(Value.agg x.cells.toArray).cells.toList=x.cells:=rfl;obtain⟨a1,aZ,e1,_⟩:=id hx.2.2.1;obtain⟨a2,ba,e2,_⟩:=id hx.2.2.2;have bw:x.cells[1]? = some (.slice a1 x.f.shapes.length aZ):=by rw[<- e1];rfl
  have aY:x.cells[2]? = some (.slice a2 x.f.slots.length ba):=by rw[<- e2];rfl
  have bx:x.cells[4]? = some (.Z x.f.map):=rfl;have bz:x.cells[5]? = some (.Z x.f.code):=rfl;have b7:x.cells[6]? = some (.Z x.f.digit):=rfl;rw[e1]at aA;rw[e2]at aq aX;have aN:QrN x.f=[x.f.shapes.length==x.f.slots.length,QqL x.f,QsE x.f.slots,Qej x.f,!decide (0<=Qh x.f.slots 4)||((QBm x.f.code==0)&&!decide (0<=Qh x.f.slots 1)&&!decide (0<=Qh x.f.slots 2)&&!decide (0<=x.f.digit)),!decide (0<=Qh x.f.slots 1)||!decide (0<=x.f.digit),!decide (0<=Qh x.f.slots 2)||decide (0<=Qh x.f.slots 1)||decide (0<=x.f.digit),decide (0<=Qh x.f.slots 2)||(!decide (0<=Qh x.f.slots 1)&&!decide (0<=x.f.digit)),!(x.f.map==0)||!QqK x.f.code]:=rfl;rw[aN];clear aN;have bA:∀b,Ext H (H.push b):=λb=>(Ext.refl H).push _;simp only[Qhr,bc,Qw,Wj,Qb,simprocAttr];have ax:Ext H (H.push (.C x.cells 57)):=(Ext.refl H).push _;have aG:(H.push (.C x.cells 57)).get H.y=some (.C x.cells 57):=by rw[Qc,Lc rfl]
  have aO:=ab.push (.C x.cells 57);have az:H.y<(H.push (.C x.cells 57)).y:=Rq _;generalize H.push (.C x.cells 57)=H0 at ax aG aO az
  -- each call leaves the box where it is
  have step:∀ (H1:Qa) (m:Nat),Ext H H1->H1.Wf->H1.get H.y=some (.C x.cells 57)->H.y<H1.y->H1.y<=m->Ext H (H1.up m)∧(H1.up m).get H.y=some (.C x.cells 57)∧H.y<(H1.up m).y∧EqB H1 (H1.up m):=λH1 m ai an bd b9 ay=>⟨ai.up ay,by rw[XB];exact bd,by simp only[Q8];omega,((Ext.refl H1).up ay).eqB⟩;have bh:=az;refine⟨⟨Rq _,Rq _⟩,(bn _ ax).w ?_⟩;rintro _ _ aI aP ⟨rfl,aT,rfl⟩;simp only[Q8]at aI;obtain⟨ak,au,ap,aC⟩:=step _ aT ax aO aG bh aI;generalize Qa.up _ aT=H1 at aP ak au ap aC;simp only[Qb,simprocAttr,au,Qw,Wj];refine⟨aC,ao _ ak.y,ap,(bq _ ak).w ?_⟩;rintro _ _ aJ aQ ⟨rfl,aU,rfl⟩;simp only[Q8]at aJ;obtain⟨am,av,aB,aD⟩:=step _ aU ak aP au ap aJ;generalize Qa.up _ aU=H2 at aQ am av aB aD;simp only[Qb,simprocAttr,av,Qw,Wj];refine⟨aD,ao _ am.y,(bo _ am).w ?_⟩;rintro _ _ aK aR ⟨rfl,aV,rfl⟩;simp only[Q8]at aK;obtain⟨ag,aw,ad,bj⟩:=step _ aV am aQ av aB aK;generalize Qa.up _ aV=H3 at aR ag aw ad bj;simp only[Qb,simprocAttr,aw,Qw,Wj,bw,aY,b7];refine⟨aA _ ag.y,aq _ ag.y,⟨ad,ad,ad⟩,(br _ ag).w ?_⟩;rintro _ _ aL aS ⟨rfl,m4,rfl⟩;simp only[Q8]at aL;obtain⟨ac,aj,ae,aE⟩:=step _ m4 ag aR aw ad aL;generalize Qa.up _ m4=H4 at aS ac aj ae aE;simp only[Qb,simprocAttr,aj,aY];refine⟨aE,aq _ ac.y,⟨ae,ae⟩,(aX _ ac).w ?_⟩;rintro _ _ _ _ ⟨rfl,rfl⟩;simp only[Qb,simprocAttr,aj,Qw,Wj];refine⟨(Ext.refl _).eqB,ao _ ac.y,ae,(bp _ ac).w ?_⟩;rintro _ _ aM bm ⟨rfl,aW,rfl⟩;simp only[Q8]at aM;obtain⟨ah,aH,bi,aF⟩:=step _ aW ac aS aj ae aM;generalize Qa.up _ aW=H5 at bm ah aH bi aF;simp only[Qb,simprocAttr];refine⟨aF,?_⟩;have bg:IntKind.i64.wrap (BitVec.ofInt IntKind.i64.bits x.f.code &&& BitVec.ofInt IntKind.i64.bits 7).toNat=QBm x.f.code:=rfl;have e0:((x.f.shapes.length:Int)==(x.f.slots.length:Int))=(x.f.shapes.length==x.f.slots.length):=by
    rw[Ni,L0,L0];omega
  generalize decide (0<=Qh x.f.slots 1)=r;generalize decide (0<=Qh x.f.slots 2)=m;generalize decide (0<=Qh x.f.slots 4)=c;generalize decide (0<=x.f.digit)=d;cases b8:(QBm x.f.code==0)<;>cases p0:(x.f.map==0)
  all_goals cases c<;>cases r<;>cases m<;>cases d
  all_goals simp only[Qb,simprocAttr,aH,bx,bz,bg,b8,p0,e0,QfK]
  all_goals refine⟨rfl,?_⟩
  all_goals first
    | (refine(bu _).w ?_
       rintro _ _ _ _ ⟨rfl,rfl⟩;simp only[Qb,simprocAttr,QfK];refine⟨λ_ _=>rfl,?_⟩;exact .mk (ah.push _).y ⟨_,rfl,ah.push _,by rw[Qc,Lc rfl];simp⟩)
    | exact .mk (ah.push _).y ⟨_,rfl,ah.push _,by rw[Qc,Lc rfl];simp⟩
def QDF (l:List Bool)(i:Nat)(h:i<l.length):(l.map Value.bool)[i]? = some (.bool (l.getD i false)):=by
 simp[List.getD,La h]
def Qhw (f:Fm):Int:=
 if opV f.op=false then 6
 else if(decide (4<f.shapes.length)||decide (4<f.slots.length))=true then 3
 else if(decide (f.pre<0)||decide (5<f.pre)||decide (f.map<0)||decide (3<f.map))=true then 5
 else if(decide (f.code<0)||decide (255<f.code)||decide (f.digit < -1)||decide (7<f.digit))=true then 5
 else if((List.range 9).all λi=>(QrN f).getD i false)=true then 0 else 2
def QrP (x:Lf)(H:Qa)(hx:x.At H)(aA:x.Fr 0):Qe Pg 90 [.agg x.cells.toArray] H λu H'=>u=.Z (Qhw x.f)∧∃m,H'=H.up m:=by
 refine QqG λae=>?_;have aq:(Value.agg x.cells.toArray).cells.toList=x.cells:=rfl;have ac:Ext H (H.push (.C x.cells 57)):=(Ext.refl H).push _;have ab:(H.push (.C x.cells 57)).get H.y=some (.C x.cells 57):=by rw[Qc,Lc rfl]
 have au:=ae.push (.C x.cells 57);obtain⟨a1,ap,e1,_⟩:=id hx.2.2.1;obtain⟨a2,aH,e2,_⟩:=id hx.2.2.2;have ay:x.cells[0]? = some (.Z x.f.op):=rfl;have ai:x.cells[1]? = some (.slice a1 x.f.shapes.length ap):=by rw[<- e1];rfl
 have aj:x.cells[2]? = some (.slice a2 x.f.slots.length aH):=by rw[<- e2];rfl
 have ak:x.cells[3]? = some (.Z x.f.pre):=rfl;have am:x.cells[4]? = some (.Z x.f.map):=rfl;have an:x.cells[5]? = some (.Z x.f.code):=rfl;have ao:x.cells[6]? = some (.Z x.f.digit):=rfl;have aw:=QKe x.f.op;have av:=λH' (aM:Ext H H')=>QrO x H' (hx.ext ae aM) aA;have aB:(QrN x.f).length=9:=rfl;have ag:decide ((4:Int)<x.f.shapes.length)=decide (4<x.f.shapes.length):=by rw[BD];omega
 have ah:decide ((4:Int)<x.f.slots.length)=decide (4<x.f.slots.length):=by rw[BD];omega
 have aD:Qhw x.f=if opV x.f.op=false then 6
  else if(decide (4<x.f.shapes.length)||decide (4<x.f.slots.length))=true then 3
  else if(decide (x.f.pre<0)||decide (5<x.f.pre)||decide (x.f.map<0)||decide (3<x.f.map))=true then 5
  else if(decide (x.f.code<0)||decide (255<x.f.code)||decide (x.f.digit < -1)||decide (7<x.f.digit))=true then 5
  else if((List.range 9).all λi=>(QrN x.f).getD i false)=true then 0 else 2:=rfl
 rw[aD];clear aD hx aA e1 e2;generalize QrN x.f=rl at *;generalize opV x.f.op=ov at *;generalize ar:H.push (.C x.cells 57)=H0 at ac ab au;obtain⟨r,ad⟩:∃r,r=(if ov=false then(6:Int)
  else if(decide (4<x.f.shapes.length)||decide (4<x.f.slots.length))=true then 3
  else if(decide (x.f.pre<0)||decide (5<x.f.pre)||decide (x.f.map<0)||decide (3<x.f.map))=true then 5
  else if(decide (x.f.code<0)||decide (255<x.f.code)||decide (x.f.digit < -1)||decide (7<x.f.digit))=true then 5
  else if((List.range 9).all λi=>rl.getD i false)=true then 0 else 2):=⟨_,rfl⟩
 rw[<- ad];have P3:∀A,A 1=.P H.y->r=(if((List.range 9).all λi=>rl.getD i false)=true then 0 else 2)->Qm Pg Vo ⟨Rt Pg Tryz.f90 H λu H'=>u=.Z r∧∃m,H'=H.up m,X4⟩ (Rt Pg Tryz.f90 H λu H'=>u=.Z r∧∃m,H'=H.up m) A H0:=by
  intro A r1 aC;simp only[Vo,Qb,simprocAttr,r1,ab,Qw,Wj];refine(av _ ac).w ?_;rintro _ H1 aO aP ⟨b,rfl,aE,aL⟩;simp only[Qb,simprocAttr];refine Qu (λm A' H'=>∃i:Nat,i<=9∧m=9 - i∧H'=H1∧(∀j,j<i->rl.getD j false=true)∧A' 60=.S b 9 9∧A' 61=.Z ((9:Nat):Int)∧A' 62=.Z i) 9 ?_ ?_
  ·refine⟨0,L7 _,by omega,rfl,λj h=>by omega,?_,?_,?_⟩
   all_goals simp only[Qd,simprocAttr]
   all_goals rfl
  rintro m A' H' ⟨i,hi,rfl,aK,az,aF,aG,ax⟩;subst aK;simp only[Qee,Qed,sxA,sxB,Nat.reduceBEq,Nat.reduceEqDiff,reduceCtorEq,mxA,mxB,Nat.reduceAdd,reduceIte,Nat.reduceLeDiff,splice,aG,ax];refine Qg (λaa=>?_) (λaa=>?_)
  ·have aa:i<9:=by have:=Lg aa;omega
   have ap:(0:Int)<=i∧(i:Int)<((9:Nat):Int):=by omega
   have aI:(i:Int).toNat=i:=by omega
   have aJ:IntKind.i64.wrap ((i:Int)+1)=((i+1:Nat):Int):=by rw[w64 (by unfold I64;omega)];omega
   have g1:=QDF rl i (by omega);simp only[sxA,sxB,Nat.reduceBEq,Nat.reduceEqDiff,reduceCtorEq,mxA,mxB,Nat.reduceAdd,reduceIte,Nat.reduceLeDiff,splice,aF,ax,ap,aI,aL,g1];cases q:rl.getD i false with
   | false=>
    simp only[Qb,simprocAttr,KI];refine .ext ae (ac.trans aE) ⟨?_,_,rfl⟩;rw[aC,KJ aa q];rfl
   | true=>
    simp only[sxA,sxB,Nat.reduceBEq,Nat.reduceEqDiff,reduceCtorEq,mxA,mxB,Nat.reduceAdd,reduceIte,Nat.reduceLeDiff,splice,ax,aJ];refine⟨9 - (i+1),by omega,i+1,by omega,rfl,rfl,λj aN=>?_,?_,?_,?_⟩
    ·rcases Nq j i with h | h;·exact az j h
     rw[show j=i by omega];exact q
    all_goals simp only[Qd,simprocAttr,aF,aG]
  have aa:i=9:=by have:=Ll aa;omega
  subst aa;simp only[Qb,simprocAttr,KI];refine .ext ae (ac.trans aE) ⟨?_,_,rfl⟩;rw[aC,GS az];rfl
 simp only[Qhq,aq,Qb,simprocAttr,ar,ab,ay];refine(aw _).w ?_;rintro _ _ _ _ ⟨rfl,rfl⟩;simp only[Qeh,Qeg,Qef,Qb,simprocAttr]
 repeat' (first
   | (refine Qz (λh=>?_) (λh=>?_)<;>(try simp only[Lr,Lu]at h)<;>simp only[Qb,simprocAttr,KI,ab,ai,aj,ak,am,an,ao,ag,ah,h])
   | (refine Qg (λh=>?_) (λh=>?_)<;>(try simp only[Lr,Lu]at h)<;>simp only[Qb,simprocAttr,KI,ab,ai,aj,ak,am,an,ao,ag,ah,h])
   | fail)
 all_goals first
  | (refine P3 _ (by simp only[Qd,simprocAttr]) ?_;rw[ad];clear ad P3 av aw ab au ac ar ay ai aj ak am an ao ag ah aB aq;simp_all<;>(repeat rw[Le (by omega)])<;>(try (rw[Lc (by omega)])))
  | (refine .ext ae ac ⟨?_,_,rfl⟩;rw[ad];clear ad P3 av aw ab au ac ar ay ai aj ak am an ao ag ah aB aq;simp_all<;>(repeat rw[Le (by omega)])<;>(try (rw[Lc (by omega)])))
def QmS {f:Fm}(h:Qhw f=0):f.shapes.length<=4∧f.slots.length<=4∧(0<=f.pre∧f.pre<=5)∧(0<=f.map∧f.map<=3)∧(0<=f.code∧f.code<=255)∧(-1<=f.digit∧f.digit<=7)∧(List.range 9).all (λi=>(QrN f).getD i false)=true:=by
 unfold Qhw at h;split at h;·simp at h
 split at h;·simp at h
 split at h;·simp at h
 split at h;·simp at h
 split at h;·rename_i ad q aa ab ac;simp only[Nw,Lv,not_or]at q aa ab;exact⟨by omega,by omega,by omega,by omega,by omega,by omega,ac⟩
 simp at h
def QlI {f:Fm}(h:Qhw f=0)(i:Nat)(hi:i<9):(QrN f).getD i false=true:=Li.1 (QmS h).2.2.2.2.2.2 i (LU.2 hi)
def Qyi {q sl:Int}(h:QaC q sl=true):1<=q∧q<=34:=by
 unfold QaC at h;split at h;·simp only[Lm,Lv]at h;omega
 split at h;·simp only[Lm,Lv]at h;omega
 split at h;·simp only[Lm,Lv]at h;omega
 split at h;·simp only[Nw,Lm,Lv,L0]at h;omega
 exact absurd h (by decide)
def QoQ {f:Fm}(h:Qhw f=0):f.shapes.length=f.slots.length:=by
 have:=QlI h 0 (by omega);simpa[QrN] using this
def QBn {f:Fm}(h:Qhw f=0)(i:Nat)(hi:i<f.shapes.length):1<=f.shapes.getD i 0∧f.shapes.getD i 0<=34:=by
 have q:Qej f=true:=QlI h 3 (by omega);unfold Qej at q;rw[Lm]at q;have:=Li.1 q.2 i (LU.2 (by have:=QoQ h;omega));exact Qyi this
def QlJ {f:Fm}(h:Qhw f=0):FOk f:=by
 obtain⟨_,_,ac,ab,_,_,_⟩:=QmS h;have q:QqL f=true:=QlI h 1 (by omega);unfold QqL at q;refine⟨ac,ab,λaa=>?_,λaa=>?_⟩;·rw[aa]at q;simp only[LM,Lq,Lm,Nw,L0]at q;exact q.1.1.1
 rw[aa]at q;simp only[L8,Ls,Lm,Nw,L0,Lr,LC,Da,Lv]at q;exact⟨q.1.1.1.2,by rcases q.1.1.1.1 with((a | a) | a) | a<;>simp[a],⟨q.1.1.2,q.1.2⟩,q.2⟩
