import Derived.Test.YtopkfjiipdjbmaaGreatDoorLibA
import Derived.Test.YtopkfjiipdjbmaaGreatDoorC4Shape
import Derived.Test.YtopkfjiipdjbmaaGreatDoorLibB
set_option maxHeartbeats 4000000
set_option linter.defProp false
set_option linter.unusedVariables false
set_option linter.unusedSimpArgs false
set_option maxRecDepth 100000
namespace Go.Proofs.YtopkfjiipdjbmaaGreatDoor.code
open Go.Ab
def opV (o:Int):Bool:=decide (1<=o)&&decide (o<=322)
def QLs (o:Int)(H:Qa):Qe Pg 62 [.Z o] H λu H'=>u=.bool (opV o)∧H'=H:=by
 refine Qkq λaa=>?_;simp(disch:=(try simp only[hnP])<;>try omega) only[QeD,QF,simprocAttr]
 repeat' (first
   | (refine Qz (λh=>?_) (λh=>?_)<;>(try simp only[Lr,Lu]at h)<;>simp(disch:=(try simp only[hnP])<;>try omega) only[QF,simprocAttr,Z0,h])
   | fail)
 all_goals refine .mk (Lb _) ⟨?_,rfl⟩
 all_goals (simp_all [opV]<;>omega)
def Qnz (aa sl:Int):Bool:=
 if sl=6 then decide (28<=aa)&&decide (aa<=33) else if sl=5 then decide (20<=aa)&&decide (aa<=27)
 else if sl=1∨sl=3∨sl=4∨sl=7 then decide (1<=aa)&&decide (aa<=6) else if sl=2 then(decide (1<=aa)&&decide (aa<=19))||(aa==34) else false
def Qwc (aa sl:Int)(H:Qa):Qe Pg 303 [.Z aa,.Z sl] H λu H'=>u=.bool (Qnz aa sl)∧H'=H:=by
 refine QtJ λab=>?_;simp(disch:=(try simp only[hnP])<;>try omega) only[Qk5,QhH,QhI,QhJ,QhK,QhL,QF,simprocAttr]
 repeat' (first
   | (refine Qz (λh=>?_) (λh=>?_)<;>(try simp only[Lr,Lu]at h)<;>simp(disch:=(try simp only[hnP])<;>try omega) only[QF,simprocAttr,Qdr,h])
   | (refine Qg (λh=>?_) (λh=>?_)<;>(try simp only[Lr,Lu]at h)<;>simp(disch:=(try simp only[hnP])<;>try omega) only[QF,simprocAttr,Qdr,h])
   | fail)
 all_goals refine .mk (Lb _) ⟨?_,rfl⟩
 all_goals (simp only[L0,Lv,NY,LC,Da]at *)
 all_goals (unfold Qnz;simp_all<;>omega)
def Qwd (c:Int):Bool:=(decide (64<=c)&&decide (c<=79))||(c==15)||(c==102)||(c==196)||(c==197)||(c==242)||(c==243)
def QtK (c:Int)(H:Qa):Qe Pg 279 [.Z c] H λu H'=>u=.bool (Qwd c)∧H'=H:=by
 refine QsD λaa=>?_;simp(disch:=(try simp only[hnP])<;>try omega) only[Qjs,QF,simprocAttr]
 repeat' (first
   | (refine Qz (λh=>?_) (λh=>?_)<;>(try simp only[Lr,Lu]at h)<;>simp(disch:=(try simp only[hnP])<;>try omega) only[QF,simprocAttr,Qbd,h])
   | (refine Qg (λh=>?_) (λh=>?_)<;>(try simp only[Lr,Lu]at h)<;>simp(disch:=(try simp only[hnP])<;>try omega) only[QF,simprocAttr,Qbd,h])
   | fail)
 all_goals refine .mk (Lb _) ⟨?_,rfl⟩
 all_goals (simp only[Qwd];simp_all<;>omega)
def QBK (H:Qa)(v:Value)(l:List Int):Prop:=∃a cap,v=.slice a l.length cap∧(0<l.length->∃b e ro cs,a=some ⟨b,0,none⟩∧H.get b=some (.cells cs e ro)∧∀j,j<l.length->cs[j]? = some (.Z (l.getD j 0)))
def Qyl (va:Value)(xs:List Int)(x:Int)(H:Qa)(aj:QBK H va xs)(ao:xs.length<=1000):Qe Pg 87 [va,.Z x] H λu H'=>u=.Z (Qy xs x)∧H'=H:=by
 refine Gt λap=>?_;obtain⟨ae,ag,rfl,am⟩:=aj;simp only[YP,Qb,simprocAttr];refine Qp (λm A' H'=>∃i:Nat,i<=xs.length∧m=xs.length - i∧H'=H∧(∀j,j<i->¬x=xs.getD j 0)∧A' 0=.slice ae xs.length ag∧A' 1=.Z x∧A' 7=.Z (xs.length:Int)∧A' 8=.Z i) xs.length ?_ ?_
 ·refine⟨0,L7 _,by omega,rfl,λj h=>by omega,?_,?_,?_,?_⟩
  all_goals simp only[uxA,uxB,Nat.reduceBEq]
  rfl
 rintro m A' H' ⟨i,hi,rfl,ai,ac,r0,r1,ad,r8⟩;subst ai;simp only[Qb,simprocAttr,ad,r8];refine Qg (λaa=>?_) (λaa=>?_)
 ·have aa:i<xs.length:=by have:=Lg aa;omega
  obtain⟨b1,e1,aq,cs,rfl,ak,al⟩:=am (by omega);have c1:(0:Int)<=i∧(i:Int)<xs.length:=by omega
  have c3:(i:Int).toNat=i:=by omega
  have ah:IntKind.i64.wrap ((i:Int)+1)=((i+1:Nat):Int):=by rw[w64 (by unfold I64;omega)];omega
  have g1:=al i aa;simp only[Qb,simprocAttr,r0,r1,r8,c1,c3,ak,g1];refine Qg (λab=>?_) (λab=>?_)
  ·have ab:x=xs.getD i 0:=by simpa using ab
   simp only[Qb,simprocAttr,W9];exact .mk (Lb _) ⟨by rw[Qy,QrR x xs 0 i ac aa ab,LP],rfl⟩
  have ab:¬x=xs.getD i 0:=by simpa using ab
  simp only[Qb,simprocAttr,r8,ah];refine⟨xs.length - (i+1),by omega,i+1,by omega,rfl,rfl,λj an=>?_,?_,?_,?_,?_⟩
  ·rcases Nq j i with h | h;·exact ac j h
   rw[show j=i by omega];exact ab
  all_goals simp only[Qf,simprocAttr,r0,r1,ad]
 have aa:i=xs.length:=by have:=Ll aa;omega
 subst aa;simp only[Qb,simprocAttr,W9];exact .mk (Lb _) ⟨by rw[Qy,QrS x xs 0 ac],rfl⟩
def QlX (va:Value)(xs:List Int)(x:Int)(H:Qa)(aa:QBK H va xs)(ab:xs.length<=1000):Qe Pg 70 [va,.Z x] H λu H'=>u=.bool (decide (0<=Qy xs x))∧H'=H:=by
 refine Qdq λac=>?_;simp only[JA,Qb,simprocAttr];refine(Qyl va xs x H aa ab).w ?_;rintro _ _ _ _ ⟨rfl,rfl⟩;simp only[Qb,simprocAttr,Qb6];exact .mk (Lb _) ⟨rfl,rfl⟩
def QHW {b len cap i:Nat}(aa:QxF len cap)(hi:i<=len):Y3 1 (.S b len cap) none (some (i:Int)) none=some (.S b i cap):=by
 unfold Y3;rcases aa with rfl | ⟨ab,ac⟩;·simp only[Br,NB];rw[Lc (Ro _ _),Lc ⟨B0 _,by omega,by omega,trivial⟩];simp
 simp only[Br,NB];rw[Le (by omega),Lc (by omega)];simp
def QsE (l:List Int)(k:Nat):Bool:=(l.getD k 0==6)||!(decide (0<=Qy (l.take k) (l.getD k 0)))
def Qym (l:List Int):Bool:=(List.range l.length).all (QsE l)
def Vy {n:Nat}{p:Nat->Bool}(h:∀j,j<n->p j=true):(List.range n).all p=true:=by
 rw[Li];intro j aa;exact h j (LU.1 aa)
def KW {n i:Nat}{p:Nat->Bool}(hi:i<n)(h:p i=false):(List.range n).all p=false:=by
 rw[List.all_eq_false];exact⟨i,LU.2 hi,by rw[h];decide⟩
def Qwe (va:Value)(xs:List Int)(H:Qa)(ar:Qaa H va xs.length (ints xs))(az:xs.length<=1000)(au:∀a n c,va=.slice (some a) n c->QxF n c):Qe Pg 277 [va] H λu H'=>u=.bool (Qym xs)∧H'=H:=by
 refine QtI λaA=>?_;obtain⟨ai,ac,rfl,av⟩:=ar;simp only[Qk4,Qb,simprocAttr];refine Qp (λm A' H'=>∃i:Nat,i<=xs.length∧m=xs.length - i∧H'=H∧(∀j,j<i->QsE xs j=true)∧A' 0=.slice ai xs.length ac∧A' 5=.slice ai xs.length ac∧A' 6=.Z (xs.length:Int)∧A' 7=.Z i) xs.length ?_ ?_
 ·refine⟨0,L7 _,by omega,rfl,λj h=>by omega,?_,?_,?_,?_⟩
  all_goals simp only[uxA,uxB,Nat.reduceBEq]
  rfl
 rintro m A' H' ⟨i,hi,rfl,aq,ak,r0,ag,ah,ad⟩;subst aq;simp only[Qb,simprocAttr,ah,ad];refine Qg (λaa=>?_) (λaa=>?_)
 ·have aa:i<xs.length:=by have:=Lg aa;omega
  obtain⟨b1,e1,ay,rfl,al⟩:=av (by omega);have c1:(0:Int)<=i∧(i:Int)<xs.length:=by omega
  have c3:(i:Int).toNat=i:=by omega
  have aj:IntKind.i64.wrap ((i:Int)+1)=((i+1:Nat):Int):=by rw[w64 (by unfold I64;omega)];omega
  have g1:=ZY (l:=xs) (i:=i) (by omega);have next:QsE xs i=true->∀j,j<i+1->QsE xs j=true:=λh j ae=>by
   rcases Nq j i with h' | h';·exact ak j h'
   rw[show j=i by omega];exact h
  have ab:QsE xs i=((xs.getD i 0==6)||!(decide (0<=Qy (xs.take i) (xs.getD i 0)))):=rfl;simp only[Qb,simprocAttr,ag,ad,c1,c3,al,g1];cases an:xs.getD i 0==6 with
  | true=>
   rw[an,N1]at ab;simp only[Qb,simprocAttr,ad,aj];refine⟨xs.length - (i+1),by omega,i+1,by omega,rfl,rfl,next ab,?_,?_,?_,?_⟩
   all_goals simp only[Qf,simprocAttr,r0,ag,ah]
  | false=>
   rw[an,Nt]at ab;have am:(xs.take i).length=i:=by rw[Sb];omega
   have ax:QBK H' (.S b1 i ac) (xs.take i):=⟨some ⟨b1,0,none⟩,ac,by rw[am],λ_=>⟨b1,e1,ay,_,rfl,al,λj ae=>by
    rw[am]at ae;rw[ZY (by omega)];simp[List.getD,ae]⟩⟩
   have ap:=QHW (b:=b1) (au _ _ _ rfl) (Nat.le_of_lt aa);simp only[Qb,simprocAttr,r0,ap];refine(QlX _ (xs.take i) (xs.getD i 0) H' ax (by omega)).w ?_;rintro _ _ _ _ ⟨rfl,rfl⟩;simp only[Qb,simprocAttr];cases ao:decide (0<=Qy (xs.take i) (xs.getD i 0)) with
   | true=>
    rw[ao]at ab;simp only[Qb,simprocAttr,Qjr];exact .mk (Lb _) ⟨by rw[Qym,KW aa ab],rfl⟩
   | false=>
    rw[ao]at ab;simp only[Qb,simprocAttr,ad,aj];refine⟨xs.length - (i+1),by omega,i+1,by omega,rfl,rfl,next ab,?_,?_,?_,?_⟩
    all_goals simp only[Qf,simprocAttr,r0,ag,ah]
 have aa:i=xs.length:=by have:=Ll aa;omega
 subst aa;simp only[Qb,simprocAttr,Qjr];exact .mk (Lb _) ⟨by rw[Qym,Vy ak],rfl⟩
def QAF (f:Fm)(k:Nat):Bool:=Qnz (f.shapes.getD k 0) (f.slots.getD k 0)
def QhM (f:Fm):Bool:=(f.shapes.length==f.slots.length)&&(List.range f.slots.length).all (QAF f)
def Qqq (x:Lf)(H:Qa)(hx:x.At H):Qe Pg 278 [.agg x.cells.toArray] H λu H'=>u=.bool (QhM x.f)∧∃m,H'=H.up m:=by
 refine QoL λag=>?_;have ao:(Value.agg x.cells.toArray).cells.toList=x.cells:=rfl;have ah:Ext H (H.push (.C x.cells 51)):=(Ext.refl H).push _;have ad:(H.push (.C x.cells 51)).get H.y=some (.C x.cells 51):=by rw[Qc,Lc rfl]
 have ay:=ag.push (.C x.cells 51);obtain⟨aC,aD,aq,aa⟩:=hx.ext ag ah;obtain⟨a1,c1,e1,ak⟩:=aq;obtain⟨a2,c2,e2,al⟩:=aa;have am:x.cells[1]? = some (.slice a1 x.f.shapes.length c1):=by rw[<- e1];rfl
 have an:x.cells[2]? = some (.slice a2 x.f.slots.length c2):=by rw[<- e2];rfl
 simp only[Qf6,ao,Qb,simprocAttr,am,an];generalize aA:H.push (.C x.cells 51)=H0 at ah ad ay ak al;have ac:∀b,b=QhM x.f->Ret H (λu H'=>u=.bool (QhM x.f)∧∃m,H'=H.up m) (.bool b) H0:=λb au=>.ext ag ah ⟨by rw[au],_,rfl⟩
 by_cases ae:x.f.shapes.length=x.f.slots.length
 ·have e0:((x.f.shapes.length:Int)==(x.f.slots.length:Int))=true:=by simp[ae]
  simp only[e0,Qb,simprocAttr,ad,an];refine Qp (λm A' H'=>∃i:Nat,i<=x.f.slots.length∧m=x.f.slots.length - i∧H'=H0∧(∀j,j<i->QAF x.f j=true)∧A' 1=.P H.y∧A' 13=.slice a2 x.f.slots.length c2∧A' 14=.Z (x.f.slots.length:Int)∧A' 15=.Z i) x.f.slots.length ?_ ?_
  ·refine⟨0,L7 _,by omega,rfl,λj h=>by omega,?_,?_,?_,?_⟩
   all_goals simp only[uxA,uxB,Nat.reduceBEq]
   rfl
  rintro m A' H' ⟨i,hi,rfl,ar,ai,r1,r13,aj,r15⟩;subst ar;simp only[Qb,simprocAttr,aj,r15];refine Qg (λaa=>?_) (λaa=>?_)
  ·have aa:i<x.f.slots.length:=by have:=Lg aa;omega
   obtain⟨b1,t1,aE,rfl,av⟩:=ak (by omega);obtain⟨az,t2,aF,rfl,ax⟩:=al (by omega);have d1:(0:Int)<=i∧(i:Int)<x.f.slots.length:=by omega
   have d2:(0:Int)<=i∧(i:Int)<x.f.shapes.length:=by omega
   have c3:(i:Int).toNat=i:=by omega
   have ap:IntKind.i64.wrap ((i:Int)+1)=((i+1:Nat):Int):=by rw[w64 (by unfold I64;omega)];omega
   have g1:=ZY (l:=x.f.shapes) (i:=i) (by omega);have g2:=ZY (l:=x.f.slots) (i:=i) (by omega);simp only[Qb,simprocAttr,r1,r13,r15,d1,d2,c3,av,ax,g1,g2,ad,am];refine(Qwc _ _ _).w ?_;rintro _ _ _ _ ⟨rfl,rfl⟩;have ab:QAF x.f i=Qnz (x.f.shapes.getD i 0) (x.f.slots.getD i 0):=rfl;simp only[Qb,simprocAttr];cases q:Qnz (x.f.shapes.getD i 0) (x.f.slots.getD i 0) with
   | false=>
    rw[q]at ab;simp only[Qb,simprocAttr,Vw];exact ac _ (by rw[QhM,KW aa ab,NJ])
   | true=>
    rw[q]at ab;simp only[Qb,simprocAttr,r15,ap];refine⟨x.f.slots.length - (i+1),by omega,i+1,by omega,rfl,rfl,λj aB=>?_,?_,?_,?_,?_⟩
    ·rcases Nq j i with h | h;·exact ai j h
     rw[show j=i by omega];exact ab
    all_goals simp only[Qf,simprocAttr,r1,r13,aj]
  have aa:i=x.f.slots.length:=by have:=Ll aa;omega
  subst aa;simp only[Qb,simprocAttr,Vw];exact ac _ (by rw[QhM,Vy ai,ae];simp)
 have e0:((x.f.shapes.length:Int)==(x.f.slots.length:Int))=false:=by simp;omega
 simp only[e0,Qb,simprocAttr,Vw];exact ac _ (by rw[QhM];simp[ae])
def QuD (f:Fm):Bool:=bif !f.vex then((f.w==0)||(f.w==1))&&(f.l==0)&&decide (Qy f.slots 3<0)&&decide (Qy f.slots 7<0) else((f.pre==0)||(f.pre==1)||(f.pre==2)||(f.pre==4))&&(!(f.map==0))&&decide (-1<=f.w)&&decide (f.w<=1)&&((f.l==0)||(f.l==1))
def QoM (x:Lf)(H:Qa)(hx:x.At H):Qe Pg 276 [.agg x.cells.toArray] H λu H'=>u=.bool (QuD x.f)∧∃m,H'=H.up m:=by
 refine Qny λac=>?_;have ae:=λH' (aa:Ext H H')=>QH x 3 H' (hx.ext ac aa);have ag:=λH' (aa:Ext H H')=>QH x 7 H' (hx.ext ac aa);have ad:QuD x.f=bif !x.f.vex then((x.f.w==0)||(x.f.w==1))&&(x.f.l==0)&&decide (Qy x.f.slots 3<0)&&decide (Qy x.f.slots 7<0) else((x.f.pre==0)||(x.f.pre==1)||(x.f.pre==2)||(x.f.pre==4))&&(!(x.f.map==0))&&decide (-1<=x.f.w)&&decide (x.f.w<=1)&&((x.f.l==0)||(x.f.l==1)):=rfl
 rw[ad];clear ad hx;generalize Qy x.f.slots 3=i3 at *;generalize Qy x.f.slots 7=i7 at *;obtain⟨⟨am,an,al,aj,ak,aq,fl,ah,ao,ap⟩,sv,tv⟩:=x;simp only[Lf.cells]at ae ag ⊢;cases ah
 all_goals simp(disch:=(try simp only[hnP])<;>try omega) only[Qey,WS,WT,WU,WV,QF,simprocAttr]
 all_goals repeat' (first
   | (refine Qz (λh=>?_) (λh=>?_)<;>(try simp only[Lr,Lu]at h)<;>simp(disch:=(try simp only[hnP])<;>try omega) only[WS,WT,WU,WV,QF,simprocAttr,XP,h])
   | (refine Qg (λh=>?_) (λh=>?_)<;>(try simp only[Lr,Lu]at h)<;>simp(disch:=(try simp only[hnP])<;>try omega) only[WS,WT,WU,WV,QF,simprocAttr,XP,h])
   | (refine(ae _ (by(repeat' (first | exact Ext.refl _ | refine Ext.push ?_ _ | refine Ext.up ?_ (by simp only[Qd,Qo,Qw];omega))))).w ?_;rintro _ _ ab ai ⟨rfl,k,rfl⟩;(try simp only[Qd,Qw,Qo]at ab);simp(disch:=(try simp only[hnP])<;>try omega) only[WS,WT,WU,WV,QF,simprocAttr,XP])
   | (refine(ag _ (by(repeat' (first | exact Ext.refl _ | refine Ext.push ?_ _ | refine Ext.up ?_ (by simp only[Qd,Qo,Qw];omega))))).w ?_;rintro _ _ ab ai ⟨rfl,k,rfl⟩;(try simp only[Qd,Qw,Qo]at ab);simp(disch:=(try simp only[hnP])<;>try omega) only[WS,WT,WU,WV,QF,simprocAttr,XP])
   | fail)
 all_goals refine .ext ac ?_ ⟨?_,_,rfl⟩
 all_goals try (repeat' (first | exact Ext.refl _ | refine Ext.push ?_ _ | refine Ext.up ?_ (by simp only[Qd,Qo,Qw];omega)))
 all_goals (simp_all<;>omega)
def QtL (x:Lf)(H:Qa)(hx:x.At H):Qe Pg 275 [.agg x.cells.toArray] H λu H'=>u=.bool (decide (0<=Qy x.f.slots 2))∧∃m,H'=H.up m:=by
 refine QsC λab=>?_;have ac:(Value.agg x.cells.toArray).cells.toList=x.cells:=rfl;simp only[Qjq,ac,Qv,QV,Qb,simprocAttr];refine(QH x 2 _ (hx.ext ab ((Ext.refl H).push _))).w ?_;rintro _ _ aa ad ⟨rfl,m,rfl⟩;simp only[Qw,Qd]at aa;simp only[Qb,simprocAttr,Qqp];exact .ext ab (((Ext.refl H).push _).up (by simp only[Qd];exact aa)) ⟨rfl,_,rfl⟩
def QHX (c:Int):Int:=IntKind.i64.wrap (BitVec.ofInt IntKind.i64.bits c &&& BitVec.ofInt IntKind.i64.bits 7).toNat
def Qwf (f:Fm):List Bool:=
 let r:=decide (0<=Qy f.slots 1);let m:=decide (0<=Qy f.slots 2);let c:=decide (0<=Qy f.slots 4);let d:=decide (0<=f.digit)
 [f.shapes.length==f.slots.length,QuD f,Qym f.slots,QhM f,!c||((QHX f.code==0)&&!r&&!m&&!d),!r||!d,!m||r||d,m||(!r&&!d),!(f.map==0)||!Qwd f.code]
def QHY {M:Nat}{v:Value}{l:List Int}(h:SlF M v l):∀a n c,v=.slice (some a) n c->QxF n c:=by
 rintro a n c rfl;rcases h with⟨_,h⟩ | ⟨_,b,cap,h,_,aa⟩;·cases h
 cases h;exact aa
def QjP {M:Nat}{v:Value}{l:List Int}{H:Qa}{cs:List Value}(ae:H.Wf)(h:SlF M v l)(ab:Qaa H v l.length cs)(m:Nat)(ah:H.y<=m)(n:Nat):Qj m (n+1) v=true:=by
 rcases h with⟨_,rfl⟩ | ⟨ad,b,cap,rfl,_,_⟩;·rfl
 obtain⟨a,c,e,aa⟩:=ab;cases e;obtain⟨ag,_,_,e3,ac⟩:=aa (Rj.2 ad);cases e3;have:=ae.lt ac;simp only[Qj,B5];omega
def QtM (x:Lf)(H:Qa)(hx:x.At H)(ar:x.Fr 0):Qe Pg 183 [.agg x.cells.toArray] H λu H'=>∃b,u=.S b 9 9∧Ext H H'∧H'.get b=some (.C ((Qwf x.f).map .bool) 4):=by
  refine QsB λac=>?_;have bs:=λm ab n=>QjP ac ar.1 hx.2.2.1 m ab n;have bt:=λm ab n=>QjP ac ar.2 hx.2.2.2 m ab n;have ao:∀m,H.y<=m->Qj m 6 (.agg x.cells.toArray)=true:=λm ab=>by
    have aj:=bs m ab 4;have an:=bt m ab 4;simp[Qj,Lf.cells,plain]at aj an ⊢;exact⟨aj,an⟩
  have aB:∀m,H.y<=m->Qj m 6 x.sv=true:=λm ab=>bs m ab 5;have aq:∀m,H.y<=m->Qj m 6 x.tv=true:=λm ab=>bt m ab 5;have bn:=λH' (aa:Ext H H')=>QH x 1 H' (hx.ext ac aa);have bo:=λH' (aa:Ext H H')=>QH x 4 H' (hx.ext ac aa);have bq:=λH' (aa:Ext H H')=>QtL x H' (hx.ext ac aa);have br:=λH' (aa:Ext H H')=>QoM x H' (hx.ext ac aa);have bp:=λH' (aa:Ext H H')=>Qqq x H' (hx.ext ac aa);have aZ:=λH' (aa:Ext H H')=>Qwe x.tv x.f.slots H' (hx.ext ac aa).2.2.2 hx.2.1 (QHY ar.2);have bu:=λH'=>QtK x.f.code H';have bc:(Value.agg x.cells.toArray).cells.toList=x.cells:=rfl;obtain⟨a1,c1,e1,_⟩:=id hx.2.2.1;obtain⟨a2,c2,e2,_⟩:=id hx.2.2.2;have bw:x.cells[1]? = some (.slice a1 x.f.shapes.length c1):=by rw[<- e1];rfl
  have ba:x.cells[2]? = some (.slice a2 x.f.slots.length c2):=by rw[<- e2];rfl
  have bx:x.cells[4]? = some (.Z x.f.map):=rfl;have bz:x.cells[5]? = some (.Z x.f.code):=rfl;have b2:x.cells[6]? = some (.Z x.f.digit):=rfl;rw[e1]at aB;rw[e2]at aq aZ;have aO:Qwf x.f=[x.f.shapes.length==x.f.slots.length,QuD x.f,Qym x.f.slots,QhM x.f,!decide (0<=Qy x.f.slots 4)||((QHX x.f.code==0)&&!decide (0<=Qy x.f.slots 1)&&!decide (0<=Qy x.f.slots 2)&&!decide (0<=x.f.digit)),!decide (0<=Qy x.f.slots 1)||!decide (0<=x.f.digit),!decide (0<=Qy x.f.slots 2)||decide (0<=Qy x.f.slots 1)||decide (0<=x.f.digit),decide (0<=Qy x.f.slots 2)||(!decide (0<=Qy x.f.slots 1)&&!decide (0<=x.f.digit)),!(x.f.map==0)||!Qwd x.f.code]:=rfl;rw[aO];clear aO;have b5:∀b,Ext H (H.push b):=λb=>(Ext.refl H).push _;simp only[Qjp,bc,Qv,QV,Qb,simprocAttr];have ay:Ext H (H.push (.C x.cells 51)):=(Ext.refl H).push _;have aH:(H.push (.C x.cells 51)).get H.y=some (.C x.cells 51):=by rw[Qc,Lc rfl]
  have aP:=ac.push (.C x.cells 51);have aA:H.y<(H.push (.C x.cells 51)).y:=Rq _;generalize H.push (.C x.cells 51)=H0 at ay aH aP aA
  -- each call leaves the box where it is
  have step:∀ (H1:Qa) (m:Nat),Ext H H1->H1.Wf->H1.get H.y=some (.C x.cells 51)->H.y<H1.y->H1.y<=m->Ext H (H1.up m)∧(H1.up m).get H.y=some (.C x.cells 51)∧H.y<(H1.up m).y∧EqB H1 (H1.up m):=λH1 m aj an bd b4 az=>⟨aj.up az,by rw[Xo];exact bd,by simp only[Qw];omega,((Ext.refl H1).up az).eqB⟩;have bh:=aA;refine⟨⟨Rq _,Rq _⟩,(bn _ ay).w ?_⟩;rintro _ _ aJ aQ ⟨rfl,aU,rfl⟩;simp only[Qw]at aJ;obtain⟨al,au,ap,aD⟩:=step _ aU ay aP aH bh aJ;generalize Qa.up _ aU=H1 at aQ al au ap aD;simp only[Qb,simprocAttr,au,Qv,QV];refine⟨aD,ao _ al.y,ap,(bq _ al).w ?_⟩;rintro _ _ aK aR ⟨rfl,aV,rfl⟩;simp only[Qw]at aK;obtain⟨am,av,aC,aE⟩:=step _ aV al aQ au ap aK;generalize Qa.up _ aV=H2 at aR am av aC aE;simp only[Qb,simprocAttr,av,Qv,QV];refine⟨aE,ao _ am.y,(bo _ am).w ?_⟩;rintro _ _ aL aS ⟨rfl,aW,rfl⟩;simp only[Qw]at aL;obtain⟨ah,ax,ae,bj⟩:=step _ aW am aR av aC aL;generalize Qa.up _ aW=H3 at aS ah ax ae bj;simp only[Qb,simprocAttr,ax,Qv,QV,bw,ba,b2];refine⟨aB _ ah.y,aq _ ah.y,⟨ae,ae,ae⟩,(br _ ah).w ?_⟩;rintro _ _ aM aT ⟨rfl,aX,rfl⟩;simp only[Qw]at aM;obtain⟨ad,ak,ag,aF⟩:=step _ aX ah aS ax ae aM;generalize Qa.up _ aX=H4 at aT ad ak ag aF;simp only[Qb,simprocAttr,ak,ba];refine⟨aF,aq _ ad.y,⟨ag,ag⟩,(aZ _ ad).w ?_⟩;rintro _ _ _ _ ⟨rfl,rfl⟩;simp only[Qb,simprocAttr,ak,Qv,QV];refine⟨(Ext.refl _).eqB,ao _ ad.y,ag,(bp _ ad).w ?_⟩;rintro _ _ aN bm ⟨rfl,aY,rfl⟩;simp only[Qw]at aN;obtain⟨ai,aI,bi,aG⟩:=step _ aY ad aT ak ag aN;generalize Qa.up _ aY=H5 at bm ai aI bi aG;simp only[Qb,simprocAttr];refine⟨aG,?_⟩;have bg:IntKind.i64.wrap (BitVec.ofInt IntKind.i64.bits x.f.code &&& BitVec.ofInt IntKind.i64.bits 7).toNat=QHX x.f.code:=rfl;have e0:((x.f.shapes.length:Int)==(x.f.slots.length:Int))=(x.f.shapes.length==x.f.slots.length):=by
    rw[Ni,L0,L0];omega
  generalize decide (0<=Qy x.f.slots 1)=r;generalize decide (0<=Qy x.f.slots 2)=m;generalize decide (0<=Qy x.f.slots 4)=c;generalize decide (0<=x.f.digit)=d;cases b3:(QHX x.f.code==0)<;>cases p0:(x.f.map==0)
  all_goals cases c<;>cases r<;>cases m<;>cases d
  all_goals simp only[Qb,simprocAttr,aI,bx,bz,bg,b3,p0,e0,QhG]
  all_goals refine⟨rfl,?_⟩
  all_goals first
    | (refine(bu _).w ?_
       rintro _ _ _ _ ⟨rfl,rfl⟩;simp only[Qb,simprocAttr,QhG];refine⟨λ_ _=>rfl,?_⟩;exact .mk (ai.push _).y ⟨_,rfl,ai.push _,by rw[Qc,Lc rfl];simp⟩)
    | exact .mk (ai.push _).y ⟨_,rfl,ai.push _,by rw[Qc,Lc rfl];simp⟩
def QFk (l:List Bool)(i:Nat)(h:i<l.length):(l.map Value.bool)[i]? = some (.bool (l.getD i false)):=by
 simp[List.getD,La h]
def QoN (f:Fm):Int:=
 if opV f.op=false then 6
 else if(decide (4<f.shapes.length)||decide (4<f.slots.length))=true then 3
 else if(decide (f.pre<0)||decide (5<f.pre)||decide (f.map<0)||decide (3<f.map))=true then 5
 else if(decide (f.code<0)||decide (255<f.code)||decide (f.digit < -1)||decide (7<f.digit))=true then 5
 else if((List.range 9).all λi=>(Qwf f).getD i false)=true then 0 else 2
def QtN (x:Lf)(H:Qa)(hx:x.At H)(az:x.Fr 0):Qe Pg 129 [.agg x.cells.toArray] H λu H'=>u=.Z (QoN x.f)∧∃m,H'=H.up m:=by
 refine QsA λae=>?_;have ao:(Value.agg x.cells.toArray).cells.toList=x.cells:=rfl;have ac:Ext H (H.push (.C x.cells 51)):=(Ext.refl H).push _;have ab:(H.push (.C x.cells 51)).get H.y=some (.C x.cells 51):=by rw[Qc,Lc rfl]
 have aq:=ae.push (.C x.cells 51);obtain⟨a1,c1,e1,_⟩:=id hx.2.2.1;obtain⟨a2,c2,e2,_⟩:=id hx.2.2.2;have ax:x.cells[0]? = some (.Z x.f.op):=rfl;have ai:x.cells[1]? = some (.slice a1 x.f.shapes.length c1):=by rw[<- e1];rfl
 have aj:x.cells[2]? = some (.slice a2 x.f.slots.length c2):=by rw[<- e2];rfl
 have ak:x.cells[3]? = some (.Z x.f.pre):=rfl;have al:x.cells[4]? = some (.Z x.f.map):=rfl;have am:x.cells[5]? = some (.Z x.f.code):=rfl;have an:x.cells[6]? = some (.Z x.f.digit):=rfl;have au:=QLs x.f.op;have ar:=λH' (aJ:Ext H H')=>QtM x H' (hx.ext ae aJ) az;have aA:(Qwf x.f).length=9:=rfl;have ag:decide ((4:Int)<x.f.shapes.length)=decide (4<x.f.shapes.length):=by rw[BD];omega
 have ah:decide ((4:Int)<x.f.slots.length)=decide (4<x.f.slots.length):=by rw[BD];omega
 have aC:QoN x.f=if opV x.f.op=false then 6
  else if(decide (4<x.f.shapes.length)||decide (4<x.f.slots.length))=true then 3
  else if(decide (x.f.pre<0)||decide (5<x.f.pre)||decide (x.f.map<0)||decide (3<x.f.map))=true then 5
  else if(decide (x.f.code<0)||decide (255<x.f.code)||decide (x.f.digit < -1)||decide (7<x.f.digit))=true then 5
  else if((List.range 9).all λi=>(Qwf x.f).getD i false)=true then 0 else 2:=rfl
 rw[aC];clear aC hx az e1 e2;generalize Qwf x.f=rl at *;generalize opV x.f.op=ov at *;generalize ap:H.push (.C x.cells 51)=H0 at ac ab aq;obtain⟨r,ad⟩:∃r,r=(if ov=false then(6:Int)
  else if(decide (4<x.f.shapes.length)||decide (4<x.f.slots.length))=true then 3
  else if(decide (x.f.pre<0)||decide (5<x.f.pre)||decide (x.f.map<0)||decide (3<x.f.map))=true then 5
  else if(decide (x.f.code<0)||decide (255<x.f.code)||decide (x.f.digit < -1)||decide (7<x.f.digit))=true then 5
  else if((List.range 9).all λi=>rl.getD i false)=true then 0 else 2):=⟨_,rfl⟩
 rw[<- ad];have P3:∀A,A 1=.P H.y->r=(if((List.range 9).all λi=>rl.getD i false)=true then 0 else 2)->Qk Pg Qan ⟨Rt Pg Tryz.f129 H λu H'=>u=.Z r∧∃m,H'=H.up m,Xi⟩ (Rt Pg Tryz.f129 H λu H'=>u=.Z r∧∃m,H'=H.up m) A H0:=by
  intro A r1 aB;simp only[Qan,Qb,simprocAttr,r1,ab,Qv,QV];refine(ar _ ac).w ?_;rintro _ H1 aL aM ⟨b,rfl,aD,aI⟩;simp only[Qb,simprocAttr];refine Qp (λm A' H'=>∃i:Nat,i<=9∧m=9 - i∧H'=H1∧(∀j,j<i->rl.getD j false=true)∧A' 60=.S b 9 9∧A' 61=.Z ((9:Nat):Int)∧A' 62=.Z i) 9 ?_ ?_
  ·refine⟨0,L7 _,by omega,rfl,λj h=>by omega,?_,?_,?_⟩
   all_goals simp only[Qf,simprocAttr]
   all_goals rfl
  rintro m A' H' ⟨i,hi,rfl,aH,ay,aE,aF,av⟩;subst aH;simp only[Qf2,Qf1,sxA,sxB,Nat.reduceBEq,Nat.reduceEqDiff,reduceCtorEq,mxA,mxB,Nat.reduceAdd,reduceIte,Nat.reduceLeDiff,splice,aF,av];refine Qg (λaa=>?_) (λaa=>?_)
  ·have aa:i<9:=by have:=Lg aa;omega
   have c1:(0:Int)<=i∧(i:Int)<((9:Nat):Int):=by omega
   have c3:(i:Int).toNat=i:=by omega
   have aG:IntKind.i64.wrap ((i:Int)+1)=((i+1:Nat):Int):=by rw[w64 (by unfold I64;omega)];omega
   have g1:=QFk rl i (by omega);simp only[sxA,sxB,Nat.reduceBEq,Nat.reduceEqDiff,reduceCtorEq,mxA,mxB,Nat.reduceAdd,reduceIte,Nat.reduceLeDiff,splice,aE,av,c1,c3,aI,g1];cases q:rl.getD i false with
   | false=>
    simp only[Qb,simprocAttr,Zw];refine .ext ae (ac.trans aD) ⟨?_,_,rfl⟩;rw[aB,KW aa q];rfl
   | true=>
    simp only[sxA,sxB,Nat.reduceBEq,Nat.reduceEqDiff,reduceCtorEq,mxA,mxB,Nat.reduceAdd,reduceIte,Nat.reduceLeDiff,splice,av,aG];refine⟨9 - (i+1),by omega,i+1,by omega,rfl,rfl,λj aK=>?_,?_,?_,?_⟩
    ·rcases Nq j i with h | h;·exact ay j h
     rw[show j=i by omega];exact q
    all_goals simp only[Qf,simprocAttr,aE,aF]
  have aa:i=9:=by have:=Ll aa;omega
  subst aa;simp only[Qb,simprocAttr,Zw];refine .ext ae (ac.trans aD) ⟨?_,_,rfl⟩;rw[aB,Vy ay];rfl
 simp only[Qjo,ao,Qb,simprocAttr,ap,ab,ax];refine(au _).w ?_;rintro _ _ _ _ ⟨rfl,rfl⟩;simp only[Qf5,Qf4,Qf3,Qb,simprocAttr]
 repeat' (first
   | (refine Qz (λh=>?_) (λh=>?_)<;>(try simp only[Lr,Lu]at h)<;>simp only[Qb,simprocAttr,Zw,ab,ai,aj,ak,al,am,an,ag,ah,h])
   | (refine Qg (λh=>?_) (λh=>?_)<;>(try simp only[Lr,Lu]at h)<;>simp only[Qb,simprocAttr,Zw,ab,ai,aj,ak,al,am,an,ag,ah,h])
   | fail)
 all_goals first
  | (refine P3 _ (by simp only[Qf,simprocAttr]) ?_;rw[ad];clear ad P3 ar au ab aq ac ap ax ai aj ak al am an ag ah aA ao;simp_all<;>(repeat rw[Le (by omega)])<;>(try (rw[Lc (by omega)])))
  | (refine .ext ae ac ⟨?_,_,rfl⟩;rw[ad];clear ad P3 ar au ab aq ac ap ax ai aj ak al am an ag ah aA ao;simp_all<;>(repeat rw[Le (by omega)])<;>(try (rw[Lc (by omega)])))
def QuE {f:Fm}(h:QoN f=0):f.shapes.length<=4∧f.slots.length<=4∧(0<=f.pre∧f.pre<=5)∧(0<=f.map∧f.map<=3)∧(0<=f.code∧f.code<=255)∧(-1<=f.digit∧f.digit<=7)∧(List.range 9).all (λi=>(Qwf f).getD i false)=true:=by
 unfold QoN at h;split at h;·simp at h
 split at h;·simp at h
 split at h;·simp at h
 split at h;·simp at h
 split at h;·rename_i ae aa ab ac ad;simp only[Nw,Lv,not_or]at aa ab ac;exact⟨by omega,by omega,by omega,by omega,by omega,by omega,ad⟩
 simp at h
def QqN {f:Fm}(h:QoN f=0)(i:Nat)(hi:i<9):(Qwf f).getD i false=true:=Li.1 (QuE h).2.2.2.2.2.2 i (LU.2 hi)
def QAG {aa sl:Int}(h:Qnz aa sl=true):1<=aa∧aa<=34:=by
 unfold Qnz at h;split at h;·simp only[Lm,Lv]at h;omega
 split at h;·simp only[Lm,Lv]at h;omega
 split at h;·simp only[Lm,Lv]at h;omega
 split at h;·simp only[Nw,Lm,Lv,L0]at h;omega
 exact absurd h (by decide)
def Qwg {f:Fm}(h:QoN f=0):f.shapes.length=f.slots.length:=by
 have:=QqN h 0 (by omega);simpa[Qwf] using this
def QDf {f:Fm}(h:QoN f=0)(i:Nat)(hi:i<f.shapes.length):1<=f.shapes.getD i 0∧f.shapes.getD i 0<=34:=by
 have aa:QhM f=true:=QqN h 3 (by omega);unfold QhM at aa;rw[Lm]at aa;have:=Li.1 aa.2 i (LU.2 (by have:=Qwg h;omega));exact QAG this
def QBL {f:Fm}(h:QoN f=0):FOk f:=by
 obtain⟨_,_,ad,ac,_,_,_⟩:=QuE h;have aa:QuD f=true:=QqN h 1 (by omega);unfold QuD at aa;refine⟨ad,ac,λab=>?_,λab=>?_⟩;·rw[ab]at aa;simp only[LM,Lq,Lm,Nw,L0]at aa;exact aa.1.1.1
 rw[ab]at aa;simp only[L8,Ls,Lm,Nw,L0,Lr,LC,Da,Lv]at aa;exact⟨aa.1.1.1.2,by rcases aa.1.1.1.1 with((a | a) | a) | a<;>simp[a],⟨aa.1.1.2,aa.1.2⟩,aa.2⟩
