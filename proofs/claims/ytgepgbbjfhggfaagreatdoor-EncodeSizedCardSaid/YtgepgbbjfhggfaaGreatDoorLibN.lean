/- shape.Check, of any form. -/
import Derived.Test.YtgepgbbjfhggfaaGreatDoorLibA
import Derived.Test.YtgepgbbjfhggfaaGreatDoorC4Shape
import Derived.Test.YtgepgbbjfhggfaaGreatDoorLibB
set_option linter.unusedVariables false
set_option linter.unusedSimpArgs false
set_option maxRecDepth 100000
set_option maxHeartbeats 2000000
set_option maxHeartbeats 4000000
namespace Go.Proofs.YtgepgbbjfhggfaaGreatDoor.code
open Go.Ab
def opV (o:Int):Bool:=decide (1<=o)&&decide (o<=322)
theorem QIZ (o:Int)(H:Qa):Qe prog 42 [.int .i64 o] H λu H'=>u=.bool (opV o)∧H'=H:=by
 refine Qmb λq=>?_;simp(disch:=(first | omega | (simp only[hnP];try omega))) only[Qgb,Qk,simprocAttr,KN]
 repeat' (first
   | (refine Qq (λh=>?_) (λh=>?_)<;>(try simp only[Lr,Lu]at h)<;>simp(disch:=(first | omega | (simp only[hnP];try omega))) only[Qk,simprocAttr,KN,h])
   | fail)
 all_goals refine .mk (Lb _) ⟨?_,rfl⟩
 all_goals (simp_all [opV]<;>omega)
def Qf5 (sh sl:Int):Bool:=
 if sl=6 then decide (28<=sh)&&decide (sh<=33) else if sl=5 then decide (20<=sh)&&decide (sh<=27)
 else if sl=1∨sl=3∨sl=4∨sl=7 then decide (1<=sh)&&decide (sh<=6) else if sl=2 then(decide (1<=sh)&&decide (sh<=19))||(sh==34) else false
theorem QvZ (sh sl:Int)(H:Qa):Qe prog 377 [.int .i64 sh,.int .i64 sl] H λu H'=>u=.bool (Qf5 sh sl)∧H'=H:=by
 refine Qt5 λq=>?_;simp(disch:=(first | omega | (simp only[hnP];try omega))) only[Qmv,Qjf,Qjg,Qjh,Qji,Qjj,Qk,simprocAttr,Qe0]
 repeat' (first
   | (refine Qq (λh=>?_) (λh=>?_)<;>(try simp only[Lr,Lu]at h)<;>simp(disch:=(first | omega | (simp only[hnP];try omega))) only[Qk,simprocAttr,Qe0,h])
   | (refine Qf (λh=>?_) (λh=>?_)<;>(try simp only[Lr,Lu]at h)<;>simp(disch:=(first | omega | (simp only[hnP];try omega))) only[Qk,simprocAttr,Qe0,h])
   | fail)
 all_goals refine .mk (Lb _) ⟨?_,rfl⟩
 all_goals (simp only[L0,Lv,NY,LC,Da]at *)
 all_goals (unfold Qf5;simp_all<;>omega)
def Qv0 (c:Int):Bool:=(decide (64<=c)&&decide (c<=79))||(c==15)||(c==102)||(c==196)||(c==197)||(c==242)||(c==243)
theorem Qt6 (c:Int)(H:Qa):Qe prog 347 [.int .i64 c] H λu H'=>u=.bool (Qv0 c)∧H'=H:=by
 refine QsW λq=>?_;simp(disch:=(first | omega | (simp only[hnP];try omega))) only[Qk2,Qk,simprocAttr,QdI]
 repeat' (first
   | (refine Qq (λh=>?_) (λh=>?_)<;>(try simp only[Lr,Lu]at h)<;>simp(disch:=(first | omega | (simp only[hnP];try omega))) only[Qk,simprocAttr,QdI,h])
   | (refine Qf (λh=>?_) (λh=>?_)<;>(try simp only[Lr,Lu]at h)<;>simp(disch:=(first | omega | (simp only[hnP];try omega))) only[Qk,simprocAttr,QdI,h])
   | fail)
 all_goals refine .mk (Lb _) ⟨?_,rfl⟩
 all_goals (simp only[Qv0];simp_all<;>omega)
def QA6 (H:Qa)(v:Value)(l:List Int):Prop:=∃a cap,v=.slice a l.length cap∧(0<l.length->∃b e ro cs,a=some ⟨b,0,none⟩∧H.get b=some (.cells cs e ro)∧∀j,j<l.length->cs[j]? = some (.int .i64 (l.getD j 0)))
theorem QxM (va:Value)(xs:List Int)(x:Int)(H:Qa)(al:QA6 H va xs)(au:xs.length<=1000):Qe prog 75 [va,.int .i64 x] H λu H'=>u=.int .i64 (Qp xs x)∧H'=H:=by
 refine V9 λav=>?_;obtain⟨ag,ah,rfl,ao⟩:=al;simp only[Jl,Qb,simprocAttr];refine Qo (λm A' H'=>∃i:Nat,i<=xs.length∧m=xs.length - i∧H'=H∧(∀j,j<i->¬x=xs.getD j 0)∧A' 0=.slice ag xs.length ah∧A' 1=.int .i64 x∧A' 7=.int .i64 (xs.length:Int)∧A' 8=.int .i64 i) xs.length ?_ ?_
 ·refine⟨0,L7 _,by omega,rfl,λj h=>by omega,?_,?_,?_,?_⟩
  all_goals simp only[uxA,uxB,Nat.reduceBEq]
  rfl
 ·rintro m A' H' ⟨i,hi,rfl,ak,ac,ad,r1,ae,ab⟩;subst ak;simp only[Qb,simprocAttr,ae,ab];refine Qf (λq=>?_) (λq=>?_)
  ·have q:i<xs.length:=by have:=Lg q;omega
   obtain⟨aq,e1,aw,cs,rfl,am,an⟩:=ao (by omega);have ai:(0:Int)<=i∧(i:Int)<xs.length:=by omega
   have aj:(i:Int).toNat=i:=by omega
   have ei:IntKind.i64.wrap ((i:Int)+1)=((i+1:Nat):Int):=by rw[w64 (by unfold I64;omega)];omega
   have g1:=an i q;simp only[Qb,simprocAttr,ad,r1,ab,ai,aj,am,g1];refine Qf (λaa=>?_) (λaa=>?_)
   ·have aa:x=xs.getD i 0:=by simpa using aa
    simp only[Qb,simprocAttr,ab,Yt];exact .mk (Lb _) ⟨by rw[Qp,Qn9 x xs 0 i ac q aa,LP],rfl⟩
   ·have aa:¬x=xs.getD i 0:=by simpa using aa
    simp only[Qb,simprocAttr,ab,ei];refine⟨xs.length - (i+1),by omega,i+1,by omega,rfl,rfl,λj ar=>?_,?_,?_,?_,?_⟩
    ·rcases Nq j i with h | h
     ·exact ac j h
     ·rw[show j=i by omega];exact aa
    all_goals simp only[Qg,simprocAttr,ad,r1,ae]
  ·have q:i=xs.length:=by have:=Ll q;omega
   subst q;simp only[Qb,simprocAttr,Yt];exact .mk (Lb _) ⟨by rw[Qp,Qoa x xs 0 ac],rfl⟩
theorem QsX (va:Value)(xs:List Int)(x:Int)(H:Qa)(q:QA6 H va xs)(aa:xs.length<=1000):Qe prog 51 [va,.int .i64 x] H λu H'=>u=.bool (decide (0<=Qp xs x))∧H'=H:=by
 refine QeZ λab=>?_;simp only[Gg,Qb,simprocAttr];refine(QxM va xs x H q aa).thenW ?_;rintro _ _ _ _ ⟨rfl,rfl⟩;simp only[Qb,simprocAttr,Qeb];exact .mk (Lb _) ⟨rfl,rfl⟩
theorem QFH {b len cap i:Nat}(q:QxL len cap)(hi:i<=len):QaC 1 (.slice (some ⟨b,0,none⟩) len cap) none (some (i:Int)) none=some (.slice (some ⟨b,0,none⟩) i cap):=by
 unfold QaC;rcases q with rfl | ⟨aa,ab⟩
 ·simp only[Br,NB];rw[Lc (Ro _ _),Lc ⟨B0 _,by omega,by omega,trivial⟩];simp
 ·simp only[Br,NB];rw[Le (by omega),Lc (by omega)];simp
def QsY (l:List Int)(k:Nat):Bool:=(l.getD k 0==6)||!(decide (0<=Qp (l.take k) (l.getD k 0)))
def QxN (l:List Int):Bool:=(List.range l.length).all (QsY l)
theorem Gh {n:Nat}{p:Nat->Bool}(h:∀j,j<n->p j=true):(List.range n).all p=true:=by
 rw[Li];intro j q;exact h j (LU.1 q)
theorem Ke {n i:Nat}{p:Nat->Bool}(hi:i<n)(h:p i=false):(List.range n).all p=false:=by
 rw[List.all_eq_false];exact⟨i,LU.2 hi,by rw[h];decide⟩
theorem Qv1 (va:Value)(xs:List Int)(H:Qa)(av:QdA H va xs.length (ints xs))(aA:xs.length<=1000)(aw:∀a n c,va=.slice (some a) n c->QxL n c):Qe prog 345 [va] H λu H'=>u=.bool (QxN xs)∧H'=H:=by
 refine Qt4 λaB=>?_;obtain⟨ai,ac,rfl,ax⟩:=av;simp only[Qmu,Qb,simprocAttr];refine Qo (λm A' H'=>∃i:Nat,i<=xs.length∧m=xs.length - i∧H'=H∧(∀j,j<i->QsY xs j=true)∧A' 0=.slice ai xs.length ac∧A' 5=.slice ai xs.length ac∧A' 6=.int .i64 (xs.length:Int)∧A' 7=.int .i64 i) xs.length ?_ ?_
 ·refine⟨0,L7 _,by omega,rfl,λj h=>by omega,?_,?_,?_,?_⟩
  all_goals simp only[uxA,uxB,Nat.reduceBEq]
  rfl
 ·rintro m A' H' ⟨i,hi,rfl,au,aj,ae,r5,ah,ab⟩;subst au;simp only[Qb,simprocAttr,ah,ab];refine Qf (λq=>?_) (λq=>?_)
  ·have q:i<xs.length:=by have:=Lg q;omega
   obtain⟨ad,e1,az,rfl,ak⟩:=ax (by omega);have aq:(0:Int)<=i∧(i:Int)<xs.length:=by omega
   have ar:(i:Int).toNat=i:=by omega
   have ei:IntKind.i64.wrap ((i:Int)+1)=((i+1:Nat):Int):=by rw[w64 (by unfold I64;omega)];omega
   have g1:=ZJ (l:=xs) (i:=i) (by omega);have next:QsY xs i=true->∀j,j<i+1->QsY xs j=true:=λh j ag=>by
    rcases Nq j i with h' | h'
    ·exact aj j h'
    ·rw[show j=i by omega];exact h
   have aa:QsY xs i=((xs.getD i 0==6)||!(decide (0<=Qp (xs.take i) (xs.getD i 0)))):=rfl;simp only[Qb,simprocAttr,ae,r5,ab,aq,ar,ak,g1];cases am:xs.getD i 0==6 with
   | true=>
    rw[am,N1]at aa;simp only[Qb,simprocAttr,ab,ei];refine⟨xs.length - (i+1),by omega,i+1,by omega,rfl,rfl,next aa,?_,?_,?_,?_⟩
    all_goals simp only[Qg,simprocAttr,ae,r5,ah]
   | false=>
    rw[am,Nt]at aa;have al:(xs.take i).length=i:=by rw[Sb];omega
    have ay:QA6 H' (.slice (some ⟨ad,0,none⟩) i ac) (xs.take i):=⟨some ⟨ad,0,none⟩,ac,by rw[al],λ_=>⟨ad,e1,az,_,rfl,ak,λj ag=>by
     rw[al]at ag;rw[ZJ (by omega)];simp[List.getD,Nl,ag]⟩⟩
    have ao:=QFH (b:=ad) (aw _ _ _ rfl) (Nat.le_of_lt q);simp only[Qb,simprocAttr,ae,ab,ao];refine(QsX _ (xs.take i) (xs.getD i 0) H' ay (by omega)).thenW ?_;rintro _ _ _ _ ⟨rfl,rfl⟩;simp only[Qb,simprocAttr];cases an:decide (0<=Qp (xs.take i) (xs.getD i 0)) with
    | true=>
     rw[an]at aa;simp only[Qb,simprocAttr,Qk1];exact .mk (Lb _) ⟨by rw[QxN,Ke q aa],rfl⟩
    | false=>
     rw[an]at aa;simp only[Qb,simprocAttr,ab,ei];refine⟨xs.length - (i+1),by omega,i+1,by omega,rfl,rfl,next aa,?_,?_,?_,?_⟩
     all_goals simp only[Qg,simprocAttr,ae,r5,ah]
  ·have q:i=xs.length:=by have:=Ll q;omega
   subst q;simp only[Qb,simprocAttr,Qk1];exact .mk (Lb _) ⟨by rw[QxN,Gh aj],rfl⟩
def QzK (f:Fm)(k:Nat):Bool:=Qf5 (f.shapes.getD k 0) (f.slots.getD k 0)
def Qjk (f:Fm):Bool:=(f.shapes.length==f.slots.length)&&(List.range f.slots.length).all (QzK f)
theorem Qro (x:Lf)(H:Qa)(aC:x.At H):Qe prog 346 [.agg x.cells.toArray] H λu H'=>u=.bool (Qjk x.f)∧∃m,H'=H.up m:=by
 refine QpZ λag=>?_;have aw:(Value.agg x.cells.toArray).cells.toList=x.cells:=rfl;have ah:Ext H (H.push (.cells x.cells 45 false)):=(Ext.refl H).push _;have ad:(H.push (.cells x.cells 45 false)).get H.next=some (.cells x.cells 45 false):=by rw[Qc,Lc rfl]
 have aB:=ag.push (.cells x.cells 45 false);obtain⟨aH,aI,ax,aa⟩:=aC.ext ag ah;obtain⟨a1,au,e1,aq⟩:=ax;obtain⟨a2,al,e2,ar⟩:=aa;have aj:x.cells[1]? = some (.slice a1 x.f.shapes.length au):=by rw[<- e1];rfl
 have ak:x.cells[2]? = some (.slice a2 x.f.slots.length al):=by rw[<- e2];rfl
 simp only[QhB,aw,Qb,simprocAttr,aj,ak];generalize aF:H.push (.cells x.cells 45 false)=H0 at ah ad aB aq ar;have ac:∀b,b=Qjk x.f->Ret H (λu H'=>u=.bool (Qjk x.f)∧∃m,H'=H.up m) (.bool b) H0:=λb hb=>.ext ag ah ⟨by rw[hb],_,rfl⟩
 by_cases ae:x.f.shapes.length=x.f.slots.length
 ·have e0:((x.f.shapes.length:Int)==(x.f.slots.length:Int))=true:=by simp[ae]
  simp only[e0,Qb,simprocAttr,ad,aj,ak];refine Qo (λm A' H'=>∃i:Nat,i<=x.f.slots.length∧m=x.f.slots.length - i∧H'=H0∧(∀j,j<i->QzK x.f j=true)∧A' 1=.pointer (some ⟨H.next,0,none⟩)∧A' 13=.slice a2 x.f.slots.length al∧A' 14=.int .i64 (x.f.slots.length:Int)∧A' 15=.int .i64 i) x.f.slots.length ?_ ?_
  ·refine⟨0,L7 _,by omega,rfl,λj h=>by omega,?_,?_,?_,?_⟩
   all_goals simp only[uxA,uxB,Nat.reduceBEq]
   rfl
  ·rintro m A' H' ⟨i,hi,rfl,ay,am,r1,an,ao,ai⟩;subst ay;simp only[Qb,simprocAttr,ao,ai];refine Qf (λaa=>?_) (λaa=>?_)
   ·have aa:i<x.f.slots.length:=by have:=Lg aa;omega
    obtain⟨aD,t1,aJ,rfl,az⟩:=aq (by omega);obtain⟨aE,t2,aK,rfl,aA⟩:=ar (by omega);have d1:(0:Int)<=i∧(i:Int)<x.f.slots.length:=by omega
    have d2:(0:Int)<=i∧(i:Int)<x.f.shapes.length:=by omega
    have av:(i:Int).toNat=i:=by omega
    have ei:IntKind.i64.wrap ((i:Int)+1)=((i+1:Nat):Int):=by rw[w64 (by unfold I64;omega)];omega
    have g1:=ZJ (l:=x.f.shapes) (i:=i) (by omega);have g2:=ZJ (l:=x.f.slots) (i:=i) (by omega);simp only[Qb,simprocAttr,r1,an,ai,d1,d2,av,az,aA,g1,g2,ad,aj,ak];refine(QvZ _ _ _).thenW ?_;rintro _ _ _ _ ⟨rfl,rfl⟩;have ab:QzK x.f i=Qf5 (x.f.shapes.getD i 0) (x.f.slots.getD i 0):=rfl;simp only[Qb,simprocAttr];cases q:Qf5 (x.f.shapes.getD i 0) (x.f.slots.getD i 0) with
    | false=>
     rw[q]at ab;simp only[Qb,simprocAttr,QbK];exact ac _ (by rw[Qjk,Ke aa ab,NJ])
    | true=>
     rw[q]at ab;simp only[Qb,simprocAttr,ai,ei];refine⟨x.f.slots.length - (i+1),by omega,i+1,by omega,rfl,rfl,λj aG=>?_,?_,?_,?_,?_⟩
     ·rcases Nq j i with h | h
      ·exact am j h
      ·rw[show j=i by omega];exact ab
     all_goals simp only[Qg,simprocAttr,r1,an,ao]
   ·have aa:i=x.f.slots.length:=by have:=Ll aa;omega
    subst aa;simp only[Qb,simprocAttr,QbK];exact ac _ (by rw[Qjk,Gh am,ae];simp)
 ·have e0:((x.f.shapes.length:Int)==(x.f.slots.length:Int))=false:=by simp;omega
  simp only[e0,Qb,simprocAttr,QbK];exact ac _ (by rw[Qjk];simp[ae])
def QuP (f:Fm):Bool:=bif !f.vex then((f.w==0)||(f.w==1))&&(f.l==0)&&decide (Qp f.slots 3<0)&&decide (Qp f.slots 7<0) else((f.pre==0)||(f.pre==1)||(f.pre==2)||(f.pre==4))&&(!(f.map==0))&&decide (-1<=f.w)&&decide (f.w<=1)&&((f.l==0)||(f.l==1))
theorem Qp0 (x:Lf)(H:Qa)(ac:x.At H):Qe prog 344 [.agg x.cells.toArray] H λu H'=>u=.bool (QuP x.f)∧∃m,H'=H.up m:=by
 refine QoZ λab=>?_;have ae:=λH' (q:Ext H H')=>Ww x 3 H' (ac.ext ab q);have ag:=λH' (q:Ext H H')=>Ww x 7 H' (ac.ext ab q);have ad:QuP x.f=bif !x.f.vex then((x.f.w==0)||(x.f.w==1))&&(x.f.l==0)&&decide (Qp x.f.slots 3<0)&&decide (Qp x.f.slots 7<0) else((x.f.pre==0)||(x.f.pre==1)||(x.f.pre==2)||(x.f.pre==4))&&(!(x.f.map==0))&&decide (-1<=x.f.w)&&decide (x.f.w<=1)&&((x.f.l==0)||(x.f.l==1)):=rfl
 rw[ad];clear ad ac;generalize Qp x.f.slots 3=i3 at *;generalize Qp x.f.slots 7=i7 at *;obtain⟨⟨am,an,al,aj,ak,ar,fl,ah,ao,aq⟩,sv,tv⟩:=x;simp only[Lf.cells]at ae ag ⊢;cases ah
 all_goals simp(disch:=(first | omega | (simp only[hnP];try omega))) only[Qf4,X1,X2,X3,X4,Qk,simprocAttr,Zp]
 all_goals repeat' (first
   | (refine Qq (λh=>?_) (λh=>?_)<;>(try simp only[Lr,Lu]at h)<;>simp(disch:=(first | omega | (simp only[hnP];try omega))) only[X1,X2,X3,X4,Qk,simprocAttr,Zp,h])
   | (refine Qf (λh=>?_) (λh=>?_)<;>(try simp only[Lr,Lu]at h)<;>simp(disch:=(first | omega | (simp only[hnP];try omega))) only[X1,X2,X3,X4,Qk,simprocAttr,Zp,h])
   | (refine(ae _ (by(repeat' (first | exact Ext.refl _ | refine Ext.push ?_ _ | refine Ext.up ?_ (by simp only[Qd,Qv,Ql];omega))))).thenW ?_;rintro _ _ aa ai ⟨rfl,k,rfl⟩;(try simp only[Qd,Ql,Qv]at aa);simp(disch:=(first | omega | (simp only[hnP];try omega))) only[X1,X2,X3,X4,Qk,simprocAttr,Zp])
   | (refine(ag _ (by(repeat' (first | exact Ext.refl _ | refine Ext.push ?_ _ | refine Ext.up ?_ (by simp only[Qd,Qv,Ql];omega))))).thenW ?_;rintro _ _ aa ai ⟨rfl,k,rfl⟩;(try simp only[Qd,Ql,Qv]at aa);simp(disch:=(first | omega | (simp only[hnP];try omega))) only[X1,X2,X3,X4,Qk,simprocAttr,Zp])
   | fail)
 all_goals refine .ext ab ?_ ⟨?_,_,rfl⟩
 all_goals try (repeat' (first | exact Ext.refl _ | refine Ext.push ?_ _ | refine Ext.up ?_ (by simp only[Qd,Qv,Ql];omega)))
 all_goals (simp_all<;>omega)
theorem Qt7 (x:Lf)(H:Qa)(ac:x.At H):Qe prog 343 [.agg x.cells.toArray] H λu H'=>u=.bool (decide (0<=Qp x.f.slots 2))∧∃m,H'=H.up m:=by
 refine QsV λaa=>?_;have ab:(Value.agg x.cells.toArray).cells.toList=x.cells:=rfl;simp only[Qk0,ab,QK,Wt,Qb,simprocAttr];refine(Ww x 2 _ (ac.ext aa ((Ext.refl H).push _))).thenW ?_;rintro _ _ q ad ⟨rfl,m,rfl⟩;simp only[Ql,Qd]at q;simp only[Qb,simprocAttr,Qrn];exact .ext aa (((Ext.refl H).push _).up (by simp only[Qd];exact q)) ⟨rfl,_,rfl⟩
def QFI (c:Int):Int:=IntKind.i64.wrap (BitVec.ofInt IntKind.i64.bits c &&& BitVec.ofInt IntKind.i64.bits 7).toNat
def Qv2 (f:Fm):List Bool:=
 let r:=decide (0<=Qp f.slots 1);let m:=decide (0<=Qp f.slots 2);let c:=decide (0<=Qp f.slots 4);let d:=decide (0<=f.digit)
 [f.shapes.length==f.slots.length,QuP f,QxN f.slots,Qjk f,!c||((QFI f.code==0)&&!r&&!m&&!d),!r||!d,!m||r||d,m||(!r&&!d),!(f.map==0)||!Qv0 f.code]
theorem QFJ {M:Nat}{v:Value}{l:List Int}(h:SlF M v l):∀a n c,v=.slice (some a) n c->QxL n c:=by
 rintro a n c rfl;rcases h with⟨_,h⟩ | ⟨_,b,cap,h,_,q⟩
 ·cases h
 ·cases h;exact q
theorem QlA {M:Nat}{v:Value}{l:List Int}{H:Qa}{cs:List Value}(ac:H.Wf)(h:SlF M v l)(aa:QdA H v l.length cs)(m:Nat)(ae:H.next<=m)(n:Nat):Qi m (n+1) v=true:=by
 rcases h with⟨_,rfl⟩ | ⟨ab,b,cap,rfl,_,_⟩
 ·rfl
 ·obtain⟨a,c,e,q⟩:=aa;cases e;obtain⟨ad,_,_,e3,hb⟩:=q (Rj.2 ab);cases e3;have:=ac.lt hb;simp only[Qi,B5];omega
theorem Qt8 (x:Lf)(H:Qa)(aa:x.At H)(az:x.Fr 0):Qe prog 212 [.agg x.cells.toArray] H λu H'=>∃b,u=.slice (some ⟨b,0,none⟩) 9 9∧Ext H H'∧H'.get b=some (.cells ((Qv2 x.f).map .bool) 4 false):=by
  refine QsU λac=>?_;have bs:=λm ab n=>QlA ac az.1 aa.2.2.1 m ab n;have bt:=λm ab n=>QlA ac az.2 aa.2.2.2 m ab n;have hb:∀m,H.next<=m->Qi m 6 (.agg x.cells.toArray)=true:=λm ab=>by
    have aq:=bs m ab 4;have aw:=bt m ab 4;simp[Qi,Lf.cells,plain]at aq aw ⊢;exact⟨aq,aw⟩
  have aH:∀m,H.next<=m->Qi m 6 x.sv=true:=λm ab=>bs m ab 5;have ay:∀m,H.next<=m->Qi m 6 x.tv=true:=λm ab=>bt m ab 5;have br:=λH' (q:Ext H H')=>Ww x 1 H' (aa.ext ac q);have bu:=λH' (q:Ext H H')=>Ww x 4 H' (aa.ext ac q);have bw:=λH' (q:Ext H H')=>Qt7 x H' (aa.ext ac q);have bx:=λH' (q:Ext H H')=>Qp0 x H' (aa.ext ac q);have bv:=λH' (q:Ext H H')=>Qro x H' (aa.ext ac q);have bg:=λH' (q:Ext H H')=>Qv1 x.tv x.f.slots H' (aa.ext ac q).2.2.2 aa.2.1 (QFJ az.2);have bz:=λH'=>Qt6 x.f.code H';have ad:(Value.agg x.cells.toArray).cells.toList=x.cells:=rfl;obtain⟨a1,bh,e1,_⟩:=id aa.2.2.1;obtain⟨a2,bi,e2,_⟩:=id aa.2.2.2;have ai:x.cells[1]? = some (.slice a1 x.f.shapes.length bh):=by rw[<- e1];rfl
  have aj:x.cells[2]? = some (.slice a2 x.f.slots.length bi):=by rw[<- e2];rfl
  have ae:x.cells[4]? = some (.int .i64 x.f.map):=rfl;have ag:x.cells[5]? = some (.int .i64 x.f.code):=rfl;have ak:x.cells[6]? = some (.int .i64 x.f.digit):=rfl;rw[e1]at aH;rw[e2]at ay bg;have aT:Qv2 x.f=[x.f.shapes.length==x.f.slots.length,QuP x.f,QxN x.f.slots,Qjk x.f,!decide (0<=Qp x.f.slots 4)||((QFI x.f.code==0)&&!decide (0<=Qp x.f.slots 1)&&!decide (0<=Qp x.f.slots 2)&&!decide (0<=x.f.digit)),!decide (0<=Qp x.f.slots 1)||!decide (0<=x.f.digit),!decide (0<=Qp x.f.slots 2)||decide (0<=Qp x.f.slots 1)||decide (0<=x.f.digit),decide (0<=Qp x.f.slots 2)||(!decide (0<=Qp x.f.slots 1)&&!decide (0<=x.f.digit)),!(x.f.map==0)||!Qv0 x.f.code]:=rfl;rw[aT];clear aT;have b3:∀b,Ext H (H.push b):=λb=>(Ext.refl H).push _;simp only[QkZ,ad,QK,Wt,Qb,simprocAttr];have aE:Ext H (H.push (.cells x.cells 45 false)):=(Ext.refl H).push _;have aN:(H.push (.cells x.cells 45 false)).get H.next=some (.cells x.cells 45 false):=by rw[Qc,Lc rfl]
  have aU:=ac.push (.cells x.cells 45 false);have aG:H.next<(H.push (.cells x.cells 45 false)).next:=Rq _;generalize H.push (.cells x.cells 45 false)=H0 at aE aN aU aG
  -- each call leaves the box where it is
  have step:∀ (H1:Qa) (m:Nat),Ext H H1->H1.Wf->H1.get H.next=some (.cells x.cells 45 false)->H.next<H1.next->H1.next<=m->Ext H (H1.up m)∧(H1.up m).get H.next=some (.cells x.cells 45 false)∧H.next<(H1.up m).next∧EqB H1 (H1.up m):=λH1 m aq aw bj b2 aF=>⟨aq.up aF,by rw[Zk];exact bj,by simp only[Ql];omega,((Ext.refl H1).up aF).eqB⟩;have bm:=aG;refine⟨⟨Rq _,Rq _⟩,(br _ aE).thenW ?_⟩;rintro _ _ aO aV ⟨rfl,aZ,rfl⟩;simp only[Ql]at aO;obtain⟨au,aA,ax,aJ⟩:=step _ aZ aE aU aN bm aO;generalize Qa.up _ aZ=H1 at aV au aA ax aJ;simp only[Qb,simprocAttr,aA,ad,QK,Wt,ai,aj,ae,ag,ak];refine⟨aJ,hb _ au.next,ax,(bw _ au).thenW ?_⟩;rintro _ _ aP aW ⟨rfl,ba,rfl⟩;simp only[Ql]at aP;obtain⟨av,aB,aI,aK⟩:=step _ ba au aV aA ax aP;generalize Qa.up _ ba=H2 at aW av aB aI aK;simp only[Qb,simprocAttr,aB,ad,QK,Wt,ai,aj,ae,ag,ak];refine⟨aK,hb _ av.next,(bu _ av).thenW ?_⟩;rintro _ _ aQ aX ⟨rfl,bb,rfl⟩;simp only[Ql]at aQ;obtain⟨an,aC,al,bo⟩:=step _ bb av aW aB aI aQ;generalize Qa.up _ bb=H3 at aX an aC al bo;simp only[Qb,simprocAttr,aC,ad,QK,Wt,ai,aj,ae,ag,ak];refine⟨aH _ an.next,ay _ an.next,⟨al,al,al⟩,(bx _ an).thenW ?_⟩;rintro _ _ aR aY ⟨rfl,bc,rfl⟩;simp only[Ql]at aR;obtain⟨ah,ar,am,aL⟩:=step _ bc an aX aC al aR;generalize Qa.up _ bc=H4 at aY ah ar am aL;simp only[Qb,simprocAttr,ar,ad,QK,Wt,ai,aj,ae,ag,ak];refine⟨aL,ay _ ah.next,⟨am,am⟩,(bg _ ah).thenW ?_⟩;rintro _ _ _ _ ⟨rfl,rfl⟩;simp only[Qb,simprocAttr,ar,ad,QK,Wt,ai,aj,ae,ag,ak];refine⟨(Ext.refl _).eqB,hb _ ah.next,am,(bv _ ah).thenW ?_⟩;rintro _ _ aS bp ⟨rfl,bd,rfl⟩;simp only[Ql]at aS;obtain⟨ao,aD,bn,aM⟩:=step _ bd ah aY ar am aS;generalize Qa.up _ bd=H5 at bp ao aD bn aM;simp only[Qb,simprocAttr,aD,ad,QK,Wt,ai,aj,ae,ag,ak];refine⟨aM,?_⟩;have bk:IntKind.i64.wrap (BitVec.ofInt IntKind.i64.bits x.f.code &&& BitVec.ofInt IntKind.i64.bits 7).toNat=QFI x.f.code:=rfl;have e0:((x.f.shapes.length:Int)==(x.f.slots.length:Int))=(x.f.shapes.length==x.f.slots.length):=by
    rw[Ni,L0,L0];omega
  generalize decide (0<=Qp x.f.slots 1)=r;generalize decide (0<=Qp x.f.slots 2)=m;generalize decide (0<=Qp x.f.slots 4)=c;generalize decide (0<=x.f.digit)=d;cases b1:(QFI x.f.code==0)<;>cases bq:(x.f.map==0)
  all_goals cases c<;>cases r<;>cases m<;>cases d
  all_goals simp only[Qb,simprocAttr,aD,ae,ag,bk,b1,bq,e0,Qje]
  all_goals refine⟨rfl,?_⟩
  all_goals first
    | (refine(bz _).thenW ?_
       rintro _ _ _ _ ⟨rfl,rfl⟩;simp only[Qb,simprocAttr,Qje];refine⟨λ_ _=>rfl,?_⟩;exact .mk (ao.push _).next ⟨_,rfl,ao.push _,by rw[Qc,Lc rfl];simp⟩)
    | exact .mk (ao.push _).next ⟨_,rfl,ao.push _,by rw[Qc,Lc rfl];simp⟩
theorem QDQ (l:List Bool)(i:Nat)(h:i<l.length):(l.map Value.bool)[i]? = some (.bool (l.getD i false)):=by
 simp[List.getD,La h]
def Qec (f:Fm):Int:=
 if opV f.op=false then 6
 else if(decide (4<f.shapes.length)||decide (4<f.slots.length))=true then 3
 else if(decide (f.pre<0)||decide (5<f.pre)||decide (f.map<0)||decide (3<f.map))=true then 5
 else if(decide (f.code<0)||decide (255<f.code)||decide (f.digit < -1)||decide (7<f.digit))=true then 5
 else if((List.range 9).all λi=>(Qv2 f).getD i false)=true then 0 else 2
theorem Qt9 (x:Lf)(H:Qa)(ao:x.At H)(aB:x.Fr 0):Qe prog 110 [.agg x.cells.toArray] H λu H'=>u=.int .i64 (Qec x.f)∧∃m,H'=H.up m:=by
 refine QsT λae=>?_;have ar:(Value.agg x.cells.toArray).cells.toList=x.cells:=rfl;have ac:Ext H (H.push (.cells x.cells 45 false)):=(Ext.refl H).push _;have aa:(H.push (.cells x.cells 45 false)).get H.next=some (.cells x.cells 45 false):=by rw[Qc,Lc rfl]
 have av:=ae.push (.cells x.cells 45 false);obtain⟨a1,aq,e1,_⟩:=id ao.2.2.1;obtain⟨a2,aI,e2,_⟩:=id ao.2.2.2;have az:x.cells[0]? = some (.int .i64 x.f.op):=rfl;have ai:x.cells[1]? = some (.slice a1 x.f.shapes.length aq):=by rw[<- e1];rfl
 have aj:x.cells[2]? = some (.slice a2 x.f.slots.length aI):=by rw[<- e2];rfl
 have ak:x.cells[3]? = some (.int .i64 x.f.pre):=rfl;have al:x.cells[4]? = some (.int .i64 x.f.map):=rfl;have am:x.cells[5]? = some (.int .i64 x.f.code):=rfl;have an:x.cells[6]? = some (.int .i64 x.f.digit):=rfl;have ax:=QIZ x.f.op;have aw:=λH' (aM:Ext H H')=>Qt8 x H' (ao.ext ae aM) aB;have aC:(Qv2 x.f).length=9:=rfl;have ag:decide ((4:Int)<x.f.shapes.length)=decide (4<x.f.shapes.length):=by rw[BD];omega
 have ah:decide ((4:Int)<x.f.slots.length)=decide (4<x.f.slots.length):=by rw[BD];omega
 have aE:Qec x.f=if opV x.f.op=false then 6
  else if(decide (4<x.f.shapes.length)||decide (4<x.f.slots.length))=true then 3
  else if(decide (x.f.pre<0)||decide (5<x.f.pre)||decide (x.f.map<0)||decide (3<x.f.map))=true then 5
  else if(decide (x.f.code<0)||decide (255<x.f.code)||decide (x.f.digit < -1)||decide (7<x.f.digit))=true then 5
  else if((List.range 9).all λi=>(Qv2 x.f).getD i false)=true then 0 else 2:=rfl
 rw[aE];clear aE ao aB e1 e2;generalize Qv2 x.f=rl at *;generalize opV x.f.op=ov at *;generalize au:H.push (.cells x.cells 45 false)=H0 at ac aa av;obtain⟨r,ad⟩:∃r,r=(if ov=false then(6:Int)
  else if(decide (4<x.f.shapes.length)||decide (4<x.f.slots.length))=true then 3
  else if(decide (x.f.pre<0)||decide (5<x.f.pre)||decide (x.f.map<0)||decide (3<x.f.map))=true then 5
  else if(decide (x.f.code<0)||decide (255<x.f.code)||decide (x.f.digit < -1)||decide (7<x.f.digit))=true then 5
  else if((List.range 9).all λi=>rl.getD i false)=true then 0 else 2):=⟨_,rfl⟩
 rw[<- ad];have P3:∀A,A 1=.pointer (some ⟨H.next,0,none⟩)->r=(if((List.range 9).all λi=>rl.getD i false)=true then 0 else 2)->Qm prog QcL ⟨Rt prog Tryz.f110 H λu H'=>u=.int .i64 r∧∃m,H'=H.up m,WL⟩ (Rt prog Tryz.f110 H λu H'=>u=.int .i64 r∧∃m,H'=H.up m) A H0:=by
  intro A r1 aD;simp only[QcL,Qb,simprocAttr,r1,aa,QK,Wt];refine(aw _ ac).thenW ?_;rintro _ H1 aO aP ⟨b,rfl,aF,aL⟩;simp only[Qb,simprocAttr];refine Qo (λm A' H'=>∃i:Nat,i<=9∧m=9 - i∧H'=H1∧(∀j,j<i->rl.getD j false=true)∧A' 60=.slice (some ⟨b,0,none⟩) 9 9∧A' 61=.int .i64 ((9:Nat):Int)∧A' 62=.int .i64 i) 9 ?_ ?_
  ·refine⟨0,L7 _,by omega,rfl,λj h=>by omega,?_,?_,?_⟩
   all_goals simp only[Qg,simprocAttr]
   all_goals rfl
  ·rintro m A' H' ⟨i,hi,rfl,aK,aA,aG,aH,ay⟩;subst aK;simp only[Qhx,Qhw,sxA,sxB,Nat.reduceBEq,Nat.reduceEqDiff,reduceCtorEq,mxA,mxB,Nat.reduceAdd,reduceIte,Nat.reduceLeDiff,splice,aH,ay];refine Qf (λab=>?_) (λab=>?_)
   ·have ab:i<9:=by have:=Lg ab;omega
    have aq:(0:Int)<=i∧(i:Int)<((9:Nat):Int):=by omega
    have aJ:(i:Int).toNat=i:=by omega
    have ei:IntKind.i64.wrap ((i:Int)+1)=((i+1:Nat):Int):=by rw[w64 (by unfold I64;omega)];omega
    have g1:=QDQ rl i (by omega);simp only[sxA,sxB,Nat.reduceBEq,Nat.reduceEqDiff,reduceCtorEq,mxA,mxB,Nat.reduceAdd,reduceIte,Nat.reduceLeDiff,splice,aG,ay,aq,aJ,aL,g1];cases q:rl.getD i false with
    | false=>
     simp only[Qb,simprocAttr,Kd];refine .ext ae (ac.trans aF) ⟨?_,_,rfl⟩;rw[aD,Ke ab q];rfl
    | true=>
     simp only[sxA,sxB,Nat.reduceBEq,Nat.reduceEqDiff,reduceCtorEq,mxA,mxB,Nat.reduceAdd,reduceIte,Nat.reduceLeDiff,splice,ay,ei];refine⟨9 - (i+1),by omega,i+1,by omega,rfl,rfl,λj aN=>?_,?_,?_,?_⟩
     ·rcases Nq j i with h | h
      ·exact aA j h
      ·rw[show j=i by omega];exact q
     all_goals simp only[Qg,simprocAttr,aG,aH]
   ·have ab:i=9:=by have:=Ll ab;omega
    subst ab;simp only[Qb,simprocAttr,Kd];refine .ext ae (ac.trans aF) ⟨?_,_,rfl⟩;rw[aD,Gh aA];rfl
 simp only[QkY,ar,Qb,simprocAttr,au,aa,az];refine(ax _).thenW ?_;rintro _ _ _ _ ⟨rfl,rfl⟩;simp only[QhA,Qhz,Qhy,Qb,simprocAttr,Kd,aa,ai,aj,ak,al,am,an,ag,ah]
 repeat' (first
   | (refine Qq (λh=>?_) (λh=>?_)<;>(try simp only[Lr,Lu]at h)<;>simp only[Qb,simprocAttr,Kd,aa,ai,aj,ak,al,am,an,ag,ah,h])
   | (refine Qf (λh=>?_) (λh=>?_)<;>(try simp only[Lr,Lu]at h)<;>simp only[Qb,simprocAttr,Kd,aa,ai,aj,ak,al,am,an,ag,ah,h])
   | fail)
 all_goals first
  | (refine P3 _ (by simp only[Qg,simprocAttr]) ?_;rw[ad];clear ad P3 aw ax aa av ac au az ai aj ak al am an ag ah aC ar;simp_all<;>(repeat rw[Le (by omega)])<;>(try (rw[Lc (by omega)])))
  | (refine .ext ae ac ⟨?_,_,rfl⟩;rw[ad];clear ad P3 aw ax aa av ac au az ai aj ak al am an ag ah aC ar;simp_all<;>(repeat rw[Le (by omega)])<;>(try (rw[Lc (by omega)])))
theorem QuQ {f:Fm}(h:Qec f=0):f.shapes.length<=4∧f.slots.length<=4∧(0<=f.pre∧f.pre<=5)∧(0<=f.map∧f.map<=3)∧(0<=f.code∧f.code<=255)∧(-1<=f.digit∧f.digit<=7)∧(List.range 9).all (λi=>(Qv2 f).getD i false)=true:=by
 unfold Qec at h;split at h
 ·simp at h
 ·split at h
  ·simp at h
  ·split at h
   ·simp at h
   ·split at h
    ·simp at h
    ·split at h
     ·rename_i ad q aa ab ac;simp only[Nw,Lv,not_or]at q aa ab;exact⟨by omega,by omega,by omega,by omega,by omega,by omega,ac⟩
     ·simp at h
theorem QrL {f:Fm}(h:Qec f=0)(i:Nat)(hi:i<9):(Qv2 f).getD i false=true:=Li.1 (QuQ h).2.2.2.2.2.2 i (LU.2 hi)
theorem QzL {sh sl:Int}(h:Qf5 sh sl=true):1<=sh∧sh<=34:=by
 unfold Qf5 at h;split at h
 ·simp only[Lm,Lv]at h;omega
 ·split at h
  ·simp only[Lm,Lv]at h;omega
  ·split at h
   ·simp only[Lm,Lv]at h;omega
   ·split at h
    ·simp only[Nw,Lm,Lv,L0]at h;omega
    ·exact absurd h (by decide)
theorem Qiz {f:Fm}(h:Qec f=0):f.shapes.length=f.slots.length:=by
 have:=QrL h 0 (by omega);simpa[Qv2] using this
theorem QlB {f:Fm}(h:Qec f=0)(i:Nat)(hi:i<f.shapes.length):1<=f.shapes.getD i 0∧f.shapes.getD i 0<=34:=by
 have q:Qjk f=true:=QrL h 3 (by omega);unfold Qjk at q;rw[Lm]at q;have:=Li.1 q.2 i (LU.2 (by have:=Qiz h;omega));exact QzL this
theorem Qv4 {f:Fm}(h:Qec f=0):FOk f:=by
 obtain⟨_,_,ac,ab,_,_,_⟩:=QuQ h;have q:QuP f=true:=QrL h 1 (by omega);unfold QuP at q;refine⟨ac,ab,λaa=>?_,λaa=>?_⟩
 ·rw[aa]at q;simp only[LM,Lq,Lm,Nw,L0]at q;exact q.1.1.1
 ·rw[aa]at q;simp only[L8,Ls,Lm,Nw,L0,Lr,LC,Da,Lv]at q;exact⟨q.1.1.1.2,by rcases q.1.1.1.1 with((a | a) | a) | a<;>simp[a],⟨q.1.1.2,q.1.2⟩,q.2⟩
end Go.Proofs.YtgepgbbjfhggfaaGreatDoor.code
