/- shape.Check, of any form. -/
import Derived.Test.YtiepokkmhhginaaGreatDoorLibA
import Derived.Test.YtiepokkmhhginaaGreatDoorC4Shape
import Derived.Test.YtiepokkmhhginaaGreatDoorLibB
set_option linter.unusedVariables false
set_option linter.unusedSimpArgs false
set_option maxRecDepth 100000
set_option maxHeartbeats 2000000
set_option maxHeartbeats 4000000
namespace Go.Proofs.YtiepokkmhhginaaGreatDoor.code
open Go.Ab
def opV (o:Int):Bool:=decide (1<=o)&&decide (o<=322)
theorem QFw (o:Int) (H:Qa):Qg prog X0 [.int .i64 o] H λu H'=>u=.bool (opV o)∧H'=H:=by
 refine Qh1 λhw=>?_;simp(disch:=(first | omega | (simp only[hnP];try omega))) only[Qc9,QK,simprocAttr,ZD]
 repeat' (first
   | (refine QG (λh=>?_) (λh=>?_)<;>(try simp only[Lr,Lu]at h)<;>simp(disch:=(first | omega | (simp only[hnP];try omega))) only[QK,simprocAttr,ZD,h])
   | fail)
 all_goals refine .mk (Lb _) ⟨?_,rfl⟩
 all_goals (simp_all [opV]<;>omega)
def QkT (sh sl:Int):Bool:=
 if sl=6 then decide (28<=sh)&&decide (sh<=33) else if sl=5 then decide (20<=sh)&&decide (sh<=27)
 else if sl=1∨sl=3∨sl=4∨sl=7 then decide (1<=sh)&&decide (sh<=6) else if sl=2 then(decide (1<=sh)&&decide (sh<=19))||(sh==34) else false
theorem Qsc (sh sl:Int) (H:Qa):Qg prog QeJ [.int .i64 sh,.int .i64 sl] H λu H'=>u=.bool (QkT sh sl)∧H'=H:=by
 refine Qqa λhw=>?_;simp(disch:=(first | omega | (simp only[hnP];try omega))) only[Qip,QfK,QfL,QfM,QfN,QfO,QK,simprocAttr,QbR]
 repeat' (first
   | (refine QG (λh=>?_) (λh=>?_)<;>(try simp only[Lr,Lu]at h)<;>simp(disch:=(first | omega | (simp only[hnP];try omega))) only[QK,simprocAttr,QbR,h])
   | (refine Qi (λh=>?_) (λh=>?_)<;>(try simp only[Lr,Lu]at h)<;>simp(disch:=(first | omega | (simp only[hnP];try omega))) only[QK,simprocAttr,QbR,h])
   | fail)
 all_goals refine .mk (Lb _) ⟨?_,rfl⟩
 all_goals (simp only[L0,Lv,NY,LC,Da]at *)
 all_goals (unfold QkT;simp_all<;>omega)
def Qsd (c:Int):Bool:=(decide (64<=c)&&decide (c<=79))||(c==15)||(c==102)||(c==196)||(c==197)||(c==242)||(c==243)
theorem Qqb (c:Int) (H:Qa):Qg prog Qc5 [.int .i64 c] H λu H'=>u=.bool (Qsd c)∧H'=H:=by
 refine Qo6 λhw=>?_;simp(disch:=(first | omega | (simp only[hnP];try omega))) only[Qg6,QK,simprocAttr,Qal]
 repeat' (first
   | (refine QG (λh=>?_) (λh=>?_)<;>(try simp only[Lr,Lu]at h)<;>simp(disch:=(first | omega | (simp only[hnP];try omega))) only[QK,simprocAttr,Qal,h])
   | (refine Qi (λh=>?_) (λh=>?_)<;>(try simp only[Lr,Lu]at h)<;>simp(disch:=(first | omega | (simp only[hnP];try omega))) only[QK,simprocAttr,Qal,h])
   | fail)
 all_goals refine .mk (Lb _) ⟨?_,rfl⟩
 all_goals (simp only[Qsd];simp_all<;>omega)
def QAD (H:Qa) (v:Value) (l:List Int):Prop:=∃a cap,v=.slice a l.length cap∧(0<l.length->∃b e ro cs,a=some ⟨b,0,none⟩∧H.get b=some (.cells cs e ro)∧∀j,j<l.length->cs[j]? = some (.int .i64 (l.getD j 0)))
theorem Qt9 (va:Value) (xs:List Int) (x:Int) (H:Qa) (ha:QAD H va xs) (hl:xs.length<=1000):Qg prog WG [va,.int .i64 x] H λu H'=>u=.int .i64 (QM xs x)∧H'=H:=by
 refine J5 λhw=>?_;obtain⟨aa,acap,rfl,hsa⟩:=ha;simp only[YB,Qb,simprocAttr];refine QB (λm A' H'=>∃i:Nat,i<=xs.length∧m=xs.length - i∧H'=H∧(∀j,j<i->¬x=xs.getD j 0)∧A' 0=.slice aa xs.length acap∧A' 1=.int .i64 x∧A' 7=.int .i64 (xs.length:Int)∧A' 8=.int .i64 i) xs.length ?_ ?_
 ·refine⟨0,L7 _,by omega,rfl,λj h=>by omega,?_,?_,?_,?_⟩
  all_goals simp only[uxA,uxB,Nat.reduceBEq]
  rfl
 ·rintro m A' H' ⟨i,hi,rfl,hEq,hall,r0,r1,r7,r8⟩;subst hEq;simp only[Qb,simprocAttr,r7,r8];refine Qi (λh2=>?_) (λh2=>?_)
  ·have h2:i<xs.length:=by have:=Lg h2;omega
   obtain⟨b1,e1,ro1,cs,rfl,hb1,hcs⟩:=hsa (by omega);have c1:(0:Int)<=i∧(i:Int)<xs.length:=by omega
   have c3:(i:Int).toNat=i:=by omega
   have ei:IntKind.i64.wrap ((i:Int)+1)=((i+1:Nat):Int):=by rw[w64 (by unfold I64;omega)];omega
   have g1:=hcs i h2;simp only[Qb,simprocAttr,r0,r1,r8,c1,c3,hb1,g1];refine Qi (λh3=>?_) (λh3=>?_)
   ·have h3:x=xs.getD i 0:=by simpa using h3
    simp only[Qb,simprocAttr,r8,W4];exact .mk (Lb _) ⟨by rw[QM,QoV x xs 0 i hall h2 h3,LP],rfl⟩
   ·have h3:¬x=xs.getD i 0:=by simpa using h3
    simp only[Qb,simprocAttr,r8,ei];refine⟨xs.length - (i+1),by omega,i+1,by omega,rfl,rfl,λj hj=>?_,?_,?_,?_,?_⟩
    ·rcases Nq j i with h | h
     ·exact hall j h
     ·rw[show j=i by omega];exact h3
    all_goals simp only[Ql,simprocAttr,r0,r1,r7]
  ·have h2:i=xs.length:=by have:=Ll h2;omega
   subst h2;simp only[Qb,simprocAttr,W4];exact .mk (Lb _) ⟨by rw[QM,QoW x xs 0 hall],rfl⟩
theorem Qv2 (va:Value) (xs:List Int) (x:Int) (H:Qa) (ha:QAD H va xs) (hl:xs.length<=1000):Qg prog XM [va,.int .i64 x] H λu H'=>u=.bool (decide (0<=QM xs x))∧H'=H:=by
 refine QbQ λhw=>?_;simp only[ZO,Qb,simprocAttr];refine(Qt9 va xs x H ha hl).thenW ?_;rintro _ _ _ _ ⟨rfl,rfl⟩;simp only[Qb,simprocAttr,QaU];exact .mk (Lb _) ⟨rfl,rfl⟩
theorem QCy {b len cap i:Nat} (hc:Qt8 len cap) (hi:i<=len):Ki 1 (.slice (some ⟨b,0,none⟩) len cap) none (some (i:Int)) none=some (.slice (some ⟨b,0,none⟩) i cap):=by
 unfold Ki;rcases hc with rfl | ⟨h1,h2⟩
 ·simp only[Br,NB];rw[Lc (Ro _ _),Lc ⟨B0 _,by omega,by omega,trivial⟩];simp
 ·simp only[Br,NB];rw[Le (by omega),Lc (by omega)];simp
def Qo7 (l:List Int) (k:Nat):Bool:=(l.getD k 0==6)||!(decide (0<=QM (l.take k) (l.getD k 0)))
def Qua (l:List Int):Bool:=(List.range l.length).all (Qo7 l)
theorem KZ {n:Nat} {p:Nat->Bool} (h:∀j,j<n->p j=true):(List.range n).all p=true:=by
 rw[Li];intro j hj;exact h j (LU.1 hj)
theorem JE {n i:Nat} {p:Nat->Bool} (hi:i<n) (h:p i=false):(List.range n).all p=false:=by
 rw[List.all_eq_false];exact⟨i,LU.2 hi,by rw[h];decide⟩
theorem Qse (va:Value) (xs:List Int) (H:Qa) (ha:QbV H va xs.length (ints xs)) (hl:xs.length<=1000) (hc:∀a n c,va=.slice (some a) n c->Qt8 n c):Qg prog QeG [va] H λu H'=>u=.bool (Qua xs)∧H'=H:=by
 refine Qp9 λhw=>?_;obtain⟨aa,acap,rfl,hsa⟩:=ha;simp only[Qio,Qb,simprocAttr];refine QB (λm A' H'=>∃i:Nat,i<=xs.length∧m=xs.length - i∧H'=H∧(∀j,j<i->Qo7 xs j=true)∧A' 0=.slice aa xs.length acap∧A' 5=.slice aa xs.length acap∧A' 6=.int .i64 (xs.length:Int)∧A' 7=.int .i64 i) xs.length ?_ ?_
 ·refine⟨0,L7 _,by omega,rfl,λj h=>by omega,?_,?_,?_,?_⟩
  all_goals simp only[uxA,uxB,Nat.reduceBEq]
  rfl
 ·rintro m A' H' ⟨i,hi,rfl,hEq,hall,r0,r5,r6,r7⟩;subst hEq;simp only[Qb,simprocAttr,r6,r7];refine Qi (λh2=>?_) (λh2=>?_)
  ·have h2:i<xs.length:=by have:=Lg h2;omega
   obtain⟨b1,e1,ro1,rfl,hb1⟩:=hsa (by omega);have c1:(0:Int)<=i∧(i:Int)<xs.length:=by omega
   have c3:(i:Int).toNat=i:=by omega
   have ei:IntKind.i64.wrap ((i:Int)+1)=((i+1:Nat):Int):=by rw[w64 (by unfold I64;omega)];omega
   have g1:=Qdy (l:=xs) (i:=i) (by omega);have next:Qo7 xs i=true->∀j,j<i+1->Qo7 xs j=true:=λh j hj=>by
    rcases Nq j i with h' | h'
    ·exact hall j h'
    ·rw[show j=i by omega];exact h
   have oa:Qo7 xs i=((xs.getD i 0==6)||!(decide (0<=QM (xs.take i) (xs.getD i 0)))):=rfl;simp only[Qb,simprocAttr,r0,r5,r7,c1,c3,hb1,g1];cases q6:xs.getD i 0==6 with
   | true=>
    rw[q6,N1]at oa;simp only[Qb,simprocAttr,r7,ei];refine⟨xs.length - (i+1),by omega,i+1,by omega,rfl,rfl,next oa,?_,?_,?_,?_⟩
    all_goals simp only[Ql,simprocAttr,r0,r5,r6]
   | false=>
    rw[q6,Nt]at oa;have il:(xs.take i).length=i:=by rw[Sb];omega
    have hsl:QAD H' (.slice (some ⟨b1,0,none⟩) i acap) (xs.take i):=⟨some ⟨b1,0,none⟩,acap,by rw[il],λ_=>⟨b1,e1,ro1,_,rfl,hb1,λj hj=>by
     rw[il]at hj;rw[Qdy (by omega)];simp[List.getD,Nl,hj]⟩⟩
    have asl:=QCy (b:=b1) (hc _ _ _ rfl) (Nat.le_of_lt h2);simp only[Qb,simprocAttr,r0,r7,asl];refine(Qv2 _ (xs.take i) (xs.getD i 0) H' hsl (by omega)).thenW ?_;rintro _ _ _ _ ⟨rfl,rfl⟩;simp only[Qb,simprocAttr];cases q7:decide (0<=QM (xs.take i) (xs.getD i 0)) with
    | true=>
     rw[q7]at oa;simp only[Qb,simprocAttr,Qg5];exact .mk (Lb _) ⟨by rw[Qua,JE h2 oa],rfl⟩
    | false=>
     rw[q7]at oa;simp only[Qb,simprocAttr,r7,ei];refine⟨xs.length - (i+1),by omega,i+1,by omega,rfl,rfl,next oa,?_,?_,?_,?_⟩
     all_goals simp only[Ql,simprocAttr,r0,r5,r6]
  ·have h2:i=xs.length:=by have:=Ll h2;omega
   subst h2;simp only[Qb,simprocAttr,Qg5];exact .mk (Lb _) ⟨by rw[Qua,KZ hall],rfl⟩
def Qv3 (f:Fm) (k:Nat):Bool:=QkT (f.shapes.getD k 0) (f.slots.getD k 0)
def QfP (f:Fm):Bool:=(f.shapes.length==f.slots.length)&&(List.range f.slots.length).all (Qv3 f)
theorem Qna (x:Lf) (H:Qa) (hx:x.At H):Qg prog V6 [.agg x.cells.toArray] H λu H'=>u=.bool (QfP x.f)∧∃m,H'=H.up m:=by
 refine QlP λhw=>?_;have ec:(Value.agg x.cells.toArray).cells.toList=x.cells:=rfl;have hx0:Ext H (H.push (.cells x.cells Qf false)):=(Ext.refl H).push _;have hg0:(H.push (.cells x.cells Qf false)).get H.next=some (.cells x.cells Qf false):=by rw[Qd,Lc rfl]
 have hw0:=hw.push (.cells x.cells Qf false);obtain⟨l1,l2,h1,h2⟩:=hx.ext hw hx0;obtain⟨a1,c1,e1,s1⟩:=h1;obtain⟨a2,c2,e2,s2⟩:=h2;have x1:x.cells[1]? = some (.slice a1 x.f.shapes.length c1):=by rw[<- e1];rfl
 have x2:x.cells[2]? = some (.slice a2 x.f.slots.length c2):=by rw[<- e2];rfl
 simp only[Qed,ec,Qb,simprocAttr,x1,x2];generalize hH0:H.push (.cells x.cells Qf false)=H0 at hx0 hg0 hw0 s1 s2;have fin:∀b,b=QfP x.f->Ret H (λu H'=>u=.bool (QfP x.f)∧∃m,H'=H.up m) (.bool b) H0:=λb hb=>.ext hw hx0 ⟨by rw[hb],_,rfl⟩
 by_cases hne:x.f.shapes.length=x.f.slots.length
 ·have e0:((x.f.shapes.length:Int)==(x.f.slots.length:Int))=true:=by simp[hne]
  simp only[e0,Qb,simprocAttr,hg0,x1,x2];refine QB (λm A' H'=>∃i:Nat,i<=x.f.slots.length∧m=x.f.slots.length - i∧H'=H0∧(∀j,j<i->Qv3 x.f j=true)∧A' 1=.pointer (some ⟨H.next,0,none⟩)∧A' 13=.slice a2 x.f.slots.length c2∧A' 14=.int .i64 (x.f.slots.length:Int)∧A' 15=.int .i64 i) x.f.slots.length ?_ ?_
  ·refine⟨0,L7 _,by omega,rfl,λj h=>by omega,?_,?_,?_,?_⟩
   all_goals simp only[uxA,uxB,Nat.reduceBEq]
   rfl
  ·rintro m A' H' ⟨i,hi,rfl,hEq,hall,r1,r13,r14,r15⟩;subst hEq;simp only[Qb,simprocAttr,r14,r15];refine Qi (λh2=>?_) (λh2=>?_)
   ·have h2:i<x.f.slots.length:=by have:=Lg h2;omega
    obtain⟨b1,t1,ro1,rfl,hb1⟩:=s1 (by omega);obtain⟨b2,t2,ro2,rfl,hb2⟩:=s2 (by omega);have d1:(0:Int)<=i∧(i:Int)<x.f.slots.length:=by omega
    have d2:(0:Int)<=i∧(i:Int)<x.f.shapes.length:=by omega
    have c3:(i:Int).toNat=i:=by omega
    have ei:IntKind.i64.wrap ((i:Int)+1)=((i+1:Nat):Int):=by rw[w64 (by unfold I64;omega)];omega
    have g1:=Qdy (l:=x.f.shapes) (i:=i) (by omega);have g2:=Qdy (l:=x.f.slots) (i:=i) (by omega);simp only[Qb,simprocAttr,r1,r13,r15,d1,d2,c3,hb1,hb2,g1,g2,hg0,x1,x2];refine(Qsc _ _ _).thenW ?_;rintro _ _ _ _ ⟨rfl,rfl⟩;have oa:Qv3 x.f i=QkT (x.f.shapes.getD i 0) (x.f.slots.getD i 0):=rfl;simp only[Qb,simprocAttr];cases q:QkT (x.f.shapes.getD i 0) (x.f.slots.getD i 0) with
    | false=>
     rw[q]at oa;simp only[Qb,simprocAttr,KY];exact fin _ (by rw[QfP,JE h2 oa,NJ])
    | true=>
     rw[q]at oa;simp only[Qb,simprocAttr,r15,ei];refine⟨x.f.slots.length - (i+1),by omega,i+1,by omega,rfl,rfl,λj hj=>?_,?_,?_,?_,?_⟩
     ·rcases Nq j i with h | h
      ·exact hall j h
      ·rw[show j=i by omega];exact oa
     all_goals simp only[Ql,simprocAttr,r1,r13,r14]
   ·have h2:i=x.f.slots.length:=by have:=Ll h2;omega
    subst h2;simp only[Qb,simprocAttr,KY];exact fin _ (by rw[QfP,KZ hall,hne];simp)
 ·have e0:((x.f.shapes.length:Int)==(x.f.slots.length:Int))=false:=by simp;omega
  simp only[e0,Qb,simprocAttr,KY];exact fin _ (by rw[QfP];simp[hne])
def Qq0 (f:Fm):Bool:=bif !f.vex then((f.w==0)||(f.w==1))&&(f.l==0)&&decide (QM f.slots 3<0)&&decide (QM f.slots 7<0) else((f.pre==0)||(f.pre==1)||(f.pre==2)||(f.pre==4))&&(!(f.map==0))&&decide (-1<=f.w)&&decide (f.w<=1)&&((f.l==0)||(f.l==1))
theorem QlQ (x:Lf) (H:Qa) (hx:x.At H):Qg prog G9 [.agg x.cells.toArray] H λu H'=>u=.bool (Qq0 x.f)∧∃m,H'=H.up m:=by
 refine QkS λhw=>?_;have q3:=λH' (he:Ext H H')=>Q6 x 3 H' (hx.ext hw he);have q7:=λH' (he:Ext H H')=>Q6 x 7 H' (hx.ext hw he);have hs:Qq0 x.f=bif !x.f.vex then((x.f.w==0)||(x.f.w==1))&&(x.f.l==0)&&decide (QM x.f.slots 3<0)&&decide (QM x.f.slots 7<0) else((x.f.pre==0)||(x.f.pre==1)||(x.f.pre==2)||(x.f.pre==4))&&(!(x.f.map==0))&&decide (-1<=x.f.w)&&decide (x.f.w<=1)&&((x.f.l==0)||(x.f.l==1)):=rfl
 rw[hs];clear hs hx;generalize QM x.f.slots 3=i3 at *;generalize QM x.f.slots 7=i7 at *;obtain⟨⟨fop,fpre,fmap,fcode,fdg,fw,fl,fvex,fsh,fsl⟩,sv,tv⟩:=x;simp only[Lf.cells]at q3 q7 ⊢;cases fvex
 all_goals simp(disch:=(first | omega | (simp only[hnP];try omega))) only[QcR,WS,WT,WU,WV,QK,simprocAttr,Xz]
 all_goals repeat' (first
   | (refine QG (λh=>?_) (λh=>?_)<;>(try simp only[Lr,Lu]at h)<;>simp(disch:=(first | omega | (simp only[hnP];try omega))) only[WS,WT,WU,WV,QK,simprocAttr,Xz,h])
   | (refine Qi (λh=>?_) (λh=>?_)<;>(try simp only[Lr,Lu]at h)<;>simp(disch:=(first | omega | (simp only[hnP];try omega))) only[WS,WT,WU,WV,QK,simprocAttr,Xz,h])
   | (refine(q3 _ (by(repeat' (first | exact Ext.refl _ | refine Ext.push ?_ _ | refine Ext.up ?_ (by simp only[Qe,QE,Qy];omega))))).thenW ?_;rintro _ _ hn hw2 ⟨rfl,k,rfl⟩;(try simp only[Qe,Qy,QE]at hn);simp(disch:=(first | omega | (simp only[hnP];try omega))) only[WS,WT,WU,WV,QK,simprocAttr,Xz])
   | (refine(q7 _ (by(repeat' (first | exact Ext.refl _ | refine Ext.push ?_ _ | refine Ext.up ?_ (by simp only[Qe,QE,Qy];omega))))).thenW ?_;rintro _ _ hn hw2 ⟨rfl,k,rfl⟩;(try simp only[Qe,Qy,QE]at hn);simp(disch:=(first | omega | (simp only[hnP];try omega))) only[WS,WT,WU,WV,QK,simprocAttr,Xz])
   | fail)
 all_goals refine .ext hw ?_ ⟨?_,_,rfl⟩
 all_goals try (repeat' (first | exact Ext.refl _ | refine Ext.push ?_ _ | refine Ext.up ?_ (by simp only[Qe,QE,Qy];omega)))
 all_goals (simp_all<;>omega)
theorem Qqc (x:Lf) (H:Qa) (hx:x.At H):Qg prog Qc4 [.agg x.cells.toArray] H λu H'=>u=.bool (decide (0<=QM x.f.slots 2))∧∃m,H'=H.up m:=by
 refine Qo5 λhw=>?_;have ec:(Value.agg x.cells.toArray).cells.toList=x.cells:=rfl;simp only[Qg4,ec,QQ,WD,Qb,simprocAttr];refine(Q6 x 2 _ (hx.ext hw ((Ext.refl H).push _))).thenW ?_;rintro _ _ hn hw2 ⟨rfl,m,rfl⟩;simp only[Qy,Qe]at hn;simp only[Qb,simprocAttr,Qm9];exact .ext hw (((Ext.refl H).push _).up (by simp only[Qe];exact hn)) ⟨rfl,_,rfl⟩
def QCz (c:Int):Int:=IntKind.i64.wrap (BitVec.ofInt IntKind.i64.bits c &&& BitVec.ofInt IntKind.i64.bits 7).toNat
def Qsf (f:Fm):List Bool:=
 let r:=decide (0<=QM f.slots 1);let m:=decide (0<=QM f.slots 2);let c:=decide (0<=QM f.slots 4);let d:=decide (0<=f.digit)
 [f.shapes.length==f.slots.length,Qq0 f,Qua f.slots,QfP f,!c||((QCz f.code==0)&&!r&&!m&&!d),!r||!d,!m||r||d,m||(!r&&!d),!(f.map==0)||!Qsd f.code]
theorem QCA {M:Nat} {v:Value} {l:List Int} (h:SlF M v l):∀a n c,v=.slice (some a) n c->Qt8 n c:=by
 rintro a n c rfl;rcases h with⟨_,h⟩ | ⟨_,b,cap,h,_,h2⟩
 ·cases h
 ·cases h;exact h2
theorem Qhv {M:Nat} {v:Value} {l:List Int} {H:Qa} {cs:List Value} (hw:H.Wf) (h:SlF M v l) (h2:QbV H v l.length cs) (m:Nat) (hm:H.next<=m) (n:Nat):Qm m (n+1) v=true:=by
 rcases h with⟨_,rfl⟩ | ⟨hl,b,cap,rfl,_,_⟩
 ·rfl
 ·obtain⟨a,c,e,h1⟩:=h2;cases e;obtain⟨b2,_,_,e3,hb⟩:=h1 (Rj.2 hl);cases e3;have:=hw.lt hb;simp only[Qm,B5];omega
theorem Qqd (x:Lf) (H:Qa) (hx:x.At H) (hf:x.Fr 0):Qg prog Qc3 [.agg x.cells.toArray] H λu H'=>∃b,u=.slice (some ⟨b,0,none⟩) 9 9∧Ext H H'∧H'.get b=some (.cells ((Qsf x.f).map .bool) 4 false):=by
  refine Qo4 λhw=>?_;have bs:=λm hm n=>Qhv hw hf.1 hx.2.2.1 m hm n;have bt:=λm hm n=>Qhv hw hf.2 hx.2.2.2 m hm n;have hb:∀m,H.next<=m->Qm m 6 (.agg x.cells.toArray)=true:=λm hm=>by
    have h1:=bs m hm 4;have h2:=bt m hm 4;simp[Qm,Lf.cells,plain]at h1 h2 ⊢;exact⟨h1,h2⟩
  have hb1:∀m,H.next<=m->Qm m 6 x.sv=true:=λm hm=>bs m hm 5;have hb2:∀m,H.next<=m->Qm m 6 x.tv=true:=λm hm=>bt m hm 5;have q1:=λH' (he:Ext H H')=>Q6 x 1 H' (hx.ext hw he);have q4:=λH' (he:Ext H H')=>Q6 x 4 H' (hx.ext hw he);have qm:=λH' (he:Ext H H')=>Qqc x H' (hx.ext hw he);have qp:=λH' (he:Ext H H')=>QlQ x H' (hx.ext hw he);have qc:=λH' (he:Ext H H')=>Qna x H' (hx.ext hw he);have qo:=λH' (he:Ext H H')=>Qse x.tv x.f.slots H' (hx.ext hw he).2.2.2 hx.2.1 (QCA hf.2);have qt:=λH'=>Qqb x.f.code H';have ec:(Value.agg x.cells.toArray).cells.toList=x.cells:=rfl;obtain⟨a1,c1,e1,_⟩:=id hx.2.2.1;obtain⟨a2,c2,e2,_⟩:=id hx.2.2.2;have x1:x.cells[1]? = some (.slice a1 x.f.shapes.length c1):=by rw[<- e1];rfl
  have x2:x.cells[2]? = some (.slice a2 x.f.slots.length c2):=by rw[<- e2];rfl
  have x4:x.cells[4]? = some (.int .i64 x.f.map):=rfl;have x5:x.cells[5]? = some (.int .i64 x.f.code):=rfl;have x6:x.cells[6]? = some (.int .i64 x.f.digit):=rfl;rw[e1]at hb1;rw[e2]at hb2 qo;have hr:Qsf x.f=[x.f.shapes.length==x.f.slots.length,Qq0 x.f,Qua x.f.slots,QfP x.f,!decide (0<=QM x.f.slots 4)||((QCz x.f.code==0)&&!decide (0<=QM x.f.slots 1)&&!decide (0<=QM x.f.slots 2)&&!decide (0<=x.f.digit)),!decide (0<=QM x.f.slots 1)||!decide (0<=x.f.digit),!decide (0<=QM x.f.slots 2)||decide (0<=QM x.f.slots 1)||decide (0<=x.f.digit),decide (0<=QM x.f.slots 2)||(!decide (0<=QM x.f.slots 1)&&!decide (0<=x.f.digit)),!(x.f.map==0)||!Qsd x.f.code]:=rfl;rw[hr];clear hr;have hxx:∀b,Ext H (H.push b):=λb=>(Ext.refl H).push _;simp only[Qg3,ec,QQ,WD,Qb,simprocAttr];have hx0:Ext H (H.push (.cells x.cells Qf false)):=(Ext.refl H).push _;have hg0:(H.push (.cells x.cells Qf false)).get H.next=some (.cells x.cells Qf false):=by rw[Qd,Lc rfl]
  have hw0:=hw.push (.cells x.cells Qf false);have hb0:H.next<(H.push (.cells x.cells Qf false)).next:=Rq _;generalize H.push (.cells x.cells Qf false)=H0 at hx0 hg0 hw0 hb0
  -- each call leaves the box where it is
  have step:∀ (H1:Qa) (m:Nat),Ext H H1->H1.Wf->H1.get H.next=some (.cells x.cells Qf false)->H.next<H1.next->H1.next<=m->Ext H (H1.up m)∧(H1.up m).get H.next=some (.cells x.cells Qf false)∧H.next<(H1.up m).next∧EqB H1 (H1.up m):=λH1 m h1 h2 h3 h4 h5=>⟨h1.up h5,by rw[Z9];exact h3,by simp only[Qy];omega,((Ext.refl H1).up h5).eqB⟩;have hb0':=hb0;refine⟨⟨Rq _,Rq _⟩,(q1 _ hx0).thenW ?_⟩;rintro _ _ hn1 hw1 ⟨rfl,m1,rfl⟩;simp only[Qy]at hn1;obtain⟨hx1,hg1,hb1',he1⟩:=step _ m1 hx0 hw0 hg0 hb0' hn1;generalize Qa.up _ m1=H1 at hw1 hx1 hg1 hb1' he1;simp only[Qb,simprocAttr,hg1,ec,QQ,WD,x1,x2,x4,x5,x6];refine⟨he1,hb _ hx1.next,hb1',(qm _ hx1).thenW ?_⟩;rintro _ _ hn2 hw2 ⟨rfl,m2,rfl⟩;simp only[Qy]at hn2;obtain⟨hx2,hg2,hb2',he2⟩:=step _ m2 hx1 hw1 hg1 hb1' hn2;generalize Qa.up _ m2=H2 at hw2 hx2 hg2 hb2' he2;simp only[Qb,simprocAttr,hg2,ec,QQ,WD,x1,x2,x4,x5,x6];refine⟨he2,hb _ hx2.next,(q4 _ hx2).thenW ?_⟩;rintro _ _ hn3 hw3 ⟨rfl,m3,rfl⟩;simp only[Qy]at hn3;obtain⟨hx3,hg3,hb3',he3⟩:=step _ m3 hx2 hw2 hg2 hb2' hn3;generalize Qa.up _ m3=H3 at hw3 hx3 hg3 hb3' he3;simp only[Qb,simprocAttr,hg3,ec,QQ,WD,x1,x2,x4,x5,x6];refine⟨hb1 _ hx3.next,hb2 _ hx3.next,⟨hb3',hb3',hb3'⟩,(qp _ hx3).thenW ?_⟩;rintro _ _ hn4 hw4 ⟨rfl,m4,rfl⟩;simp only[Qy]at hn4;obtain⟨hx4,hg4,hb4',he4⟩:=step _ m4 hx3 hw3 hg3 hb3' hn4;generalize Qa.up _ m4=H4 at hw4 hx4 hg4 hb4' he4;simp only[Qb,simprocAttr,hg4,ec,QQ,WD,x1,x2,x4,x5,x6];refine⟨he4,hb2 _ hx4.next,⟨hb4',hb4'⟩,(qo _ hx4).thenW ?_⟩;rintro _ _ _ _ ⟨rfl,rfl⟩;simp only[Qb,simprocAttr,hg4,ec,QQ,WD,x1,x2,x4,x5,x6];refine⟨(Ext.refl _).eqB,hb _ hx4.next,hb4',(qc _ hx4).thenW ?_⟩;rintro _ _ hn5 hw5 ⟨rfl,m5,rfl⟩;simp only[Qy]at hn5;obtain⟨hx5,hg5,hb5',he5⟩:=step _ m5 hx4 hw4 hg4 hb4' hn5;generalize Qa.up _ m5=H5 at hw5 hx5 hg5 hb5' he5;simp only[Qb,simprocAttr,hg5,ec,QQ,WD,x1,x2,x4,x5,x6];refine⟨he5,?_⟩;have h7:IntKind.i64.wrap (BitVec.ofInt IntKind.i64.bits x.f.code &&& BitVec.ofInt IntKind.i64.bits 7).toNat=QCz x.f.code:=rfl;have e0:((x.f.shapes.length:Int)==(x.f.slots.length:Int))=(x.f.shapes.length==x.f.slots.length):=by
    rw[Ni,L0,L0];omega
  generalize decide (0<=QM x.f.slots 1)=r;generalize decide (0<=QM x.f.slots 2)=m;generalize decide (0<=QM x.f.slots 4)=c;generalize decide (0<=x.f.digit)=d;cases z0:(QCz x.f.code==0)<;>cases p0:(x.f.map==0)
  all_goals cases c<;>cases r<;>cases m<;>cases d
  all_goals simp only[Qb,simprocAttr,hg5,x4,x5,h7,z0,p0,e0,QfJ]
  all_goals refine⟨rfl,?_⟩
  all_goals first
    | (refine(qt _).thenW ?_
       rintro _ _ _ _ ⟨rfl,rfl⟩;simp only[Qb,simprocAttr,QfJ];refine⟨λ_ _=>rfl,?_⟩;exact .mk (hx5.push _).next ⟨_,rfl,hx5.push _,by rw[Qd,Lc rfl];simp⟩)
    | exact .mk (hx5.push _).next ⟨_,rfl,hx5.push _,by rw[Qd,Lc rfl];simp⟩
theorem QAE (l:List Bool) (i:Nat) (h:i<l.length):(l.map Value.bool)[i]? = some (.bool (l.getD i false)):=by
 simp[List.getD,La h]
def QlR (f:Fm):Int:=
 if opV f.op=false then 6
 else if(decide (4<f.shapes.length)||decide (4<f.slots.length))=true then 3
 else if(decide (f.pre<0)||decide (5<f.pre)||decide (f.map<0)||decide (3<f.map))=true then 5
 else if(decide (f.code<0)||decide (255<f.code)||decide (f.digit < -1)||decide (7<f.digit))=true then 5
 else if((List.range 9).all λi=>(Qsf f).getD i false)=true then 0 else 2
theorem Qqe (x:Lf) (H:Qa) (hx:x.At H) (hf:x.Fr 0):Qg prog QcZ [.agg x.cells.toArray] H λu H'=>u=.int .i64 (QlR x.f)∧∃m,H'=H.up m:=by
 refine Qo3 λhw=>?_;have ec:(Value.agg x.cells.toArray).cells.toList=x.cells:=rfl;have hx0:Ext H (H.push (.cells x.cells Qf false)):=(Ext.refl H).push _;have hg0:(H.push (.cells x.cells Qf false)).get H.next=some (.cells x.cells Qf false):=by rw[Qd,Lc rfl]
 have hw0:=hw.push (.cells x.cells Qf false);obtain⟨a1,c1,e1,_⟩:=id hx.2.2.1;obtain⟨a2,c2,e2,_⟩:=id hx.2.2.2;have x0:x.cells[0]? = some (.int .i64 x.f.op):=rfl;have x1:x.cells[1]? = some (.slice a1 x.f.shapes.length c1):=by rw[<- e1];rfl
 have x2:x.cells[2]? = some (.slice a2 x.f.slots.length c2):=by rw[<- e2];rfl
 have x3:x.cells[3]? = some (.int .i64 x.f.pre):=rfl;have x4:x.cells[4]? = some (.int .i64 x.f.map):=rfl;have x5:x.cells[5]? = some (.int .i64 x.f.code):=rfl;have x6:x.cells[6]? = some (.int .i64 x.f.digit):=rfl;have qv:=QFw x.f.op;have qr:=λH' (he:Ext H H')=>Qqd x H' (hx.ext hw he) hf;have hl9:(Qsf x.f).length=9:=rfl;have l1:decide ((4:Int)<x.f.shapes.length)=decide (4<x.f.shapes.length):=by rw[BD];omega
 have l2:decide ((4:Int)<x.f.slots.length)=decide (4<x.f.slots.length):=by rw[BD];omega
 have hs:QlR x.f=if opV x.f.op=false then 6
  else if(decide (4<x.f.shapes.length)||decide (4<x.f.slots.length))=true then 3
  else if(decide (x.f.pre<0)||decide (5<x.f.pre)||decide (x.f.map<0)||decide (3<x.f.map))=true then 5
  else if(decide (x.f.code<0)||decide (255<x.f.code)||decide (x.f.digit < -1)||decide (7<x.f.digit))=true then 5
  else if((List.range 9).all λi=>(Qsf x.f).getD i false)=true then 0 else 2:=rfl
 rw[hs];clear hs hx hf e1 e2;generalize Qsf x.f=rl at *;generalize opV x.f.op=ov at *;generalize hH0:H.push (.cells x.cells Qf false)=H0 at hx0 hg0 hw0;obtain⟨r,hr⟩:∃r,r=(if ov=false then(6:Int)
  else if(decide (4<x.f.shapes.length)||decide (4<x.f.slots.length))=true then 3
  else if(decide (x.f.pre<0)||decide (5<x.f.pre)||decide (x.f.map<0)||decide (3<x.f.map))=true then 5
  else if(decide (x.f.code<0)||decide (255<x.f.code)||decide (x.f.digit < -1)||decide (7<x.f.digit))=true then 5
  else if((List.range 9).all λi=>rl.getD i false)=true then 0 else 2):=⟨_,rfl⟩
 rw[<- hr];have P3:∀A,A 1=.pointer (some ⟨H.next,0,none⟩)->r=(if((List.range 9).all λi=>rl.getD i false)=true then 0 else 2)->Qs prog Vn ⟨Rt prog Qin H λu H'=>u=.int .i64 r∧∃m,H'=H.up m,YO⟩ (Rt prog Qin H λu H'=>u=.int .i64 r∧∃m,H'=H.up m) A H0:=by
  intro A r1 hr';simp only[Vn,Qb,simprocAttr,r1,hg0,QQ,WD];refine(qr _ hx0).thenW ?_;rintro _ H1 hn1 hw1 ⟨b,rfl,hx1,hb1⟩;simp only[Qb,simprocAttr];refine QB (λm A' H'=>∃i:Nat,i<=9∧m=9 - i∧H'=H1∧(∀j,j<i->rl.getD j false=true)∧A' 60=.slice (some ⟨b,0,none⟩) 9 9∧A' 61=.int .i64 ((9:Nat):Int)∧A' 62=.int .i64 i) 9 ?_ ?_
  ·refine⟨0,L7 _,by omega,rfl,λj h=>by omega,?_,?_,?_⟩
   all_goals simp only[Ql,simprocAttr]
   all_goals rfl
  ·rintro m A' H' ⟨i,hi,rfl,hEq,hall,r60,r61,r62⟩;subst hEq;simp only[Qd9,Qd8,sxA,sxB,Nat.reduceBEq,Nat.reduceEqDiff,reduceCtorEq,mxA,mxB,Nat.reduceAdd,reduceIte,Nat.reduceLeDiff,splice,r61,r62];refine Qi (λh2=>?_) (λh2=>?_)
   ·have h2:i<9:=by have:=Lg h2;omega
    have c1:(0:Int)<=i∧(i:Int)<((9:Nat):Int):=by omega
    have c3:(i:Int).toNat=i:=by omega
    have ei:IntKind.i64.wrap ((i:Int)+1)=((i+1:Nat):Int):=by rw[w64 (by unfold I64;omega)];omega
    have g1:=QAE rl i (by omega);simp only[sxA,sxB,Nat.reduceBEq,Nat.reduceEqDiff,reduceCtorEq,mxA,mxB,Nat.reduceAdd,reduceIte,Nat.reduceLeDiff,splice,r60,r62,c1,c3,hb1,g1];cases q:rl.getD i false with
    | false=>
     simp only[Qb,simprocAttr,Y6];refine .ext hw (hx0.trans hx1) ⟨?_,_,rfl⟩;rw[hr',JE h2 q];rfl
    | true=>
     simp only[sxA,sxB,Nat.reduceBEq,Nat.reduceEqDiff,reduceCtorEq,mxA,mxB,Nat.reduceAdd,reduceIte,Nat.reduceLeDiff,splice,r62,ei];refine⟨9 - (i+1),by omega,i+1,by omega,rfl,rfl,λj hj=>?_,?_,?_,?_⟩
     ·rcases Nq j i with h | h
      ·exact hall j h
      ·rw[show j=i by omega];exact q
     all_goals simp only[Ql,simprocAttr,r60,r61]
   ·have h2:i=9:=by have:=Ll h2;omega
    subst h2;simp only[Qb,simprocAttr,Y6];refine .ext hw (hx0.trans hx1) ⟨?_,_,rfl⟩;rw[hr',KZ hall];rfl
 simp only[Qg2,ec,Qb,simprocAttr,hH0,hg0,x0];refine(qv _).thenW ?_;rintro _ _ _ _ ⟨rfl,rfl⟩;simp only[Qec,Qeb,Qea,Qb,simprocAttr,Y6,hg0,x1,x2,x3,x4,x5,x6,l1,l2]
 repeat' (first
   | (refine QG (λh=>?_) (λh=>?_)<;>(try simp only[Lr,Lu]at h)<;>simp only[Qb,simprocAttr,Y6,hg0,x1,x2,x3,x4,x5,x6,l1,l2,h])
   | (refine Qi (λh=>?_) (λh=>?_)<;>(try simp only[Lr,Lu]at h)<;>simp only[Qb,simprocAttr,Y6,hg0,x1,x2,x3,x4,x5,x6,l1,l2,h])
   | fail)
 all_goals first
  | (refine P3 _ (by simp only[Ql,simprocAttr]) ?_;rw[hr];clear hr P3 qr qv hg0 hw0 hx0 hH0 x0 x1 x2 x3 x4 x5 x6 l1 l2 hl9 ec;simp_all<;>(repeat rw[Le (by omega)])<;>(try (rw[Lc (by omega)])))
  | (refine .ext hw hx0 ⟨?_,_,rfl⟩;rw[hr];clear hr P3 qr qv hg0 hw0 hx0 hH0 x0 x1 x2 x3 x4 x5 x6 l1 l2 hl9 ec;simp_all<;>(repeat rw[Le (by omega)])<;>(try (rw[Lc (by omega)])))
theorem Qq1 {f:Fm} (h:QlR f=0):f.shapes.length<=4∧f.slots.length<=4∧(0<=f.pre∧f.pre<=5)∧(0<=f.map∧f.map<=3)∧(0<=f.code∧f.code<=255)∧(-1<=f.digit∧f.digit<=7)∧(List.range 9).all (λi=>(Qsf f).getD i false)=true:=by
 unfold QlR at h;split at h
 ·simp at h
 ·split at h
  ·simp at h
  ·split at h
   ·simp at h
   ·split at h
    ·simp at h
    ·split at h
     ·rename_i h1 h2 h3 h4 h5;simp only[Nw,Lv,not_or]at h2 h3 h4;exact⟨by omega,by omega,by omega,by omega,by omega,by omega,h5⟩
     ·simp at h
theorem Qny {f:Fm} (h:QlR f=0) (i:Nat) (hi:i<9):(Qsf f).getD i false=true:=Li.1 (Qq1 h).2.2.2.2.2.2 i (LU.2 hi)
theorem Qv4 {sh sl:Int} (h:QkT sh sl=true):1<=sh∧sh<=34:=by
 unfold QkT at h;split at h
 ·simp only[Lm,Lv]at h;omega
 ·split at h
  ·simp only[Lm,Lv]at h;omega
  ·split at h
   ·simp only[Lm,Lv]at h;omega
   ·split at h
    ·simp only[Nw,Lm,Lv,L0]at h;omega
    ·exact absurd h (by decide)
theorem Qsg {f:Fm} (h:QlR f=0):f.shapes.length=f.slots.length:=by
 have:=Qny h 0 (by omega);simpa[Qsf] using this
theorem QyY {f:Fm} (h:QlR f=0) (i:Nat) (hi:i<f.shapes.length):1<=f.shapes.getD i 0∧f.shapes.getD i 0<=34:=by
 have h3:QfP f=true:=Qny h 3 (by omega);unfold QfP at h3;rw[Lm]at h3;have:=Li.1 h3.2 i (LU.2 (by have:=Qsg h;omega));exact Qv4 this
theorem Qxi {f:Fm} (h:QlR f=0):FOk f:=by
 obtain⟨_,_,hp,hm,_,_,_⟩:=Qq1 h;have h1:Qq0 f=true:=Qny h 1 (by omega);unfold Qq0 at h1;refine⟨hp,hm,λhv=>?_,λhv=>?_⟩
 ·rw[hv]at h1;simp only[LM,Lq,Lm,Nw,L0]at h1;exact h1.1.1.1
 ·rw[hv]at h1;simp only[L8,Ls,Lm,Nw,L0,Lr,LC,Da,Lv]at h1;exact⟨h1.1.1.1.2,by rcases h1.1.1.1.1 with((a | a) | a) | a<;>simp[a],⟨h1.1.1.2,h1.1.2⟩,h1.2⟩
end Go.Proofs.YtiepokkmhhginaaGreatDoor.code
