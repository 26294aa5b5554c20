/- shape.Check, of any form. -/
import Derived.Test.YtgepgbbjfhggfaaGreatDoorLibA
import Derived.Test.YtgepgbbjfhggfaaGreatDoorC4Shape
import Derived.Test.YtgepgbbjfhggfaaGreatDoorLibB
set_option linter.unusedVariables false
set_option linter.unusedSimpArgs false
set_option maxRecDepth 100000
set_option maxHeartbeats 2000000
set_option maxHeartbeats 4000000
namespace Go.Proofs.YtgepgbbjfhggfaaGreatDoor.code
open Go.Ab
def opV (o:Int):Bool:=decide (1<=o)&&decide (o<=322)
theorem QIA (o:Int)(H:Qa):Qe prog 42 [.int .i64 o] H λu H'=>u=.bool (opV o)∧H'=H:=by
 refine Ql3 λhw=>?_;simp(disch:=(first | omega | (simp only[hnP];try omega))) only[Qf5,Qk,simprocAttr,KL]
 repeat' (first
   | (refine Qp (λh=>?_) (λh=>?_)<;>(try simp only[Lr,Lu]at h)<;>simp(disch:=(first | omega | (simp only[hnP];try omega))) only[Qk,simprocAttr,KL,h])
   | fail)
 all_goals refine .mk (Lb _) ⟨?_,rfl⟩
 all_goals (simp_all [opV]<;>omega)
def QfZ (sh sl:Int):Bool:=
 if sl=6 then decide (28<=sh)&&decide (sh<=33) else if sl=5 then decide (20<=sh)&&decide (sh<=27)
 else if sl=1∨sl=3∨sl=4∨sl=7 then decide (1<=sh)&&decide (sh<=6) else if sl=2 then(decide (1<=sh)&&decide (sh<=19))||(sh==34) else false
theorem QvG (sh sl:Int)(H:Qa):Qe prog 377 [.int .i64 sh,.int .i64 sl] H λu H'=>u=.bool (QfZ sh sl)∧H'=H:=by
 refine QtQ λhw=>?_;simp(disch:=(first | omega | (simp only[hnP];try omega))) only[Qmn,Qi4,Qi5,Qi6,Qi7,Qi8,Qk,simprocAttr,QeX]
 repeat' (first
   | (refine Qp (λh=>?_) (λh=>?_)<;>(try simp only[Lr,Lu]at h)<;>simp(disch:=(first | omega | (simp only[hnP];try omega))) only[Qk,simprocAttr,QeX,h])
   | (refine Qf (λh=>?_) (λh=>?_)<;>(try simp only[Lr,Lu]at h)<;>simp(disch:=(first | omega | (simp only[hnP];try omega))) only[Qk,simprocAttr,QeX,h])
   | fail)
 all_goals refine .mk (Lb _) ⟨?_,rfl⟩
 all_goals (simp only[L0,Lv,NY,LC,Da]at *)
 all_goals (unfold QfZ;simp_all<;>omega)
def QvH (c:Int):Bool:=(decide (64<=c)&&decide (c<=79))||(c==15)||(c==102)||(c==196)||(c==197)||(c==242)||(c==243)
theorem QtR (c:Int)(H:Qa):Qe prog 347 [.int .i64 c] H λu H'=>u=.bool (QvH c)∧H'=H:=by
 refine QsH λhw=>?_;simp(disch:=(first | omega | (simp only[hnP];try omega))) only[QkW,Qk,simprocAttr,QdE]
 repeat' (first
   | (refine Qp (λh=>?_) (λh=>?_)<;>(try simp only[Lr,Lu]at h)<;>simp(disch:=(first | omega | (simp only[hnP];try omega))) only[Qk,simprocAttr,QdE,h])
   | (refine Qf (λh=>?_) (λh=>?_)<;>(try simp only[Lr,Lu]at h)<;>simp(disch:=(first | omega | (simp only[hnP];try omega))) only[Qk,simprocAttr,QdE,h])
   | fail)
 all_goals refine .mk (Lb _) ⟨?_,rfl⟩
 all_goals (simp only[QvH];simp_all<;>omega)
def QAL (H:Qa)(v:Value)(l:List Int):Prop:=∃a cap,v=.slice a l.length cap∧(0<l.length->∃b e ro cs,a=some ⟨b,0,none⟩∧H.get b=some (.cells cs e ro)∧∀j,j<l.length->cs[j]? = some (.int .i64 (l.getD j 0)))
theorem Qxw (va:Value)(xs:List Int)(x:Int)(H:Qa)(ha:QAL H va xs)(hl:xs.length<=1000):Qe prog 75 [va,.int .i64 x] H λu H'=>u=.int .i64 (Qn xs x)∧H'=H:=by
 refine V5 λhw=>?_;obtain⟨aa,acap,rfl,hsa⟩:=ha;simp only[Jj,Qb,simprocAttr];refine Qo (λm A' H'=>∃i:Nat,i<=xs.length∧m=xs.length - i∧H'=H∧(∀j,j<i->¬x=xs.getD j 0)∧A' 0=.slice aa xs.length acap∧A' 1=.int .i64 x∧A' 7=.int .i64 (xs.length:Int)∧A' 8=.int .i64 i) xs.length ?_ ?_
 ·refine⟨0,L7 _,by omega,rfl,λj h=>by omega,?_,?_,?_,?_⟩
  all_goals simp only[uxA,uxB,Nat.reduceBEq]
  rfl
 ·rintro m A' H' ⟨i,hi,rfl,hEq,hall,r0,r1,r7,r8⟩;subst hEq;simp only[Qb,simprocAttr,r7,r8];refine Qf (λh2=>?_) (λh2=>?_)
  ·have h2:i<xs.length:=by have:=Lg h2;omega
   obtain⟨b1,e1,ro1,cs,rfl,hb1,hcs⟩:=hsa (by omega);have c1:(0:Int)<=i∧(i:Int)<xs.length:=by omega
   have c3:(i:Int).toNat=i:=by omega
   have ei:IntKind.i64.wrap ((i:Int)+1)=((i+1:Nat):Int):=by rw[w64 (by unfold I64;omega)];omega
   have g1:=hcs i h2;simp only[Qb,simprocAttr,r0,r1,r8,c1,c3,hb1,g1];refine Qf (λh3=>?_) (λh3=>?_)
   ·have h3:x=xs.getD i 0:=by simpa using h3
    simp only[Qb,simprocAttr,r8,Yp];exact .mk (Lb _) ⟨by rw[Qn,Qkc x xs 0 i hall h2 h3,LP],rfl⟩
   ·have h3:¬x=xs.getD i 0:=by simpa using h3
    simp only[Qb,simprocAttr,r8,ei];refine⟨xs.length - (i+1),by omega,i+1,by omega,rfl,rfl,λj hj=>?_,?_,?_,?_,?_⟩
    ·rcases Nq j i with h | h
     ·exact hall j h
     ·rw[show j=i by omega];exact h3
    all_goals simp only[Qg,simprocAttr,r0,r1,r7]
  ·have h2:i=xs.length:=by have:=Ll h2;omega
   subst h2;simp only[Qb,simprocAttr,Yp];exact .mk (Lb _) ⟨by rw[Qn,Qkd x xs 0 hall],rfl⟩
theorem QsI (va:Value)(xs:List Int)(x:Int)(H:Qa)(ha:QAL H va xs)(hl:xs.length<=1000):Qe prog 51 [va,.int .i64 x] H λu H'=>u=.bool (decide (0<=Qn xs x))∧H'=H:=by
 refine QeW λhw=>?_;simp only[Gf,Qb,simprocAttr];refine(Qxw va xs x H ha hl).thenW ?_;rintro _ _ _ _ ⟨rfl,rfl⟩;simp only[Qb,simprocAttr,Qd8];exact .mk (Lb _) ⟨rfl,rfl⟩
theorem QFm {b len cap i:Nat}(hc:Qxv len cap)(hi:i<=len):Qaz 1 (.slice (some ⟨b,0,none⟩) len cap) none (some (i:Int)) none=some (.slice (some ⟨b,0,none⟩) i cap):=by
 unfold Qaz;rcases hc with rfl | ⟨h1,h2⟩
 ·simp only[Br,NB];rw[Lc (Ro _ _),Lc ⟨B0 _,by omega,by omega,trivial⟩];simp
 ·simp only[Br,NB];rw[Le (by omega),Lc (by omega)];simp
def QsJ (l:List Int)(k:Nat):Bool:=(l.getD k 0==6)||!(decide (0<=Qn (l.take k) (l.getD k 0)))
def Qxx (l:List Int):Bool:=(List.range l.length).all (QsJ l)
theorem Gg {n:Nat}{p:Nat->Bool}(h:∀j,j<n->p j=true):(List.range n).all p=true:=by
 rw[Li];intro j hj;exact h j (LU.1 hj)
theorem Ka {n i:Nat}{p:Nat->Bool}(hi:i<n)(h:p i=false):(List.range n).all p=false:=by
 rw[List.all_eq_false];exact⟨i,LU.2 hi,by rw[h];decide⟩
theorem QvI (va:Value)(xs:List Int)(H:Qa)(ha:Qdw H va xs.length (ints xs))(hl:xs.length<=1000)(hc:∀a n c,va=.slice (some a) n c->Qxv n c):Qe prog 345 [va] H λu H'=>u=.bool (Qxx xs)∧H'=H:=by
 refine QtP λhw=>?_;obtain⟨aa,acap,rfl,hsa⟩:=ha;simp only[Qmm,Qb,simprocAttr];refine Qo (λm A' H'=>∃i:Nat,i<=xs.length∧m=xs.length - i∧H'=H∧(∀j,j<i->QsJ xs j=true)∧A' 0=.slice aa xs.length acap∧A' 5=.slice aa xs.length acap∧A' 6=.int .i64 (xs.length:Int)∧A' 7=.int .i64 i) xs.length ?_ ?_
 ·refine⟨0,L7 _,by omega,rfl,λj h=>by omega,?_,?_,?_,?_⟩
  all_goals simp only[uxA,uxB,Nat.reduceBEq]
  rfl
 ·rintro m A' H' ⟨i,hi,rfl,hEq,hall,r0,r5,r6,r7⟩;subst hEq;simp only[Qb,simprocAttr,r6,r7];refine Qf (λh2=>?_) (λh2=>?_)
  ·have h2:i<xs.length:=by have:=Lg h2;omega
   obtain⟨b1,e1,ro1,rfl,hb1⟩:=hsa (by omega);have c1:(0:Int)<=i∧(i:Int)<xs.length:=by omega
   have c3:(i:Int).toNat=i:=by omega
   have ei:IntKind.i64.wrap ((i:Int)+1)=((i+1:Nat):Int):=by rw[w64 (by unfold I64;omega)];omega
   have g1:=Zh (l:=xs) (i:=i) (by omega);have next:QsJ xs i=true->∀j,j<i+1->QsJ xs j=true:=λh j hj=>by
    rcases Nq j i with h' | h'
    ·exact hall j h'
    ·rw[show j=i by omega];exact h
   have oa:QsJ xs i=((xs.getD i 0==6)||!(decide (0<=Qn (xs.take i) (xs.getD i 0)))):=rfl;simp only[Qb,simprocAttr,r0,r5,r7,c1,c3,hb1,g1];cases q6:xs.getD i 0==6 with
   | true=>
    rw[q6,N1]at oa;simp only[Qb,simprocAttr,r7,ei];refine⟨xs.length - (i+1),by omega,i+1,by omega,rfl,rfl,next oa,?_,?_,?_,?_⟩
    all_goals simp only[Qg,simprocAttr,r0,r5,r6]
   | false=>
    rw[q6,Nt]at oa;have il:(xs.take i).length=i:=by rw[Sb];omega
    have hsl:QAL H' (.slice (some ⟨b1,0,none⟩) i acap) (xs.take i):=⟨some ⟨b1,0,none⟩,acap,by rw[il],λ_=>⟨b1,e1,ro1,_,rfl,hb1,λj hj=>by
     rw[il]at hj;rw[Zh (by omega)];simp[List.getD,Nl,hj]⟩⟩
    have asl:=QFm (b:=b1) (hc _ _ _ rfl) (Nat.le_of_lt h2);simp only[Qb,simprocAttr,r0,r7,asl];refine(QsI _ (xs.take i) (xs.getD i 0) H' hsl (by omega)).thenW ?_;rintro _ _ _ _ ⟨rfl,rfl⟩;simp only[Qb,simprocAttr];cases q7:decide (0<=Qn (xs.take i) (xs.getD i 0)) with
    | true=>
     rw[q7]at oa;simp only[Qb,simprocAttr,QkV];exact .mk (Lb _) ⟨by rw[Qxx,Ka h2 oa],rfl⟩
    | false=>
     rw[q7]at oa;simp only[Qb,simprocAttr,r7,ei];refine⟨xs.length - (i+1),by omega,i+1,by omega,rfl,rfl,next oa,?_,?_,?_,?_⟩
     all_goals simp only[Qg,simprocAttr,r0,r5,r6]
  ·have h2:i=xs.length:=by have:=Ll h2;omega
   subst h2;simp only[Qb,simprocAttr,QkV];exact .mk (Lb _) ⟨by rw[Qxx,Gg hall],rfl⟩
def Qzv (f:Fm)(k:Nat):Bool:=QfZ (f.shapes.getD k 0) (f.slots.getD k 0)
def Qi9 (f:Fm):Bool:=(f.shapes.length==f.slots.length)&&(List.range f.slots.length).all (Qzv f)
theorem Qrc (x:Lf)(H:Qa)(hx:x.At H):Qe prog 346 [.agg x.cells.toArray] H λu H'=>u=.bool (Qi9 x.f)∧∃m,H'=H.up m:=by
 refine QpN λhw=>?_;have ec:(Value.agg x.cells.toArray).cells.toList=x.cells:=rfl;have hx0:Ext H (H.push (.cells x.cells 45 false)):=(Ext.refl H).push _;have hg0:(H.push (.cells x.cells 45 false)).get H.next=some (.cells x.cells 45 false):=by rw[Qd,Lc rfl]
 have hw0:=hw.push (.cells x.cells 45 false);obtain⟨l1,l2,h1,h2⟩:=hx.ext hw hx0;obtain⟨a1,c1,e1,s1⟩:=h1;obtain⟨a2,c2,e2,s2⟩:=h2;have x1:x.cells[1]? = some (.slice a1 x.f.shapes.length c1):=by rw[<- e1];rfl
 have x2:x.cells[2]? = some (.slice a2 x.f.slots.length c2):=by rw[<- e2];rfl
 simp only[Qhw,ec,Qb,simprocAttr,x1,x2];generalize hH0:H.push (.cells x.cells 45 false)=H0 at hx0 hg0 hw0 s1 s2;have fin:∀b,b=Qi9 x.f->Ret H (λu H'=>u=.bool (Qi9 x.f)∧∃m,H'=H.up m) (.bool b) H0:=λb hb=>.ext hw hx0 ⟨by rw[hb],_,rfl⟩
 by_cases hne:x.f.shapes.length=x.f.slots.length
 ·have e0:((x.f.shapes.length:Int)==(x.f.slots.length:Int))=true:=by simp[hne]
  simp only[e0,Qb,simprocAttr,hg0,x1,x2];refine Qo (λm A' H'=>∃i:Nat,i<=x.f.slots.length∧m=x.f.slots.length - i∧H'=H0∧(∀j,j<i->Qzv x.f j=true)∧A' 1=.pointer (some ⟨H.next,0,none⟩)∧A' 13=.slice a2 x.f.slots.length c2∧A' 14=.int .i64 (x.f.slots.length:Int)∧A' 15=.int .i64 i) x.f.slots.length ?_ ?_
  ·refine⟨0,L7 _,by omega,rfl,λj h=>by omega,?_,?_,?_,?_⟩
   all_goals simp only[uxA,uxB,Nat.reduceBEq]
   rfl
  ·rintro m A' H' ⟨i,hi,rfl,hEq,hall,r1,r13,r14,r15⟩;subst hEq;simp only[Qb,simprocAttr,r14,r15];refine Qf (λh2=>?_) (λh2=>?_)
   ·have h2:i<x.f.slots.length:=by have:=Lg h2;omega
    obtain⟨b1,t1,ro1,rfl,hb1⟩:=s1 (by omega);obtain⟨b2,t2,ro2,rfl,hb2⟩:=s2 (by omega);have d1:(0:Int)<=i∧(i:Int)<x.f.slots.length:=by omega
    have d2:(0:Int)<=i∧(i:Int)<x.f.shapes.length:=by omega
    have c3:(i:Int).toNat=i:=by omega
    have ei:IntKind.i64.wrap ((i:Int)+1)=((i+1:Nat):Int):=by rw[w64 (by unfold I64;omega)];omega
    have g1:=Zh (l:=x.f.shapes) (i:=i) (by omega);have g2:=Zh (l:=x.f.slots) (i:=i) (by omega);simp only[Qb,simprocAttr,r1,r13,r15,d1,d2,c3,hb1,hb2,g1,g2,hg0,x1,x2];refine(QvG _ _ _).thenW ?_;rintro _ _ _ _ ⟨rfl,rfl⟩;have oa:Qzv x.f i=QfZ (x.f.shapes.getD i 0) (x.f.slots.getD i 0):=rfl;simp only[Qb,simprocAttr];cases q:QfZ (x.f.shapes.getD i 0) (x.f.slots.getD i 0) with
    | false=>
     rw[q]at oa;simp only[Qb,simprocAttr,QbI];exact fin _ (by rw[Qi9,Ka h2 oa,NJ])
    | true=>
     rw[q]at oa;simp only[Qb,simprocAttr,r15,ei];refine⟨x.f.slots.length - (i+1),by omega,i+1,by omega,rfl,rfl,λj hj=>?_,?_,?_,?_,?_⟩
     ·rcases Nq j i with h | h
      ·exact hall j h
      ·rw[show j=i by omega];exact oa
     all_goals simp only[Qg,simprocAttr,r1,r13,r14]
   ·have h2:i=x.f.slots.length:=by have:=Ll h2;omega
    subst h2;simp only[Qb,simprocAttr,QbI];exact fin _ (by rw[Qi9,Gg hall,hne];simp)
 ·have e0:((x.f.shapes.length:Int)==(x.f.slots.length:Int))=false:=by simp;omega
  simp only[e0,Qb,simprocAttr,QbI];exact fin _ (by rw[Qi9];simp[hne])
def QuB (f:Fm):Bool:=bif !f.vex then((f.w==0)||(f.w==1))&&(f.l==0)&&decide (Qn f.slots 3<0)&&decide (Qn f.slots 7<0) else((f.pre==0)||(f.pre==1)||(f.pre==2)||(f.pre==4))&&(!(f.map==0))&&decide (-1<=f.w)&&decide (f.w<=1)&&((f.l==0)||(f.l==1))
theorem QpO (x:Lf)(H:Qa)(hx:x.At H):Qe prog 344 [.agg x.cells.toArray] H λu H'=>u=.bool (QuB x.f)∧∃m,H'=H.up m:=by
 refine QoP λhw=>?_;have q3:=λH' (he:Ext H H')=>Wt x 3 H' (hx.ext hw he);have q7:=λH' (he:Ext H H')=>Wt x 7 H' (hx.ext hw he);have hs:QuB x.f=bif !x.f.vex then((x.f.w==0)||(x.f.w==1))&&(x.f.l==0)&&decide (Qn x.f.slots 3<0)&&decide (Qn x.f.slots 7<0) else((x.f.pre==0)||(x.f.pre==1)||(x.f.pre==2)||(x.f.pre==4))&&(!(x.f.map==0))&&decide (-1<=x.f.w)&&decide (x.f.w<=1)&&((x.f.l==0)||(x.f.l==1)):=rfl
 rw[hs];clear hs hx;generalize Qn x.f.slots 3=i3 at *;generalize Qn x.f.slots 7=i7 at *;obtain⟨⟨fop,fpre,fmap,fcode,fdg,fw,fl,fvex,fsh,fsl⟩,sv,tv⟩:=x;simp only[Lf.cells]at q3 q7 ⊢;cases fvex
 all_goals simp(disch:=(first | omega | (simp only[hnP];try omega))) only[QfY,XZ,X0,X1,X2,Qk,simprocAttr,Zl]
 all_goals repeat' (first
   | (refine Qp (λh=>?_) (λh=>?_)<;>(try simp only[Lr,Lu]at h)<;>simp(disch:=(first | omega | (simp only[hnP];try omega))) only[XZ,X0,X1,X2,Qk,simprocAttr,Zl,h])
   | (refine Qf (λh=>?_) (λh=>?_)<;>(try simp only[Lr,Lu]at h)<;>simp(disch:=(first | omega | (simp only[hnP];try omega))) only[XZ,X0,X1,X2,Qk,simprocAttr,Zl,h])
   | (refine(q3 _ (by(repeat' (first | exact Ext.refl _ | refine Ext.push ?_ _ | refine Ext.up ?_ (by simp only[Qc,Qt,Ql];omega))))).thenW ?_;rintro _ _ hn hw2 ⟨rfl,k,rfl⟩;(try simp only[Qc,Ql,Qt]at hn);simp(disch:=(first | omega | (simp only[hnP];try omega))) only[XZ,X0,X1,X2,Qk,simprocAttr,Zl])
   | (refine(q7 _ (by(repeat' (first | exact Ext.refl _ | refine Ext.push ?_ _ | refine Ext.up ?_ (by simp only[Qc,Qt,Ql];omega))))).thenW ?_;rintro _ _ hn hw2 ⟨rfl,k,rfl⟩;(try simp only[Qc,Ql,Qt]at hn);simp(disch:=(first | omega | (simp only[hnP];try omega))) only[XZ,X0,X1,X2,Qk,simprocAttr,Zl])
   | fail)
 all_goals refine .ext hw ?_ ⟨?_,_,rfl⟩
 all_goals try (repeat' (first | exact Ext.refl _ | refine Ext.push ?_ _ | refine Ext.up ?_ (by simp only[Qc,Qt,Ql];omega)))
 all_goals (simp_all<;>omega)
theorem QtS (x:Lf)(H:Qa)(hx:x.At H):Qe prog 343 [.agg x.cells.toArray] H λu H'=>u=.bool (decide (0<=Qn x.f.slots 2))∧∃m,H'=H.up m:=by
 refine QsG λhw=>?_;have ec:(Value.agg x.cells.toArray).cells.toList=x.cells:=rfl;simp only[QkU,ec,QI,Wq,Qb,simprocAttr];refine(Wt x 2 _ (hx.ext hw ((Ext.refl H).push _))).thenW ?_;rintro _ _ hn hw2 ⟨rfl,m,rfl⟩;simp only[Ql,Qc]at hn;simp only[Qb,simprocAttr,Qrb];exact .ext hw (((Ext.refl H).push _).up (by simp only[Qc];exact hn)) ⟨rfl,_,rfl⟩
def QFn (c:Int):Int:=IntKind.i64.wrap (BitVec.ofInt IntKind.i64.bits c &&& BitVec.ofInt IntKind.i64.bits 7).toNat
def QvJ (f:Fm):List Bool:=
 let r:=decide (0<=Qn f.slots 1);let m:=decide (0<=Qn f.slots 2);let c:=decide (0<=Qn f.slots 4);let d:=decide (0<=f.digit)
 [f.shapes.length==f.slots.length,QuB f,Qxx f.slots,Qi9 f,!c||((QFn f.code==0)&&!r&&!m&&!d),!r||!d,!m||r||d,m||(!r&&!d),!(f.map==0)||!QvH f.code]
theorem QFo {M:Nat}{v:Value}{l:List Int}(h:SlF M v l):∀a n c,v=.slice (some a) n c->Qxv n c:=by
 rintro a n c rfl;rcases h with⟨_,h⟩ | ⟨_,b,cap,h,_,h2⟩
 ·cases h
 ·cases h;exact h2
theorem Qls {M:Nat}{v:Value}{l:List Int}{H:Qa}{cs:List Value}(hw:H.Wf)(h:SlF M v l)(h2:Qdw H v l.length cs)(m:Nat)(hm:H.next<=m)(n:Nat):Qh m (n+1) v=true:=by
 rcases h with⟨_,rfl⟩ | ⟨hl,b,cap,rfl,_,_⟩
 ·rfl
 ·obtain⟨a,c,e,h1⟩:=h2;cases e;obtain⟨b2,_,_,e3,hb⟩:=h1 (Rj.2 hl);cases e3;have:=hw.lt hb;simp only[Qh,B5];omega
theorem QtT (x:Lf)(H:Qa)(hx:x.At H)(hf:x.Fr 0):Qe prog 212 [.agg x.cells.toArray] H λu H'=>∃b,u=.slice (some ⟨b,0,none⟩) 9 9∧Ext H H'∧H'.get b=some (.cells ((QvJ x.f).map .bool) 4 false):=by
  refine QsF λhw=>?_;have bs:=λm hm n=>Qls hw hf.1 hx.2.2.1 m hm n;have bt:=λm hm n=>Qls hw hf.2 hx.2.2.2 m hm n;have hb:∀m,H.next<=m->Qh m 6 (.agg x.cells.toArray)=true:=λm hm=>by
    have h1:=bs m hm 4;have h2:=bt m hm 4;simp[Qh,Lf.cells,plain]at h1 h2 ⊢;exact⟨h1,h2⟩
  have hb1:∀m,H.next<=m->Qh m 6 x.sv=true:=λm hm=>bs m hm 5;have hb2:∀m,H.next<=m->Qh m 6 x.tv=true:=λm hm=>bt m hm 5;have q1:=λH' (he:Ext H H')=>Wt x 1 H' (hx.ext hw he);have q4:=λH' (he:Ext H H')=>Wt x 4 H' (hx.ext hw he);have qm:=λH' (he:Ext H H')=>QtS x H' (hx.ext hw he);have qp:=λH' (he:Ext H H')=>QpO x H' (hx.ext hw he);have qc:=λH' (he:Ext H H')=>Qrc x H' (hx.ext hw he);have qo:=λH' (he:Ext H H')=>QvI x.tv x.f.slots H' (hx.ext hw he).2.2.2 hx.2.1 (QFo hf.2);have qt:=λH'=>QtR x.f.code H';have ec:(Value.agg x.cells.toArray).cells.toList=x.cells:=rfl;obtain⟨a1,c1,e1,_⟩:=id hx.2.2.1;obtain⟨a2,c2,e2,_⟩:=id hx.2.2.2;have x1:x.cells[1]? = some (.slice a1 x.f.shapes.length c1):=by rw[<- e1];rfl
  have x2:x.cells[2]? = some (.slice a2 x.f.slots.length c2):=by rw[<- e2];rfl
  have x4:x.cells[4]? = some (.int .i64 x.f.map):=rfl;have x5:x.cells[5]? = some (.int .i64 x.f.code):=rfl;have x6:x.cells[6]? = some (.int .i64 x.f.digit):=rfl;rw[e1]at hb1;rw[e2]at hb2 qo;have hr:QvJ x.f=[x.f.shapes.length==x.f.slots.length,QuB x.f,Qxx x.f.slots,Qi9 x.f,!decide (0<=Qn x.f.slots 4)||((QFn x.f.code==0)&&!decide (0<=Qn x.f.slots 1)&&!decide (0<=Qn x.f.slots 2)&&!decide (0<=x.f.digit)),!decide (0<=Qn x.f.slots 1)||!decide (0<=x.f.digit),!decide (0<=Qn x.f.slots 2)||decide (0<=Qn x.f.slots 1)||decide (0<=x.f.digit),decide (0<=Qn x.f.slots 2)||(!decide (0<=Qn x.f.slots 1)&&!decide (0<=x.f.digit)),!(x.f.map==0)||!QvH x.f.code]:=rfl;rw[hr];clear hr;have hxx:∀b,Ext H (H.push b):=λb=>(Ext.refl H).push _;simp only[QkT,ec,QI,Wq,Qb,simprocAttr];have hx0:Ext H (H.push (.cells x.cells 45 false)):=(Ext.refl H).push _;have hg0:(H.push (.cells x.cells 45 false)).get H.next=some (.cells x.cells 45 false):=by rw[Qd,Lc rfl]
  have hw0:=hw.push (.cells x.cells 45 false);have hb0:H.next<(H.push (.cells x.cells 45 false)).next:=Rq _;generalize H.push (.cells x.cells 45 false)=H0 at hx0 hg0 hw0 hb0
  -- each call leaves the box where it is
  have step:∀ (H1:Qa) (m:Nat),Ext H H1->H1.Wf->H1.get H.next=some (.cells x.cells 45 false)->H.next<H1.next->H1.next<=m->Ext H (H1.up m)∧(H1.up m).get H.next=some (.cells x.cells 45 false)∧H.next<(H1.up m).next∧EqB H1 (H1.up m):=λH1 m h1 h2 h3 h4 h5=>⟨h1.up h5,by rw[Y0];exact h3,by simp only[Ql];omega,((Ext.refl H1).up h5).eqB⟩;have hb0':=hb0;refine⟨⟨Rq _,Rq _⟩,(q1 _ hx0).thenW ?_⟩;rintro _ _ hn1 hw1 ⟨rfl,m1,rfl⟩;simp only[Ql]at hn1;obtain⟨hx1,hg1,hb1',he1⟩:=step _ m1 hx0 hw0 hg0 hb0' hn1;generalize Qa.up _ m1=H1 at hw1 hx1 hg1 hb1' he1;simp only[Qb,simprocAttr,hg1,ec,QI,Wq,x1,x2,x4,x5,x6];refine⟨he1,hb _ hx1.next,hb1',(qm _ hx1).thenW ?_⟩;rintro _ _ hn2 hw2 ⟨rfl,m2,rfl⟩;simp only[Ql]at hn2;obtain⟨hx2,hg2,hb2',he2⟩:=step _ m2 hx1 hw1 hg1 hb1' hn2;generalize Qa.up _ m2=H2 at hw2 hx2 hg2 hb2' he2;simp only[Qb,simprocAttr,hg2,ec,QI,Wq,x1,x2,x4,x5,x6];refine⟨he2,hb _ hx2.next,(q4 _ hx2).thenW ?_⟩;rintro _ _ hn3 hw3 ⟨rfl,m3,rfl⟩;simp only[Ql]at hn3;obtain⟨hx3,hg3,hb3',he3⟩:=step _ m3 hx2 hw2 hg2 hb2' hn3;generalize Qa.up _ m3=H3 at hw3 hx3 hg3 hb3' he3;simp only[Qb,simprocAttr,hg3,ec,QI,Wq,x1,x2,x4,x5,x6];refine⟨hb1 _ hx3.next,hb2 _ hx3.next,⟨hb3',hb3',hb3'⟩,(qp _ hx3).thenW ?_⟩;rintro _ _ hn4 hw4 ⟨rfl,m4,rfl⟩;simp only[Ql]at hn4;obtain⟨hx4,hg4,hb4',he4⟩:=step _ m4 hx3 hw3 hg3 hb3' hn4;generalize Qa.up _ m4=H4 at hw4 hx4 hg4 hb4' he4;simp only[Qb,simprocAttr,hg4,ec,QI,Wq,x1,x2,x4,x5,x6];refine⟨he4,hb2 _ hx4.next,⟨hb4',hb4'⟩,(qo _ hx4).thenW ?_⟩;rintro _ _ _ _ ⟨rfl,rfl⟩;simp only[Qb,simprocAttr,hg4,ec,QI,Wq,x1,x2,x4,x5,x6];refine⟨(Ext.refl _).eqB,hb _ hx4.next,hb4',(qc _ hx4).thenW ?_⟩;rintro _ _ hn5 hw5 ⟨rfl,m5,rfl⟩;simp only[Ql]at hn5;obtain⟨hx5,hg5,hb5',he5⟩:=step _ m5 hx4 hw4 hg4 hb4' hn5;generalize Qa.up _ m5=H5 at hw5 hx5 hg5 hb5' he5;simp only[Qb,simprocAttr,hg5,ec,QI,Wq,x1,x2,x4,x5,x6];refine⟨he5,?_⟩;have h7:IntKind.i64.wrap (BitVec.ofInt IntKind.i64.bits x.f.code &&& BitVec.ofInt IntKind.i64.bits 7).toNat=QFn x.f.code:=rfl;have e0:((x.f.shapes.length:Int)==(x.f.slots.length:Int))=(x.f.shapes.length==x.f.slots.length):=by
    rw[Ni,L0,L0];omega
  generalize decide (0<=Qn x.f.slots 1)=r;generalize decide (0<=Qn x.f.slots 2)=m;generalize decide (0<=Qn x.f.slots 4)=c;generalize decide (0<=x.f.digit)=d;cases z0:(QFn x.f.code==0)<;>cases p0:(x.f.map==0)
  all_goals cases c<;>cases r<;>cases m<;>cases d
  all_goals simp only[Qb,simprocAttr,hg5,x4,x5,h7,z0,p0,e0,Qi3]
  all_goals refine⟨rfl,?_⟩
  all_goals first
    | (refine(qt _).thenW ?_
       rintro _ _ _ _ ⟨rfl,rfl⟩;simp only[Qb,simprocAttr,Qi3];refine⟨λ_ _=>rfl,?_⟩;exact .mk (hx5.push _).next ⟨_,rfl,hx5.push _,by rw[Qd,Lc rfl];simp⟩)
    | exact .mk (hx5.push _).next ⟨_,rfl,hx5.push _,by rw[Qd,Lc rfl];simp⟩
theorem QDv (l:List Bool)(i:Nat)(h:i<l.length):(l.map Value.bool)[i]? = some (.bool (l.getD i false)):=by
 simp[List.getD,La h]
def QeY (f:Fm):Int:=
 if opV f.op=false then 6
 else if(decide (4<f.shapes.length)||decide (4<f.slots.length))=true then 3
 else if(decide (f.pre<0)||decide (5<f.pre)||decide (f.map<0)||decide (3<f.map))=true then 5
 else if(decide (f.code<0)||decide (255<f.code)||decide (f.digit < -1)||decide (7<f.digit))=true then 5
 else if((List.range 9).all λi=>(QvJ f).getD i false)=true then 0 else 2
theorem QtU (x:Lf)(H:Qa)(hx:x.At H)(hf:x.Fr 0):Qe prog 110 [.agg x.cells.toArray] H λu H'=>u=.int .i64 (QeY x.f)∧∃m,H'=H.up m:=by
 refine QsE λhw=>?_;have ec:(Value.agg x.cells.toArray).cells.toList=x.cells:=rfl;have hx0:Ext H (H.push (.cells x.cells 45 false)):=(Ext.refl H).push _;have hg0:(H.push (.cells x.cells 45 false)).get H.next=some (.cells x.cells 45 false):=by rw[Qd,Lc rfl]
 have hw0:=hw.push (.cells x.cells 45 false);obtain⟨a1,c1,e1,_⟩:=id hx.2.2.1;obtain⟨a2,c2,e2,_⟩:=id hx.2.2.2;have x0:x.cells[0]? = some (.int .i64 x.f.op):=rfl;have x1:x.cells[1]? = some (.slice a1 x.f.shapes.length c1):=by rw[<- e1];rfl
 have x2:x.cells[2]? = some (.slice a2 x.f.slots.length c2):=by rw[<- e2];rfl
 have x3:x.cells[3]? = some (.int .i64 x.f.pre):=rfl;have x4:x.cells[4]? = some (.int .i64 x.f.map):=rfl;have x5:x.cells[5]? = some (.int .i64 x.f.code):=rfl;have x6:x.cells[6]? = some (.int .i64 x.f.digit):=rfl;have qv:=QIA x.f.op;have qr:=λH' (he:Ext H H')=>QtT x H' (hx.ext hw he) hf;have hl9:(QvJ x.f).length=9:=rfl;have l1:decide ((4:Int)<x.f.shapes.length)=decide (4<x.f.shapes.length):=by rw[BD];omega
 have l2:decide ((4:Int)<x.f.slots.length)=decide (4<x.f.slots.length):=by rw[BD];omega
 have hs:QeY x.f=if opV x.f.op=false then 6
  else if(decide (4<x.f.shapes.length)||decide (4<x.f.slots.length))=true then 3
  else if(decide (x.f.pre<0)||decide (5<x.f.pre)||decide (x.f.map<0)||decide (3<x.f.map))=true then 5
  else if(decide (x.f.code<0)||decide (255<x.f.code)||decide (x.f.digit < -1)||decide (7<x.f.digit))=true then 5
  else if((List.range 9).all λi=>(QvJ x.f).getD i false)=true then 0 else 2:=rfl
 rw[hs];clear hs hx hf e1 e2;generalize QvJ x.f=rl at *;generalize opV x.f.op=ov at *;generalize hH0:H.push (.cells x.cells 45 false)=H0 at hx0 hg0 hw0;obtain⟨r,hr⟩:∃r,r=(if ov=false then(6:Int)
  else if(decide (4<x.f.shapes.length)||decide (4<x.f.slots.length))=true then 3
  else if(decide (x.f.pre<0)||decide (5<x.f.pre)||decide (x.f.map<0)||decide (3<x.f.map))=true then 5
  else if(decide (x.f.code<0)||decide (255<x.f.code)||decide (x.f.digit < -1)||decide (7<x.f.digit))=true then 5
  else if((List.range 9).all λi=>rl.getD i false)=true then 0 else 2):=⟨_,rfl⟩
 rw[<- hr];have P3:∀A,A 1=.pointer (some ⟨H.next,0,none⟩)->r=(if((List.range 9).all λi=>rl.getD i false)=true then 0 else 2)->Qm prog QcD ⟨Rt prog Tryz.f110 H λu H'=>u=.int .i64 r∧∃m,H'=H.up m,WJ⟩ (Rt prog Tryz.f110 H λu H'=>u=.int .i64 r∧∃m,H'=H.up m) A H0:=by
  intro A r1 hr';simp only[QcD,Qb,simprocAttr,r1,hg0,QI,Wq];refine(qr _ hx0).thenW ?_;rintro _ H1 hn1 hw1 ⟨b,rfl,hx1,hb1⟩;simp only[Qb,simprocAttr];refine Qo (λm A' H'=>∃i:Nat,i<=9∧m=9 - i∧H'=H1∧(∀j,j<i->rl.getD j false=true)∧A' 60=.slice (some ⟨b,0,none⟩) 9 9∧A' 61=.int .i64 ((9:Nat):Int)∧A' 62=.int .i64 i) 9 ?_ ?_
  ·refine⟨0,L7 _,by omega,rfl,λj h=>by omega,?_,?_,?_⟩
   all_goals simp only[Qg,simprocAttr]
   all_goals rfl
  ·rintro m A' H' ⟨i,hi,rfl,hEq,hall,r60,r61,r62⟩;subst hEq;simp only[Qhs,Qhr,sxA,sxB,Nat.reduceBEq,Nat.reduceEqDiff,reduceCtorEq,mxA,mxB,Nat.reduceAdd,reduceIte,Nat.reduceLeDiff,splice,r61,r62];refine Qf (λh2=>?_) (λh2=>?_)
   ·have h2:i<9:=by have:=Lg h2;omega
    have c1:(0:Int)<=i∧(i:Int)<((9:Nat):Int):=by omega
    have c3:(i:Int).toNat=i:=by omega
    have ei:IntKind.i64.wrap ((i:Int)+1)=((i+1:Nat):Int):=by rw[w64 (by unfold I64;omega)];omega
    have g1:=QDv rl i (by omega);simp only[sxA,sxB,Nat.reduceBEq,Nat.reduceEqDiff,reduceCtorEq,mxA,mxB,Nat.reduceAdd,reduceIte,Nat.reduceLeDiff,splice,r60,r62,c1,c3,hb1,g1];cases q:rl.getD i false with
    | false=>
     simp only[Qb,simprocAttr,J9];refine .ext hw (hx0.trans hx1) ⟨?_,_,rfl⟩;rw[hr',Ka h2 q];rfl
    | true=>
     simp only[sxA,sxB,Nat.reduceBEq,Nat.reduceEqDiff,reduceCtorEq,mxA,mxB,Nat.reduceAdd,reduceIte,Nat.reduceLeDiff,splice,r62,ei];refine⟨9 - (i+1),by omega,i+1,by omega,rfl,rfl,λj hj=>?_,?_,?_,?_⟩
     ·rcases Nq j i with h | h
      ·exact hall j h
      ·rw[show j=i by omega];exact q
     all_goals simp only[Qg,simprocAttr,r60,r61]
   ·have h2:i=9:=by have:=Ll h2;omega
    subst h2;simp only[Qb,simprocAttr,J9];refine .ext hw (hx0.trans hx1) ⟨?_,_,rfl⟩;rw[hr',Gg hall];rfl
 simp only[QkS,ec,Qb,simprocAttr,hH0,hg0,x0];refine(qv _).thenW ?_;rintro _ _ _ _ ⟨rfl,rfl⟩;simp only[Qhv,Qhu,Qht,Qb,simprocAttr,J9,hg0,x1,x2,x3,x4,x5,x6,l1,l2]
 repeat' (first
   | (refine Qp (λh=>?_) (λh=>?_)<;>(try simp only[Lr,Lu]at h)<;>simp only[Qb,simprocAttr,J9,hg0,x1,x2,x3,x4,x5,x6,l1,l2,h])
   | (refine Qf (λh=>?_) (λh=>?_)<;>(try simp only[Lr,Lu]at h)<;>simp only[Qb,simprocAttr,J9,hg0,x1,x2,x3,x4,x5,x6,l1,l2,h])
   | fail)
 all_goals first
  | (refine P3 _ (by simp only[Qg,simprocAttr]) ?_;rw[hr];clear hr P3 qr qv hg0 hw0 hx0 hH0 x0 x1 x2 x3 x4 x5 x6 l1 l2 hl9 ec;simp_all<;>(repeat rw[Le (by omega)])<;>(try (rw[Lc (by omega)])))
  | (refine .ext hw hx0 ⟨?_,_,rfl⟩;rw[hr];clear hr P3 qr qv hg0 hw0 hx0 hH0 x0 x1 x2 x3 x4 x5 x6 l1 l2 hl9 ec;simp_all<;>(repeat rw[Le (by omega)])<;>(try (rw[Lc (by omega)])))
theorem QuC {f:Fm}(h:QeY f=0):f.shapes.length<=4∧f.slots.length<=4∧(0<=f.pre∧f.pre<=5)∧(0<=f.map∧f.map<=3)∧(0<=f.code∧f.code<=255)∧(-1<=f.digit∧f.digit<=7)∧(List.range 9).all (λi=>(QvJ f).getD i false)=true:=by
 unfold QeY at h;split at h
 ·simp at h
 ·split at h
  ·simp at h
  ·split at h
   ·simp at h
   ·split at h
    ·simp at h
    ·split at h
     ·rename_i h1 h2 h3 h4 h5;simp only[Nw,Lv,not_or]at h2 h3 h4;exact⟨by omega,by omega,by omega,by omega,by omega,by omega,h5⟩
     ·simp at h
theorem Qrw {f:Fm}(h:QeY f=0)(i:Nat)(hi:i<9):(QvJ f).getD i false=true:=Li.1 (QuC h).2.2.2.2.2.2 i (LU.2 hi)
theorem Qzw {sh sl:Int}(h:QfZ sh sl=true):1<=sh∧sh<=34:=by
 unfold QfZ at h;split at h
 ·simp only[Lm,Lv]at h;omega
 ·split at h
  ·simp only[Lm,Lv]at h;omega
  ·split at h
   ·simp only[Lm,Lv]at h;omega
   ·split at h
    ·simp only[Nw,Lm,Lv,L0]at h;omega
    ·exact absurd h (by decide)
theorem Qiq {f:Fm}(h:QeY f=0):f.shapes.length=f.slots.length:=by
 have:=Qrw h 0 (by omega);simpa[QvJ] using this
theorem Qlt {f:Fm}(h:QeY f=0)(i:Nat)(hi:i<f.shapes.length):1<=f.shapes.getD i 0∧f.shapes.getD i 0<=34:=by
 have h3:Qi9 f=true:=Qrw h 3 (by omega);unfold Qi9 at h3;rw[Lm]at h3;have:=Li.1 h3.2 i (LU.2 (by have:=Qiq h;omega));exact Qzw this
theorem QvL {f:Fm}(h:QeY f=0):FOk f:=by
 obtain⟨_,_,hp,hm,_,_,_⟩:=QuC h;have h1:QuB f=true:=Qrw h 1 (by omega);unfold QuB at h1;refine⟨hp,hm,λhv=>?_,λhv=>?_⟩
 ·rw[hv]at h1;simp only[LM,Lq,Lm,Nw,L0]at h1;exact h1.1.1.1
 ·rw[hv]at h1;simp only[L8,Ls,Lm,Nw,L0,Lr,LC,Da,Lv]at h1;exact⟨h1.1.1.1.2,by rcases h1.1.1.1.1 with((a | a) | a) | a<;>simp[a],⟨h1.1.1.2,h1.1.2⟩,h1.2⟩
end Go.Proofs.YtgepgbbjfhggfaaGreatDoor.code
