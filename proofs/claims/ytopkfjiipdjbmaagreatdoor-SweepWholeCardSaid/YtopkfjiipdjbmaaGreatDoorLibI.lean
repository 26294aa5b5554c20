import Derived.Test.YtopkfjiipdjbmaaGreatDoorC2Code
import Derived.Test.YtopkfjiipdjbmaaGreatDoorLibA
import Derived.Test.YtopkfjiipdjbmaaGreatDoorC0Code
set_option maxHeartbeats 4000000
set_option linter.defProp false
set_option linter.unusedVariables false
set_option linter.unusedSimpArgs false
set_option maxRecDepth 100000
noncomputable section
namespace Go.Proofs.YtopkfjiipdjbmaaGreatDoor.code
open Go.Ab
structure Rg where
 c:Int
 n:Int
 deriving DecidableEq
def Rg.cells (r:Rg):List Value:=[.Z r.c,.Z r.n]
def Qgw (c:Int):Int×Int:=if c=2 then(4,4) else if c=8 then(0,1) else if c=1∨c=3∨c=4∨c=5∨c=6∨c=7 then(0,16) else(0,0)
def WC (r:Rg):Bool:=decide ((Qgw r.c).1<=r.n∧r.n<(Qgw r.c).1+(Qgw r.c).2)
def Qti (c:Int)(H:Qa):Qe Pg 112 [.Z c] H λu H'=>u=.tuple #[.Z (Qgw c).1,.Z (Qgw c).2]∧H'=H:=by
 refine QrG λaa=>?_;simp only[QiE,Qb,simprocAttr]
 repeat' (first | (refine Qz (λh=>?_) (λh=>?_)<;>simp only[Qb,simprocAttr,QaX]) | (refine Qg (λh=>?_) (λh=>?_)<;>simp only[Qb,simprocAttr,QaX]))
 all_goals refine .mk (Lb _) ⟨?_,rfl⟩
 all_goals simp_all [Qgw]
def QHa (c:Int):0<=(Qgw c).1∧(Qgw c).1<=4∧0<=(Qgw c).2∧(Qgw c).2<=16:=by
 unfold Qgw;split;·decide
 split;·decide
 split<;>decide
def Gy (r:Rg)(H:Qa):Qe Pg 97 [.agg r.cells.toArray] H λu H'=>u=.bool (WC r)∧∃m,H'=H.up m:=by
 refine Qvk λaa=>?_;obtain⟨c,n⟩:=r;have ab:=QHa c;have e1:IntKind.i64.wrap ((Qgw c).1+(Qgw c).2)=(Qgw c).1+(Qgw c).2:=w64 (by unfold I64;omega);simp only[Rg.cells,Qmv,Qb,simprocAttr];refine(Qti c _).w ?_;rintro _ H1 ac ad ⟨rfl,rfl⟩;simp only[Qb,simprocAttr];refine Qz (λh=>?_) (λh=>?_)
 all_goals simp only[Qb,simprocAttr,Qkr,e1,h]
 all_goals refine .ext aa ((Ext.refl H).push _) ⟨?_,_,rfl⟩
 all_goals (simp_all [WC]<;>omega)
def Qmz (r:Rg):Int:=if WC r=false then 0 else if r.c=7 then 32 else if r.c=6 then 16 else if r.c=5∨r.c=8 then 8 else if r.c=4 then 4 else if r.c=3 then 2 else 1
def QzR (r:Rg)(H:Qa):Qe Pg 122 [.agg r.cells.toArray] H λu H'=>u=.Z (Qmz r)∧∃m,H'=H.up m:=by
 refine Qxk λac=>?_;have q:=Gy r;obtain⟨v,ab⟩:∃v,WC r=v:=⟨_,rfl⟩;rw[ab]at q;obtain⟨c,n⟩:=r;simp only[Rg.cells]at q;simp only[Rg.cells,Qpz,Kt,Ku,Kv,Qb,simprocAttr];refine(q _).w ?_;rintro _ H1 aa ad ⟨rfl,m,rfl⟩;simp only[Qd]at aa;have hx:Ext H ((H.push (.C [.Z c,.Z n] 68)).up m):=((Ext.refl H).push _).up (by simp only[Qd];exact aa);simp only[Qb,simprocAttr];cases v
 all_goals simp only[Qb,simprocAttr,Qb0]
 ·exact .ext ac hx ⟨by simp[Qmz,ab],_,rfl⟩
 repeat' (first | (refine Qz (λh=>?_) (λh=>?_)<;>simp only[Qb,simprocAttr,Qb0,Kt,Ku,Kv,h]) | (refine Qg (λh=>?_) (λh=>?_)<;>simp only[Qb,simprocAttr,Qb0,Kt,Ku,Kv,h]))
 all_goals refine .ext ac hx ⟨?_,_,rfl⟩
 all_goals (simp_all [Qmz]<;>decide)
def QE (ne:Bool)(a b c d:Int)(H:Qa)(k:Value->Qa->Prop):QGM ne [.i,.i] (.agg #[.Z a,.Z b]) (.agg #[.Z c,.Z d]) H k=k (.bool (bif ne then !((a==c)&&(b==d)) else((a==c)&&(b==d)))) H:=by
 refine QCy ?_
 by_cases h:a=c<;>by_cases g:b=d<;>simp[QbX,QGd,h,g]
/-! ### Places -/
structure Mm where
 b:Rg
 i:Rg
 sc:Int
 d:Int
 sz:Int
 deriving DecidableEq
def Mm.cells (m:Mm):List Value:=[.Z m.b.c,.Z m.b.n,.Z m.i.c,.Z m.i.n,.Z m.sc,.Z m.d,.Z m.sz]
def XJ (r:Rg):Bool:=(r.c==5)&&WC r
def QzS (r:Rg)(H:Qa):Qe Pg 120 [.agg r.cells.toArray] H λu H'=>u=.bool (XJ r)∧∃m,H'=H.up m:=by
 refine Qxj λac=>?_;have q:=Gy r;obtain⟨v,ab⟩:∃v,WC r=v:=⟨_,rfl⟩;rw[ab]at q;obtain⟨c,n⟩:=r;simp only[Rg.cells]at q;simp only[Rg.cells,Qpy,Qb,simprocAttr];refine Qz (λh=>?_) (λh=>?_)
 all_goals simp only[Qb,simprocAttr,Qgv,h]
 ·refine(q _).w ?_;rintro _ H1 aa ad ⟨rfl,m,rfl⟩;simp only[Qd]at aa;have hx:Ext H ((H.push (.C [.Z c,.Z n] 68)).up m):=((Ext.refl H).push _).up (by simp only[Qd];exact aa);simp only[Qb,simprocAttr,Qgv];exact .ext ac hx ⟨by simp[XJ,ab,h],_,rfl⟩
 exact .ext ac ((Ext.refl H).push _) ⟨by simp[XJ,h],_,rfl⟩
def Z8 (n:Int):Bool:=n==0||n==1||n==2||n==4||n==8||n==16||n==32
def Qxl (n:Int)(H:Qa):Qe Pg 119 [.Z n] H λu H'=>u=.bool (Z8 n)∧H'=H:=by
 refine Qvm λaa=>?_;simp only[Qmy,Qb,simprocAttr]
 repeat' (first | (refine Qz (λh=>?_) (λh=>?_)<;>simp only[Qb,simprocAttr,QeE,h]) | (refine Qg (λh=>?_) (λh=>?_)<;>simp only[Qb,simprocAttr,QeE,h]))
 all_goals refine .mk (Lb _) ⟨?_,rfl⟩
 all_goals simp_all [Z8]
def Wz (n:Int):Bool:=n==1||n==2||n==4||n==8
def Qvn (n:Int)(H:Qa):Qe Pg 121 [.Z n] H λu H'=>u=.bool (Wz n)∧∃m,H'=H.up m:=by
 refine Qth λab=>?_;have t1:Pg.underlying 222=some (.map 3 3):=by kernel_rfl
 have t2:Pg.underlying 3=some (.int .i64):=by kernel_rfl
 have ae:(Pg.info? 3).map (·.zero)=some (some (.Z 0)):=by kernel_rfl
 obtain⟨ai,ag,ah⟩:=Lx.1 ae;simp only[Qks,Qb,simprocAttr];rw[Qmi (m:=H.y) (n:=1) (es:=[]) t1 t2 (by simp only[Qf,simprocAttr]) (by simp only[Qf,simprocAttr]) (by rw[Qc,Lc rfl]) rfl];simp only[Qb,simprocAttr];rw[Qmi (m:=H.y) (n:=2) (es:=_) t1 t2 (by simp only[Qf,simprocAttr]) (by simp only[Qf,simprocAttr]) (by rw[Qh,Lc rfl]) rfl];simp only[Qb,simprocAttr];rw[Qmi (m:=H.y) (n:=4) (es:=_) t1 t2 (by simp only[Qf,simprocAttr]) (by simp only[Qf,simprocAttr]) (by rw[Qh,Lc rfl]) rfl];simp only[Qb,simprocAttr];rw[Qmi (m:=H.y) (n:=8) (es:=_) t1 t2 (by simp only[Qf,simprocAttr]) (by simp only[Qf,simprocAttr]) (by rw[Qh,Lc rfl]) rfl];simp only[Qb,simprocAttr];have ad:∃r,Qu8 n [(Value.int IntKind.i64 1,Value.int IntKind.i64 0),(Value.int IntKind.i64 2,Value.int IntKind.i64 1),(Value.int IntKind.i64 4,Value.int IntKind.i64 2),(Value.int IntKind.i64 8,Value.int IntKind.i64 3)] 0=some r∧r.isSome=Wz n:=by
  simp only[Qu8];split;·exact⟨_,rfl,by simp_all [Wz]⟩
  split;·exact⟨_,rfl,by simp_all [Wz]⟩
  split;·exact⟨_,rfl,by simp_all [Wz]⟩
  split;·exact⟨_,rfl,by simp_all [Wz]⟩
  exact⟨_,rfl,by simp_all [Wz]⟩
 obtain⟨r,ac,aa⟩:=ad;rw[QCH (m:=H.y) (n:=n) (es:=_) t1 t2 ag ah rfl (by simp only[Qf,simprocAttr]) (by simp only[Qf,simprocAttr]) (by rw[Qh,Lc rfl]) ac];have hx:∀a b c d e,Ext H (((((H.push a).set H.y b).set H.y c).set H.y d).set H.y e):=λa b c d e=>(((((Ext.refl H).push a).set (Lb _) b).set (Lb _) c).set (Lb _) d).set (Lb _) e;cases r with
 | none=>
  simp only[Qw2,Qb,simprocAttr,XI];exact .ext ab (hx _ _ _ _ _) ⟨by rw[<- aa];rfl,_,rfl⟩
 | some q=>
  obtain⟨aj,ak⟩:=q;simp only[Qw2,Qb,simprocAttr,XI];exact .ext ab (hx _ _ _ _ _) ⟨by rw[<- aa];rfl,_,rfl⟩
def isR (r:Rg)(c n:Int):Bool:=(r.c==c)&&(r.n==n)
def QI (m:Mm):Int:=
 if(decide (m.d < -2147483648)||decide (m.d>2147483647))=true then 5
 else if Z8 m.sz=false then 2
 else if(!isR m.b 0 0&&!isR m.b 8 0&&!XJ m.b)=true then 2
 else if(isR m.i 0 0&&!(m.sc==0))=true then 2
 else if isR m.i 0 0=true then 0
 else if(!XJ m.i||!Wz m.sc||isR m.b 8 0)=true then 2
 else if(isR m.i 5 4&&(!(m.sc==1)||isR m.b 5 4))=true then 2
 else 0
def mcF (H:Qa)(c:List Value)(A:Env)(H':Qa):Prop:=Ext H H'∧A 1=.P H.y∧A 3=.P (H.y+1)∧A 4=.P (H.y+2)∧A 5=.P (H.y+3)∧
 H'.get H.y=some (.C c 70)∧H'.get (H.y+1)=some (.C [.Z 0,.Z 0] 68)∧H'.get (H.y+2)=some (.C [.Z 8,.Z 0] 68)∧H'.get (H.y+3)=some (.C [.Z 5,.Z 4] 68)
def mcF.up {H H':Qa}{c:List Value}{A:Env}(h:mcF H c A H'){k:Nat}(ab:H'.y<=k):mcF H c A (H'.up k):=by
 obtain⟨hx,r1,r3,r4,ac,aa,g1,g2,g3⟩:=h;exact⟨hx.up ab,r1,r3,r4,ac,aa,g1,g2,g3⟩
def mcF.env {H H':Qa}{c:List Value}{A B:Env}(h:mcF H c A H')(ab:B 1=A 1)(ac:B 3=A 3)(ad:B 4=A 4)(ae:B 5=A 5):mcF H c B H':=by
 obtain⟨hx,r1,r3,r4,ag,aa,g1,g2,g3⟩:=h;exact⟨hx,ab.trans r1,ac.trans r3,ad.trans r4,ae.trans ag,aa,g1,g2,g3⟩
def QpB (m:Mm)(H:Qa):Qe Pg 98 [.agg m.cells.toArray] H λu H'=>u=.Z (QI m)∧∃k,H'=H.up k:=by
 refine Qvl λal=>?_;have aq:=Qxl m.sz;have an:=λr=>QzS r;have ap:=Qvn m.sc;obtain⟨⟨ad,ae⟩,⟨ai,aj⟩,sc,d,sz⟩:=m;simp only at aq ap;simp only[Mm.cells,Qmw,Qb,simprocAttr,Rh,De];obtain⟨cs,am⟩:∃cs,cs=[Value.Z ad,.Z ae,.Z ai,.Z aj,.Z sc,.Z d,.Z sz]:=⟨_,rfl⟩;generalize aB:exK 0 _ Xi=E0;generalize az:Qk Pg _ _ (Rt Pg _ H _)=K0;have aA:∀A H',Ext H H'->QI ⟨⟨ad,ae⟩,⟨ai,aj⟩,sc,d,sz⟩=0->K0 A H':=by
  intro A H' hx ay;rw[<- az];simp only[Qb,simprocAttr,Qi];exact .ext al hx ⟨by rw[ay],_,rfl⟩
 have P1:∀A H',mcF H cs A H'->(decide (d < -2147483648)||decide (2147483647<d))=false->Z8 sz=true->(!isR ⟨ad,ae⟩ 0 0&&!isR ⟨ad,ae⟩ 8 0&&!XJ ⟨ad,ae⟩)=false->(isR ⟨ai,aj⟩ 0 0&&!(sc==0))=false->isR ⟨ai,aj⟩ 0 0=false->(!XJ ⟨ai,aj⟩||!Wz sc||isR ⟨ad,ae⟩ 8 0)=false->Qk Pg Qcq ⟨Rt Pg Y1 H λu H'=>u=.Z (QI ⟨⟨ad,ae⟩,⟨ai,aj⟩,sc,d,sz⟩)∧∃k,H'=H.up k,E0⟩ K0 A H':=by
  rintro A H' ⟨hx,r1,r3,r4,ac,ab,g1,g2,g3⟩ c0 c1 c2 c3 ao au;rw[am]at ab;simp only[Qcq];simp only[Qb,simprocAttr,QE,r1,ac,ab,g3]
  repeat' (first
   | (refine Qz (λh=>?_) (λh=>?_)<;>(try simp only[Lr,Lu]at h)<;>simp only[Qb,simprocAttr,Qi,QE,r1,r3,r4,ac,ab,g1,g2,g3,h])
   | (refine Qg (λh=>?_) (λh=>?_)<;>(try simp only[Lr,Lu]at h)<;>simp only[Qb,simprocAttr,Qi,QE,r1,r3,r4,ac,ab,g1,g2,g3,h])
   | (refine(aq _).w ?_;rintro _ _ ag ak ⟨rfl,rfl⟩;simp only[Qb,simprocAttr,Qi,QE,r1,r3,r4,ac,ab,g1,g2,g3])
   | (refine(an ⟨ad,ae⟩ _).w ?_;rintro _ _ ag ak ⟨rfl,k,rfl⟩;have hx:=hx.up (show _<=k from ag);simp only[Qb,simprocAttr,Qi,QE,r1,r3,r4,ac,ab,g1,g2,g3])
   | (refine(an ⟨ai,aj⟩ _).w ?_;rintro _ _ ag ak ⟨rfl,k,rfl⟩;have hx:=hx.up (show _<=k from ag);simp only[Qb,simprocAttr,Qi,QE,r1,r3,r4,ac,ab,g1,g2,g3])
   | (refine(ap _).w ?_;rintro _ _ ag ak ⟨rfl,k,rfl⟩;have hx:=hx.up (show _<=k from ag);simp only[Qb,simprocAttr,Qi,QE,r1,r3,r4,ac,ab,g1,g2,g3]))
  all_goals first
   | (have aa:(isR ⟨ai,aj⟩ 5 4&&(!(sc==1)||isR ⟨ad,ae⟩ 5 4))=true:=(by(try simp only[isR]);simp[*]);exact .ext al hx ⟨by first | (simp only[QI,c0,c1,c2,c3,ao,au,aa,LV,LN,N3,NG,LJ,NJ,Be,Nt,N1,NI,Bd,L8,LM,reduceCtorEq,B4,BN];done) | (have ah:=c3;simp only[aa,LJ]at ah;simp only[QI,c0,c1,c2,aa,ah,LV,LN,N3,LJ,reduceCtorEq,B4,BN]),_,rfl⟩)
   | (have aa:(isR ⟨ai,aj⟩ 5 4&&(!(sc==1)||isR ⟨ad,ae⟩ 5 4))=false:=(by(try simp only[isR]);simp[*]);exact .ext al hx ⟨by first | (simp only[QI,c0,c1,c2,c3,ao,au,aa,LV,LN,N3,NG,LJ,NJ,Be,Nt,N1,NI,Bd,L8,LM,reduceCtorEq,B4,BN];done) | (have ah:=c3;simp only[aa,LJ]at ah;simp only[QI,c0,c1,c2,aa,ah,LV,LN,N3,LJ,reduceCtorEq,B4,BN]),_,rfl⟩)
   | (have aa:(isR ⟨ai,aj⟩ 5 4&&(!(sc==1)||isR ⟨ad,ae⟩ 5 4))=false:=(by(try simp only[isR]);simp[*]);exact aA _ _ hx (by simp only[QI,c0,c1,c2,c3,ao,au,aa,LV,LN,N3,NG,LJ,NJ,Be,Nt,N1,NI,Bd,L8,LM,reduceCtorEq,B4,BN]))
 have P2:∀A H',mcF H cs A H'->(decide (d < -2147483648)||decide (2147483647<d))=false->Z8 sz=true->(!isR ⟨ad,ae⟩ 0 0&&!isR ⟨ad,ae⟩ 8 0&&!XJ ⟨ad,ae⟩)=false->(isR ⟨ai,aj⟩ 0 0&&!(sc==0))=false->isR ⟨ai,aj⟩ 0 0=false->Qk Pg Qcr ⟨Rt Pg Y1 H λu H'=>u=.Z (QI ⟨⟨ad,ae⟩,⟨ai,aj⟩,sc,d,sz⟩)∧∃k,H'=H.up k,E0⟩ K0 A H':=by
  rintro A H' ⟨hx,r1,r3,r4,ac,ab,g1,g2,g3⟩ c0 c1 c2 c3 ao;rw[am]at ab;simp only[Qcr];simp only[Qb,simprocAttr,r1,ab]
  repeat' (first
   | (refine Qz (λh=>?_) (λh=>?_)<;>(try simp only[Lr,Lu]at h)<;>simp only[Qb,simprocAttr,Qi,QE,r1,r3,r4,ac,ab,g1,g2,g3,h])
   | (refine Qg (λh=>?_) (λh=>?_)<;>(try simp only[Lr,Lu]at h)<;>simp only[Qb,simprocAttr,Qi,QE,r1,r3,r4,ac,ab,g1,g2,g3,h])
   | (refine(aq _).w ?_;rintro _ _ ag ak ⟨rfl,rfl⟩;simp only[Qb,simprocAttr,Qi,QE,r1,r3,r4,ac,ab,g1,g2,g3])
   | (refine(an ⟨ad,ae⟩ _).w ?_;rintro _ _ ag ak ⟨rfl,k,rfl⟩;have hx:=hx.up (show _<=k from ag);simp only[Qb,simprocAttr,Qi,QE,r1,r3,r4,ac,ab,g1,g2,g3])
   | (refine(an ⟨ai,aj⟩ _).w ?_;rintro _ _ ag ak ⟨rfl,k,rfl⟩;have hx:=hx.up (show _<=k from ag);simp only[Qb,simprocAttr,Qi,QE,r1,r3,r4,ac,ab,g1,g2,g3])
   | (refine(ap _).w ?_;rintro _ _ ag ak ⟨rfl,k,rfl⟩;have hx:=hx.up (show _<=k from ag);simp only[Qb,simprocAttr,Qi,QE,r1,r3,r4,ac,ab,g1,g2,g3]))
  all_goals first
   | (have aa:(!XJ ⟨ai,aj⟩||!Wz sc||isR ⟨ad,ae⟩ 8 0)=true:=(by(try simp only[isR]);simp[*]);exact .ext al hx ⟨by first | (simp only[QI,c0,c1,c2,c3,ao,aa,LV,LN,N3,NG,LJ,NJ,Be,Nt,N1,NI,Bd,L8,LM,reduceCtorEq,B4,BN];done) | (have ah:=c3;simp only[aa,LJ]at ah;simp only[QI,c0,c1,c2,aa,ah,LV,LN,N3,LJ,reduceCtorEq,B4,BN]),_,rfl⟩)
   | (have aa:(!XJ ⟨ai,aj⟩||!Wz sc||isR ⟨ad,ae⟩ 8 0)=false:=(by(try simp only[isR]);simp[*]);exact .ext al hx ⟨by first | (simp only[QI,c0,c1,c2,c3,ao,aa,LV,LN,N3,NG,LJ,NJ,Be,Nt,N1,NI,Bd,L8,LM,reduceCtorEq,B4,BN];done) | (have ah:=c3;simp only[aa,LJ]at ah;simp only[QI,c0,c1,c2,aa,ah,LV,LN,N3,LJ,reduceCtorEq,B4,BN]),_,rfl⟩)
   | (have aa:(!XJ ⟨ai,aj⟩||!Wz sc||isR ⟨ad,ae⟩ 8 0)=false:=(by(try simp only[isR]);simp[*]);exact P1 _ _ (mcF.env ⟨hx,r1,r3,r4,ac,by rw[am];exact ab,g1,g2,g3⟩ (by simp only[Qf,simprocAttr]) (by simp only[Qf,simprocAttr]) (by simp only[Qf,simprocAttr]) (by simp only[Qf,simprocAttr])) c0 c1 c2 c3 ao aa)
 have P3:∀A H',mcF H cs A H'->(decide (d < -2147483648)||decide (2147483647<d))=false->Z8 sz=true->(!isR ⟨ad,ae⟩ 0 0&&!isR ⟨ad,ae⟩ 8 0&&!XJ ⟨ad,ae⟩)=false->(isR ⟨ai,aj⟩ 0 0&&!(sc==0))=false->Qk Pg Qcs ⟨Rt Pg Y1 H λu H'=>u=.Z (QI ⟨⟨ad,ae⟩,⟨ai,aj⟩,sc,d,sz⟩)∧∃k,H'=H.up k,E0⟩ K0 A H':=by
  rintro A H' ⟨hx,r1,r3,r4,ac,ab,g1,g2,g3⟩ c0 c1 c2 c3;rw[am]at ab;simp only[Qcs];simp only[Qb,simprocAttr,QE,r1,r3,ab,g1]
  repeat' (first
   | (refine Qz (λh=>?_) (λh=>?_)<;>(try simp only[Lr,Lu]at h)<;>simp only[Qb,simprocAttr,Qi,QE,r1,r3,r4,ac,ab,g1,g2,g3,h])
   | (refine Qg (λh=>?_) (λh=>?_)<;>(try simp only[Lr,Lu]at h)<;>simp only[Qb,simprocAttr,Qi,QE,r1,r3,r4,ac,ab,g1,g2,g3,h])
   | (refine(aq _).w ?_;rintro _ _ ag ak ⟨rfl,rfl⟩;simp only[Qb,simprocAttr,Qi,QE,r1,r3,r4,ac,ab,g1,g2,g3])
   | (refine(an ⟨ad,ae⟩ _).w ?_;rintro _ _ ag ak ⟨rfl,k,rfl⟩;have hx:=hx.up (show _<=k from ag);simp only[Qb,simprocAttr,Qi,QE,r1,r3,r4,ac,ab,g1,g2,g3])
   | (refine(an ⟨ai,aj⟩ _).w ?_;rintro _ _ ag ak ⟨rfl,k,rfl⟩;have hx:=hx.up (show _<=k from ag);simp only[Qb,simprocAttr,Qi,QE,r1,r3,r4,ac,ab,g1,g2,g3])
   | (refine(ap _).w ?_;rintro _ _ ag ak ⟨rfl,k,rfl⟩;have hx:=hx.up (show _<=k from ag);simp only[Qb,simprocAttr,Qi,QE,r1,r3,r4,ac,ab,g1,g2,g3]))
  all_goals first
   | (have aa:isR ⟨ai,aj⟩ 0 0=true:=(by(try simp only[isR]);simp[*]);exact .ext al hx ⟨by first | (simp only[QI,c0,c1,c2,c3,aa,LV,LN,N3,NG,LJ,NJ,Be,Nt,N1,NI,Bd,L8,LM,reduceCtorEq,B4,BN];done) | (have ah:=c3;simp only[aa,LJ]at ah;simp only[QI,c0,c1,c2,aa,ah,LV,LN,N3,LJ,reduceCtorEq,B4,BN]),_,rfl⟩)
   | (have aa:isR ⟨ai,aj⟩ 0 0=false:=(by(try simp only[isR]);simp[*]);exact .ext al hx ⟨by first | (simp only[QI,c0,c1,c2,c3,aa,LV,LN,N3,NG,LJ,NJ,Be,Nt,N1,NI,Bd,L8,LM,reduceCtorEq,B4,BN];done) | (have ah:=c3;simp only[aa,LJ]at ah;simp only[QI,c0,c1,c2,aa,ah,LV,LN,N3,LJ,reduceCtorEq,B4,BN]),_,rfl⟩)
   | (have aa:isR ⟨ai,aj⟩ 0 0=false:=(by(try simp only[isR]);simp[*]);exact P2 _ _ (mcF.env ⟨hx,r1,r3,r4,ac,by rw[am];exact ab,g1,g2,g3⟩ (by simp only[Qf,simprocAttr]) (by simp only[Qf,simprocAttr]) (by simp only[Qf,simprocAttr]) (by simp only[Qf,simprocAttr])) c0 c1 c2 c3 aa)
 have P4:∀A H',mcF H cs A H'->(decide (d < -2147483648)||decide (2147483647<d))=false->Z8 sz=true->(!isR ⟨ad,ae⟩ 0 0&&!isR ⟨ad,ae⟩ 8 0&&!XJ ⟨ad,ae⟩)=false->Qk Pg Qct ⟨Rt Pg Y1 H λu H'=>u=.Z (QI ⟨⟨ad,ae⟩,⟨ai,aj⟩,sc,d,sz⟩)∧∃k,H'=H.up k,E0⟩ K0 A H':=by
  rintro A H' ⟨hx,r1,r3,r4,ac,ab,g1,g2,g3⟩ c0 c1 c2;rw[am]at ab;simp only[Qct];simp only[Qb,simprocAttr,QE,r1,r3,ab,g1]
  repeat' (first
   | (refine Qz (λh=>?_) (λh=>?_)<;>(try simp only[Lr,Lu]at h)<;>simp only[Qb,simprocAttr,Qi,QE,r1,r3,r4,ac,ab,g1,g2,g3,h])
   | (refine Qg (λh=>?_) (λh=>?_)<;>(try simp only[Lr,Lu]at h)<;>simp only[Qb,simprocAttr,Qi,QE,r1,r3,r4,ac,ab,g1,g2,g3,h])
   | (refine(aq _).w ?_;rintro _ _ ag ak ⟨rfl,rfl⟩;simp only[Qb,simprocAttr,Qi,QE,r1,r3,r4,ac,ab,g1,g2,g3])
   | (refine(an ⟨ad,ae⟩ _).w ?_;rintro _ _ ag ak ⟨rfl,k,rfl⟩;have hx:=hx.up (show _<=k from ag);simp only[Qb,simprocAttr,Qi,QE,r1,r3,r4,ac,ab,g1,g2,g3])
   | (refine(an ⟨ai,aj⟩ _).w ?_;rintro _ _ ag ak ⟨rfl,k,rfl⟩;have hx:=hx.up (show _<=k from ag);simp only[Qb,simprocAttr,Qi,QE,r1,r3,r4,ac,ab,g1,g2,g3])
   | (refine(ap _).w ?_;rintro _ _ ag ak ⟨rfl,k,rfl⟩;have hx:=hx.up (show _<=k from ag);simp only[Qb,simprocAttr,Qi,QE,r1,r3,r4,ac,ab,g1,g2,g3]))
  all_goals first
   | (have aa:(isR ⟨ai,aj⟩ 0 0&&!(sc==0))=true:=(by(try simp only[isR]);simp[*]);exact .ext al hx ⟨by first | (simp only[QI,c0,c1,c2,aa,LV,LN,N3,NG,LJ,NJ,Be,Nt,N1,NI,Bd,L8,LM,reduceCtorEq,B4,BN];done) | (have ah:=c3;simp only[aa,LJ]at ah;simp only[QI,c0,c1,c2,aa,ah,LV,LN,N3,LJ,reduceCtorEq,B4,BN]),_,rfl⟩)
   | (have aa:(isR ⟨ai,aj⟩ 0 0&&!(sc==0))=false:=(by(try simp only[isR]);simp[*]);exact .ext al hx ⟨by first | (simp only[QI,c0,c1,c2,aa,LV,LN,N3,NG,LJ,NJ,Be,Nt,N1,NI,Bd,L8,LM,reduceCtorEq,B4,BN];done) | (have ah:=c3;simp only[aa,LJ]at ah;simp only[QI,c0,c1,c2,aa,ah,LV,LN,N3,LJ,reduceCtorEq,B4,BN]),_,rfl⟩)
   | (have aa:(isR ⟨ai,aj⟩ 0 0&&!(sc==0))=false:=(by(try simp only[isR]);simp[*]);exact P3 _ _ (mcF.env ⟨hx,r1,r3,r4,ac,by rw[am];exact ab,g1,g2,g3⟩ (by simp only[Qf,simprocAttr]) (by simp only[Qf,simprocAttr]) (by simp only[Qf,simprocAttr]) (by simp only[Qf,simprocAttr])) c0 c1 c2 aa)
 have P5:∀A H',mcF H cs A H'->(decide (d < -2147483648)||decide (2147483647<d))=false->Z8 sz=true->Qk Pg Qcu ⟨Rt Pg Y1 H λu H'=>u=.Z (QI ⟨⟨ad,ae⟩,⟨ai,aj⟩,sc,d,sz⟩)∧∃k,H'=H.up k,E0⟩ K0 A H':=by
  rintro A H' ⟨hx,r1,r3,r4,ac,ab,g1,g2,g3⟩ c0 c1;rw[am]at ab;simp only[Qcu];simp only[Qb,simprocAttr,QE,r1,r3,ab,g1]
  repeat' (first
   | (refine Qz (λh=>?_) (λh=>?_)<;>(try simp only[Lr,Lu]at h)<;>simp only[Qb,simprocAttr,Qi,QE,r1,r3,r4,ac,ab,g1,g2,g3,h])
   | (refine Qg (λh=>?_) (λh=>?_)<;>(try simp only[Lr,Lu]at h)<;>simp only[Qb,simprocAttr,Qi,QE,r1,r3,r4,ac,ab,g1,g2,g3,h])
   | (refine(aq _).w ?_;rintro _ _ ag ak ⟨rfl,rfl⟩;simp only[Qb,simprocAttr,Qi,QE,r1,r3,r4,ac,ab,g1,g2,g3])
   | (refine(an ⟨ad,ae⟩ _).w ?_;rintro _ _ ag ak ⟨rfl,k,rfl⟩;have hx:=hx.up (show _<=k from ag);simp only[Qb,simprocAttr,Qi,QE,r1,r3,r4,ac,ab,g1,g2,g3])
   | (refine(an ⟨ai,aj⟩ _).w ?_;rintro _ _ ag ak ⟨rfl,k,rfl⟩;have hx:=hx.up (show _<=k from ag);simp only[Qb,simprocAttr,Qi,QE,r1,r3,r4,ac,ab,g1,g2,g3])
   | (refine(ap _).w ?_;rintro _ _ ag ak ⟨rfl,k,rfl⟩;have hx:=hx.up (show _<=k from ag);simp only[Qb,simprocAttr,Qi,QE,r1,r3,r4,ac,ab,g1,g2,g3]))
  all_goals first
   | (have aa:(!isR ⟨ad,ae⟩ 0 0&&!isR ⟨ad,ae⟩ 8 0&&!XJ ⟨ad,ae⟩)=true:=(by(try simp only[isR]);simp[*]);exact .ext al hx ⟨by first | (simp only[QI,c0,c1,aa,LV,LN,N3,NG,LJ,NJ,Be,Nt,N1,NI,Bd,L8,LM,reduceCtorEq,B4,BN];done) | (have ah:=c3;simp only[aa,LJ]at ah;simp only[QI,c0,c1,c2,aa,ah,LV,LN,N3,LJ,reduceCtorEq,B4,BN]),_,rfl⟩)
   | (have aa:(!isR ⟨ad,ae⟩ 0 0&&!isR ⟨ad,ae⟩ 8 0&&!XJ ⟨ad,ae⟩)=false:=(by(try simp only[isR]);simp[*]);exact .ext al hx ⟨by first | (simp only[QI,c0,c1,aa,LV,LN,N3,NG,LJ,NJ,Be,Nt,N1,NI,Bd,L8,LM,reduceCtorEq,B4,BN];done) | (have ah:=c3;simp only[aa,LJ]at ah;simp only[QI,c0,c1,c2,aa,ah,LV,LN,N3,LJ,reduceCtorEq,B4,BN]),_,rfl⟩)
   | (have aa:(!isR ⟨ad,ae⟩ 0 0&&!isR ⟨ad,ae⟩ 8 0&&!XJ ⟨ad,ae⟩)=false:=(by(try simp only[isR]);simp[*]);exact P4 _ _ (mcF.env ⟨hx,r1,r3,r4,ac,by rw[am];exact ab,g1,g2,g3⟩ (by simp only[Qf,simprocAttr]) (by simp only[Qf,simprocAttr]) (by simp only[Qf,simprocAttr]) (by simp only[Qf,simprocAttr])) c0 c1 aa)
 have P6:∀A H',mcF H cs A H'->(decide (d < -2147483648)||decide (2147483647<d))=false->Qk Pg Qcv ⟨Rt Pg Y1 H λu H'=>u=.Z (QI ⟨⟨ad,ae⟩,⟨ai,aj⟩,sc,d,sz⟩)∧∃k,H'=H.up k,E0⟩ K0 A H':=by
  rintro A H' ⟨hx,r1,r3,r4,ac,ab,g1,g2,g3⟩ c0;rw[am]at ab;simp only[Qcv];simp only[Qb,simprocAttr,r1,ab]
  repeat' (first
   | (refine Qz (λh=>?_) (λh=>?_)<;>(try simp only[Lr,Lu]at h)<;>simp only[Qb,simprocAttr,Qi,QE,r1,r3,r4,ac,ab,g1,g2,g3,h])
   | (refine Qg (λh=>?_) (λh=>?_)<;>(try simp only[Lr,Lu]at h)<;>simp only[Qb,simprocAttr,Qi,QE,r1,r3,r4,ac,ab,g1,g2,g3,h])
   | (refine(aq _).w ?_;rintro _ _ ag ak ⟨rfl,rfl⟩;simp only[Qb,simprocAttr,Qi,QE,r1,r3,r4,ac,ab,g1,g2,g3])
   | (refine(an ⟨ad,ae⟩ _).w ?_;rintro _ _ ag ak ⟨rfl,k,rfl⟩;have hx:=hx.up (show _<=k from ag);simp only[Qb,simprocAttr,Qi,QE,r1,r3,r4,ac,ab,g1,g2,g3])
   | (refine(an ⟨ai,aj⟩ _).w ?_;rintro _ _ ag ak ⟨rfl,k,rfl⟩;have hx:=hx.up (show _<=k from ag);simp only[Qb,simprocAttr,Qi,QE,r1,r3,r4,ac,ab,g1,g2,g3])
   | (refine(ap _).w ?_;rintro _ _ ag ak ⟨rfl,k,rfl⟩;have hx:=hx.up (show _<=k from ag);simp only[Qb,simprocAttr,Qi,QE,r1,r3,r4,ac,ab,g1,g2,g3]))
  all_goals first
   | (have aa:Z8 sz=true:=(by(try simp only[isR]);simp[*]);exact .ext al hx ⟨by first | (simp only[QI,c0,aa,LV,LN,N3,NG,LJ,NJ,Be,Nt,N1,NI,Bd,L8,LM,reduceCtorEq,B4,BN];done) | (have ah:=c3;simp only[aa,LJ]at ah;simp only[QI,c0,c1,c2,aa,ah,LV,LN,N3,LJ,reduceCtorEq,B4,BN]),_,rfl⟩)
   | (have aa:Z8 sz=false:=(by(try simp only[isR]);simp[*]);exact .ext al hx ⟨by first | (simp only[QI,c0,aa,LV,LN,N3,NG,LJ,NJ,Be,Nt,N1,NI,Bd,L8,LM,reduceCtorEq,B4,BN];done) | (have ah:=c3;simp only[aa,LJ]at ah;simp only[QI,c0,c1,c2,aa,ah,LV,LN,N3,LJ,reduceCtorEq,B4,BN]),_,rfl⟩)
   | (have aa:Z8 sz=true:=(by(try simp only[isR]);simp[*]);exact P5 _ _ (mcF.env ⟨hx,r1,r3,r4,ac,by rw[am];exact ab,g1,g2,g3⟩ (by simp only[Qf,simprocAttr]) (by simp only[Qf,simprocAttr]) (by simp only[Qf,simprocAttr]) (by simp only[Qf,simprocAttr])) c0 aa)
 have av:∀b c d e f g h,Ext H (((((((H.push b).push c).set (H.y+1) d).push e).set (H.y+2) f).push g).set (H.y+3) h):=λb c d e f g h=>
  (((((((Ext.refl H).push b).push c).set (by omega) d).push e).set (by omega) f).push g).set (by omega) h
 have ax:∀A,A 1=.P H.y->A 3=.P (H.y+1)->A 4=.P (H.y+2)->A 5=.P (H.y+3)->∀d e f,mcF H cs A (((((((H.push (.C cs 70)).push d).set (H.y+1) (.C [.Z 0,.Z 0] 68)).push e).set (H.y+2) (.C [.Z 8,.Z 0] 68)).push f).set (H.y+3) (.C [.Z 5,.Z 4] 68)):=by
  intro A r1 r3 r4 ac d e f;refine⟨av _ _ _ _ _ _ _,r1,r3,r4,ac,?_,?_,?_,?_⟩<;>simp[Qh,Qc,Rh]
 rw[<- am];refine Qz (λh=>?_) (λh=>?_)<;>(try simp only[Lr,Lu]at h)<;>simp only[Qb,simprocAttr,Qi,Rh,Dd,De,h,am]
 ·refine Qg (λar=>?_) (λar=>?_)<;>simp only[Qb,simprocAttr,Qi,ar];·exact .ext al (av _ _ _ _ _ _ _) ⟨by simp only[QI,h,B4,ar,Bd,N3],_,rfl⟩
  rw[<- am];exact P6 _ _ (ax _ (by simp only[Qf,simprocAttr]) (by simp only[Qf,simprocAttr]) (by simp only[Qf,simprocAttr]) (by simp only[Qf,simprocAttr]) _ _ _) (by simp only[h,ar,NI])
 exact .ext al (av _ _ _ _ _ _ _) ⟨by simp only[QI,h,N1,N3],_,rfl⟩
def WX:Mm:=⟨⟨0,0⟩,⟨0,0⟩,0,0,0⟩
def Wt (m:Mm):Mm:=
 if(isR m.i 0 0||!(m.sc==1))=true then m else if isR m.b 0 0=true then⟨m.i,⟨0,0⟩,0,m.d,m.sz⟩ else if(m.i.n==4)=true then⟨m.i,m.b,m.sc,m.d,m.sz⟩ else m
def Qat (m:Mm):Mm×Int:=if QI m=0 then(Wt m,0) else(WX,QI m)
def QiF (m:Mm)(H:Qa):Qe Pg 91 [.agg m.cells.toArray] H λu H'=>u=.tuple #[.agg (Qat m).1.cells.toArray,.Z (Qat m).2]∧∃k,H'=H.up k:=by
 refine Qvj λag=>?_;have q:=QpB m;obtain⟨e,aa⟩:∃e,QI m=e:=⟨_,rfl⟩;rw[aa]at q;have ab:Qat m=if e=0 then(Wt m,0) else(WX,e):=by rw[<- aa];rfl
 rw[ab];clear ab aa;obtain⟨⟨ah,ai⟩,⟨ak,al⟩,sc,d,sz⟩:=m;simp only[Mm.cells]at q;simp only[Mm.cells,Qmu,Z2,Z3,Z4,Z5,Qb,simprocAttr];refine(q _).w ?_;rintro _ _ ae aj ⟨rfl,k,rfl⟩;simp only[Qd,Qw]at ae;have ac:¬H.y=k:=by omega
 have k1:¬H.y+1=k:=by omega
 have k2:¬H.y=k+1:=by omega
 have k3:¬H.y+1=k+1:=by omega
 simp only[Qb,simprocAttr]
 repeat' (first
   | refine⟨by simp[Qj,plain],by omega,?_⟩
   | (refine Qz (λh=>?_) (λh=>?_)<;>(try simp only[Lr,Lu]at h)<;>simp only[Qb,simprocAttr,Qas,Z2,Z3,Z4,Z5,QE,Rh,Dd,De,ac,k1,k2,k3,h])
   | (refine Qg (λh=>?_) (λh=>?_)<;>(try simp only[Lr,Lu]at h)<;>simp only[Qb,simprocAttr,Qas,Z2,Z3,Z4,Z5,QE,Rh,Dd,De,ac,k1,k2,k3,h]))
 all_goals refine .ext ag ?_ ⟨?_,_,rfl⟩
 all_goals try (repeat' (first | exact Ext.refl _ | refine Ext.push ?_ _ | refine Ext.up ?_ (by first | assumption | (simp only[Qd,Qo];omega)) | refine Ext.set ?_ (by omega) _))
 all_goals (try have ad:e=0:=by simpa using ‹(e==0)=true›)<;>(try have ad:¬e=0:=by simpa using ‹(e==0)=false›)
 all_goals (simp only[Wt,WX,isR, *,LV,LN,N3,N1,NI,Bd,L8,LM];done)
structure Ar where
 k:Int
 r:Rg
 m:Mm
 n:Int
 deriving DecidableEq
def Ar.cells (a:Ar):List Value:=[.Z a.k,.Z a.r.c,.Z a.r.n,.Z a.m.b.c,.Z a.m.b.n,.Z a.m.i.c,.Z a.m.i.n,.Z a.m.sc,.Z a.m.d,.Z a.m.sz,.Z a.n]
def WD (a:Ar):Int:=
 if(a.k==1)=true then(if(!WC a.r||(a.r.c==8))=true then 2 else 0)
 else if(a.k==2)=true then QI a.m
 else if(a.k==3)=true then 0
 else if(a.k==4)=true then(if(decide (a.n < -2147483648)||decide (2147483647<a.n))=true then 5 else 0)
 else 2
def KR (a:Ar)(H:Qa):Qe Pg 63 [.agg a.cells.toArray] H λu H'=>u=.Z (WD a)∧∃k,H'=H.up k:=by
 refine Qoe λad=>?_;have ab:=Gy a.r;have ac:=QpB a.m;obtain⟨k,⟨ak,al⟩,⟨⟨ag,ah⟩,⟨ai,aj⟩,sc,d,sz⟩,n⟩:=a;simp only[Rg.cells,Mm.cells]at ab ac;simp(disch:=omega) only[Ar.cells,Qfm,Y8,Y9,Za,Zb,Zc,QF,simprocAttr]
 repeat' (first
   | (refine Qz (λh=>?_) (λh=>?_)<;>(try simp only[Lr,Lu]at h)<;>simp(disch:=omega) only[QF,simprocAttr,Yj,Y8,Y9,Za,Zb,Zc,h])
   | (refine Qg (λh=>?_) (λh=>?_)<;>(try simp only[Lr,Lu]at h)<;>simp(disch:=omega) only[QF,simprocAttr,Yj,Y8,Y9,Za,Zb,Zc,h])
   | (refine(ab _).w ?_;rintro _ _ aa ae ⟨rfl,k,rfl⟩;simp only[Qd,Qw,Qo]at aa;simp(disch:=omega) only[QF,simprocAttr,Yj])
   | (refine(ac _).w ?_;rintro _ _ aa ae ⟨rfl,k,rfl⟩;simp only[Qd,Qw,Qo]at aa;simp(disch:=omega) only[QF,simprocAttr,Yj]))
 all_goals refine .ext ad ?_ ⟨?_,_,rfl⟩
 all_goals try (repeat' (first | exact Ext.refl _ | refine Ext.push ?_ _ | refine Ext.up ?_ (by simp only[Qd,Qo,Qw];omega) | refine Ext.set ?_ (by omega) _))
 all_goals (simp only[WD, *,LV,LN,N3,N1,NI,Bd,L8,LM])
/-! ### Canon -/
def WY:Ar:=⟨0,⟨0,0⟩,WX,0⟩
def Qgx (a:Ar):Ar:=if(a.k==1)=true then⟨a.k,a.r,WX,0⟩ else if(a.k==2)=true then⟨a.k,⟨0,0⟩,Wt a.m,0⟩ else⟨a.k,⟨0,0⟩,WX,a.n⟩
def WJ (a:Ar):Ar×Int:=if(WD a==0)=true then(Qgx a,0) else(WY,WD a)
def QrI {a:Ar}(aa:(a.k==2)=true):WD a=QI a.m:=by
 have:a.k=2:=by simpa using aa
 simp[WD,this]
def Qp6 (a:Ar)(H:Qa):Qe Pg 75 [.agg a.cells.toArray] H λu H'=>u=.tuple #[.agg (WJ a).1.cells.toArray,.Z (WJ a).2]∧∃k,H'=H.up k:=by
 refine Qof λai=>?_;have ag:=KR a;have ab:=QiF a.m;have ah:=@QrI a;have ad:Qat a.m=if QI a.m=0 then(Wt a.m,0) else(WX,QI a.m):=rfl
 have ae:WJ a=if(WD a==0)=true then(Qgx a,0) else(WY,WD a):=rfl
 rw[ae];rw[ad]at ab;clear ae ad;generalize WD a=e at *;generalize QI a.m=f at *;have ac:Qgx a=if(a.k==1)=true then⟨a.k,a.r,WX,0⟩ else if(a.k==2)=true then⟨a.k,⟨0,0⟩,Wt a.m,0⟩ else⟨a.k,⟨0,0⟩,WX,a.n⟩:=rfl
 rw[ac];clear ac;generalize Wt a.m=mc at *;obtain⟨k,⟨ax,ay⟩,⟨⟨ak,al⟩,⟨am,av⟩,sc,d,sz⟩,n⟩:=a;obtain⟨⟨an,ao⟩,⟨aq,min⟩,ar,ap,au⟩:=mc;simp only[Ar.cells,Mm.cells]at ag ab ah;simp(disch:=(try simp only[hnP])<;>try omega) only[Ar.cells,Qfn,W5,W6,W7,QF,simprocAttr]
 repeat' (first
   | (refine Qz (λh=>?_) (λh=>?_)<;>(try simp only[Lr,Lu]at h)<;>simp(disch:=(try simp only[hnP])<;>try omega) only[W5,W6,W7,QF,simprocAttr,Yk,h])
   | (refine Qg (λh=>?_) (λh=>?_)<;>(try simp only[Lr,Lu]at h)<;>simp(disch:=(try simp only[hnP])<;>try omega) only[W5,W6,W7,QF,simprocAttr,Yk,h])
   | (refine(ag _).w ?_;rintro _ _ aa aj ⟨rfl,k,rfl⟩;(try simp only[Qd,Qw,Qo]at aa);simp(disch:=(try simp only[hnP])<;>try omega) only[W5,W6,W7,QF,simprocAttr,Yk])
   | (refine(ab _).w ?_;rintro _ _ aa aj ⟨rfl,k,rfl⟩;(try simp only[Qd,Qw,Qo]at aa);simp(disch:=(try simp only[hnP])<;>try omega) only[W5,W6,W7,QF,simprocAttr,Yk])
   | (with_reducible refine⟨by simp[Qj,plain],by omega,?_⟩)
   | (with_reducible refine⟨by simp[Qj,plain],?_⟩)
   | fail)
 all_goals refine .ext ai ?_ ⟨?_,_,rfl⟩
 all_goals try (repeat' (first | exact Ext.refl _ | refine Ext.push ?_ _ | refine Ext.up ?_ (by simp only[Qd,Qo,Qw];omega) | refine Ext.set ?_ (by omega) _))
 all_goals simp_all [WY,WX]
def QpD (a:Ar):Int:=if(WD a==0)=true then(if(a.k==1)=true then Qmz a.r else if(a.k==2)=true then a.m.sz else 0) else 0
def QrJ (a:Ar)(H:Qa):Qe Pg 100 [.agg a.cells.toArray] H λu H'=>u=.Z (QpD a)∧∃k,H'=H.up k:=by
 refine Qp5 λae=>?_;have ac:=KR a;have ad:=QzR a.r;have ab:QpD a=if(WD a==0)=true then(if(a.k==1)=true then Qmz a.r else if(a.k==2)=true then a.m.sz else 0) else 0:=rfl
 rw[ab];clear ab;generalize WD a=e at *;generalize Qmz a.r=sr at *;obtain⟨k,⟨al,am⟩,⟨⟨ah,ai⟩,⟨aj,ak⟩,sc,d,sz⟩,n⟩:=a;simp only[Ar.cells,Rg.cells]at ac ad;simp(disch:=(try simp only[hnP])<;>try omega) only[Ar.cells,Qhb,QF,simprocAttr]
 repeat' (first
   | (refine Qz (λh=>?_) (λh=>?_)<;>(try simp only[Lr,Lu]at h)<;>simp(disch:=(try simp only[hnP])<;>try omega) only[QF,simprocAttr,YT,h])
   | (refine Qg (λh=>?_) (λh=>?_)<;>(try simp only[Lr,Lu]at h)<;>simp(disch:=(try simp only[hnP])<;>try omega) only[QF,simprocAttr,YT,h])
   | (refine(ac _).w ?_;rintro _ _ aa ag ⟨rfl,k,rfl⟩;(try simp only[Qd,Qw,Qo]at aa);simp(disch:=(try simp only[hnP])<;>try omega) only[QF,simprocAttr,YT])
   | (refine(ad _).w ?_;rintro _ _ aa ag ⟨rfl,k,rfl⟩;(try simp only[Qd,Qw,Qo]at aa);simp(disch:=(try simp only[hnP])<;>try omega) only[QF,simprocAttr,YT])
   | (with_reducible refine⟨by simp[Qj,plain],by omega,?_⟩)
   | (with_reducible refine⟨by simp[Qj,plain],?_⟩)
   | fail)
 all_goals refine .ext ae ?_ ⟨?_,_,rfl⟩
 all_goals try (repeat' (first | exact Ext.refl _ | refine Ext.push ?_ _ | refine Ext.up ?_ (by simp only[Qd,Qo,Qw];omega) | refine Ext.set ?_ (by omega) _))
 all_goals simp_all []
def Ze (o:Int):Bool:=decide (1<=o)&&decide (o<=322)
def Qb1 (o:Int)(H:Qa):Qe Pg 62 [.Z o] H λu H'=>u=.bool (Ze o)∧H'=H:=by
 refine Qkq λaa=>?_;simp(disch:=(try simp only[hnP])<;>try omega) only[QeD,QF,simprocAttr]
 repeat' (first
   | (refine Qz (λh=>?_) (λh=>?_)<;>(try simp only[Lr,Lu]at h)<;>simp(disch:=(try simp only[hnP])<;>try omega) only[QF,simprocAttr,Z0,h])
   | (refine Qg (λh=>?_) (λh=>?_)<;>(try simp only[Lr,Lu]at h)<;>simp(disch:=(try simp only[hnP])<;>try omega) only[QF,simprocAttr,Z0,h])
   | (with_reducible refine⟨by simp[Qj,plain],by omega,?_⟩)
   | (with_reducible refine⟨by simp[Qj,plain],?_⟩)
   | fail)
 all_goals refine .mk (Lb _) ⟨?_,rfl⟩
 all_goals (simp_all [Ze]<;>omega)
def QzU (o:Int):Int×Bool:=if Ze o=false then(0,false) else if o=1∨o=2∨o=3∨o=4∨o=5∨o=6∨o=7∨o=8∨o=9∨o=10∨o=16 then(0,true) else if o=48 then(64,true) else if o=51 then(16,false) else(8,false)
def QzV (o:Int)(H:Qa):Qe Pg 99 [.Z o] H λu H'=>u=.tuple #[.Z (QzU o).1,.bool (QzU o).2]∧H'=H:=by
 refine Qxi λad=>?_;have ac:=Qb1 o;have aa:QzU o=if Ze o=false then(0,false) else if o=1∨o=2∨o=3∨o=4∨o=5∨o=6∨o=7∨o=8∨o=9∨o=10∨o=16 then(0,true) else if o=48 then(64,true) else if o=51 then(16,false) else(8,false):=rfl
 rw[aa];clear aa;generalize Ze o=v at *;simp(disch:=(try simp only[hnP])<;>try omega) only[Qpx,Ki,Kj,Kk,Kl,Km,Kn,Ko,Kq,Kr,Z6,Z7,QF,simprocAttr]
 repeat' (first
   | (refine Qz (λh=>?_) (λh=>?_)<;>(try simp only[Lr,Lu]at h)<;>simp(disch:=(try simp only[hnP])<;>try omega) only[Ki,Kj,Kk,Kl,Km,Kn,Ko,Kq,Kr,Z6,Z7,QF,simprocAttr,QbZ,h])
   | (refine Qg (λh=>?_) (λh=>?_)<;>(try simp only[Lr,Lu]at h)<;>simp(disch:=(try simp only[hnP])<;>try omega) only[Ki,Kj,Kk,Kl,Km,Kn,Ko,Kq,Kr,Z6,Z7,QF,simprocAttr,QbZ,h])
   | (refine(ac _).w ?_;rintro _ _ ab ae ⟨rfl,rfl⟩;(try simp only[Qd,Qw,Qo]at ab);simp(disch:=(try simp only[hnP])<;>try omega) only[Ki,Kj,Kk,Kl,Km,Kn,Ko,Kq,Kr,Z6,Z7,QF,simprocAttr,QbZ])
   | (with_reducible refine⟨by simp[Qj,plain],by omega,?_⟩)
   | (with_reducible refine⟨by simp[Qj,plain],?_⟩)
   | fail)
 all_goals refine .mk (Lb _) ⟨?_,rfl⟩
 all_goals simp_all []
def Qm (l:List Ar):List Value:=l.flatMap Ar.cells
def We (a:Ar):a.cells.length=11:=rfl
def Gz (a:Ar)(l:List Ar):Qm (a::l)=a.cells++Qm l:=by simp[Qm]
def Qxp (l:List Ar)(a:Ar):Qm (l++[a])=Qm l++a.cells:=by simp[Qm]
def Q7:∀l:List Ar,(Qm l).length=l.length * 11
 | []=>rfl
 | a::l=>by
  have:=Q7 l;rw[Gz,Lh,We,this,Lo];omega
def X4:∀ (l:List Ar) (i:Nat) (p:Ar),l[i]? = some p->((Qm l).drop (i * 11)).take 11=p.cells
 | [],i,p,h=>by simp at h
 | q::l,0,p,h=>by
  simp at h;subst h;rw[Gz,BH,Lw,NO (by rw[We];exact Lb 11),LF (by rw[We];exact Lb 11)]
 | q::l,i+1,p,h=>by
  rw[Gz,show(i+1) * 11=q.cells.length+i * 11 by rw[We];omega,B3,NK (by omega),LH,NL];exact X4 l i p (by simpa using h)
def QQ (H:Qa)(v:Value)(l:List Ar):Prop:=Qaa H v l.length (Qm l)
def QQ.ext {H H':Qa}{v:Value}{l:List Ar}(ab:H.Wf)(aa:Ext H H')(h:QQ H v l):QQ H' v l:=Qaa.ext ab aa h
def QEG (r:Rg):0<=Qmz r∧Qmz r<=32:=by
 unfold Qmz
 repeat' split
 all_goals decide
def QCV {n:Int}(h:Z8 n=true):0<=n∧n<=32:=by
 simp only[Z8,Nw,L0]at h;omega
def QEH (a:Ar):0<=QpD a∧QpD a<=32:=by
 unfold QpD;split
 ·rename_i h;split;·exact QEG _
  split
  ·rename_i aa;rw[QrI aa]at h;apply QCV;cases ab:Z8 a.m.sz with
   | true=>rfl
   | false=>
    unfold QI at h;rw[ab]at h;split at h<;>simp at h
  omega
 omega
def WI (op:Int)(l:List Ar):Int×Bool:=if Ze op=false then(0,false) else if((QzU op).1==0)=false then QzU op else match l with
 | []=>(0,false)
 | a::_=>if(QpD a==0)=true then(0,false) else(8 * QpD a,(QzU op).2)
def QdP (op:Int)(v:Value)(l:List Ar)(H:Qa)(ao:QQ H v l)(au:l.length<=1000):Qe Pg 64 [.agg #[.Z op,v]] H λu H'=>u=.tuple #[.Z (WI op l).1,.bool (WI op l).2]∧∃k,H'=H.up k:=by
 refine Qvi λak=>?_;have al:=Qb1 op;have am:=QzV op;unfold WI;generalize Ze op=v1 at *;generalize QzU op=v2 at *;obtain⟨av,ax⟩:=v2;obtain⟨a0,cap,rfl,an⟩:=ao;cases l with
 | nil=>
  have aa:(((0:Nat):Int)==0)=true:=rfl;simp(disch:=(try simp only[hnP])<;>try omega) only[Qgu,QF,simprocAttr]
  repeat' (first
    | (refine Qz (λh=>?_) (λh=>?_)<;>(try simp only[Lr,Lu]at h)<;>simp(disch:=(try simp only[hnP])<;>try omega) only[QF,simprocAttr,aa,Wy,h])
    | (refine Qg (λh=>?_) (λh=>?_)<;>(try simp only[Lr,Lu]at h)<;>simp(disch:=(try simp only[hnP])<;>try omega) only[QF,simprocAttr,aa,Wy,h])
    | (refine(al _).w ?_;rintro _ _ ab aj ⟨rfl,rfl⟩;(try simp only[Qd,Qw,Qo]at ab);simp(disch:=(try simp only[hnP])<;>try omega) only[QF,simprocAttr,aa,Wy])
    | (refine(am _).w ?_;rintro _ _ ab aj ⟨rfl,rfl⟩;(try simp only[Qd,Qw,Qo]at ab);simp(disch:=(try simp only[hnP])<;>try omega) only[QF,simprocAttr,aa,Wy])
    | (with_reducible refine⟨by simp[Qj,plain],by omega,?_⟩)
    | (with_reducible refine⟨by simp[Qj,plain],?_⟩)
    | fail)
  all_goals refine .ext ak ?_ ⟨?_,_,rfl⟩
  all_goals try (repeat' (first | exact Ext.refl _ | refine Ext.push ?_ _ | refine Ext.up ?_ (by simp only[Qd,Qo,Qw];omega) | refine Ext.set ?_ (by omega) _))
  all_goals simp_all
 | cons a l=>
  dsimp only;have ag:(0:Int).toNat=0:=rfl;have ap:=QrJ a;have aq:=QEH a;generalize QpD a=s at *;obtain⟨b,e,ro,rfl,ac⟩:=an (by simp);have aa:(((l.length+1:Nat):Int)==0)=false:=by simp;omega
  have ae:((0:Int)<=0∧(0:Int)<((l.length+1:Nat):Int)):=by omega
  have ar:=ak.lt ac;have ad:IntKind.i64.wrap (8 * s)=8 * s:=w64 (by unfold I64;omega);have ah:List.take 11 (Qm (a::l))=a.cells:=by
   have:=X4 (a::l) 0 a rfl;simpa using this
  have ai:11<=(Qm (a::l)).length:=by rw[Q7];simp;omega
  simp(disch:=(try simp only[hnP])<;>try omega) only[Qgu,QF,simprocAttr]
  repeat' (first
    | (refine Qz (λh=>?_) (λh=>?_)<;>(try simp only[Lr,Lu]at h)<;>simp(disch:=(try simp only[hnP])<;>try omega) only[QF,simprocAttr,aa,ae,ag,ac,ah,ai,ad,Wy,h])
    | (refine Qg (λh=>?_) (λh=>?_)<;>(try simp only[Lr,Lu]at h)<;>simp(disch:=(try simp only[hnP])<;>try omega) only[QF,simprocAttr,aa,ae,ag,ac,ah,ai,ad,Wy,h])
    | (refine(al _).w ?_;rintro _ _ ab aj ⟨rfl,rfl⟩;(try simp only[Qd,Qw,Qo]at ab);simp(disch:=(try simp only[hnP])<;>try omega) only[QF,simprocAttr,aa,ae,ag,ac,ah,ai,ad,Wy])
    | (refine(am _).w ?_;rintro _ _ ab aj ⟨rfl,rfl⟩;(try simp only[Qd,Qw,Qo]at ab);simp(disch:=(try simp only[hnP])<;>try omega) only[QF,simprocAttr,aa,ae,ag,ac,ah,ai,ad,Wy])
    | (refine(ap _).w ?_;rintro _ _ ab aj ⟨rfl,k,rfl⟩;(try simp only[Qd,Qw,Qo]at ab);simp(disch:=(try simp only[hnP])<;>try omega) only[QF,simprocAttr,aa,ae,ag,ac,ah,ai,ad,Wy])
    | (with_reducible refine⟨by simp[Qj,plain],by omega,?_⟩)
    | (with_reducible refine⟨by simp[Qj,plain],?_⟩)
    | fail)
  all_goals refine .ext ak ?_ ⟨?_,_,rfl⟩
  all_goals try (repeat' (first | exact Ext.refl _ | refine Ext.push ?_ _ | refine Ext.up ?_ (by simp only[Qd,Qo,Qw];omega) | refine Ext.set ?_ (by omega) _))
  all_goals simp_all
def QjZ (n bits:Int):Int:=if bits=8 then n % 256 else if bits=16 then n % 65536 else if bits=32 then n % 4294967296 else n
def Qj0 (n bits:Int):Int:=if bits=8 then(n+128) % 256 - 128 else if bits=16 then(n+32768) % 65536 - 32768 else if bits=32 then(n+2147483648) % 4294967296 - 2147483648 else n
def GM (n bits:Int)(aa:Bool):Int×Int:=
 if(bits==8||bits==16||bits==32||bits==64)=false then(0,2)
 else if(!(n==QjZ n bits)&&!(n==Qj0 n bits))=true then(0,5)
 else if aa=true then(Qj0 n bits,0) else(QjZ n bits,0)
def Qoh (n bits:Int)(ad:Bool)(ae:I64 n)(ak:bits=8∨bits=16∨bits=32∨bits=64)(H:Qa):Qe Pg 65 [.Z n,.Z bits,.bool ad] H λu H'=>u=.tuple #[.Z (GM n bits ad).1,.Z (GM n bits ad).2]∧H'=H:=by
 refine QiB λal=>?_;rcases ak with rfl | rfl | rfl | rfl
 ·have t1:((8:Int)==8)=true:=rfl;have t2:((8:Int)==16)=false:=rfl;have ai:((8:Int)==32)=false:=rfl;have aj:((8:Int)==64)=false:=rfl;have ag:IntKind.i64.wrap (64 - 8)=56:=by decide
  have p1:(2:Int) ^ min (Int.toNat 56) IntKind.u64.bits=72057594037927936:=by decide
  have p2:(2:Int) ^ min (Int.toNat 56) IntKind.i64.bits=72057594037927936:=by decide
  have ah:((0:Int)<=56)=True:=eq_true (by decide);have eL:IntKind.i64.wrap ((IntKind.u64.wrap (IntKind.u64.wrap n * 72057594037927936)).fdiv 72057594037927936)=QjZ n 8:=by
   unfold I64 at ae;rw[Np _ (by decide),NU,NC,NC];rw[show QjZ n 8=n % 256 from rfl];omega
  have eC:(IntKind.i64.wrap (IntKind.u64.wrap (IntKind.u64.wrap n * 72057594037927936))).fdiv 72057594037927936=Qj0 n 8:=by
   unfold I64 at ae;rw[Np _ (by decide),NU,NC,NC];rw[show Qj0 n 8=(n+128) % 256 - 128 from rfl];omega
  simp(disch:=(try simp only[hnP])<;>try omega) only[YS,QN,QO,QP,sxA,sxB,Nat.reduceBEq,Nat.reduceEqDiff,reduceCtorEq,mxD,mxB,Nat.reduceAdd,reduceIte,Nat.reduceLeDiff,splice,t1,ag,ah,p1,p2,eL,eC]
  obtain⟨lo,ab⟩:∃lo,QjZ n 8=lo:=⟨_,rfl⟩;obtain⟨cu,aa⟩:∃cu,Qj0 n 8=cu:=⟨_,rfl⟩;have ac:GM n 8 ad=if(!(n==lo)&&!(n==cu))=true then(0,5) else if ad=true then(cu,0) else(lo,0):=by
   rw[<- ab,<- aa];rfl
  rw[ac,ab,aa];clear ac eL eC ab aa
  repeat' (first
   | (refine Qz (λh=>?_) (λh=>?_)<;>(try simp only[Lr,Lu]at h)<;>simp(disch:=(try simp only[hnP])<;>try omega) only[QN,QO,QP,QF,simprocAttr,Q3,h])
   | (refine Qg (λh=>?_) (λh=>?_)<;>(try simp only[Lr,Lu]at h)<;>simp(disch:=(try simp only[hnP])<;>try omega) only[QN,QO,QP,QF,simprocAttr,Q3,h])
   | fail)
  all_goals refine .mk (Lb _) ⟨?_,rfl⟩
  all_goals simp_all
 ·have t1:((16:Int)==8)=false:=rfl;have t2:((16:Int)==16)=true:=rfl;have ai:((16:Int)==32)=false:=rfl;have aj:((16:Int)==64)=false:=rfl;have ag:IntKind.i64.wrap (64 - 16)=48:=by decide
  have p1:(2:Int) ^ min (Int.toNat 48) IntKind.u64.bits=281474976710656:=by decide
  have p2:(2:Int) ^ min (Int.toNat 48) IntKind.i64.bits=281474976710656:=by decide
  have ah:((0:Int)<=48)=True:=eq_true (by decide);have eL:IntKind.i64.wrap ((IntKind.u64.wrap (IntKind.u64.wrap n * 281474976710656)).fdiv 281474976710656)=QjZ n 16:=by
   unfold I64 at ae;rw[Np _ (by decide),NU,NC,NC];rw[show QjZ n 16=n % 65536 from rfl];omega
  have eC:(IntKind.i64.wrap (IntKind.u64.wrap (IntKind.u64.wrap n * 281474976710656))).fdiv 281474976710656=Qj0 n 16:=by
   unfold I64 at ae;rw[Np _ (by decide),NU,NC,NC];rw[show Qj0 n 16=(n+32768) % 65536 - 32768 from rfl];omega
  simp(disch:=(try simp only[hnP])<;>try omega) only[YS,QN,QO,QP,sxA,sxB,Nat.reduceBEq,Nat.reduceEqDiff,reduceCtorEq,mxD,mxB,Nat.reduceAdd,reduceIte,Nat.reduceLeDiff,splice,t1,t2,ag,ah,p1,p2,eL,eC]
  obtain⟨lo,ab⟩:∃lo,QjZ n 16=lo:=⟨_,rfl⟩;obtain⟨cu,aa⟩:∃cu,Qj0 n 16=cu:=⟨_,rfl⟩;have ac:GM n 16 ad=if(!(n==lo)&&!(n==cu))=true then(0,5) else if ad=true then(cu,0) else(lo,0):=by
   rw[<- ab,<- aa];rfl
  rw[ac,ab,aa];clear ac eL eC ab aa
  repeat' (first
   | (refine Qz (λh=>?_) (λh=>?_)<;>(try simp only[Lr,Lu]at h)<;>simp(disch:=(try simp only[hnP])<;>try omega) only[QN,QO,QP,QF,simprocAttr,Q3,h])
   | (refine Qg (λh=>?_) (λh=>?_)<;>(try simp only[Lr,Lu]at h)<;>simp(disch:=(try simp only[hnP])<;>try omega) only[QN,QO,QP,QF,simprocAttr,Q3,h])
   | fail)
  all_goals refine .mk (Lb _) ⟨?_,rfl⟩
  all_goals simp_all
 ·have t1:((32:Int)==8)=false:=rfl;have t2:((32:Int)==16)=false:=rfl;have ai:((32:Int)==32)=true:=rfl;have aj:((32:Int)==64)=false:=rfl;have ag:IntKind.i64.wrap (64 - 32)=32:=by decide
  have p1:(2:Int) ^ min (Int.toNat 32) IntKind.u64.bits=4294967296:=by decide
  have p2:(2:Int) ^ min (Int.toNat 32) IntKind.i64.bits=4294967296:=by decide
  have ah:((0:Int)<=32)=True:=eq_true (by decide);have eL:IntKind.i64.wrap ((IntKind.u64.wrap (IntKind.u64.wrap n * 4294967296)).fdiv 4294967296)=QjZ n 32:=by
   unfold I64 at ae;rw[Np _ (by decide),NU,NC,NC];rw[show QjZ n 32=n % 4294967296 from rfl];omega
  have eC:(IntKind.i64.wrap (IntKind.u64.wrap (IntKind.u64.wrap n * 4294967296))).fdiv 4294967296=Qj0 n 32:=by
   unfold I64 at ae;rw[Np _ (by decide),NU,NC,NC];rw[show Qj0 n 32=(n+2147483648) % 4294967296 - 2147483648 from rfl];omega
  simp(disch:=(try simp only[hnP])<;>try omega) only[YS,QN,QO,QP,sxA,sxB,Nat.reduceBEq,Nat.reduceEqDiff,reduceCtorEq,mxD,mxB,Nat.reduceAdd,reduceIte,Nat.reduceLeDiff,splice,t1,t2,ai,ag,ah,p1,p2,eL,eC]
  obtain⟨lo,ab⟩:∃lo,QjZ n 32=lo:=⟨_,rfl⟩;obtain⟨cu,aa⟩:∃cu,Qj0 n 32=cu:=⟨_,rfl⟩;have ac:GM n 32 ad=if(!(n==lo)&&!(n==cu))=true then(0,5) else if ad=true then(cu,0) else(lo,0):=by
   rw[<- ab,<- aa];rfl
  rw[ac,ab,aa];clear ac eL eC ab aa
  repeat' (first
   | (refine Qz (λh=>?_) (λh=>?_)<;>(try simp only[Lr,Lu]at h)<;>simp(disch:=(try simp only[hnP])<;>try omega) only[QN,QO,QP,QF,simprocAttr,Q3,h])
   | (refine Qg (λh=>?_) (λh=>?_)<;>(try simp only[Lr,Lu]at h)<;>simp(disch:=(try simp only[hnP])<;>try omega) only[QN,QO,QP,QF,simprocAttr,Q3,h])
   | fail)
  all_goals refine .mk (Lb _) ⟨?_,rfl⟩
  all_goals simp_all
 have t1:((64:Int)==8)=false:=rfl;have t2:((64:Int)==16)=false:=rfl;have ai:((64:Int)==32)=false:=rfl;have aj:((64:Int)==64)=true:=rfl;have ag:IntKind.i64.wrap (64 - 64)=0:=by decide
 have p1:(2:Int) ^ min (Int.toNat 0) IntKind.u64.bits=1:=by decide
 have p2:(2:Int) ^ min (Int.toNat 0) IntKind.i64.bits=1:=by decide
 have ah:((0:Int)<=0)=True:=eq_true (by decide);have eL:IntKind.i64.wrap ((IntKind.u64.wrap (IntKind.u64.wrap n * 1)).fdiv 1)=QjZ n 64:=by
  unfold I64 at ae;rw[Np _ (by decide),NU,NC,NC];rw[show QjZ n 64=n from rfl];omega
 have eC:(IntKind.i64.wrap (IntKind.u64.wrap (IntKind.u64.wrap n * 1))).fdiv 1=Qj0 n 64:=by
  unfold I64 at ae;rw[Np _ (by decide),NU,NC,NC];rw[show Qj0 n 64=n from rfl];omega
 simp(disch:=(try simp only[hnP])<;>try omega) only[YS,QN,QO,QP,sxA,sxB,Nat.reduceBEq,Nat.reduceEqDiff,reduceCtorEq,mxD,mxB,Nat.reduceAdd,reduceIte,Nat.reduceLeDiff,splice,t1,t2,ai,aj,ag,ah,p1,p2,eL,eC]
 obtain⟨lo,ab⟩:∃lo,QjZ n 64=lo:=⟨_,rfl⟩;obtain⟨cu,aa⟩:∃cu,Qj0 n 64=cu:=⟨_,rfl⟩;have ac:GM n 64 ad=if(!(n==lo)&&!(n==cu))=true then(0,5) else if ad=true then(cu,0) else(lo,0):=by
  rw[<- ab,<- aa];rfl
 rw[ac,ab,aa];clear ac eL eC ab aa
 repeat' (first
  | (refine Qz (λh=>?_) (λh=>?_)<;>(try simp only[Lr,Lu]at h)<;>simp(disch:=(try simp only[hnP])<;>try omega) only[QN,QO,QP,QF,simprocAttr,Q3,h])
  | (refine Qg (λh=>?_) (λh=>?_)<;>(try simp only[Lr,Lu]at h)<;>simp(disch:=(try simp only[hnP])<;>try omega) only[QN,QO,QP,QF,simprocAttr,Q3,h])
  | fail)
 all_goals refine .mk (Lb _) ⟨?_,rfl⟩
 all_goals simp_all
def Qau (n bits:Int)(aa:Bool)(ae:I64 n)(H:Qa):Qe Pg 65 [.Z n,.Z bits,.bool aa] H λu H'=>u=.tuple #[.Z (GM n bits aa).1,.Z (GM n bits aa).2]∧H'=H:=by
 by_cases ad:bits=8∨bits=16∨bits=32∨bits=64;·exact Qoh n bits aa ae ad H
 have t1:(bits==8)=false:=by simp;omega
 have t2:(bits==16)=false:=by simp;omega
 have ab:(bits==32)=false:=by simp;omega
 have ac:(bits==64)=false:=by simp;omega
 refine QiB λag=>?_;simp(disch:=(try simp only[hnP])<;>try omega) only[YS,QN,QO,QP,QF,simprocAttr,t1,t2,ab,ac,Q3]
 refine .mk (Lb _) ⟨?_,rfl⟩;simp[GM,t1,t2,ab,ac]
def QEI (n b:Int)(h:I64 n):I64 (Qj0 n b):=by
 unfold I64 at *;unfold Qj0;split;·omega
 split;·omega
 split<;>omega
def QEJ (n b:Int)(h:I64 n):I64 (QjZ n b):=by
 unfold I64 at *;unfold QjZ;split;·omega
 split;·omega
 split<;>omega
def QrK (n b:Int)(aa:Bool)(h:I64 n):I64 (GM n b aa).1:=by
 unfold GM;split;·unfold I64;omega
 split;·unfold I64;omega
 split;·exact QEI n b h
 exact QEJ n b h
def Qp7:List Ar->Int
 | []=>0
 | a::l=>if(WD a==0)=true then Qp7 l else WD a
def J9 (k:Int):List Ar->Int
 | []=>0
 | a::l=>(if(a.k==k)=true then 1 else 0)+J9 k l
def Qlv (n:Int):List Ar->Int
 | []=>n
 | a::l=>Qlv (if(a.k==3)=true then a.n else n) l
def Wl (op:Int)(l:List Ar):Int:=
 if Ze op=false then 6 else if l.length>4 then 3 else if(Qp7 l==0)=false then Qp7 l
 else if(decide (1<J9 2 l)||decide (1<J9 4 l)||decide (1<J9 3 l))=true then 2
 else if(J9 3 l==0)=true then 0
 else if((WI op l).1==0)=true then 2 else(GM (Qlv 0 l) (WI op l).1 (WI op l).2).2
def QjM (k:Int):∀ (l:List Ar) (a:Ar),J9 k (l++[a])=J9 k l+(if(a.k==k)=true then 1 else 0)
 | [],a=>by simp[J9]
 | b::l,a=>by simp only[Nm,J9,QjM k l a];omega
def Quv:∀ (l:List Ar) (n:Int) (a:Ar),Qlv n (l++[a])=if(a.k==3)=true then a.n else Qlv n l
 | [],n,a=>by simp[Qlv]
 | b::l,n,a=>by simp only[Nm,Qlv,Quv l _ a]
def QqJ (k:Int):∀l:List Ar,0<=J9 k l∧J9 k l<=l.length
 | []=>by simp[J9]
 | a::l=>by
  have:=QqJ k l;simp only[J9,Lo];split<;>omega
def QrL (n:Int):∀l:List Ar,Qlv n l=n∨∃a∈l,Qlv n l=a.n
 | []=>.inl rfl
 | a::l=>by
  unfold Qlv;split
  ·rcases QrL a.n l with h | ⟨b,aa,h⟩;·exact .inr ⟨a,by simp,h⟩
   exact .inr ⟨b,by simp[aa],h⟩
  rcases QrL n l with h | ⟨b,aa,h⟩;·exact .inl h
  exact .inr ⟨b,by simp[aa],h⟩
def Quw:∀ (l:List Ar) (i:Nat) (a:Ar),l[i]? = some a->Qp7 (l.drop i)=if(WD a==0)=true then Qp7 (l.drop (i+1)) else WD a
 | [],i,a,h=>by simp at h
 | b::l,0,a,h=>by simp at h;subst h;rfl
 | b::l,i+1,a,h=>by simpa using Quw l i a (by simpa using h)
def QCW {α:Type}(l:List α)(i:Nat)(a:α)(h:l[i]? = some a):l.take (i+1)=l.take i++[a]:=by
 rw[Nv,h];rfl
def icF (H:Qa)(op:Int)(v:Value)(A:Env)(H':Qa):Prop:=Ext H H'∧A 1=.P H.y∧H'.get H.y=some (.C [.Z op,v] 33)∧H.y<H'.y
def Qb2 (op:Int)(v:Value)(l:List Ar)(H:Qa)(an:QQ H v l)(aT:l.length<=1000)(aQ:∀a∈l,I64 a.n):Qe Pg 35 [.agg #[.Z op,v]] H λu H'=>u=.Z (Wl op l)∧∃k,H'=H.up k:=by
 refine Qtf λal=>?_;have P4:∀A H',icF H op v A H'->Ze op=true->l.length<=4->Qp7 l=0->A 6=.Z (J9 2 l)->A 7=.Z (J9 4 l)->A 8=.Z (J9 3 l)->A 9=.Z (Qlv 0 l)->
   Qk Pg QaU ⟨Rt Pg Yi H λu H'=>u=.Z (Wl op l)∧∃k,H'=H.up k,Xi⟩ (Rt Pg Yi H λu H'=>u=.Z (Wl op l)∧∃k,H'=H.up k) A H':=by
  rintro A H' ⟨hx,r1,ab,ai⟩ c1 c2 c3 ac ad r8 ae;have aX:=λH' (hx:Ext H H')=>QdP op v l H' (an.ext al hx) aT;have ah:I64 (Qlv 0 l):=by
   rcases QrL 0 l with h | ⟨a,aj,h⟩;·rw[h];unfold I64;omega
   rw[h];exact aQ a aj
  have aH:Wl op l=if(decide (1<J9 2 l)||decide (1<J9 4 l)||decide (1<J9 3 l))=true then 2 else if(J9 3 l==0)=true then 0 else if((WI op l).1==0)=true then 2 else(GM (Qlv 0 l) (WI op l).1 (WI op l).2).2:=by
   unfold Wl;rw[Le (by simp[c1]),Le (by omega),Le (by simp[c3])]
  rw[aH];clear aH;generalize J9 2 l=n2 at *;generalize J9 4 l=n4 at *;generalize J9 3 l=n3 at *;generalize Qlv 0 l=nn at *;generalize WI op l=ib at *;obtain⟨aL,aM⟩:=ib;have aY:=Qau nn aL aM ah;generalize GM nn aL aM=im at *;obtain⟨bm,bn⟩:=im;obtain⟨a0,cap,rfl,ag⟩:=an;simp(disch:=(try simp only[hnP])<;>try omega) only[QaU,X3,X2,X1,QF,simprocAttr,ac]
  repeat' (first
   | (refine Qz (λh=>?_) (λh=>?_)<;>(try simp only[Lr,Lu]at h)<;>simp(disch:=(try simp only[hnP])<;>try omega) only[X3,X2,X1,QF,simprocAttr,Wa,r1,ab,ac,ad,r8,ae,h])
   | (refine Qg (λh=>?_) (λh=>?_)<;>(try simp only[Lr,Lu]at h)<;>simp(disch:=(try simp only[hnP])<;>try omega) only[X3,X2,X1,QF,simprocAttr,Wa,r1,ab,ac,ad,r8,ae,h])
   | (refine(aX _ hx).w ?_;rintro _ _ ah ax ⟨rfl,k,rfl⟩;have hx:=hx.up (show _<=k from ah);simp(disch:=(try simp only[hnP])<;>try omega) only[X3,X2,X1,QF,simprocAttr,Wa,r1,ab,ac,ad,r8,ae])
   | (refine(aY _).w ?_;rintro _ _ ah ax ⟨rfl,rfl⟩;simp(disch:=(try simp only[hnP])<;>try omega) only[X3,X2,X1,QF,simprocAttr,Wa,r1,ab,ac,ad,r8,ae])
   | fail)
  all_goals refine .ext al hx ⟨?_,_,rfl⟩
  all_goals simp_all
 have aR:∃a0 cap,v=.slice a0 l.length cap:=Wd an;obtain⟨a0,cap,ak⟩:=aR;have aG:∀ (i:Nat) (a:Ar) (H':Qa),Ext H H'->l[i]? = some a->∃b e ro,a0=some ⟨b,0,none⟩∧H'.get b=some (.cells (Qm l) e ro)∧b<H.y∧List.take 11 (List.drop (i * 11) (Qm l))=a.cells∧i * 11+11<=(Qm l).length:=by
  intro i a H' hx hi;have bh:i<l.length:=(Lk.1 hi).1;obtain⟨a1,bg,e1,ag⟩:=an;rw[ak]at e1;cases e1;obtain⟨b,e,ro,rfl,aq⟩:=ag (by omega);exact⟨b,e,ro,rfl,by rw[hx.get b (al.lt aq)];exact aq,al.lt aq,X4 l i a hi,by rw[Q7];omega⟩
 have P9:∀A H',icF H op v A H'->Ze op=true->l.length<=4->Qp7 l=0->Qk Pg QaV ⟨Rt Pg Yi H λu H'=>u=.Z (Wl op l)∧∃k,H'=H.up k,Xi⟩ (Rt Pg Yi H λu H'=>u=.Z (Wl op l)∧∃k,H'=H.up k) A H':=by
  rintro A H' ⟨hx,r1,ab,ai⟩ c1 c2 c3;simp(disch:=(try simp only[hnP])<;>try omega) only[QaV,QF,simprocAttr,r1,ab,ak]
  refine Qp (λm A' H'=>∃i:Nat,i<=l.length∧m=l.length - i∧icF H op v A' H'∧A' 6=.Z (J9 2 (l.take i))∧A' 7=.Z (J9 4 (l.take i))∧A' 8=.Z (J9 3 (l.take i))∧A' 9=.Z (Qlv 0 (l.take i))∧A' 38=.slice a0 l.length cap∧A' 39=.Z l.length∧A' 40=.Z i) l.length ?_ ?_
  ·refine⟨0,L7 _,by omega,⟨hx,?_,?_,ai⟩,?_,?_,?_,?_,?_,?_,?_⟩
   all_goals (try simp only[Qf,simprocAttr,r1,ab,ak])
   all_goals (first | rfl | simp[J9,Qlv])
  rintro m A' H' ⟨i,hi,rfl,⟨hx,r1,ab,ai⟩,ac,ad,r8,ae,az,aA,aB⟩;simp(disch:=(try simp only[hnP])<;>try omega) only[Qg7,QF,simprocAttr,aA,aB]
  refine Qg (λaa=>?_) (λaa=>?_)
  ·have aa:i<l.length:=by have:=Lg aa;omega
   obtain⟨a,aj⟩:∃a,l[i]? = some a:=⟨_,La aa⟩;obtain⟨b,e,ro,rfl,au,aS,am,av⟩:=aG i a H' hx aj;have aV:=hx.y;have d1:(0:Int)<=i∧(i:Int)<l.length:=by omega
   have d3:(i:Int).toNat=i:=by omega
   have ap:IntKind.i64.wrap ((i:Int)+1)=((i+1:Nat):Int):=by rw[w64 (by unfold I64;omega)];omega
   have ba:=QqJ 2 (l.take i);have bc:=QqJ 3 (l.take i);have bd:=QqJ 4 (l.take i);have bi:(l.take i).length<=1000:=by rw[Sb];omega
   have e2:IntKind.i64.wrap (J9 2 (l.take i)+1)=J9 2 (l.take i)+1:=w64 (by unfold I64;omega);have e3:IntKind.i64.wrap (J9 3 (l.take i)+1)=J9 3 (l.take i)+1:=w64 (by unfold I64;omega);have e4:IntKind.i64.wrap (J9 4 (l.take i)+1)=J9 4 (l.take i)+1:=w64 (by unfold I64;omega);have aC:=QjM 2 (l.take i) a;have aD:=QjM 3 (l.take i) a;have aE:=QjM 4 (l.take i) a;have aF:=Quv (l.take i) 0 a;rw[<- QCW l i a aj]at aC aD aE aF;obtain⟨k,r,aW,n⟩:=a;simp only[Ar.cells]at am;simp(disch:=(try simp only[hnP])<;>try omega) only[Qg6,Qg5,Qg4,QF,simprocAttr,az,aB,d1,d3,au,am,av]
   repeat' (first
    | (refine Qg (λh=>?_) (λh=>?_)<;>simp(disch:=(try simp only[hnP])<;>try omega) only[QF,simprocAttr,ac,ad,r8,ae,az,aA,aB,ap,e2,e3,e4])
    | fail)
   all_goals refine⟨l.length - (i+1),by omega,i+1,by omega,rfl,⟨(hx.push _).set (by omega) _,?_,?_,?_⟩,?_,?_,?_,?_,?_,?_,?_⟩
   all_goals (first
    | (simp only[Qf,simprocAttr,r1,az,aA];done)
    | (simp(disch:=(try simp only[hnP])<;>try omega) only[Qrn,simprocAttr,ab];done)
    | (simp only[Qo,Qd];omega)
    | (simp only[Qf,simprocAttr,aC,aD,aE,aF,ac,ad,r8,ae];simp_all;done)
    | (simp only[Qf,simprocAttr,aC,aD,aE,aF,ac,ad,r8,ae];simp_all<;>omega))
  have aa:i=l.length:=by have:=Ll aa;omega
  subst aa;rw[Nr]at ac ad r8 ae;simp(disch:=(try simp only[hnP])<;>try omega) only[QF,simprocAttr]
  refine P4 _ _ ⟨hx,?_,ab,ai⟩ c1 c2 c3 ?_ ?_ ?_ ?_
  all_goals simp only[Qf,simprocAttr,r1,ac,ad,r8,ae]
 have P12:∀A H',icF H op v A H'->A 2=.Z 0->Ze op=true->l.length<=4->Qk Pg Qab ⟨Rt Pg Yi H λu H'=>u=.Z (Wl op l)∧∃k,H'=H.up k,Xi⟩ (Rt Pg Yi H λu H'=>u=.Z (Wl op l)∧∃k,H'=H.up k) A H':=by
  rintro A H' ⟨hx,r1,ab,ai⟩ r2 c1 c2;simp(disch:=(try simp only[hnP])<;>try omega) only[Qab,QF,simprocAttr,r1,ab,ak]
  refine Qp (λm A' H'=>∃i:Nat,i<=l.length∧m=l.length - i∧icF H op v A' H'∧Qp7 l=Qp7 (l.drop i)∧A' 25=.slice a0 l.length cap∧A' 26=.Z l.length∧A' 27=.Z i) l.length ?_ ?_
  ·refine⟨0,L7 _,by omega,⟨hx,?_,?_,ai⟩,?_,?_,?_,?_⟩
   all_goals (try simp only[Qf,simprocAttr,r1,ab,ak])
   all_goals (first | rfl | simp)
  rintro m A' H' ⟨i,hi,rfl,⟨hx,r1,ab,ai⟩,ar,aO,aP,ay⟩;simp(disch:=(try simp only[hnP])<;>try omega) only[Qff,QF,simprocAttr,aP,ay]
  refine Qg (λaa=>?_) (λaa=>?_)
  ·have aa:i<l.length:=by have:=Lg aa;omega
   obtain⟨a,aj⟩:∃a,l[i]? = some a:=⟨_,La aa⟩;obtain⟨b,e,ro,rfl,au,aS,am,av⟩:=aG i a H' hx aj;have aV:=hx.y;have d1:(0:Int)<=i∧(i:Int)<l.length:=by omega
   have d3:(i:Int).toNat=i:=by omega
   have ap:IntKind.i64.wrap ((i:Int)+1)=((i+1:Nat):Int):=by rw[w64 (by unfold I64;omega)];omega
   have aN:=KR a;have aI:=Quw l i a aj;obtain⟨k,r,aW,n⟩:=a;simp only[Ar.cells]at am aN;simp(disch:=(try simp only[hnP])<;>try omega) only[Qfe,QF,simprocAttr,aO,ay,d1,d3,au,am,av]
   refine(aN _).w ?_;rintro _ _ ah ax ⟨rfl,ao,rfl⟩;have bj:H'.y+1<=ao:=ah;simp(disch:=(try simp only[hnP])<;>try omega) only[QF,simprocAttr]
   refine Qg (λh=>?_) (λh=>?_)
   ·simp(disch:=(try simp only[hnP])<;>try omega) only[QF,simprocAttr,Wa]
    refine .ext al (((hx.push _).set (by omega) _).up (show _<=ao from ah)) ⟨?_,_,rfl⟩;unfold Wl;simp only[Lr]at h;rw[Le (by simp[c1]),Le (by omega),ar,aI,h];simp[h]
   simp(disch:=(try simp only[hnP])<;>try omega) only[QF,simprocAttr,ay,ap]
   refine⟨l.length - (i+1),by omega,i+1,by omega,rfl,⟨((hx.push _).set (by omega) _).up (show _<=ao from ah),?_,?_,?_⟩,?_,?_,?_,?_⟩;·simp only[Qf,simprocAttr,r1]
   ·simp(disch:=(try simp only[hnP])<;>try omega) only[Qrn,simprocAttr,ab]
   ·show H.y<ao;omega
   ·simp only[Lu]at h;rw[ar,aI,h];rfl
   all_goals simp only[Qf,simprocAttr,aO,aP]
  have aa:i=l.length:=by have:=Ll aa;omega
  subst aa;simp(disch:=(try simp only[hnP])<;>try omega) only[QF,simprocAttr]
  refine P9 _ _ ⟨hx,?_,ab,ai⟩ c1 c2 ?_;·simp only[Qf,simprocAttr,r1]
  rw[ar,BU];rfl
 have aZ:=Qb1 op;have aK:Wl op l=if Ze op=false then 6 else if l.length>4 then 3 else Wl op l:=by
  split;·rename_i h;unfold Wl;rw[Lc h]
  rename_i h;split;·rename_i aa;unfold Wl;rw[Le h,Lc aa]
  rfl
 have aU:=(Ext.refl H).push (.C [.Z op,v] 33);have aJ:=(Ext.refl H).push (.C [.Z op,.slice a0 l.length cap] 33);simp(disch:=(try simp only[hnP])<;>try omega) only[Qko,QF,simprocAttr]
 refine(aZ _).w ?_;rintro _ _ ah ax ⟨rfl,rfl⟩;simp(disch:=(try simp only[hnP])<;>try omega) only[QF,simprocAttr]
 refine Qg (λag=>?_) (λag=>?_)
 ·simp only[Lr]at ag;simp(disch:=(try simp only[hnP])<;>try omega) only[QF,simprocAttr,Wa]
  refine .ext al aU ⟨?_,_,rfl⟩;rw[aK,Lc ag]
 simp only[Lu]at ag;simp(disch:=(try simp only[hnP])<;>try omega) only[Qfg,QF,simprocAttr,ak]
 refine Qg (λaa=>?_) (λaa=>?_)
 ·have aa:4<l.length:=by have:=Lg aa;omega
  simp(disch:=(try simp only[hnP])<;>try omega) only[QF,simprocAttr,Wa]
  refine .ext al aJ ⟨?_,_,rfl⟩;rw[aK,Le (by simp[ag]),Lc aa]
 have aa:l.length<=4:=by have:=Ll aa;omega
 simp(disch:=(try simp only[hnP])<;>try omega) only[QF,simprocAttr]
 refine P12 _ _ ⟨aJ,?_,?_,?_⟩ ?_ ag aa;·simp only[Qf,simprocAttr]
 ·simp(disch:=(try simp only[hnP])<;>try omega) only[Qrn,simprocAttr,ak]
 ·simp only[Qd];omega
 simp only[Qf,simprocAttr]
def Qoi (f s:Int):List Ar->Bool
 | [x,y]=>(x.k==f)&&(y.k==s)
 | _=>false
def Qcy:List Ar->Bool
 | [x,y]=>((x.k==1)&&(y.k==1))&&(x.r.c==y.r.c)
 | _=>false
def QjN (x y:Ar):Qm [x,y]=x.cells++y.cells:=by simp[Qm]
def Qae (d:Nat)(op:Int)(v:Value)(l:List Ar)(f s:Int)(H:Qa)(ro:Bool)(aa:H.get d=some (.cells [.Z op,v] 141 ro))(ae:QQ H v l)(al:l.length<=1000):
  Qe Pg 110 [.P d,.Z f,.Z s] H λu H'=>u=.bool (Qoi f s l)∧H'=H:=by
 refine Qmx λaj=>?_;have ak:=aj.lt aa;have ab:∀x y,l=[x,y]->∃b e ro cap,v=.S b 2 cap∧H.get b=some (.cells (x.cells++y.cells) e ro):=by
  rintro x y rfl;obtain⟨a0,cap,rfl,ad⟩:=ae;obtain⟨b,e,ro,rfl,ab⟩:=ad (by simp);exact⟨b,e,ro,cap,rfl,by rw[<- QjN];exact ab⟩
 by_cases h:∃x y,l=[x,y]
 ·obtain⟨x,y,rfl⟩:=h;obtain⟨b,e,aq,cap,rfl,ac⟩:=ab x y rfl;obtain⟨k,r,m,n⟩:=x;obtain⟨am,ap,an,ao⟩:=y;simp only[Ar.cells,Nm,LH]at ac;have d0:((0:Int)<=0∧(0:Int)<((2:Nat):Int)):=by omega
  have d1:((0:Int)<=1∧(1:Int)<((2:Nat):Int)):=by omega
  have t0:(0:Int).toNat=0:=rfl;have t1:(1:Int).toNat=1:=rfl;have e2:(((2:Nat):Int)==2)=true:=rfl;simp(disch:=(try simp only[hnP])<;>try omega) only[Vb,QF,simprocAttr,aa,ac,d0,t0]
  repeat' (first
   | (refine Qz (λh=>?_) (λh=>?_)<;>simp(disch:=(try simp only[hnP])<;>try omega) only[QF,simprocAttr,aa,ac,d0,d1,t0,t1,e2,K7,h])
   | fail)
  all_goals refine .mk (Lb _) ⟨?_,rfl⟩
  all_goals simp_all [Qoi]
 have ag:Qoi f s l=false:=by
  match l,h with
  | [],_=>rfl
  | [_],_=>rfl
  | [x,y],h=>exact absurd ⟨x,y,rfl⟩ h
  | _::_::_::_,_=>rfl
 have ah:((l.length:Int)==2)=false:=by
  have:l.length≠2:=λai=>h (by
   match l,ai with
   | [x,y],_=>exact⟨x,y,rfl⟩)
  simp only[LC,Da];omega
 obtain⟨a0,cap,rfl,ad⟩:=ae;rw[ag];simp(disch:=(try simp only[hnP])<;>try omega) only[Vb,QF,simprocAttr,aa,ah,K7]
 refine .mk (Lb _) ⟨rfl,rfl⟩
def Qcz (d:Nat)(op:Int)(v:Value)(l:List Ar)(H:Qa)(ro:Bool)(aa:H.get d=some (.cells [.Z op,v] 141 ro))(ad:QQ H v l)(ag:l.length<=1000):
  Qe Pg 102 [.P d] H λu H'=>u=.bool (Qcy l)∧H'=H:=by
 refine QjX λai=>?_;have ak:=ai.lt aa;have q:=Qae d op v l 1 1 H ro aa ad ag
 by_cases h:∃x y,l=[x,y]
 ·obtain⟨x,y,rfl⟩:=h;obtain⟨a0,cap,rfl,ae⟩:=ad;obtain⟨b,e,ap,rfl,ab⟩:=ae (by simp);rw[QjN]at ab;obtain⟨k,r,m,n⟩:=x;obtain⟨al,ao,am,an⟩:=y;simp only[Ar.cells,Nm,LH,Lo,L9]at ab aa q ⊢;have d0:((0:Int)<=0∧(0:Int)<((0+1+1:Nat):Int)):=by omega
  have d1:((0:Int)<=1∧(1:Int)<((0+1+1:Nat):Int)):=by omega
  have t0:(0:Int).toNat=0:=rfl;have t1:(1:Int).toNat=1:=rfl;simp(disch:=(try simp only[hnP])<;>try omega) only[J8,QF,simprocAttr]
  refine q.w ?_;rintro _ _ ah aj ⟨rfl,rfl⟩;simp(disch:=(try simp only[hnP])<;>try omega) only[QF,simprocAttr]
  refine Qz (λh=>?_) (λh=>?_)
  ·simp(disch:=(try simp only[hnP])<;>try omega) only[QF,simprocAttr,aa,ab,d0,d1,t0,t1,WH,h]
   refine .mk (Lb _) ⟨?_,rfl⟩;simp_all [Qoi,Qcy]
  simp(disch:=(try simp only[hnP])<;>try omega) only[QF,simprocAttr,WH,h]
  refine .mk (Lb _) ⟨?_,rfl⟩;simp_all [Qoi,Qcy]
 have ac:Qoi 1 1 l=false∧Qcy l=false:=by
  match l,h with
  | [],_=>exact⟨rfl,rfl⟩
  | [_],_=>exact⟨rfl,rfl⟩
  | [x,y],h=>exact absurd ⟨x,y,rfl⟩ h
  | _::_::_::_,_=>exact⟨rfl,rfl⟩
 rw[ac.1]at q;rw[ac.2];simp(disch:=(try simp only[hnP])<;>try omega) only[J8,QF,simprocAttr]
 refine q.w ?_;rintro _ _ ah aj ⟨rfl,rfl⟩;simp(disch:=(try simp only[hnP])<;>try omega) only[QF,simprocAttr,WH]
 refine .mk (Lb _) ⟨rfl,rfl⟩
def Vc (d b cap:Nat)(op:Int)(x y:Ar)(H:Qa)(ro:Bool)(e:TypeId)(ab:H.get d=some (.cells [.Z op,.S b 2 cap] 141 ro))(aa:H.get b=some (.C (Qm [x,y]) e)):
  Qe Pg 103 [.P d] H λu H'=>u=.tuple #[]∧H'=(H.set b (.C (Qm [y,y]) e)).set b (.C (Qm [y,x]) e):=by
 refine Qlt λac=>?_;have ae:=ac.lt ab;have ad:=ac.lt aa;have d0:((0:Int)<=0∧(0:Int)<((2:Nat):Int)):=by omega
 have d1:((0:Int)<=1∧(1:Int)<((2:Nat):Int)):=by omega
 have t0:(0:Int).toNat=0:=rfl;have t1:(1:Int).toNat=1:=rfl;rw[QjN]at aa;obtain⟨k,r,m,n⟩:=x;obtain⟨ag,aj,ah,ai⟩:=y;simp only[QjN,Ar.cells,Nm,LH]at aa ⊢;simp(disch:=(try simp only[hnP])<;>try omega) only[Qcw,QF,simprocAttr,ab,aa,d0,d1,t0,t1,QjY]
 refine .mk (by simp only[Qo];exact Lb _) ⟨rfl,rfl⟩
variable {P:Program} {A:Env} {H:Qa} {k:Value->Qa->Prop}
def Qxq {t aa e:TypeId}{x:Operand}{a:Option Addr}{n c:Nat}(ab:P.underlying t=some (.slice e))(hx:ev A x=.slice a n c):
  pr P (.gen (.binOp .eql t x (.const (.slice none 0 0)) aa)) false A H k=k (.bool a.isNone) H:=by
 have ac:ev A (.const (.slice none 0 0))=.slice none 0 0:=rfl;have e:rop P (.gen (.binOp .eql t x (.const (.slice none 0 0)) aa)) A H=some (.bool a.isNone,H):=by
  cases a<;>simp[rop,aop,QbV,Qs0,Ql8,X9,hx,ac,ab,aeq,Qic,GO,Y4,QjR,QsY]
 rw[QJo];unfold QK0;rw[e,Qs]
def QrM:∀l:List Ar,(Qm l).all (·.oneCell')=true
 | []=>rfl
 | a::l=>by
  rw[Gz,Fo,QrM l];rfl
def QBf (v:Value)(l:List Ar)(H:Qa)(ai:QQ H v l)(ae:l.length<=1000):Qe Pg 74 [v] H λu H'=>
  Ext H H'∧((l=[]∧(u=.slice none 0 0∨u=.S H.y 0 0∧H'=H.push (.C [] 95)))∨(l≠[]∧u=.S (H.y+1) l.length (UNK+11)∧H'=(H.push (.C [] 95)).push (.C (Qm l) 95))):=by
 refine VN λaj=>?_;obtain⟨a0,cap,rfl,ad⟩:=ai;have aa:=(Ext.refl H).push (.C [] 95);simp(disch:=(try simp only[hnP])<;>try omega) only[YE,QF,simprocAttr]
 rw[Qxq (a:=a0) (e:=95) (n:=l.length) (c:=cap) (by kernel_rfl) (by simp only[Wu,simprocAttr])];cases l with
 | nil=>
  cases a0 with
  | none=>
   simp(disch:=(try simp only[hnP])<;>try omega) only[Qb,simprocAttr,Qrn,simprocAttr,Option.isNone,WP]
   exact .mk (Lb _) ⟨.refl _,.inl (.inl rfl)⟩
  | some x=>
   have ah:∀H1:Qa,Y7 95 11 88 (.S H.y 0 0) (.slice (some x) 0 cap) H1=some (.S H.y 0 0,H1):=λH1=>by simp[Y7,YX]
   simp(disch:=(try simp only[hnP])<;>try omega) only[Qb,simprocAttr,Qrn,simprocAttr,Option.isNone]
   unfold Qdv;rw[ah,Qs];simp(disch:=(try simp only[hnP])<;>try omega) only[Qb,simprocAttr,Qrn,simprocAttr,WP]
   exact .mk aa.y ⟨aa,.inl (.inr ⟨rfl,rfl⟩)⟩
 | cons a l=>
  obtain⟨b,e,ro,rfl,ab⟩:=ad (by simp);have ak:=aj.lt ab;have ac:=Q7 (a::l);have ag:YX 11 (.S b (l.length+1) cap) (H.push (.C [] 95))=some (l.length+1,Qm (a::l)):=by
   rw[KM (c:=Qm (a::l)) (e:=e) (ro:=ro) (by rw[Qps (by omega)];exact ab) (by omega) (by rw[ac,Lo];omega),Lw,LF (by rw[ac,Lo];exact Lb _)]
  rw[Lo]at ae;simp(disch:=(try simp only[hnP])<;>try omega) only[Qb,simprocAttr,Qrn,simprocAttr,Option.isNone]
  refine QjJ (c:=[]) (ro:=false) (e':=95) ag (QrM _) (by omega) (Qio rfl) (by simp) (by omega) (by omega) (by decide) (by omega) ?_;simp(disch:=(try simp only[hnP])<;>try omega) only[Qb,simprocAttr,Qrn,simprocAttr,WP]
  refine .mk (aa.push _).y ⟨aa.push _,?_⟩;simp
def Qxr (op:Int)(l:List Ar):Bool:=(op==16)&&Qoi 1 3 l
def Qxs (op:Int)(l:List Ar):Bool:=(op==10||op==11)&&Qoi 1 2 l
def Qvs (op:Int):List Ar->Bool
 | [x,y]=>(op==11)&&Qcy [x,y]&&!(decide (x.r.n<=y.r.n))
 | _=>false
def Qxt {f s:Int}{l:List Ar}(h:Qoi f s l=true):∃x y,l=[x,y]:=by
 match l,h with
 | [x,y],_=>exact⟨x,y,rfl⟩
def QEK (d:Nat)(op:Int)(v:Value)(l:List Ar)(H:Qa)(aa:H.get d=some (.C [.Z op,v] 141))(ai:QQ H v l)(ae:l.length<=1000)(al:∀x y,l=[x,y]->∃b cap,v=.S b 2 cap∧H.get b=some (.C (Qm l) 95)):
    Qe Pg 77 [.P d] H λu H'=>u=.bool (Qxs op l)∧(Qxs op l=false->H'=H)∧(Qxs op l=true->∃x y b cap,l=[x,y]∧v=.S b 2 cap∧H'=(H.set b (.C (Qm [y,y]) 95)).set b (.C (Qm [y,x]) 95)):=by
  refine QiC λak=>?_;have ao:=ak.lt aa;have q:=Qae d op v l 1 2 H false aa ai ae;have an:=λb cap x y e=>Vc d b cap op x y H false e;have ad:Qxs op l=((op==10||op==11)&&Qoi 1 2 l):=rfl;rw[ad];have ah:=@Qxt 1 2 l;generalize Qoi 1 2 l=r at *;simp(disch:=(try simp only[hnP])<;>try omega) only[QaG,QF,simprocAttr,aa]
  repeat' (first
    | (refine Qz (λh=>?_) (λh=>?_)<;>(try simp only[bne,Lr,Lu]at h)<;>simp(disch:=(try simp only[hnP])<;>try omega) only[QF,simprocAttr,aa,W0,h])
    | (refine Qg (λh=>?_) (λh=>?_)<;>(try simp only[bne,Lr,Lu]at h)<;>simp(disch:=(try simp only[hnP])<;>try omega) only[QF,simprocAttr,aa,W0,h])
    | (refine q.w ?_;rintro _ _ ag am ⟨rfl,rfl⟩;simp(disch:=(try simp only[hnP])<;>try omega) only[QF,simprocAttr,aa,W0])
    | fail)
  all_goals (first
    | (refine .mk (Lb _) ⟨by simp,λ_=>rfl,by simp⟩)
    | (obtain⟨x,y,ab⟩:=ah (by assumption)
       obtain⟨b,cap,aj,ac⟩:=al x y ab;subst ab aj;refine(an b cap x y _ aa ac).w ?_;rintro _ _ ag am ⟨rfl,rfl⟩;simp(disch:=(try simp only[hnP])<;>try omega) only[QF,simprocAttr,W0]
       refine .mk (by simp only[Qo];exact Lb _) ⟨by simp_all,by simp_all,λ_=>⟨x,y,b,cap,rfl,rfl,rfl⟩⟩))
def QCX (d:Nat)(op:Int)(v:Value)(l:List Ar)(H:Qa)(aa:H.get d=some (.C [.Z op,v] 141))(aj:QQ H v l)(ah:l.length<=1000)(al:∀x y,l=[x,y]->∃b cap,v=.S b 2 cap∧H.get b=some (.C (Qm l) 95)):
    Qe Pg 76 [.P d] H λu H'=>u=.bool (Qxr op l)∧(Qxr op l=false->H'=H)∧(Qxr op l=true->∃x y,l=[x,y]∧H'=(H.push (.C (Qm [x,x,y]) 95)).set d (.C [.Z op,.S H.y 3 3] 141)):=by
  refine QhW λac=>?_;have an:=ac.lt aa;have q:=Qae d op v l 1 3 H false aa aj ah;have ae:Qxr op l=((op==16)&&Qoi 1 3 l):=rfl;rw[ae];have ai:=@Qxt 1 3 l;have ag:¬d=H.y:=by omega
  generalize Qoi 1 3 l=r at *;simp(disch:=(try simp only[hnP])<;>try omega) only[VT,QF,simprocAttr,aa]
  repeat' (first
    | (refine Qz (λh=>?_) (λh=>?_)<;>(try simp only[bne,Lr,Lu]at h)<;>simp(disch:=(try simp only[hnP])<;>try omega) only[QF,simprocAttr,aa,Wr,h])
    | (refine Qg (λh=>?_) (λh=>?_)<;>(try simp only[bne,Lr,Lu]at h)<;>simp(disch:=(try simp only[hnP])<;>try omega) only[QF,simprocAttr,aa,Wr,h])
    | (refine q.w ?_;rintro _ _ ao ap ⟨rfl,rfl⟩;simp(disch:=(try simp only[hnP])<;>try omega) only[QF,simprocAttr,aa,Wr])
    | fail)
  all_goals (first
    | (refine .mk (Lb _) ⟨by simp,λ_=>rfl,by simp⟩)
    | (obtain⟨x,y,ad⟩:=ai (by assumption)
       obtain⟨b,cap,ak,ab⟩:=al x y ad;subst ad ak;obtain⟨k,r,m,n⟩:=x;obtain⟨aq,av,ar,au⟩:=y;have am:=ac.lt ab;have d0:((0:Int)<=0∧(0:Int)<((2:Nat):Int)):=by omega
       have d1:((0:Int)<=1∧(1:Int)<((2:Nat):Int)):=by omega
       have t0:(0:Int).toNat=0:=rfl;have t1:(1:Int).toNat=1:=rfl;simp only[QjN,Ar.cells,Nm,LH]at ab;simp(disch:=(try simp only[hnP])<;>try omega) only[sxA,sxB,Nat.reduceBEq,Nat.reduceEqDiff,reduceCtorEq,mxA,mxB,Nat.reduceAdd,reduceIte,Nat.reduceLeDiff,splice,mxD,mxB,Nat.reduceAdd,reduceIte,Nat.reduceLeDiff,splice,aa,ab,d0,d1,t0,t1]
       rw[Lc (by decide)];simp(disch:=(try simp only[hnP])<;>try omega) only[Qb,simprocAttr,Qrn,simprocAttr,aa,ag,Wr]
       refine .mk (by simp only[Qo,Qd];omega) ⟨rfl,λh=>h.elim,λ_=>⟨_,_,rfl,rfl⟩⟩))
def QEL (d:Nat)(op:Int)(v:Value)(l:List Ar)(H:Qa)(aa:H.get d=some (.C [.Z op,v] 141))(an:QQ H v l)(am:l.length<=1000)(ap:∀x y,l=[x,y]->∃b cap,v=.S b 2 cap∧H.get b=some (.C (Qm l) 95)):
  Qe Pg 78 [.P d] H λu H'=>u=.bool (Qvs op l)∧(Qvs op l=false->H'=H)∧(Qvs op l=true->∃x y b cap,l=[x,y]∧v=.S b 2 cap∧H'=(H.set b (.C (Qm [y,y]) 95)).set b (.C (Qm [y,x]) 95)):=by
 refine QiD λah=>?_;have au:=ah.lt aa;have q:=Qcz d op v l H false aa an am
 by_cases ad:∃x y,l=[x,y]
 ·obtain⟨x,y,aj⟩:=ad;obtain⟨b,cap,ao,ac⟩:=ap x y aj;subst aj ao;have aq:=Vc d b cap op x y H false 95 aa ac;have ar:=ah.lt ac;have ak:Qvs op [x,y]=((op==11)&&Qcy [x,y]&&!(decide (x.r.n<=y.r.n))):=rfl;rw[ak];have ab:H.get b=some (.C (x.cells++y.cells) 95):=by rw[<- QjN];exact ac
  have d0:((0:Int)<=0∧(0:Int)<((2:Nat):Int)):=by omega
  have d1:((0:Int)<=1∧(1:Int)<((2:Nat):Int)):=by omega
  have t0:(0:Int).toNat=0:=rfl;have t1:(1:Int).toNat=1:=rfl;obtain⟨k,r,m,n⟩:=x;obtain⟨av,az,ax,ay⟩:=y;simp only[Ar.cells,Nm,LH]at ab;generalize Qcy _=al at *;simp(disch:=(try simp only[hnP])<;>try omega) only[Z1,QF,simprocAttr,aa]
  repeat' (first
   | (refine Qz (λh=>?_) (λh=>?_)<;>(try simp only[bne,Lr,Lu]at h)<;>simp(disch:=(try simp only[hnP])<;>try omega) only[QF,simprocAttr,aa,ab,d0,d1,t0,t1,QX,h])
   | (refine Qg (λh=>?_) (λh=>?_)<;>(try simp only[bne,Lr,Lu]at h)<;>simp(disch:=(try simp only[hnP])<;>try omega) only[QF,simprocAttr,aa,ab,d0,d1,t0,t1,QX,h])
   | (refine q.w ?_;rintro _ _ ag ai ⟨rfl,rfl⟩;simp(disch:=(try simp only[hnP])<;>try omega) only[QF,simprocAttr,aa,ab,d0,d1,t0,t1,QX])
   | (refine aq.w ?_;rintro _ _ ag ai ⟨rfl,rfl⟩;simp(disch:=(try simp only[hnP])<;>try omega) only[QF,simprocAttr,QX])
   | fail)
  all_goals (first
   | (refine .mk (Lb _) ⟨by simp,λ_=>rfl,by simp⟩)
   | (refine .mk (by simp only[Qo];exact Lb _) ⟨rfl,λh=>h.elim,λ_=>⟨_,_,b,cap,rfl,rfl,rfl⟩⟩))
 have ae:Qcy l=false∧Qvs op l=false:=by
  match l,ad with
  | [],_=>exact⟨rfl,rfl⟩
  | [_],_=>exact⟨rfl,rfl⟩
  | [x,y],h=>exact absurd ⟨x,y,rfl⟩ h
  | _::_::_::_,_=>exact⟨rfl,rfl⟩
 rw[ae.1]at q;rw[ae.2];simp(disch:=(try simp only[hnP])<;>try omega) only[Z1,QF,simprocAttr,aa]
 repeat' (first
  | (refine Qz (λh=>?_) (λh=>?_)<;>(try simp only[bne,Lr,Lu]at h)<;>simp(disch:=(try simp only[hnP])<;>try omega) only[QF,simprocAttr,aa,QX,h])
  | (refine Qg (λh=>?_) (λh=>?_)<;>(try simp only[bne,Lr,Lu]at h)<;>simp(disch:=(try simp only[hnP])<;>try omega) only[QF,simprocAttr,aa,QX,h])
  | (refine q.w ?_;rintro _ _ ag ai ⟨rfl,rfl⟩;simp(disch:=(try simp only[hnP])<;>try omega) only[QF,simprocAttr,aa,QX])
  | fail)
 all_goals exact .mk (Lb _) ⟨rfl,λ_=>rfl,by simp⟩
def Zf (aa:Int×Bool)(a:Ar):Ar×Int:=
 let b:=WJ a
 if(b.2==0)=false then(a,b.2)
 else if(b.1.k==3)=true then(let ab:=GM b.1.n aa.1 aa.2;({b.1 with n:=ab.1},ab.2))
 else(b.1,0)
def Q5 (aa:Int×Bool):List Ar->List Ar×Int
 | []=>([],0)
 | a::l=>if((Zf aa a).2==0)=true then((Zf aa a).1::(Q5 aa l).1,(Q5 aa l).2) else([],(Zf aa a).2)
def Ja (op:Int)(l:List Ar):List Ar:=
 if Qxr op l=true then(match l with | [x,y]=>[x,x,y] | l=>l)
 else if Qxs op l=true then l.reverse
 else if Qvs op l=true then l.reverse
 else l
def QT (op:Int)(l:List Ar):Int×List Ar×Int:=
 if(Wl op l==0)=false then(0,[],Wl op l)
 else if((Q5 (WI op l) l).2==0)=false then(0,[],(Q5 (WI op l) l).2)
 else(op,Ja op (Q5 (WI op l) l).1,0)
def QmA (aa:Int×Bool):∀ (l:List Ar) (i:Nat) (a:Ar),l[i]? = some a->Q5 aa (l.drop i)=if((Zf aa a).2==0)=true then((Zf aa a).1::(Q5 aa (l.drop (i+1))).1,(Q5 aa (l.drop (i+1))).2) else([],(Zf aa a).2)
 | [],i,a,h=>by simp at h
 | b::l,0,a,h=>by simp at h;subst h;rfl
 | b::l,i+1,a,h=>by simpa using QmA aa l i a (by simpa using h)
def QC1 (a:Ar)(h:I64 a.n):I64 (WJ a).1.n:=by
 have aa:I64 0:=by unfold I64;omega
 unfold WJ Qgx;split
 ·split;·exact aa
  split;·exact aa
  exact h
 exact aa
def QzZ (c:List Value)(o:Nat)(l:List Value)(h:o+l.length<=c.length):(splice c o l).length=c.length:=by
 simp[splice];omega
def Qtj (c:List Value)(o:Nat)(l:List Value)(h:o<=c.length)(j:Nat)(aa:j<o):(splice c o l)[j]? = c[j]? := by
 unfold splice;rw[LY (by simp;omega),Nl,Lc aa]
def QC2 (c:List Value)(o:Nat)(v:Value)(h:o<c.length):(splice c o [v])[o]? = some v:=by
 unfold splice;rw[LR (by simp;omega)];simp[show min o c.length=o by omega]
def Qku (l m:List Ar):Qm (l++m)=Qm l++Qm m:=by simp[Qm]
def Qtk (d:List Ar)(a b:Ar)(l:List Ar):splice (Qm (d++a::l)) (d.length * 11) b.cells=Qm (d++b::l):=by
 have aa:=Q7 d;unfold splice;rw[Qku,Qku,Gz,Gz,<- aa,List.take_left,We];have:(Qm d++(a.cells++Qm l)).drop ((Qm d).length+11)=Qm l:=by
  rw[show(Qm d).length+11=(Qm d).length+a.cells.length by rw[We],<- Rc,List.drop_left,List.drop_left]
 rw[this]
def QMg (f:Fn)(xs aa:Array Value):(Value.func f xs aa).cells.toList=[.func f xs aa]:=Nu rfl rfl
def QJz {P:Program}(f:FuncId)(l:List Value)(H:Qa)(k:Value->Qa->Prop):cvK (.func (.func f) #[] #[]) P l H k=Qe P f l H k:=by
 show Qe P f (([]:List Value)++l++[]) H k=_;rw[LH,Na]
def QdQ (a:Ar):List.take 11 a.cells=a.cells:=rfl
def Qgy (a:Ar):(a.cells.all λv=>v.oneCell')=true:=rfl
def Qgz {op:Int}{l:List Ar}(h:(Wl op l==0)=true):l.length<=4:=by
 unfold Wl at h;split at h;·simp at h
 split at h;·simp at h
 omega
def QjO (op:Int)(l:List Ar)(H:Qa)(u:Value)(H':Qa):Prop:=
 Ext H H'∧∃aa,u=.tuple #[.agg #[.Z (QT op l).1,aa],.Z (QT op l).2.2]∧QQ H' aa (QT op l).2.1∧∀a n c,aa=.slice (some a) n c->H.y<=a.block∧a.block<H'.y
def Qvt {op:Int}{l:List Ar}{H H':Qa}(hx:Ext H H'){e:Int}(h:QT op l=(0,[],e)):QjO op l H (.tuple #[.agg #[.Z 0,.slice none 0 0],.Z e]) H':=by
 unfold QjO;rw[h];exact⟨hx,_,rfl,⟨none,0,rfl,λh=>absurd h (NX 0)⟩,λa n c h=>by cases h⟩
def Qvu:PC:=(.seq (.ops [⟨some 105,.mv (t 7),none,false⟩,⟨some 106,.gen (.nilCheck (t 105)),none,false⟩,⟨some 107,.fldA 0 (t 106),none,false⟩,⟨some 108,.ld false 1 (t 107),none,false⟩,⟨some 109,.mv (t 7),none,false⟩,⟨some 110,.gen (.nilCheck (t 109)),none,false⟩,⟨some 111,.fldA 1 (t 110),none,false⟩,⟨some 112,.ld false 1 (t 111),none,false⟩,⟨some 113,.build [.Z 0,.slice none 0 0] [(0,1,(t 108)),(1,1,(t 112))],none,false⟩,⟨none,.st 2 (t 2) (t 113),none,false⟩,⟨some 3,.mv (.const (.Z 0)),none,false⟩]) .ret)
section
variable (op:Int) (l:List Ar) (H:Qa)
abbrev KC:Env->Qa->Prop:=Rt Pg Tryz.f43 H (QjO op l H)
def QEP (e:Nat->Env->Qa->Prop)(k:Env->Qa->Prop)(A:Env)(H':Qa)(D:Nat)(aa:Value)(m:List Ar)(hx:Ext H H')(an:H.y+2<=D)
  (r2:A 2=.P (H.y+1)) (am:A 7=.P D) (ah:H'.get (H.y+1)=some (.C [.Z 0,.slice none 0 0] 33))
  (ag:H'.get D=some (.C [.Z op,aa] 141)) (ak:QQ H' aa m) (ac:∀a n c,aa=.slice (some a) n c->H.y+2<=a.block∧a.block<H'.y) (ad:QT op l=(op,m,0)):
  Qk Pg Qvu
   ⟨KC op l H,e⟩ k A H':=by
 obtain⟨ab,cap,rfl,ai⟩:=ak;simp only[Qvu,Qb,simprocAttr,r2,am,ah,ag,G8];have ae:Ext H (H'.set (H.y+1) (.C [.Z op,.slice ab m.length cap] 33)):=hx.set (by omega) _;refine .mk ae.y ⟨ae,_,by rw[ad],?_,λa n c h=>by have:=ac a n c h;rw[Qo];omega⟩;rw[ad];refine⟨ab,cap,rfl,λal=>?_⟩;obtain⟨b,e',ro,rfl,aj⟩:=ai al;have:=ac _ _ _ rfl;simp only at this;exact⟨b,e',ro,rfl,by rw[Qh,Le (by omega)];exact aj⟩
def Qz0 {m:List Ar}(aa:Qxr op m=false)(ab:Qxs op m=false)(ac:Qvs op m=false):Ja op m=m:=by simp[Ja,aa,ab,ac]
def QC3 (e:Nat->Env->Qa->Prop)(k:Env->Qa->Prop)(A:Env)(H':Qa)(D:Nat)(aa:Value)(m:List Ar)(hx:Ext H H')(ap:H'.Wf)(aT:H.y+2<=D)
  (r2:A 2=.P (H.y+1)) (bn:A 7=.P D) (aK:H'.get (H.y+1)=some (.C [.Z 0,.slice none 0 0] 33))
  (aI:H'.get D=some (.C [.Z op,aa] 141)) (aZ:QQ H' aa m) (aB:m.length<=1000) (an:∀a n c,aa=.slice (some a) n c->H.y+2<=a.block∧¬a.block=D∧a.block<H'.y)
  (bd:∀x y,m=[x,y]->∃b cap,aa=.S b 2 cap∧H'.get b=some (.C (Qm m) 95)) (av:QT op l=(op,Ja op m,0)):
  Qk Pg KO ⟨KC op l H,e⟩ k A H':=by
 have tail:=λA2 H2 ay aF aD a b c d f g h=>QEP op l H e k A2 H2 D ay aF aD aT a b c d f g h;have aU:=ap.lt aI;have bp:=hx.y;have aV:=ap.lt aK;obtain⟨aQ,aR⟩:∃aQ,KO=.seq (.seq (.ops [⟨some 95,.bslice aQ 1 3 [.nilFunc,.nilFunc,.nilFunc] [(0,(.func 76)),(1,(.func 77)),(2,(.func 78))],none,false⟩,⟨some 96,.lenS (t 95),none,false⟩,⟨some 97,.mv (.const (.Z 0)),none,false⟩]) (.block 4 (.loop QaW))) Qvu:=⟨_,rfl⟩;rw[aR,Gj];generalize aW:Qk Pg Qvu ⟨KC op l H,e⟩ k=T;have aH:=λA2 H2 ay aF aD a b c d f g h=>(by rw[<- aW];exact tail A2 H2 ay aF aD a b c d f g h:T A2 H2);simp(disch:=(try simp only[hnP])<;>try omega) only[QF,simprocAttr,QMg,Nat.reduceLeDiff]
 generalize aX:Blk.cells [.func (.func 76) #[] #[],.func (.func 77) #[] #[],.func (.func 78) #[] #[]] _ false=bl;have ad:Ext H' (H'.push bl):=(Ext.refl _).push _;have aJ:(H'.push bl).get H'.y=some bl:=by rw[Qc,Lc rfl]
 have bg:=ap.push bl;have bc:(H'.push bl).y=H'.y+1:=rfl;generalize bo:H'.push bl=Hp at ad aJ bg bc;subst aX;have aE:=hx.trans ad;have aj:Hp.get D=some (.C [.Z op,aa] 141):=by rw[ad.get _ aU];exact aI
 have aA:Hp.get (H.y+1)=some (.C [.Z 0,.slice none 0 0] 33):=by rw[ad.get _ aV];exact aK
 have au:QQ Hp aa m:=aZ.ext ap ad;have aC:∀x y,m=[x,y]->∃b cap,aa=.S b 2 cap∧Hp.get b=some (.C (Qm m) 95):=λx y h=>by
  obtain⟨b,cap,aS,ac⟩:=bd x y h;exact⟨b,cap,aS,by rw[ad.get _ (ap.lt ac)];exact ac⟩
 have bi:=QCX D op aa m Hp aj au aB aC;have bj:=QEK D op aa m Hp aj au aB aC;have bm:=QEL D op aa m Hp aj au aB aC;have aM:∀x y,m=[x,y]->∀b cap,aa=.S b 2 cap->QT op l=(op,[y,x],0)->∀A2,A2 2=.P (H.y+1)->A2 7=.P D->T A2 ((Hp.set b (.C (Qm [y,y]) 95)).set b (.C (Qm [y,x]) 95)):=by
  intro x y ae b cap ah ba A2 a2 a7;have aY:=an _ _ _ ah;simp only at aY;refine aH A2 _ aa [y,x] ((aE.set (by omega) _).set (by omega) _) a2 a7 ?_ ?_ ⟨some ⟨b,0,none⟩,cap,by rw[ah];rfl,λ_=>⟨b,_,_,rfl,by rw[Qh,Lc rfl]⟩⟩ (λa n c h=>⟨(an a n c h).1,by have:=(an a n c h).2.2;have:=ad.y;simp only[Qo];omega⟩) ba;·rw[Qh,Le (by omega),Qh,Le (by omega)];exact aA
  rw[Qh,Le (by omega),Qh,Le (by omega)];exact aj
 refine Qp (λaO A2 H2=>∃i:Nat,i<=3∧aO=3 - i∧H2=Hp∧A2 2=.P (H.y+1)∧A2 7=.P D∧A2 95=.S H'.y 3 3∧A2 96=.Z ((3:Nat):Int)∧A2 97=.Z i∧(0<i->Qxr op m=false)∧(1<i->Qxs op m=false)∧(2<i->Qvs op m=false)) 3 ?_ ?_
 ·refine⟨0,L7 _,by omega,rfl,?_,?_,?_,?_,?_,λh=>by omega,λh=>by omega,λh=>by omega⟩
  all_goals simp only[Qf,simprocAttr,r2,bn]
  all_goals rfl
 rintro aO A2 H2 ⟨i,hi,rfl,rfl,a2,a7,aq,ar,ai,aG,aP,bh⟩;simp only[QaW,Qg8,sxA,sxB,Nat.reduceBEq,Nat.reduceEqDiff,reduceCtorEq,mxA,mxB,Nat.reduceAdd,reduceIte,Nat.reduceLeDiff,splice,ar,ai];refine Qg (λac=>?_) (λac=>?_)
 ·have ac:i<3:=by have:=Lg ac;omega
  have c1:(0:Int)<=i∧(i:Int)<((3:Nat):Int):=by omega
  have c3:(i:Int).toNat=i:=by omega
  have az:IntKind.i64.wrap ((i:Int)+1)=((i+1:Nat):Int):=by rw[w64 (by unfold I64;omega)];omega
  simp only[sxA,sxB,Nat.reduceBEq,Nat.reduceEqDiff,reduceCtorEq,mxA,mxB,Nat.reduceAdd,reduceIte,Nat.reduceLeDiff,splice,a7,aq,ai,c1,c3,aJ];obtain rfl | rfl | rfl:i=0∨i=1∨i=2:=by omega
  ·simp only[sxA,sxB,Nat.reduceBEq,Nat.reduceEqDiff,reduceCtorEq,mxA,mxB,Nat.reduceAdd,reduceIte,Nat.reduceLeDiff,splice,QJz];refine bi.w ?_;rintro _ H3 aL aN ⟨rfl,ak,am⟩;simp only[sxA,sxB,Nat.reduceBEq,Nat.reduceEqDiff,reduceCtorEq,mxA,mxB,Nat.reduceAdd,reduceIte,Nat.reduceLeDiff,splice];cases ab:Qxr op m with
   | false=>
    rw[ak ab];simp only[sxA,sxB,Nat.reduceBEq,Nat.reduceEqDiff,reduceCtorEq,mxA,mxB,Nat.reduceAdd,reduceIte,Nat.reduceLeDiff,splice,ai,az];refine⟨2,by omega,1,by omega,rfl,rfl,?_,?_,?_,?_,?_,λ_=>(by first | exact ab | trivial),λh=>by omega,λh=>by omega⟩
    all_goals simp only[Qf,simprocAttr,a2,a7,aq,ar]
   | true=>
    obtain⟨x,y,ae,al⟩:=am ab;have ao:Ja op m=[x,x,y]:=by unfold Ja;rw[Lc ab,ae]
    simp only[Qb,simprocAttr];rw[al];refine aH _ _ (.S H2.y 3 3) [x,x,y] ((aE.push _).set (by omega) _) (by first | exact a2 | simp only[Qf,simprocAttr,a2]) (by first | exact a7 | simp only[Qf,simprocAttr,a7]) ?_ ?_ ⟨_,_,rfl,λ_=>⟨H2.y,_,_,rfl,by rw[Qh,Le (by omega),Qc,Lc rfl]⟩⟩ (λa n c h=>by cases h;simp only[Qo,Qd];omega) (by rw[av,ao]);·rw[Qh,Le (by omega),Qc,Le (by omega)];exact aA
    rw[Qh,Lc rfl]
  ·have ab:=aG (by omega);simp only[sxA,sxB,Nat.reduceBEq,Nat.reduceEqDiff,reduceCtorEq,mxA,mxB,Nat.reduceAdd,reduceIte,Nat.reduceLeDiff,splice,QJz];refine bj.w ?_;rintro _ H3 aL aN ⟨rfl,ak,am⟩;simp only[sxA,sxB,Nat.reduceBEq,Nat.reduceEqDiff,reduceCtorEq,mxA,mxB,Nat.reduceAdd,reduceIte,Nat.reduceLeDiff,splice];cases ag:Qxs op m with
   | false=>
    rw[ak ag];simp only[sxA,sxB,Nat.reduceBEq,Nat.reduceEqDiff,reduceCtorEq,mxA,mxB,Nat.reduceAdd,reduceIte,Nat.reduceLeDiff,splice,ai,az];refine⟨1,by omega,2,by omega,rfl,rfl,?_,?_,?_,?_,?_,λ_=>(by first | exact ab | trivial),λ_=>(by first | exact ag | trivial),λh=>by omega⟩
    all_goals simp only[Qf,simprocAttr,a2,a7,aq,ar]
   | true=>
    obtain⟨x,y,b,cap,ae,ah,al⟩:=am ag;have ao:Ja op m=[y,x]:=by simp only[Ja,ab,ag];rw[ae];rfl
    simp only[Qb,simprocAttr];rw[al];exact aM x y ae b cap ah (by rw[av,ao]) _ (by first | exact a2 | simp only[Qf,simprocAttr,a2]) (by first | exact a7 | simp only[Qf,simprocAttr,a7])
  have ab:=aG (by omega);have ag:=aP (by omega);simp only[sxA,sxB,Nat.reduceBEq,Nat.reduceEqDiff,reduceCtorEq,mxA,mxB,Nat.reduceAdd,reduceIte,Nat.reduceLeDiff,splice,QJz];refine bm.w ?_;rintro _ H3 aL aN ⟨rfl,ak,am⟩;simp only[sxA,sxB,Nat.reduceBEq,Nat.reduceEqDiff,reduceCtorEq,mxA,mxB,Nat.reduceAdd,reduceIte,Nat.reduceLeDiff,splice];cases ax:Qvs op m with
  | false=>
   rw[ak ax];simp only[sxA,sxB,Nat.reduceBEq,Nat.reduceEqDiff,reduceCtorEq,mxA,mxB,Nat.reduceAdd,reduceIte,Nat.reduceLeDiff,splice,ai,az];refine⟨0,by omega,3,by omega,rfl,rfl,?_,?_,?_,?_,?_,λ_=>(by first | exact ab | trivial),λ_=>(by first | exact ag | trivial),λ_=>(by first | exact ax | trivial)⟩
   all_goals simp only[Qf,simprocAttr,a2,a7,aq,ar]
  | true=>
   obtain⟨x,y,b,cap,ae,ah,al⟩:=am ax;have ao:Ja op m=[y,x]:=by simp only[Ja,ab,ag,ax];rw[ae];rfl
   simp only[Qb,simprocAttr];rw[al];exact aM x y ae b cap ah (by rw[av,ao]) _ (by first | exact a2 | simp only[Qf,simprocAttr,a2]) (by first | exact a7 | simp only[Qf,simprocAttr,a7])
 have ac:i=3:=by have:=Ll ac;omega
 subst ac;simp only[Qb,simprocAttr];exact aH _ _ aa m aE (by first | exact a2 | simp only[Qf,simprocAttr,a2]) (by first | exact a7 | simp only[Qf,simprocAttr,a7]) aA aj au (λa n c h=>⟨(an a n c h).1,by have:=(an a n c h).2.2;have:=ad.y;omega⟩) (by rw[av,Qz0 op (aG (by omega)) (aP (by omega)) (bh (by omega))])
def QEQ (b:Ar)(x:Int):splice b.cells 10 [.Z x]=({b with n:=x}:Ar).cells:=by simp[splice,Ar.cells]
def QxA (aa:Int×Bool):Q5 aa []=([],0):=rfl
def QER (e:Nat->Env->Qa->Prop)(k:Env->Qa->Prop)(A:Env)(H':Qa)(D V ad cap:Nat)(ag:Option Addr)(vs:List Value)(am:TypeId)(hx:Ext H H')(bJ:H'.Wf)(b8:H.y+2<=D)(ca:H.y+2<=V)(bZ:¬D=V)
  (r2:A 2=.P (H.y+1)) (br:A 5=.Z (WI op l).1) (bu:A 6=.bool (WI op l).2) (bV:A 7=.P D) (r8:A 8=.S V l.length l.length)
  (ay:H'.get (H.y+1)=some (.C [.Z 0,.slice none 0 0] 33))
  (an:H'.get D=some (.C [.Z op,.slice ag l.length cap] 141)) (gV:H'.get V=some (.C vs am)) (cf:vs.length=l.length) (bI:∀j,j<l.length->vs[j]? = some (.pointer (some ⟨ad,j * 11,none⟩)))
  (aE:0<l.length->ag=some ⟨ad,0,none⟩∧H.y+2<=ad∧¬ad=D∧¬ad=V∧H'.get ad=some (.C (Qm l) 95)) (bD:∀a,ag=some a->H.y+2<=a.block∧¬a.block=D∧a.block<D)
  (aQ:(Wl op l==0)=true) (b9:∀a∈l,I64 a.n):Qk Pg JC ⟨KC op l H,e⟩ k A H':=by
 have ce:=Qgz aQ;have b2:JC=.seq (.seq (.ops [⟨some 58,.mv (t 8),none,false⟩,⟨some 59,.lenS (t 58),none,false⟩,⟨some 60,.mv (.const (.Z 0)),none,false⟩]) (.block 2 (.loop Qac))) KQ:=rfl;rw[b2,Gj];have b3:KQ=.seq (.label 0) KO:=rfl;generalize bA:Qk Pg KQ ⟨KC op l H,e⟩ k=T;generalize bh:WI op l=ib at *;obtain⟨aa,ab⟩:=ib;simp only at br bu;have bE:∀m,Q5 (aa,ab) l=(m,0)->QT op l=(op,Ja op m,0):=λm h=>by
  unfold QT;rw[bh,h,aQ];rfl
 have bi:∀m x,Q5 (aa,ab) l=(m,x)->(x==0)=false->QT op l=(0,[],x):=λm x h hx=>by
  unfold QT;rw[bh,h,aQ];simp[hx]
 simp only[Qb,simprocAttr,r8];refine Qp (λaG A2 H2=>∃ (i:Nat) (ac:List Ar),i<=l.length∧aG=l.length - i∧ac.length=i∧Q5 (aa,ab) l=(ac++(Q5 (aa,ab) (l.drop i)).1,(Q5 (aa,ab) (l.drop i)).2)∧Ext H H2∧H2.Wf∧
  A2 2=.P (H.y+1)∧A2 5=.Z aa∧A2 6=.bool ab∧A2 7=.P D∧A2 58=.S V l.length l.length∧A2 59=.Z (l.length:Int)∧A2 60=.Z i∧
  H2.get (H.y+1)=some (.C [.Z 0,.slice none 0 0] 33)∧H2.get D=some (.C [.Z op,.slice ag l.length cap] 141)∧H2.get V=some (.C vs am)∧(0<l.length->H2.get ad=some (.C (Qm (ac++l.drop i)) 95))) l.length ?_ ?_
 ·refine⟨0,[],L7 _,by omega,rfl,rfl,hx,bJ,?_,?_,?_,?_,?_,?_,?_,ay,an,gV,λh=>(aE h).2.2.2.2⟩
  all_goals simp only[Qf,simprocAttr,r2,br,bu,bV]
  all_goals rfl
 rintro aG A2 H2 ⟨i,ac,hi,rfl,ak,aq,bo,bn,a2,a5,a6,a7,aJ,aK,av,ay,an,gV,ah⟩;simp only[Qac,Qb,simprocAttr,aK,av];refine Qg (λae=>?_) (λae=>?_)
 ·have ae:i<l.length:=by have:=Lg ae;omega
  obtain⟨aC,cd,cb,cc,_⟩:=aE (by omega);have ah:=ah (by omega);have c1:(0:Int)<=i∧(i:Int)<l.length:=by omega
  have c3:(i:Int).toNat=i:=by omega
  have aY:IntKind.i64.wrap ((i:Int)+1)=((i+1:Nat):Int):=by rw[w64 (by unfold I64;omega)];omega
  have bH:=bI i ae;have bm:=La ae;have bg:l.drop i=l[i]::l.drop (i+1):=Nh ae;have aB:=QmA (aa,ab) l i _ bm;have bd:=b9 _ (Nb ae);generalize l[i]=a at bm bg aB bd;rw[bg]at ah;have aF:=Q7 (ac++a::l.drop (i+1));have bF:(ac++a::l.drop (i+1)).length=l.length:=by simp;omega
  rw[bF]at aF;have aL:i * 11+11<=l.length * 11:=by omega
  have d1:=X4 (ac++a::l.drop (i+1)) i a (by rw[LR (by omega),ak,BJ];rfl);simp only[Qfh,Qb,simprocAttr,aJ,av,c1,c3,gV,bH,ah,aF,aL,d1];refine(Qp6 a H2).w ?_;rintro _ _ bj al ⟨rfl,k3,rfl⟩;simp only[Qw]at bj;have aR:=QC1 a bd;have ap:Zf (aa,ab) a=if((WJ a).2==0)=false then(a,(WJ a).2) else if((WJ a).1.k==3)=true then({(WJ a).1 with n:=(GM (WJ a).1.n aa ab).1},(GM (WJ a).1.n aa ab).2) else((WJ a).1,0):=rfl
  generalize WJ a=bb at aR ap;obtain⟨b,bz⟩:=bb;simp only at aR ap;have aW:=bo.up bj;have aO:(H2.up k3).get (H.y+1)=some (.C [.Z 0,.slice none 0 0] 33):=by rw[Xo];exact ay
  have aN:(H2.up k3).get D=some (.C [.Z op,.slice ag l.length cap] 141):=by rw[Xo];exact an
  have aP:(H2.up k3).get V=some (.C vs am):=by rw[Xo];exact gV
  have aM:(H2.up k3).get ad=some (.C (Qm (ac++a::l.drop (i+1))) 95):=by rw[Xo];exact ah
  generalize H2.up k3=H3 at al aW aO aN aP aM;simp only[Qb,simprocAttr,We,Qgy];obtain⟨H4,aA⟩:∃h,h=(H3.push (.C [.Z 0,.Z 0,.Z 0,.Z 0,.Z 0,.Z 0,.Z 0,.Z 0,.Z 0,.Z 0,.Z 0] 95)).set H3.y (.C b.cells 95):=⟨_,rfl⟩;have aU:H4.Wf:=by rw[aA];exact(al.push _).set (by rw[Qc,Lc rfl]) _
  have ar:Ext H3 H4:=by rw[aA];exact((Ext.refl H3).push _).set (Lb _) _
  have gB:H4.get H3.y=some (.C b.cells 95):=by rw[aA,Qh,Lc rfl]
  have lR:=al.lt aO;have bM:=al.lt aN;have bN:=al.lt aP;have lC:=al.lt aM;have az:=(ar.get _ lR).trans aO;have ba:=(ar.get _ bM).trans aN;have bc:=(ar.get _ bN).trans aP;have ax:=(ar.get _ lC).trans aM;have aV:=aW.trans ar;have b0:b.cells[0]? = some (.Z b.k):=rfl;have bx:b.cells[10]? = some (.Z b.n):=rfl;simp only[<- aA,Qb,simprocAttr];cases aI:bz==0 with
  | false=>
   have ai:Ext H (H4.set (H.y+1) (.C [.Z 0,.slice none 0 0] 33)):=aV.set (by omega) _;simp only[Qb,simprocAttr,a2,az,G8];refine .mk ai.y (Qvt ai (bi _ _ aq ?_ |>.trans ?_))
   all_goals (rw[aB,ap,aI];simp[aI])
  | true=>
   simp only[Qha,Qb,simprocAttr,gB,b0];have aT:=λaj:Ar=>Qtk ac a aj (l.drop (i+1));simp only[splice,ak,We]at aT;have aZ:∀ (aj:Ar) (H5:Qa) (A3:Env),Zf (aa,ab) a=(aj,0)->Ext H H5->H5.Wf->H5.get (H.y+1)=some (.C [.Z 0,.slice none 0 0] 33)->H5.get D=some (.C [.Z op,.slice ag l.length cap] 141)->H5.get V=some (.C vs am)->H5.get ad=some (.C (Qm (ac++a::l.drop (i+1))) 95)->
     A3 2=.P (H.y+1)->A3 5=.Z aa->A3 6=.bool ab->A3 7=.P D->A3 58=.S V l.length l.length->A3 59=.Z (l.length:Int)->A3 60=.Z ((i+1:Nat):Int)->
     Quj (λaG A2 H2=>∃ (i:Nat) (ac:List Ar),i<=l.length∧aG=l.length - i∧ac.length=i∧Q5 (aa,ab) l=(ac++(Q5 (aa,ab) (l.drop i)).1,(Q5 (aa,ab) (l.drop i)).2)∧Ext H H2∧H2.Wf∧
 A2 2=.P (H.y+1)∧A2 5=.Z aa∧A2 6=.bool ab∧A2 7=.P D∧A2 58=.S V l.length l.length∧A2 59=.Z (l.length:Int)∧A2 60=.Z i∧
 H2.get (H.y+1)=some (.C [.Z 0,.slice none 0 0] 33)∧H2.get D=some (.C [.Z op,.slice ag l.length cap] 141)∧H2.get V=some (.C vs am)∧(0<l.length->H2.get ad=some (.C (Qm (ac++l.drop i)) 95))) (l.length - i) A3 (H5.set ad (.C (Qm (ac++aj::l.drop (i+1))) 95)):=by
    intro aj H5 A3 bC ai bK b6 b5 b7 b4 p2 bP bS bU bQ bR bT;refine⟨l.length - (i+1),by omega,i+1,ac++[aj],by omega,rfl,by simp[ak],?_,ai.set (by omega) _,bK.set b4 _,p2,bP,bS,bU,bQ,bR,bT,?_,?_,?_,λ_=>?_⟩;·rw[aq,aB,bC];simp
    ·rw[Qh,Le (by omega)];exact b6
    ·rw[Qh,Le (by omega)];exact b5
    ·rw[Qh,Le (by omega)];exact b7
    rw[Qh,Lc rfl,LQ];rfl
   cases bq:b.k==3 with
   | false=>
    have aS:Zf (aa,ab) a=(b,0):=by rw[ap,aI,bq];rfl
    simp only[Qb,simprocAttr,gB,ax,aF,aL,We,QdQ,Qgy,aT,av,aY];refine aZ b H4 _ aS aV aU az ba bc ax ?_ ?_ ?_ ?_ ?_ ?_ ?_
    all_goals simp only[Qf,simprocAttr,a2,a5,a6,a7,aJ,aK]
   | true=>
    have aD:Zf (aa,ab) a=({b with n:=(GM b.n aa ab).1},(GM b.n aa ab).2):=by rw[ap,aI,bq];rfl
    simp only[Qg9,Qb,simprocAttr,gB,bx,a5,a6];refine(Qau b.n aa ab aR H4).w ?_;rintro _ H4 _ aU ⟨rfl,rfl⟩;generalize GM b.n aa ab=im at aD;obtain⟨au,bL⟩:=im;simp only at aD;have bG:=QEQ b au;simp only[splice,Nat.reduceAdd,Lo,L9]at bG;have bY:∀bl,(H4.set H3.y bl).get H3.y=some bl:=λbl=>by rw[Qh,Lc rfl]
    have bX:∀bl,(H4.set H3.y bl).Wf:=λbl=>aU.set gB bl;have bw:∀bl,Ext H (H4.set H3.y bl):=λbl=>aV.set (by have:=aW.y;omega) bl;have aH:∀bl id,¬id=H3.y->(H4.set H3.y bl).get id=H4.get id:=λbl id h=>by rw[Qh,Le h]
    have bW:(b.cells.take 10++(Value.Z au::b.cells.drop 11))=({b with n:=au}:Ar).cells:=by simp[Ar.cells]
    have bp:¬H.y+1=H3.y:=by omega
    have nD:¬D=H3.y:=by omega
    have bO:¬V=H3.y:=by omega
    have nC:¬ad=H3.y:=by omega
    simp only[Qb,simprocAttr,gB,We,bW];cases aX:bL==0 with
    | false=>
     have ai:∀bl,Ext H ((H4.set H3.y bl).set (H.y+1) (.C [.Z 0,.slice none 0 0] 33)):=λbl=>(bw bl).set (by omega) _;simp only[Qb,simprocAttr,a2,bp,az,G8];refine .mk (ai _).y (Qvt (ai _) (bi _ _ aq ?_ |>.trans ?_))
     all_goals (rw[aB,aD];simp[aX])
    | true=>
     have aS:Zf (aa,ab) a=({b with n:=au},0):=by rw[aD];simp at aX;rw[aX]
     simp only[Qb,simprocAttr,nC,ax,aF,aL,We,QdQ,Qgy,aT,av,aY];refine aZ {b with n:=au} (H4.set H3.y _) _ aS (bw _) (bX _) ((aH _ _ bp).trans az) ((aH _ _ nD).trans ba) ((aH _ _ bO).trans bc) ((aH _ _ nC).trans ax) ?_ ?_ ?_ ?_ ?_ ?_ ?_
     all_goals simp only[Qf,simprocAttr,a2,a5,a6,a7,aJ,aK]
 have ae:i=l.length:=by have:=Ll ae;omega
 subst ae;simp only[Qb,simprocAttr];rw[<- bA,b3,Gj,Qpl];rw[BU,QxA,Na]at aq;refine QC3 op l H e k _ H2 D _ ac bo bn b8 (by simp only[Qf,simprocAttr,a2]) (by simp only[Qf,simprocAttr,a7]) ay an ⟨ag,cap,by rw[ak],λh=>?_⟩ (by omega) (λa n c h=>by cases h;have:=bD _ rfl;have:=bn.lt an;omega) (λx y h=>?_) (bE _ aq)
 ·have ao:0<l.length:=by omega
  obtain⟨aC,_⟩:=aE ao;have:=ah ao;rw[BU,Na]at this;exact⟨ad,_,_,aC,this⟩
 have ao:0<l.length:=by rw[<- ak,h];simp
 obtain⟨aC,_⟩:=aE ao;have:=ah ao;rw[BU,Na]at this;exact⟨ad,cap,by rw[aC,<- ak,h];rfl,this⟩
def QC4 (z:Array Value)(m:Nat):(XG z m).length=m:=by simp[XG]
def QgA (v:Value)(ai:QQ H v l)(ar:l.length<=1000)(aG:∀a∈l,I64 a.n):Qe Pg 43 [.agg #[.Z op,v]] H (QjO op l H):=by
 refine Qtg λaj=>?_;obtain⟨a0,c0,rfl,_⟩:=id ai;have aQ:Ext H ((H.push (.C [.Z op,.slice a0 l.length c0] 33)).push (.C [.Z 0,.slice none 0 0] 33)):=((Ext.refl H).push _).push _;have bz:¬H.y=H.y+1:=by omega
 have aA:((H.push (.C [.Z op,.slice a0 l.length c0] 33)).push (.C [.Z 0,.slice none 0 0] 33)).get H.y=some (.C [.Z op,.slice a0 l.length c0] 33):=by rw[Qc,Qd,Le bz,Qc,Lc rfl]
 have aZ:((H.push (.C [.Z op,.slice a0 l.length c0] 33)).push (.C [.Z 0,.slice none 0 0] 33)).get (H.y+1)=some (.C [.Z 0,.slice none 0 0] 33):=by rw[Qc,Qd,Lc rfl]
 have bA:=(aj.push (.C [.Z op,.slice a0 l.length c0] 33)).push (.C [.Z 0,.slice none 0 0] 33);have b7:((H.push (.C [.Z op,.slice a0 l.length c0] 33)).push (.C [.Z 0,.slice none 0 0] 33)).y=H.y+2:=by simp only[Qd]
 simp only[Qkp,Qb,simprocAttr];refine Qpm (λ_ _ _=>False) 0 ?_ (λ_ _ _ h=>h.elim);generalize (H.push (.C [.Z op,.slice a0 l.length c0] 33)).push (.C [.Z 0,.slice none 0 0] 33)=H0 at *;generalize jmK 0 _ 0 _=e;simp only[Qfl,Qb,simprocAttr,aA];refine(Qb2 op _ l H0 (ai.ext aj aQ) ar aG).w ?_;rintro _ _ aK bC ⟨rfl,k1,rfl⟩;simp only[Qw]at aK;have au:=aQ.up aK;have aB:(H0.up k1).get H.y=some (.C [.Z op,.slice a0 l.length c0] 33):=by rw[Xo];exact aA
 have aC:(H0.up k1).get (H.y+1)=some (.C [.Z 0,.slice none 0 0] 33):=by rw[Xo];exact aZ
 have b5:H.y+2<=(H0.up k1).y:=by simp only[Qw];omega
 generalize H0.up k1=H1 at *;simp only[Qb,simprocAttr];cases ap:Wl op l==0 with
 | false=>
  have ag:Ext H (H1.set (H.y+1) (.C [.Z 0,.slice none 0 0] 33)):=au.set (by omega) _;simp only[Qb,simprocAttr,aC,G8];exact .mk ag.y (Qvt ag (by unfold QT;rw[Lc ap]))
 | true=>
  have b4:=Qgz ap;simp only[Qfk,Qb,simprocAttr,aB];refine(QdP op _ l H1 (ai.ext aj au) ar).w ?_;rintro _ _ aL bq ⟨rfl,k2,rfl⟩;simp only[Qw]at aL;have ag:=au.up aL;have aY:(H1.up k2).get H.y=some (.C [.Z op,.slice a0 l.length c0] 33):=by rw[Xo];exact aB
  have aD:(H1.up k2).get (H.y+1)=some (.C [.Z 0,.slice none 0 0] 33):=by rw[Xo];exact aC
  have b6:H.y+2<=(H1.up k2).y:=by simp only[Qw];omega
  generalize H1.up k2=H2 at *;simp only[Qb,simprocAttr,aY];refine⟨rfl,(QBf _ l H2 (ai.ext aj ag) ar).w ?_⟩;rintro u H3 b8 ak ⟨al,bm⟩
  -- what the clone is
  obtain⟨ab,cap,aa,rfl,ad⟩:∃ab cap aa,u=.slice ab l.length cap∧((0<l.length->ab=some ⟨aa,0,none⟩∧H2.y<=aa∧H3.get aa=some (.C (Qm l) 95))∧(∀a,ab=some a->H2.y<=a.block∧a.block<H3.y)):=by
   rcases bm with⟨rfl,rfl | ⟨rfl,rfl⟩⟩ | ⟨b9,rfl,rfl⟩;·exact⟨none,0,0,rfl,λh=>absurd h (NX 0),λa h=>by cases h⟩
   ·exact⟨_,0,0,rfl,λh=>absurd h (NX 0),λa h=>by cases h;simp only[Qd];omega⟩
   refine⟨_,_,H2.y+1,rfl,λ_=>⟨rfl,by omega,by rw[Qc,Lc (by simp only[Qd])]⟩,λa h=>by cases h;simp only[Qd];omega⟩
  obtain⟨ad,bj⟩:=ad;have aE:=(al.get _ (bq.lt aD)).trans aD;have bu:=ag.trans al;have bD:=al.y;have b3:Qj H2.y 6 (.Z op)=true:=rfl;simp only[Qb,simprocAttr];refine⟨al.eqB,?_⟩;refine⟨⟨by omega,by omega,by omega,by omega⟩,?_⟩;generalize bd:Qk Pg JC ⟨Rt Pg Tryz.f43 H (QjO op l H),e⟩ (Rt Pg Tryz.f43 H (QjO op l H))=T;generalize aS:XG _ _=zs;have bx:zs.length=l.length:=by rw[<- aS,QC4];omega
  have bn:((l.length:Int)).toNat=l.length:=by omega
  simp only[bn];generalize ae:(H3.push (.C [.Z op,.slice ab l.length cap] 141)).push (.C zs _)=H4;have b2:¬H3.y=H3.y+1:=by omega
  have av:Ext H3 H4:=by rw[<- ae];exact((Ext.refl H3).push _).push _
  have br:H4.Wf:=by rw[<- ae];exact(ak.push _).push _
  have aX:H4.get H3.y=some (.C [.Z op,.slice ab l.length cap] 141):=by rw[<- ae,Qc,Qd,Le b2,Qc,Lc rfl]
  obtain⟨ah,bc⟩:∃ah,H4.get (H3.y+1)=some (.C zs ah):=⟨_,by rw[<- ae,Qc,Qd,Lc rfl]⟩;have ba:=(av.get _ (ak.lt aE)).trans aE;have aW:0<l.length->H4.get aa=some (.C (Qm l) 95):=λh=>(av.get _ (ak.lt (ad h).2.2)).trans (ad h).2.2;have aH:0<l.length->aa<H3.y:=λh=>ak.lt (ad h).2.2;have bw:=bu.trans av;clear ae aS;refine Qp (λaT A2 H5=>∃ (i:Nat) (cs:List Value),i<=l.length∧aT=l.length - i∧cs.length=l.length∧(∀j,j<i->cs[j]? = some (.pointer (some ⟨aa,j * 11,none⟩)))∧Ext H H5∧H5.Wf∧
   A2 2=.P (H.y+1)∧A2 5=.Z (WI op l).1∧A2 6=.bool (WI op l).2∧A2 7=.P H3.y∧A2 8=.S (H3.y+1) l.length l.length∧A2 44=.Z (l.length:Int)∧A2 45=.Z i∧
   H5.get (H.y+1)=some (.C [.Z 0,.slice none 0 0] 33)∧H5.get H3.y=some (.C [.Z op,.slice ab l.length cap] 141)∧H5.get (H3.y+1)=some (.C cs ah)∧(0<l.length->H5.get aa=some (.C (Qm l) 95))) l.length ?_ ?_
  ·refine⟨0,zs,L7 _,by omega,bx,λj h=>by omega,bw,br,?_,?_,?_,?_,?_,?_,?_,ba,aX,bc,aW⟩
   all_goals simp only[Qf,simprocAttr]
   all_goals rfl
  rintro aT A2 H5 ⟨i,cs,hi,rfl,aq,aI,aR,aP,a2,a5,a6,a7,a8,ax,ay,aF,am,an,az⟩;simp only[Qfj,Qb,simprocAttr,ax,ay];refine Qg (λac=>?_) (λac=>?_)
  ·have ac:i<l.length:=by have:=Lg ac;omega
   obtain⟨ao,bg,bh⟩:=ad (by omega);have bi:=aH (by omega);have c1:(0:Int)<=i∧(i:Int)<l.length:=by omega
   have c3:(i:Int).toNat=i:=by omega
   have aU:i+1<=l.length:=ac;have aV:IntKind.i64.wrap ((i:Int)+1)=((i+1:Nat):Int):=by rw[w64 (by unfold I64;omega)];omega
   subst ao;have bp:(Value.pointer (some ⟨aa,i * 11,none⟩)).cells.toList=[.pointer (some ⟨aa,i * 11,none⟩)]:=rfl;have bo:(Value.pointer (some ⟨aa,i * 11,none⟩)).oneCell'=true:=rfl;have aO:=QzZ cs i [.pointer (some ⟨aa,i * 11,none⟩)] (by simp;omega);have aM:=QC2 cs i (.pointer (some ⟨aa,i * 11,none⟩)) (by omega);have aN:=λj (aJ:j<i)=>Qtj cs i [.pointer (some ⟨aa,i * 11,none⟩)] (by omega) j aJ;simp only[splice,Lo,L9,LP,Nm,LH]at aO aM aN;simp only[Qfi,Qb,simprocAttr,a7,a8,ay,c1,c3,aU,am,an,aq,bp,bo,aV];refine⟨l.length - (i+1),by omega,i+1,_,by omega,rfl,aO.trans aq,λj aJ=>?_,aR.set (by omega) _,aP.set an _,?_,?_,?_,?_,?_,?_,?_,?_,?_,by rw[Qh,Lc rfl],λh=>?_⟩
   ·rcases Nq j i with h | h;·rw[aN j h];exact aI j h
    rw[show j=i by omega];exact aM
   all_goals (try simp only[Qf,simprocAttr,a2,a5,a6,a7,a8,ax])
   ·rw[Qh,Le (by omega)];exact aF
   ·rw[Qh,Le (by omega)];exact am
   rw[Qh,Le (by omega)];exact az h
  have ac:i=l.length:=by have:=Ll ac;omega
  subst ac;simp only[Qb,simprocAttr];rw[<- bd];refine QER op l H e _ _ H5 H3.y (H3.y+1) aa cap ab cs ah aR aP (by omega) (by omega) (by omega) (by simp only[Qf,simprocAttr,a2]) (by simp only[Qf,simprocAttr,a5]) (by simp only[Qf,simprocAttr,a6]) (by simp only[Qf,simprocAttr,a7]) (by simp only[Qf,simprocAttr,a8]) aF am an aq aI (λh=>?_) (λa h=>?_) ap aG;·obtain⟨ao,bg,bh⟩:=ad h;have bi:=aH h;exact⟨ao,by omega,by omega,by omega,az h⟩
  have:=bj a h;exact⟨by omega,by omega,by omega⟩
end
