/- Slices and pointers held against nil. -/
import Derived.Test.YtmedjaegakinnaaGreatDoorC0Code
import Derived.Test.YtmedjaegakinnaaGreatDoorC2Code
import Derived.Test.YtmedjaegakinnaaGreatDoorLibA
set_option maxHeartbeats 4000000
set_option linter.defProp false
set_option linter.unusedVariables false
set_option linter.unusedSimpArgs false
set_option maxRecDepth 100000
noncomputable section
namespace Go.Proofs.YtmedjaegakinnaaGreatDoor.code
open Go.Ab
variable {P:Program} {A:Env} {H:Qa} {k:Value->Qa->Prop}
def QCv {t q e:TypeId}{x:Operand}{a:Option Addr}{n c:Nat}(aa:P.underlying t=some (.slice e))(hx:ev A x=.slice a n c):
  pr P (.gen (.binOp .eql t x (.const (.slice none 0 0)) q)) false A H k=k (.bool a.isNone) H:=by
 have ab:ev A (.const (.slice none 0 0))=.slice none 0 0:=rfl;have e:rop P (.gen (.binOp .eql t x (.const (.slice none 0 0)) q)) A H=some (.bool a.isNone,H):=by
  cases a<;>simp[rop,aop,Qeu,Qu1,Qo3,Zk,hx,ab,aa,aeq,QhR,VS,ZH,Qj5,QuS]
 rw[QH0];unfold QJT;rw[e,Qs]
structure Rg where
 c:Int
 n:Int
 deriving DecidableEq
def Rg.cells (r:Rg):List Value:=[.Z r.c,.Z r.n]
def Qf6 (c:Int):Int×Int:=if c=2 then(4,4) else if c=8 then(0,1) else if c=1∨c=3∨c=4∨c=5∨c=6∨c=7 then(0,16) else(0,0)
def Wv (r:Rg):Bool:=decide ((Qf6 r.c).1<=r.n∧r.n<(Qf6 r.c).1+(Qf6 r.c).2)
def Qrw (c:Int)(H:Qa):Qe Pg 86 [.Z c] H λu H'=>u=.tuple #[.Z (Qf6 c).1,.Z (Qf6 c).2]∧H'=H:=by
 refine QpV λq=>?_;simp only[Qg5,Qb,simprocAttr]
 repeat' (first | (refine Qz (λh=>?_) (λh=>?_)<;>simp only[Qb,simprocAttr,QfH]) | (refine Qg (λh=>?_) (λh=>?_)<;>simp only[Qb,simprocAttr,QfH]))
 all_goals refine .mk (Lb _) ⟨?_,rfl⟩
 all_goals simp_all [Qf6]
def QFo (c:Int):0<=(Qf6 c).1∧(Qf6 c).1<=4∧0<=(Qf6 c).2∧(Qf6 c).2<=16:=by
 unfold Qf6;split;·decide
 split;·decide
 split<;>decide
def K3 (r:Rg)(H:Qa):Qe Pg 67 [.agg r.cells.toArray] H λu H'=>u=.bool (Wv r)∧∃m,H'=H.up m:=by
 refine Qtq λq=>?_;obtain⟨c,n⟩:=r;have aa:=QFo c;have e1:IntKind.i64.wrap ((Qf6 c).1+(Qf6 c).2)=(Qf6 c).1+(Qf6 c).2:=w64 (by unfold I64;omega);simp only[Rg.cells,Qld,Qb,simprocAttr];refine(Qrw c _).w ?_;rintro _ H1 ab ac ⟨rfl,rfl⟩;simp only[Qb,simprocAttr];refine Qz (λh=>?_) (λh=>?_)
 all_goals simp only[Qb,simprocAttr,Qru,e1,h]
 all_goals refine .ext q ((Ext.refl H).push _) ⟨?_,_,rfl⟩
 all_goals (simp_all [Wv]<;>omega)
def Qg7 (r:Rg):Int:=if Wv r=false then 0 else if r.c=7 then 32 else if r.c=6 then 16 else if r.c=5∨r.c=8 then 8 else if r.c=4 then 4 else if r.c=3 then 2 else 1
def QxQ (r:Rg)(H:Qa):Qe Pg 69 [.agg r.cells.toArray] H λu H'=>u=.Z (Qg7 r)∧∃m,H'=H.up m:=by
 refine Qvx λac=>?_;have q:=K3 r;obtain⟨v,ab⟩:∃v,Wv r=v:=⟨_,rfl⟩;rw[ab]at q;obtain⟨c,n⟩:=r;simp only[Rg.cells]at q;simp only[Rg.cells,QnF,Vv,Vw,Vy,Qb,simprocAttr];refine(q _).w ?_;rintro _ H1 aa ad ⟨rfl,m,rfl⟩;simp only[Qf]at aa;have hx:Ext H ((H.push (.C [.Z c,.Z n] 46)).up m):=((Ext.refl H).push _).up (by simp only[Qf];exact aa);simp only[Qb,simprocAttr];cases v
 all_goals simp only[Qb,simprocAttr,QeJ]
 ·exact .ext ac hx ⟨by simp[Qg7,ab],_,rfl⟩
 repeat' (first | (refine Qz (λh=>?_) (λh=>?_)<;>simp only[Qb,simprocAttr,QeJ,Vv,Vw,Vy,h]) | (refine Qg (λh=>?_) (λh=>?_)<;>simp only[Qb,simprocAttr,QeJ,Vv,Vw,Vy,h]))
 all_goals refine .ext ac hx ⟨?_,_,rfl⟩
 all_goals (simp_all [Qg7]<;>decide)
def QO (ne:Bool)(a b c d:Int)(H:Qa)(k:Value->Qa->Prop):QE8 ne [.i,.i] (.agg #[.Z a,.Z b]) (.agg #[.Z c,.Z d]) H k=k (.bool (bif ne then !((a==c)&&(b==d)) else((a==c)&&(b==d)))) H:=by
 refine QAB ?_
 by_cases h:a=c<;>by_cases g:b=d<;>simp[QaG,QEA,h,g]
/-! ### Places -/
structure Mm where
 b:Rg
 i:Rg
 sc:Int
 d:Int
 sz:Int
 deriving DecidableEq
def Mm.cells (m:Mm):List Value:=[.Z m.b.c,.Z m.b.n,.Z m.i.c,.Z m.i.n,.Z m.sc,.Z m.d,.Z m.sz]
def Xz (r:Rg):Bool:=(r.c==5)&&Wv r
def QxR (r:Rg)(H:Qa):Qe Pg 88 [.agg r.cells.toArray] H λu H'=>u=.bool (Xz r)∧∃m,H'=H.up m:=by
 refine Qvy λac=>?_;have q:=K3 r;obtain⟨v,ab⟩:∃v,Wv r=v:=⟨_,rfl⟩;rw[ab]at q;obtain⟨c,n⟩:=r;simp only[Rg.cells]at q;simp only[Rg.cells,QnG,Qb,simprocAttr];refine Qz (λh=>?_) (λh=>?_)
 all_goals simp only[Qb,simprocAttr,Qlg,h]
 ·refine(q _).w ?_;rintro _ H1 aa ad ⟨rfl,m,rfl⟩;simp only[Qf]at aa;have hx:Ext H ((H.push (.C [.Z c,.Z n] 46)).up m):=((Ext.refl H).push _).up (by simp only[Qf];exact aa);simp only[Qb,simprocAttr,Qlg];exact .ext ac hx ⟨by simp[Xz,ab,h],_,rfl⟩
 exact .ext ac ((Ext.refl H).push _) ⟨by simp[Xz,h],_,rfl⟩
def Zz (n:Int):Bool:=n==0||n==1||n==2||n==4||n==8||n==16||n==32
def Qvz (n:Int)(H:Qa):Qe Pg 87 [.Z n] H λu H'=>u=.bool (Zz n)∧H'=H:=by
 refine Qts λq=>?_;simp only[Qlf,Qb,simprocAttr]
 repeat' (first | (refine Qz (λh=>?_) (λh=>?_)<;>simp only[Qb,simprocAttr,QiK,h]) | (refine Qg (λh=>?_) (λh=>?_)<;>simp only[Qb,simprocAttr,QiK,h]))
 all_goals refine .mk (Lb _) ⟨?_,rfl⟩
 all_goals simp_all [Zz]
def WF (n:Int):Bool:=n==1||n==2||n==4||n==8
def Qtt (n:Int)(H:Qa):Qe Pg 89 [.Z n] H λu H'=>u=.bool (WF n)∧∃m,H'=H.up m:=by
 refine Qrv λab=>?_;have t1:Pg.underlying 163=some (.map 3 3):=by kernel_rfl
 have t2:Pg.underlying 3=some (.int .i64):=by kernel_rfl
 have ae:(Pg.info? 3).map (·.zero)=some (some (.Z 0)):=by kernel_rfl
 obtain⟨ai,ag,ah⟩:=Lx.1 ae;simp only[QiL,Qb,simprocAttr];rw[Qkh (m:=H.y) (n:=1) (es:=[]) t1 t2 (by simp only[Qd,simprocAttr]) (by simp only[Qd,simprocAttr]) (by rw[Qc,Lc rfl]) rfl];simp only[Qb,simprocAttr];rw[Qkh (m:=H.y) (n:=2) (es:=_) t1 t2 (by simp only[Qd,simprocAttr]) (by simp only[Qd,simprocAttr]) (by rw[Qj,Lc rfl]) rfl];simp only[Qb,simprocAttr];rw[Qkh (m:=H.y) (n:=4) (es:=_) t1 t2 (by simp only[Qd,simprocAttr]) (by simp only[Qd,simprocAttr]) (by rw[Qj,Lc rfl]) rfl];simp only[Qb,simprocAttr];rw[Qkh (m:=H.y) (n:=8) (es:=_) t1 t2 (by simp only[Qd,simprocAttr]) (by simp only[Qd,simprocAttr]) (by rw[Qj,Lc rfl]) rfl];simp only[Qb,simprocAttr];have ad:∃r,Qs9 n [(Value.int IntKind.i64 1,Value.int IntKind.i64 0),(Value.int IntKind.i64 2,Value.int IntKind.i64 1),(Value.int IntKind.i64 4,Value.int IntKind.i64 2),(Value.int IntKind.i64 8,Value.int IntKind.i64 3)] 0=some r∧r.isSome=WF n:=by
  simp only[Qs9];split;·exact⟨_,rfl,by simp_all [WF]⟩
  split;·exact⟨_,rfl,by simp_all [WF]⟩
  split;·exact⟨_,rfl,by simp_all [WF]⟩
  split;·exact⟨_,rfl,by simp_all [WF]⟩
  exact⟨_,rfl,by simp_all [WF]⟩
 obtain⟨r,ac,aa⟩:=ad;rw[QAL (m:=H.y) (n:=n) (es:=_) t1 t2 ag ah rfl (by simp only[Qd,simprocAttr]) (by simp only[Qd,simprocAttr]) (by rw[Qj,Lc rfl]) ac];have hx:∀a b c d e,Ext H (((((H.push a).set H.y b).set H.y c).set H.y d).set H.y e):=λa b c d e=>(((((Ext.refl H).push a).set (Lb _) b).set (Lb _) c).set (Lb _) d).set (Lb _) e;cases r with
 | none=>
  simp only[Qvg,Qb,simprocAttr,Qg6];exact .ext ab (hx _ _ _ _ _) ⟨by rw[<- aa];rfl,_,rfl⟩
 | some q=>
  obtain⟨aj,ak⟩:=q;simp only[Qvg,Qb,simprocAttr,Qg6];exact .ext ab (hx _ _ _ _ _) ⟨by rw[<- aa];rfl,_,rfl⟩
def isR (r:Rg)(c n:Int):Bool:=(r.c==c)&&(r.n==n)
def Qv (m:Mm):Int:=
 if(decide (m.d < -2147483648)||decide (m.d>2147483647))=true then 5
 else if Zz m.sz=false then 2
 else if(!isR m.b 0 0&&!isR m.b 8 0&&!Xz m.b)=true then 2
 else if(isR m.i 0 0&&!(m.sc==0))=true then 2
 else if isR m.i 0 0=true then 0
 else if(!Xz m.i||!WF m.sc||isR m.b 8 0)=true then 2
 else if(isR m.i 5 4&&(!(m.sc==1)||isR m.b 5 4))=true then 2
 else 0
def mcF (H:Qa)(c:List Value)(A:Env)(H':Qa):Prop:=Ext H H'∧A 1=.P H.y∧A 3=.P (H.y+1)∧A 4=.P (H.y+2)∧A 5=.P (H.y+3)∧
 H'.get H.y=some (.C c 48)∧H'.get (H.y+1)=some (.C [.Z 0,.Z 0] 46)∧H'.get (H.y+2)=some (.C [.Z 8,.Z 0] 46)∧H'.get (H.y+3)=some (.C [.Z 5,.Z 4] 46)
def mcF.up {H H':Qa}{c:List Value}{A:Env}(h:mcF H c A H'){k:Nat}(aa:H'.y<=k):mcF H c A (H'.up k):=by
 obtain⟨hx,r1,r3,r4,ab,q,g1,g2,g3⟩:=h;exact⟨hx.up aa,r1,r3,r4,ab,q,g1,g2,g3⟩
def mcF.env {H H':Qa}{c:List Value}{A B:Env}(h:mcF H c A H')(aa:B 1=A 1)(ab:B 3=A 3)(ac:B 4=A 4)(ad:B 5=A 5):mcF H c B H':=by
 obtain⟨hx,r1,r3,r4,ae,q,g1,g2,g3⟩:=h;exact⟨hx,aa.trans r1,ab.trans r3,ac.trans r4,ad.trans ae,q,g1,g2,g3⟩
def QnH (m:Mm)(H:Qa):Qe Pg 68 [.agg m.cells.toArray] H λu H'=>u=.Z (Qv m)∧∃k,H'=H.up k:=by
 refine Qtr λao=>?_;have av:=Qvz m.sz;have aq:=λr=>QxR r;have au:=Qtt m.sc;obtain⟨⟨ac,ad⟩,⟨ah,ai⟩,sc,d,sz⟩:=m;simp only at av au;simp only[Mm.cells,Qle,Qb,simprocAttr,Rh,De];obtain⟨cs,ap⟩:∃cs,cs=[Value.Z ac,.Z ad,.Z ah,.Z ai,.Z sc,.Z d,.Z sz]:=⟨_,rfl⟩;generalize aD:exK 0 _ X4=E0;generalize aB:Qm Pg _ _ (Rt Pg _ H _)=K0;have aC:∀A H',Ext H H'->Qv ⟨⟨ac,ad⟩,⟨ah,ai⟩,sc,d,sz⟩=0->K0 A H':=by
  intro A H' hx aA;rw[<- aB];simp only[Qb,simprocAttr,Qi];exact .ext ao hx ⟨by rw[aA],_,rfl⟩
 have P1:∀A H',mcF H cs A H'->(decide (d < -2147483648)||decide (2147483647<d))=false->Zz sz=true->(!isR ⟨ac,ad⟩ 0 0&&!isR ⟨ac,ad⟩ 8 0&&!Xz ⟨ac,ad⟩)=false->(isR ⟨ah,ai⟩ 0 0&&!(sc==0))=false->isR ⟨ah,ai⟩ 0 0=false->(!Xz ⟨ah,ai⟩||!WF sc||isR ⟨ac,ad⟩ 8 0)=false->Qm Pg QbF ⟨Rt Pg Y2 H λu H'=>u=.Z (Qv ⟨⟨ac,ad⟩,⟨ah,ai⟩,sc,d,sz⟩)∧∃k,H'=H.up k,E0⟩ K0 A H':=by
  rintro A H' ⟨hx,r1,r3,r4,ab,aa,g1,g2,g3⟩ c0 aj ak am ar ax;rw[ap]at aa;simp only[QbF];simp only[Qb,simprocAttr,QO,r1,ab,aa,g3]
  repeat' (first
   | (refine Qz (λh=>?_) (λh=>?_)<;>(try simp only[Lr,Lu]at h)<;>simp only[Qb,simprocAttr,Qi,QO,r1,r3,r4,ab,aa,g1,g2,g3,h])
   | (refine Qg (λh=>?_) (λh=>?_)<;>(try simp only[Lr,Lu]at h)<;>simp only[Qb,simprocAttr,Qi,QO,r1,r3,r4,ab,aa,g1,g2,g3,h])
   | (refine(av _).w ?_;rintro _ _ ae an ⟨rfl,rfl⟩;simp only[Qb,simprocAttr,Qi,QO,r1,r3,r4,ab,aa,g1,g2,g3])
   | (refine(aq ⟨ac,ad⟩ _).w ?_;rintro _ _ ae an ⟨rfl,k,rfl⟩;have hx:=hx.up (show _<=k from ae);simp only[Qb,simprocAttr,Qi,QO,r1,r3,r4,ab,aa,g1,g2,g3])
   | (refine(aq ⟨ah,ai⟩ _).w ?_;rintro _ _ ae an ⟨rfl,k,rfl⟩;have hx:=hx.up (show _<=k from ae);simp only[Qb,simprocAttr,Qi,QO,r1,r3,r4,ab,aa,g1,g2,g3])
   | (refine(au _).w ?_;rintro _ _ ae an ⟨rfl,k,rfl⟩;have hx:=hx.up (show _<=k from ae);simp only[Qb,simprocAttr,Qi,QO,r1,r3,r4,ab,aa,g1,g2,g3]))
  all_goals first
   | (have q:(isR ⟨ah,ai⟩ 5 4&&(!(sc==1)||isR ⟨ac,ad⟩ 5 4))=true:=(by(try simp only[isR]);simp[*]);exact .ext ao hx ⟨by first | (simp only[Qv,c0,aj,ak,am,ar,ax,q,LV,LN,N3,NG,LJ,NJ,Be,Nt,N1,NI,Bd,L8,LM,reduceCtorEq,B4,BN];done) | (have ag:=am;simp only[q,LJ]at ag;simp only[Qv,c0,aj,ak,q,ag,LV,LN,N3,LJ,reduceCtorEq,B4,BN]),_,rfl⟩)
   | (have q:(isR ⟨ah,ai⟩ 5 4&&(!(sc==1)||isR ⟨ac,ad⟩ 5 4))=false:=(by(try simp only[isR]);simp[*]);exact .ext ao hx ⟨by first | (simp only[Qv,c0,aj,ak,am,ar,ax,q,LV,LN,N3,NG,LJ,NJ,Be,Nt,N1,NI,Bd,L8,LM,reduceCtorEq,B4,BN];done) | (have ag:=am;simp only[q,LJ]at ag;simp only[Qv,c0,aj,ak,q,ag,LV,LN,N3,LJ,reduceCtorEq,B4,BN]),_,rfl⟩)
   | (have q:(isR ⟨ah,ai⟩ 5 4&&(!(sc==1)||isR ⟨ac,ad⟩ 5 4))=false:=(by(try simp only[isR]);simp[*]);exact aC _ _ hx (by simp only[Qv,c0,aj,ak,am,ar,ax,q,LV,LN,N3,NG,LJ,NJ,Be,Nt,N1,NI,Bd,L8,LM,reduceCtorEq,B4,BN]))
 have P2:∀A H',mcF H cs A H'->(decide (d < -2147483648)||decide (2147483647<d))=false->Zz sz=true->(!isR ⟨ac,ad⟩ 0 0&&!isR ⟨ac,ad⟩ 8 0&&!Xz ⟨ac,ad⟩)=false->(isR ⟨ah,ai⟩ 0 0&&!(sc==0))=false->isR ⟨ah,ai⟩ 0 0=false->Qm Pg QbG ⟨Rt Pg Y2 H λu H'=>u=.Z (Qv ⟨⟨ac,ad⟩,⟨ah,ai⟩,sc,d,sz⟩)∧∃k,H'=H.up k,E0⟩ K0 A H':=by
  rintro A H' ⟨hx,r1,r3,r4,ab,aa,g1,g2,g3⟩ c0 aj ak am ar;rw[ap]at aa;simp only[QbG];simp only[Qb,simprocAttr,r1,aa]
  repeat' (first
   | (refine Qz (λh=>?_) (λh=>?_)<;>(try simp only[Lr,Lu]at h)<;>simp only[Qb,simprocAttr,Qi,QO,r1,r3,r4,ab,aa,g1,g2,g3,h])
   | (refine Qg (λh=>?_) (λh=>?_)<;>(try simp only[Lr,Lu]at h)<;>simp only[Qb,simprocAttr,Qi,QO,r1,r3,r4,ab,aa,g1,g2,g3,h])
   | (refine(av _).w ?_;rintro _ _ ae an ⟨rfl,rfl⟩;simp only[Qb,simprocAttr,Qi,QO,r1,r3,r4,ab,aa,g1,g2,g3])
   | (refine(aq ⟨ac,ad⟩ _).w ?_;rintro _ _ ae an ⟨rfl,k,rfl⟩;have hx:=hx.up (show _<=k from ae);simp only[Qb,simprocAttr,Qi,QO,r1,r3,r4,ab,aa,g1,g2,g3])
   | (refine(aq ⟨ah,ai⟩ _).w ?_;rintro _ _ ae an ⟨rfl,k,rfl⟩;have hx:=hx.up (show _<=k from ae);simp only[Qb,simprocAttr,Qi,QO,r1,r3,r4,ab,aa,g1,g2,g3])
   | (refine(au _).w ?_;rintro _ _ ae an ⟨rfl,k,rfl⟩;have hx:=hx.up (show _<=k from ae);simp only[Qb,simprocAttr,Qi,QO,r1,r3,r4,ab,aa,g1,g2,g3]))
  all_goals first
   | (have q:(!Xz ⟨ah,ai⟩||!WF sc||isR ⟨ac,ad⟩ 8 0)=true:=(by(try simp only[isR]);simp[*]);exact .ext ao hx ⟨by first | (simp only[Qv,c0,aj,ak,am,ar,q,LV,LN,N3,NG,LJ,NJ,Be,Nt,N1,NI,Bd,L8,LM,reduceCtorEq,B4,BN];done) | (have ag:=am;simp only[q,LJ]at ag;simp only[Qv,c0,aj,ak,q,ag,LV,LN,N3,LJ,reduceCtorEq,B4,BN]),_,rfl⟩)
   | (have q:(!Xz ⟨ah,ai⟩||!WF sc||isR ⟨ac,ad⟩ 8 0)=false:=(by(try simp only[isR]);simp[*]);exact .ext ao hx ⟨by first | (simp only[Qv,c0,aj,ak,am,ar,q,LV,LN,N3,NG,LJ,NJ,Be,Nt,N1,NI,Bd,L8,LM,reduceCtorEq,B4,BN];done) | (have ag:=am;simp only[q,LJ]at ag;simp only[Qv,c0,aj,ak,q,ag,LV,LN,N3,LJ,reduceCtorEq,B4,BN]),_,rfl⟩)
   | (have q:(!Xz ⟨ah,ai⟩||!WF sc||isR ⟨ac,ad⟩ 8 0)=false:=(by(try simp only[isR]);simp[*]);exact P1 _ _ (mcF.env ⟨hx,r1,r3,r4,ab,by rw[ap];exact aa,g1,g2,g3⟩ (by simp only[Qd,simprocAttr]) (by simp only[Qd,simprocAttr]) (by simp only[Qd,simprocAttr]) (by simp only[Qd,simprocAttr])) c0 aj ak am ar q)
 have P3:∀A H',mcF H cs A H'->(decide (d < -2147483648)||decide (2147483647<d))=false->Zz sz=true->(!isR ⟨ac,ad⟩ 0 0&&!isR ⟨ac,ad⟩ 8 0&&!Xz ⟨ac,ad⟩)=false->(isR ⟨ah,ai⟩ 0 0&&!(sc==0))=false->Qm Pg QbH ⟨Rt Pg Y2 H λu H'=>u=.Z (Qv ⟨⟨ac,ad⟩,⟨ah,ai⟩,sc,d,sz⟩)∧∃k,H'=H.up k,E0⟩ K0 A H':=by
  rintro A H' ⟨hx,r1,r3,r4,ab,aa,g1,g2,g3⟩ c0 aj ak am;rw[ap]at aa;simp only[QbH];simp only[Qb,simprocAttr,QO,r1,r3,aa,g1]
  repeat' (first
   | (refine Qz (λh=>?_) (λh=>?_)<;>(try simp only[Lr,Lu]at h)<;>simp only[Qb,simprocAttr,Qi,QO,r1,r3,r4,ab,aa,g1,g2,g3,h])
   | (refine Qg (λh=>?_) (λh=>?_)<;>(try simp only[Lr,Lu]at h)<;>simp only[Qb,simprocAttr,Qi,QO,r1,r3,r4,ab,aa,g1,g2,g3,h])
   | (refine(av _).w ?_;rintro _ _ ae an ⟨rfl,rfl⟩;simp only[Qb,simprocAttr,Qi,QO,r1,r3,r4,ab,aa,g1,g2,g3])
   | (refine(aq ⟨ac,ad⟩ _).w ?_;rintro _ _ ae an ⟨rfl,k,rfl⟩;have hx:=hx.up (show _<=k from ae);simp only[Qb,simprocAttr,Qi,QO,r1,r3,r4,ab,aa,g1,g2,g3])
   | (refine(aq ⟨ah,ai⟩ _).w ?_;rintro _ _ ae an ⟨rfl,k,rfl⟩;have hx:=hx.up (show _<=k from ae);simp only[Qb,simprocAttr,Qi,QO,r1,r3,r4,ab,aa,g1,g2,g3])
   | (refine(au _).w ?_;rintro _ _ ae an ⟨rfl,k,rfl⟩;have hx:=hx.up (show _<=k from ae);simp only[Qb,simprocAttr,Qi,QO,r1,r3,r4,ab,aa,g1,g2,g3]))
  all_goals first
   | (have q:isR ⟨ah,ai⟩ 0 0=true:=(by(try simp only[isR]);simp[*]);exact .ext ao hx ⟨by first | (simp only[Qv,c0,aj,ak,am,q,LV,LN,N3,NG,LJ,NJ,Be,Nt,N1,NI,Bd,L8,LM,reduceCtorEq,B4,BN];done) | (have ag:=am;simp only[q,LJ]at ag;simp only[Qv,c0,aj,ak,q,ag,LV,LN,N3,LJ,reduceCtorEq,B4,BN]),_,rfl⟩)
   | (have q:isR ⟨ah,ai⟩ 0 0=false:=(by(try simp only[isR]);simp[*]);exact .ext ao hx ⟨by first | (simp only[Qv,c0,aj,ak,am,q,LV,LN,N3,NG,LJ,NJ,Be,Nt,N1,NI,Bd,L8,LM,reduceCtorEq,B4,BN];done) | (have ag:=am;simp only[q,LJ]at ag;simp only[Qv,c0,aj,ak,q,ag,LV,LN,N3,LJ,reduceCtorEq,B4,BN]),_,rfl⟩)
   | (have q:isR ⟨ah,ai⟩ 0 0=false:=(by(try simp only[isR]);simp[*]);exact P2 _ _ (mcF.env ⟨hx,r1,r3,r4,ab,by rw[ap];exact aa,g1,g2,g3⟩ (by simp only[Qd,simprocAttr]) (by simp only[Qd,simprocAttr]) (by simp only[Qd,simprocAttr]) (by simp only[Qd,simprocAttr])) c0 aj ak am q)
 have P4:∀A H',mcF H cs A H'->(decide (d < -2147483648)||decide (2147483647<d))=false->Zz sz=true->(!isR ⟨ac,ad⟩ 0 0&&!isR ⟨ac,ad⟩ 8 0&&!Xz ⟨ac,ad⟩)=false->Qm Pg QbI ⟨Rt Pg Y2 H λu H'=>u=.Z (Qv ⟨⟨ac,ad⟩,⟨ah,ai⟩,sc,d,sz⟩)∧∃k,H'=H.up k,E0⟩ K0 A H':=by
  rintro A H' ⟨hx,r1,r3,r4,ab,aa,g1,g2,g3⟩ c0 aj ak;rw[ap]at aa;simp only[QbI];simp only[Qb,simprocAttr,QO,r1,r3,aa,g1]
  repeat' (first
   | (refine Qz (λh=>?_) (λh=>?_)<;>(try simp only[Lr,Lu]at h)<;>simp only[Qb,simprocAttr,Qi,QO,r1,r3,r4,ab,aa,g1,g2,g3,h])
   | (refine Qg (λh=>?_) (λh=>?_)<;>(try simp only[Lr,Lu]at h)<;>simp only[Qb,simprocAttr,Qi,QO,r1,r3,r4,ab,aa,g1,g2,g3,h])
   | (refine(av _).w ?_;rintro _ _ ae an ⟨rfl,rfl⟩;simp only[Qb,simprocAttr,Qi,QO,r1,r3,r4,ab,aa,g1,g2,g3])
   | (refine(aq ⟨ac,ad⟩ _).w ?_;rintro _ _ ae an ⟨rfl,k,rfl⟩;have hx:=hx.up (show _<=k from ae);simp only[Qb,simprocAttr,Qi,QO,r1,r3,r4,ab,aa,g1,g2,g3])
   | (refine(aq ⟨ah,ai⟩ _).w ?_;rintro _ _ ae an ⟨rfl,k,rfl⟩;have hx:=hx.up (show _<=k from ae);simp only[Qb,simprocAttr,Qi,QO,r1,r3,r4,ab,aa,g1,g2,g3])
   | (refine(au _).w ?_;rintro _ _ ae an ⟨rfl,k,rfl⟩;have hx:=hx.up (show _<=k from ae);simp only[Qb,simprocAttr,Qi,QO,r1,r3,r4,ab,aa,g1,g2,g3]))
  all_goals first
   | (have q:(isR ⟨ah,ai⟩ 0 0&&!(sc==0))=true:=(by(try simp only[isR]);simp[*]);exact .ext ao hx ⟨by first | (simp only[Qv,c0,aj,ak,q,LV,LN,N3,NG,LJ,NJ,Be,Nt,N1,NI,Bd,L8,LM,reduceCtorEq,B4,BN];done) | (have ag:=am;simp only[q,LJ]at ag;simp only[Qv,c0,aj,ak,q,ag,LV,LN,N3,LJ,reduceCtorEq,B4,BN]),_,rfl⟩)
   | (have q:(isR ⟨ah,ai⟩ 0 0&&!(sc==0))=false:=(by(try simp only[isR]);simp[*]);exact .ext ao hx ⟨by first | (simp only[Qv,c0,aj,ak,q,LV,LN,N3,NG,LJ,NJ,Be,Nt,N1,NI,Bd,L8,LM,reduceCtorEq,B4,BN];done) | (have ag:=am;simp only[q,LJ]at ag;simp only[Qv,c0,aj,ak,q,ag,LV,LN,N3,LJ,reduceCtorEq,B4,BN]),_,rfl⟩)
   | (have q:(isR ⟨ah,ai⟩ 0 0&&!(sc==0))=false:=(by(try simp only[isR]);simp[*]);exact P3 _ _ (mcF.env ⟨hx,r1,r3,r4,ab,by rw[ap];exact aa,g1,g2,g3⟩ (by simp only[Qd,simprocAttr]) (by simp only[Qd,simprocAttr]) (by simp only[Qd,simprocAttr]) (by simp only[Qd,simprocAttr])) c0 aj ak q)
 have P5:∀A H',mcF H cs A H'->(decide (d < -2147483648)||decide (2147483647<d))=false->Zz sz=true->Qm Pg QbJ ⟨Rt Pg Y2 H λu H'=>u=.Z (Qv ⟨⟨ac,ad⟩,⟨ah,ai⟩,sc,d,sz⟩)∧∃k,H'=H.up k,E0⟩ K0 A H':=by
  rintro A H' ⟨hx,r1,r3,r4,ab,aa,g1,g2,g3⟩ c0 aj;rw[ap]at aa;simp only[QbJ];simp only[Qb,simprocAttr,QO,r1,r3,aa,g1]
  repeat' (first
   | (refine Qz (λh=>?_) (λh=>?_)<;>(try simp only[Lr,Lu]at h)<;>simp only[Qb,simprocAttr,Qi,QO,r1,r3,r4,ab,aa,g1,g2,g3,h])
   | (refine Qg (λh=>?_) (λh=>?_)<;>(try simp only[Lr,Lu]at h)<;>simp only[Qb,simprocAttr,Qi,QO,r1,r3,r4,ab,aa,g1,g2,g3,h])
   | (refine(av _).w ?_;rintro _ _ ae an ⟨rfl,rfl⟩;simp only[Qb,simprocAttr,Qi,QO,r1,r3,r4,ab,aa,g1,g2,g3])
   | (refine(aq ⟨ac,ad⟩ _).w ?_;rintro _ _ ae an ⟨rfl,k,rfl⟩;have hx:=hx.up (show _<=k from ae);simp only[Qb,simprocAttr,Qi,QO,r1,r3,r4,ab,aa,g1,g2,g3])
   | (refine(aq ⟨ah,ai⟩ _).w ?_;rintro _ _ ae an ⟨rfl,k,rfl⟩;have hx:=hx.up (show _<=k from ae);simp only[Qb,simprocAttr,Qi,QO,r1,r3,r4,ab,aa,g1,g2,g3])
   | (refine(au _).w ?_;rintro _ _ ae an ⟨rfl,k,rfl⟩;have hx:=hx.up (show _<=k from ae);simp only[Qb,simprocAttr,Qi,QO,r1,r3,r4,ab,aa,g1,g2,g3]))
  all_goals first
   | (have q:(!isR ⟨ac,ad⟩ 0 0&&!isR ⟨ac,ad⟩ 8 0&&!Xz ⟨ac,ad⟩)=true:=(by(try simp only[isR]);simp[*]);exact .ext ao hx ⟨by first | (simp only[Qv,c0,aj,q,LV,LN,N3,NG,LJ,NJ,Be,Nt,N1,NI,Bd,L8,LM,reduceCtorEq,B4,BN];done) | (have ag:=am;simp only[q,LJ]at ag;simp only[Qv,c0,aj,ak,q,ag,LV,LN,N3,LJ,reduceCtorEq,B4,BN]),_,rfl⟩)
   | (have q:(!isR ⟨ac,ad⟩ 0 0&&!isR ⟨ac,ad⟩ 8 0&&!Xz ⟨ac,ad⟩)=false:=(by(try simp only[isR]);simp[*]);exact .ext ao hx ⟨by first | (simp only[Qv,c0,aj,q,LV,LN,N3,NG,LJ,NJ,Be,Nt,N1,NI,Bd,L8,LM,reduceCtorEq,B4,BN];done) | (have ag:=am;simp only[q,LJ]at ag;simp only[Qv,c0,aj,ak,q,ag,LV,LN,N3,LJ,reduceCtorEq,B4,BN]),_,rfl⟩)
   | (have q:(!isR ⟨ac,ad⟩ 0 0&&!isR ⟨ac,ad⟩ 8 0&&!Xz ⟨ac,ad⟩)=false:=(by(try simp only[isR]);simp[*]);exact P4 _ _ (mcF.env ⟨hx,r1,r3,r4,ab,by rw[ap];exact aa,g1,g2,g3⟩ (by simp only[Qd,simprocAttr]) (by simp only[Qd,simprocAttr]) (by simp only[Qd,simprocAttr]) (by simp only[Qd,simprocAttr])) c0 aj q)
 have P6:∀A H',mcF H cs A H'->(decide (d < -2147483648)||decide (2147483647<d))=false->Qm Pg QbK ⟨Rt Pg Y2 H λu H'=>u=.Z (Qv ⟨⟨ac,ad⟩,⟨ah,ai⟩,sc,d,sz⟩)∧∃k,H'=H.up k,E0⟩ K0 A H':=by
  rintro A H' ⟨hx,r1,r3,r4,ab,aa,g1,g2,g3⟩ c0;rw[ap]at aa;simp only[QbK];simp only[Qb,simprocAttr,r1,aa]
  repeat' (first
   | (refine Qz (λh=>?_) (λh=>?_)<;>(try simp only[Lr,Lu]at h)<;>simp only[Qb,simprocAttr,Qi,QO,r1,r3,r4,ab,aa,g1,g2,g3,h])
   | (refine Qg (λh=>?_) (λh=>?_)<;>(try simp only[Lr,Lu]at h)<;>simp only[Qb,simprocAttr,Qi,QO,r1,r3,r4,ab,aa,g1,g2,g3,h])
   | (refine(av _).w ?_;rintro _ _ ae an ⟨rfl,rfl⟩;simp only[Qb,simprocAttr,Qi,QO,r1,r3,r4,ab,aa,g1,g2,g3])
   | (refine(aq ⟨ac,ad⟩ _).w ?_;rintro _ _ ae an ⟨rfl,k,rfl⟩;have hx:=hx.up (show _<=k from ae);simp only[Qb,simprocAttr,Qi,QO,r1,r3,r4,ab,aa,g1,g2,g3])
   | (refine(aq ⟨ah,ai⟩ _).w ?_;rintro _ _ ae an ⟨rfl,k,rfl⟩;have hx:=hx.up (show _<=k from ae);simp only[Qb,simprocAttr,Qi,QO,r1,r3,r4,ab,aa,g1,g2,g3])
   | (refine(au _).w ?_;rintro _ _ ae an ⟨rfl,k,rfl⟩;have hx:=hx.up (show _<=k from ae);simp only[Qb,simprocAttr,Qi,QO,r1,r3,r4,ab,aa,g1,g2,g3]))
  all_goals first
   | (have q:Zz sz=true:=(by(try simp only[isR]);simp[*]);exact .ext ao hx ⟨by first | (simp only[Qv,c0,q,LV,LN,N3,NG,LJ,NJ,Be,Nt,N1,NI,Bd,L8,LM,reduceCtorEq,B4,BN];done) | (have ag:=am;simp only[q,LJ]at ag;simp only[Qv,c0,aj,ak,q,ag,LV,LN,N3,LJ,reduceCtorEq,B4,BN]),_,rfl⟩)
   | (have q:Zz sz=false:=(by(try simp only[isR]);simp[*]);exact .ext ao hx ⟨by first | (simp only[Qv,c0,q,LV,LN,N3,NG,LJ,NJ,Be,Nt,N1,NI,Bd,L8,LM,reduceCtorEq,B4,BN];done) | (have ag:=am;simp only[q,LJ]at ag;simp only[Qv,c0,aj,ak,q,ag,LV,LN,N3,LJ,reduceCtorEq,B4,BN]),_,rfl⟩)
   | (have q:Zz sz=true:=(by(try simp only[isR]);simp[*]);exact P5 _ _ (mcF.env ⟨hx,r1,r3,r4,ab,by rw[ap];exact aa,g1,g2,g3⟩ (by simp only[Qd,simprocAttr]) (by simp only[Qd,simprocAttr]) (by simp only[Qd,simprocAttr]) (by simp only[Qd,simprocAttr])) c0 q)
 have ay:∀b c d e f g h,Ext H (((((((H.push b).push c).set (H.y+1) d).push e).set (H.y+2) f).push g).set (H.y+3) h):=λb c d e f g h=>
  (((((((Ext.refl H).push b).push c).set (by omega) d).push e).set (by omega) f).push g).set (by omega) h
 have az:∀A,A 1=.P H.y->A 3=.P (H.y+1)->A 4=.P (H.y+2)->A 5=.P (H.y+3)->∀d e f,mcF H cs A (((((((H.push (.C cs 48)).push d).set (H.y+1) (.C [.Z 0,.Z 0] 46)).push e).set (H.y+2) (.C [.Z 8,.Z 0] 46)).push f).set (H.y+3) (.C [.Z 5,.Z 4] 46)):=by
  intro A r1 r3 r4 ab d e f;refine⟨ay _ _ _ _ _ _ _,r1,r3,r4,ab,?_,?_,?_,?_⟩<;>simp[Qj,Qc,Rh]
 rw[<- ap];refine Qz (λh=>?_) (λh=>?_)<;>(try simp only[Lr,Lu]at h)<;>simp only[Qb,simprocAttr,Qi,Rh,Dd,De,h,ap]
 ·refine Qg (λaw=>?_) (λaw=>?_)<;>simp only[Qb,simprocAttr,Qi,aw];·exact .ext ao (ay _ _ _ _ _ _ _) ⟨by simp only[Qv,h,B4,aw,Bd,N3],_,rfl⟩
  rw[<- ap];exact P6 _ _ (az _ (by simp only[Qd,simprocAttr]) (by simp only[Qd,simprocAttr]) (by simp only[Qd,simprocAttr]) (by simp only[Qd,simprocAttr]) _ _ _) (by simp only[h,aw,NI])
 exact .ext ao (ay _ _ _ _ _ _ _) ⟨by simp only[Qv,h,N1,N3],_,rfl⟩
def Wa:Mm:=⟨⟨0,0⟩,⟨0,0⟩,0,0,0⟩
def QH (m:Mm):Mm:=
 if(isR m.i 0 0||!(m.sc==1))=true then m else if isR m.b 0 0=true then⟨m.i,⟨0,0⟩,0,m.d,m.sz⟩ else if(m.i.n==4)=true then⟨m.i,m.b,m.sc,m.d,m.sz⟩ else m
def Zf (m:Mm):Mm×Int:=if Qv m=0 then(QH m,0) else(Wa,Qv m)
def Qg8 (m:Mm)(H:Qa):Qe Pg 45 [.agg m.cells.toArray] H λu H'=>u=.tuple #[.agg (Zf m).1.cells.toArray,.Z (Zf m).2]∧∃k,H'=H.up k:=by
 refine Qtp λag=>?_;have q:=QnH m;obtain⟨e,aa⟩:∃e,Qv m=e:=⟨_,rfl⟩;rw[aa]at q;have ab:Zf m=if e=0 then(QH m,0) else(Wa,e):=by rw[<- aa];rfl
 rw[ab];clear ab aa;obtain⟨⟨ah,ai⟩,⟨ak,am⟩,sc,d,sz⟩:=m;simp only[Mm.cells]at q;simp only[Mm.cells,Qlb,GE,GF,GG,GH,Qb,simprocAttr];refine(q _).w ?_;rintro _ _ ae aj ⟨rfl,k,rfl⟩;simp only[Qf,Q8]at ae;have ac:¬H.y=k:=by omega
 have k1:¬H.y+1=k:=by omega
 have k2:¬H.y=k+1:=by omega
 have k3:¬H.y+1=k+1:=by omega
 simp only[Qb,simprocAttr]
 repeat' (first
   | refine⟨by simp[Qp,plain],by omega,?_⟩
   | (refine Qz (λh=>?_) (λh=>?_)<;>(try simp only[Lr,Lu]at h)<;>simp only[Qb,simprocAttr,QiJ,GE,GF,GG,GH,QO,Rh,Dd,De,ac,k1,k2,k3,h])
   | (refine Qg (λh=>?_) (λh=>?_)<;>(try simp only[Lr,Lu]at h)<;>simp only[Qb,simprocAttr,QiJ,GE,GF,GG,GH,QO,Rh,Dd,De,ac,k1,k2,k3,h]))
 all_goals refine .ext ag ?_ ⟨?_,_,rfl⟩
 all_goals try (repeat' (first | exact Ext.refl _ | refine Ext.push ?_ _ | refine Ext.up ?_ (by first | assumption | (simp only[Qf,QR];omega)) | refine Ext.set ?_ (by omega) _))
 all_goals (try have ad:e=0:=by simpa using ‹(e==0)=true›)<;>(try have ad:¬e=0:=by simpa using ‹(e==0)=false›)
 all_goals (simp only[QH,Wa,isR, *,LV,LN,N3,N1,NI,Bd,L8,LM];done)
structure Ar where
 k:Int
 r:Rg
 m:Mm
 n:Int
 deriving DecidableEq
def Ar.cells (a:Ar):List Value:=[.Z a.k,.Z a.r.c,.Z a.r.n,.Z a.m.b.c,.Z a.m.b.n,.Z a.m.i.c,.Z a.m.i.n,.Z a.m.sc,.Z a.m.d,.Z a.m.sz,.Z a.n]
def QJ (a:Ar):Int:=
 if(a.k==1)=true then(if(!Wv a.r||(a.r.c==8))=true then 2 else 0)
 else if(a.k==2)=true then Qv a.m
 else if(a.k==3)=true then 0
 else if(a.k==4)=true then(if(decide (a.n < -2147483648)||decide (2147483647<a.n))=true then 5 else 0)
 else 2
def KD (a:Ar)(H:Qa):Qe Pg 42 [.agg a.cells.toArray] H λu H'=>u=.Z (QJ a)∧∃k,H'=H.up k:=by
 refine QmC λac=>?_;have aa:=K3 a.r;have ab:=QnH a.m;obtain⟨k,⟨aj,ak⟩,⟨⟨ae,ag⟩,⟨ah,ai⟩,sc,d,sz⟩,n⟩:=a;simp only[Rg.cells,Mm.cells]at aa ab;simp(disch:=omega) only[Ar.cells,QdX,Y9,Za,Zb,Zc,Zd,QE,simprocAttr]
 repeat' (first
   | (refine Qz (λh=>?_) (λh=>?_)<;>(try simp only[Lr,Lu]at h)<;>simp(disch:=omega) only[QE,simprocAttr,ZO,Y9,Za,Zb,Zc,Zd,h])
   | (refine Qg (λh=>?_) (λh=>?_)<;>(try simp only[Lr,Lu]at h)<;>simp(disch:=omega) only[QE,simprocAttr,ZO,Y9,Za,Zb,Zc,Zd,h])
   | (refine(aa _).w ?_;rintro _ _ q ad ⟨rfl,k,rfl⟩;simp only[Qf,Q8,QR]at q;simp(disch:=omega) only[QE,simprocAttr,ZO])
   | (refine(ab _).w ?_;rintro _ _ q ad ⟨rfl,k,rfl⟩;simp only[Qf,Q8,QR]at q;simp(disch:=omega) only[QE,simprocAttr,ZO]))
 all_goals refine .ext ac ?_ ⟨?_,_,rfl⟩
 all_goals try (repeat' (first | exact Ext.refl _ | refine Ext.push ?_ _ | refine Ext.up ?_ (by simp only[Qf,QR,Q8];omega) | refine Ext.set ?_ (by omega) _))
 all_goals (simp only[QJ, *,LV,LN,N3,N1,NI,Bd,L8,LM])
/-! ### Canon -/
def WN:Ar:=⟨0,⟨0,0⟩,Wa,0⟩
def WX (a:Ar):Ar:=if(a.k==1)=true then⟨a.k,a.r,Wa,0⟩ else if(a.k==2)=true then⟨a.k,⟨0,0⟩,QH a.m,0⟩ else⟨a.k,⟨0,0⟩,Wa,a.n⟩
def Wo (a:Ar):Ar×Int:=if(QJ a==0)=true then(WX a,0) else(WN,QJ a)
def QpW {a:Ar}(q:(a.k==2)=true):QJ a=Qv a.m:=by
 have:a.k=2:=by simpa using q
 simp[QJ,this]
def Qog (a:Ar)(H:Qa):Qe Pg 25 [.agg a.cells.toArray] H λu H'=>u=.tuple #[.agg (Wo a).1.cells.toArray,.Z (Wo a).2]∧∃k,H'=H.up k:=by
 refine QmB λah=>?_;have ae:=KD a;have aa:=Qg8 a.m;have ag:=@QpW a;have ac:Zf a.m=if Qv a.m=0 then(QH a.m,0) else(Wa,Qv a.m):=rfl
 have ad:Wo a=if(QJ a==0)=true then(WX a,0) else(WN,QJ a):=rfl
 rw[ad];rw[ac]at aa;clear ad ac;generalize QJ a=e at *;generalize Qv a.m=f at *;have ab:WX a=if(a.k==1)=true then⟨a.k,a.r,Wa,0⟩ else if(a.k==2)=true then⟨a.k,⟨0,0⟩,QH a.m,0⟩ else⟨a.k,⟨0,0⟩,Wa,a.n⟩:=rfl
 rw[ab];clear ab;generalize QH a.m=mc at *;obtain⟨k,⟨av,aw⟩,⟨⟨aj,ak⟩,⟨am,au⟩,sc,d,sz⟩,n⟩:=a;obtain⟨⟨an,ao⟩,⟨ap,min⟩,aq,md,ar⟩:=mc;simp only[Ar.cells,Mm.cells]at ae aa ag;simp(disch:=(try simp only[hnP])<;>try omega) only[Ar.cells,QdW,Xf,Xg,Xh,QE,simprocAttr]
 repeat' (first
   | (refine Qz (λh=>?_) (λh=>?_)<;>(try simp only[Lr,Lu]at h)<;>simp(disch:=(try simp only[hnP])<;>try omega) only[Xf,Xg,Xh,QE,simprocAttr,ZN,h])
   | (refine Qg (λh=>?_) (λh=>?_)<;>(try simp only[Lr,Lu]at h)<;>simp(disch:=(try simp only[hnP])<;>try omega) only[Xf,Xg,Xh,QE,simprocAttr,ZN,h])
   | (refine(ae _).w ?_;rintro _ _ q ai ⟨rfl,k,rfl⟩;(try simp only[Qf,Q8,QR]at q);simp(disch:=(try simp only[hnP])<;>try omega) only[Xf,Xg,Xh,QE,simprocAttr,ZN])
   | (refine(aa _).w ?_;rintro _ _ q ai ⟨rfl,k,rfl⟩;(try simp only[Qf,Q8,QR]at q);simp(disch:=(try simp only[hnP])<;>try omega) only[Xf,Xg,Xh,QE,simprocAttr,ZN])
   | (with_reducible refine⟨by simp[Qp,plain],by omega,?_⟩)
   | (with_reducible refine⟨by simp[Qp,plain],?_⟩)
   | fail)
 all_goals refine .ext ah ?_ ⟨?_,_,rfl⟩
 all_goals try (repeat' (first | exact Ext.refl _ | refine Ext.push ?_ _ | refine Ext.up ?_ (by simp only[Qf,QR,Q8];omega) | refine Ext.set ?_ (by omega) _))
 all_goals simp_all [WN,Wa]
def YE (a:Ar):Int:=if(QJ a==0)=true then(if(a.k==1)=true then Qg7 a.r else if(a.k==2)=true then a.m.sz else 0) else 0
def QpX (a:Ar)(H:Qa):Qe Pg 44 [.agg a.cells.toArray] H λu H'=>u=.Z (YE a)∧∃k,H'=H.up k:=by
 refine Qof λad=>?_;have ab:=KD a;have ac:=QxQ a.r;have aa:YE a=if(QJ a==0)=true then(if(a.k==1)=true then Qg7 a.r else if(a.k==2)=true then a.m.sz else 0) else 0:=rfl
 rw[aa];clear aa;generalize QJ a=e at *;generalize Qg7 a.r=sr at *;obtain⟨k,⟨ak,am⟩,⟨⟨ag,ah⟩,⟨ai,aj⟩,sc,d,sz⟩,n⟩:=a;simp only[Ar.cells,Rg.cells]at ab ac;simp(disch:=(try simp only[hnP])<;>try omega) only[Ar.cells,QfG,QE,simprocAttr]
 repeat' (first
   | (refine Qz (λh=>?_) (λh=>?_)<;>(try simp only[Lr,Lu]at h)<;>simp(disch:=(try simp only[hnP])<;>try omega) only[QE,simprocAttr,Jy,h])
   | (refine Qg (λh=>?_) (λh=>?_)<;>(try simp only[Lr,Lu]at h)<;>simp(disch:=(try simp only[hnP])<;>try omega) only[QE,simprocAttr,Jy,h])
   | (refine(ab _).w ?_;rintro _ _ q ae ⟨rfl,k,rfl⟩;(try simp only[Qf,Q8,QR]at q);simp(disch:=(try simp only[hnP])<;>try omega) only[QE,simprocAttr,Jy])
   | (refine(ac _).w ?_;rintro _ _ q ae ⟨rfl,k,rfl⟩;(try simp only[Qf,Q8,QR]at q);simp(disch:=(try simp only[hnP])<;>try omega) only[QE,simprocAttr,Jy])
   | (with_reducible refine⟨by simp[Qp,plain],by omega,?_⟩)
   | (with_reducible refine⟨by simp[Qp,plain],?_⟩)
   | fail)
 all_goals refine .ext ad ?_ ⟨?_,_,rfl⟩
 all_goals try (repeat' (first | exact Ext.refl _ | refine Ext.push ?_ _ | refine Ext.up ?_ (by simp only[Qf,QR,Q8];omega) | refine Ext.set ?_ (by omega) _))
 all_goals simp_all []
def Ji (o:Int):Bool:=decide (1<=o)&&decide (o<=322)
def QeK (o:Int)(H:Qa):Qe Pg 41 [.Z o] H λu H'=>u=.bool (Ji o)∧H'=H:=by
 refine QiI λq=>?_;simp(disch:=(try simp only[hnP])<;>try omega) only[Qc6,QE,simprocAttr]
 repeat' (first
   | (refine Qz (λh=>?_) (λh=>?_)<;>(try simp only[Lr,Lu]at h)<;>simp(disch:=(try simp only[hnP])<;>try omega) only[QE,simprocAttr,QbC,h])
   | (refine Qg (λh=>?_) (λh=>?_)<;>(try simp only[Lr,Lu]at h)<;>simp(disch:=(try simp only[hnP])<;>try omega) only[QE,simprocAttr,QbC,h])
   | (with_reducible refine⟨by simp[Qp,plain],by omega,?_⟩)
   | (with_reducible refine⟨by simp[Qp,plain],?_⟩)
   | fail)
 all_goals refine .mk (Lb _) ⟨?_,rfl⟩
 all_goals (simp_all [Ji]<;>omega)
def QmD (o:Int):Int×Bool:=if Ji o=false then(0,false) else if o=1∨o=2∨o=3∨o=4∨o=5∨o=6∨o=7∨o=8∨o=9∨o=10∨o=16 then(0,true) else if o=48 then(64,true) else if o=51 then(16,false) else(8,false)
def QxS (o:Int)(H:Qa):Qe Pg 43 [.Z o] H λu H'=>u=.tuple #[.Z (QmD o).1,.bool (QmD o).2]∧H'=H:=by
 refine Qvw λac=>?_;have ab:=QeK o;have q:QmD o=if Ji o=false then(0,false) else if o=1∨o=2∨o=3∨o=4∨o=5∨o=6∨o=7∨o=8∨o=9∨o=10∨o=16 then(0,true) else if o=48 then(64,true) else if o=51 then(16,false) else(8,false):=rfl
 rw[q];clear q;generalize Ji o=v at *;simp(disch:=(try simp only[hnP])<;>try omega) only[QnE,Kf,Kg,Kh,Ki,Kj,Kk,Kl,Km,Kn,Jf,Jg,QE,simprocAttr]
 repeat' (first
   | (refine Qz (λh=>?_) (λh=>?_)<;>(try simp only[Lr,Lu]at h)<;>simp(disch:=(try simp only[hnP])<;>try omega) only[Kf,Kg,Kh,Ki,Kj,Kk,Kl,Km,Kn,Jf,Jg,QE,simprocAttr,QeI,h])
   | (refine Qg (λh=>?_) (λh=>?_)<;>(try simp only[Lr,Lu]at h)<;>simp(disch:=(try simp only[hnP])<;>try omega) only[Kf,Kg,Kh,Ki,Kj,Kk,Kl,Km,Kn,Jf,Jg,QE,simprocAttr,QeI,h])
   | (refine(ab _).w ?_;rintro _ _ aa ad ⟨rfl,rfl⟩;(try simp only[Qf,Q8,QR]at aa);simp(disch:=(try simp only[hnP])<;>try omega) only[Kf,Kg,Kh,Ki,Kj,Kk,Kl,Km,Kn,Jf,Jg,QE,simprocAttr,QeI])
   | (with_reducible refine⟨by simp[Qp,plain],by omega,?_⟩)
   | (with_reducible refine⟨by simp[Qp,plain],?_⟩)
   | fail)
 all_goals refine .mk (Lb _) ⟨?_,rfl⟩
 all_goals simp_all []
def Ql (l:List Ar):List Value:=l.flatMap Ar.cells
def Wq (a:Ar):a.cells.length=11:=rfl
def K4 (a:Ar)(l:List Ar):Ql (a::l)=a.cells++Ql l:=by simp[Ql]
def QvA (l:List Ar)(a:Ar):Ql (l++[a])=Ql l++a.cells:=by simp[Ql]
def Wb:∀l:List Ar,(Ql l).length=l.length * 11
 | []=>rfl
 | a::l=>by
  have:=Wb l;rw[K4,Lh,Wq,this,Lo];omega
def XU:∀ (l:List Ar) (i:Nat) (p:Ar),l[i]? = some p->((Ql l).drop (i * 11)).take 11=p.cells
 | [],i,p,h=>by simp at h
 | q::l,0,p,h=>by
  simp at h;subst h;rw[K4,BH,Lw,NO (by rw[Wq];exact Lb 11),LF (by rw[Wq];exact Lb 11)]
 | q::l,i+1,p,h=>by
  rw[K4,show(i+1) * 11=q.cells.length+i * 11 by rw[Wq];omega,B3,NK (by omega),LH,NL];exact XU l i p (by simpa using h)
def Wg (H:Qa)(v:Value)(l:List Ar):Prop:=VM H v l.length (Ql l)
def Wg.ext {H H':Qa}{v:Value}{l:List Ar}(aa:H.Wf)(q:Ext H H')(h:Wg H v l):Wg H' v l:=VM.ext aa q h
def QCw (r:Rg):0<=Qg7 r∧Qg7 r<=32:=by
 unfold Qg7
 repeat' split
 all_goals decide
def QAP {n:Int}(h:Zz n=true):0<=n∧n<=32:=by
 simp only[Zz,Nw,L0]at h;omega
def QCx (a:Ar):0<=YE a∧YE a<=32:=by
 unfold YE;split
 ·rename_i h;split;·exact QCw _
  split
  ·rename_i q;rw[QpW q]at h;apply QAP;cases aa:Zz a.m.sz with
   | true=>rfl
   | false=>
    unfold Qv at h;rw[aa]at h;split at h<;>simp at h
  omega
 omega
def Qy (op:Int)(l:List Ar):Int×Bool:=if Ji op=false then(0,false) else if((QmD op).1==0)=false then QmD op else match l with
 | []=>(0,false)
 | a::_=>if(YE a==0)=true then(0,false) else(8 * YE a,(QmD op).2)
def QcQ (op:Int)(v:Value)(l:List Ar)(H:Qa)(ao:Wg H v l)(au:l.length<=1000):Qe Pg 23 [.agg #[.Z op,v]] H λu H'=>u=.tuple #[.Z (Qy op l).1,.bool (Qy op l).2]∧∃k,H'=H.up k:=by
 refine Qto λaj=>?_;have ak:=QeK op;have am:=QxS op;unfold Qy;generalize Ji op=v1 at *;generalize QmD op=v2 at *;obtain⟨av,aw⟩:=v2;obtain⟨a0,cap,rfl,an⟩:=ao;cases l with
 | nil=>
  have q:(((0:Nat):Int)==0)=true:=rfl;simp(disch:=(try simp only[hnP])<;>try omega) only[QeH,QE,simprocAttr]
  repeat' (first
    | (refine Qz (λh=>?_) (λh=>?_)<;>(try simp only[Lr,Lu]at h)<;>simp(disch:=(try simp only[hnP])<;>try omega) only[QE,simprocAttr,q,Xp,h])
    | (refine Qg (λh=>?_) (λh=>?_)<;>(try simp only[Lr,Lu]at h)<;>simp(disch:=(try simp only[hnP])<;>try omega) only[QE,simprocAttr,q,Xp,h])
    | (refine(ak _).w ?_;rintro _ _ aa ai ⟨rfl,rfl⟩;(try simp only[Qf,Q8,QR]at aa);simp(disch:=(try simp only[hnP])<;>try omega) only[QE,simprocAttr,q,Xp])
    | (refine(am _).w ?_;rintro _ _ aa ai ⟨rfl,rfl⟩;(try simp only[Qf,Q8,QR]at aa);simp(disch:=(try simp only[hnP])<;>try omega) only[QE,simprocAttr,q,Xp])
    | (with_reducible refine⟨by simp[Qp,plain],by omega,?_⟩)
    | (with_reducible refine⟨by simp[Qp,plain],?_⟩)
    | fail)
  all_goals refine .ext aj ?_ ⟨?_,_,rfl⟩
  all_goals try (repeat' (first | exact Ext.refl _ | refine Ext.push ?_ _ | refine Ext.up ?_ (by simp only[Qf,QR,Q8];omega) | refine Ext.set ?_ (by omega) _))
  all_goals simp_all
 | cons a l=>
  dsimp only;have ae:(0:Int).toNat=0:=rfl;have ap:=QpX a;have aq:=QCx a;generalize YE a=s at *;obtain⟨b,e,ro,rfl,ab⟩:=an (by simp);have q:(((l.length+1:Nat):Int)==0)=false:=by simp;omega
  have ad:((0:Int)<=0∧(0:Int)<((l.length+1:Nat):Int)):=by omega
  have ar:=aj.lt ab;have ac:IntKind.i64.wrap (8 * s)=8 * s:=w64 (by unfold I64;omega);have ag:List.take 11 (Ql (a::l))=a.cells:=by
   have:=XU (a::l) 0 a rfl;simpa using this
  have ah:11<=(Ql (a::l)).length:=by rw[Wb];simp;omega
  simp(disch:=(try simp only[hnP])<;>try omega) only[QeH,QE,simprocAttr]
  repeat' (first
    | (refine Qz (λh=>?_) (λh=>?_)<;>(try simp only[Lr,Lu]at h)<;>simp(disch:=(try simp only[hnP])<;>try omega) only[QE,simprocAttr,q,ad,ae,ab,ag,ah,ac,Xp,h])
    | (refine Qg (λh=>?_) (λh=>?_)<;>(try simp only[Lr,Lu]at h)<;>simp(disch:=(try simp only[hnP])<;>try omega) only[QE,simprocAttr,q,ad,ae,ab,ag,ah,ac,Xp,h])
    | (refine(ak _).w ?_;rintro _ _ aa ai ⟨rfl,rfl⟩;(try simp only[Qf,Q8,QR]at aa);simp(disch:=(try simp only[hnP])<;>try omega) only[QE,simprocAttr,q,ad,ae,ab,ag,ah,ac,Xp])
    | (refine(am _).w ?_;rintro _ _ aa ai ⟨rfl,rfl⟩;(try simp only[Qf,Q8,QR]at aa);simp(disch:=(try simp only[hnP])<;>try omega) only[QE,simprocAttr,q,ad,ae,ab,ag,ah,ac,Xp])
    | (refine(ap _).w ?_;rintro _ _ aa ai ⟨rfl,k,rfl⟩;(try simp only[Qf,Q8,QR]at aa);simp(disch:=(try simp only[hnP])<;>try omega) only[QE,simprocAttr,q,ad,ae,ab,ag,ah,ac,Xp])
    | (with_reducible refine⟨by simp[Qp,plain],by omega,?_⟩)
    | (with_reducible refine⟨by simp[Qp,plain],?_⟩)
    | fail)
  all_goals refine .ext aj ?_ ⟨?_,_,rfl⟩
  all_goals try (repeat' (first | exact Ext.refl _ | refine Ext.push ?_ _ | refine Ext.up ?_ (by simp only[Qf,QR,Q8];omega) | refine Ext.set ?_ (by omega) _))
  all_goals simp_all
def K9 (n bits:Int):Int:=if bits=8 then n % 256 else if bits=16 then n % 65536 else if bits=32 then n % 4294967296 else n
def Ku (n bits:Int):Int:=if bits=8 then(n+128) % 256 - 128 else if bits=16 then(n+32768) % 65536 - 32768 else if bits=32 then(n+2147483648) % 4294967296 - 2147483648 else n
def W4 (n bits:Int)(q:Bool):Int×Int:=
 if(bits==8||bits==16||bits==32||bits==64)=false then(0,2)
 else if(!(n==K9 n bits)&&!(n==Ku n bits))=true then(0,5)
 else if q=true then(Ku n bits,0) else(K9 n bits,0)
def QmI (n bits:Int)(ac:Bool)(ad:I64 n)(am:bits=8∨bits=16∨bits=32∨bits=64)(H:Qa):Qe Pg 26 [.Z n,.Z bits,.bool ac] H λu H'=>u=.tuple #[.Z (W4 n bits ac).1,.Z (W4 n bits ac).2]∧H'=H:=by
 refine Qg2 λan=>?_;rcases am with rfl | rfl | rfl | rfl
 ·have t1:((8:Int)==8)=true:=rfl;have t2:((8:Int)==16)=false:=rfl;have aj:((8:Int)==32)=false:=rfl;have ak:((8:Int)==64)=false:=rfl;have ah:IntKind.i64.wrap (64 - 8)=56:=by decide
  have ae:(2:Int) ^ min (Int.toNat 56) IntKind.u64.bits=72057594037927936:=by decide
  have ag:(2:Int) ^ min (Int.toNat 56) IntKind.i64.bits=72057594037927936:=by decide
  have ai:((0:Int)<=56)=True:=eq_true (by decide);have eL:IntKind.i64.wrap ((IntKind.u64.wrap (IntKind.u64.wrap n * 72057594037927936)).fdiv 72057594037927936)=K9 n 8:=by
   unfold I64 at ad;rw[Np _ (by decide),NU,NC,NC];rw[show K9 n 8=n % 256 from rfl];omega
  have eC:(IntKind.i64.wrap (IntKind.u64.wrap (IntKind.u64.wrap n * 72057594037927936))).fdiv 72057594037927936=Ku n 8:=by
   unfold I64 at ad;rw[Np _ (by decide),NU,NC,NC];rw[show Ku n 8=(n+128) % 256 - 128 from rfl];omega
  simp(disch:=(try simp only[hnP])<;>try omega) only[YO,QW,QX,QY,sxA,sxB,Nat.reduceBEq,Nat.reduceEqDiff,reduceCtorEq,mxD,mxB,Nat.reduceAdd,reduceIte,Nat.reduceLeDiff,splice,t1,ah,ai,ae,ag,eL,eC]
  obtain⟨lo,aa⟩:∃lo,K9 n 8=lo:=⟨_,rfl⟩;obtain⟨cu,q⟩:∃cu,Ku n 8=cu:=⟨_,rfl⟩;have ab:W4 n 8 ac=if(!(n==lo)&&!(n==cu))=true then(0,5) else if ac=true then(cu,0) else(lo,0):=by
   rw[<- aa,<- q];rfl
  rw[ab,aa,q];clear ab eL eC aa q
  repeat' (first
   | (refine Qz (λh=>?_) (λh=>?_)<;>(try simp only[Lr,Lu]at h)<;>simp(disch:=(try simp only[hnP])<;>try omega) only[QW,QX,QY,QE,simprocAttr,WM,h])
   | (refine Qg (λh=>?_) (λh=>?_)<;>(try simp only[Lr,Lu]at h)<;>simp(disch:=(try simp only[hnP])<;>try omega) only[QW,QX,QY,QE,simprocAttr,WM,h])
   | fail)
  all_goals refine .mk (Lb _) ⟨?_,rfl⟩
  all_goals simp_all
 ·have t1:((16:Int)==8)=false:=rfl;have t2:((16:Int)==16)=true:=rfl;have aj:((16:Int)==32)=false:=rfl;have ak:((16:Int)==64)=false:=rfl;have ah:IntKind.i64.wrap (64 - 16)=48:=by decide
  have ae:(2:Int) ^ min (Int.toNat 48) IntKind.u64.bits=281474976710656:=by decide
  have ag:(2:Int) ^ min (Int.toNat 48) IntKind.i64.bits=281474976710656:=by decide
  have ai:((0:Int)<=48)=True:=eq_true (by decide);have eL:IntKind.i64.wrap ((IntKind.u64.wrap (IntKind.u64.wrap n * 281474976710656)).fdiv 281474976710656)=K9 n 16:=by
   unfold I64 at ad;rw[Np _ (by decide),NU,NC,NC];rw[show K9 n 16=n % 65536 from rfl];omega
  have eC:(IntKind.i64.wrap (IntKind.u64.wrap (IntKind.u64.wrap n * 281474976710656))).fdiv 281474976710656=Ku n 16:=by
   unfold I64 at ad;rw[Np _ (by decide),NU,NC,NC];rw[show Ku n 16=(n+32768) % 65536 - 32768 from rfl];omega
  simp(disch:=(try simp only[hnP])<;>try omega) only[YO,QW,QX,QY,sxA,sxB,Nat.reduceBEq,Nat.reduceEqDiff,reduceCtorEq,mxD,mxB,Nat.reduceAdd,reduceIte,Nat.reduceLeDiff,splice,t1,t2,ah,ai,ae,ag,eL,eC]
  obtain⟨lo,aa⟩:∃lo,K9 n 16=lo:=⟨_,rfl⟩;obtain⟨cu,q⟩:∃cu,Ku n 16=cu:=⟨_,rfl⟩;have ab:W4 n 16 ac=if(!(n==lo)&&!(n==cu))=true then(0,5) else if ac=true then(cu,0) else(lo,0):=by
   rw[<- aa,<- q];rfl
  rw[ab,aa,q];clear ab eL eC aa q
  repeat' (first
   | (refine Qz (λh=>?_) (λh=>?_)<;>(try simp only[Lr,Lu]at h)<;>simp(disch:=(try simp only[hnP])<;>try omega) only[QW,QX,QY,QE,simprocAttr,WM,h])
   | (refine Qg (λh=>?_) (λh=>?_)<;>(try simp only[Lr,Lu]at h)<;>simp(disch:=(try simp only[hnP])<;>try omega) only[QW,QX,QY,QE,simprocAttr,WM,h])
   | fail)
  all_goals refine .mk (Lb _) ⟨?_,rfl⟩
  all_goals simp_all
 ·have t1:((32:Int)==8)=false:=rfl;have t2:((32:Int)==16)=false:=rfl;have aj:((32:Int)==32)=true:=rfl;have ak:((32:Int)==64)=false:=rfl;have ah:IntKind.i64.wrap (64 - 32)=32:=by decide
  have ae:(2:Int) ^ min (Int.toNat 32) IntKind.u64.bits=4294967296:=by decide
  have ag:(2:Int) ^ min (Int.toNat 32) IntKind.i64.bits=4294967296:=by decide
  have ai:((0:Int)<=32)=True:=eq_true (by decide);have eL:IntKind.i64.wrap ((IntKind.u64.wrap (IntKind.u64.wrap n * 4294967296)).fdiv 4294967296)=K9 n 32:=by
   unfold I64 at ad;rw[Np _ (by decide),NU,NC,NC];rw[show K9 n 32=n % 4294967296 from rfl];omega
  have eC:(IntKind.i64.wrap (IntKind.u64.wrap (IntKind.u64.wrap n * 4294967296))).fdiv 4294967296=Ku n 32:=by
   unfold I64 at ad;rw[Np _ (by decide),NU,NC,NC];rw[show Ku n 32=(n+2147483648) % 4294967296 - 2147483648 from rfl];omega
  simp(disch:=(try simp only[hnP])<;>try omega) only[YO,QW,QX,QY,sxA,sxB,Nat.reduceBEq,Nat.reduceEqDiff,reduceCtorEq,mxD,mxB,Nat.reduceAdd,reduceIte,Nat.reduceLeDiff,splice,t1,t2,aj,ah,ai,ae,ag,eL,eC]
  obtain⟨lo,aa⟩:∃lo,K9 n 32=lo:=⟨_,rfl⟩;obtain⟨cu,q⟩:∃cu,Ku n 32=cu:=⟨_,rfl⟩;have ab:W4 n 32 ac=if(!(n==lo)&&!(n==cu))=true then(0,5) else if ac=true then(cu,0) else(lo,0):=by
   rw[<- aa,<- q];rfl
  rw[ab,aa,q];clear ab eL eC aa q
  repeat' (first
   | (refine Qz (λh=>?_) (λh=>?_)<;>(try simp only[Lr,Lu]at h)<;>simp(disch:=(try simp only[hnP])<;>try omega) only[QW,QX,QY,QE,simprocAttr,WM,h])
   | (refine Qg (λh=>?_) (λh=>?_)<;>(try simp only[Lr,Lu]at h)<;>simp(disch:=(try simp only[hnP])<;>try omega) only[QW,QX,QY,QE,simprocAttr,WM,h])
   | fail)
  all_goals refine .mk (Lb _) ⟨?_,rfl⟩
  all_goals simp_all
 have t1:((64:Int)==8)=false:=rfl;have t2:((64:Int)==16)=false:=rfl;have aj:((64:Int)==32)=false:=rfl;have ak:((64:Int)==64)=true:=rfl;have ah:IntKind.i64.wrap (64 - 64)=0:=by decide
 have ae:(2:Int) ^ min (Int.toNat 0) IntKind.u64.bits=1:=by decide
 have ag:(2:Int) ^ min (Int.toNat 0) IntKind.i64.bits=1:=by decide
 have ai:((0:Int)<=0)=True:=eq_true (by decide);have eL:IntKind.i64.wrap ((IntKind.u64.wrap (IntKind.u64.wrap n * 1)).fdiv 1)=K9 n 64:=by
  unfold I64 at ad;rw[Np _ (by decide),NU,NC,NC];rw[show K9 n 64=n from rfl];omega
 have eC:(IntKind.i64.wrap (IntKind.u64.wrap (IntKind.u64.wrap n * 1))).fdiv 1=Ku n 64:=by
  unfold I64 at ad;rw[Np _ (by decide),NU,NC,NC];rw[show Ku n 64=n from rfl];omega
 simp(disch:=(try simp only[hnP])<;>try omega) only[YO,QW,QX,QY,sxA,sxB,Nat.reduceBEq,Nat.reduceEqDiff,reduceCtorEq,mxD,mxB,Nat.reduceAdd,reduceIte,Nat.reduceLeDiff,splice,t1,t2,aj,ak,ah,ai,ae,ag,eL,eC]
 obtain⟨lo,aa⟩:∃lo,K9 n 64=lo:=⟨_,rfl⟩;obtain⟨cu,q⟩:∃cu,Ku n 64=cu:=⟨_,rfl⟩;have ab:W4 n 64 ac=if(!(n==lo)&&!(n==cu))=true then(0,5) else if ac=true then(cu,0) else(lo,0):=by
  rw[<- aa,<- q];rfl
 rw[ab,aa,q];clear ab eL eC aa q
 repeat' (first
  | (refine Qz (λh=>?_) (λh=>?_)<;>(try simp only[Lr,Lu]at h)<;>simp(disch:=(try simp only[hnP])<;>try omega) only[QW,QX,QY,QE,simprocAttr,WM,h])
  | (refine Qg (λh=>?_) (λh=>?_)<;>(try simp only[Lr,Lu]at h)<;>simp(disch:=(try simp only[hnP])<;>try omega) only[QW,QX,QY,QE,simprocAttr,WM,h])
  | fail)
 all_goals refine .mk (Lb _) ⟨?_,rfl⟩
 all_goals simp_all
def Vz (n bits:Int)(q:Bool)(ad:I64 n)(H:Qa):Qe Pg 26 [.Z n,.Z bits,.bool q] H λu H'=>u=.tuple #[.Z (W4 n bits q).1,.Z (W4 n bits q).2]∧H'=H:=by
 by_cases ac:bits=8∨bits=16∨bits=32∨bits=64;·exact QmI n bits q ad ac H
 have t1:(bits==8)=false:=by simp;omega
 have t2:(bits==16)=false:=by simp;omega
 have aa:(bits==32)=false:=by simp;omega
 have ab:(bits==64)=false:=by simp;omega
 refine Qg2 λae=>?_;simp(disch:=(try simp only[hnP])<;>try omega) only[YO,QW,QX,QY,QE,simprocAttr,t1,t2,aa,ab,WM]
 refine .mk (Lb _) ⟨?_,rfl⟩;simp[W4,t1,t2,aa,ab]
def errA:List Ar->Int
 | []=>0
 | a::l=>if(QJ a==0)=true then errA l else QJ a
def W5 (k:Int):List Ar->Int
 | []=>0
 | a::l=>(if(a.k==k)=true then 1 else 0)+W5 k l
def QeO (n:Int):List Ar->Int
 | []=>n
 | a::l=>QeO (if(a.k==3)=true then a.n else n) l
def QZ (op:Int)(l:List Ar):Int:=
 if Ji op=false then 6 else if l.length>4 then 3 else if(errA l==0)=false then errA l
 else if(decide (1<W5 2 l)||decide (1<W5 4 l)||decide (1<W5 3 l))=true then 2
 else if(W5 3 l==0)=true then 0
 else if((Qy op l).1==0)=true then 2 else(W4 (QeO 0 l) (Qy op l).1 (Qy op l).2).2
def QhI (k:Int):∀ (l:List Ar) (a:Ar),W5 k (l++[a])=W5 k l+(if(a.k==k)=true then 1 else 0)
 | [],a=>by simp[W5]
 | b::l,a=>by simp only[Nm,W5,QhI k l a];omega
def Qsp:∀ (l:List Ar) (n:Int) (a:Ar),QeO n (l++[a])=if(a.k==3)=true then a.n else QeO n l
 | [],n,a=>by simp[QeO]
 | b::l,n,a=>by simp only[Nm,QeO,Qsp l _ a]
def QoG (k:Int):∀l:List Ar,0<=W5 k l∧W5 k l<=l.length
 | []=>by simp[W5]
 | a::l=>by
  have:=QoG k l;simp only[W5,Lo];split<;>omega
def Qp7 (n:Int):∀l:List Ar,QeO n l=n∨∃a∈l,QeO n l=a.n
 | []=>.inl rfl
 | a::l=>by
  unfold QeO;split
  ·rcases Qp7 a.n l with h | ⟨b,q,h⟩;·exact .inr ⟨a,by simp,h⟩
   exact .inr ⟨b,by simp[q],h⟩
  rcases Qp7 n l with h | ⟨b,q,h⟩;·exact .inl h
  exact .inr ⟨b,by simp[q],h⟩
def Qsq:∀ (l:List Ar) (i:Nat) (a:Ar),l[i]? = some a->errA (l.drop i)=if(QJ a==0)=true then errA (l.drop (i+1)) else QJ a
 | [],i,a,h=>by simp at h
 | b::l,0,a,h=>by simp at h;subst h;rfl
 | b::l,i+1,a,h=>by simpa using Qsq l i a (by simpa using h)
def QAT {α:Type}(l:List α)(i:Nat)(a:α)(h:l[i]? = some a):l.take (i+1)=l.take i++[a]:=by
 rw[Nv,h];rfl
def icF (H:Qa)(op:Int)(v:Value)(A:Env)(H':Qa):Prop:=Ext H H'∧A 1=.P H.y∧H'.get H.y=some (.C [.Z op,v] 26)∧H.y<H'.y
def QeP (op:Int)(v:Value)(l:List Ar)(H:Qa)(ap:Wg H v l)(aS:l.length<=1000)(aP:∀a∈l,I64 a.n):Qe Pg 22 [.agg #[.Z op,v]] H λu H'=>u=.Z (QZ op l)∧∃k,H'=H.up k:=by
 refine Qrt λak=>?_;have P4:∀A H',icF H op v A H'->Ji op=true->l.length<=4->errA l=0->A 6=.Z (W5 2 l)->A 7=.Z (W5 4 l)->A 8=.Z (W5 3 l)->A 9=.Z (QeO 0 l)->
   Qm Pg V8 ⟨Rt Pg Yo H λu H'=>u=.Z (QZ op l)∧∃k,H'=H.up k,X4⟩ (Rt Pg Yo H λu H'=>u=.Z (QZ op l)∧∃k,H'=H.up k) A H':=by
  rintro A H' ⟨hx,r1,aa,ah⟩ am ao ar ab ac r8 ad;have aW:=λH' (hx:Ext H H')=>QcQ op v l H' (ap.ext ak hx) aS;have ag:I64 (QeO 0 l):=by
   rcases Qp7 0 l with h | ⟨a,ai,h⟩;·rw[h];unfold I64;omega
   rw[h];exact aP a ai
  have aG:QZ op l=if(decide (1<W5 2 l)||decide (1<W5 4 l)||decide (1<W5 3 l))=true then 2 else if(W5 3 l==0)=true then 0 else if((Qy op l).1==0)=true then 2 else(W4 (QeO 0 l) (Qy op l).1 (Qy op l).2).2:=by
   unfold QZ;rw[Le (by simp[am]),Le (by omega),Le (by simp[ar])]
  rw[aG];clear aG;generalize W5 2 l=n2 at *;generalize W5 4 l=n4 at *;generalize W5 3 l=n3 at *;generalize QeO 0 l=nn at *;generalize Qy op l=ib at *;obtain⟨aK,aL⟩:=ib;have aX:=Vz nn aK aL ag;generalize W4 nn aK aL=im at *;obtain⟨bg,bh⟩:=im;obtain⟨a0,cap,rfl,ae⟩:=ap;simp(disch:=(try simp only[hnP])<;>try omega) only[V8,Yf,Ye,Yd,QE,simprocAttr,ab]
  repeat' (first
   | (refine Qz (λh=>?_) (λh=>?_)<;>(try simp only[Lr,Lu]at h)<;>simp(disch:=(try simp only[hnP])<;>try omega) only[Yf,Ye,Yd,QE,simprocAttr,XZ,r1,aa,ab,ac,r8,ad,h])
   | (refine Qg (λh=>?_) (λh=>?_)<;>(try simp only[Lr,Lu]at h)<;>simp(disch:=(try simp only[hnP])<;>try omega) only[Yf,Ye,Yd,QE,simprocAttr,XZ,r1,aa,ab,ac,r8,ad,h])
   | (refine(aW _ hx).w ?_;rintro _ _ ag az ⟨rfl,k,rfl⟩;have hx:=hx.up (show _<=k from ag);simp(disch:=(try simp only[hnP])<;>try omega) only[Yf,Ye,Yd,QE,simprocAttr,XZ,r1,aa,ab,ac,r8,ad])
   | (refine(aX _).w ?_;rintro _ _ ag az ⟨rfl,rfl⟩;simp(disch:=(try simp only[hnP])<;>try omega) only[Yf,Ye,Yd,QE,simprocAttr,XZ,r1,aa,ab,ac,r8,ad])
   | fail)
  all_goals refine .ext ak hx ⟨?_,_,rfl⟩
  all_goals simp_all
 have aQ:∃a0 cap,v=.slice a0 l.length cap:=Xt ap;obtain⟨a0,cap,aj⟩:=aQ;have aF:∀ (i:Nat) (a:Ar) (H':Qa),Ext H H'->l[i]? = some a->∃b e ro,a0=some ⟨b,0,none⟩∧H'.get b=some (.cells (Ql l) e ro)∧b<H.y∧List.take 11 (List.drop (i * 11) (Ql l))=a.cells∧i * 11+11<=(Ql l).length:=by
  intro i a H' hx hi;have ba:i<l.length:=(Lk.1 hi).1;obtain⟨a1,aZ,e1,ae⟩:=ap;rw[aj]at e1;cases e1;obtain⟨b,e,ro,rfl,av⟩:=ae (by omega);exact⟨b,e,ro,rfl,by rw[hx.get b (ak.lt av)];exact av,ak.lt av,XU l i a hi,by rw[Wb];omega⟩
 have P9:∀A H',icF H op v A H'->Ji op=true->l.length<=4->errA l=0->Qm Pg V9 ⟨Rt Pg Yo H λu H'=>u=.Z (QZ op l)∧∃k,H'=H.up k,X4⟩ (Rt Pg Yo H λu H'=>u=.Z (QZ op l)∧∃k,H'=H.up k) A H':=by
  rintro A H' ⟨hx,r1,aa,ah⟩ am ao ar;simp(disch:=(try simp only[hnP])<;>try omega) only[V9,QE,simprocAttr,r1,aa,aj]
  refine Qu (λm A' H'=>∃i:Nat,i<=l.length∧m=l.length - i∧icF H op v A' H'∧A' 6=.Z (W5 2 (l.take i))∧A' 7=.Z (W5 4 (l.take i))∧A' 8=.Z (W5 3 (l.take i))∧A' 9=.Z (QeO 0 (l.take i))∧A' 38=.slice a0 l.length cap∧A' 39=.Z l.length∧A' 40=.Z i) l.length ?_ ?_
  ·refine⟨0,L7 _,by omega,⟨hx,?_,?_,ah⟩,?_,?_,?_,?_,?_,?_,?_⟩
   all_goals (try simp only[Qd,simprocAttr,r1,aa,aj])
   all_goals (first | rfl | simp[W5,QeO])
  rintro m A' H' ⟨i,hi,rfl,⟨hx,r1,aa,ah⟩,ab,ac,r8,ad,aB,aC,aD⟩;simp(disch:=(try simp only[hnP])<;>try omega) only[QfF,QE,simprocAttr,aC,aD]
  refine Qg (λq=>?_) (λq=>?_)
  ·have q:i<l.length:=by have:=Lg q;omega
   obtain⟨a,ai⟩:∃a,l[i]? = some a:=⟨_,La q⟩;obtain⟨b,e,ro,rfl,ax,aR,an,ay⟩:=aF i a H' hx ai;have aU:=hx.y;have d1:(0:Int)<=i∧(i:Int)<l.length:=by omega
   have d3:(i:Int).toNat=i:=by omega
   have au:IntKind.i64.wrap ((i:Int)+1)=((i+1:Nat):Int):=by rw[w64 (by unfold I64;omega)];omega
   have b2:=QoG 2 (l.take i);have b3:=QoG 3 (l.take i);have b4:=QoG 4 (l.take i);have bc:(l.take i).length<=1000:=by rw[Sb];omega
   have e2:IntKind.i64.wrap (W5 2 (l.take i)+1)=W5 2 (l.take i)+1:=w64 (by unfold I64;omega);have e3:IntKind.i64.wrap (W5 3 (l.take i)+1)=W5 3 (l.take i)+1:=w64 (by unfold I64;omega);have e4:IntKind.i64.wrap (W5 4 (l.take i)+1)=W5 4 (l.take i)+1:=w64 (by unfold I64;omega);have s2:=QhI 2 (l.take i) a;have s3:=QhI 3 (l.take i) a;have s4:=QhI 4 (l.take i) a;have aE:=Qsp (l.take i) 0 a;rw[<- QAT l i a ai]at s2 s3 s4 aE;obtain⟨k,r,aV,n⟩:=a;simp only[Ar.cells]at an;simp(disch:=(try simp only[hnP])<;>try omega) only[QfE,QfD,QfC,QE,simprocAttr,aB,aD,d1,d3,ax,an,ay]
   repeat' (first
    | (refine Qg (λh=>?_) (λh=>?_)<;>simp(disch:=(try simp only[hnP])<;>try omega) only[QE,simprocAttr,ab,ac,r8,ad,aB,aC,aD,au,e2,e3,e4])
    | fail)
   all_goals refine⟨l.length - (i+1),by omega,i+1,by omega,rfl,⟨(hx.push _).set (by omega) _,?_,?_,?_⟩,?_,?_,?_,?_,?_,?_,?_⟩
   all_goals (first
    | (simp only[Qd,simprocAttr,r1,aB,aC];done)
    | (simp(disch:=(try simp only[hnP])<;>try omega) only[Qtc,simprocAttr,aa];done)
    | (simp only[QR,Qf];omega)
    | (simp only[Qd,simprocAttr,s2,s3,s4,aE,ab,ac,r8,ad];simp_all;done)
    | (simp only[Qd,simprocAttr,s2,s3,s4,aE,ab,ac,r8,ad];simp_all<;>omega))
  have q:i=l.length:=by have:=Ll q;omega
  subst q;rw[Nr]at ab ac r8 ad;simp(disch:=(try simp only[hnP])<;>try omega) only[QE,simprocAttr]
  refine P4 _ _ ⟨hx,?_,aa,ah⟩ am ao ar ?_ ?_ ?_ ?_
  all_goals simp only[Qd,simprocAttr,r1,ab,ac,r8,ad]
 have P12:∀A H',icF H op v A H'->A 2=.Z 0->Ji op=true->l.length<=4->Qm Pg Vi ⟨Rt Pg Yo H λu H'=>u=.Z (QZ op l)∧∃k,H'=H.up k,X4⟩ (Rt Pg Yo H λu H'=>u=.Z (QZ op l)∧∃k,H'=H.up k) A H':=by
  rintro A H' ⟨hx,r1,aa,ah⟩ r2 am ao;simp(disch:=(try simp only[hnP])<;>try omega) only[Vi,QE,simprocAttr,r1,aa,aj]
  refine Qu (λm A' H'=>∃i:Nat,i<=l.length∧m=l.length - i∧icF H op v A' H'∧errA l=errA (l.drop i)∧A' 25=.slice a0 l.length cap∧A' 26=.Z l.length∧A' 27=.Z i) l.length ?_ ?_
  ·refine⟨0,L7 _,by omega,⟨hx,?_,?_,ah⟩,?_,?_,?_,?_⟩
   all_goals (try simp only[Qd,simprocAttr,r1,aa,aj])
   all_goals (first | rfl | simp)
  rintro m A' H' ⟨i,hi,rfl,⟨hx,r1,aa,ah⟩,aw,aN,aO,aA⟩;simp(disch:=(try simp only[hnP])<;>try omega) only[QdU,QE,simprocAttr,aO,aA]
  refine Qg (λq=>?_) (λq=>?_)
  ·have q:i<l.length:=by have:=Lg q;omega
   obtain⟨a,ai⟩:∃a,l[i]? = some a:=⟨_,La q⟩;obtain⟨b,e,ro,rfl,ax,aR,an,ay⟩:=aF i a H' hx ai;have aU:=hx.y;have d1:(0:Int)<=i∧(i:Int)<l.length:=by omega
   have d3:(i:Int).toNat=i:=by omega
   have au:IntKind.i64.wrap ((i:Int)+1)=((i+1:Nat):Int):=by rw[w64 (by unfold I64;omega)];omega
   have aM:=KD a;have aH:=Qsq l i a ai;obtain⟨k,r,aV,n⟩:=a;simp only[Ar.cells]at an aM;simp(disch:=(try simp only[hnP])<;>try omega) only[QdT,QE,simprocAttr,aN,aA,d1,d3,ax,an,ay]
   refine(aM _).w ?_;rintro _ _ ag az ⟨rfl,aq,rfl⟩;have bd:H'.y+1<=aq:=ag;simp(disch:=(try simp only[hnP])<;>try omega) only[QE,simprocAttr]
   refine Qg (λh=>?_) (λh=>?_)
   ·simp(disch:=(try simp only[hnP])<;>try omega) only[QE,simprocAttr,XZ]
    refine .ext ak (((hx.push _).set (by omega) _).up (show _<=aq from ag)) ⟨?_,_,rfl⟩;unfold QZ;simp only[Lr]at h;rw[Le (by simp[am]),Le (by omega),aw,aH,h];simp[h]
   simp(disch:=(try simp only[hnP])<;>try omega) only[QE,simprocAttr,aA,au]
   refine⟨l.length - (i+1),by omega,i+1,by omega,rfl,⟨((hx.push _).set (by omega) _).up (show _<=aq from ag),?_,?_,?_⟩,?_,?_,?_,?_⟩;·simp only[Qd,simprocAttr,r1]
   ·simp(disch:=(try simp only[hnP])<;>try omega) only[Qtc,simprocAttr,aa]
   ·show H.y<aq;omega
   ·simp only[Lu]at h;rw[aw,aH,h];rfl
   all_goals simp only[Qd,simprocAttr,aN,aO]
  have q:i=l.length:=by have:=Ll q;omega
  subst q;simp(disch:=(try simp only[hnP])<;>try omega) only[QE,simprocAttr]
  refine P9 _ _ ⟨hx,?_,aa,ah⟩ am ao ?_;·simp only[Qd,simprocAttr,r1]
  rw[aw,BU];rfl
 have aY:=QeK op;have aJ:QZ op l=if Ji op=false then 6 else if l.length>4 then 3 else QZ op l:=by
  split;·rename_i h;unfold QZ;rw[Lc h]
  rename_i h;split;·rename_i q;unfold QZ;rw[Le h,Lc q]
  rfl
 have aT:=(Ext.refl H).push (.C [.Z op,v] 26);have aI:=(Ext.refl H).push (.C [.Z op,.slice a0 l.length cap] 26);simp(disch:=(try simp only[hnP])<;>try omega) only[QiH,QE,simprocAttr]
 refine(aY _).w ?_;rintro _ _ ag az ⟨rfl,rfl⟩;simp(disch:=(try simp only[hnP])<;>try omega) only[QE,simprocAttr]
 refine Qg (λae=>?_) (λae=>?_)
 ·simp only[Lr]at ae;simp(disch:=(try simp only[hnP])<;>try omega) only[QE,simprocAttr,XZ]
  refine .ext ak aT ⟨?_,_,rfl⟩;rw[aJ,Lc ae]
 simp only[Lu]at ae;simp(disch:=(try simp only[hnP])<;>try omega) only[QdV,QE,simprocAttr,aj]
 refine Qg (λq=>?_) (λq=>?_)
 ·have q:4<l.length:=by have:=Lg q;omega
  simp(disch:=(try simp only[hnP])<;>try omega) only[QE,simprocAttr,XZ]
  refine .ext ak aI ⟨?_,_,rfl⟩;rw[aJ,Le (by simp[ae]),Lc q]
 have q:l.length<=4:=by have:=Ll q;omega
 simp(disch:=(try simp only[hnP])<;>try omega) only[QE,simprocAttr]
 refine P12 _ _ ⟨aI,?_,?_,?_⟩ ?_ ae q;·simp only[Qd,simprocAttr]
 ·simp(disch:=(try simp only[hnP])<;>try omega) only[Qtc,simprocAttr,aj]
 ·simp only[Qf];omega
 simp only[Qd,simprocAttr]
def QbP (f s:Int):List Ar->Bool
 | [x,y]=>(x.k==f)&&(y.k==s)
 | _=>false
def JX:List Ar->Bool
 | [x,y]=>((x.k==1)&&(y.k==1))&&(x.r.c==y.r.c)
 | _=>false
def QhJ (x y:Ar):Ql [x,y]=x.cells++y.cells:=by simp[Ql]
def Vl (d:Nat)(op:Int)(v:Value)(l:List Ar)(f s:Int)(H:Qa)(ro:Bool)(q:H.get d=some (.cells [.Z op,v] 66 ro))(ad:Wg H v l)(ak:l.length<=1000):
  Qe Pg 46 [.P d,.Z f,.Z s] H λu H'=>u=.bool (QbP f s l)∧H'=H:=by
 refine Qlc λai=>?_;have aj:=ai.lt q;have aa:∀x y,l=[x,y]->∃b e ro cap,v=.S b 2 cap∧H.get b=some (.cells (x.cells++y.cells) e ro):=by
  rintro x y rfl;obtain⟨a0,cap,rfl,ac⟩:=ad;obtain⟨b,e,ro,rfl,aa⟩:=ac (by simp);exact⟨b,e,ro,cap,rfl,by rw[<- QhJ];exact aa⟩
 by_cases h:∃x y,l=[x,y]
 ·obtain⟨x,y,rfl⟩:=h;obtain⟨b,e,aq,cap,rfl,ab⟩:=aa x y rfl;obtain⟨k,r,m,n⟩:=x;obtain⟨am,ap,an,ao⟩:=y;simp only[Ar.cells,Nm,LH]at ab;have d0:((0:Int)<=0∧(0:Int)<((2:Nat):Int)):=by omega
  have d1:((0:Int)<=1∧(1:Int)<((2:Nat):Int)):=by omega
  have t0:(0:Int).toNat=0:=rfl;have t1:(1:Int).toNat=1:=rfl;have e2:(((2:Nat):Int)==2)=true:=rfl;simp(disch:=(try simp only[hnP])<;>try omega) only[GI,QE,simprocAttr,q,ab,d0,t0]
  repeat' (first
   | (refine Qz (λh=>?_) (λh=>?_)<;>simp(disch:=(try simp only[hnP])<;>try omega) only[QE,simprocAttr,q,ab,d0,d1,t0,t1,e2,QbD,h])
   | fail)
  all_goals refine .mk (Lb _) ⟨?_,rfl⟩
  all_goals simp_all [QbP]
 have ae:QbP f s l=false:=by
  match l,h with
  | [],_=>rfl
  | [_],_=>rfl
  | [x,y],h=>exact absurd ⟨x,y,rfl⟩ h
  | _::_::_::_,_=>rfl
 have ag:((l.length:Int)==2)=false:=by
  have:l.length≠2:=λah=>h (by
   match l,ah with
   | [x,y],_=>exact⟨x,y,rfl⟩)
  simp only[LC,Da];omega
 obtain⟨a0,cap,rfl,ac⟩:=ad;rw[ae];simp(disch:=(try simp only[hnP])<;>try omega) only[GI,QE,simprocAttr,q,ag,QbD]
 refine .mk (Lb _) ⟨rfl,rfl⟩
def QbQ (d:Nat)(op:Int)(v:Value)(l:List Ar)(H:Qa)(ro:Bool)(aa:H.get d=some (.cells [.Z op,v] 66 ro))(ad:Wg H v l)(ag:l.length<=1000):
  Qe Pg 48 [.P d] H λu H'=>u=.bool (JX l)∧H'=H:=by
 refine Qh1 λai=>?_;have ak:=ai.lt aa;have q:=Vl d op v l 1 1 H ro aa ad ag
 by_cases h:∃x y,l=[x,y]
 ·obtain⟨x,y,rfl⟩:=h;obtain⟨a0,cap,rfl,ae⟩:=ad;obtain⟨b,e,aq,rfl,ab⟩:=ae (by simp);rw[QhJ]at ab;obtain⟨k,r,m,n⟩:=x;obtain⟨am,ap,an,ao⟩:=y;simp only[Ar.cells,Nm,LH,Lo,L9]at ab aa q ⊢;have d0:((0:Int)<=0∧(0:Int)<((0+1+1:Nat):Int)):=by omega
  have d1:((0:Int)<=1∧(1:Int)<((0+1+1:Nat):Int)):=by omega
  have t0:(0:Int).toNat=0:=rfl;have t1:(1:Int).toNat=1:=rfl;simp(disch:=(try simp only[hnP])<;>try omega) only[JU,QE,simprocAttr]
  refine q.w ?_;rintro _ _ ah aj ⟨rfl,rfl⟩;simp(disch:=(try simp only[hnP])<;>try omega) only[QE,simprocAttr]
  refine Qz (λh=>?_) (λh=>?_)
  ·simp(disch:=(try simp only[hnP])<;>try omega) only[QE,simprocAttr,aa,ab,d0,d1,t0,t1,Jh,h]
   refine .mk (Lb _) ⟨?_,rfl⟩;simp_all [QbP,JX]
  simp(disch:=(try simp only[hnP])<;>try omega) only[QE,simprocAttr,Jh,h]
  refine .mk (Lb _) ⟨?_,rfl⟩;simp_all [QbP,JX]
 have ac:QbP 1 1 l=false∧JX l=false:=by
  match l,h with
  | [],_=>exact⟨rfl,rfl⟩
  | [_],_=>exact⟨rfl,rfl⟩
  | [x,y],h=>exact absurd ⟨x,y,rfl⟩ h
  | _::_::_::_,_=>exact⟨rfl,rfl⟩
 rw[ac.1]at q;rw[ac.2];simp(disch:=(try simp only[hnP])<;>try omega) only[JU,QE,simprocAttr]
 refine q.w ?_;rintro _ _ ah aj ⟨rfl,rfl⟩;simp(disch:=(try simp only[hnP])<;>try omega) only[QE,simprocAttr,Jh]
 refine .mk (Lb _) ⟨rfl,rfl⟩
def GN (d b cap:Nat)(op:Int)(x y:Ar)(H:Qa)(ro:Bool)(e:TypeId)(aa:H.get d=some (.cells [.Z op,.S b 2 cap] 66 ro))(q:H.get b=some (.C (Ql [x,y]) e)):
  Qe Pg 47 [.P d] H λu H'=>u=.tuple #[]∧H'=(H.set b (.C (Ql [y,y]) e)).set b (.C (Ql [y,x]) e):=by
 refine QjI λab=>?_;have ad:=ab.lt aa;have ac:=ab.lt q;have d0:((0:Int)<=0∧(0:Int)<((2:Nat):Int)):=by omega
 have d1:((0:Int)<=1∧(1:Int)<((2:Nat):Int)):=by omega
 have t0:(0:Int).toNat=0:=rfl;have t1:(1:Int).toNat=1:=rfl;rw[QhJ]at q;obtain⟨k,r,m,n⟩:=x;obtain⟨ae,ai,ag,ah⟩:=y;simp only[QhJ,Ar.cells,Nm,LH]at q ⊢;simp(disch:=(try simp only[hnP])<;>try omega) only[QbE,QE,simprocAttr,aa,q,d0,d1,t0,t1,Qh0]
 refine .mk (by simp only[QR];exact Lb _) ⟨rfl,rfl⟩
def Qp8:∀l:List Ar,(Ql l).all (·.oneCell')=true
 | []=>rfl
 | a::l=>by
  rw[K4,Fo,Qp8 l];rfl
def Qzg (v:Value)(l:List Ar)(H:Qa)(ah:Wg H v l)(ad:l.length<=1000):Qe Pg 24 [v] H λu H'=>
  Ext H H'∧((l=[]∧(u=.slice none 0 0∨u=.S H.y 0 0∧H'=H.push (.C [] 50)))∨(l≠[]∧u=.S (H.y+1) l.length (UNK+11)∧H'=(H.push (.C [] 50)).push (.C (Ql l) 50))):=by
 refine GV λai=>?_;obtain⟨a0,cap,rfl,ac⟩:=ah;have q:=(Ext.refl H).push (.C [] 50);simp(disch:=(try simp only[hnP])<;>try omega) only[YD,QE,simprocAttr]
 rw[QCv (a:=a0) (e:=50) (n:=l.length) (c:=cap) (by kernel_rfl) (by simp only[QbZ,simprocAttr])];cases l with
 | nil=>
  cases a0 with
  | none=>
   simp(disch:=(try simp only[hnP])<;>try omega) only[Qb,simprocAttr,Qtc,simprocAttr,Option.isNone,WW]
   exact .mk (Lb _) ⟨.refl _,.inl (.inl rfl)⟩
  | some x=>
   have ag:∀H1:Qa,Jr 50 11 88 (.S H.y 0 0) (.slice (some x) 0 cap) H1=some (.S H.y 0 0,H1):=λH1=>by simp[Jr,Zx]
   simp(disch:=(try simp only[hnP])<;>try omega) only[Qb,simprocAttr,Qtc,simprocAttr,Option.isNone]
   unfold QfY;rw[ag,Qs];simp(disch:=(try simp only[hnP])<;>try omega) only[Qb,simprocAttr,Qtc,simprocAttr,WW]
   exact .mk q.y ⟨q,.inl (.inr ⟨rfl,rfl⟩)⟩
 | cons a l=>
  obtain⟨b,e,ro,rfl,aa⟩:=ac (by simp);have aj:=ai.lt aa;have ab:=Wb (a::l);have ae:Zx 11 (.S b (l.length+1) cap) (H.push (.C [] 50))=some (l.length+1,Ql (a::l)):=by
   rw[Gg (c:=Ql (a::l)) (e:=e) (ro:=ro) (by rw[Qnt (by omega)];exact aa) (by omega) (by rw[ab,Lo];omega),Lw,LF (by rw[ab,Lo];exact Lb _)]
  rw[Lo]at ad;simp(disch:=(try simp only[hnP])<;>try omega) only[Qb,simprocAttr,Qtc,simprocAttr,Option.isNone]
  refine Qmd (c:=[]) (ro:=false) (e':=50) ae (Qp8 _) (by omega) (Qns rfl) (by simp) (by omega) (by omega) (by decide) (by omega) ?_;simp(disch:=(try simp only[hnP])<;>try omega) only[Qb,simprocAttr,Qtc,simprocAttr,WW]
  refine .mk (q.push _).y ⟨q.push _,?_⟩;simp
def QeQ (op:Int)(l:List Ar):Bool:=(op==16)&&QbP 1 3 l
def Qc9 (op:Int)(l:List Ar):Bool:=(op==10||op==11)&&QbP 1 2 l
def Qf7 (op:Int):List Ar->Bool
 | [x,y]=>(op==11)&&JX [x,y]&&!(decide (x.r.n<=y.r.n))
 | _=>false
def Qd5 {f s:Int}{l:List Ar}(h:QbP f s l=true):∃x y,l=[x,y]:=by
 match l,h with
 | [x,y],_=>exact⟨x,y,rfl⟩
def QCI (d:Nat)(op:Int)(v:Value)(l:List Ar)(H:Qa)(aa:H.get d=some (.C [.Z op,v] 66))(ai:Wg H v l)(ae:l.length<=1000)(am:∀x y,l=[x,y]->∃b cap,v=.S b 2 cap∧H.get b=some (.C (Ql l) 50)):
    Qe Pg 28 [.P d] H λu H'=>u=.bool (Qc9 op l)∧(Qc9 op l=false->H'=H)∧(Qc9 op l=true->∃x y b cap,l=[x,y]∧v=.S b 2 cap∧H'=(H.set b (.C (Ql [y,y]) 50)).set b (.C (Ql [y,x]) 50)):=by
  refine Qg3 λak=>?_;have ap:=ak.lt aa;have q:=Vl d op v l 1 2 H false aa ai ae;have ao:=λb cap x y e=>GN d b cap op x y H false e;have ad:Qc9 op l=((op==10||op==11)&&QbP 1 2 l):=rfl;rw[ad];have ah:=@Qd5 1 2 l;generalize QbP 1 2 l=r at *;simp(disch:=(try simp only[hnP])<;>try omega) only[VN,QE,simprocAttr,aa]
  repeat' (first
    | (refine Qz (λh=>?_) (λh=>?_)<;>(try simp only[bne,Lr,Lu]at h)<;>simp(disch:=(try simp only[hnP])<;>try omega) only[QE,simprocAttr,aa,X3,h])
    | (refine Qg (λh=>?_) (λh=>?_)<;>(try simp only[bne,Lr,Lu]at h)<;>simp(disch:=(try simp only[hnP])<;>try omega) only[QE,simprocAttr,aa,X3,h])
    | (refine q.w ?_;rintro _ _ ag an ⟨rfl,rfl⟩;simp(disch:=(try simp only[hnP])<;>try omega) only[QE,simprocAttr,aa,X3])
    | fail)
  all_goals (first
    | (refine .mk (Lb _) ⟨by simp,λ_=>rfl,by simp⟩)
    | (obtain⟨x,y,ab⟩:=ah (by assumption)
       obtain⟨b,cap,aj,ac⟩:=am x y ab;subst ab aj;refine(ao b cap x y _ aa ac).w ?_;rintro _ _ ag an ⟨rfl,rfl⟩;simp(disch:=(try simp only[hnP])<;>try omega) only[QE,simprocAttr,X3]
       refine .mk (by simp only[QR];exact Lb _) ⟨by simp_all,by simp_all,λ_=>⟨x,y,b,cap,rfl,rfl,rfl⟩⟩))
def QAU (d:Nat)(op:Int)(v:Value)(l:List Ar)(H:Qa)(aa:H.get d=some (.C [.Z op,v] 66))(aj:Wg H v l)(ah:l.length<=1000)(am:∀x y,l=[x,y]->∃b cap,v=.S b 2 cap∧H.get b=some (.C (Ql l) 50)):
    Qe Pg 27 [.P d] H λu H'=>u=.bool (QeQ op l)∧(QeQ op l=false->H'=H)∧(QeQ op l=true->∃x y,l=[x,y]∧H'=(H.push (.C (Ql [x,x,y]) 50)).set d (.C [.Z op,.S H.y 3 3] 66)):=by
  refine Qf5 λac=>?_;have ao:=ac.lt aa;have q:=Vl d op v l 1 3 H false aa aj ah;have ae:QeQ op l=((op==16)&&QbP 1 3 l):=rfl;rw[ae];have ai:=@Qd5 1 3 l;have ag:¬d=H.y:=by omega
  generalize QbP 1 3 l=r at *;simp(disch:=(try simp only[hnP])<;>try omega) only[G0,QE,simprocAttr,aa]
  repeat' (first
    | (refine Qz (λh=>?_) (λh=>?_)<;>(try simp only[bne,Lr,Lu]at h)<;>simp(disch:=(try simp only[hnP])<;>try omega) only[QE,simprocAttr,aa,XN,h])
    | (refine Qg (λh=>?_) (λh=>?_)<;>(try simp only[bne,Lr,Lu]at h)<;>simp(disch:=(try simp only[hnP])<;>try omega) only[QE,simprocAttr,aa,XN,h])
    | (refine q.w ?_;rintro _ _ ap aq ⟨rfl,rfl⟩;simp(disch:=(try simp only[hnP])<;>try omega) only[QE,simprocAttr,aa,XN])
    | fail)
  all_goals (first
    | (refine .mk (Lb _) ⟨by simp,λ_=>rfl,by simp⟩)
    | (obtain⟨x,y,ad⟩:=ai (by assumption)
       obtain⟨b,cap,ak,ab⟩:=am x y ad;subst ad ak;obtain⟨k,r,m,n⟩:=x;obtain⟨ar,aw,au,av⟩:=y;have an:=ac.lt ab;have d0:((0:Int)<=0∧(0:Int)<((2:Nat):Int)):=by omega
       have d1:((0:Int)<=1∧(1:Int)<((2:Nat):Int)):=by omega
       have t0:(0:Int).toNat=0:=rfl;have t1:(1:Int).toNat=1:=rfl;simp only[QhJ,Ar.cells,Nm,LH]at ab;simp(disch:=(try simp only[hnP])<;>try omega) only[sxA,sxB,Nat.reduceBEq,Nat.reduceEqDiff,reduceCtorEq,mxA,mxB,Nat.reduceAdd,reduceIte,Nat.reduceLeDiff,splice,mxD,mxB,Nat.reduceAdd,reduceIte,Nat.reduceLeDiff,splice,aa,ab,d0,d1,t0,t1]
       rw[Lc (by decide)];simp(disch:=(try simp only[hnP])<;>try omega) only[Qb,simprocAttr,Qtc,simprocAttr,aa,ag,XN]
       refine .mk (by simp only[QR,Qf];omega) ⟨rfl,λh=>h.elim,λ_=>⟨_,_,rfl,rfl⟩⟩))
def QCJ (d:Nat)(op:Int)(v:Value)(l:List Ar)(H:Qa)(aa:H.get d=some (.C [.Z op,v] 66))(an:Wg H v l)(am:l.length<=1000)(ap:∀x y,l=[x,y]->∃b cap,v=.S b 2 cap∧H.get b=some (.C (Ql l) 50)):
  Qe Pg 29 [.P d] H λu H'=>u=.bool (Qf7 op l)∧(Qf7 op l=false->H'=H)∧(Qf7 op l=true->∃x y b cap,l=[x,y]∧v=.S b 2 cap∧H'=(H.set b (.C (Ql [y,y]) 50)).set b (.C (Ql [y,x]) 50)):=by
 refine Qg4 λah=>?_;have au:=ah.lt aa;have q:=QbQ d op v l H false aa an am
 by_cases ad:∃x y,l=[x,y]
 ·obtain⟨x,y,aj⟩:=ad;obtain⟨b,cap,ao,ac⟩:=ap x y aj;subst aj ao;have aq:=GN d b cap op x y H false 50 aa ac;have ar:=ah.lt ac;have ak:Qf7 op [x,y]=((op==11)&&JX [x,y]&&!(decide (x.r.n<=y.r.n))):=rfl;rw[ak];have ab:H.get b=some (.C (x.cells++y.cells) 50):=by rw[<- QhJ];exact ac
  have d0:((0:Int)<=0∧(0:Int)<((2:Nat):Int)):=by omega
  have d1:((0:Int)<=1∧(1:Int)<((2:Nat):Int)):=by omega
  have t0:(0:Int).toNat=0:=rfl;have t1:(1:Int).toNat=1:=rfl;obtain⟨k,r,m,n⟩:=x;obtain⟨av,ay,aw,ax⟩:=y;simp only[Ar.cells,Nm,LH]at ab;generalize JX _=al at *;simp(disch:=(try simp only[hnP])<;>try omega) only[Je,QE,simprocAttr,aa]
  repeat' (first
   | (refine Qz (λh=>?_) (λh=>?_)<;>(try simp only[bne,Lr,Lu]at h)<;>simp(disch:=(try simp only[hnP])<;>try omega) only[QE,simprocAttr,aa,ab,d0,d1,t0,t1,Ws,h])
   | (refine Qg (λh=>?_) (λh=>?_)<;>(try simp only[bne,Lr,Lu]at h)<;>simp(disch:=(try simp only[hnP])<;>try omega) only[QE,simprocAttr,aa,ab,d0,d1,t0,t1,Ws,h])
   | (refine q.w ?_;rintro _ _ ag ai ⟨rfl,rfl⟩;simp(disch:=(try simp only[hnP])<;>try omega) only[QE,simprocAttr,aa,ab,d0,d1,t0,t1,Ws])
   | (refine aq.w ?_;rintro _ _ ag ai ⟨rfl,rfl⟩;simp(disch:=(try simp only[hnP])<;>try omega) only[QE,simprocAttr,Ws])
   | fail)
  all_goals (first
   | (refine .mk (Lb _) ⟨by simp,λ_=>rfl,by simp⟩)
   | (refine .mk (by simp only[QR];exact Lb _) ⟨rfl,λh=>h.elim,λ_=>⟨_,_,b,cap,rfl,rfl,rfl⟩⟩))
 have ae:JX l=false∧Qf7 op l=false:=by
  match l,ad with
  | [],_=>exact⟨rfl,rfl⟩
  | [_],_=>exact⟨rfl,rfl⟩
  | [x,y],h=>exact absurd ⟨x,y,rfl⟩ h
  | _::_::_::_,_=>exact⟨rfl,rfl⟩
 rw[ae.1]at q;rw[ae.2];simp(disch:=(try simp only[hnP])<;>try omega) only[Je,QE,simprocAttr,aa]
 repeat' (first
  | (refine Qz (λh=>?_) (λh=>?_)<;>(try simp only[bne,Lr,Lu]at h)<;>simp(disch:=(try simp only[hnP])<;>try omega) only[QE,simprocAttr,aa,Ws,h])
  | (refine Qg (λh=>?_) (λh=>?_)<;>(try simp only[bne,Lr,Lu]at h)<;>simp(disch:=(try simp only[hnP])<;>try omega) only[QE,simprocAttr,aa,Ws,h])
  | (refine q.w ?_;rintro _ _ ag ai ⟨rfl,rfl⟩;simp(disch:=(try simp only[hnP])<;>try omega) only[QE,simprocAttr,aa,Ws])
  | fail)
 all_goals exact .mk (Lb _) ⟨rfl,λ_=>rfl,by simp⟩
def Wi (ib:Int×Bool)(a:Ar):Ar×Int:=
 let b:=Wo a
 if(b.2==0)=false then(a,b.2)
 else if(b.1.k==3)=true then(let im:=W4 b.1.n ib.1 ib.2;({b.1 with n:=im.1},im.2))
 else(b.1,0)
def QS (ib:Int×Bool):List Ar->List Ar×Int
 | []=>([],0)
 | a::l=>if((Wi ib a).2==0)=true then((Wi ib a).1::(QS ib l).1,(QS ib l).2) else([],(Wi ib a).2)
def Q6 (op:Int)(l:List Ar):List Ar:=
 if QeQ op l=true then(match l with | [x,y]=>[x,x,y] | l=>l)
 else if Qc9 op l=true then l.reverse
 else if Qf7 op l=true then l.reverse
 else l
def QU (op:Int)(l:List Ar):Int×List Ar×Int:=
 if(QZ op l==0)=false then(0,[],QZ op l)
 else if((QS (Qy op l) l).2==0)=false then(0,[],(QS (Qy op l) l).2)
 else(op,Q6 op (QS (Qy op l) l).1,0)
def Qlq (ib:Int×Bool):∀ (l:List Ar) (i:Nat) (a:Ar),l[i]? = some a->QS ib (l.drop i)=if((Wi ib a).2==0)=true then((Wi ib a).1::(QS ib (l.drop (i+1))).1,(QS ib (l.drop (i+1))).2) else([],(Wi ib a).2)
 | [],i,a,h=>by simp at h
 | b::l,0,a,h=>by simp at h;subst h;rfl
 | b::l,i+1,a,h=>by simpa using Qlq ib l i a (by simpa using h)
def QAV (a:Ar)(h:I64 a.n):I64 (Wo a).1.n:=by
 have q:I64 0:=by unfold I64;omega
 unfold Wo WX;split
 ·split;·exact q
  split;·exact q
  exact h
 exact q
def Qx2 (c:List Value)(o:Nat)(l:List Value)(h:o+l.length<=c.length):(splice c o l).length=c.length:=by
 simp[splice];omega
def QrE (c:List Value)(o:Nat)(l:List Value)(h:o<=c.length)(j:Nat)(q:j<o):(splice c o l)[j]? = c[j]? := by
 unfold splice;rw[LY (by simp;omega),Nl,Lc q]
def QAW (c:List Value)(o:Nat)(v:Value)(h:o<c.length):(splice c o [v])[o]? = some v:=by
 unfold splice;rw[LR (by simp;omega)];simp[show min o c.length=o by omega]
def QiP (l m:List Ar):Ql (l++m)=Ql l++Ql m:=by simp[Ql]
def QrF (d:List Ar)(a b:Ar)(l:List Ar):splice (Ql (d++a::l)) (d.length * 11) b.cells=Ql (d++b::l):=by
 have q:=Wb d;unfold splice;rw[QiP,QiP,K4,K4,<- q,List.take_left,Wq];have:(Ql d++(a.cells++Ql l)).drop ((Ql d).length+11)=Ql l:=by
  rw[show(Ql d).length+11=(Ql d).length+a.cells.length by rw[Wq],<- Rc,List.drop_left,List.drop_left]
 rw[this]
def QK1 (f:Fn)(xs ys:Array Value):(Value.func f xs ys).cells.toList=[.func f xs ys]:=Nu rfl rfl
def QIh {P:Program}(f:FuncId)(l:List Value)(H:Qa)(k:Value->Qa->Prop):cvK (.func (.func f) #[] #[]) P l H k=Qe P f l H k:=by
 show Qe P f (([]:List Value)++l++[]) H k=_;rw[LH,Na]
def QnI (a:Ar):List.take 11 a.cells=a.cells:=rfl
def QjO (a:Ar):(a.cells.all λv=>v.oneCell')=true:=rfl
def QeR {op:Int}{l:List Ar}(h:(QZ op l==0)=true):l.length<=4:=by
 unfold QZ at h;split at h;·simp at h
 split at h;·simp at h
 omega
def QeS (op:Int)(l:List Ar)(H:Qa)(u:Value)(H':Qa):Prop:=
 Ext H H'∧∃q,u=.tuple #[.agg #[.Z (QU op l).1,q],.Z (QU op l).2.2]∧Wg H' q (QU op l).2.1∧∀a n c,q=.slice (some a) n c->H.y<=a.block∧a.block<H'.y
def Qtz {op:Int}{l:List Ar}{H H':Qa}(hx:Ext H H'){e:Int}(h:QU op l=(0,[],e)):QeS op l H (.tuple #[.agg #[.Z 0,.slice none 0 0],.Z e]) H':=by
 unfold QeS;rw[h];exact⟨hx,_,rfl,⟨none,0,rfl,λh=>absurd h (NX 0)⟩,λa n c h=>by cases h⟩
def QtA:PC:=(.seq (.ops [⟨some 105,.mv (t 7),none,false⟩,⟨some 106,.gen (.nilCheck (t 105)),none,false⟩,⟨some 107,.fldA 0 (t 106),none,false⟩,⟨some 108,.ld false 1 (t 107),none,false⟩,⟨some 109,.mv (t 7),none,false⟩,⟨some 110,.gen (.nilCheck (t 109)),none,false⟩,⟨some 111,.fldA 1 (t 110),none,false⟩,⟨some 112,.ld false 1 (t 111),none,false⟩,⟨some 113,.build [.Z 0,.slice none 0 0] [(0,1,(t 108)),(1,1,(t 112))],none,false⟩,⟨none,.st 2 (t 2) (t 113),none,false⟩,⟨some 3,.mv (.const (.Z 0)),none,false⟩]) .ret)
section
variable (op:Int) (l:List Ar) (H:Qa)
abbrev KC:Env->Qa->Prop:=Rt Pg Tryz.f10 H (QeS op l H)
def QCK (e:Nat->Env->Qa->Prop)(k:Env->Qa->Prop)(A:Env)(H':Qa)(D:Nat)(q:Value)(m:List Ar)(hx:Ext H H')(an:H.y+2<=D)
  (r2:A 2=.P (H.y+1)) (am:A 7=.P D) (ag:H'.get (H.y+1)=some (.C [.Z 0,.slice none 0 0] 26))
  (ae:H'.get D=some (.C [.Z op,q] 66)) (aj:Wg H' q m) (ab:∀a n c,q=.slice (some a) n c->H.y+2<=a.block∧a.block<H'.y) (ac:QU op l=(op,m,0)):
  Qm Pg QtA
   ⟨KC op l H,e⟩ k A H':=by
 obtain⟨aa,cap,rfl,ah⟩:=aj;simp only[QtA,Qb,simprocAttr,r2,am,ag,ae,GB];have ad:Ext H (H'.set (H.y+1) (.C [.Z op,.slice aa m.length cap] 26)):=hx.set (by omega) _;refine .mk ad.y ⟨ad,_,by rw[ac],?_,λa n c h=>by have:=ab a n c h;rw[QR];omega⟩;rw[ac];refine⟨aa,cap,rfl,λak=>?_⟩;obtain⟨b,e',ro,rfl,ai⟩:=ah ak;have:=ab _ _ _ rfl;simp only at this;exact⟨b,e',ro,rfl,by rw[Qj,Le (by omega)];exact ai⟩
def Qx3 {m:List Ar}(q:QeQ op m=false)(aa:Qc9 op m=false)(ab:Qf7 op m=false):Q6 op m=m:=by simp[Q6,q,aa,ab]
def QAX (e:Nat->Env->Qa->Prop)(k:Env->Qa->Prop)(A:Env)(H':Qa)(D:Nat)(q:Value)(m:List Ar)(hx:Ext H H')(ap:H'.Wf)(aU:H.y+2<=D)
  (r2:A 2=.P (H.y+1)) (bo:A 7=.P D) (aJ:H'.get (H.y+1)=some (.C [.Z 0,.slice none 0 0] 26))
  (aH:H'.get D=some (.C [.Z op,q] 66)) (ba:Wg H' q m) (aA:m.length<=1000) (an:∀a n c,q=.slice (some a) n c->H.y+2<=a.block∧¬a.block=D∧a.block<H'.y)
  (bg:∀x y,m=[x,y]->∃b cap,q=.S b 2 cap∧H'.get b=some (.C (Ql m) 50)) (av:QU op l=(op,Q6 op m,0)):
  Qm Pg KA ⟨KC op l H,e⟩ k A H':=by
 have tail:=λA2 H2 ax aE aC a b c d f g h=>QCK op l H e k A2 H2 D ax aE aC aU a b c d f g h;have aV:=ap.lt aH;have bq:=hx.y;have aW:=ap.lt aJ;obtain⟨aP,aS⟩:∃aP,KA=.seq (.seq (.ops [⟨some 95,.bslice aP 1 3 [.nilFunc,.nilFunc,.nilFunc] [(0,(.func 27)),(1,(.func 28)),(2,(.func 29))],none,false⟩,⟨some 96,.lenS (t 95),none,false⟩,⟨some 97,.mv (.const (.Z 0)),none,false⟩]) (.block 4 (.loop V7))) QtA:=⟨_,rfl⟩;rw[aS,QaQ];generalize aX:Qm Pg QtA ⟨KC op l H,e⟩ k=T;have aG:=λA2 H2 ax aE aC a b c d f g h=>(by rw[<- aX];exact tail A2 H2 ax aE aC a b c d f g h:T A2 H2);simp(disch:=(try simp only[hnP])<;>try omega) only[QE,simprocAttr,QK1,Nat.reduceLeDiff]
 generalize aY:Blk.cells [.func (.func 27) #[] #[],.func (.func 28) #[] #[],.func (.func 29) #[] #[]] _ false=bl;have ac:Ext H' (H'.push bl):=(Ext.refl _).push _;have aI:(H'.push bl).get H'.y=some bl:=by rw[Qc,Lc rfl]
 have bh:=ap.push bl;have bd:(H'.push bl).y=H'.y+1:=rfl;generalize bp:H'.push bl=Hp at ac aI bh bd;subst aY;have aD:=hx.trans ac;have ai:Hp.get D=some (.C [.Z op,q] 66):=by rw[ac.get _ aV];exact aH
 have az:Hp.get (H.y+1)=some (.C [.Z 0,.slice none 0 0] 26):=by rw[ac.get _ aW];exact aJ
 have au:Wg Hp q m:=ba.ext ap ac;have aB:∀x y,m=[x,y]->∃b cap,q=.S b 2 cap∧Hp.get b=some (.C (Ql m) 50):=λx y h=>by
  obtain⟨b,cap,aT,ab⟩:=bg x y h;exact⟨b,cap,aT,by rw[ac.get _ (ap.lt ab)];exact ab⟩
 have bj:=QAU D op q m Hp ai au aA aB;have bm:=QCI D op q m Hp ai au aA aB;have bn:=QCJ D op q m Hp ai au aA aB;have aL:∀x y,m=[x,y]->∀b cap,q=.S b 2 cap->QU op l=(op,[y,x],0)->∀A2,A2 2=.P (H.y+1)->A2 7=.P D->T A2 ((Hp.set b (.C (Ql [y,y]) 50)).set b (.C (Ql [y,x]) 50)):=by
  intro x y ad b cap ag bc A2 a2 a7;have aZ:=an _ _ _ ag;simp only at aZ;refine aG A2 _ q [y,x] ((aD.set (by omega) _).set (by omega) _) a2 a7 ?_ ?_ ⟨some ⟨b,0,none⟩,cap,by rw[ag];rfl,λ_=>⟨b,_,_,rfl,by rw[Qj,Lc rfl]⟩⟩ (λa n c h=>⟨(an a n c h).1,by have:=(an a n c h).2.2;have:=ac.y;simp only[QR];omega⟩) bc;·rw[Qj,Le (by omega),Qj,Le (by omega)];exact az
  rw[Qj,Le (by omega),Qj,Le (by omega)];exact ai
 refine Qu (λaN A2 H2=>∃i:Nat,i<=3∧aN=3 - i∧H2=Hp∧A2 2=.P (H.y+1)∧A2 7=.P D∧A2 95=.S H'.y 3 3∧A2 96=.Z ((3:Nat):Int)∧A2 97=.Z i∧(0<i->QeQ op m=false)∧(1<i->Qc9 op m=false)∧(2<i->Qf7 op m=false)) 3 ?_ ?_
 ·refine⟨0,L7 _,by omega,rfl,?_,?_,?_,?_,?_,λh=>by omega,λh=>by omega,λh=>by omega⟩
  all_goals simp only[Qd,simprocAttr,r2,bo]
  all_goals rfl
 rintro aN A2 H2 ⟨i,hi,rfl,rfl,a2,a7,aq,ar,ah,aF,aO,bi⟩;simp only[V7,Qfz,sxA,sxB,Nat.reduceBEq,Nat.reduceEqDiff,reduceCtorEq,mxA,mxB,Nat.reduceAdd,reduceIte,Nat.reduceLeDiff,splice,ar,ah];refine Qg (λab=>?_) (λab=>?_)
 ·have ab:i<3:=by have:=Lg ab;omega
  have aQ:(0:Int)<=i∧(i:Int)<((3:Nat):Int):=by omega
  have aR:(i:Int).toNat=i:=by omega
  have ay:IntKind.i64.wrap ((i:Int)+1)=((i+1:Nat):Int):=by rw[w64 (by unfold I64;omega)];omega
  simp only[sxA,sxB,Nat.reduceBEq,Nat.reduceEqDiff,reduceCtorEq,mxA,mxB,Nat.reduceAdd,reduceIte,Nat.reduceLeDiff,splice,a7,aq,ah,aQ,aR,aI];obtain rfl | rfl | rfl:i=0∨i=1∨i=2:=by omega
  ·simp only[sxA,sxB,Nat.reduceBEq,Nat.reduceEqDiff,reduceCtorEq,mxA,mxB,Nat.reduceAdd,reduceIte,Nat.reduceLeDiff,splice,QIh];refine bj.w ?_;rintro _ H3 aK aM ⟨rfl,aj,am⟩;simp only[sxA,sxB,Nat.reduceBEq,Nat.reduceEqDiff,reduceCtorEq,mxA,mxB,Nat.reduceAdd,reduceIte,Nat.reduceLeDiff,splice];cases aa:QeQ op m with
   | false=>
    rw[aj aa];simp only[sxA,sxB,Nat.reduceBEq,Nat.reduceEqDiff,reduceCtorEq,mxA,mxB,Nat.reduceAdd,reduceIte,Nat.reduceLeDiff,splice,ah,ay];refine⟨2,by omega,1,by omega,rfl,rfl,?_,?_,?_,?_,?_,λ_=>(by first | exact aa | trivial),λh=>by omega,λh=>by omega⟩
    all_goals simp only[Qd,simprocAttr,a2,a7,aq,ar]
   | true=>
    obtain⟨x,y,ad,ak⟩:=am aa;have ao:Q6 op m=[x,x,y]:=by unfold Q6;rw[Lc aa,ad]
    simp only[Qb,simprocAttr];rw[ak];refine aG _ _ (.S H2.y 3 3) [x,x,y] ((aD.push _).set (by omega) _) (by first | exact a2 | simp only[Qd,simprocAttr,a2]) (by first | exact a7 | simp only[Qd,simprocAttr,a7]) ?_ ?_ ⟨_,_,rfl,λ_=>⟨H2.y,_,_,rfl,by rw[Qj,Le (by omega),Qc,Lc rfl]⟩⟩ (λa n c h=>by cases h;simp only[QR,Qf];omega) (by rw[av,ao]);·rw[Qj,Le (by omega),Qc,Le (by omega)];exact az
    rw[Qj,Lc rfl]
  ·have aa:=aF (by omega);simp only[sxA,sxB,Nat.reduceBEq,Nat.reduceEqDiff,reduceCtorEq,mxA,mxB,Nat.reduceAdd,reduceIte,Nat.reduceLeDiff,splice,QIh];refine bm.w ?_;rintro _ H3 aK aM ⟨rfl,aj,am⟩;simp only[sxA,sxB,Nat.reduceBEq,Nat.reduceEqDiff,reduceCtorEq,mxA,mxB,Nat.reduceAdd,reduceIte,Nat.reduceLeDiff,splice];cases ae:Qc9 op m with
   | false=>
    rw[aj ae];simp only[sxA,sxB,Nat.reduceBEq,Nat.reduceEqDiff,reduceCtorEq,mxA,mxB,Nat.reduceAdd,reduceIte,Nat.reduceLeDiff,splice,ah,ay];refine⟨1,by omega,2,by omega,rfl,rfl,?_,?_,?_,?_,?_,λ_=>(by first | exact aa | trivial),λ_=>(by first | exact ae | trivial),λh=>by omega⟩
    all_goals simp only[Qd,simprocAttr,a2,a7,aq,ar]
   | true=>
    obtain⟨x,y,b,cap,ad,ag,ak⟩:=am ae;have ao:Q6 op m=[y,x]:=by simp only[Q6,aa,ae];rw[ad];rfl
    simp only[Qb,simprocAttr];rw[ak];exact aL x y ad b cap ag (by rw[av,ao]) _ (by first | exact a2 | simp only[Qd,simprocAttr,a2]) (by first | exact a7 | simp only[Qd,simprocAttr,a7])
  have aa:=aF (by omega);have ae:=aO (by omega);simp only[sxA,sxB,Nat.reduceBEq,Nat.reduceEqDiff,reduceCtorEq,mxA,mxB,Nat.reduceAdd,reduceIte,Nat.reduceLeDiff,splice,QIh];refine bn.w ?_;rintro _ H3 aK aM ⟨rfl,aj,am⟩;simp only[sxA,sxB,Nat.reduceBEq,Nat.reduceEqDiff,reduceCtorEq,mxA,mxB,Nat.reduceAdd,reduceIte,Nat.reduceLeDiff,splice];cases aw:Qf7 op m with
  | false=>
   rw[aj aw];simp only[sxA,sxB,Nat.reduceBEq,Nat.reduceEqDiff,reduceCtorEq,mxA,mxB,Nat.reduceAdd,reduceIte,Nat.reduceLeDiff,splice,ah,ay];refine⟨0,by omega,3,by omega,rfl,rfl,?_,?_,?_,?_,?_,λ_=>(by first | exact aa | trivial),λ_=>(by first | exact ae | trivial),λ_=>(by first | exact aw | trivial)⟩
   all_goals simp only[Qd,simprocAttr,a2,a7,aq,ar]
  | true=>
   obtain⟨x,y,b,cap,ad,ag,ak⟩:=am aw;have ao:Q6 op m=[y,x]:=by simp only[Q6,aa,ae,aw];rw[ad];rfl
   simp only[Qb,simprocAttr];rw[ak];exact aL x y ad b cap ag (by rw[av,ao]) _ (by first | exact a2 | simp only[Qd,simprocAttr,a2]) (by first | exact a7 | simp only[Qd,simprocAttr,a7])
 have ab:i=3:=by have:=Ll ab;omega
 subst ab;simp only[Qb,simprocAttr];exact aG _ _ q m aD (by first | exact a2 | simp only[Qd,simprocAttr,a2]) (by first | exact a7 | simp only[Qd,simprocAttr,a7]) az ai au (λa n c h=>⟨(an a n c h).1,by have:=(an a n c h).2.2;have:=ac.y;omega⟩) (by rw[av,Qx3 op (aF (by omega)) (aO (by omega)) (bi (by omega))])
def QCL (b:Ar)(x:Int):splice b.cells 10 [.Z x]=({b with n:=x}:Ar).cells:=by simp[splice,Ar.cells]
def QvL (ib:Int×Bool):QS ib []=([],0):=rfl
def QCM (e:Nat->Env->Qa->Prop)(k:Env->Qa->Prop)(A:Env)(H':Qa)(D V ac cap:Nat)(ae:Option Addr)(ai:List Value)(am:TypeId)(hx:Ext H H')(bO:H'.Wf)(bE:H.y+2<=D)(ch:H.y+2<=V)(cg:¬D=V)
  (r2:A 2=.P (H.y+1)) (bq:A 5=.Z (Qy op l).1) (br:A 6=.bool (Qy op l).2) (cb:A 7=.P D) (r8:A 8=.S V l.length l.length)
  (ax:H'.get (H.y+1)=some (.C [.Z 0,.slice none 0 0] 26))
  (an:H'.get D=some (.C [.Z op,.slice ae l.length cap] 66)) (gV:H'.get V=some (.C ai am)) (co:ai.length=l.length) (bN:∀j,j<l.length->ai[j]? = some (.pointer (some ⟨ac,j * 11,none⟩)))
  (aD:0<l.length->ae=some ⟨ac,0,none⟩∧H.y+2<=ac∧¬ac=D∧¬ac=V∧H'.get ac=some (.C (Ql l) 50)) (bI:∀a,ae=some a->H.y+2<=a.block∧¬a.block=D∧a.block<D)
  (aP:(QZ op l==0)=true) (bF:∀a∈l,I64 a.n):Qm Pg Jw ⟨KC op l H,e⟩ k A H':=by
 have cm:=QeR aP;have b8:Jw=.seq (.seq (.ops [⟨some 58,.mv (t 8),none,false⟩,⟨some 59,.lenS (t 58),none,false⟩,⟨some 60,.mv (.const (.Z 0)),none,false⟩]) (.block 2 (.loop Vh))) KB:=rfl;rw[b8,QaQ];have b9:KB=.seq (.label 0) KA:=rfl;generalize bG:Qm Pg KB ⟨KC op l H,e⟩ k=T;generalize bg:Qy op l=ib at *;obtain⟨q,aa⟩:=ib;simp only at bq br;have bJ:∀m,QS (q,aa) l=(m,0)->QU op l=(op,Q6 op m,0):=λm h=>by
  unfold QU;rw[bg,h,aP];rfl
 have bh:∀m x,QS (q,aa) l=(m,x)->(x==0)=false->QU op l=(0,[],x):=λm x h hx=>by
  unfold QU;rw[bg,h,aP];simp[hx]
 simp only[Qb,simprocAttr,r8];refine Qu (λaF A2 H2=>∃ (i:Nat) (ab:List Ar),i<=l.length∧aF=l.length - i∧ab.length=i∧QS (q,aa) l=(ab++(QS (q,aa) (l.drop i)).1,(QS (q,aa) (l.drop i)).2)∧Ext H H2∧H2.Wf∧
  A2 2=.P (H.y+1)∧A2 5=.Z q∧A2 6=.bool aa∧A2 7=.P D∧A2 58=.S V l.length l.length∧A2 59=.Z (l.length:Int)∧A2 60=.Z i∧
  H2.get (H.y+1)=some (.C [.Z 0,.slice none 0 0] 26)∧H2.get D=some (.C [.Z op,.slice ae l.length cap] 66)∧H2.get V=some (.C ai am)∧(0<l.length->H2.get ac=some (.C (Ql (ab++l.drop i)) 50))) l.length ?_ ?_
 ·refine⟨0,[],L7 _,by omega,rfl,rfl,hx,bO,?_,?_,?_,?_,?_,?_,?_,ax,an,gV,λh=>(aD h).2.2.2.2⟩
  all_goals simp only[Qd,simprocAttr,r2,bq,br,cb]
  all_goals rfl
 rintro aF A2 H2 ⟨i,ab,hi,rfl,aj,aq,bn,bm,a2,a5,a6,a7,aI,aJ,av,ax,an,gV,ag⟩;simp only[Vh,Qb,simprocAttr,aJ,av];refine Qg (λad=>?_) (λad=>?_)
 ·have ad:i<l.length:=by have:=Lg ad;omega
  obtain⟨aB,cl,ci,cj,_⟩:=aD (by omega);have ag:=ag (by omega);have bz:(0:Int)<=i∧(i:Int)<l.length:=by omega
  have b7:(i:Int).toNat=i:=by omega
  have aX:IntKind.i64.wrap ((i:Int)+1)=((i+1:Nat):Int):=by rw[w64 (by unfold I64;omega)];omega
  have bM:=bN i ad;have bj:=La ad;have bd:l.drop i=l[i]::l.drop (i+1):=Nh ad;have aA:=Qlq (q,aa) l i _ bj;have bc:=bF _ (Nb ad);generalize l[i]=a at bj bd aA bc;rw[bd]at ag;have aE:=Wb (ab++a::l.drop (i+1));have bK:(ab++a::l.drop (i+1)).length=l.length:=by simp;omega
  rw[bK]at aE;have aK:i * 11+11<=l.length * 11:=by omega
  have d1:=XU (ab++a::l.drop (i+1)) i a (by rw[LR (by omega),aj,BJ];rfl);simp only[QdO,Qb,simprocAttr,aI,av,bz,b7,gV,bM,ag,aE,aK,d1];refine(Qog a H2).w ?_;rintro _ _ bi ak ⟨rfl,k3,rfl⟩;simp only[Q8]at bi;have aQ:=QAV a bc;have ap:Wi (q,aa) a=if((Wo a).2==0)=false then(a,(Wo a).2) else if((Wo a).1.k==3)=true then({(Wo a).1 with n:=(W4 (Wo a).1.n q aa).1},(W4 (Wo a).1.n q aa).2) else((Wo a).1,0):=rfl
  generalize Wo a=bb at aQ ap;obtain⟨b,bx⟩:=bb;simp only at aQ ap;have aV:=bn.up bi;have aN:(H2.up k3).get (H.y+1)=some (.C [.Z 0,.slice none 0 0] 26):=by rw[XB];exact ax
  have aM:(H2.up k3).get D=some (.C [.Z op,.slice ae l.length cap] 66):=by rw[XB];exact an
  have aO:(H2.up k3).get V=some (.C ai am):=by rw[XB];exact gV
  have aL:(H2.up k3).get ac=some (.C (Ql (ab++a::l.drop (i+1))) 50):=by rw[XB];exact ag
  generalize H2.up k3=H3 at ak aV aN aM aO aL;simp only[Qb,simprocAttr,Wq,QjO];obtain⟨H4,az⟩:∃h,h=(H3.push (.C [.Z 0,.Z 0,.Z 0,.Z 0,.Z 0,.Z 0,.Z 0,.Z 0,.Z 0,.Z 0,.Z 0] 50)).set H3.y (.C b.cells 50):=⟨_,rfl⟩;have aT:H4.Wf:=by rw[az];exact(ak.push _).set (by rw[Qc,Lc rfl]) _
  have ar:Ext H3 H4:=by rw[az];exact((Ext.refl H3).push _).set (Lb _) _
  have gB:H4.get H3.y=some (.C b.cells 50):=by rw[az,Qj,Lc rfl]
  have lR:=ak.lt aN;have bR:=ak.lt aM;have bS:=ak.lt aO;have lC:=ak.lt aL;have ay:=(ar.get _ lR).trans aN;have aZ:=(ar.get _ bR).trans aM;have ba:=(ar.get _ bS).trans aO;have aw:=(ar.get _ lC).trans aL;have aU:=aV.trans ar;have b0:b.cells[0]? = some (.Z b.k):=rfl;have bw:b.cells[10]? = some (.Z b.n):=rfl;simp only[<- az,Qb,simprocAttr];cases aH:bx==0 with
  | false=>
   have ah:Ext H (H4.set (H.y+1) (.C [.Z 0,.slice none 0 0] 26)):=aU.set (by omega) _;simp only[Qb,simprocAttr,a2,ay,GB];refine .mk ah.y (Qtz ah (bh _ _ aq ?_ |>.trans ?_))
   all_goals (rw[aA,ap,aH];simp[aH])
  | true=>
   simp only[QfB,Qb,simprocAttr,gB,b0];have aS:=λb2:Ar=>QrF ab a b2 (l.drop (i+1));simp only[splice,aj,Wq]at aS;have aY:∀ (b2:Ar) (H5:Qa) (A3:Env),Wi (q,aa) a=(b2,0)->Ext H H5->H5.Wf->H5.get (H.y+1)=some (.C [.Z 0,.slice none 0 0] 26)->H5.get D=some (.C [.Z op,.slice ae l.length cap] 66)->H5.get V=some (.C ai am)->H5.get ac=some (.C (Ql (ab++a::l.drop (i+1))) 50)->
     A3 2=.P (H.y+1)->A3 5=.Z q->A3 6=.bool aa->A3 7=.P D->A3 58=.S V l.length l.length->A3 59=.Z (l.length:Int)->A3 60=.Z ((i+1:Nat):Int)->
     Qvj (λaF A2 H2=>∃ (i:Nat) (ab:List Ar),i<=l.length∧aF=l.length - i∧ab.length=i∧QS (q,aa) l=(ab++(QS (q,aa) (l.drop i)).1,(QS (q,aa) (l.drop i)).2)∧Ext H H2∧H2.Wf∧
 A2 2=.P (H.y+1)∧A2 5=.Z q∧A2 6=.bool aa∧A2 7=.P D∧A2 58=.S V l.length l.length∧A2 59=.Z (l.length:Int)∧A2 60=.Z i∧
 H2.get (H.y+1)=some (.C [.Z 0,.slice none 0 0] 26)∧H2.get D=some (.C [.Z op,.slice ae l.length cap] 66)∧H2.get V=some (.C ai am)∧(0<l.length->H2.get ac=some (.C (Ql (ab++l.drop i)) 50))) (l.length - i) A3 (H5.set ac (.C (Ql (ab++b2::l.drop (i+1))) 50)):=by
    intro b2 H5 A3 bH ah bP bC bB bD bA bU bV bY ca bW bX bZ;refine⟨l.length - (i+1),by omega,i+1,ab++[b2],by omega,rfl,by simp[aj],?_,ah.set (by omega) _,bP.set bA _,bU,bV,bY,ca,bW,bX,bZ,?_,?_,?_,λ_=>?_⟩;·rw[aq,aA,bH];simp
    ·rw[Qj,Le (by omega)];exact bC
    ·rw[Qj,Le (by omega)];exact bB
    ·rw[Qj,Le (by omega)];exact bD
    rw[Qj,Lc rfl,LQ];rfl
   cases bp:b.k==3 with
   | false=>
    have aR:Wi (q,aa) a=(b,0):=by rw[ap,aH,bp];rfl
    simp only[Qb,simprocAttr,gB,aw,aE,aK,Wq,QnI,QjO,aS,av,aX];refine aY b H4 _ aR aU aT ay aZ ba aw ?_ ?_ ?_ ?_ ?_ ?_ ?_
    all_goals simp only[Qd,simprocAttr,a2,a5,a6,a7,aI,aJ]
   | true=>
    have aC:Wi (q,aa) a=({b with n:=(W4 b.n q aa).1},(W4 b.n q aa).2):=by rw[ap,aH,bp];rfl
    simp only[QfA,Qb,simprocAttr,gB,bw,a5,a6];refine(Vz b.n q aa aQ H4).w ?_;rintro _ H4 _ aT ⟨rfl,rfl⟩;generalize W4 b.n q aa=im at aC;obtain⟨au,bQ⟩:=im;simp only at aC;have bL:=QCL b au;simp only[splice,Nat.reduceAdd,Lo,L9]at bL;have cf:∀bl,(H4.set H3.y bl).get H3.y=some bl:=λbl=>by rw[Qj,Lc rfl]
    have ce:∀bl,(H4.set H3.y bl).Wf:=λbl=>aT.set gB bl;have bu:∀bl,Ext H (H4.set H3.y bl):=λbl=>aU.set (by have:=aV.y;omega) bl;have aG:∀bl id,¬id=H3.y->(H4.set H3.y bl).get id=H4.get id:=λbl id h=>by rw[Qj,Le h]
    have cc:(b.cells.take 10++(Value.Z au::b.cells.drop 11))=({b with n:=au}:Ar).cells:=by simp[Ar.cells]
    have bo:¬H.y+1=H3.y:=by omega
    have nD:¬D=H3.y:=by omega
    have bT:¬V=H3.y:=by omega
    have nC:¬ac=H3.y:=by omega
    simp only[Qb,simprocAttr,gB,Wq,cc];cases aW:bQ==0 with
    | false=>
     have ah:∀bl,Ext H ((H4.set H3.y bl).set (H.y+1) (.C [.Z 0,.slice none 0 0] 26)):=λbl=>(bu bl).set (by omega) _;simp only[Qb,simprocAttr,a2,bo,ay,GB];refine .mk (ah _).y (Qtz (ah _) (bh _ _ aq ?_ |>.trans ?_))
     all_goals (rw[aA,aC];simp[aW])
    | true=>
     have aR:Wi (q,aa) a=({b with n:=au},0):=by rw[aC];simp at aW;rw[aW]
     simp only[Qb,simprocAttr,nC,aw,aE,aK,Wq,QnI,QjO,aS,av,aX];refine aY {b with n:=au} (H4.set H3.y _) _ aR (bu _) (ce _) ((aG _ _ bo).trans ay) ((aG _ _ nD).trans aZ) ((aG _ _ bT).trans ba) ((aG _ _ nC).trans aw) ?_ ?_ ?_ ?_ ?_ ?_ ?_
     all_goals simp only[Qd,simprocAttr,a2,a5,a6,a7,aI,aJ]
 have ad:i=l.length:=by have:=Ll ad;omega
 subst ad;simp only[Qb,simprocAttr];rw[<- bG,b9,QaQ,Qno];rw[BU,QvL,Na]at aq;refine QAX op l H e k _ H2 D _ ab bn bm bE (by simp only[Qd,simprocAttr,a2]) (by simp only[Qd,simprocAttr,a7]) ax an ⟨ae,cap,by rw[aj],λh=>?_⟩ (by omega) (λa n c h=>by cases h;have:=bI _ rfl;have:=bm.lt an;omega) (λx y h=>?_) (bJ _ aq)
 ·have ao:0<l.length:=by omega
  obtain⟨aB,_⟩:=aD ao;have:=ag ao;rw[BU,Na]at this;exact⟨ac,_,_,aB,this⟩
 have ao:0<l.length:=by rw[<- aj,h];simp
 obtain⟨aB,_⟩:=aD ao;have:=ag ao;rw[BU,Na]at this;exact⟨ac,cap,by rw[aB,<- aj,h];rfl,this⟩
def QAY (z:Array Value)(m:Nat):(XV z m).length=m:=by simp[XV]
def QeT (v:Value)(ah:Wg H v l)(ar:l.length<=1000)(aF:∀a∈l,I64 a.n):Qe Pg 10 [.agg #[.Z op,v]] H (QeS op l H):=by
 refine Qrs λai=>?_;obtain⟨a0,c0,rfl,_⟩:=id ah;have aP:Ext H ((H.push (.C [.Z op,.slice a0 l.length c0] 26)).push (.C [.Z 0,.slice none 0 0] 26)):=((Ext.refl H).push _).push _;have b7:¬H.y=H.y+1:=by omega
 have az:((H.push (.C [.Z op,.slice a0 l.length c0] 26)).push (.C [.Z 0,.slice none 0 0] 26)).get H.y=some (.C [.Z op,.slice a0 l.length c0] 26):=by rw[Qc,Qf,Le b7,Qc,Lc rfl]
 have ba:((H.push (.C [.Z op,.slice a0 l.length c0] 26)).push (.C [.Z 0,.slice none 0 0] 26)).get (H.y+1)=some (.C [.Z 0,.slice none 0 0] 26):=by rw[Qc,Qf,Lc rfl]
 have bG:=(ai.push (.C [.Z op,.slice a0 l.length c0] 26)).push (.C [.Z 0,.slice none 0 0] 26);have bD:((H.push (.C [.Z op,.slice a0 l.length c0] 26)).push (.C [.Z 0,.slice none 0 0] 26)).y=H.y+2:=by simp only[Qf]
 simp only[QiG,Qb,simprocAttr];refine Qnp (λ_ _ _=>False) 0 ?_ (λ_ _ _ h=>h.elim);generalize (H.push (.C [.Z op,.slice a0 l.length c0] 26)).push (.C [.Z 0,.slice none 0 0] 26)=H0 at *;generalize jmK 0 _ 0 _=e;simp only[QdS,Qb,simprocAttr,az];refine(QeP op _ l H0 (ah.ext ai aP) ar aF).w ?_;rintro _ _ aJ bH ⟨rfl,k1,rfl⟩;simp only[Q8]at aJ;have au:=aP.up aJ;have aA:(H0.up k1).get H.y=some (.C [.Z op,.slice a0 l.length c0] 26):=by rw[XB];exact az
 have aB:(H0.up k1).get (H.y+1)=some (.C [.Z 0,.slice none 0 0] 26):=by rw[XB];exact ba
 have bB:H.y+2<=(H0.up k1).y:=by simp only[Q8];omega
 generalize H0.up k1=H1 at *;simp only[Qb,simprocAttr];cases ap:QZ op l==0 with
 | false=>
  have ae:Ext H (H1.set (H.y+1) (.C [.Z 0,.slice none 0 0] 26)):=au.set (by omega) _;simp only[Qb,simprocAttr,aB,GB];exact .mk ae.y (Qtz ae (by unfold QU;rw[Lc ap]))
 | true=>
  have bA:=QeR ap;simp only[QdR,Qb,simprocAttr,aA];refine(QcQ op _ l H1 (ah.ext ai au) ar).w ?_;rintro _ _ aK br ⟨rfl,k2,rfl⟩;simp only[Q8]at aK;have ae:=au.up aK;have aZ:(H1.up k2).get H.y=some (.C [.Z op,.slice a0 l.length c0] 26):=by rw[XB];exact aA
  have aC:(H1.up k2).get (H.y+1)=some (.C [.Z 0,.slice none 0 0] 26):=by rw[XB];exact aB
  have bC:H.y+2<=(H1.up k2).y:=by simp only[Q8];omega
  generalize H1.up k2=H2 at *;simp only[Qb,simprocAttr,aZ];refine⟨rfl,(Qzg _ l H2 (ah.ext ai ae) ar).w ?_⟩;rintro u H3 bE aj ⟨ak,bn⟩
  -- what the clone is
  obtain⟨aa,cap,q,rfl,ac⟩:∃aa cap q,u=.slice aa l.length cap∧((0<l.length->aa=some ⟨q,0,none⟩∧H2.y<=q∧H3.get q=some (.C (Ql l) 50))∧(∀a,aa=some a->H2.y<=a.block∧a.block<H3.y)):=by
   rcases bn with⟨rfl,rfl | ⟨rfl,rfl⟩⟩ | ⟨bF,rfl,rfl⟩;·exact⟨none,0,0,rfl,λh=>absurd h (NX 0),λa h=>by cases h⟩
   ·exact⟨_,0,0,rfl,λh=>absurd h (NX 0),λa h=>by cases h;simp only[Qf];omega⟩
   refine⟨_,_,H2.y+1,rfl,λ_=>⟨rfl,by omega,by rw[Qc,Lc (by simp only[Qf])]⟩,λa h=>by cases h;simp only[Qf];omega⟩
  obtain⟨ac,bm⟩:=ac;have aD:=(ak.get _ (br.lt aC)).trans aC;have bw:=ae.trans ak;have bI:=ak.y;have b9:Qp H2.y 6 (.Z op)=true:=rfl;simp only[Qb,simprocAttr];refine⟨ak.eqB,?_⟩;refine⟨⟨by omega,by omega,by omega,by omega⟩,?_⟩;generalize bg:Qm Pg Jw ⟨Rt Pg Tryz.f10 H (QeS op l H),e⟩ (Rt Pg Tryz.f10 H (QeS op l H))=T;generalize aR:XV _ _=zs;have bz:zs.length=l.length:=by rw[<- aR,QAY];omega
  have bo:((l.length:Int)).toNat=l.length:=by omega
  simp only[bo];generalize ad:(H3.push (.C [.Z op,.slice aa l.length cap] 66)).push (.C zs _)=H4;have b8:¬H3.y=H3.y+1:=by omega
  have av:Ext H3 H4:=by rw[<- ad];exact((Ext.refl H3).push _).push _
  have bu:H4.Wf:=by rw[<- ad];exact(aj.push _).push _
  have aY:H4.get H3.y=some (.C [.Z op,.slice aa l.length cap] 66):=by rw[<- ad,Qc,Qf,Le b8,Qc,Lc rfl]
  obtain⟨ag,bd⟩:∃ag,H4.get (H3.y+1)=some (.C zs ag):=⟨_,by rw[<- ad,Qc,Qf,Lc rfl]⟩;have bc:=(av.get _ (aj.lt aD)).trans aD;have aX:0<l.length->H4.get q=some (.C (Ql l) 50):=λh=>(av.get _ (aj.lt (ac h).2.2)).trans (ac h).2.2;have aG:0<l.length->q<H3.y:=λh=>aj.lt (ac h).2.2;have bx:=bw.trans av;clear ad aR;refine Qu (λaS A2 H5=>∃ (i:Nat) (cs:List Value),i<=l.length∧aS=l.length - i∧cs.length=l.length∧(∀j,j<i->cs[j]? = some (.pointer (some ⟨q,j * 11,none⟩)))∧Ext H H5∧H5.Wf∧
   A2 2=.P (H.y+1)∧A2 5=.Z (Qy op l).1∧A2 6=.bool (Qy op l).2∧A2 7=.P H3.y∧A2 8=.S (H3.y+1) l.length l.length∧A2 44=.Z (l.length:Int)∧A2 45=.Z i∧
   H5.get (H.y+1)=some (.C [.Z 0,.slice none 0 0] 26)∧H5.get H3.y=some (.C [.Z op,.slice aa l.length cap] 66)∧H5.get (H3.y+1)=some (.C cs ag)∧(0<l.length->H5.get q=some (.C (Ql l) 50))) l.length ?_ ?_
  ·refine⟨0,zs,L7 _,by omega,bz,λj h=>by omega,bx,bu,?_,?_,?_,?_,?_,?_,?_,bc,aY,bd,aX⟩
   all_goals simp only[Qd,simprocAttr]
   all_goals rfl
  rintro aS A2 H5 ⟨i,cs,hi,rfl,aq,aH,aQ,aO,a2,a5,a6,a7,a8,aw,ax,aE,am,an,ay⟩;simp only[QdQ,Qb,simprocAttr,aw,ax];refine Qg (λab=>?_) (λab=>?_)
  ·have ab:i<l.length:=by have:=Lg ab;omega
   obtain⟨ao,bh,bi⟩:=ac (by omega);have bj:=aG (by omega);have aT:(0:Int)<=i∧(i:Int)<l.length:=by omega
   have aU:(i:Int).toNat=i:=by omega
   have aV:i+1<=l.length:=ab;have aW:IntKind.i64.wrap ((i:Int)+1)=((i+1:Nat):Int):=by rw[w64 (by unfold I64;omega)];omega
   subst ao;have bq:(Value.pointer (some ⟨q,i * 11,none⟩)).cells.toList=[.pointer (some ⟨q,i * 11,none⟩)]:=rfl;have bp:(Value.pointer (some ⟨q,i * 11,none⟩)).oneCell'=true:=rfl;have aN:=Qx2 cs i [.pointer (some ⟨q,i * 11,none⟩)] (by simp;omega);have aL:=QAW cs i (.pointer (some ⟨q,i * 11,none⟩)) (by omega);have aM:=λj (aI:j<i)=>QrE cs i [.pointer (some ⟨q,i * 11,none⟩)] (by omega) j aI;simp only[splice,Lo,L9,LP,Nm,LH]at aN aL aM;simp only[QdP,Qb,simprocAttr,a7,a8,ax,aT,aU,aV,am,an,aq,bq,bp,aW];refine⟨l.length - (i+1),by omega,i+1,_,by omega,rfl,aN.trans aq,λj aI=>?_,aQ.set (by omega) _,aO.set an _,?_,?_,?_,?_,?_,?_,?_,?_,?_,by rw[Qj,Lc rfl],λh=>?_⟩
   ·rcases Nq j i with h | h;·rw[aM j h];exact aH j h
    rw[show j=i by omega];exact aL
   all_goals (try simp only[Qd,simprocAttr,a2,a5,a6,a7,a8,aw])
   ·rw[Qj,Le (by omega)];exact aE
   ·rw[Qj,Le (by omega)];exact am
   rw[Qj,Le (by omega)];exact ay h
  have ab:i=l.length:=by have:=Ll ab;omega
  subst ab;simp only[Qb,simprocAttr];rw[<- bg];refine QCM op l H e _ _ H5 H3.y (H3.y+1) q cap aa cs ag aQ aO (by omega) (by omega) (by omega) (by simp only[Qd,simprocAttr,a2]) (by simp only[Qd,simprocAttr,a5]) (by simp only[Qd,simprocAttr,a6]) (by simp only[Qd,simprocAttr,a7]) (by simp only[Qd,simprocAttr,a8]) aE am an aq aH (λh=>?_) (λa h=>?_) ap aF;·obtain⟨ao,bh,bi⟩:=ac h;have bj:=aG h;exact⟨ao,by omega,by omega,by omega,ay h⟩
  have:=bm a h;exact⟨by omega,by omega,by omega⟩
end
structure MOk (m:Mm):Prop where
 b:isR m.b 0 0=false->Wv m.b=true
 i:isR m.i 0 0=false->Wv m.i=true∧0<=m.sc∧m.sc<10
 d:-2147483648<=m.d∧m.d<=2147483647
def QDh (n b:Int)(h:I64 n):I64 (Ku n b):=by
 unfold I64 at *;unfold Ku;split;·omega
 split;·omega
 split<;>omega
def QDi (n b:Int)(h:I64 n):I64 (K9 n b):=by
 unfold I64 at *;unfold K9;split;·omega
 split;·omega
 split<;>omega
def Qqn (n b:Int)(q:Bool)(h:I64 n):I64 (W4 n b q).1:=by
 unfold W4;split;·unfold I64;omega
 split;·unfold I64;omega
 split;·exact QDh n b h
 exact QDi n b h
def QhL {r:Rg}{c n:Int}:isR r c n=true↔r=⟨c,n⟩:=by
 obtain⟨a,b⟩:=r;simp[isR]
def QeW {m:Mm}(h:Qv m=0):(-2147483648<=m.d∧m.d<=2147483647)∧Zz m.sz=true∧(isR m.b 0 0=true∨isR m.b 8 0=true∨Xz m.b=true)∧
  ((isR m.i 0 0=true∧m.sc=0)∨(isR m.i 0 0=false∧Xz m.i=true∧WF m.sc=true∧isR m.b 8 0=false∧(isR m.i 5 4=true->m.sc=1∧isR m.b 5 4=false))):=by
 unfold Qv at h;split at h;·simp at h
 rename_i aa;split at h;·simp at h
 rename_i ab;split at h;·simp at h
 rename_i ag;split at h;·simp at h
 rename_i ac;have g1:-2147483648<=m.d∧m.d<=2147483647:=by simp at aa;omega
 have g2:Zz m.sz=true:=by simpa using ab
 have g3:isR m.b 0 0=true∨isR m.b 8 0=true∨Xz m.b=true:=by
  cases e1:isR m.b 0 0<;>cases e2:isR m.b 8 0<;>cases e3:Xz m.b<;>simp_all
 refine⟨g1,g2,g3,?_⟩;split at h;·rename_i q;left;refine⟨q,?_⟩;simpa[q] using ac
 rename_i q;have ad:isR m.i 0 0=false:=by simpa using q
 right;split at h;·simp at h
 rename_i ah;split at h;·simp at h
 rename_i ae;refine⟨ad,?_,?_,?_,?_⟩;·cases e:Xz m.i<;>simp_all
 ·cases e:WF m.sc<;>simp_all
 ·cases e:isR m.b 8 0<;>simp_all
 intro e;rw[e]at ae;constructor;·cases e2:m.sc==1<;>simp_all
 cases e2:isR m.b 5 4<;>simp_all
def QsB {m:Mm}(ak:-2147483648<=m.d∧m.d<=2147483647)(ad:Zz m.sz=true)(ae:isR m.b 0 0=true∨isR m.b 8 0=true∨Xz m.b=true)
  (ag:(isR m.i 0 0=true∧m.sc=0)∨(isR m.i 0 0=false∧Xz m.i=true∧WF m.sc=true∧isR m.b 8 0=false∧(isR m.i 5 4=true->m.sc=1∧isR m.b 5 4=false))):Qv m=0:=by
 unfold Qv;have e1:(decide (m.d < -2147483648)||decide (m.d>2147483647))=false:=by simp;omega
 have e3:(!isR m.b 0 0&&!isR m.b 8 0&&!Xz m.b)=false:=by rcases ae with h | h | h<;>simp[h]
 rw[e1,ad,e3];simp only[LV,LN,reduceCtorEq];rcases ag with⟨q,aa⟩ | ⟨q,aa,ah,ai,aj⟩;·simp[q,aa]
 simp only[q,aa,ah,ai,NG,LV,LN,L8,Nt];cases e:isR m.i 5 4 with
 | false=>simp
 | true=>
  obtain⟨ab,ac⟩:=aj e;simp[ab,ac]
structure QDj (m:Mm):Prop where
 ok:MOk m
 z:isR m.i 0 0=true->m.sc=0
 p:isR m.i 0 0=false->0<m.sc
 chk:Qv m=0
 idem:QH m=m
def QFU {r:Rg}(h:isR r 0 0=true∨isR r 8 0=true∨Xz r=true)(q:isR r 0 0=false):Wv r=true:=by
 rcases h with h | h | h;·rw[h]at q;cases q
 ·rw[QhL.1 h];decide
 unfold Xz at h;simp only[Lm]at h;exact h.2
def QtL {r:Rg}(h:Xz r=true):Wv r=true:=by
 unfold Xz at h;simp only[Lm]at h;exact h.2
def Qyc {r:Rg}(h:Xz r=true):r.c=5:=by
 unfold Xz at h;simp only[Lm,L0]at h;exact h.1
def Qqo {n:Int}(h:WF n=true):1<=n∧n<10:=by
 unfold WF at h;simp only[Nw,L0]at h;omega
def QIw {m:Mm}(h:Qv m=0):MOk m:=by
 obtain⟨aa,ah,ab,ac⟩:=QeW h;refine⟨QFU ab,λq=>?_,aa⟩;rcases ac with⟨ad,_⟩ | ⟨_,ae,ag,_⟩;·rw[ad]at q;cases q
 have:=Qqo ag;exact⟨QtL ae,by omega,by omega⟩
def QIx {m:Mm}(h:Qv m=0):QDj (QH m):=by
 obtain⟨ah,ai,am,an⟩:=QeW h;have key:Qv (QH m)=0∧QH (QH m)=QH m:=by
  rcases an with⟨ab,ad⟩ | ⟨ab,ad,ao,aj,ap⟩
  ·have e:QH m=m:=by unfold QH;simp[ab]
   rw[e];exact⟨h,e⟩
  cases ac:m.sc==1 with
  | false=>
   have e:QH m=m:=by unfold QH;simp[ac]
   rw[e];exact⟨h,e⟩
  | true=>
   cases aa:isR m.b 0 0 with
   | true=>
    have e:QH m=⟨m.i,⟨0,0⟩,0,m.d,m.sz⟩:=by unfold QH;simp[ab,ac,aa]
    rw[e];refine⟨QsB ah ai (.inr (.inr ad)) (.inl ⟨rfl,rfl⟩),?_⟩;unfold QH;rfl
   | false=>
    cases hi:m.i.n==4 with
    | false=>
     have e:QH m=m:=by unfold QH;simp[ab,ac,aa,hi]
     rw[e];exact⟨h,e⟩
    | true=>
     have e:QH m=⟨m.i,m.b,m.sc,m.d,m.sz⟩:=by unfold QH;simp[ab,ac,aa,hi]
     have hi4:m.i=⟨5,4⟩:=by
      have c:=Qyc ad;have n:m.i.n=4:=by simpa using hi
      revert c n
      obtain⟨c,n⟩:=m.i;rintro rfl rfl;rfl
     have ag:=ap (QhL.2 hi4);have ak:Xz m.b=true:=by
      rcases am with h | h | h;·rw[h]at aa;cases aa
      ·rw[h]at aj;cases aj
      exact h
     have av:m.sc=1:=by simpa using ac
     have aq:(m.b.n==4)=false:=by
      cases au:m.b.n==4 with
      | false=>rfl
      | true=>
       have n:m.b.n=4:=by simpa using au
       have c:=Qyc ak;have:isR m.b 5 4=true:=by unfold isR;rw[c,n];rfl
       rw[this]at ag;cases ag.2
     rw[e];refine⟨QsB ah ai (.inr (.inr ad)) (.inr ⟨aa,ak,ao,?_,?_⟩),?_⟩;·rw[hi4];rfl
     ·intro q;rw[ag.2]at q;cases q
     have ar:isR m.i 0 0=false:=ab;unfold QH;simp[aa,ac,ar,aq]
 obtain⟨k1,k2⟩:=key;obtain⟨_,_,_,g4⟩:=QeW k1;refine⟨QIw k1,λae=>?_,λae=>?_,k1,k2⟩
 ·rcases g4 with⟨_,g⟩ | ⟨g,_⟩;·exact g
  rw[ae]at g;cases g
 rcases g4 with⟨g,_⟩ | ⟨_,_,g,_⟩;·rw[ae]at g;cases g
 have:=Qqo g;omega
structure AOk (a:Ar):Prop where
 r:a.k=1->Wv a.r=true
 m:a.k=2->QDj a.m
 k:a.k=1∨a.k=2∨a.k=3∨a.k=4
 n:I64 a.n
def Vm {a:Ar}(h:QJ a=0):(a.k=1->Wv a.r=true)∧(a.k=2->Qv a.m=0)∧(a.k=1∨a.k=2∨a.k=3∨a.k=4):=by
 unfold QJ at h;split at h
 ·rename_i ab;have q:a.k=1:=by simpa using ab
  refine⟨λ_=>?_,λaa=>by omega,.inl q⟩;cases e:Wv a.r with
  | true=>rfl
  | false=>rw[e]at h;simp at h
 rename_i ab;have q:¬a.k=1:=by simpa using ab
 split at h
 ·rename_i aa;have ac:a.k=2:=by simpa using aa
  exact⟨λh=>absurd h q,λ_=>h,.inr (.inl ac)⟩
 rename_i aa;have ac:¬a.k=2:=by simpa using aa
 refine⟨λh=>absurd h q,λh=>absurd h ac,?_⟩;split at h
 ·rename_i ad;have ae:a.k=3:=by simpa using ad
  exact .inr (.inr (.inl ae))
 split at h
 ·rename_i ag;have ah:a.k=4:=by simpa using ag
  exact .inr (.inr (.inr ah))
 simp at h
def QHc:I64 0:=by unfold I64;omega
def QBc {a:Ar}(ae:I64 a.n)(h:QJ a=0):AOk (WX a):=by
 obtain⟨ac,ad,q⟩:=Vm h;unfold WX;split
 ·rename_i k1;have aa:a.k=1:=by simpa using k1
  exact⟨ac,λh=>by simp only at h;omega,q,QHc⟩
 rename_i k1;have aa:¬a.k=1:=by simpa using k1
 split
 ·rename_i k2;have ab:a.k=2:=by simpa using k2
  exact⟨λh=>absurd h aa,λh=>QIx (ad ab),q,QHc⟩
 rename_i k2;have ab:¬a.k=2:=by simpa using k2
 exact⟨λh=>absurd h aa,λh=>absurd h ab,q,ae⟩
def QBd {ib:Int×Bool}{a:Ar}(ac:I64 a.n)(h:(Wi ib a).2=0):AOk (Wi ib a).1:=by
 have aa:Wo a=if(QJ a==0)=true then(WX a,0) else(WN,QJ a):=rfl
 have e:Wi ib a=if((Wo a).2==0)=false then(a,(Wo a).2) else if((Wo a).1.k==3)=true then({(Wo a).1 with n:=(W4 (Wo a).1.n ib.1 ib.2).1},(W4 (Wo a).1.n ib.1 ib.2).2) else((Wo a).1,0):=rfl
 cases q:QJ a==0 with
 | false=>
  rw[aa,q]at e;simp only[LV,LN,q,N3]at e;rw[e]at h;simp only at h;rw[h]at q;cases q
 | true=>
  have ab:QJ a=0:=by simpa using q
  rw[aa,q]at e;have o:=QBc ac ab;simp only[N3,LO,Fe,LN]at e;rw[e];split
  ·rename_i k3;have ad:(WX a).k=3:=by simpa using k3
   exact⟨λh=>by simp only at h;omega,λh=>by simp only at h;omega,.inr (.inr (.inl ad)),Qqn _ _ _ o.n⟩
  exact o
def Qqp {ib:Int×Bool}:∀ {l:List Ar},(∀a∈l,I64 a.n)->(QS ib l).2=0->∀a∈(QS ib l).1,AOk a
 | [],_,_,a,q=>by cases q
 | b::l,hn,h,a,q=>by
  unfold QS at h q;split at h
  ·rename_i aa;rw[Lc aa]at q;rcases LK.1 q with rfl | q;·exact QBd (hn b (Ny ..)) (by simpa using aa)
   exact Qqp (λx hx=>hn x (NA _ hx)) h a q
  rename_i aa;simp only at h;exact absurd (L0.2 h) aa
def QBe {op:Int}{l:List Ar}{a:Ar}(h:a∈Q6 op l):a∈l:=by
 unfold Q6 at h;split at h
 ·split at h
  ·rename_i x y _;rcases LK.1 h with rfl | h;·exact Ny ..
   exact h
  exact h
 split at h;·simpa using h
 split at h;·simpa using h
 exact h
def Qv5 (ib:Int×Bool):∀l:List Ar,(QS ib l).1.length<=l.length
 | []=>Lb _
 | a::l=>by
  unfold QS;split;·have:=Qv5 ib l;simp only[Lo];omega
  exact L7 _
def QDk (op:Int)(l:List Ar):(Q6 op l).length<=l.length+1:=by
 unfold Q6;split
 ·split;·simp
  exact Nat.le_succ _
 split;·simp
 split;·simp
 exact Nat.le_succ _
def QDl {op:Int}{l:List Ar}(ae:∀a∈l,I64 a.n)(h:(QU op l).2.2=0):(QU op l).1=op∧Ji op=true∧(QU op l).2.1.length<=5∧∀a∈(QU op l).2.1,AOk a:=by
 unfold QU at h ⊢;split at h;·rename_i aa;simp only at h;rw[h]at aa;cases aa
 rename_i aa;split at h;·rename_i ab;simp only at h;rw[h]at ab;cases ab
 rename_i ab;rw[Le aa,Le ab];have q:QZ op l=0:=by simpa using aa
 have ac:(QS (Qy op l) l).2=0:=by simpa using ab
 refine⟨rfl,?_,?_,λa ad=>Qqp ae ac a (QBe ad)⟩
 ·cases e:Ji op with
  | true=>rfl
  | false=>unfold QZ at q;simp[e]at q
 have ag:=QDk op (QS (Qy op l) l).1;have ah:=Qv5 (Qy op l) l;have ai:l.length<=4:=by
  unfold QZ at q;split at q;·simp at q
  split at q;·simp at q
  omega
 show(Q6 op (QS (Qy op l) l).1).length<=5;omega
