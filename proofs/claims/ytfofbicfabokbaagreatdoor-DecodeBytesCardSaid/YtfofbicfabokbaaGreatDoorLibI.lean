/- Registers. -/
import Derived.Test.YtfofbicfabokbaaGreatDoorC2Code
import Derived.Test.YtfofbicfabokbaaGreatDoorLibA
import Derived.Test.YtfofbicfabokbaaGreatDoorC0Code
set_option linter.unusedVariables false
set_option linter.unusedSimpArgs false
set_option maxRecDepth 100000
set_option maxHeartbeats 2000000
set_option maxHeartbeats 4000000
noncomputable section
namespace Go.Proofs.YtfofbicfabokbaaGreatDoor.code
open Go.Ab
structure Rg where
 c:Int
 n:Int
 deriving DecidableEq
def Rg.cells (r:Rg):List Value:=[.int .i64 r.c,.int .i64 r.n]
def Qlt (c:Int):Int×Int:=if c=2 then(4,4) else if c=8 then(0,1) else if c=1∨c=3∨c=4∨c=5∨c=6∨c=7 then(0,16) else(0,0)
def VE (r:Rg):Bool:=decide ((Qlt r.c).1<=r.n∧r.n<(Qlt r.c).1+(Qlt r.c).2)
theorem QrV (c:Int) (H:Qa):Qh prog QgW [.int .i64 c] H λu H'=>u=.tuple #[.int .i64 (Qlt c).1,.int .i64 (Qlt c).2]∧H'=H:=by
 refine QqH λhw=>?_;simp only[QkS,Qb,simprocAttr,Qey]
 repeat' (first | (refine Qo (λh=>?_) (λh=>?_)<;>simp only[Qb,simprocAttr,Qey]) | (refine Qf (λh=>?_) (λh=>?_)<;>simp only[Qb,simprocAttr,Qey]))
 all_goals refine .mk (Lb _) ⟨?_,rfl⟩
 all_goals simp_all [Qlt]
theorem QDm (c:Int):0<=(Qlt c).1∧(Qlt c).1<=4∧0<=(Qlt c).2∧(Qlt c).2<=16:=by
 unfold Qlt;split
 ·decide
 split
 ·decide
 split<;>decide
theorem QkT (r:Rg) (H:Qa):Qh prog QdW [.agg r.cells.toArray] H λu H'=>u=.bool (VE r)∧∃m,H'=H.up m:=by
 refine Qto λhw=>?_;obtain⟨c,n⟩:=r;have hb:=QDm c;have e1:IntKind.i64.wrap ((Qlt c).1+(Qlt c).2)=(Qlt c).1+(Qlt c).2:=w64 (by unfold I64;omega);simp only[Rg.cells,Qng,Qb,simprocAttr];refine(QrV c _).thenW ?_;rintro _ H1 hn1 hw1 ⟨rfl,rfl⟩;simp only[Qb,simprocAttr,Ql1,e1];refine Qo (λh=>?_) (λh=>?_)
 all_goals simp only[Qb,simprocAttr,Ql1,e1,h]
 all_goals refine .ext hw ((Ext.refl H).push _) ⟨?_,_,rfl⟩
 all_goals (simp_all [VE]<;>omega)
def QhU (r:Rg):Int:=if VE r=false then 0 else if r.c=7 then 32 else if r.c=6 then 16 else if r.c=5∨r.c=8 then 8 else if r.c=4 then 4 else if r.c=3 then 2 else 1
theorem QwO (r:Rg) (H:Qa):Qh prog Qmu [.agg r.cells.toArray] H λu H'=>u=.int .i64 (QhU r)∧∃m,H'=H.up m:=by
 refine Qu2 λhw=>?_;have q:=QkT r;obtain⟨v,hv⟩:∃v,VE r=v:=⟨_,rfl⟩;rw[hv]at q;obtain⟨c,n⟩:=r;simp only[Rg.cells]at q;simp only[Rg.cells,QoX,Qa2,Qa3,Qa4,Qb,simprocAttr];refine(q _).thenW ?_;rintro _ H1 hn1 hw1 ⟨rfl,m,rfl⟩;simp only[Ql]at hn1;have hx:Ext H ((H.push (.cells [.int .i64 c,.int .i64 n] Q5 false)).up m):=((Ext.refl H).push _).up (by simp only[Ql];exact hn1);simp only[Qb,simprocAttr,Qff];cases v
 all_goals simp only[Qb,simprocAttr,Qff,Qa2,Qa3,Qa4]
 ·exact .ext hw hx ⟨by simp[QhU,hv],_,rfl⟩
 repeat' (first | (refine Qo (λh=>?_) (λh=>?_)<;>simp only[Qb,simprocAttr,Qff,Qa2,Qa3,Qa4,h]) | (refine Qf (λh=>?_) (λh=>?_)<;>simp only[Qb,simprocAttr,Qff,Qa2,Qa3,Qa4,h]))
 all_goals refine .ext hw hx ⟨?_,_,rfl⟩
 all_goals (simp_all [QhU]<;>decide)
theorem Qu (ne:Bool) (a b c d:Int) (H:Qa) (k:Value->Qa->Prop):QDc ne [.i,.i] (.agg #[.int .i64 a,.int .i64 b]) (.agg #[.int .i64 c,.int .i64 d]) H k=k (.bool (bif ne then !((a==c)&&(b==d)) else((a==c)&&(b==d)))) H:=by
 refine Qzh ?_
 by_cases h:a=c<;>by_cases g:b=d<;>simp[Qe8,QCG,h,g]
/-! ### Places -/
structure Mm where
 b:Rg
 i:Rg
 sc:Int
 d:Int
 sz:Int
 deriving DecidableEq
def Mm.cells (m:Mm):List Value:=[.int .i64 m.b.c,.int .i64 m.b.n,.int .i64 m.i.c,.int .i64 m.i.n,.int .i64 m.sc,.int .i64 m.d,.int .i64 m.sz]
def JT (r:Rg):Bool:=(r.c==5)&&VE r
theorem QwP (r:Rg) (H:Qa):Qh prog Qiz [.agg r.cells.toArray] H λu H'=>u=.bool (JT r)∧∃m,H'=H.up m:=by
 refine Qu1 λhw=>?_;have q:=QkT r;obtain⟨v,hv⟩:∃v,VE r=v:=⟨_,rfl⟩;rw[hv]at q;obtain⟨c,n⟩:=r;simp only[Rg.cells]at q;simp only[Rg.cells,QoW,Qb,simprocAttr,QiR];refine Qo (λh=>?_) (λh=>?_)
 all_goals simp only[Qb,simprocAttr,QiR,h]
 ·refine(q _).thenW ?_;rintro _ H1 hn1 hw1 ⟨rfl,m,rfl⟩;simp only[Ql]at hn1;have hx:Ext H ((H.push (.cells [.int .i64 c,.int .i64 n] Q5 false)).up m):=((Ext.refl H).push _).up (by simp only[Ql];exact hn1);simp only[Qb,simprocAttr,QiR,h];exact .ext hw hx ⟨by simp[JT,hv,h],_,rfl⟩
 ·exact .ext hw ((Ext.refl H).push _) ⟨by simp[JT,h],_,rfl⟩
def Gw (n:Int):Bool:=n==0||n==1||n==2||n==4||n==8||n==16||n==32
theorem Qu3 (n:Int) (H:Qa):Qh prog Qku [.int .i64 n] H λu H'=>u=.bool (Gw n)∧H'=H:=by
 refine Qtn λhw=>?_;simp only[Qnf,Qb,simprocAttr,Qg2]
 repeat' (first | (refine Qo (λh=>?_) (λh=>?_)<;>simp only[Qb,simprocAttr,Qg2,h]) | (refine Qf (λh=>?_) (λh=>?_)<;>simp only[Qb,simprocAttr,Qg2,h]))
 all_goals refine .mk (Lb _) ⟨?_,rfl⟩
 all_goals simp_all [Gw]
def Zr (n:Int):Bool:=n==1||n==2||n==4||n==8
theorem Qtp (n:Int) (H:Qa):Qh prog QiA [.int .i64 n] H λu H'=>u=.bool (Zr n)∧∃m,H'=H.up m:=by
 refine QrU λhw=>?_;have t1:prog.underlying QuT=some (.map QpT QpT):=by kernel_rfl
 have t2:prog.underlying QpT=some (.int .i64):=by kernel_rfl
 have t3:(prog.info? QpT).map (·.zero)=some (some (.int .i64 0)):=by kernel_rfl
 obtain⟨inf,t4,t5⟩:=Lx.1 t3;simp only[Ql0,Qb,simprocAttr,Zf];rw[Qm1 (m:=H.next) (n:=1) (es:=[]) t1 t2 (by simp only[Qg,simprocAttr]) (by simp only[Qg,simprocAttr]) (by rw[Qi,Lc rfl]) rfl];simp only[Qb,simprocAttr,Zf];rw[Qm1 (m:=H.next) (n:=2) (es:=_) t1 t2 (by simp only[Qg,simprocAttr]) (by simp only[Qg,simprocAttr]) (by rw[Qm,Lc rfl]) rfl];simp only[Qb,simprocAttr,Zf];rw[Qm1 (m:=H.next) (n:=4) (es:=_) t1 t2 (by simp only[Qg,simprocAttr]) (by simp only[Qg,simprocAttr]) (by rw[Qm,Lc rfl]) rfl];simp only[Qb,simprocAttr,Zf];rw[Qm1 (m:=H.next) (n:=8) (es:=_) t1 t2 (by simp only[Qg,simprocAttr]) (by simp only[Qg,simprocAttr]) (by rw[Qm,Lc rfl]) rfl];simp only[Qb,simprocAttr,Zf];have hr:∃r,Qtb n [(Value.int IntKind.i64 1,Value.int IntKind.i64 0),(Value.int IntKind.i64 2,Value.int IntKind.i64 1),(Value.int IntKind.i64 4,Value.int IntKind.i64 2),(Value.int IntKind.i64 8,Value.int IntKind.i64 3)] 0=some r∧r.isSome=Zr n:=by
  simp only[Qtb];split
  ·exact⟨_,rfl,by simp_all [Zr]⟩
  split
  ·exact⟨_,rfl,by simp_all [Zr]⟩
  split
  ·exact⟨_,rfl,by simp_all [Zr]⟩
  split
  ·exact⟨_,rfl,by simp_all [Zr]⟩
  ·exact⟨_,rfl,by simp_all [Zr]⟩
 obtain⟨r,h1,h2⟩:=hr;rw[Qzo (m:=H.next) (n:=n) (es:=_) t1 t2 t4 t5 rfl (by simp only[Qg,simprocAttr]) (by simp only[Qg,simprocAttr]) (by rw[Qm,Lc rfl]) h1];have hx:∀a b c d e,Ext H (((((H.push a).set H.next b).set H.next c).set H.next d).set H.next e):=λa b c d e=>(((((Ext.refl H).push a).set (Lb _) b).set (Lb _) c).set (Lb _) d).set (Lb _) e;cases r with
 | none=>
  simp only[QuP,Qb,simprocAttr,Zf];exact .ext hw (hx _ _ _ _ _) ⟨by rw[<- h2];rfl,_,rfl⟩
 | some q=>
  obtain⟨q1,q2⟩:=q;simp only[QuP,Qb,simprocAttr,Zf];exact .ext hw (hx _ _ _ _ _) ⟨by rw[<- h2];rfl,_,rfl⟩
def isR (r:Rg) (c n:Int):Bool:=(r.c==c)&&(r.n==n)
def QV (m:Mm):Int:=
 if(decide (m.d < -2147483648)||decide (m.d>2147483647))=true then 5
 else if Gw m.sz=false then 2
 else if(!isR m.b 0 0&&!isR m.b 8 0&&!JT m.b)=true then 2
 else if(isR m.i 0 0&&!(m.sc==0))=true then 2
 else if isR m.i 0 0=true then 0
 else if(!JT m.i||!Zr m.sc||isR m.b 8 0)=true then 2
 else if(isR m.i 5 4&&(!(m.sc==1)||isR m.b 5 4))=true then 2
 else 0
def mcF (H:Qa) (c:List Value) (A:Env) (H':Qa):Prop:=Ext H H'∧A 1=.pointer (some ⟨H.next,0,none⟩)∧A 3=.pointer (some ⟨H.next+1,0,none⟩)∧A 4=.pointer (some ⟨H.next+2,0,none⟩)∧A 5=.pointer (some ⟨H.next+3,0,none⟩)∧
 H'.get H.next=some (.cells c Qq false)∧H'.get (H.next+1)=some (.cells [.int .i64 0,.int .i64 0] Q5 false)∧H'.get (H.next+2)=some (.cells [.int .i64 8,.int .i64 0] Q5 false)∧H'.get (H.next+3)=some (.cells [.int .i64 5,.int .i64 4] Q5 false)
theorem mcF.up {H H':Qa} {c:List Value} {A:Env} (h:mcF H c A H') {k:Nat} (hk:H'.next<=k):mcF H c A (H'.up k):=by
 obtain⟨hx,r1,r3,r4,r5,g0,g1,g2,g3⟩:=h;exact⟨hx.up hk,r1,r3,r4,r5,g0,g1,g2,g3⟩
theorem mcF.env {H H':Qa} {c:List Value} {A B:Env} (h:mcF H c A H') (h1:B 1=A 1) (h3:B 3=A 3) (h4:B 4=A 4) (h5:B 5=A 5):mcF H c B H':=by
 obtain⟨hx,r1,r3,r4,r5,g0,g1,g2,g3⟩:=h;exact⟨hx,h1.trans r1,h3.trans r3,h4.trans r4,h5.trans r5,g0,g1,g2,g3⟩
theorem QoY (m:Mm) (H:Qa):Qh prog QgE [.agg m.cells.toArray] H λu H'=>u=.int .i64 (QV m)∧∃k,H'=H.up k:=by
 refine Qtm λhw=>?_;have qs:=Qu3 m.sz;have qw:=λr=>QwP r;have qc:=Qtp m.sc;obtain⟨⟨bc,bn⟩,⟨ic,nn⟩,sc,d,sz⟩:=m;simp only at qs qc;simp only[Mm.cells,Qnd,Qb,simprocAttr,Qj,Rh,Dd,De];obtain⟨cs,hcs⟩:∃cs,cs=[Value.int .i64 bc,.int .i64 bn,.int .i64 ic,.int .i64 nn,.int .i64 sc,.int .i64 d,.int .i64 sz]:=⟨_,rfl⟩;generalize hE:exK 0 _ X2=E0;generalize hK:Qn prog _ _ (Rt prog _ H _)=K0;have hret:∀A H',Ext H H'->QV ⟨⟨bc,bn⟩,⟨ic,nn⟩,sc,d,sz⟩=0->K0 A H':=by
  intro A H' hx h0;rw[<- hK];simp only[Qb,simprocAttr,Qj];exact .ext hw hx ⟨by rw[h0],_,rfl⟩
 have P1:∀A H',mcF H cs A H'->(decide (d < -2147483648)||decide (2147483647<d))=false->Gw sz=true->(!isR ⟨bc,bn⟩ 0 0&&!isR ⟨bc,bn⟩ 8 0&&!JT ⟨bc,bn⟩)=false->(isR ⟨ic,nn⟩ 0 0&&!(sc==0))=false->isR ⟨ic,nn⟩ 0 0=false->(!JT ⟨ic,nn⟩||!Zr sc||isR ⟨bc,bn⟩ 8 0)=false->Qn prog QfU ⟨Rt prog QbX H λu H'=>u=.int .i64 (QV ⟨⟨bc,bn⟩,⟨ic,nn⟩,sc,d,sz⟩)∧∃k,H'=H.up k,E0⟩ K0 A H':=by
  rintro A H' ⟨hx,r1,r3,r4,r5,g0,g1,g2,g3⟩ c0 c1 c2 c3 c4 c5;rw[hcs]at g0;simp only[QfU];simp only[Qb,simprocAttr,Qj,Qu,r1,r3,r4,r5,g0,g1,g2,g3]
  repeat' (first
   | (refine Qo (λh=>?_) (λh=>?_)<;>(try simp only[Lr,Lu]at h)<;>simp only[Qb,simprocAttr,Qj,Qu,r1,r3,r4,r5,g0,g1,g2,g3,h])
   | (refine Qf (λh=>?_) (λh=>?_)<;>(try simp only[Lr,Lu]at h)<;>simp only[Qb,simprocAttr,Qj,Qu,r1,r3,r4,r5,g0,g1,g2,g3,h])
   | (refine(qs _).thenW ?_;rintro _ _ hn hw2 ⟨rfl,rfl⟩;simp only[Qb,simprocAttr,Qj,Qu,r1,r3,r4,r5,g0,g1,g2,g3])
   | (refine(qw ⟨bc,bn⟩ _).thenW ?_;rintro _ _ hn hw2 ⟨rfl,k,rfl⟩;have hx:=hx.up (show _<=k from hn);simp only[Qb,simprocAttr,Qj,Qu,r1,r3,r4,r5,g0,g1,g2,g3])
   | (refine(qw ⟨ic,nn⟩ _).thenW ?_;rintro _ _ hn hw2 ⟨rfl,k,rfl⟩;have hx:=hx.up (show _<=k from hn);simp only[Qb,simprocAttr,Qj,Qu,r1,r3,r4,r5,g0,g1,g2,g3])
   | (refine(qc _).thenW ?_;rintro _ _ hn hw2 ⟨rfl,k,rfl⟩;have hx:=hx.up (show _<=k from hn);simp only[Qb,simprocAttr,Qj,Qu,r1,r3,r4,r5,g0,g1,g2,g3]))
  all_goals first
   | (have hb:(isR ⟨ic,nn⟩ 5 4&&(!(sc==1)||isR ⟨bc,bn⟩ 5 4))=true:=(by(try simp only[isR]);simp[*]);exact .ext hw hx ⟨by first | (simp only[QV,c0,c1,c2,c3,c4,c5,hb,LV,LN,N3,NG,LJ,NJ,Be,Nt,N1,NI,Bd,L8,LM,reduceCtorEq,B4,BN];done) | (have c9:=c3;simp only[hb,LJ]at c9;simp only[QV,c0,c1,c2,hb,c9,LV,LN,N3,LJ,reduceCtorEq,B4,BN]),_,rfl⟩)
   | (have hb:(isR ⟨ic,nn⟩ 5 4&&(!(sc==1)||isR ⟨bc,bn⟩ 5 4))=false:=(by(try simp only[isR]);simp[*]);exact .ext hw hx ⟨by first | (simp only[QV,c0,c1,c2,c3,c4,c5,hb,LV,LN,N3,NG,LJ,NJ,Be,Nt,N1,NI,Bd,L8,LM,reduceCtorEq,B4,BN];done) | (have c9:=c3;simp only[hb,LJ]at c9;simp only[QV,c0,c1,c2,hb,c9,LV,LN,N3,LJ,reduceCtorEq,B4,BN]),_,rfl⟩)
   | (have hb:(isR ⟨ic,nn⟩ 5 4&&(!(sc==1)||isR ⟨bc,bn⟩ 5 4))=false:=(by(try simp only[isR]);simp[*]);exact hret _ _ hx (by simp only[QV,c0,c1,c2,c3,c4,c5,hb,LV,LN,N3,NG,LJ,NJ,Be,Nt,N1,NI,Bd,L8,LM,reduceCtorEq,B4,BN]))
 have P2:∀A H',mcF H cs A H'->(decide (d < -2147483648)||decide (2147483647<d))=false->Gw sz=true->(!isR ⟨bc,bn⟩ 0 0&&!isR ⟨bc,bn⟩ 8 0&&!JT ⟨bc,bn⟩)=false->(isR ⟨ic,nn⟩ 0 0&&!(sc==0))=false->isR ⟨ic,nn⟩ 0 0=false->Qn prog QfV ⟨Rt prog QbX H λu H'=>u=.int .i64 (QV ⟨⟨bc,bn⟩,⟨ic,nn⟩,sc,d,sz⟩)∧∃k,H'=H.up k,E0⟩ K0 A H':=by
  rintro A H' ⟨hx,r1,r3,r4,r5,g0,g1,g2,g3⟩ c0 c1 c2 c3 c4;rw[hcs]at g0;simp only[QfV];simp only[Qb,simprocAttr,Qj,Qu,r1,r3,r4,r5,g0,g1,g2,g3]
  repeat' (first
   | (refine Qo (λh=>?_) (λh=>?_)<;>(try simp only[Lr,Lu]at h)<;>simp only[Qb,simprocAttr,Qj,Qu,r1,r3,r4,r5,g0,g1,g2,g3,h])
   | (refine Qf (λh=>?_) (λh=>?_)<;>(try simp only[Lr,Lu]at h)<;>simp only[Qb,simprocAttr,Qj,Qu,r1,r3,r4,r5,g0,g1,g2,g3,h])
   | (refine(qs _).thenW ?_;rintro _ _ hn hw2 ⟨rfl,rfl⟩;simp only[Qb,simprocAttr,Qj,Qu,r1,r3,r4,r5,g0,g1,g2,g3])
   | (refine(qw ⟨bc,bn⟩ _).thenW ?_;rintro _ _ hn hw2 ⟨rfl,k,rfl⟩;have hx:=hx.up (show _<=k from hn);simp only[Qb,simprocAttr,Qj,Qu,r1,r3,r4,r5,g0,g1,g2,g3])
   | (refine(qw ⟨ic,nn⟩ _).thenW ?_;rintro _ _ hn hw2 ⟨rfl,k,rfl⟩;have hx:=hx.up (show _<=k from hn);simp only[Qb,simprocAttr,Qj,Qu,r1,r3,r4,r5,g0,g1,g2,g3])
   | (refine(qc _).thenW ?_;rintro _ _ hn hw2 ⟨rfl,k,rfl⟩;have hx:=hx.up (show _<=k from hn);simp only[Qb,simprocAttr,Qj,Qu,r1,r3,r4,r5,g0,g1,g2,g3]))
  all_goals first
   | (have hb:(!JT ⟨ic,nn⟩||!Zr sc||isR ⟨bc,bn⟩ 8 0)=true:=(by(try simp only[isR]);simp[*]);exact .ext hw hx ⟨by first | (simp only[QV,c0,c1,c2,c3,c4,hb,LV,LN,N3,NG,LJ,NJ,Be,Nt,N1,NI,Bd,L8,LM,reduceCtorEq,B4,BN];done) | (have c9:=c3;simp only[hb,LJ]at c9;simp only[QV,c0,c1,c2,hb,c9,LV,LN,N3,LJ,reduceCtorEq,B4,BN]),_,rfl⟩)
   | (have hb:(!JT ⟨ic,nn⟩||!Zr sc||isR ⟨bc,bn⟩ 8 0)=false:=(by(try simp only[isR]);simp[*]);exact .ext hw hx ⟨by first | (simp only[QV,c0,c1,c2,c3,c4,hb,LV,LN,N3,NG,LJ,NJ,Be,Nt,N1,NI,Bd,L8,LM,reduceCtorEq,B4,BN];done) | (have c9:=c3;simp only[hb,LJ]at c9;simp only[QV,c0,c1,c2,hb,c9,LV,LN,N3,LJ,reduceCtorEq,B4,BN]),_,rfl⟩)
   | (have hb:(!JT ⟨ic,nn⟩||!Zr sc||isR ⟨bc,bn⟩ 8 0)=false:=(by(try simp only[isR]);simp[*]);exact P1 _ _ (mcF.env ⟨hx,r1,r3,r4,r5,by rw[hcs];exact g0,g1,g2,g3⟩ (by simp only[Qg,simprocAttr]) (by simp only[Qg,simprocAttr]) (by simp only[Qg,simprocAttr]) (by simp only[Qg,simprocAttr])) c0 c1 c2 c3 c4 hb)
 have P3:∀A H',mcF H cs A H'->(decide (d < -2147483648)||decide (2147483647<d))=false->Gw sz=true->(!isR ⟨bc,bn⟩ 0 0&&!isR ⟨bc,bn⟩ 8 0&&!JT ⟨bc,bn⟩)=false->(isR ⟨ic,nn⟩ 0 0&&!(sc==0))=false->Qn prog QfW ⟨Rt prog QbX H λu H'=>u=.int .i64 (QV ⟨⟨bc,bn⟩,⟨ic,nn⟩,sc,d,sz⟩)∧∃k,H'=H.up k,E0⟩ K0 A H':=by
  rintro A H' ⟨hx,r1,r3,r4,r5,g0,g1,g2,g3⟩ c0 c1 c2 c3;rw[hcs]at g0;simp only[QfW];simp only[Qb,simprocAttr,Qj,Qu,r1,r3,r4,r5,g0,g1,g2,g3]
  repeat' (first
   | (refine Qo (λh=>?_) (λh=>?_)<;>(try simp only[Lr,Lu]at h)<;>simp only[Qb,simprocAttr,Qj,Qu,r1,r3,r4,r5,g0,g1,g2,g3,h])
   | (refine Qf (λh=>?_) (λh=>?_)<;>(try simp only[Lr,Lu]at h)<;>simp only[Qb,simprocAttr,Qj,Qu,r1,r3,r4,r5,g0,g1,g2,g3,h])
   | (refine(qs _).thenW ?_;rintro _ _ hn hw2 ⟨rfl,rfl⟩;simp only[Qb,simprocAttr,Qj,Qu,r1,r3,r4,r5,g0,g1,g2,g3])
   | (refine(qw ⟨bc,bn⟩ _).thenW ?_;rintro _ _ hn hw2 ⟨rfl,k,rfl⟩;have hx:=hx.up (show _<=k from hn);simp only[Qb,simprocAttr,Qj,Qu,r1,r3,r4,r5,g0,g1,g2,g3])
   | (refine(qw ⟨ic,nn⟩ _).thenW ?_;rintro _ _ hn hw2 ⟨rfl,k,rfl⟩;have hx:=hx.up (show _<=k from hn);simp only[Qb,simprocAttr,Qj,Qu,r1,r3,r4,r5,g0,g1,g2,g3])
   | (refine(qc _).thenW ?_;rintro _ _ hn hw2 ⟨rfl,k,rfl⟩;have hx:=hx.up (show _<=k from hn);simp only[Qb,simprocAttr,Qj,Qu,r1,r3,r4,r5,g0,g1,g2,g3]))
  all_goals first
   | (have hb:isR ⟨ic,nn⟩ 0 0=true:=(by(try simp only[isR]);simp[*]);exact .ext hw hx ⟨by first | (simp only[QV,c0,c1,c2,c3,hb,LV,LN,N3,NG,LJ,NJ,Be,Nt,N1,NI,Bd,L8,LM,reduceCtorEq,B4,BN];done) | (have c9:=c3;simp only[hb,LJ]at c9;simp only[QV,c0,c1,c2,hb,c9,LV,LN,N3,LJ,reduceCtorEq,B4,BN]),_,rfl⟩)
   | (have hb:isR ⟨ic,nn⟩ 0 0=false:=(by(try simp only[isR]);simp[*]);exact .ext hw hx ⟨by first | (simp only[QV,c0,c1,c2,c3,hb,LV,LN,N3,NG,LJ,NJ,Be,Nt,N1,NI,Bd,L8,LM,reduceCtorEq,B4,BN];done) | (have c9:=c3;simp only[hb,LJ]at c9;simp only[QV,c0,c1,c2,hb,c9,LV,LN,N3,LJ,reduceCtorEq,B4,BN]),_,rfl⟩)
   | (have hb:isR ⟨ic,nn⟩ 0 0=false:=(by(try simp only[isR]);simp[*]);exact P2 _ _ (mcF.env ⟨hx,r1,r3,r4,r5,by rw[hcs];exact g0,g1,g2,g3⟩ (by simp only[Qg,simprocAttr]) (by simp only[Qg,simprocAttr]) (by simp only[Qg,simprocAttr]) (by simp only[Qg,simprocAttr])) c0 c1 c2 c3 hb)
 have P4:∀A H',mcF H cs A H'->(decide (d < -2147483648)||decide (2147483647<d))=false->Gw sz=true->(!isR ⟨bc,bn⟩ 0 0&&!isR ⟨bc,bn⟩ 8 0&&!JT ⟨bc,bn⟩)=false->Qn prog QfX ⟨Rt prog QbX H λu H'=>u=.int .i64 (QV ⟨⟨bc,bn⟩,⟨ic,nn⟩,sc,d,sz⟩)∧∃k,H'=H.up k,E0⟩ K0 A H':=by
  rintro A H' ⟨hx,r1,r3,r4,r5,g0,g1,g2,g3⟩ c0 c1 c2;rw[hcs]at g0;simp only[QfX];simp only[Qb,simprocAttr,Qj,Qu,r1,r3,r4,r5,g0,g1,g2,g3]
  repeat' (first
   | (refine Qo (λh=>?_) (λh=>?_)<;>(try simp only[Lr,Lu]at h)<;>simp only[Qb,simprocAttr,Qj,Qu,r1,r3,r4,r5,g0,g1,g2,g3,h])
   | (refine Qf (λh=>?_) (λh=>?_)<;>(try simp only[Lr,Lu]at h)<;>simp only[Qb,simprocAttr,Qj,Qu,r1,r3,r4,r5,g0,g1,g2,g3,h])
   | (refine(qs _).thenW ?_;rintro _ _ hn hw2 ⟨rfl,rfl⟩;simp only[Qb,simprocAttr,Qj,Qu,r1,r3,r4,r5,g0,g1,g2,g3])
   | (refine(qw ⟨bc,bn⟩ _).thenW ?_;rintro _ _ hn hw2 ⟨rfl,k,rfl⟩;have hx:=hx.up (show _<=k from hn);simp only[Qb,simprocAttr,Qj,Qu,r1,r3,r4,r5,g0,g1,g2,g3])
   | (refine(qw ⟨ic,nn⟩ _).thenW ?_;rintro _ _ hn hw2 ⟨rfl,k,rfl⟩;have hx:=hx.up (show _<=k from hn);simp only[Qb,simprocAttr,Qj,Qu,r1,r3,r4,r5,g0,g1,g2,g3])
   | (refine(qc _).thenW ?_;rintro _ _ hn hw2 ⟨rfl,k,rfl⟩;have hx:=hx.up (show _<=k from hn);simp only[Qb,simprocAttr,Qj,Qu,r1,r3,r4,r5,g0,g1,g2,g3]))
  all_goals first
   | (have hb:(isR ⟨ic,nn⟩ 0 0&&!(sc==0))=true:=(by(try simp only[isR]);simp[*]);exact .ext hw hx ⟨by first | (simp only[QV,c0,c1,c2,hb,LV,LN,N3,NG,LJ,NJ,Be,Nt,N1,NI,Bd,L8,LM,reduceCtorEq,B4,BN];done) | (have c9:=c3;simp only[hb,LJ]at c9;simp only[QV,c0,c1,c2,hb,c9,LV,LN,N3,LJ,reduceCtorEq,B4,BN]),_,rfl⟩)
   | (have hb:(isR ⟨ic,nn⟩ 0 0&&!(sc==0))=false:=(by(try simp only[isR]);simp[*]);exact .ext hw hx ⟨by first | (simp only[QV,c0,c1,c2,hb,LV,LN,N3,NG,LJ,NJ,Be,Nt,N1,NI,Bd,L8,LM,reduceCtorEq,B4,BN];done) | (have c9:=c3;simp only[hb,LJ]at c9;simp only[QV,c0,c1,c2,hb,c9,LV,LN,N3,LJ,reduceCtorEq,B4,BN]),_,rfl⟩)
   | (have hb:(isR ⟨ic,nn⟩ 0 0&&!(sc==0))=false:=(by(try simp only[isR]);simp[*]);exact P3 _ _ (mcF.env ⟨hx,r1,r3,r4,r5,by rw[hcs];exact g0,g1,g2,g3⟩ (by simp only[Qg,simprocAttr]) (by simp only[Qg,simprocAttr]) (by simp only[Qg,simprocAttr]) (by simp only[Qg,simprocAttr])) c0 c1 c2 hb)
 have P5:∀A H',mcF H cs A H'->(decide (d < -2147483648)||decide (2147483647<d))=false->Gw sz=true->Qn prog QfY ⟨Rt prog QbX H λu H'=>u=.int .i64 (QV ⟨⟨bc,bn⟩,⟨ic,nn⟩,sc,d,sz⟩)∧∃k,H'=H.up k,E0⟩ K0 A H':=by
  rintro A H' ⟨hx,r1,r3,r4,r5,g0,g1,g2,g3⟩ c0 c1;rw[hcs]at g0;simp only[QfY];simp only[Qb,simprocAttr,Qj,Qu,r1,r3,r4,r5,g0,g1,g2,g3]
  repeat' (first
   | (refine Qo (λh=>?_) (λh=>?_)<;>(try simp only[Lr,Lu]at h)<;>simp only[Qb,simprocAttr,Qj,Qu,r1,r3,r4,r5,g0,g1,g2,g3,h])
   | (refine Qf (λh=>?_) (λh=>?_)<;>(try simp only[Lr,Lu]at h)<;>simp only[Qb,simprocAttr,Qj,Qu,r1,r3,r4,r5,g0,g1,g2,g3,h])
   | (refine(qs _).thenW ?_;rintro _ _ hn hw2 ⟨rfl,rfl⟩;simp only[Qb,simprocAttr,Qj,Qu,r1,r3,r4,r5,g0,g1,g2,g3])
   | (refine(qw ⟨bc,bn⟩ _).thenW ?_;rintro _ _ hn hw2 ⟨rfl,k,rfl⟩;have hx:=hx.up (show _<=k from hn);simp only[Qb,simprocAttr,Qj,Qu,r1,r3,r4,r5,g0,g1,g2,g3])
   | (refine(qw ⟨ic,nn⟩ _).thenW ?_;rintro _ _ hn hw2 ⟨rfl,k,rfl⟩;have hx:=hx.up (show _<=k from hn);simp only[Qb,simprocAttr,Qj,Qu,r1,r3,r4,r5,g0,g1,g2,g3])
   | (refine(qc _).thenW ?_;rintro _ _ hn hw2 ⟨rfl,k,rfl⟩;have hx:=hx.up (show _<=k from hn);simp only[Qb,simprocAttr,Qj,Qu,r1,r3,r4,r5,g0,g1,g2,g3]))
  all_goals first
   | (have hb:(!isR ⟨bc,bn⟩ 0 0&&!isR ⟨bc,bn⟩ 8 0&&!JT ⟨bc,bn⟩)=true:=(by(try simp only[isR]);simp[*]);exact .ext hw hx ⟨by first | (simp only[QV,c0,c1,hb,LV,LN,N3,NG,LJ,NJ,Be,Nt,N1,NI,Bd,L8,LM,reduceCtorEq,B4,BN];done) | (have c9:=c3;simp only[hb,LJ]at c9;simp only[QV,c0,c1,c2,hb,c9,LV,LN,N3,LJ,reduceCtorEq,B4,BN]),_,rfl⟩)
   | (have hb:(!isR ⟨bc,bn⟩ 0 0&&!isR ⟨bc,bn⟩ 8 0&&!JT ⟨bc,bn⟩)=false:=(by(try simp only[isR]);simp[*]);exact .ext hw hx ⟨by first | (simp only[QV,c0,c1,hb,LV,LN,N3,NG,LJ,NJ,Be,Nt,N1,NI,Bd,L8,LM,reduceCtorEq,B4,BN];done) | (have c9:=c3;simp only[hb,LJ]at c9;simp only[QV,c0,c1,c2,hb,c9,LV,LN,N3,LJ,reduceCtorEq,B4,BN]),_,rfl⟩)
   | (have hb:(!isR ⟨bc,bn⟩ 0 0&&!isR ⟨bc,bn⟩ 8 0&&!JT ⟨bc,bn⟩)=false:=(by(try simp only[isR]);simp[*]);exact P4 _ _ (mcF.env ⟨hx,r1,r3,r4,r5,by rw[hcs];exact g0,g1,g2,g3⟩ (by simp only[Qg,simprocAttr]) (by simp only[Qg,simprocAttr]) (by simp only[Qg,simprocAttr]) (by simp only[Qg,simprocAttr])) c0 c1 hb)
 have P6:∀A H',mcF H cs A H'->(decide (d < -2147483648)||decide (2147483647<d))=false->Qn prog QfZ ⟨Rt prog QbX H λu H'=>u=.int .i64 (QV ⟨⟨bc,bn⟩,⟨ic,nn⟩,sc,d,sz⟩)∧∃k,H'=H.up k,E0⟩ K0 A H':=by
  rintro A H' ⟨hx,r1,r3,r4,r5,g0,g1,g2,g3⟩ c0;rw[hcs]at g0;simp only[QfZ];simp only[Qb,simprocAttr,Qj,Qu,r1,r3,r4,r5,g0,g1,g2,g3]
  repeat' (first
   | (refine Qo (λh=>?_) (λh=>?_)<;>(try simp only[Lr,Lu]at h)<;>simp only[Qb,simprocAttr,Qj,Qu,r1,r3,r4,r5,g0,g1,g2,g3,h])
   | (refine Qf (λh=>?_) (λh=>?_)<;>(try simp only[Lr,Lu]at h)<;>simp only[Qb,simprocAttr,Qj,Qu,r1,r3,r4,r5,g0,g1,g2,g3,h])
   | (refine(qs _).thenW ?_;rintro _ _ hn hw2 ⟨rfl,rfl⟩;simp only[Qb,simprocAttr,Qj,Qu,r1,r3,r4,r5,g0,g1,g2,g3])
   | (refine(qw ⟨bc,bn⟩ _).thenW ?_;rintro _ _ hn hw2 ⟨rfl,k,rfl⟩;have hx:=hx.up (show _<=k from hn);simp only[Qb,simprocAttr,Qj,Qu,r1,r3,r4,r5,g0,g1,g2,g3])
   | (refine(qw ⟨ic,nn⟩ _).thenW ?_;rintro _ _ hn hw2 ⟨rfl,k,rfl⟩;have hx:=hx.up (show _<=k from hn);simp only[Qb,simprocAttr,Qj,Qu,r1,r3,r4,r5,g0,g1,g2,g3])
   | (refine(qc _).thenW ?_;rintro _ _ hn hw2 ⟨rfl,k,rfl⟩;have hx:=hx.up (show _<=k from hn);simp only[Qb,simprocAttr,Qj,Qu,r1,r3,r4,r5,g0,g1,g2,g3]))
  all_goals first
   | (have hb:Gw sz=true:=(by(try simp only[isR]);simp[*]);exact .ext hw hx ⟨by first | (simp only[QV,c0,hb,LV,LN,N3,NG,LJ,NJ,Be,Nt,N1,NI,Bd,L8,LM,reduceCtorEq,B4,BN];done) | (have c9:=c3;simp only[hb,LJ]at c9;simp only[QV,c0,c1,c2,hb,c9,LV,LN,N3,LJ,reduceCtorEq,B4,BN]),_,rfl⟩)
   | (have hb:Gw sz=false:=(by(try simp only[isR]);simp[*]);exact .ext hw hx ⟨by first | (simp only[QV,c0,hb,LV,LN,N3,NG,LJ,NJ,Be,Nt,N1,NI,Bd,L8,LM,reduceCtorEq,B4,BN];done) | (have c9:=c3;simp only[hb,LJ]at c9;simp only[QV,c0,c1,c2,hb,c9,LV,LN,N3,LJ,reduceCtorEq,B4,BN]),_,rfl⟩)
   | (have hb:Gw sz=true:=(by(try simp only[isR]);simp[*]);exact P5 _ _ (mcF.env ⟨hx,r1,r3,r4,r5,by rw[hcs];exact g0,g1,g2,g3⟩ (by simp only[Qg,simprocAttr]) (by simp only[Qg,simprocAttr]) (by simp only[Qg,simprocAttr]) (by simp only[Qg,simprocAttr])) c0 hb)
 have hx0:∀b c d e f g h,Ext H (((((((H.push b).push c).set (H.next+1) d).push e).set (H.next+2) f).push g).set (H.next+3) h):=λb c d e f g h=>
  (((((((Ext.refl H).push b).push c).set (by omega) d).push e).set (by omega) f).push g).set (by omega) h
 have fin:∀A,A 1=.pointer (some ⟨H.next,0,none⟩)->A 3=.pointer (some ⟨H.next+1,0,none⟩)->A 4=.pointer (some ⟨H.next+2,0,none⟩)->A 5=.pointer (some ⟨H.next+3,0,none⟩)->∀d e f,mcF H cs A (((((((H.push (.cells cs Qq false)).push d).set (H.next+1) (.cells [.int .i64 0,.int .i64 0] Q5 false)).push e).set (H.next+2) (.cells [.int .i64 8,.int .i64 0] Q5 false)).push f).set (H.next+3) (.cells [.int .i64 5,.int .i64 4] Q5 false)):=by
  intro A r1 r3 r4 r5 d e f;refine⟨hx0 _ _ _ _ _ _ _,r1,r3,r4,r5,?_,?_,?_,?_⟩<;>simp[Qm,Qi,Rh]
 rw[<- hcs];refine Qo (λh=>?_) (λh=>?_)<;>(try simp only[Lr,Lu]at h)<;>simp only[Qb,simprocAttr,Qj,Rh,Dd,De,h,hcs]
 ·refine Qf (λh2=>?_) (λh2=>?_)<;>simp only[Qb,simprocAttr,Qj,h2]
  ·exact .ext hw (hx0 _ _ _ _ _ _ _) ⟨by simp only[QV,h,B4,h2,Bd,N3],_,rfl⟩
  ·rw[<- hcs];exact P6 _ _ (fin _ (by simp only[Qg,simprocAttr]) (by simp only[Qg,simprocAttr]) (by simp only[Qg,simprocAttr]) (by simp only[Qg,simprocAttr]) _ _ _) (by simp only[h,h2,NI])
 ·exact .ext hw (hx0 _ _ _ _ _ _ _) ⟨by simp only[QV,h,N1,N3],_,rfl⟩
def Wh:Mm:=⟨⟨0,0⟩,⟨0,0⟩,0,0,0⟩
def Qf2 (m:Mm):Mm:=
 if(isR m.i 0 0||!(m.sc==1))=true then m else if isR m.b 0 0=true then⟨m.i,⟨0,0⟩,0,m.d,m.sz⟩ else if(m.i.n==4)=true then⟨m.i,m.b,m.sc,m.d,m.sz⟩ else m
def Y5 (m:Mm):Mm×Int:=if QV m=0 then(Qf2 m,0) else(Wh,QV m)
theorem QoZ (m:Mm) (H:Qa):Qh prog QgC [.agg m.cells.toArray] H λu H'=>u=.tuple #[.agg (Y5 m).1.cells.toArray,.int .i64 (Y5 m).2]∧∃k,H'=H.up k:=by
 refine Qtk λhw=>?_;have q:=QoY m;obtain⟨e,he⟩:∃e,QV m=e:=⟨_,rfl⟩;rw[he]at q;have hc:Y5 m=if e=0 then(Qf2 m,0) else(Wh,e):=by rw[<- he];rfl
 rw[hc];clear hc he;obtain⟨⟨bc,bn⟩,⟨ic,nn⟩,sc,d,sz⟩:=m;simp only[Mm.cells]at q;simp only[Mm.cells,Qnc,Vw,Vy,Vz,VA,Qb,simprocAttr,QdQ];refine(q _).thenW ?_;rintro _ _ hn hw2 ⟨rfl,k,rfl⟩;simp only[Ql,Wm]at hn;have k0:¬H.next=k:=by omega
 have k1:¬H.next+1=k:=by omega
 have k2:¬H.next=k+1:=by omega
 have k3:¬H.next+1=k+1:=by omega
 simp only[Qb,simprocAttr,QdQ,Vw,Vy,Vz,VA,Qu,Rh,Dd,De,k0,k1,k2,k3]
 repeat' (first
   | refine⟨by simp[Qs,plain],by omega,?_⟩
   | (refine Qo (λh=>?_) (λh=>?_)<;>(try simp only[Lr,Lu]at h)<;>simp only[Qb,simprocAttr,QdQ,Vw,Vy,Vz,VA,Qu,Rh,Dd,De,k0,k1,k2,k3,h])
   | (refine Qf (λh=>?_) (λh=>?_)<;>(try simp only[Lr,Lu]at h)<;>simp only[Qb,simprocAttr,QdQ,Vw,Vy,Vz,VA,Qu,Rh,Dd,De,k0,k1,k2,k3,h]))
 all_goals refine .ext hw ?_ ⟨?_,_,rfl⟩
 all_goals try (repeat' (first | exact Ext.refl _ | refine Ext.push ?_ _ | refine Ext.up ?_ (by first | assumption | (simp only[Ql,Q4];omega)) | refine Ext.set ?_ (by omega) _))
 all_goals (try have he0:e=0:=by simpa using ‹(e==0)=true›)<;>(try have he0:¬e=0:=by simpa using ‹(e==0)=false›)
 all_goals (simp only[Qf2,Wh,isR,Mm.cells, *,LV,LN,N3,NG,LJ,NJ,Be,Nt,N1,NI,Bd,L8,LM,reduceCtorEq,BN];done)
structure Ar where
 k:Int
 r:Rg
 m:Mm
 n:Int
 deriving DecidableEq
def Ar.cells (a:Ar):List Value:=[.int .i64 a.k,.int .i64 a.r.c,.int .i64 a.r.n,.int .i64 a.m.b.c,.int .i64 a.m.b.n,.int .i64 a.m.i.c,.int .i64 a.m.i.n,.int .i64 a.m.sc,.int .i64 a.m.d,.int .i64 a.m.sz,.int .i64 a.n]
def Yg (a:Ar):Int:=
 if(a.k==1)=true then(if(!VE a.r||(a.r.c==8))=true then 2 else 0)
 else if(a.k==2)=true then QV a.m
 else if(a.k==3)=true then 0
 else if(a.k==4)=true then(if(decide (a.n < -2147483648)||decide (2147483647<a.n))=true then 5 else 0)
 else 2
theorem QeA (a:Ar) (H:Qa):Qh prog KE [.agg a.cells.toArray] H λu H'=>u=.int .i64 (Yg a)∧∃k,H'=H.up k:=by
 refine Qn2 λhw=>?_;have q1:=QkT a.r;have q2:=QoY a.m;obtain⟨k,⟨rc,rn⟩,⟨⟨bc,bn⟩,⟨ic,nn⟩,sc,d,sz⟩,n⟩:=a;simp only[Rg.cells,Mm.cells]at q1 q2;simp(disch:=omega) only[Ar.cells,QhT,Kj,Kk,Kl,Km,Kn,Qk,simprocAttr,ZR]
 repeat' (first
   | (refine Qo (λh=>?_) (λh=>?_)<;>(try simp only[Lr,Lu]at h)<;>simp(disch:=omega) only[Qk,simprocAttr,ZR,Kj,Kk,Kl,Km,Kn,h])
   | (refine Qf (λh=>?_) (λh=>?_)<;>(try simp only[Lr,Lu]at h)<;>simp(disch:=omega) only[Qk,simprocAttr,ZR,Kj,Kk,Kl,Km,Kn,h])
   | (refine(q1 _).thenW ?_;rintro _ _ hn hw2 ⟨rfl,k,rfl⟩;simp only[Ql,Wm,Q4]at hn;simp(disch:=omega) only[Qk,simprocAttr,ZR])
   | (refine(q2 _).thenW ?_;rintro _ _ hn hw2 ⟨rfl,k,rfl⟩;simp only[Ql,Wm,Q4]at hn;simp(disch:=omega) only[Qk,simprocAttr,ZR]))
 all_goals refine .ext hw ?_ ⟨?_,_,rfl⟩
 all_goals try (repeat' (first | exact Ext.refl _ | refine Ext.push ?_ _ | refine Ext.up ?_ (by simp only[Ql,Q4,Wm];omega) | refine Ext.set ?_ (by omega) _))
 all_goals (simp only[Yg, *,LV,LN,N3,NG,LJ,NJ,Be,Nt,N1,NI,Bd,L8,LM,reduceCtorEq,BN])
/-! ### Canon -/
def Qu7:Ar:=⟨0,⟨0,0⟩,Wh,0⟩
def Qf4 (a:Ar):Ar:=if(a.k==1)=true then⟨a.k,a.r,Wh,0⟩ else if(a.k==2)=true then⟨a.k,⟨0,0⟩,Qf2 a.m,0⟩ else⟨a.k,⟨0,0⟩,Wh,a.n⟩
def WP (a:Ar):Ar×Int:=if(Yg a==0)=true then(Qf4 a,0) else(Qu7,Yg a)
theorem Qmx {a:Ar} (hk:(a.k==2)=true):Yg a=QV a.m:=by
 have:a.k=2:=by simpa using hk
 simp[Yg,this]
theorem Qpz (a:Ar) (H:Qa):Qh prog Qen [.agg a.cells.toArray] H λu H'=>u=.tuple #[.agg (WP a).1.cells.toArray,.int .i64 (WP a).2]∧∃k,H'=H.up k:=by
 refine Qn1 λhw=>?_;have q1:=QeA a;have q2:=QoZ a.m;have hm:=@Qmx a;have hcc:Y5 a.m=if QV a.m=0 then(Qf2 a.m,0) else(Wh,QV a.m):=rfl
 have hce:WP a=if(Yg a==0)=true then(Qf4 a,0) else(Qu7,Yg a):=rfl
 rw[hce];rw[hcc]at q2;clear hce hcc;generalize Yg a=e at *;generalize QV a.m=f at *;have hca:Qf4 a=if(a.k==1)=true then⟨a.k,a.r,Wh,0⟩ else if(a.k==2)=true then⟨a.k,⟨0,0⟩,Qf2 a.m,0⟩ else⟨a.k,⟨0,0⟩,Wh,a.n⟩:=rfl
 rw[hca];clear hca;generalize Qf2 a.m=mc at *;obtain⟨k,⟨rc,rn⟩,⟨⟨bc,bn⟩,⟨ic,nn⟩,sc,d,sz⟩,n⟩:=a;obtain⟨⟨mb,mbn⟩,⟨mi,min⟩,msc,md,msz⟩:=mc;simp only[Ar.cells,Mm.cells]at q1 q2 hm;simp(disch:=(first | omega | (simp only[hnP];try omega))) only[Ar.cells,QhS,Yd,Ye,Yf,Qk,simprocAttr,ZQ]
 repeat' (first
   | (refine Qo (λh=>?_) (λh=>?_)<;>(try simp only[Lr,Lu]at h)<;>simp(disch:=(first | omega | (simp only[hnP];try omega))) only[Yd,Ye,Yf,Qk,simprocAttr,ZQ,h])
   | (refine Qf (λh=>?_) (λh=>?_)<;>(try simp only[Lr,Lu]at h)<;>simp(disch:=(first | omega | (simp only[hnP];try omega))) only[Yd,Ye,Yf,Qk,simprocAttr,ZQ,h])
   | (refine(q1 _).thenW ?_;rintro _ _ hn hw2 ⟨rfl,k,rfl⟩;(try simp only[Ql,Wm,Q4]at hn);simp(disch:=(first | omega | (simp only[hnP];try omega))) only[Yd,Ye,Yf,Qk,simprocAttr,ZQ])
   | (refine(q2 _).thenW ?_;rintro _ _ hn hw2 ⟨rfl,k,rfl⟩;(try simp only[Ql,Wm,Q4]at hn);simp(disch:=(first | omega | (simp only[hnP];try omega))) only[Yd,Ye,Yf,Qk,simprocAttr,ZQ])
   | (with_reducible refine⟨by simp[Qs,plain],by omega,?_⟩)
   | (with_reducible refine⟨by simp[Qs,plain],?_⟩)
   | fail)
 all_goals refine .ext hw ?_ ⟨?_,_,rfl⟩
 all_goals try (repeat' (first | exact Ext.refl _ | refine Ext.push ?_ _ | refine Ext.up ?_ (by simp only[Ql,Q4,Wm];omega) | refine Ext.set ?_ (by omega) _))
 all_goals simp_all [Qu7,Wh,Ar.cells,Mm.cells]
def QkZ (a:Ar):Int:=if(Yg a==0)=true then(if(a.k==1)=true then QhU a.r else if(a.k==2)=true then a.m.sz else 0) else 0
theorem QqV (a:Ar) (H:Qa):Qh prog Qfz [.agg a.cells.toArray] H λu H'=>u=.int .i64 (QkZ a)∧∃k,H'=H.up k:=by
 refine Qpu λhw=>?_;have q1:=QeA a;have q2:=QwO a.r;have hs:QkZ a=if(Yg a==0)=true then(if(a.k==1)=true then QhU a.r else if(a.k==2)=true then a.m.sz else 0) else 0:=rfl
 rw[hs];clear hs;generalize Yg a=e at *;generalize QhU a.r=sr at *;obtain⟨k,⟨rc,rn⟩,⟨⟨bc,bn⟩,⟨ic,nn⟩,sc,d,sz⟩,n⟩:=a;simp only[Ar.cells,Rg.cells]at q1 q2;simp(disch:=(first | omega | (simp only[hnP];try omega))) only[Ar.cells,Qjz,Qk,simprocAttr,Jy]
 repeat' (first
   | (refine Qo (λh=>?_) (λh=>?_)<;>(try simp only[Lr,Lu]at h)<;>simp(disch:=(first | omega | (simp only[hnP];try omega))) only[Qk,simprocAttr,Jy,h])
   | (refine Qf (λh=>?_) (λh=>?_)<;>(try simp only[Lr,Lu]at h)<;>simp(disch:=(first | omega | (simp only[hnP];try omega))) only[Qk,simprocAttr,Jy,h])
   | (refine(q1 _).thenW ?_;rintro _ _ hn hw2 ⟨rfl,k,rfl⟩;(try simp only[Ql,Wm,Q4]at hn);simp(disch:=(first | omega | (simp only[hnP];try omega))) only[Qk,simprocAttr,Jy])
   | (refine(q2 _).thenW ?_;rintro _ _ hn hw2 ⟨rfl,k,rfl⟩;(try simp only[Ql,Wm,Q4]at hn);simp(disch:=(first | omega | (simp only[hnP];try omega))) only[Qk,simprocAttr,Jy])
   | (with_reducible refine⟨by simp[Qs,plain],by omega,?_⟩)
   | (with_reducible refine⟨by simp[Qs,plain],?_⟩)
   | fail)
 all_goals refine .ext hw ?_ ⟨?_,_,rfl⟩
 all_goals try (repeat' (first | exact Ext.refl _ | refine Ext.push ?_ _ | refine Ext.up ?_ (by simp only[Ql,Q4,Wm];omega) | refine Ext.set ?_ (by omega) _))
 all_goals simp_all []
def ZC (o:Int):Bool:=decide (1<=o)&&decide (o<=322)
theorem QiT (o:Int) (H:Qa):Qh prog Qcz [.int .i64 o] H λu H'=>u=.bool (ZC o)∧H'=H:=by
 refine QrT λhw=>?_;simp(disch:=(first | omega | (simp only[hnP];try omega))) only[QlZ,Qk,simprocAttr,Qf0]
 repeat' (first
   | (refine Qo (λh=>?_) (λh=>?_)<;>(try simp only[Lr,Lu]at h)<;>simp(disch:=(first | omega | (simp only[hnP];try omega))) only[Qk,simprocAttr,Qf0,h])
   | (refine Qf (λh=>?_) (λh=>?_)<;>(try simp only[Lr,Lu]at h)<;>simp(disch:=(first | omega | (simp only[hnP];try omega))) only[Qk,simprocAttr,Qf0,h])
   | (with_reducible refine⟨by simp[Qs,plain],by omega,?_⟩)
   | (with_reducible refine⟨by simp[Qs,plain],?_⟩)
   | fail)
 all_goals refine .mk (Lb _) ⟨?_,rfl⟩
 all_goals (simp_all [ZC]<;>omega)
def Qno (o:Int):Int×Bool:=if ZC o=false then(0,false) else if o=1∨o=2∨o=3∨o=4∨o=5∨o=6∨o=7∨o=8∨o=9∨o=10∨o=16 then(0,true) else if o=48 then(64,true) else if o=51 then(16,false) else(8,false)
theorem QwY (o:Int) (H:Qa):Qh prog Qmt [.int .i64 o] H λu H'=>u=.tuple #[.int .i64 (Qno o).1,.bool (Qno o).2]∧H'=H:=by
 refine Qu0 λhw=>?_;have q1:=QiT o;have hs:Qno o=if ZC o=false then(0,false) else if o=1∨o=2∨o=3∨o=4∨o=5∨o=6∨o=7∨o=8∨o=9∨o=10∨o=16 then(0,true) else if o=48 then(64,true) else if o=51 then(16,false) else(8,false):=rfl
 rw[hs];clear hs;generalize ZC o=v at *;simp(disch:=(first | omega | (simp only[hnP];try omega))) only[QoV,QaT,QaU,QaV,QaW,QaX,QaY,QaZ,Qa0,Qa1,VC,VD,Qk,simprocAttr,Qfe]
 repeat' (first
   | (refine Qo (λh=>?_) (λh=>?_)<;>(try simp only[Lr,Lu]at h)<;>simp(disch:=(first | omega | (simp only[hnP];try omega))) only[QaT,QaU,QaV,QaW,QaX,QaY,QaZ,Qa0,Qa1,VC,VD,Qk,simprocAttr,Qfe,h])
   | (refine Qf (λh=>?_) (λh=>?_)<;>(try simp only[Lr,Lu]at h)<;>simp(disch:=(first | omega | (simp only[hnP];try omega))) only[QaT,QaU,QaV,QaW,QaX,QaY,QaZ,Qa0,Qa1,VC,VD,Qk,simprocAttr,Qfe,h])
   | (refine(q1 _).thenW ?_;rintro _ _ hn hw2 ⟨rfl,rfl⟩;(try simp only[Ql,Wm,Q4]at hn);simp(disch:=(first | omega | (simp only[hnP];try omega))) only[QaT,QaU,QaV,QaW,QaX,QaY,QaZ,Qa0,Qa1,VC,VD,Qk,simprocAttr,Qfe])
   | (with_reducible refine⟨by simp[Qs,plain],by omega,?_⟩)
   | (with_reducible refine⟨by simp[Qs,plain],?_⟩)
   | fail)
 all_goals refine .mk (Lb _) ⟨?_,rfl⟩
 all_goals simp_all []
def Qr (l:List Ar):List Value:=l.flatMap Ar.cells
theorem WJ (a:Ar):a.cells.length=11:=rfl
theorem QbZ (a:Ar) (l:List Ar):Qr (a::l)=a.cells++Qr l:=by simp[Qr]
theorem Qu9 (l:List Ar) (a:Ar):Qr (l++[a])=Qr l++a.cells:=by simp[Qr]
theorem W1:∀l:List Ar,(Qr l).length=l.length * 11
 | []=>rfl
 | a::l=>by
  have:=W1 l;rw[QbZ,Lh,WJ,this,Lo];omega
theorem VY:∀ (l:List Ar) (i:Nat) (p:Ar),l[i]? = some p->((Qr l).drop (i * 11)).take 11=p.cells
 | [],i,p,h=>by simp at h
 | q::l,0,p,h=>by
  simp at h;subst h;rw[QbZ,BH,Lw,NO (by rw[WJ];exact Lb 11),LF (by rw[WJ];exact Lb 11)]
 | q::l,i+1,p,h=>by
  rw[QbZ,show(i+1) * 11=q.cells.length+i * 11 by rw[WJ];omega,B3,NK (by omega),LH,NL];exact VY l i p (by simpa using h)
def XJ (H:Qa) (v:Value) (l:List Ar):Prop:=ZA H v l.length (Qr l)
theorem XJ.ext {H H':Qa} {v:Value} {l:List Ar} (hw:H.Wf) (he:Ext H H') (h:XJ H v l):XJ H' v l:=ZA.ext hw he h
theorem QBi (r:Rg):0<=QhU r∧QhU r<=32:=by
 unfold QhU
 repeat' split
 all_goals decide
theorem Qzy {n:Int} (h:Gw n=true):0<=n∧n<=32:=by
 simp only[Gw,Nw,L0]at h;omega
theorem Qva (a:Ar):0<=QkZ a∧QkZ a<=32:=by
 unfold QkZ;split
 ·rename_i h;split
  ·exact QBi _
  ·split
   ·rename_i h2;rw[Qmx h2]at h;apply Qzy;cases hs:Gw a.m.sz with
    | true=>rfl
    | false=>
     unfold QV at h;rw[hs]at h;split at h<;>simp at h
   ·omega
 ·omega
def WZ (op:Int) (l:List Ar):Int×Bool:=if ZC op=false then(0,false) else if((Qno op).1==0)=false then Qno op else match l with
 | []=>(0,false)
 | a::_=>if(QkZ a==0)=true then(0,false) else(8 * QkZ a,(Qno op).2)
theorem Qo4 (op:Int) (v:Value) (l:List Ar) (H:Qa) (hv:XJ H v l) (hl:l.length<=1000):Qh prog QgD [.agg #[.int .i64 op,v]] H λu H'=>u=.tuple #[.int .i64 (WZ op l).1,.bool (WZ op l).2]∧∃k,H'=H.up k:=by
 refine Qtl λhw=>?_;have q1:=QiT op;have q2:=QwY op;unfold WZ;generalize ZC op=v1 at *;generalize Qno op=v2 at *;obtain⟨v2a,v2b⟩:=v2;obtain⟨a0,cap,rfl,h1⟩:=hv;cases l with
 | nil=>
  have el0:(((0:Nat):Int)==0)=true:=rfl;simp(disch:=(first | omega | (simp only[hnP];try omega))) only[QiQ,Qk,simprocAttr,el0,Xc]
  repeat' (first
    | (refine Qo (λh=>?_) (λh=>?_)<;>(try simp only[Lr,Lu]at h)<;>simp(disch:=(first | omega | (simp only[hnP];try omega))) only[Qk,simprocAttr,el0,Xc,h])
    | (refine Qf (λh=>?_) (λh=>?_)<;>(try simp only[Lr,Lu]at h)<;>simp(disch:=(first | omega | (simp only[hnP];try omega))) only[Qk,simprocAttr,el0,Xc,h])
    | (refine(q1 _).thenW ?_;rintro _ _ hn hw2 ⟨rfl,rfl⟩;(try simp only[Ql,Wm,Q4]at hn);simp(disch:=(first | omega | (simp only[hnP];try omega))) only[Qk,simprocAttr,el0,Xc])
    | (refine(q2 _).thenW ?_;rintro _ _ hn hw2 ⟨rfl,rfl⟩;(try simp only[Ql,Wm,Q4]at hn);simp(disch:=(first | omega | (simp only[hnP];try omega))) only[Qk,simprocAttr,el0,Xc])
    | (with_reducible refine⟨by simp[Qs,plain],by omega,?_⟩)
    | (with_reducible refine⟨by simp[Qs,plain],?_⟩)
    | fail)
  all_goals refine .ext hw ?_ ⟨?_,_,rfl⟩
  all_goals try (repeat' (first | exact Ext.refl _ | refine Ext.push ?_ _ | refine Ext.up ?_ (by simp only[Ql,Q4,Wm];omega) | refine Ext.set ?_ (by omega) _))
  all_goals simp_all
 | cons a l=>
  dsimp only;have et0:(0:Int).toNat=0:=rfl;have q3:=QqV a;have h8:=Qva a;generalize QkZ a=s at *;obtain⟨b,e,ro,rfl,hgb⟩:=h1 (by simp);have el0:(((l.length+1:Nat):Int)==0)=false:=by simp;omega
  have ec1:((0:Int)<=0∧(0:Int)<((l.length+1:Nat):Int)):=by omega
  have hb:=hw.lt hgb;have e8:IntKind.i64.wrap (8 * s)=8 * s:=w64 (by unfold I64;omega);have hd11:List.take 11 (Qr (a::l))=a.cells:=by
   have:=VY (a::l) 0 a rfl;simpa using this
  have hle:11<=(Qr (a::l)).length:=by rw[W1];simp;omega
  simp(disch:=(first | omega | (simp only[hnP];try omega))) only[QiQ,Qk,simprocAttr,el0,ec1,et0,hgb,hd11,hle,e8,Xc]
  repeat' (first
    | (refine Qo (λh=>?_) (λh=>?_)<;>(try simp only[Lr,Lu]at h)<;>simp(disch:=(first | omega | (simp only[hnP];try omega))) only[Qk,simprocAttr,el0,ec1,et0,hgb,hd11,hle,e8,Xc,h])
    | (refine Qf (λh=>?_) (λh=>?_)<;>(try simp only[Lr,Lu]at h)<;>simp(disch:=(first | omega | (simp only[hnP];try omega))) only[Qk,simprocAttr,el0,ec1,et0,hgb,hd11,hle,e8,Xc,h])
    | (refine(q1 _).thenW ?_;rintro _ _ hn hw2 ⟨rfl,rfl⟩;(try simp only[Ql,Wm,Q4]at hn);simp(disch:=(first | omega | (simp only[hnP];try omega))) only[Qk,simprocAttr,el0,ec1,et0,hgb,hd11,hle,e8,Xc])
    | (refine(q2 _).thenW ?_;rintro _ _ hn hw2 ⟨rfl,rfl⟩;(try simp only[Ql,Wm,Q4]at hn);simp(disch:=(first | omega | (simp only[hnP];try omega))) only[Qk,simprocAttr,el0,ec1,et0,hgb,hd11,hle,e8,Xc])
    | (refine(q3 _).thenW ?_;rintro _ _ hn hw2 ⟨rfl,k,rfl⟩;(try simp only[Ql,Wm,Q4]at hn);simp(disch:=(first | omega | (simp only[hnP];try omega))) only[Qk,simprocAttr,el0,ec1,et0,hgb,hd11,hle,e8,Xc])
    | (with_reducible refine⟨by simp[Qs,plain],by omega,?_⟩)
    | (with_reducible refine⟨by simp[Qs,plain],?_⟩)
    | fail)
  all_goals refine .ext hw ?_ ⟨?_,_,rfl⟩
  all_goals try (repeat' (first | exact Ext.refl _ | refine Ext.push ?_ _ | refine Ext.up ?_ (by simp only[Ql,Q4,Wm];omega) | refine Ext.set ?_ (by omega) _))
  all_goals simp_all
def QjX (n bits:Int):Int:=if bits=8 then n % 256 else if bits=16 then n % 65536 else if bits=32 then n % 4294967296 else n
def QjY (n bits:Int):Int:=if bits=8 then(n+128) % 256 - 128 else if bits=16 then(n+32768) % 65536 - 32768 else if bits=32 then(n+2147483648) % 4294967296 - 2147483648 else n
def JS (n bits:Int) (sg:Bool):Int×Int:=
 if(bits==8||bits==16||bits==32||bits==64)=false then(0,2)
 else if(!(n==QjX n bits)&&!(n==QjY n bits))=true then(0,5)
 else if sg=true then(QjY n bits,0) else(QjX n bits,0)
theorem Qn8 (n bits:Int) (sg:Bool) (hn:I64 n) (hb:bits=8∨bits=16∨bits=32∨bits=64) (H:Qa):Qh prog QaC [.int .i64 n,.int .i64 bits,.bool sg] H λu H'=>u=.tuple #[.int .i64 (JS n bits sg).1,.int .i64 (JS n bits sg).2]∧H'=H:=by
 refine QkP λhw=>?_;rcases hb with rfl | rfl | rfl | rfl
 ·have t1:((8:Int)==8)=true:=rfl;have t2:((8:Int)==16)=false:=rfl;have t3:((8:Int)==32)=false:=rfl;have t4:((8:Int)==64)=false:=rfl;have w1:IntKind.i64.wrap (64 - 8)=56:=by decide
  have p1:(2:Int) ^ min (Int.toNat 56) IntKind.u64.bits=72057594037927936:=by decide
  have p2:(2:Int) ^ min (Int.toNat 56) IntKind.i64.bits=72057594037927936:=by decide
  have z0:((0:Int)<=56)=True:=eq_true (by decide);have eL:IntKind.i64.wrap ((IntKind.u64.wrap (IntKind.u64.wrap n * 72057594037927936)).fdiv 72057594037927936)=QjX n 8:=by
   unfold I64 at hn;rw[Np _ (by decide),NU,NC,NC];rw[show QjX n 8=n % 256 from rfl];omega
  have eC:(IntKind.i64.wrap (IntKind.u64.wrap (IntKind.u64.wrap n * 72057594037927936))).fdiv 72057594037927936=QjY n 8:=by
   unfold I64 at hn;rw[Np _ (by decide),NU,NC,NC];rw[show QjY n 8=(n+128) % 256 - 128 from rfl];omega
  simp(disch:=(first | omega | (simp only[hnP];try omega))) only[Jx,Q7,Q8,Q9,sxA,sxB,Nat.reduceBEq,Nat.reduceEqDiff,reduceCtorEq,mxD,mxB,Nat.reduceAdd,reduceIte,Nat.reduceLeDiff,splice,t1,t2,t3,t4,w1,z0,p1,p2,eL,eC,Wn]
  obtain⟨lo,hlo⟩:∃lo,QjX n 8=lo:=⟨_,rfl⟩;obtain⟨cu,hcu⟩:∃cu,QjY n 8=cu:=⟨_,rfl⟩;have hI:JS n 8 sg=if(!(n==lo)&&!(n==cu))=true then(0,5) else if sg=true then(cu,0) else(lo,0):=by
   rw[<- hlo,<- hcu];rfl
  rw[hI,hlo,hcu];clear hI eL eC hlo hcu
  repeat' (first
   | (refine Qo (λh=>?_) (λh=>?_)<;>(try simp only[Lr,Lu]at h)<;>simp(disch:=(first | omega | (simp only[hnP];try omega))) only[Q7,Q8,Q9,Qk,simprocAttr,Wn,h])
   | (refine Qf (λh=>?_) (λh=>?_)<;>(try simp only[Lr,Lu]at h)<;>simp(disch:=(first | omega | (simp only[hnP];try omega))) only[Q7,Q8,Q9,Qk,simprocAttr,Wn,h])
   | fail)
  all_goals refine .mk (Lb _) ⟨?_,rfl⟩
  all_goals simp_all
 ·have t1:((16:Int)==8)=false:=rfl;have t2:((16:Int)==16)=true:=rfl;have t3:((16:Int)==32)=false:=rfl;have t4:((16:Int)==64)=false:=rfl;have w1:IntKind.i64.wrap (64 - 16)=48:=by decide
  have p1:(2:Int) ^ min (Int.toNat 48) IntKind.u64.bits=281474976710656:=by decide
  have p2:(2:Int) ^ min (Int.toNat 48) IntKind.i64.bits=281474976710656:=by decide
  have z0:((0:Int)<=48)=True:=eq_true (by decide);have eL:IntKind.i64.wrap ((IntKind.u64.wrap (IntKind.u64.wrap n * 281474976710656)).fdiv 281474976710656)=QjX n 16:=by
   unfold I64 at hn;rw[Np _ (by decide),NU,NC,NC];rw[show QjX n 16=n % 65536 from rfl];omega
  have eC:(IntKind.i64.wrap (IntKind.u64.wrap (IntKind.u64.wrap n * 281474976710656))).fdiv 281474976710656=QjY n 16:=by
   unfold I64 at hn;rw[Np _ (by decide),NU,NC,NC];rw[show QjY n 16=(n+32768) % 65536 - 32768 from rfl];omega
  simp(disch:=(first | omega | (simp only[hnP];try omega))) only[Jx,Q7,Q8,Q9,sxA,sxB,Nat.reduceBEq,Nat.reduceEqDiff,reduceCtorEq,mxD,mxB,Nat.reduceAdd,reduceIte,Nat.reduceLeDiff,splice,t1,t2,t3,t4,w1,z0,p1,p2,eL,eC,Wn]
  obtain⟨lo,hlo⟩:∃lo,QjX n 16=lo:=⟨_,rfl⟩;obtain⟨cu,hcu⟩:∃cu,QjY n 16=cu:=⟨_,rfl⟩;have hI:JS n 16 sg=if(!(n==lo)&&!(n==cu))=true then(0,5) else if sg=true then(cu,0) else(lo,0):=by
   rw[<- hlo,<- hcu];rfl
  rw[hI,hlo,hcu];clear hI eL eC hlo hcu
  repeat' (first
   | (refine Qo (λh=>?_) (λh=>?_)<;>(try simp only[Lr,Lu]at h)<;>simp(disch:=(first | omega | (simp only[hnP];try omega))) only[Q7,Q8,Q9,Qk,simprocAttr,Wn,h])
   | (refine Qf (λh=>?_) (λh=>?_)<;>(try simp only[Lr,Lu]at h)<;>simp(disch:=(first | omega | (simp only[hnP];try omega))) only[Q7,Q8,Q9,Qk,simprocAttr,Wn,h])
   | fail)
  all_goals refine .mk (Lb _) ⟨?_,rfl⟩
  all_goals simp_all
 ·have t1:((32:Int)==8)=false:=rfl;have t2:((32:Int)==16)=false:=rfl;have t3:((32:Int)==32)=true:=rfl;have t4:((32:Int)==64)=false:=rfl;have w1:IntKind.i64.wrap (64 - 32)=32:=by decide
  have p1:(2:Int) ^ min (Int.toNat 32) IntKind.u64.bits=4294967296:=by decide
  have p2:(2:Int) ^ min (Int.toNat 32) IntKind.i64.bits=4294967296:=by decide
  have z0:((0:Int)<=32)=True:=eq_true (by decide);have eL:IntKind.i64.wrap ((IntKind.u64.wrap (IntKind.u64.wrap n * 4294967296)).fdiv 4294967296)=QjX n 32:=by
   unfold I64 at hn;rw[Np _ (by decide),NU,NC,NC];rw[show QjX n 32=n % 4294967296 from rfl];omega
  have eC:(IntKind.i64.wrap (IntKind.u64.wrap (IntKind.u64.wrap n * 4294967296))).fdiv 4294967296=QjY n 32:=by
   unfold I64 at hn;rw[Np _ (by decide),NU,NC,NC];rw[show QjY n 32=(n+2147483648) % 4294967296 - 2147483648 from rfl];omega
  simp(disch:=(first | omega | (simp only[hnP];try omega))) only[Jx,Q7,Q8,Q9,sxA,sxB,Nat.reduceBEq,Nat.reduceEqDiff,reduceCtorEq,mxD,mxB,Nat.reduceAdd,reduceIte,Nat.reduceLeDiff,splice,t1,t2,t3,t4,w1,z0,p1,p2,eL,eC,Wn]
  obtain⟨lo,hlo⟩:∃lo,QjX n 32=lo:=⟨_,rfl⟩;obtain⟨cu,hcu⟩:∃cu,QjY n 32=cu:=⟨_,rfl⟩;have hI:JS n 32 sg=if(!(n==lo)&&!(n==cu))=true then(0,5) else if sg=true then(cu,0) else(lo,0):=by
   rw[<- hlo,<- hcu];rfl
  rw[hI,hlo,hcu];clear hI eL eC hlo hcu
  repeat' (first
   | (refine Qo (λh=>?_) (λh=>?_)<;>(try simp only[Lr,Lu]at h)<;>simp(disch:=(first | omega | (simp only[hnP];try omega))) only[Q7,Q8,Q9,Qk,simprocAttr,Wn,h])
   | (refine Qf (λh=>?_) (λh=>?_)<;>(try simp only[Lr,Lu]at h)<;>simp(disch:=(first | omega | (simp only[hnP];try omega))) only[Q7,Q8,Q9,Qk,simprocAttr,Wn,h])
   | fail)
  all_goals refine .mk (Lb _) ⟨?_,rfl⟩
  all_goals simp_all
 ·have t1:((64:Int)==8)=false:=rfl;have t2:((64:Int)==16)=false:=rfl;have t3:((64:Int)==32)=false:=rfl;have t4:((64:Int)==64)=true:=rfl;have w1:IntKind.i64.wrap (64 - 64)=0:=by decide
  have p1:(2:Int) ^ min (Int.toNat 0) IntKind.u64.bits=1:=by decide
  have p2:(2:Int) ^ min (Int.toNat 0) IntKind.i64.bits=1:=by decide
  have z0:((0:Int)<=0)=True:=eq_true (by decide);have eL:IntKind.i64.wrap ((IntKind.u64.wrap (IntKind.u64.wrap n * 1)).fdiv 1)=QjX n 64:=by
   unfold I64 at hn;rw[Np _ (by decide),NU,NC,NC];rw[show QjX n 64=n from rfl];omega
  have eC:(IntKind.i64.wrap (IntKind.u64.wrap (IntKind.u64.wrap n * 1))).fdiv 1=QjY n 64:=by
   unfold I64 at hn;rw[Np _ (by decide),NU,NC,NC];rw[show QjY n 64=n from rfl];omega
  simp(disch:=(first | omega | (simp only[hnP];try omega))) only[Jx,Q7,Q8,Q9,sxA,sxB,Nat.reduceBEq,Nat.reduceEqDiff,reduceCtorEq,mxD,mxB,Nat.reduceAdd,reduceIte,Nat.reduceLeDiff,splice,t1,t2,t3,t4,w1,z0,p1,p2,eL,eC,Wn]
  obtain⟨lo,hlo⟩:∃lo,QjX n 64=lo:=⟨_,rfl⟩;obtain⟨cu,hcu⟩:∃cu,QjY n 64=cu:=⟨_,rfl⟩;have hI:JS n 64 sg=if(!(n==lo)&&!(n==cu))=true then(0,5) else if sg=true then(cu,0) else(lo,0):=by
   rw[<- hlo,<- hcu];rfl
  rw[hI,hlo,hcu];clear hI eL eC hlo hcu
  repeat' (first
   | (refine Qo (λh=>?_) (λh=>?_)<;>(try simp only[Lr,Lu]at h)<;>simp(disch:=(first | omega | (simp only[hnP];try omega))) only[Q7,Q8,Q9,Qk,simprocAttr,Wn,h])
   | (refine Qf (λh=>?_) (λh=>?_)<;>(try simp only[Lr,Lu]at h)<;>simp(disch:=(first | omega | (simp only[hnP];try omega))) only[Q7,Q8,Q9,Qk,simprocAttr,Wn,h])
   | fail)
  all_goals refine .mk (Lb _) ⟨?_,rfl⟩
  all_goals simp_all
theorem Ql4 (n bits:Int) (sg:Bool) (hn:I64 n) (H:Qa):Qh prog QaC [.int .i64 n,.int .i64 bits,.bool sg] H λu H'=>u=.tuple #[.int .i64 (JS n bits sg).1,.int .i64 (JS n bits sg).2]∧H'=H:=by
 by_cases hb:bits=8∨bits=16∨bits=32∨bits=64
 ·exact Qn8 n bits sg hn hb H
 ·have t1:(bits==8)=false:=by simp;omega
  have t2:(bits==16)=false:=by simp;omega
  have t3:(bits==32)=false:=by simp;omega
  have t4:(bits==64)=false:=by simp;omega
  refine QkP λhw=>?_;simp(disch:=(first | omega | (simp only[hnP];try omega))) only[Jx,Q7,Q8,Q9,Qk,simprocAttr,t1,t2,t3,t4,Wn]
  refine .mk (Lb _) ⟨?_,rfl⟩;simp[JS,t1,t2,t3,t4]
def Qf5:List Ar->Int
 | []=>0
 | a::l=>if(Yg a==0)=true then Qf5 l else Yg a
def W8 (k:Int):List Ar->Int
 | []=>0
 | a::l=>(if(a.k==k)=true then 1 else 0)+W8 k l
def QhX (n:Int):List Ar->Int
 | []=>n
 | a::l=>QhX (if(a.k==3)=true then a.n else n) l
def XT (op:Int) (l:List Ar):Int:=
 if ZC op=false then 6 else if l.length>4 then 3 else if(Qf5 l==0)=false then Qf5 l
 else if(decide (1<W8 2 l)||decide (1<W8 4 l)||decide (1<W8 3 l))=true then 2
 else if(W8 3 l==0)=true then 0
 else if((WZ op l).1==0)=true then 2 else(JS (QhX 0 l) (WZ op l).1 (WZ op l).2).2
theorem QhY (k:Int):∀ (l:List Ar) (a:Ar),W8 k (l++[a])=W8 k l+(if(a.k==k)=true then 1 else 0)
 | [],a=>by simp[W8]
 | b::l,a=>by simp only[Nm,W8,QhY k l a];omega
theorem QsB:∀ (l:List Ar) (n:Int) (a:Ar),QhX n (l++[a])=if(a.k==3)=true then a.n else QhX n l
 | [],n,a=>by simp[QhX]
 | b::l,n,a=>by simp only[Nm,QhX,QsB l _ a]
theorem QiU (k:Int):∀l:List Ar,0<=W8 k l∧W8 k l<=l.length
 | []=>by simp[W8]
 | a::l=>by
  have:=QiU k l;simp only[W8,Lo];split<;>omega
theorem QqW (n:Int):∀l:List Ar,QhX n l=n∨∃a∈l,QhX n l=a.n
 | []=>.inl rfl
 | a::l=>by
  unfold QhX;split
  ·rcases QqW a.n l with h | ⟨b,hb,h⟩
   ·exact .inr ⟨a,by simp,h⟩
   ·exact .inr ⟨b,by simp[hb],h⟩
  ·rcases QqW n l with h | ⟨b,hb,h⟩
   ·exact .inl h
   ·exact .inr ⟨b,by simp[hb],h⟩
theorem Qn9:∀ (l:List Ar) (i:Nat) (a:Ar),l[i]? = some a->Qf5 (l.drop i)=if(Yg a==0)=true then Qf5 (l.drop (i+1)) else Yg a
 | [],i,a,h=>by simp at h
 | b::l,0,a,h=>by simp at h;subst h;rfl
 | b::l,i+1,a,h=>by simpa using Qn9 l i a (by simpa using h)
theorem Qoa {α:Type} (l:List α) (i:Nat) (a:α) (h:l[i]? = some a):l.take (i+1)=l.take i++[a]:=by
 rw[Nv,h];rfl
def icF (H:Qa) (op:Int) (v:Value) (A:Env) (H':Qa):Prop:=Ext H H'∧A 1=.pointer (some ⟨H.next,0,none⟩)∧H'.get H.next=some (.cells [.int .i64 op,v] Qd false)∧H.next<H'.next
theorem Qtx (op:Int) (v:Value) (l:List Ar) (H:Qa) (hv:XJ H v l) (hl:l.length<=1000) (hI:∀a∈l,I64 a.n):Qh prog Qiy [.agg #[.int .i64 op,v]] H λu H'=>u=.int .i64 (XT op l)∧∃k,H'=H.up k:=by
 refine QrS λhw=>?_;have P4:∀A H',icF H op v A H'->ZC op=true->l.length<=4->Qf5 l=0->A 6=.int .i64 (W8 2 l)->A 7=.int .i64 (W8 4 l)->A 8=.int .i64 (W8 3 l)->A 9=.int .i64 (QhX 0 l)->
   Qn prog Qew ⟨Rt prog VW H λu H'=>u=.int .i64 (XT op l)∧∃k,H'=H.up k,X2⟩ (Rt prog VW H λu H'=>u=.int .i64 (XT op l)∧∃k,H'=H.up k) A H':=by
  rintro A H' ⟨hx,r1,g0,hb0⟩ c1 c2 c3 r6 r7 r8 r9;have qb:=λH' (hx:Ext H H')=>Qo4 op v l H' (hv.ext hw hx) hl;have hn:I64 (QhX 0 l):=by
   rcases QqW 0 l with h | ⟨a,ha,h⟩
   ·rw[h];unfold I64;omega
   ·rw[h];exact hI a ha
  have hc:XT op l=if(decide (1<W8 2 l)||decide (1<W8 4 l)||decide (1<W8 3 l))=true then 2 else if(W8 3 l==0)=true then 0 else if((WZ op l).1==0)=true then 2 else(JS (QhX 0 l) (WZ op l).1 (WZ op l).2).2:=by
   unfold XT;rw[Le (by simp[c1]),Le (by omega),Le (by simp[c3])]
  rw[hc];clear hc;generalize W8 2 l=n2 at *;generalize W8 4 l=n4 at *;generalize W8 3 l=n3 at *;generalize QhX 0 l=nn at *;generalize WZ op l=ib at *;obtain⟨ib1,ib2⟩:=ib;have qi:=Ql4 nn ib1 ib2 hn;generalize JS nn ib1 ib2=im at *;obtain⟨im1,im2⟩:=im;obtain⟨a0,cap,rfl,h1⟩:=hv;simp(disch:=(first | omega | (simp only[hnP];try omega))) only[Qew,ZH,ZG,ZF,Qk,simprocAttr,Ws,r1,g0,r6,r7,r8,r9]
  repeat' (first
   | (refine Qo (λh=>?_) (λh=>?_)<;>(try simp only[Lr,Lu]at h)<;>simp(disch:=(first | omega | (simp only[hnP];try omega))) only[ZH,ZG,ZF,Qk,simprocAttr,Ws,r1,g0,r6,r7,r8,r9,h])
   | (refine Qf (λh=>?_) (λh=>?_)<;>(try simp only[Lr,Lu]at h)<;>simp(disch:=(first | omega | (simp only[hnP];try omega))) only[ZH,ZG,ZF,Qk,simprocAttr,Ws,r1,g0,r6,r7,r8,r9,h])
   | (refine(qb _ hx).thenW ?_;rintro _ _ hn hw2 ⟨rfl,k,rfl⟩;have hx:=hx.up (show _<=k from hn);simp(disch:=(first | omega | (simp only[hnP];try omega))) only[ZH,ZG,ZF,Qk,simprocAttr,Ws,r1,g0,r6,r7,r8,r9])
   | (refine(qi _).thenW ?_;rintro _ _ hn hw2 ⟨rfl,rfl⟩;simp(disch:=(first | omega | (simp only[hnP];try omega))) only[ZH,ZG,ZF,Qk,simprocAttr,Ws,r1,g0,r6,r7,r8,r9])
   | fail)
  all_goals refine .ext hw hx ⟨?_,_,rfl⟩
  all_goals simp_all
 have hS:∃a0 cap,v=.slice a0 l.length cap:=QaS hv;obtain⟨a0,cap,hvs⟩:=hS;have hAt:∀ (i:Nat) (a:Ar) (H':Qa),Ext H H'->l[i]? = some a->∃b e ro,a0=some ⟨b,0,none⟩∧H'.get b=some (.cells (Qr l) e ro)∧b<H.next∧List.take 11 (List.drop (i * 11) (Qr l))=a.cells∧i * 11+11<=(Qr l).length:=by
  intro i a H' hx hi;have hil:i<l.length:=(Lk.1 hi).1;obtain⟨a1,cap1,e1,h1⟩:=hv;rw[hvs]at e1;cases e1;obtain⟨b,e,ro,rfl,hb⟩:=h1 (by omega);exact⟨b,e,ro,rfl,by rw[hx.get b (hw.lt hb)];exact hb,hw.lt hb,VY l i a hi,by rw[W1];omega⟩
 have P9:∀A H',icF H op v A H'->ZC op=true->l.length<=4->Qf5 l=0->Qn prog Qex ⟨Rt prog VW H λu H'=>u=.int .i64 (XT op l)∧∃k,H'=H.up k,X2⟩ (Rt prog VW H λu H'=>u=.int .i64 (XT op l)∧∃k,H'=H.up k) A H':=by
  rintro A H' ⟨hx,r1,g0,hb0⟩ c1 c2 c3;simp(disch:=(first | omega | (simp only[hnP];try omega))) only[Qex,Qk,simprocAttr,r1,g0,hvs]
  refine QE (λm A' H'=>∃i:Nat,i<=l.length∧m=l.length - i∧icF H op v A' H'∧A' 6=.int .i64 (W8 2 (l.take i))∧A' 7=.int .i64 (W8 4 (l.take i))∧A' 8=.int .i64 (W8 3 (l.take i))∧A' 9=.int .i64 (QhX 0 (l.take i))∧A' 38=.slice a0 l.length cap∧A' 39=.int .i64 l.length∧A' 40=.int .i64 i) l.length ?_ ?_
  ·refine⟨0,L7 _,by omega,⟨hx,?_,?_,hb0⟩,?_,?_,?_,?_,?_,?_,?_⟩
   all_goals (try simp only[Qg,simprocAttr,r1,g0,hvs])
   all_goals (first | rfl | simp[W8,QhX])
  ·rintro m A' H' ⟨i,hi,rfl,⟨hx,r1,g0,hb0⟩,r6,r7,r8,r9,r38,r39,r40⟩;simp(disch:=(first | omega | (simp only[hnP];try omega))) only[Qjy,Qk,simprocAttr,r1,g0,r38,r39,r40]
   refine Qf (λh2=>?_) (λh2=>?_)
   ·have h2:i<l.length:=by have:=Lg h2;omega
    obtain⟨a,ha⟩:∃a,l[i]? = some a:=⟨_,La h2⟩;obtain⟨b,e,ro,rfl,hgb,hbn,htk,hle⟩:=hAt i a H' hx ha;have hxn:=hx.next;have d1:(0:Int)<=i∧(i:Int)<l.length:=by omega
    have d3:(i:Int).toNat=i:=by omega
    have ei:IntKind.i64.wrap ((i:Int)+1)=((i+1:Nat):Int):=by rw[w64 (by unfold I64;omega)];omega
    have b2:=QiU 2 (l.take i);have b3:=QiU 3 (l.take i);have b4:=QiU 4 (l.take i);have hlt:(l.take i).length<=1000:=by rw[Sb];omega
    have e2:IntKind.i64.wrap (W8 2 (l.take i)+1)=W8 2 (l.take i)+1:=w64 (by unfold I64;omega);have e3:IntKind.i64.wrap (W8 3 (l.take i)+1)=W8 3 (l.take i)+1:=w64 (by unfold I64;omega);have e4:IntKind.i64.wrap (W8 4 (l.take i)+1)=W8 4 (l.take i)+1:=w64 (by unfold I64;omega);have s2:=QhY 2 (l.take i) a;have s3:=QhY 3 (l.take i) a;have s4:=QhY 4 (l.take i) a;have sn:=QsB (l.take i) 0 a;rw[<- Qoa l i a ha]at s2 s3 s4 sn;obtain⟨k,r,mm,n⟩:=a;simp only[Ar.cells]at htk;simp(disch:=(first | omega | (simp only[hnP];try omega))) only[Qjx,Qjw,Qjv,Qk,simprocAttr,r1,g0,r6,r7,r8,r9,r38,r39,r40,d1,d3,hgb,htk,hle,ei,e2,e3,e4]
    repeat' (first
     | (refine Qf (λh=>?_) (λh=>?_)<;>simp(disch:=(first | omega | (simp only[hnP];try omega))) only[Qk,simprocAttr,r6,r7,r8,r9,r38,r39,r40,ei,e2,e3,e4])
     | fail)
    all_goals refine⟨l.length - (i+1),by omega,i+1,by omega,rfl,⟨(hx.push _).set (by omega) _,?_,?_,?_⟩,?_,?_,?_,?_,?_,?_,?_⟩
    all_goals (first
     | (simp only[Qg,simprocAttr,r1,r38,r39];done)
     | (simp(disch:=(first | omega | (simp only[hnP];try omega))) only[Qqr,simprocAttr,g0];done)
     | (simp only[Q4,Ql];omega)
     | (simp only[Qg,simprocAttr,s2,s3,s4,sn,r6,r7,r8,r9];simp_all;done)
     | (simp only[Qg,simprocAttr,s2,s3,s4,sn,r6,r7,r8,r9];simp_all<;>omega))
   ·have h2:i=l.length:=by have:=Ll h2;omega
    subst h2;rw[Nr]at r6 r7 r8 r9;simp(disch:=(first | omega | (simp only[hnP];try omega))) only[Qk,simprocAttr]
    refine P4 _ _ ⟨hx,?_,g0,hb0⟩ c1 c2 c3 ?_ ?_ ?_ ?_
    all_goals simp only[Qg,simprocAttr,r1,r6,r7,r8,r9]
 have P12:∀A H',icF H op v A H'->A 2=.int .i64 0->ZC op=true->l.length<=4->Qn prog QdG ⟨Rt prog VW H λu H'=>u=.int .i64 (XT op l)∧∃k,H'=H.up k,X2⟩ (Rt prog VW H λu H'=>u=.int .i64 (XT op l)∧∃k,H'=H.up k) A H':=by
  rintro A H' ⟨hx,r1,g0,hb0⟩ r2 c1 c2;simp(disch:=(first | omega | (simp only[hnP];try omega))) only[QdG,Qk,simprocAttr,r1,g0,hvs]
  refine QE (λm A' H'=>∃i:Nat,i<=l.length∧m=l.length - i∧icF H op v A' H'∧Qf5 l=Qf5 (l.drop i)∧A' 25=.slice a0 l.length cap∧A' 26=.int .i64 l.length∧A' 27=.int .i64 i) l.length ?_ ?_
  ·refine⟨0,L7 _,by omega,⟨hx,?_,?_,hb0⟩,?_,?_,?_,?_⟩
   all_goals (try simp only[Qg,simprocAttr,r1,g0,hvs])
   all_goals (first | rfl | simp)
  ·rintro m A' H' ⟨i,hi,rfl,⟨hx,r1,g0,hb0⟩,he,r25,r26,r27⟩;simp(disch:=(first | omega | (simp only[hnP];try omega))) only[QhQ,Qk,simprocAttr,r1,g0,r25,r26,r27]
   refine Qf (λh2=>?_) (λh2=>?_)
   ·have h2:i<l.length:=by have:=Lg h2;omega
    obtain⟨a,ha⟩:∃a,l[i]? = some a:=⟨_,La h2⟩;obtain⟨b,e,ro,rfl,hgb,hbn,htk,hle⟩:=hAt i a H' hx ha;have hxn:=hx.next;have d1:(0:Int)<=i∧(i:Int)<l.length:=by omega
    have d3:(i:Int).toNat=i:=by omega
    have ei:IntKind.i64.wrap ((i:Int)+1)=((i+1:Nat):Int):=by rw[w64 (by unfold I64;omega)];omega
    have q1:=QeA a;have he2:=Qn9 l i a ha;obtain⟨k,r,mm,n⟩:=a;simp only[Ar.cells]at htk q1;simp(disch:=(first | omega | (simp only[hnP];try omega))) only[QhP,Qk,simprocAttr,r1,g0,r25,r26,r27,d1,d3,hgb,htk,hle,ei]
    refine(q1 _).thenW ?_;rintro _ _ hn hw2 ⟨rfl,kk,rfl⟩;have hn2:H'.next+1<=kk:=hn;simp(disch:=(first | omega | (simp only[hnP];try omega))) only[Qk,simprocAttr,r1,g0,r2,r25,r26,r27,ei,Ws]
    refine Qf (λh=>?_) (λh=>?_)
    ·simp(disch:=(first | omega | (simp only[hnP];try omega))) only[Qk,simprocAttr,r1,g0,r2,r25,r26,r27,ei,Ws]
     refine .ext hw (((hx.push _).set (by omega) _).up (show _<=kk from hn)) ⟨?_,_,rfl⟩;unfold XT;simp only[bne,Lr]at h;rw[Le (by simp[c1]),Le (by omega),he,he2,h];simp[h]
    ·simp(disch:=(first | omega | (simp only[hnP];try omega))) only[Qk,simprocAttr,r1,g0,r2,r25,r26,r27,ei,Ws]
     refine⟨l.length - (i+1),by omega,i+1,by omega,rfl,⟨((hx.push _).set (by omega) _).up (show _<=kk from hn),?_,?_,?_⟩,?_,?_,?_,?_⟩
     ·simp only[Qg,simprocAttr,r1]
     ·simp(disch:=(first | omega | (simp only[hnP];try omega))) only[Qqr,simprocAttr,g0]
     ·show H.next<kk;omega
     ·simp only[bne,Lu]at h;rw[he,he2,h];rfl
     all_goals simp only[Qg,simprocAttr,r25,r26]
   ·have h2:i=l.length:=by have:=Ll h2;omega
    subst h2;simp(disch:=(first | omega | (simp only[hnP];try omega))) only[Qk,simprocAttr]
    refine P9 _ _ ⟨hx,?_,g0,hb0⟩ c1 c2 ?_
    ·simp only[Qg,simprocAttr,r1]
    ·rw[he,BU];rfl
 have qv:=QiT op;have hz:XT op l=if ZC op=false then 6 else if l.length>4 then 3 else XT op l:=by
  split
  ·rename_i h;unfold XT;rw[Lc h]
  ·rename_i h;split
   ·rename_i h2;unfold XT;rw[Le h,Lc h2]
   ·rfl
 have hx0:=(Ext.refl H).push (.cells [.int .i64 op,v] Qd false);have hx1:=(Ext.refl H).push (.cells [.int .i64 op,.slice a0 l.length cap] Qd false);simp(disch:=(first | omega | (simp only[hnP];try omega))) only[QlY,Qk,simprocAttr,Ws]
 refine(qv _).thenW ?_;rintro _ _ hn hw2 ⟨rfl,rfl⟩;simp(disch:=(first | omega | (simp only[hnP];try omega))) only[Qk,simprocAttr,Ws]
 refine Qf (λh1=>?_) (λh1=>?_)
 ·simp only[Lr]at h1;simp(disch:=(first | omega | (simp only[hnP];try omega))) only[Qk,simprocAttr,Ws]
  refine .ext hw hx0 ⟨?_,_,rfl⟩;rw[hz,Lc h1]
 ·simp only[Lu]at h1;simp(disch:=(first | omega | (simp only[hnP];try omega))) only[QhR,Qk,simprocAttr,hvs,Ws]
  refine Qf (λh2=>?_) (λh2=>?_)
  ·have h2:4<l.length:=by have:=Lg h2;omega
   simp(disch:=(first | omega | (simp only[hnP];try omega))) only[Qk,simprocAttr,Ws]
   refine .ext hw hx1 ⟨?_,_,rfl⟩;rw[hz,Le (by simp[h1]),Lc h2]
  ·have h2:l.length<=4:=by have:=Ll h2;omega
   simp(disch:=(first | omega | (simp only[hnP];try omega))) only[Qk,simprocAttr]
   refine P12 _ _ ⟨hx1,?_,?_,?_⟩ ?_ h1 h2
   ·simp only[Qg,simprocAttr]
   ·simp(disch:=(first | omega | (simp only[hnP];try omega))) only[Qqr,simprocAttr,hvs]
   ·simp only[Ql];omega
   ·simp only[Qg,simprocAttr]
def Qd3 (f s:Int):List Ar->Bool
 | [x,y]=>(x.k==f)&&(y.k==s)
 | _=>false
def QiV:List Ar->Bool
 | [x,y]=>((x.k==1)&&(y.k==1))&&(x.r.c==y.r.c)
 | _=>false
theorem Qlk (x y:Ar):Qr [x,y]=x.cells++y.cells:=by simp[Qr]
theorem QdJ (d:Nat) (op:Int) (v:Value) (l:List Ar) (f s:Int) (H:Qa) (ro:Bool) (hd:H.get d=some (.cells [.int .i64 op,v] Wa ro)) (hv:XJ H v l) (hl:l.length<=1000):
  Qh prog Ju [.pointer (some ⟨d,0,none⟩),.int .i64 f,.int .i64 s] H λu H'=>u=.bool (Qd3 f s l)∧H'=H:=by
 refine Qne λhw=>?_;have hdn:=hw.lt hd;have hb:∀x y,l=[x,y]->∃b e ro cap,v=.slice (some ⟨b,0,none⟩) 2 cap∧H.get b=some (.cells (x.cells++y.cells) e ro):=by
  rintro x y rfl;obtain⟨a0,cap,rfl,h1⟩:=hv;obtain⟨b,e,ro,rfl,hb⟩:=h1 (by simp);exact⟨b,e,ro,cap,rfl,by rw[<- Qlk];exact hb⟩
 by_cases h:∃x y,l=[x,y]
 ·obtain⟨x,y,rfl⟩:=h;obtain⟨b,e,ro2,cap,rfl,hg⟩:=hb x y rfl;obtain⟨k,r,m,n⟩:=x;obtain⟨k',r',m',n'⟩:=y;simp only[Ar.cells,Nm,LH]at hg;have d0:((0:Int)<=0∧(0:Int)<((2:Nat):Int)):=by omega
  have d1:((0:Int)<=1∧(1:Int)<((2:Nat):Int)):=by omega
  have t0:(0:Int).toNat=0:=rfl;have t1:(1:Int).toNat=1:=rfl;have e2:(((2:Nat):Int)==2)=true:=rfl;simp(disch:=(first | omega | (simp only[hnP];try omega))) only[QcO,Qk,simprocAttr,hd,hg,d0,d1,t0,t1,e2,QbD]
  repeat' (first
   | (refine Qo (λh=>?_) (λh=>?_)<;>simp(disch:=(first | omega | (simp only[hnP];try omega))) only[Qk,simprocAttr,hd,hg,d0,d1,t0,t1,e2,QbD,h])
   | fail)
  all_goals refine .mk (Lb _) ⟨?_,rfl⟩
  all_goals simp_all [Qd3]
 ·have h2:Qd3 f s l=false:=by
   match l,h with
   | [],_=>rfl
   | [_],_=>rfl
   | [x,y],h=>exact absurd ⟨x,y,rfl⟩ h
   | _::_::_::_,_=>rfl
  have h3:((l.length:Int)==2)=false:=by
   have:l.length≠2:=λh4=>h (by
    match l,h4 with
    | [x,y],_=>exact⟨x,y,rfl⟩)
   simp only[LC,Da];omega
  obtain⟨a0,cap,rfl,h1⟩:=hv;rw[h2];simp(disch:=(first | omega | (simp only[hnP];try omega))) only[QcO,Qk,simprocAttr,hd,h3,QbD]
  refine .mk (Lb _) ⟨rfl,rfl⟩
theorem Qmz (d:Nat) (op:Int) (v:Value) (l:List Ar) (H:Qa) (ro:Bool) (hd:H.get d=some (.cells [.int .i64 op,v] Wa ro)) (hv:XJ H v l) (hl:l.length<=1000):
  Qh prog Qbz [.pointer (some ⟨d,0,none⟩)] H λu H'=>u=.bool (QiV l)∧H'=H:=by
 refine Qls λhw=>?_;have hdn:=hw.lt hd;have q:=QdJ d op v l 1 1 H ro hd hv hl
 by_cases h:∃x y,l=[x,y]
 ·obtain⟨x,y,rfl⟩:=h;obtain⟨a0,cap,rfl,h1⟩:=hv;obtain⟨b,e,ro2,rfl,hg⟩:=h1 (by simp);rw[Qlk]at hg;obtain⟨k,r,m,n⟩:=x;obtain⟨k',r',m',n'⟩:=y;simp only[Ar.cells,Nm,LH,Lo,L9]at hg hd q ⊢;have d0:((0:Int)<=0∧(0:Int)<((0+1+1:Nat):Int)):=by omega
  have d1:((0:Int)<=1∧(1:Int)<((0+1+1:Nat):Int)):=by omega
  have t0:(0:Int).toNat=0:=rfl;have t1:(1:Int).toNat=1:=rfl;simp(disch:=(first | omega | (simp only[hnP];try omega))) only[Qat,Qk,simprocAttr,XB]
  refine q.thenW ?_;rintro _ _ hn hw2 ⟨rfl,rfl⟩;simp(disch:=(first | omega | (simp only[hnP];try omega))) only[Qk,simprocAttr,XB]
  refine Qo (λh=>?_) (λh=>?_)
  ·simp(disch:=(first | omega | (simp only[hnP];try omega))) only[Qk,simprocAttr,hd,hg,d0,d1,t0,t1,XB,h]
   refine .mk (Lb _) ⟨?_,rfl⟩;simp_all [Qd3,QiV]
  ·simp(disch:=(first | omega | (simp only[hnP];try omega))) only[Qk,simprocAttr,hd,hg,d0,d1,t0,t1,XB,h]
   refine .mk (Lb _) ⟨?_,rfl⟩;simp_all [Qd3,QiV]
 ·have h2:Qd3 1 1 l=false∧QiV l=false:=by
   match l,h with
   | [],_=>exact⟨rfl,rfl⟩
   | [_],_=>exact⟨rfl,rfl⟩
   | [x,y],h=>exact absurd ⟨x,y,rfl⟩ h
   | _::_::_::_,_=>exact⟨rfl,rfl⟩
  rw[h2.1]at q;rw[h2.2];simp(disch:=(first | omega | (simp only[hnP];try omega))) only[Qat,Qk,simprocAttr,XB]
  refine q.thenW ?_;rintro _ _ hn hw2 ⟨rfl,rfl⟩;simp(disch:=(first | omega | (simp only[hnP];try omega))) only[Qk,simprocAttr,XB]
  refine .mk (Lb _) ⟨rfl,rfl⟩
theorem QgO (d b cap:Nat) (op:Int) (x y:Ar) (H:Qa) (ro:Bool) (e:TypeId) (hd:H.get d=some (.cells [.int .i64 op,.slice (some ⟨b,0,none⟩) 2 cap] Wa ro)) (hb:H.get b=some (.cells (Qr [x,y]) e false)):
  Qh prog GI [.pointer (some ⟨d,0,none⟩)] H λu H'=>u=.tuple #[]∧H'=(H.set b (.cells (Qr [y,y]) e false)).set b (.cells (Qr [y,x]) e false):=by
 refine Qmw λhw=>?_;have hdn:=hw.lt hd;have hbn:=hw.lt hb;have d0:((0:Int)<=0∧(0:Int)<((2:Nat):Int)):=by omega
 have d1:((0:Int)<=1∧(1:Int)<((2:Nat):Int)):=by omega
 have t0:(0:Int).toNat=0:=rfl;have t1:(1:Int).toNat=1:=rfl;rw[Qlk]at hb;obtain⟨k,r,m,n⟩:=x;obtain⟨k',r',m',n'⟩:=y;simp only[Qlk,Ar.cells,Nm,LH]at hb ⊢;simp(disch:=(first | omega | (simp only[hnP];try omega))) only[Qf1,Qk,simprocAttr,hd,hb,d0,d1,t0,t1,Qlr]
 refine .mk (by simp only[Q4];exact Lb _) ⟨rfl,rfl⟩
variable {P:Program} {A:Env} {H:Qa} {k:Value->Qa->Prop}
theorem QBk {t t' e:TypeId} {x:Operand} {a:Option Addr} {n c:Nat} (h1:P.underlying t=some (.slice e)) (hx:ev A x=.slice a n c):
  pr P (.gen (.binOp .eql t x (.const (.slice none 0 0)) t')) false A H k=k (.bool a.isNone) H:=by
 have hc:ev A (.const (.slice none 0 0))=.slice none 0 0:=rfl;have e:rop P (.gen (.binOp .eql t x (.const (.slice none 0 0)) t')) A H=some (.bool a.isNone,H):=by
  cases a<;>simp[rop,aop,Qik,QuB,Qp8,Kx,hx,hc,h1,aeq,Qln,Qej,GH,QmO,Qus]
 rw[QFw];unfold QG4;rw[e,Qt]
theorem QqX:∀l:List Ar,(Qr l).all (·.oneCell')=true
 | []=>rfl
 | a::l=>by
  rw[QbZ,Fo,QqX l];rfl
theorem QDD (v:Value) (l:List Ar) (H:Qa) (hv:XJ H v l) (hl:l.length<=1000):Qh prog Ya [v] H λu H'=>
  Ext H H'∧((l=[]∧(u=.slice none 0 0∨u=.slice (some ⟨H.next,0,none⟩) 0 0∧H'=H.push (.cells [] Qe false)))∨(l≠[]∧u=.slice (some ⟨H.next+1,0,none⟩) l.length (UNK+11)∧H'=(H.push (.cells [] Qe false)).push (.cells (Qr l) Qe false))):=by
 refine Qc4 λhw=>?_;obtain⟨a0,cap,rfl,h1⟩:=hv;have hx1:=(Ext.refl H).push (.cells [] Qe false);simp(disch:=(first | omega | (simp only[hnP];try omega))) only[Jf,Qk,simprocAttr]
 rw[QBk (a:=a0) (e:=Qe) (n:=l.length) (c:=cap) (by kernel_rfl) (by simp only[Qzq,simprocAttr])];cases l with
 | nil=>
  cases a0 with
  | none=>
   simp(disch:=(first | omega | (simp only[hnP];try omega))) only[Qb,simprocAttr,Qqr,simprocAttr,Option.isNone,XR]
   exact .mk (Lb _) ⟨.refl _,.inl (.inl rfl)⟩
  | some x=>
   have hr:∀H1:Qa,J6 Qe 11 88 (.slice (some ⟨H.next,0,none⟩) 0 0) (.slice (some x) 0 cap) H1=some (.slice (some ⟨H.next,0,none⟩) 0 0,H1):=λH1=>by simp[J6,Qcu]
   simp(disch:=(first | omega | (simp only[hnP];try omega))) only[Qb,simprocAttr,Qqr,simprocAttr,Option.isNone,L9]
   unfold Qiq;rw[hr,Qt];simp(disch:=(first | omega | (simp only[hnP];try omega))) only[Qb,simprocAttr,Qqr,simprocAttr,XR]
   exact .mk hx1.next ⟨hx1,.inl (.inr ⟨rfl,rfl⟩)⟩
 | cons a l=>
  obtain⟨b,e,ro,rfl,hb⟩:=h1 (by simp);have hbn:=hw.lt hb;have hlen:=W1 (a::l);have hn:Qcu 11 (.slice (some ⟨b,0,none⟩) (l.length+1) cap) (H.push (.cells [] Qe false))=some (l.length+1,Qr (a::l)):=by
   rw[QdL (c:=Qr (a::l)) (e:=e) (ro:=ro) (by rw[QoQ (by omega)];exact hb) (by omega) (by rw[hlen,Lo];omega),Lw,LF (by rw[hlen,Lo];exact Lb _)]
  rw[Lo]at hl;simp(disch:=(first | omega | (simp only[hnP];try omega))) only[Qb,simprocAttr,Qqr,simprocAttr,Option.isNone]
  refine QnU (c:=[]) (ro:=false) (e':=Qe) hn (QqX _) (by omega) (QoP rfl) (by simp) (by omega) (by omega) (by decide) (by omega) ?_;simp(disch:=(first | omega | (simp only[hnP];try omega))) only[Qb,simprocAttr,Qqr,simprocAttr,XR]
  refine .mk (hx1.push _).next ⟨hx1.push _,?_⟩;simp
def QqY (op:Int) (l:List Ar):Bool:=(op==16)&&Qd3 1 3 l
def QrZ (op:Int) (l:List Ar):Bool:=(op==10||op==11)&&Qd3 1 2 l
def QpA (op:Int):List Ar->Bool
 | [x,y]=>(op==11)&&QiV [x,y]&&!(decide (x.r.n<=y.r.n))
 | _=>false
theorem QhZ {f s:Int} {l:List Ar} (h:Qd3 f s l=true):∃x y,l=[x,y]:=by
 match l,h with
 | [x,y],_=>exact⟨x,y,rfl⟩
theorem QBl (d:Nat) (op:Int) (v:Value) (l:List Ar) (H:Qa) (hd:H.get d=some (.cells [.int .i64 op,v] Wa false)) (hv:XJ H v l) (hl:l.length<=1000) (hw1:∀x y,l=[x,y]->∃b cap,v=.slice (some ⟨b,0,none⟩) 2 cap∧H.get b=some (.cells (Qr l) Qe false)):
    Qh prog XW [.pointer (some ⟨d,0,none⟩)] H λu H'=>u=.bool (QrZ op l)∧(QrZ op l=false->H'=H)∧(QrZ op l=true->∃x y b cap,l=[x,y]∧v=.slice (some ⟨b,0,none⟩) 2 cap∧H'=(H.set b (.cells (Qr [y,y]) Qe false)).set b (.cells (Qr [y,x]) Qe false)):=by
  refine QkQ λhw=>?_;have hdn:=hw.lt hd;have q:=QdJ d op v l 1 2 H false hd hv hl;have qt:=λb cap x y e=>QgO d b cap op x y H false e;have hc:QrZ op l=((op==10||op==11)&&Qd3 1 2 l):=rfl;rw[hc];have ht:=@QhZ 1 2 l;generalize Qd3 1 2 l=r at *;simp(disch:=(first | omega | (simp only[hnP];try omega))) only[Qd2,Qk,simprocAttr,hd,X6]
  repeat' (first
    | (refine Qo (λh=>?_) (λh=>?_)<;>(try simp only[bne,Lr,Lu]at h)<;>simp(disch:=(first | omega | (simp only[hnP];try omega))) only[Qk,simprocAttr,hd,X6,h])
    | (refine Qf (λh=>?_) (λh=>?_)<;>(try simp only[bne,Lr,Lu]at h)<;>simp(disch:=(first | omega | (simp only[hnP];try omega))) only[Qk,simprocAttr,hd,X6,h])
    | (refine q.thenW ?_;rintro _ _ hn hw2 ⟨rfl,rfl⟩;simp(disch:=(first | omega | (simp only[hnP];try omega))) only[Qk,simprocAttr,hd,X6])
    | fail)
  all_goals (first
    | (refine .mk (Lb _) ⟨by simp,λ_=>rfl,by simp⟩)
    | (obtain⟨x,y,hxy⟩:=ht (by assumption)
       obtain⟨b,cap,hvb,hb⟩:=hw1 x y hxy;subst hxy hvb;refine(qt b cap x y _ hd hb).thenW ?_;rintro _ _ hn hw2 ⟨rfl,rfl⟩;simp(disch:=(first | omega | (simp only[hnP];try omega))) only[Qk,simprocAttr,X6]
       refine .mk (by simp only[Q4];exact Lb _) ⟨by simp_all,by simp_all,λ_=>⟨x,y,b,cap,rfl,rfl,rfl⟩⟩))
theorem Qzz (d:Nat) (op:Int) (v:Value) (l:List Ar) (H:Qa) (hd:H.get d=some (.cells [.int .i64 op,v] Wa false)) (hv:XJ H v l) (hl:l.length<=1000) (hw1:∀x y,l=[x,y]->∃b cap,v=.slice (some ⟨b,0,none⟩) 2 cap∧H.get b=some (.cells (Qr l) Qe false)):
    Qh prog Xp [.pointer (some ⟨d,0,none⟩)] H λu H'=>u=.bool (QqY op l)∧(QqY op l=false->H'=H)∧(QqY op l=true->∃x y,l=[x,y]∧H'=(H.push (.cells (Qr [x,x,y]) Qe false)).set d (.cells [.int .i64 op,.slice (some ⟨H.next,0,none⟩) 3 3] Wa false)):=by
  refine QjV λhw=>?_;have hdn:=hw.lt hd;have q:=QdJ d op v l 1 3 H false hd hv hl;have hc:QqY op l=((op==16)&&Qd3 1 3 l):=rfl;rw[hc];have ht:=@QhZ 1 3 l;have hdz:¬d=H.next:=by omega
  generalize Qd3 1 3 l=r at *;simp(disch:=(first | omega | (simp only[hnP];try omega))) only[Qdg,Qk,simprocAttr,hd,W4]
  repeat' (first
    | (refine Qo (λh=>?_) (λh=>?_)<;>(try simp only[bne,Lr,Lu]at h)<;>simp(disch:=(first | omega | (simp only[hnP];try omega))) only[Qk,simprocAttr,hd,W4,h])
    | (refine Qf (λh=>?_) (λh=>?_)<;>(try simp only[bne,Lr,Lu]at h)<;>simp(disch:=(first | omega | (simp only[hnP];try omega))) only[Qk,simprocAttr,hd,W4,h])
    | (refine q.thenW ?_;rintro _ _ hn hw2 ⟨rfl,rfl⟩;simp(disch:=(first | omega | (simp only[hnP];try omega))) only[Qk,simprocAttr,hd,W4])
    | fail)
  all_goals (first
    | (refine .mk (Lb _) ⟨by simp,λ_=>rfl,by simp⟩)
    | (obtain⟨x,y,hxy⟩:=ht (by assumption)
       obtain⟨b,cap,hvb,hb⟩:=hw1 x y hxy;subst hxy hvb;obtain⟨k,r,m,n⟩:=x;obtain⟨k',r',m',n'⟩:=y;have hbn:=hw.lt hb;have d0:((0:Int)<=0∧(0:Int)<((2:Nat):Int)):=by omega
       have d1:((0:Int)<=1∧(1:Int)<((2:Nat):Int)):=by omega
       have t0:(0:Int).toNat=0:=rfl;have t1:(1:Int).toNat=1:=rfl;simp only[Qlk,Ar.cells,Nm,LH]at hb;simp(disch:=(first | omega | (simp only[hnP];try omega))) only[sxA,sxB,Nat.reduceBEq,Nat.reduceEqDiff,reduceCtorEq,mxA,mxB,Nat.reduceAdd,reduceIte,Nat.reduceLeDiff,splice,mxD,mxB,Nat.reduceAdd,reduceIte,Nat.reduceLeDiff,splice,hd,hb,d0,d1,t0,t1,W4]
       rw[Lc (by decide)];simp(disch:=(first | omega | (simp only[hnP];try omega))) only[Qb,simprocAttr,Qqr,simprocAttr,hd,hb,hdz,LN,d0,d1,t0,t1,W4]
       refine .mk (by simp only[Q4,Ql];omega) ⟨rfl,λh=>h.elim,λ_=>⟨_,_,rfl,rfl⟩⟩))
theorem QBm (d:Nat) (op:Int) (v:Value) (l:List Ar) (H:Qa) (hd:H.get d=some (.cells [.int .i64 op,v] Wa false)) (hv:XJ H v l) (hl:l.length<=1000) (hw1:∀x y,l=[x,y]->∃b cap,v=.slice (some ⟨b,0,none⟩) 2 cap∧H.get b=some (.cells (Qr l) Qe false)):
  Qh prog XX [.pointer (some ⟨d,0,none⟩)] H λu H'=>u=.bool (QpA op l)∧(QpA op l=false->H'=H)∧(QpA op l=true->∃x y b cap,l=[x,y]∧v=.slice (some ⟨b,0,none⟩) 2 cap∧H'=(H.set b (.cells (Qr [y,y]) Qe false)).set b (.cells (Qr [y,x]) Qe false)):=by
 refine QkR λhw=>?_;have hdn:=hw.lt hd;have q:=Qmz d op v l H false hd hv hl
 by_cases h2:∃x y,l=[x,y]
 ·obtain⟨x,y,hxy⟩:=h2;obtain⟨b,cap,hvb,hb⟩:=hw1 x y hxy;subst hxy hvb;have qt:=QgO d b cap op x y H false Qe hd hb;have hbn:=hw.lt hb;have hc:QpA op [x,y]=((op==11)&&QiV [x,y]&&!(decide (x.r.n<=y.r.n))):=rfl;rw[hc];have hb2:H.get b=some (.cells (x.cells++y.cells) Qe false):=by rw[<- Qlk];exact hb
  have d0:((0:Int)<=0∧(0:Int)<((2:Nat):Int)):=by omega
  have d1:((0:Int)<=1∧(1:Int)<((2:Nat):Int)):=by omega
  have t0:(0:Int).toNat=0:=rfl;have t1:(1:Int).toNat=1:=rfl;obtain⟨k,r,m,n⟩:=x;obtain⟨k',r',m',n'⟩:=y;simp only[Ar.cells,Nm,LH]at hb2;generalize QiV _=al at *;simp(disch:=(first | omega | (simp only[hnP];try omega))) only[VB,Qk,simprocAttr,hd,hb2,d0,d1,t0,t1,Wj]
  repeat' (first
   | (refine Qo (λh=>?_) (λh=>?_)<;>(try simp only[bne,Lr,Lu]at h)<;>simp(disch:=(first | omega | (simp only[hnP];try omega))) only[Qk,simprocAttr,hd,hb2,d0,d1,t0,t1,Wj,h])
   | (refine Qf (λh=>?_) (λh=>?_)<;>(try simp only[bne,Lr,Lu]at h)<;>simp(disch:=(first | omega | (simp only[hnP];try omega))) only[Qk,simprocAttr,hd,hb2,d0,d1,t0,t1,Wj,h])
   | (refine q.thenW ?_;rintro _ _ hn hw2 ⟨rfl,rfl⟩;simp(disch:=(first | omega | (simp only[hnP];try omega))) only[Qk,simprocAttr,hd,hb2,d0,d1,t0,t1,Wj])
   | (refine qt.thenW ?_;rintro _ _ hn hw2 ⟨rfl,rfl⟩;simp(disch:=(first | omega | (simp only[hnP];try omega))) only[Qk,simprocAttr,Wj])
   | fail)
  all_goals (first
   | (refine .mk (Lb _) ⟨by simp,λ_=>rfl,by simp⟩)
   | (refine .mk (by simp only[Q4];exact Lb _) ⟨rfl,λh=>h.elim,λ_=>⟨_,_,b,cap,rfl,rfl,rfl⟩⟩))
 ·have h3:QiV l=false∧QpA op l=false:=by
   match l,h2 with
   | [],_=>exact⟨rfl,rfl⟩
   | [_],_=>exact⟨rfl,rfl⟩
   | [x,y],h=>exact absurd ⟨x,y,rfl⟩ h
   | _::_::_::_,_=>exact⟨rfl,rfl⟩
  rw[h3.1]at q;rw[h3.2];simp(disch:=(first | omega | (simp only[hnP];try omega))) only[VB,Qk,simprocAttr,hd,Wj]
  repeat' (first
   | (refine Qo (λh=>?_) (λh=>?_)<;>(try simp only[bne,Lr,Lu]at h)<;>simp(disch:=(first | omega | (simp only[hnP];try omega))) only[Qk,simprocAttr,hd,Wj,h])
   | (refine Qf (λh=>?_) (λh=>?_)<;>(try simp only[bne,Lr,Lu]at h)<;>simp(disch:=(first | omega | (simp only[hnP];try omega))) only[Qk,simprocAttr,hd,Wj,h])
   | (refine q.thenW ?_;rintro _ _ hn hw2 ⟨rfl,rfl⟩;simp(disch:=(first | omega | (simp only[hnP];try omega))) only[Qk,simprocAttr,hd,Wj])
   | fail)
  all_goals exact .mk (Lb _) ⟨rfl,λ_=>rfl,by simp⟩
def Qau (ib:Int×Bool) (a:Ar):Ar×Int:=
 let b:=WP a
 if(b.2==0)=false then(a,b.2)
 else if(b.1.k==3)=true then(let im:=JS b.1.n ib.1 ib.2;({b.1 with n:=im.1},im.2))
 else(b.1,0)
def XG (ib:Int×Bool):List Ar->List Ar×Int
 | []=>([],0)
 | a::l=>if((Qau ib a).2==0)=true then((Qau ib a).1::(XG ib l).1,(XG ib l).2) else([],(Qau ib a).2)
def Jg (op:Int) (l:List Ar):List Ar:=
 if QqY op l=true then(match l with | [x,y]=>[x,x,y] | l=>l)
 else if QrZ op l=true then l.reverse
 else if QpA op l=true then l.reverse
 else l
def Xd (op:Int) (l:List Ar):Int×List Ar×Int:=
 if(XT op l==0)=false then(0,[],XT op l)
 else if((XG (WZ op l) l).2==0)=false then(0,[],(XG (WZ op l) l).2)
 else(op,Jg op (XG (WZ op l) l).1,0)
theorem Qnp (ib:Int×Bool):∀ (l:List Ar) (i:Nat) (a:Ar),l[i]? = some a->XG ib (l.drop i)=if((Qau ib a).2==0)=true then((Qau ib a).1::(XG ib (l.drop (i+1))).1,(XG ib (l.drop (i+1))).2) else([],(Qau ib a).2)
 | [],i,a,h=>by simp at h
 | b::l,0,a,h=>by simp at h;subst h;rfl
 | b::l,i+1,a,h=>by simpa using Qnp ib l i a (by simpa using h)
theorem QsC (a:Ar) (h:I64 a.n):I64 (WP a).1.n:=by
 have h0:I64 0:=by unfold I64;omega
 unfold WP Qf4;split
 ·split
  ·exact h0
  ·split
   ·exact h0
   ·exact h
 ·exact h0
theorem QwZ (c:List Value) (o:Nat) (l:List Value) (h:o+l.length<=c.length):(splice c o l).length=c.length:=by
 simp[splice];omega
theorem Qr0 (c:List Value) (o:Nat) (l:List Value) (h:o<=c.length) (j:Nat) (hj:j<o):(splice c o l)[j]? = c[j]? := by
 unfold splice;rw[LY (by simp;omega),Nl,Lc hj]
theorem QzA (c:List Value) (o:Nat) (v:Value) (h:o<c.length):(splice c o [v])[o]? = some v:=by
 unfold splice;rw[LR (by simp;omega)];simp[show min o c.length=o by omega]
theorem Qg3 (l m:List Ar):Qr (l++m)=Qr l++Qr m:=by simp[Qr]
theorem Qr1 (d:List Ar) (a b:Ar) (l:List Ar):splice (Qr (d++a::l)) (d.length * 11) b.cells=Qr (d++b::l):=by
 have hd:=W1 d;unfold splice;rw[Qg3,Qg3,QbZ,QbZ,<- hd,List.take_left,WJ];have:(Qr d++(a.cells++Qr l)).drop ((Qr d).length+11)=Qr l:=by
  rw[show(Qr d).length+11=(Qr d).length+a.cells.length by rw[WJ],<- Rc,List.drop_left,List.drop_left]
 rw[this]
theorem QH4 (f:Fn) (xs ys:Array Value):(Value.func f xs ys).cells.toList=[.func f xs ys]:=Nu rfl rfl
theorem QH5 (f:Fn) (xs ys:Array Value):(Value.func f xs ys).oneCell'=true:=Nu rfl rfl
theorem QFN {P:Program} (f:FuncId) (l:List Value) (H:Qa) (k:Value->Qa->Prop):cvK (.func (.func f) #[] #[]) P l H k=Qh P f l H k:=by
 show Qh P f (([]:List Value)++l++[]) H k=_;rw[LH,Na]
theorem QgP (a:Ar):List.take 11 a.cells=a.cells:=rfl
theorem QiW (a:Ar):(a.cells.all λv=>v.oneCell')=true:=rfl
theorem QiX {op:Int} {l:List Ar} (h:(XT op l==0)=true):l.length<=4:=by
 unfold XT at h;split at h
 ·simp at h
 ·split at h
  ·simp at h
  ·omega
def QqZ (H:Qa) (v:Value) (l:List Ar):Prop:=∃a cap,v=.slice a l.length cap∧(0<l.length->∃b,a=some ⟨b,0,none⟩∧H.get b=some (.cells (Qr l) Qe false))
theorem QqZ.ars {H:Qa} {v:Value} {l:List Ar} (h:QqZ H v l):XJ H v l:=by
 obtain⟨a,c,e,h⟩:=h;refine⟨a,c,e,λh0=>?_⟩;obtain⟨b,e1,hg⟩:=h h0;exact⟨b,_,_,e1,hg⟩
theorem QqZ.ext {H H':Qa} {v:Value} {l:List Ar} (hw:H.Wf) (hx:Ext H H') (h:QqZ H v l):QqZ H' v l:=by
 obtain⟨a,c,e,h⟩:=h;refine⟨a,c,e,λh0=>?_⟩;obtain⟨b,e1,hg⟩:=h h0;exact⟨b,e1,by rw[hx.get b (hw.lt hg)];exact hg⟩
def Qll (op:Int) (l:List Ar) (H:Qa) (u:Value) (H':Qa):Prop:=
 Ext H H'∧∃v',u=.tuple #[.agg #[.int .i64 (Xd op l).1,v'],.int .i64 (Xd op l).2.2]∧QqZ H' v' (Xd op l).2.1∧∀a n c,v'=.slice (some a) n c->H.next<=a.block∧a.block<H'.next
theorem Qty {op:Int} {l:List Ar} {H H':Qa} (hx:Ext H H') {e:Int} (h:Xd op l=(0,[],e)):Qll op l H (.tuple #[.agg #[.int .i64 0,.slice none 0 0],.int .i64 e]) H':=by
 unfold Qll;rw[h];exact⟨hx,_,rfl,⟨none,0,rfl,λh=>absurd h (NX 0)⟩,λa n c h=>by cases h⟩
def Qtz:PC:=(.seq (.ops [⟨some 105,.mv (t 7),none,false⟩,⟨some 106,.gen (.nilCheck (t 105)),none,false⟩,⟨some 107,.fldA 0 (t 106),none,false⟩,⟨some 108,.ld false 1 (t 107),none,false⟩,⟨some 109,.mv (t 7),none,false⟩,⟨some 110,.gen (.nilCheck (t 109)),none,false⟩,⟨some 111,.fldA 1 (t 110),none,false⟩,⟨some 112,.ld false 1 (t 111),none,false⟩,⟨some 113,.build [.int .i64 0,.slice none 0 0] [(0,1,(t 108)),(1,1,(t 112))],none,false⟩,⟨none,.st 2 (t 2) (t 113),none,false⟩,⟨some 3,.mv (.const (.int .i64 0)),none,false⟩]) .ret)
section
variable (op:Int) (l:List Ar) (H:Qa)
abbrev KC:Env->Qa->Prop:=Rt prog QiP H (Qll op l H)
theorem QBn (e:Nat->Env->Qa->Prop) (k:Env->Qa->Prop) (A:Env) (H':Qa) (D:Nat) (cv:Value) (m:List Ar) (hx:Ext H H') (hD:H.next+2<=D)
  (r2:A 2=.pointer (some ⟨H.next+1,0,none⟩)) (r7:A 7=.pointer (some ⟨D,0,none⟩)) (gR:H'.get (H.next+1)=some (.cells [.int .i64 0,.slice none 0 0] Qd false))
  (gD:H'.get D=some (.cells [.int .i64 op,cv] Wa false)) (hc:QqZ H' cv m) (hf:∀a n c,cv=.slice (some a) n c->H.next+2<=a.block∧a.block<H'.next) (hm:Xd op l=(op,m,0)):
  Qn prog Qtz
   ⟨KC op l H,e⟩ k A H':=by
 obtain⟨ca,cap,rfl,h1⟩:=hc;simp only[Qtz,Qb,simprocAttr,r2,r7,gR,gD,QcN];have hx2:Ext H (H'.set (H.next+1) (.cells [.int .i64 op,.slice ca m.length cap] Qd false)):=hx.set (by omega) _;refine .mk hx2.next ⟨hx2,_,by rw[hm],?_,λa n c h=>by have:=hf a n c h;rw[Q4];omega⟩;rw[hm];refine⟨ca,cap,rfl,λhn=>?_⟩;obtain⟨b,rfl,hb⟩:=h1 hn;have:=hf _ _ _ rfl;simp only at this;exact⟨b,rfl,by rw[Qm,Le (by omega)];exact hb⟩
theorem Qvb {α:Type} {l:List α} (h:l.length=2):∃x y,l=[x,y]:=by
 match l,h with
 | [x,y],_=>exact⟨x,y,rfl⟩
theorem Qw0 {m:List Ar} (h1:QqY op m=false) (h2:QrZ op m=false) (h3:QpA op m=false):Jg op m=m:=by simp[Jg,h1,h2,h3]
theorem QzB (e:Nat->Env->Qa->Prop) (k:Env->Qa->Prop) (A:Env) (H':Qa) (D:Nat) (cv:Value) (m:List Ar) (hx:Ext H H') (hw:H'.Wf) (hD:H.next+2<=D)
  (r2:A 2=.pointer (some ⟨H.next+1,0,none⟩)) (r7:A 7=.pointer (some ⟨D,0,none⟩)) (gR:H'.get (H.next+1)=some (.cells [.int .i64 0,.slice none 0 0] Qd false))
  (gD:H'.get D=some (.cells [.int .i64 op,cv] Wa false)) (hc:QqZ H' cv m) (hl:m.length<=1000) (hf:∀a n c,cv=.slice (some a) n c->H.next+2<=a.block∧¬a.block=D∧a.block<H'.next)
  (hw1:∀x y,m=[x,y]->∃b cap,cv=.slice (some ⟨b,0,none⟩) 2 cap∧H'.get b=some (.cells (Qr m) Qe false)) (hm:Xd op l=(op,Jg op m,0)):
  Qn prog Qbs ⟨KC op l H,e⟩ k A H':=by
 have tail:=λA2 H2 cv2 m2 hx2 a b c d f g h=>QBn op l H e k A2 H2 D cv2 m2 hx2 hD a b c d f g h;have hDn:=hw.lt gD;have hxn:=hx.next;have hRn:=hw.lt gR;obtain⟨n6,e6⟩:∃n6,Qbs=.seq (.seq (.ops [⟨some 95,.bslice n6 1 3 [.nilFunc,.nilFunc,.nilFunc] [(0,(.func Xp)),(1,(.func XW)),(2,(.func XX))],none,false⟩,⟨some 96,.lenS (t 95),none,false⟩,⟨some 97,.mv (.const (.int .i64 0)),none,false⟩]) (.block 4 (.loop Qev))) Qtz:=⟨_,rfl⟩;rw[e6,K9];generalize hT:Qn prog Qtz ⟨KC op l H,e⟩ k=T;have tailT:=λA2 H2 cv2 m2 hx2 a b c d f g h=>(by rw[<- hT];exact tail A2 H2 cv2 m2 hx2 a b c d f g h:T A2 H2);simp(disch:=(first | omega | (simp only[hnP];try omega))) only[Qk,simprocAttr,QH4,QH5,Nat.reduceMul,Nat.reduceLeDiff,N3]
 generalize hbl:Blk.cells [.func (.func Xp) #[] #[],.func (.func XW) #[] #[],.func (.func XX) #[] #[]] _ false=bl;have hxp:Ext H' (H'.push bl):=(Ext.refl _).push _;have gF:(H'.push bl).get H'.next=some bl:=by rw[Qi,Lc rfl]
 have hwp:=hw.push bl;have hpn:(H'.push bl).next=H'.next+1:=rfl;generalize hHp:H'.push bl=Hp at hxp gF hwp hpn;subst hbl;have hxHp:=hx.trans hxp;have gDp:Hp.get D=some (.cells [.int .i64 op,cv] Wa false):=by rw[hxp.get _ hDn];exact gD
 have gRp:Hp.get (H.next+1)=some (.cells [.int .i64 0,.slice none 0 0] Qd false):=by rw[hxp.get _ hRn];exact gR
 have hcp:QqZ Hp cv m:=hc.ext hw hxp;have hw1p:∀x y,m=[x,y]->∃b cap,cv=.slice (some ⟨b,0,none⟩) 2 cap∧Hp.get b=some (.cells (Qr m) Qe false):=λx y h=>by
  obtain⟨b,cap,h1,h2⟩:=hw1 x y h;exact⟨b,cap,h1,by rw[hxp.get _ (hw.lt h2)];exact h2⟩
 have q1:=Qzz D op cv m Hp gDp hcp.ars hl hw1p;have q2:=QBl D op cv m Hp gDp hcp.ars hl hw1p;have q3:=QBm D op cv m Hp gDp hcp.ars hl hw1p;have hsw:∀x y,m=[x,y]->∀b cap,cv=.slice (some ⟨b,0,none⟩) 2 cap->Xd op l=(op,[y,x],0)->∀A2,A2 2=.pointer (some ⟨H.next+1,0,none⟩)->A2 7=.pointer (some ⟨D,0,none⟩)->T A2 ((Hp.set b (.cells (Qr [y,y]) Qe false)).set b (.cells (Qr [y,x]) Qe false)):=by
  intro x y hxy b cap hcv hm2 A2 a2 a7;have hbn:=hf _ _ _ hcv;simp only at hbn;refine tailT A2 _ cv [y,x] ((hxHp.set (by omega) _).set (by omega) _) a2 a7 ?_ ?_ ⟨some ⟨b,0,none⟩,cap,by rw[hcv];rfl,λ_=>⟨b,rfl,by rw[Qm,Lc rfl]⟩⟩ (λa n c h=>⟨(hf a n c h).1,by have:=(hf a n c h).2.2;have:=hxp.next;simp only[Q4];omega⟩) hm2
  ·rw[Qm,Le (by omega),Qm,Le (by omega)];exact gRp
  ·rw[Qm,Le (by omega),Qm,Le (by omega)];exact gDp
 refine QE (λm' A2 H2=>∃i:Nat,i<=3∧m'=3 - i∧H2=Hp∧A2 2=.pointer (some ⟨H.next+1,0,none⟩)∧A2 7=.pointer (some ⟨D,0,none⟩)∧A2 95=.slice (some ⟨H'.next,0,none⟩) 3 3∧A2 96=.int .i64 ((3:Nat):Int)∧A2 97=.int .i64 i∧(0<i->QqY op m=false)∧(1<i->QrZ op m=false)∧(2<i->QpA op m=false)) 3 ?_ ?_
 ·refine⟨0,L7 _,by omega,rfl,?_,?_,?_,?_,?_,λh=>by omega,λh=>by omega,λh=>by omega⟩
  all_goals simp only[Qg,simprocAttr,r2,r7]
  all_goals rfl
 ·rintro m' A2 H2 ⟨i,hi,rfl,rfl,a2,a7,a95,a96,a97,n1,n2,n3⟩;simp only[Qev,Qjs,sxA,sxB,Nat.reduceBEq,Nat.reduceEqDiff,reduceCtorEq,mxA,mxB,Nat.reduceAdd,reduceIte,Nat.reduceLeDiff,splice,a96,a97];refine Qf (λh2=>?_) (λh2=>?_)
  ·have h2:i<3:=by have:=Lg h2;omega
   have c1:(0:Int)<=i∧(i:Int)<((3:Nat):Int):=by omega
   have c3:(i:Int).toNat=i:=by omega
   have ei:IntKind.i64.wrap ((i:Int)+1)=((i+1:Nat):Int):=by rw[w64 (by unfold I64;omega)];omega
   simp only[sxA,sxB,Nat.reduceBEq,Nat.reduceEqDiff,reduceCtorEq,mxA,mxB,Nat.reduceAdd,reduceIte,Nat.reduceLeDiff,splice,a7,a95,a97,c1,c3,gF];obtain rfl | rfl | rfl:i=0∨i=1∨i=2:=by omega
   ·simp only[sxA,sxB,Nat.reduceBEq,Nat.reduceEqDiff,reduceCtorEq,mxA,mxB,Nat.reduceAdd,reduceIte,Nat.reduceLeDiff,splice,QFN];refine q1.thenW ?_;rintro _ H3 hn3 hw3 ⟨rfl,hF,hTr⟩;simp only[sxA,sxB,Nat.reduceBEq,Nat.reduceEqDiff,reduceCtorEq,mxA,mxB,Nat.reduceAdd,reduceIte,Nat.reduceLeDiff,splice];cases hd:QqY op m with
    | false=>
     rw[hF hd];simp only[sxA,sxB,Nat.reduceBEq,Nat.reduceEqDiff,reduceCtorEq,mxA,mxB,Nat.reduceAdd,reduceIte,Nat.reduceLeDiff,splice,a97,ei];refine⟨2,by omega,1,by omega,rfl,rfl,?_,?_,?_,?_,?_,λ_=>(by first | exact hd | trivial),λh=>by omega,λh=>by omega⟩
     all_goals simp only[Qg,simprocAttr,a2,a7,a95,a96]
    | true=>
     obtain⟨x,y,hxy,hH3⟩:=hTr hd;have hr:Jg op m=[x,x,y]:=by unfold Jg;rw[Lc hd,hxy]
     simp only[Qb,simprocAttr];rw[hH3];refine tailT _ _ (.slice (some ⟨H2.next,0,none⟩) 3 3) [x,x,y] ((hxHp.push _).set (by omega) _) (by first | exact a2 | simp only[Qg,simprocAttr,a2]) (by first | exact a7 | simp only[Qg,simprocAttr,a7]) ?_ ?_ ⟨_,_,rfl,λ_=>⟨H2.next,rfl,by rw[Qm,Le (by omega),Qi,Lc rfl]⟩⟩ (λa n c h=>by cases h;simp only[Q4,Ql];omega) (by rw[hm,hr])
     ·rw[Qm,Le (by omega),Qi,Le (by omega)];exact gRp
     ·rw[Qm,Lc rfl]
   ·have hd:=n1 (by omega);simp only[sxA,sxB,Nat.reduceBEq,Nat.reduceEqDiff,reduceCtorEq,mxA,mxB,Nat.reduceAdd,reduceIte,Nat.reduceLeDiff,splice,QFN];refine q2.thenW ?_;rintro _ H3 hn3 hw3 ⟨rfl,hF,hTr⟩;simp only[sxA,sxB,Nat.reduceBEq,Nat.reduceEqDiff,reduceCtorEq,mxA,mxB,Nat.reduceAdd,reduceIte,Nat.reduceLeDiff,splice];cases hp:QrZ op m with
    | false=>
     rw[hF hp];simp only[sxA,sxB,Nat.reduceBEq,Nat.reduceEqDiff,reduceCtorEq,mxA,mxB,Nat.reduceAdd,reduceIte,Nat.reduceLeDiff,splice,a97,ei];refine⟨1,by omega,2,by omega,rfl,rfl,?_,?_,?_,?_,?_,λ_=>(by first | exact hd | trivial),λ_=>(by first | exact hp | trivial),λh=>by omega⟩
     all_goals simp only[Qg,simprocAttr,a2,a7,a95,a96]
    | true=>
     obtain⟨x,y,b,cap,hxy,hcv,hH3⟩:=hTr hp;have hr:Jg op m=[y,x]:=by simp only[Jg,hd,hp];rw[hxy];rfl
     simp only[Qb,simprocAttr];rw[hH3];exact hsw x y hxy b cap hcv (by rw[hm,hr]) _ (by first | exact a2 | simp only[Qg,simprocAttr,a2]) (by first | exact a7 | simp only[Qg,simprocAttr,a7])
   ·have hd:=n1 (by omega);have hp:=n2 (by omega);simp only[sxA,sxB,Nat.reduceBEq,Nat.reduceEqDiff,reduceCtorEq,mxA,mxB,Nat.reduceAdd,reduceIte,Nat.reduceLeDiff,splice,QFN];refine q3.thenW ?_;rintro _ H3 hn3 hw3 ⟨rfl,hF,hTr⟩;simp only[sxA,sxB,Nat.reduceBEq,Nat.reduceEqDiff,reduceCtorEq,mxA,mxB,Nat.reduceAdd,reduceIte,Nat.reduceLeDiff,splice];cases hq:QpA op m with
    | false=>
     rw[hF hq];simp only[sxA,sxB,Nat.reduceBEq,Nat.reduceEqDiff,reduceCtorEq,mxA,mxB,Nat.reduceAdd,reduceIte,Nat.reduceLeDiff,splice,a97,ei];refine⟨0,by omega,3,by omega,rfl,rfl,?_,?_,?_,?_,?_,λ_=>(by first | exact hd | trivial),λ_=>(by first | exact hp | trivial),λ_=>(by first | exact hq | trivial)⟩
     all_goals simp only[Qg,simprocAttr,a2,a7,a95,a96]
    | true=>
     obtain⟨x,y,b,cap,hxy,hcv,hH3⟩:=hTr hq;have hr:Jg op m=[y,x]:=by simp only[Jg,hd,hp,hq];rw[hxy];rfl
     simp only[Qb,simprocAttr];rw[hH3];exact hsw x y hxy b cap hcv (by rw[hm,hr]) _ (by first | exact a2 | simp only[Qg,simprocAttr,a2]) (by first | exact a7 | simp only[Qg,simprocAttr,a7])
  ·have h2:i=3:=by have:=Ll h2;omega
   subst h2;simp only[Qb,simprocAttr];exact tailT _ _ cv m hxHp (by first | exact a2 | simp only[Qg,simprocAttr,a2]) (by first | exact a7 | simp only[Qg,simprocAttr,a7]) gRp gDp hcp (λa n c h=>⟨(hf a n c h).1,by have:=(hf a n c h).2.2;have:=hxp.next;omega⟩) (by rw[hm,Qw0 op (n1 (by omega)) (n2 (by omega)) (n3 (by omega))])
theorem QBo (b:Ar) (x:Int):splice b.cells 10 [.int .i64 x]=({b with n:=x}:Ar).cells:=by simp[splice,Ar.cells]
theorem Qvc (ib:Int×Bool):XG ib []=([],0):=rfl
theorem QBp (e:Nat->Env->Qa->Prop) (k:Env->Qa->Prop) (A:Env) (H':Qa) (D V cb cap:Nat) (ca:Option Addr) (vs:List Value) (eV:TypeId) (hx:Ext H H') (hw:H'.Wf) (hD:H.next+2<=D) (hV:H.next+2<=V) (hDV:¬D=V)
  (r2:A 2=.pointer (some ⟨H.next+1,0,none⟩)) (r5:A 5=.int .i64 (WZ op l).1) (r6:A 6=.bool (WZ op l).2) (r7:A 7=.pointer (some ⟨D,0,none⟩)) (r8:A 8=.slice (some ⟨V,0,none⟩) l.length l.length)
  (gR:H'.get (H.next+1)=some (.cells [.int .i64 0,.slice none 0 0] Qd false))
  (gD:H'.get D=some (.cells [.int .i64 op,.slice ca l.length cap] Wa false)) (gV:H'.get V=some (.cells vs eV false)) (hvl:vs.length=l.length) (hvs:∀j,j<l.length->vs[j]? = some (.pointer (some ⟨cb,j * 11,none⟩)))
  (hcb:0<l.length->ca=some ⟨cb,0,none⟩∧H.next+2<=cb∧¬cb=D∧¬cb=V∧H'.get cb=some (.cells (Qr l) Qe false)) (hca:∀a,ca=some a->H.next+2<=a.block∧¬a.block=D∧a.block<D)
  (hck:(XT op l==0)=true) (hI:∀a∈l,I64 a.n):Qn prog VV ⟨KC op l H,e⟩ k A H':=by
 have hl4:=QiX hck;have e12:VV=.seq (.seq (.ops [⟨some 58,.mv (t 8),none,false⟩,⟨some 59,.lenS (t 58),none,false⟩,⟨some 60,.mv (.const (.int .i64 0)),none,false⟩]) (.block 2 (.loop QdF))) Qbt:=rfl;rw[e12,K9];have e7:Qbt=.seq (.label 0) Qbs:=rfl;generalize hT:Qn prog Qbt ⟨KC op l H,e⟩ k=T;generalize hib:WZ op l=ib at *;obtain⟨ib1,ib2⟩:=ib;simp only at r5 r6;have hic:∀m,XG (ib1,ib2) l=(m,0)->Xd op l=(op,Jg op m,0):=λm h=>by
  unfold Xd;rw[hib,h,hck];rfl
 have hie:∀m x,XG (ib1,ib2) l=(m,x)->(x==0)=false->Xd op l=(0,[],x):=λm x h hx=>by
  unfold Xd;rw[hib,h,hck];simp[hx]
 simp only[Qb,simprocAttr,r8];refine QE (λm' A2 H2=>∃ (i:Nat) (dn:List Ar),i<=l.length∧m'=l.length - i∧dn.length=i∧XG (ib1,ib2) l=(dn++(XG (ib1,ib2) (l.drop i)).1,(XG (ib1,ib2) (l.drop i)).2)∧Ext H H2∧H2.Wf∧
  A2 2=.pointer (some ⟨H.next+1,0,none⟩)∧A2 5=.int .i64 ib1∧A2 6=.bool ib2∧A2 7=.pointer (some ⟨D,0,none⟩)∧A2 58=.slice (some ⟨V,0,none⟩) l.length l.length∧A2 59=.int .i64 (l.length:Int)∧A2 60=.int .i64 i∧
  H2.get (H.next+1)=some (.cells [.int .i64 0,.slice none 0 0] Qd false)∧H2.get D=some (.cells [.int .i64 op,.slice ca l.length cap] Wa false)∧H2.get V=some (.cells vs eV false)∧(0<l.length->H2.get cb=some (.cells (Qr (dn++l.drop i)) Qe false))) l.length ?_ ?_
 ·refine⟨0,[],L7 _,by omega,rfl,rfl,hx,hw,?_,?_,?_,?_,?_,?_,?_,gR,gD,gV,λh=>(hcb h).2.2.2.2⟩
  all_goals simp only[Qg,simprocAttr,r2,r5,r6,r7]
  all_goals rfl
 ·rintro m' A2 H2 ⟨i,dn,hi,rfl,hdn,hcan,hx2,hw2,a2,a5,a6,a7,a58,a59,a60,gR,gD,gV,gC⟩;simp only[QdF,Qb,simprocAttr,a59,a60];refine Qf (λh2=>?_) (λh2=>?_)
  ·have h2:i<l.length:=by have:=Lg h2;omega
   obtain⟨hca1,hcb2,hcD,hcV,_⟩:=hcb (by omega);have gC:=gC (by omega);have c1:(0:Int)<=i∧(i:Int)<l.length:=by omega
   have c3:(i:Int).toNat=i:=by omega
   have ei:IntKind.i64.wrap ((i:Int)+1)=((i+1:Nat):Int):=by rw[w64 (by unfold I64;omega)];omega
   have hv:=hvs i h2;have hp:=La h2;have hdr:l.drop i=l[i]::l.drop (i+1):=Nh h2;have had:=Qnp (ib1,ib2) l i _ hp;have hIa:=hI _ (Nb h2);generalize l[i]=a at hp hdr had hIa;rw[hdr]at gC;have hlen:=W1 (dn++a::l.drop (i+1));have hla:(dn++a::l.drop (i+1)).length=l.length:=by simp;omega
   rw[hla]at hlen;have c4:i * 11+11<=l.length * 11:=by omega
   have d1:=VY (dn++a::l.drop (i+1)) i a (by rw[LR (by omega),hdn,BJ];rfl);simp only[QhK,Qb,simprocAttr,a58,a60,c1,c3,gV,hv,gC,hlen,c4,d1];refine(Qpz a H2).thenW ?_;rintro _ _ hn3 hw3 ⟨rfl,k3,rfl⟩;simp only[Wm]at hn3;have hn':=QsC a hIa;have hca2:Qau (ib1,ib2) a=if((WP a).2==0)=false then(a,(WP a).2) else if((WP a).1.k==3)=true then({(WP a).1 with n:=(JS (WP a).1.n ib1 ib2).1},(JS (WP a).1.n ib1 ib2).2) else((WP a).1,0):=rfl
   generalize WP a=bb at hn' hca2;obtain⟨b,be⟩:=bb;simp only at hn' hca2;have hx3:=hx2.up hn3;have gR3:(H2.up k3).get (H.next+1)=some (.cells [.int .i64 0,.slice none 0 0] Qd false):=by rw[W3];exact gR
   have gD3:(H2.up k3).get D=some (.cells [.int .i64 op,.slice ca l.length cap] Wa false):=by rw[W3];exact gD
   have gV3:(H2.up k3).get V=some (.cells vs eV false):=by rw[W3];exact gV
   have gC3:(H2.up k3).get cb=some (.cells (Qr (dn++a::l.drop (i+1))) Qe false):=by rw[W3];exact gC
   generalize H2.up k3=H3 at hw3 hx3 gR3 gD3 gV3 gC3;simp only[Qb,simprocAttr,WJ,QgP,QiW];obtain⟨H4,hH4⟩:∃h,h=(H3.push (.cells [.int .i64 0,.int .i64 0,.int .i64 0,.int .i64 0,.int .i64 0,.int .i64 0,.int .i64 0,.int .i64 0,.int .i64 0,.int .i64 0,.int .i64 0] Qe false)).set H3.next (.cells b.cells Qe false):=⟨_,rfl⟩;have hw4:H4.Wf:=by rw[hH4];exact(hw3.push _).set (by rw[Qi,Lc rfl]) _
   have hx4:Ext H3 H4:=by rw[hH4];exact((Ext.refl H3).push _).set (Lb _) _
   have gB:H4.get H3.next=some (.cells b.cells Qe false):=by rw[hH4,Qm,Lc rfl]
   have lR:=hw3.lt gR3;have lD:=hw3.lt gD3;have lV:=hw3.lt gV3;have lC:=hw3.lt gC3;have gR4:=(hx4.get _ lR).trans gR3;have gD4:=(hx4.get _ lD).trans gD3;have gV4:=(hx4.get _ lV).trans gV3;have gC4:=(hx4.get _ lC).trans gC3;have hx04:=hx3.trans hx4;have b0:b.cells[0]? = some (.int .i64 b.k):=rfl;have b10:b.cells[10]? = some (.int .i64 b.n):=rfl;simp only[<- hH4,Qb,simprocAttr];cases q1:be==0 with
   | false=>
    have hx5:Ext H (H4.set (H.next+1) (.cells [.int .i64 0,.slice none 0 0] Qd false)):=hx04.set (by omega) _;simp only[Qb,simprocAttr,a2,gR4,QcN];refine .mk hx5.next (Qty hx5 (hie _ _ hcan ?_ |>.trans ?_))
    all_goals (rw[had,hca2,q1];simp[q1])
   | true=>
    simp only[Qju,Qb,simprocAttr,gB,b0];have hs:=λb2:Ar=>Qr1 dn a b2 (l.drop (i+1));simp only[splice,hdn,WJ]at hs;have fin:∀ (b2:Ar) (H5:Qa) (A3:Env),Qau (ib1,ib2) a=(b2,0)->Ext H H5->H5.Wf->H5.get (H.next+1)=some (.cells [.int .i64 0,.slice none 0 0] Qd false)->H5.get D=some (.cells [.int .i64 op,.slice ca l.length cap] Wa false)->H5.get V=some (.cells vs eV false)->H5.get cb=some (.cells (Qr (dn++a::l.drop (i+1))) Qe false)->
      A3 2=.pointer (some ⟨H.next+1,0,none⟩)->A3 5=.int .i64 ib1->A3 6=.bool ib2->A3 7=.pointer (some ⟨D,0,none⟩)->A3 58=.slice (some ⟨V,0,none⟩) l.length l.length->A3 59=.int .i64 (l.length:Int)->A3 60=.int .i64 ((i+1:Nat):Int)->
      Qx4 (λm' A2 H2=>∃ (i:Nat) (dn:List Ar),i<=l.length∧m'=l.length - i∧dn.length=i∧XG (ib1,ib2) l=(dn++(XG (ib1,ib2) (l.drop i)).1,(XG (ib1,ib2) (l.drop i)).2)∧Ext H H2∧H2.Wf∧
  A2 2=.pointer (some ⟨H.next+1,0,none⟩)∧A2 5=.int .i64 ib1∧A2 6=.bool ib2∧A2 7=.pointer (some ⟨D,0,none⟩)∧A2 58=.slice (some ⟨V,0,none⟩) l.length l.length∧A2 59=.int .i64 (l.length:Int)∧A2 60=.int .i64 i∧
  H2.get (H.next+1)=some (.cells [.int .i64 0,.slice none 0 0] Qd false)∧H2.get D=some (.cells [.int .i64 op,.slice ca l.length cap] Wa false)∧H2.get V=some (.cells vs eV false)∧(0<l.length->H2.get cb=some (.cells (Qr (dn++l.drop i)) Qe false))) (l.length - i) A3 (H5.set cb (.cells (Qr (dn++b2::l.drop (i+1))) Qe false)):=by
     intro b2 H5 A3 hb2 hx5 hw5 gR5 gD5 gV5 gC5 p2 p5 p6 p7 p58 p59 p60;refine⟨l.length - (i+1),by omega,i+1,dn++[b2],by omega,rfl,by simp[hdn],?_,hx5.set (by omega) _,hw5.set gC5 _,p2,p5,p6,p7,p58,p59,p60,?_,?_,?_,λ_=>?_⟩
     ·rw[hcan,had,hb2];simp
     ·rw[Qm,Le (by omega)];exact gR5
     ·rw[Qm,Le (by omega)];exact gD5
     ·rw[Qm,Le (by omega)];exact gV5
     ·rw[Qm,Lc rfl,LQ];rfl
    cases q2:b.k==3 with
    | false=>
     have hnew:Qau (ib1,ib2) a=(b,0):=by rw[hca2,q1,q2];rfl
     simp only[Qb,simprocAttr,gB,gC4,hlen,c4,WJ,QgP,QiW,hs,a60,ei];refine fin b H4 _ hnew hx04 hw4 gR4 gD4 gV4 gC4 ?_ ?_ ?_ ?_ ?_ ?_ ?_
     all_goals simp only[Qg,simprocAttr,a2,a5,a6,a7,a58,a59]
    | true=>
     have hca3:Qau (ib1,ib2) a=({b with n:=(JS b.n ib1 ib2).1},(JS b.n ib1 ib2).2):=by rw[hca2,q1,q2];rfl
     simp only[Qjt,Qb,simprocAttr,gB,b10,a5,a6];refine(Ql4 b.n ib1 ib2 hn' H4).thenW ?_;rintro _ H4 _ hw4 ⟨rfl,rfl⟩;generalize JS b.n ib1 ib2=im at hca3;obtain⟨im1,im2⟩:=im;simp only at hca3;have hsp:=QBo b im1;simp only[splice,Nat.reduceAdd,Lo,L9]at hsp;have gB5:∀bl,(H4.set H3.next bl).get H3.next=some bl:=λbl=>by rw[Qm,Lc rfl]
     have wB5:∀bl,(H4.set H3.next bl).Wf:=λbl=>hw4.set gB bl;have xB5:∀bl,Ext H (H4.set H3.next bl):=λbl=>hx04.set (by have:=hx3.next;omega) bl;have oB5:∀bl id,¬id=H3.next->(H4.set H3.next bl).get id=H4.get id:=λbl id h=>by rw[Qm,Le h]
     have tl:(b.cells.take 10++(Value.int .i64 im1::b.cells.drop 11))=({b with n:=im1}:Ar).cells:=by simp[Ar.cells]
     have nR:¬H.next+1=H3.next:=by omega
     have nD:¬D=H3.next:=by omega
     have nV:¬V=H3.next:=by omega
     have nC:¬cb=H3.next:=by omega
     simp only[Qb,simprocAttr,gB,WJ,QgP,QiW,tl];cases q3:im2==0 with
     | false=>
      have hx5:∀bl,Ext H ((H4.set H3.next bl).set (H.next+1) (.cells [.int .i64 0,.slice none 0 0] Qd false)):=λbl=>(xB5 bl).set (by omega) _;simp only[Qb,simprocAttr,a2,nR,gR4,QcN];refine .mk (hx5 _).next (Qty (hx5 _) (hie _ _ hcan ?_ |>.trans ?_))
      all_goals (rw[had,hca3];simp[q3])
     | true=>
      have hnew:Qau (ib1,ib2) a=({b with n:=im1},0):=by rw[hca3];simp at q3;rw[q3]
      simp only[Qb,simprocAttr,nC,gB,gC4,hlen,c4,WJ,QgP,QiW,hs,a60,ei];refine fin {b with n:=im1} (H4.set H3.next _) _ hnew (xB5 _) (wB5 _) ((oB5 _ _ nR).trans gR4) ((oB5 _ _ nD).trans gD4) ((oB5 _ _ nV).trans gV4) ((oB5 _ _ nC).trans gC4) ?_ ?_ ?_ ?_ ?_ ?_ ?_
      all_goals simp only[Qg,simprocAttr,a2,a5,a6,a7,a58,a59]
  ·have h2:i=l.length:=by have:=Ll h2;omega
   subst h2;simp only[Qb,simprocAttr];rw[<- hT,e7,K9,QoK];rw[BU,Qvc,Na]at hcan;refine QzB op l H e k _ H2 D _ dn hx2 hw2 hD (by simp only[Qg,simprocAttr,a2]) (by simp only[Qg,simprocAttr,a7]) gR gD ⟨ca,cap,by rw[hdn],λh=>?_⟩ (by omega) (λa n c h=>by cases h;have:=hca _ rfl;have:=hw2.lt gD;omega) (λx y h=>?_) (hic _ hcan)
   ·have h0:0<l.length:=by omega
    obtain⟨hca1,_⟩:=hcb h0;have:=gC h0;rw[BU,Na]at this;exact⟨cb,hca1,this⟩
   ·have h0:0<l.length:=by rw[<- hdn,h];simp
    obtain⟨hca1,_⟩:=hcb h0;have:=gC h0;rw[BU,Na]at this;exact⟨cb,cap,by rw[hca1,<- hdn,h];rfl,this⟩
theorem QzC (z:Array Value) (m:Nat):(Za z m).length=m:=by simp[Za]
theorem QtA (v:Value) (hv:XJ H v l) (hl:l.length<=1000) (hI:∀a∈l,I64 a.n):Qh prog Qiu [.agg #[.int .i64 op,v]] H (Qll op l H):=by
 refine QrR λhw=>?_;obtain⟨a0,c0,rfl,_⟩:=id hv;have hx0:Ext H ((H.push (.cells [.int .i64 op,.slice a0 l.length c0] Qd false)).push (.cells [.int .i64 0,.slice none 0 0] Qd false)):=((Ext.refl H).push _).push _;have ne1:¬H.next=H.next+1:=by omega
 have gI:((H.push (.cells [.int .i64 op,.slice a0 l.length c0] Qd false)).push (.cells [.int .i64 0,.slice none 0 0] Qd false)).get H.next=some (.cells [.int .i64 op,.slice a0 l.length c0] Qd false):=by rw[Qi,Ql,Le ne1,Qi,Lc rfl]
 have gR:((H.push (.cells [.int .i64 op,.slice a0 l.length c0] Qd false)).push (.cells [.int .i64 0,.slice none 0 0] Qd false)).get (H.next+1)=some (.cells [.int .i64 0,.slice none 0 0] Qd false):=by rw[Qi,Ql,Lc rfl]
 have hw0:=(hw.push (.cells [.int .i64 op,.slice a0 l.length c0] Qd false)).push (.cells [.int .i64 0,.slice none 0 0] Qd false);have hn0:((H.push (.cells [.int .i64 op,.slice a0 l.length c0] Qd false)).push (.cells [.int .i64 0,.slice none 0 0] Qd false)).next=H.next+2:=by simp only[Ql]
 simp only[QlX,Qb,simprocAttr];refine QoL (λ_ _ _=>False) 0 ?_ (λ_ _ _ h=>h.elim);generalize (H.push (.cells [.int .i64 op,.slice a0 l.length c0] Qd false)).push (.cells [.int .i64 0,.slice none 0 0] Qd false)=H0 at *;generalize jmK 0 _ 0 _=e;simp only[QhO,Qb,simprocAttr,gI];refine(Qtx op _ l H0 (hv.ext hw hx0) hl hI).thenW ?_;rintro _ _ hn1 hw1 ⟨rfl,k1,rfl⟩;simp only[Wm]at hn1;have hx1:=hx0.up hn1;have gI1:(H0.up k1).get H.next=some (.cells [.int .i64 op,.slice a0 l.length c0] Qd false):=by rw[W3];exact gI
 have gR1:(H0.up k1).get (H.next+1)=some (.cells [.int .i64 0,.slice none 0 0] Qd false):=by rw[W3];exact gR
 have hm1:H.next+2<=(H0.up k1).next:=by simp only[Wm];omega
 generalize H0.up k1=H1 at *;simp only[Qb,simprocAttr];cases hck:XT op l==0 with
 | false=>
  have hx2:Ext H (H1.set (H.next+1) (.cells [.int .i64 0,.slice none 0 0] Qd false)):=hx1.set (by omega) _;simp only[Qb,simprocAttr,gR1,QcN];exact .mk hx2.next (Qty hx2 (by unfold Xd;rw[Lc hck]))
 | true=>
  have hl4:=QiX hck;simp only[QhN,Qb,simprocAttr,gI1];refine(Qo4 op _ l H1 (hv.ext hw hx1) hl).thenW ?_;rintro _ _ hn2 hw2 ⟨rfl,k2,rfl⟩;simp only[Wm]at hn2;have hx2:=hx1.up hn2;have gI2:(H1.up k2).get H.next=some (.cells [.int .i64 op,.slice a0 l.length c0] Qd false):=by rw[W3];exact gI1
  have gR2:(H1.up k2).get (H.next+1)=some (.cells [.int .i64 0,.slice none 0 0] Qd false):=by rw[W3];exact gR1
  have hm2:H.next+2<=(H1.up k2).next:=by simp only[Wm];omega
  generalize H1.up k2=H2 at *;simp only[Qb,simprocAttr,gI2];refine⟨rfl,(QDD _ l H2 (hv.ext hw hx2) hl).thenW ?_⟩;rintro u H3 hn3 hw3 ⟨hx3,hcl⟩
  -- what the clone is
  obtain⟨ca,cap,cb,rfl,hcb⟩:∃ca cap cb,u=.slice ca l.length cap∧((0<l.length->ca=some ⟨cb,0,none⟩∧H2.next<=cb∧H3.get cb=some (.cells (Qr l) Qe false))∧(∀a,ca=some a->H2.next<=a.block∧a.block<H3.next)):=by
   rcases hcl with⟨rfl,rfl | ⟨rfl,rfl⟩⟩ | ⟨hne,rfl,rfl⟩
   ·exact⟨none,0,0,rfl,λh=>absurd h (NX 0),λa h=>by cases h⟩
   ·exact⟨_,0,0,rfl,λh=>absurd h (NX 0),λa h=>by cases h;simp only[Ql];omega⟩
   ·refine⟨_,_,H2.next+1,rfl,λ_=>⟨rfl,by omega,by rw[Qi,Lc (by simp only[Ql])]⟩,λa h=>by cases h;simp only[Ql];omega⟩
  obtain⟨hcb,hca⟩:=hcb;have gR3:=(hx3.get _ (hw2.lt gR2)).trans gR2;have hx03:=hx2.trans hx3;have hxn3:=hx3.next;have hbl:Qs H2.next 6 (.int .i64 op)=true:=rfl;simp only[Qb,simprocAttr];refine⟨hx3.eqB,?_⟩;refine⟨⟨by omega,by omega,by omega,by omega⟩,?_⟩;generalize hT:Qn prog VV ⟨Rt prog QiP H (Qll op l H),e⟩ (Rt prog QiP H (Qll op l H))=T;generalize hzs:Za _ _=zs;have hzl:zs.length=l.length:=by rw[<- hzs,QzC];omega
  have hnat:((l.length:Int)).toNat=l.length:=by omega
  simp only[hnat];generalize hH4:(H3.push (.cells [.int .i64 op,.slice ca l.length cap] Wa false)).push (.cells zs _ false)=H4;have ne3:¬H3.next=H3.next+1:=by omega
  have hx4:Ext H3 H4:=by rw[<- hH4];exact((Ext.refl H3).push _).push _
  have hw4:H4.Wf:=by rw[<- hH4];exact(hw3.push _).push _
  have gD4:H4.get H3.next=some (.cells [.int .i64 op,.slice ca l.length cap] Wa false):=by rw[<- hH4,Qi,Ql,Le ne3,Qi,Lc rfl]
  obtain⟨eV,gV4⟩:∃eV,H4.get (H3.next+1)=some (.cells zs eV false):=⟨_,by rw[<- hH4,Qi,Ql,Lc rfl]⟩;have gR4:=(hx4.get _ (hw3.lt gR3)).trans gR3;have gC4:0<l.length->H4.get cb=some (.cells (Qr l) Qe false):=λh=>(hx4.get _ (hw3.lt (hcb h).2.2)).trans (hcb h).2.2;have hcb3:0<l.length->cb<H3.next:=λh=>hw3.lt (hcb h).2.2;have hx04:=hx03.trans hx4;clear hH4 hzs;refine QE (λm' A2 H5=>∃ (i:Nat) (cs:List Value),i<=l.length∧m'=l.length - i∧cs.length=l.length∧(∀j,j<i->cs[j]? = some (.pointer (some ⟨cb,j * 11,none⟩)))∧Ext H H5∧H5.Wf∧
   A2 2=.pointer (some ⟨H.next+1,0,none⟩)∧A2 5=.int .i64 (WZ op l).1∧A2 6=.bool (WZ op l).2∧A2 7=.pointer (some ⟨H3.next,0,none⟩)∧A2 8=.slice (some ⟨H3.next+1,0,none⟩) l.length l.length∧A2 44=.int .i64 (l.length:Int)∧A2 45=.int .i64 i∧
   H5.get (H.next+1)=some (.cells [.int .i64 0,.slice none 0 0] Qd false)∧H5.get H3.next=some (.cells [.int .i64 op,.slice ca l.length cap] Wa false)∧H5.get (H3.next+1)=some (.cells cs eV false)∧(0<l.length->H5.get cb=some (.cells (Qr l) Qe false))) l.length ?_ ?_
  ·refine⟨0,zs,L7 _,by omega,hzl,λj h=>by omega,hx04,hw4,?_,?_,?_,?_,?_,?_,?_,gR4,gD4,gV4,gC4⟩
   all_goals simp only[Qg,simprocAttr]
   all_goals rfl
  ·rintro m' A2 H5 ⟨i,cs,hi,rfl,hcsl,hcs,hx5,hw5,a2,a5,a6,a7,a8,a44,a45,gR5,gD5,gV5,gC5⟩;simp only[QhM,Qb,simprocAttr,a44,a45];refine Qf (λh2=>?_) (λh2=>?_)
   ·have h2:i<l.length:=by have:=Lg h2;omega
    obtain⟨hc1,hc2,hc3⟩:=hcb (by omega);have hc4:=hcb3 (by omega);have c1:(0:Int)<=i∧(i:Int)<l.length:=by omega
    have c3:(i:Int).toNat=i:=by omega
    have c4:i+1<=l.length:=h2;have ei:IntKind.i64.wrap ((i:Int)+1)=((i+1:Nat):Int):=by rw[w64 (by unfold I64;omega)];omega
    subst hc1;have hpt:(Value.pointer (some ⟨cb,i * 11,none⟩)).cells.toList=[.pointer (some ⟨cb,i * 11,none⟩)]:=rfl;have hpo:(Value.pointer (some ⟨cb,i * 11,none⟩)).oneCell'=true:=rfl;have hsl:=QwZ cs i [.pointer (some ⟨cb,i * 11,none⟩)] (by simp;omega);have hsa:=QzA cs i (.pointer (some ⟨cb,i * 11,none⟩)) (by omega);have hsb:=λj (hj:j<i)=>Qr0 cs i [.pointer (some ⟨cb,i * 11,none⟩)] (by omega) j hj;simp only[splice,Lo,L9,LP,Nm,LH]at hsl hsa hsb;simp only[QhL,Qb,simprocAttr,a7,a8,a45,c1,c3,c4,gD5,gV5,hcsl,hpt,hpo,ei];refine⟨l.length - (i+1),by omega,i+1,_,by omega,rfl,hsl.trans hcsl,λj hj=>?_,hx5.set (by omega) _,hw5.set gV5 _,?_,?_,?_,?_,?_,?_,?_,?_,?_,by rw[Qm,Lc rfl],λh=>?_⟩
    ·rcases Nq j i with h | h
     ·rw[hsb j h];exact hcs j h
     ·rw[show j=i by omega];exact hsa
    all_goals (try simp only[Qg,simprocAttr,a2,a5,a6,a7,a8,a44])
    ·rw[Qm,Le (by omega)];exact gR5
    ·rw[Qm,Le (by omega)];exact gD5
    ·rw[Qm,Le (by omega)];exact gC5 h
   ·have h2:i=l.length:=by have:=Ll h2;omega
    subst h2;simp only[Qb,simprocAttr];rw[<- hT];refine QBp op l H e _ _ H5 H3.next (H3.next+1) cb cap ca cs eV hx5 hw5 (by omega) (by omega) (by omega) (by simp only[Qg,simprocAttr,a2]) (by simp only[Qg,simprocAttr,a5]) (by simp only[Qg,simprocAttr,a6]) (by simp only[Qg,simprocAttr,a7]) (by simp only[Qg,simprocAttr,a8]) gR5 gD5 gV5 hcsl hcs (λh=>?_) (λa h=>?_) hck hI
    ·obtain⟨hc1,hc2,hc3⟩:=hcb h;have hc4:=hcb3 h;exact⟨hc1,by omega,by omega,by omega,gC5 h⟩
    ·have:=hca a h;exact⟨by omega,by omega,by omega⟩
end
end Go.Proofs.YtfofbicfabokbaaGreatDoor.code
