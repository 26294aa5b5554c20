/- Registers. -/
import Derived.Test.YtiepokkmhhginaaGreatDoorC2Code
import Derived.Test.YtiepokkmhhginaaGreatDoorLibA
import Derived.Test.YtiepokkmhhginaaGreatDoorC0Code
set_option linter.unusedVariables false
set_option linter.unusedSimpArgs false
set_option maxRecDepth 100000
set_option maxHeartbeats 4000000
set_option maxHeartbeats 2000000
noncomputable section
namespace Go.Proofs.YtiepokkmhhginaaGreatDoor.code
open Go.Ab
structure Rg where
 c:Int
 n:Int
 deriving DecidableEq
def Rg.cells (r:Rg):List Value:=[.int .i64 r.c,.int .i64 r.n]
def QeU (c:Int):Int×Int:=if c=2 then(4,4) else if c=8 then(0,1) else if c=1∨c=3∨c=4∨c=5∨c=6∨c=7 then(0,16) else(0,0)
def Q9 (r:Rg):Bool:=decide ((QeU r.c).1<=r.n∧r.n<(QeU r.c).1+(QeU r.c).2)
theorem QpO (c:Int) (H:Qa):Qg prog QcV [.int .i64 c] H λu H'=>u=.tuple #[.int .i64 (QeU c).1,.int .i64 (QeU c).2]∧H'=H:=by
 refine Qoq λhw=>?_;simp only[QgA,Qb,simprocAttr,Qad]
 repeat' (first | (refine QG (λh=>?_) (λh=>?_)<;>simp only[Qb,simprocAttr,Qad]) | (refine Qi (λh=>?_) (λh=>?_)<;>simp only[Qb,simprocAttr,Qad]))
 all_goals refine .mk (Lb _) ⟨?_,rfl⟩
 all_goals simp_all [QeU]
theorem QCe (c:Int):0<=(QeU c).1∧(QeU c).1<=4∧0<=(QeU c).2∧(QeU c).2<=16:=by
 unfold QeU;split
 ·decide
 split
 ·decide
 split<;>decide
theorem J8 (r:Rg) (H:Qa):Qg prog YI [.agg r.cells.toArray] H λu H'=>u=.bool (Q9 r)∧∃m,H'=H.up m:=by
 refine QrH λhw=>?_;obtain⟨c,n⟩:=r;have hb:=QCe c;have e1:IntKind.i64.wrap ((QeU c).1+(QeU c).2)=(QeU c).1+(QeU c).2:=w64 (by unfold I64;omega);simp only[Rg.cells,QjV,Qb,simprocAttr];refine(QpO c _).thenW ?_;rintro _ H1 hn1 hw1 ⟨rfl,rfl⟩;simp only[Qb,simprocAttr,Qh2,e1];refine QG (λh=>?_) (λh=>?_)
 all_goals simp only[Qb,simprocAttr,Qh2,e1,h]
 all_goals refine .ext hw ((Ext.refl H).push _) ⟨?_,_,rfl⟩
 all_goals (simp_all [Q9]<;>omega)
def Qj0 (r:Rg):Int:=if Q9 r=false then 0 else if r.c=7 then 32 else if r.c=6 then 16 else if r.c=5∨r.c=8 then 8 else if r.c=4 then 4 else if r.c=3 then 2 else 1
theorem QvK (r:Rg) (H:Qa):Qg prog QiH [.agg r.cells.toArray] H λu H'=>u=.int .i64 (Qj0 r)∧∃m,H'=H.up m:=by
 refine QtD λhw=>?_;have q:=J8 r;obtain⟨v,hv⟩:∃v,Q9 r=v:=⟨_,rfl⟩;rw[hv]at q;obtain⟨c,n⟩:=r;simp only[Rg.cells]at q;simp only[Rg.cells,QmB,Jq,Jr,Js,Qb,simprocAttr];refine(q _).thenW ?_;rintro _ H1 hn1 hw1 ⟨rfl,m,rfl⟩;simp only[Qe]at hn1;have hx:Ext H ((H.push (.cells [.int .i64 c,.int .i64 n] QL false)).up m):=((Ext.refl H).push _).up (by simp only[Qe];exact hn1);simp only[Qb,simprocAttr,QaP];cases v
 all_goals simp only[Qb,simprocAttr,QaP,Jq,Jr,Js]
 ·exact .ext hw hx ⟨by simp[Qj0,hv],_,rfl⟩
 repeat' (first | (refine QG (λh=>?_) (λh=>?_)<;>simp only[Qb,simprocAttr,QaP,Jq,Jr,Js,h]) | (refine Qi (λh=>?_) (λh=>?_)<;>simp only[Qb,simprocAttr,QaP,Jq,Jr,Js,h]))
 all_goals refine .ext hw hx ⟨?_,_,rfl⟩
 all_goals (simp_all [Qj0]<;>decide)
theorem Qz (ne:Bool) (a b c d:Int) (H:Qa) (k:Value->Qa->Prop):QBQ ne [.i,.i] (.agg #[.int .i64 a,.int .i64 b]) (.agg #[.int .i64 c,.int .i64 d]) H k=k (.bool (bif ne then !((a==c)&&(b==d)) else((a==c)&&(b==d)))) H:=by
 refine Qyg ?_
 by_cases h:a=c<;>by_cases g:b=d<;>simp[QaH,QBh,h,g]
/-! ### Places -/
structure Mm where
 b:Rg
 i:Rg
 sc:Int
 d:Int
 sz:Int
 deriving DecidableEq
def Mm.cells (m:Mm):List Value:=[.int .i64 m.b.c,.int .i64 m.b.n,.int .i64 m.i.c,.int .i64 m.i.n,.int .i64 m.sc,.int .i64 m.d,.int .i64 m.sz]
def Xw (r:Rg):Bool:=(r.c==5)&&Q9 r
theorem QvL (r:Rg) (H:Qa):Qg prog QeA [.agg r.cells.toArray] H λu H'=>u=.bool (Xw r)∧∃m,H'=H.up m:=by
 refine QtC λhw=>?_;have q:=J8 r;obtain⟨v,hv⟩:∃v,Q9 r=v:=⟨_,rfl⟩;rw[hv]at q;obtain⟨c,n⟩:=r;simp only[Rg.cells]at q;simp only[Rg.cells,QmA,Qb,simprocAttr,QeT];refine QG (λh=>?_) (λh=>?_)
 all_goals simp only[Qb,simprocAttr,QeT,h]
 ·refine(q _).thenW ?_;rintro _ H1 hn1 hw1 ⟨rfl,m,rfl⟩;simp only[Qe]at hn1;have hx:Ext H ((H.push (.cells [.int .i64 c,.int .i64 n] QL false)).up m):=((Ext.refl H).push _).up (by simp only[Qe];exact hn1);simp only[Qb,simprocAttr,QeT,h];exact .ext hw hx ⟨by simp[Xw,hv,h],_,rfl⟩
 ·exact .ext hw ((Ext.refl H).push _) ⟨by simp[Xw,h],_,rfl⟩
def Yj (n:Int):Bool:=n==0||n==1||n==2||n==4||n==8||n==16||n==32
theorem QtE (n:Int) (H:Qa):Qg prog Qgl [.int .i64 n] H λu H'=>u=.bool (Yj n)∧H'=H:=by
 refine QrK λhw=>?_;simp only[QjZ,Qb,simprocAttr,Qda]
 repeat' (first | (refine QG (λh=>?_) (λh=>?_)<;>simp only[Qb,simprocAttr,Qda,h]) | (refine Qi (λh=>?_) (λh=>?_)<;>simp only[Qb,simprocAttr,Qda,h]))
 all_goals refine .mk (Lb _) ⟨?_,rfl⟩
 all_goals simp_all [Yj]
def Wx (n:Int):Bool:=n==1||n==2||n==4||n==8
theorem QrL (n:Int) (H:Qa):Qg prog QeB [.int .i64 n] H λu H'=>u=.bool (Wx n)∧∃m,H'=H.up m:=by
 refine QpN λhw=>?_;have t1:prog.underlying Qtr=some (.map Qns Qns):=by kernel_rfl
 have t2:prog.underlying Qns=some (.int .i64):=by kernel_rfl
 have t3:(prog.info? Qns).map (·.zero)=some (some (.int .i64 0)):=by kernel_rfl
 obtain⟨inf,t4,t5⟩:=Lx.1 t3;simp only[Qh3,Qb,simprocAttr,Xv];rw[QjJ (m:=H.next) (n:=1) (es:=[]) t1 t2 (by simp only[Ql,simprocAttr]) (by simp only[Ql,simprocAttr]) (by rw[Qd,Lc rfl]) rfl];simp only[Qb,simprocAttr,Xv];rw[QjJ (m:=H.next) (n:=2) (es:=_) t1 t2 (by simp only[Ql,simprocAttr]) (by simp only[Ql,simprocAttr]) (by rw[Qn,Lc rfl]) rfl];simp only[Qb,simprocAttr,Xv];rw[QjJ (m:=H.next) (n:=4) (es:=_) t1 t2 (by simp only[Ql,simprocAttr]) (by simp only[Ql,simprocAttr]) (by rw[Qn,Lc rfl]) rfl];simp only[Qb,simprocAttr,Xv];rw[QjJ (m:=H.next) (n:=8) (es:=_) t1 t2 (by simp only[Ql,simprocAttr]) (by simp only[Ql,simprocAttr]) (by rw[Qn,Lc rfl]) rfl];simp only[Qb,simprocAttr,Xv];have hr:∃r,Qrw n [(Value.int IntKind.i64 1,Value.int IntKind.i64 0),(Value.int IntKind.i64 2,Value.int IntKind.i64 1),(Value.int IntKind.i64 4,Value.int IntKind.i64 2),(Value.int IntKind.i64 8,Value.int IntKind.i64 3)] 0=some r∧r.isSome=Wx n:=by
  simp only[Qrw];split
  ·exact⟨_,rfl,by simp_all [Wx]⟩
  split
  ·exact⟨_,rfl,by simp_all [Wx]⟩
  split
  ·exact⟨_,rfl,by simp_all [Wx]⟩
  split
  ·exact⟨_,rfl,by simp_all [Wx]⟩
  ·exact⟨_,rfl,by simp_all [Wx]⟩
 obtain⟨r,h1,h2⟩:=hr;rw[Qyo (m:=H.next) (n:=n) (es:=_) t1 t2 t4 t5 rfl (by simp only[Ql,simprocAttr]) (by simp only[Ql,simprocAttr]) (by rw[Qn,Lc rfl]) h1];have hx:∀a b c d e,Ext H (((((H.push a).set H.next b).set H.next c).set H.next d).set H.next e):=λa b c d e=>(((((Ext.refl H).push a).set (Lb _) b).set (Lb _) c).set (Lb _) d).set (Lb _) e;cases r with
 | none=>
  simp only[Qtn,Qb,simprocAttr,Xv];exact .ext hw (hx _ _ _ _ _) ⟨by rw[<- h2];rfl,_,rfl⟩
 | some q=>
  obtain⟨q1,q2⟩:=q;simp only[Qtn,Qb,simprocAttr,Xv];exact .ext hw (hx _ _ _ _ _) ⟨by rw[<- h2];rfl,_,rfl⟩
def isR (r:Rg) (c n:Int):Bool:=(r.c==c)&&(r.n==n)
def QC (m:Mm):Int:=
 if(decide (m.d < -2147483648)||decide (m.d>2147483647))=true then 5
 else if Yj m.sz=false then 2
 else if(!isR m.b 0 0&&!isR m.b 8 0&&!Xw m.b)=true then 2
 else if(isR m.i 0 0&&!(m.sc==0))=true then 2
 else if isR m.i 0 0=true then 0
 else if(!Xw m.i||!Wx m.sc||isR m.b 8 0)=true then 2
 else if(isR m.i 5 4&&(!(m.sc==1)||isR m.b 5 4))=true then 2
 else 0
def mcF (H:Qa) (c:List Value) (A:Env) (H':Qa):Prop:=Ext H H'∧A 1=.pointer (some ⟨H.next,0,none⟩)∧A 3=.pointer (some ⟨H.next+1,0,none⟩)∧A 4=.pointer (some ⟨H.next+2,0,none⟩)∧A 5=.pointer (some ⟨H.next+3,0,none⟩)∧
 H'.get H.next=some (.cells c Qx false)∧H'.get (H.next+1)=some (.cells [.int .i64 0,.int .i64 0] QL false)∧H'.get (H.next+2)=some (.cells [.int .i64 8,.int .i64 0] QL false)∧H'.get (H.next+3)=some (.cells [.int .i64 5,.int .i64 4] QL false)
theorem mcF.up {H H':Qa} {c:List Value} {A:Env} (h:mcF H c A H') {k:Nat} (hk:H'.next<=k):mcF H c A (H'.up k):=by
 obtain⟨hx,r1,r3,r4,r5,g0,g1,g2,g3⟩:=h;exact⟨hx.up hk,r1,r3,r4,r5,g0,g1,g2,g3⟩
theorem mcF.env {H H':Qa} {c:List Value} {A B:Env} (h:mcF H c A H') (h1:B 1=A 1) (h3:B 3=A 3) (h4:B 4=A 4) (h5:B 5=A 5):mcF H c B H':=by
 obtain⟨hx,r1,r3,r4,r5,g0,g1,g2,g3⟩:=h;exact⟨hx,h1.trans r1,h3.trans r3,h4.trans r4,h5.trans r5,g0,g1,g2,g3⟩
theorem QmC (m:Mm) (H:Qa):Qg prog Qb6 [.agg m.cells.toArray] H λu H'=>u=.int .i64 (QC m)∧∃k,H'=H.up k:=by
 refine QrI λhw=>?_;have qs:=QtE m.sz;have qw:=λr=>QvL r;have qc:=QrL m.sc;obtain⟨⟨bc,bn⟩,⟨ic,nn⟩,sc,d,sz⟩:=m;simp only at qs qc;simp only[Mm.cells,QjW,Qb,simprocAttr,Qj,Rh,Dd,De];obtain⟨cs,hcs⟩:∃cs,cs=[Value.int .i64 bc,.int .i64 bn,.int .i64 ic,.int .i64 nn,.int .i64 sc,.int .i64 d,.int .i64 sz]:=⟨_,rfl⟩;generalize hE:exK 0 _ YO=E0;generalize hK:Qs prog _ _ (Rt prog _ H _)=K0;have hret:∀A H',Ext H H'->QC ⟨⟨bc,bn⟩,⟨ic,nn⟩,sc,d,sz⟩=0->K0 A H':=by
  intro A H' hx h0;rw[<- hK];simp only[Qb,simprocAttr,Qj];exact .ext hw hx ⟨by rw[h0],_,rfl⟩
 have P1:∀A H',mcF H cs A H'->(decide (d < -2147483648)||decide (2147483647<d))=false->Yj sz=true->(!isR ⟨bc,bn⟩ 0 0&&!isR ⟨bc,bn⟩ 8 0&&!Xw ⟨bc,bn⟩)=false->(isR ⟨ic,nn⟩ 0 0&&!(sc==0))=false->isR ⟨ic,nn⟩ 0 0=false->(!Xw ⟨ic,nn⟩||!Wx sc||isR ⟨bc,bn⟩ 8 0)=false->Qs prog Qbj ⟨Rt prog J7 H λu H'=>u=.int .i64 (QC ⟨⟨bc,bn⟩,⟨ic,nn⟩,sc,d,sz⟩)∧∃k,H'=H.up k,E0⟩ K0 A H':=by
  rintro A H' ⟨hx,r1,r3,r4,r5,g0,g1,g2,g3⟩ c0 c1 c2 c3 c4 c5;rw[hcs]at g0;simp only[Qbj];simp only[Qb,simprocAttr,Qj,Qz,r1,r3,r4,r5,g0,g1,g2,g3]
  repeat' (first
   | (refine QG (λh=>?_) (λh=>?_)<;>(try simp only[Lr,Lu]at h)<;>simp only[Qb,simprocAttr,Qj,Qz,r1,r3,r4,r5,g0,g1,g2,g3,h])
   | (refine Qi (λh=>?_) (λh=>?_)<;>(try simp only[Lr,Lu]at h)<;>simp only[Qb,simprocAttr,Qj,Qz,r1,r3,r4,r5,g0,g1,g2,g3,h])
   | (refine(qs _).thenW ?_;rintro _ _ hn hw2 ⟨rfl,rfl⟩;simp only[Qb,simprocAttr,Qj,Qz,r1,r3,r4,r5,g0,g1,g2,g3])
   | (refine(qw ⟨bc,bn⟩ _).thenW ?_;rintro _ _ hn hw2 ⟨rfl,k,rfl⟩;have hx:=hx.up (show _<=k from hn);simp only[Qb,simprocAttr,Qj,Qz,r1,r3,r4,r5,g0,g1,g2,g3])
   | (refine(qw ⟨ic,nn⟩ _).thenW ?_;rintro _ _ hn hw2 ⟨rfl,k,rfl⟩;have hx:=hx.up (show _<=k from hn);simp only[Qb,simprocAttr,Qj,Qz,r1,r3,r4,r5,g0,g1,g2,g3])
   | (refine(qc _).thenW ?_;rintro _ _ hn hw2 ⟨rfl,k,rfl⟩;have hx:=hx.up (show _<=k from hn);simp only[Qb,simprocAttr,Qj,Qz,r1,r3,r4,r5,g0,g1,g2,g3]))
  all_goals first
   | (have hb:(isR ⟨ic,nn⟩ 5 4&&(!(sc==1)||isR ⟨bc,bn⟩ 5 4))=true:=(by(try simp only[isR]);simp[*]);exact .ext hw hx ⟨by first | (simp only[QC,c0,c1,c2,c3,c4,c5,hb,LV,LN,N3,NG,LJ,NJ,Be,Nt,N1,NI,Bd,L8,LM,reduceCtorEq,B4,BN];done) | (have c9:=c3;simp only[hb,LJ]at c9;simp only[QC,c0,c1,c2,hb,c9,LV,LN,N3,LJ,reduceCtorEq,B4,BN]),_,rfl⟩)
   | (have hb:(isR ⟨ic,nn⟩ 5 4&&(!(sc==1)||isR ⟨bc,bn⟩ 5 4))=false:=(by(try simp only[isR]);simp[*]);exact .ext hw hx ⟨by first | (simp only[QC,c0,c1,c2,c3,c4,c5,hb,LV,LN,N3,NG,LJ,NJ,Be,Nt,N1,NI,Bd,L8,LM,reduceCtorEq,B4,BN];done) | (have c9:=c3;simp only[hb,LJ]at c9;simp only[QC,c0,c1,c2,hb,c9,LV,LN,N3,LJ,reduceCtorEq,B4,BN]),_,rfl⟩)
   | (have hb:(isR ⟨ic,nn⟩ 5 4&&(!(sc==1)||isR ⟨bc,bn⟩ 5 4))=false:=(by(try simp only[isR]);simp[*]);exact hret _ _ hx (by simp only[QC,c0,c1,c2,c3,c4,c5,hb,LV,LN,N3,NG,LJ,NJ,Be,Nt,N1,NI,Bd,L8,LM,reduceCtorEq,B4,BN]))
 have P2:∀A H',mcF H cs A H'->(decide (d < -2147483648)||decide (2147483647<d))=false->Yj sz=true->(!isR ⟨bc,bn⟩ 0 0&&!isR ⟨bc,bn⟩ 8 0&&!Xw ⟨bc,bn⟩)=false->(isR ⟨ic,nn⟩ 0 0&&!(sc==0))=false->isR ⟨ic,nn⟩ 0 0=false->Qs prog Qbk ⟨Rt prog J7 H λu H'=>u=.int .i64 (QC ⟨⟨bc,bn⟩,⟨ic,nn⟩,sc,d,sz⟩)∧∃k,H'=H.up k,E0⟩ K0 A H':=by
  rintro A H' ⟨hx,r1,r3,r4,r5,g0,g1,g2,g3⟩ c0 c1 c2 c3 c4;rw[hcs]at g0;simp only[Qbk];simp only[Qb,simprocAttr,Qj,Qz,r1,r3,r4,r5,g0,g1,g2,g3]
  repeat' (first
   | (refine QG (λh=>?_) (λh=>?_)<;>(try simp only[Lr,Lu]at h)<;>simp only[Qb,simprocAttr,Qj,Qz,r1,r3,r4,r5,g0,g1,g2,g3,h])
   | (refine Qi (λh=>?_) (λh=>?_)<;>(try simp only[Lr,Lu]at h)<;>simp only[Qb,simprocAttr,Qj,Qz,r1,r3,r4,r5,g0,g1,g2,g3,h])
   | (refine(qs _).thenW ?_;rintro _ _ hn hw2 ⟨rfl,rfl⟩;simp only[Qb,simprocAttr,Qj,Qz,r1,r3,r4,r5,g0,g1,g2,g3])
   | (refine(qw ⟨bc,bn⟩ _).thenW ?_;rintro _ _ hn hw2 ⟨rfl,k,rfl⟩;have hx:=hx.up (show _<=k from hn);simp only[Qb,simprocAttr,Qj,Qz,r1,r3,r4,r5,g0,g1,g2,g3])
   | (refine(qw ⟨ic,nn⟩ _).thenW ?_;rintro _ _ hn hw2 ⟨rfl,k,rfl⟩;have hx:=hx.up (show _<=k from hn);simp only[Qb,simprocAttr,Qj,Qz,r1,r3,r4,r5,g0,g1,g2,g3])
   | (refine(qc _).thenW ?_;rintro _ _ hn hw2 ⟨rfl,k,rfl⟩;have hx:=hx.up (show _<=k from hn);simp only[Qb,simprocAttr,Qj,Qz,r1,r3,r4,r5,g0,g1,g2,g3]))
  all_goals first
   | (have hb:(!Xw ⟨ic,nn⟩||!Wx sc||isR ⟨bc,bn⟩ 8 0)=true:=(by(try simp only[isR]);simp[*]);exact .ext hw hx ⟨by first | (simp only[QC,c0,c1,c2,c3,c4,hb,LV,LN,N3,NG,LJ,NJ,Be,Nt,N1,NI,Bd,L8,LM,reduceCtorEq,B4,BN];done) | (have c9:=c3;simp only[hb,LJ]at c9;simp only[QC,c0,c1,c2,hb,c9,LV,LN,N3,LJ,reduceCtorEq,B4,BN]),_,rfl⟩)
   | (have hb:(!Xw ⟨ic,nn⟩||!Wx sc||isR ⟨bc,bn⟩ 8 0)=false:=(by(try simp only[isR]);simp[*]);exact .ext hw hx ⟨by first | (simp only[QC,c0,c1,c2,c3,c4,hb,LV,LN,N3,NG,LJ,NJ,Be,Nt,N1,NI,Bd,L8,LM,reduceCtorEq,B4,BN];done) | (have c9:=c3;simp only[hb,LJ]at c9;simp only[QC,c0,c1,c2,hb,c9,LV,LN,N3,LJ,reduceCtorEq,B4,BN]),_,rfl⟩)
   | (have hb:(!Xw ⟨ic,nn⟩||!Wx sc||isR ⟨bc,bn⟩ 8 0)=false:=(by(try simp only[isR]);simp[*]);exact P1 _ _ (mcF.env ⟨hx,r1,r3,r4,r5,by rw[hcs];exact g0,g1,g2,g3⟩ (by simp only[Ql,simprocAttr]) (by simp only[Ql,simprocAttr]) (by simp only[Ql,simprocAttr]) (by simp only[Ql,simprocAttr])) c0 c1 c2 c3 c4 hb)
 have P3:∀A H',mcF H cs A H'->(decide (d < -2147483648)||decide (2147483647<d))=false->Yj sz=true->(!isR ⟨bc,bn⟩ 0 0&&!isR ⟨bc,bn⟩ 8 0&&!Xw ⟨bc,bn⟩)=false->(isR ⟨ic,nn⟩ 0 0&&!(sc==0))=false->Qs prog Qbl ⟨Rt prog J7 H λu H'=>u=.int .i64 (QC ⟨⟨bc,bn⟩,⟨ic,nn⟩,sc,d,sz⟩)∧∃k,H'=H.up k,E0⟩ K0 A H':=by
  rintro A H' ⟨hx,r1,r3,r4,r5,g0,g1,g2,g3⟩ c0 c1 c2 c3;rw[hcs]at g0;simp only[Qbl];simp only[Qb,simprocAttr,Qj,Qz,r1,r3,r4,r5,g0,g1,g2,g3]
  repeat' (first
   | (refine QG (λh=>?_) (λh=>?_)<;>(try simp only[Lr,Lu]at h)<;>simp only[Qb,simprocAttr,Qj,Qz,r1,r3,r4,r5,g0,g1,g2,g3,h])
   | (refine Qi (λh=>?_) (λh=>?_)<;>(try simp only[Lr,Lu]at h)<;>simp only[Qb,simprocAttr,Qj,Qz,r1,r3,r4,r5,g0,g1,g2,g3,h])
   | (refine(qs _).thenW ?_;rintro _ _ hn hw2 ⟨rfl,rfl⟩;simp only[Qb,simprocAttr,Qj,Qz,r1,r3,r4,r5,g0,g1,g2,g3])
   | (refine(qw ⟨bc,bn⟩ _).thenW ?_;rintro _ _ hn hw2 ⟨rfl,k,rfl⟩;have hx:=hx.up (show _<=k from hn);simp only[Qb,simprocAttr,Qj,Qz,r1,r3,r4,r5,g0,g1,g2,g3])
   | (refine(qw ⟨ic,nn⟩ _).thenW ?_;rintro _ _ hn hw2 ⟨rfl,k,rfl⟩;have hx:=hx.up (show _<=k from hn);simp only[Qb,simprocAttr,Qj,Qz,r1,r3,r4,r5,g0,g1,g2,g3])
   | (refine(qc _).thenW ?_;rintro _ _ hn hw2 ⟨rfl,k,rfl⟩;have hx:=hx.up (show _<=k from hn);simp only[Qb,simprocAttr,Qj,Qz,r1,r3,r4,r5,g0,g1,g2,g3]))
  all_goals first
   | (have hb:isR ⟨ic,nn⟩ 0 0=true:=(by(try simp only[isR]);simp[*]);exact .ext hw hx ⟨by first | (simp only[QC,c0,c1,c2,c3,hb,LV,LN,N3,NG,LJ,NJ,Be,Nt,N1,NI,Bd,L8,LM,reduceCtorEq,B4,BN];done) | (have c9:=c3;simp only[hb,LJ]at c9;simp only[QC,c0,c1,c2,hb,c9,LV,LN,N3,LJ,reduceCtorEq,B4,BN]),_,rfl⟩)
   | (have hb:isR ⟨ic,nn⟩ 0 0=false:=(by(try simp only[isR]);simp[*]);exact .ext hw hx ⟨by first | (simp only[QC,c0,c1,c2,c3,hb,LV,LN,N3,NG,LJ,NJ,Be,Nt,N1,NI,Bd,L8,LM,reduceCtorEq,B4,BN];done) | (have c9:=c3;simp only[hb,LJ]at c9;simp only[QC,c0,c1,c2,hb,c9,LV,LN,N3,LJ,reduceCtorEq,B4,BN]),_,rfl⟩)
   | (have hb:isR ⟨ic,nn⟩ 0 0=false:=(by(try simp only[isR]);simp[*]);exact P2 _ _ (mcF.env ⟨hx,r1,r3,r4,r5,by rw[hcs];exact g0,g1,g2,g3⟩ (by simp only[Ql,simprocAttr]) (by simp only[Ql,simprocAttr]) (by simp only[Ql,simprocAttr]) (by simp only[Ql,simprocAttr])) c0 c1 c2 c3 hb)
 have P4:∀A H',mcF H cs A H'->(decide (d < -2147483648)||decide (2147483647<d))=false->Yj sz=true->(!isR ⟨bc,bn⟩ 0 0&&!isR ⟨bc,bn⟩ 8 0&&!Xw ⟨bc,bn⟩)=false->Qs prog Qbm ⟨Rt prog J7 H λu H'=>u=.int .i64 (QC ⟨⟨bc,bn⟩,⟨ic,nn⟩,sc,d,sz⟩)∧∃k,H'=H.up k,E0⟩ K0 A H':=by
  rintro A H' ⟨hx,r1,r3,r4,r5,g0,g1,g2,g3⟩ c0 c1 c2;rw[hcs]at g0;simp only[Qbm];simp only[Qb,simprocAttr,Qj,Qz,r1,r3,r4,r5,g0,g1,g2,g3]
  repeat' (first
   | (refine QG (λh=>?_) (λh=>?_)<;>(try simp only[Lr,Lu]at h)<;>simp only[Qb,simprocAttr,Qj,Qz,r1,r3,r4,r5,g0,g1,g2,g3,h])
   | (refine Qi (λh=>?_) (λh=>?_)<;>(try simp only[Lr,Lu]at h)<;>simp only[Qb,simprocAttr,Qj,Qz,r1,r3,r4,r5,g0,g1,g2,g3,h])
   | (refine(qs _).thenW ?_;rintro _ _ hn hw2 ⟨rfl,rfl⟩;simp only[Qb,simprocAttr,Qj,Qz,r1,r3,r4,r5,g0,g1,g2,g3])
   | (refine(qw ⟨bc,bn⟩ _).thenW ?_;rintro _ _ hn hw2 ⟨rfl,k,rfl⟩;have hx:=hx.up (show _<=k from hn);simp only[Qb,simprocAttr,Qj,Qz,r1,r3,r4,r5,g0,g1,g2,g3])
   | (refine(qw ⟨ic,nn⟩ _).thenW ?_;rintro _ _ hn hw2 ⟨rfl,k,rfl⟩;have hx:=hx.up (show _<=k from hn);simp only[Qb,simprocAttr,Qj,Qz,r1,r3,r4,r5,g0,g1,g2,g3])
   | (refine(qc _).thenW ?_;rintro _ _ hn hw2 ⟨rfl,k,rfl⟩;have hx:=hx.up (show _<=k from hn);simp only[Qb,simprocAttr,Qj,Qz,r1,r3,r4,r5,g0,g1,g2,g3]))
  all_goals first
   | (have hb:(isR ⟨ic,nn⟩ 0 0&&!(sc==0))=true:=(by(try simp only[isR]);simp[*]);exact .ext hw hx ⟨by first | (simp only[QC,c0,c1,c2,hb,LV,LN,N3,NG,LJ,NJ,Be,Nt,N1,NI,Bd,L8,LM,reduceCtorEq,B4,BN];done) | (have c9:=c3;simp only[hb,LJ]at c9;simp only[QC,c0,c1,c2,hb,c9,LV,LN,N3,LJ,reduceCtorEq,B4,BN]),_,rfl⟩)
   | (have hb:(isR ⟨ic,nn⟩ 0 0&&!(sc==0))=false:=(by(try simp only[isR]);simp[*]);exact .ext hw hx ⟨by first | (simp only[QC,c0,c1,c2,hb,LV,LN,N3,NG,LJ,NJ,Be,Nt,N1,NI,Bd,L8,LM,reduceCtorEq,B4,BN];done) | (have c9:=c3;simp only[hb,LJ]at c9;simp only[QC,c0,c1,c2,hb,c9,LV,LN,N3,LJ,reduceCtorEq,B4,BN]),_,rfl⟩)
   | (have hb:(isR ⟨ic,nn⟩ 0 0&&!(sc==0))=false:=(by(try simp only[isR]);simp[*]);exact P3 _ _ (mcF.env ⟨hx,r1,r3,r4,r5,by rw[hcs];exact g0,g1,g2,g3⟩ (by simp only[Ql,simprocAttr]) (by simp only[Ql,simprocAttr]) (by simp only[Ql,simprocAttr]) (by simp only[Ql,simprocAttr])) c0 c1 c2 hb)
 have P5:∀A H',mcF H cs A H'->(decide (d < -2147483648)||decide (2147483647<d))=false->Yj sz=true->Qs prog Qbn ⟨Rt prog J7 H λu H'=>u=.int .i64 (QC ⟨⟨bc,bn⟩,⟨ic,nn⟩,sc,d,sz⟩)∧∃k,H'=H.up k,E0⟩ K0 A H':=by
  rintro A H' ⟨hx,r1,r3,r4,r5,g0,g1,g2,g3⟩ c0 c1;rw[hcs]at g0;simp only[Qbn];simp only[Qb,simprocAttr,Qj,Qz,r1,r3,r4,r5,g0,g1,g2,g3]
  repeat' (first
   | (refine QG (λh=>?_) (λh=>?_)<;>(try simp only[Lr,Lu]at h)<;>simp only[Qb,simprocAttr,Qj,Qz,r1,r3,r4,r5,g0,g1,g2,g3,h])
   | (refine Qi (λh=>?_) (λh=>?_)<;>(try simp only[Lr,Lu]at h)<;>simp only[Qb,simprocAttr,Qj,Qz,r1,r3,r4,r5,g0,g1,g2,g3,h])
   | (refine(qs _).thenW ?_;rintro _ _ hn hw2 ⟨rfl,rfl⟩;simp only[Qb,simprocAttr,Qj,Qz,r1,r3,r4,r5,g0,g1,g2,g3])
   | (refine(qw ⟨bc,bn⟩ _).thenW ?_;rintro _ _ hn hw2 ⟨rfl,k,rfl⟩;have hx:=hx.up (show _<=k from hn);simp only[Qb,simprocAttr,Qj,Qz,r1,r3,r4,r5,g0,g1,g2,g3])
   | (refine(qw ⟨ic,nn⟩ _).thenW ?_;rintro _ _ hn hw2 ⟨rfl,k,rfl⟩;have hx:=hx.up (show _<=k from hn);simp only[Qb,simprocAttr,Qj,Qz,r1,r3,r4,r5,g0,g1,g2,g3])
   | (refine(qc _).thenW ?_;rintro _ _ hn hw2 ⟨rfl,k,rfl⟩;have hx:=hx.up (show _<=k from hn);simp only[Qb,simprocAttr,Qj,Qz,r1,r3,r4,r5,g0,g1,g2,g3]))
  all_goals first
   | (have hb:(!isR ⟨bc,bn⟩ 0 0&&!isR ⟨bc,bn⟩ 8 0&&!Xw ⟨bc,bn⟩)=true:=(by(try simp only[isR]);simp[*]);exact .ext hw hx ⟨by first | (simp only[QC,c0,c1,hb,LV,LN,N3,NG,LJ,NJ,Be,Nt,N1,NI,Bd,L8,LM,reduceCtorEq,B4,BN];done) | (have c9:=c3;simp only[hb,LJ]at c9;simp only[QC,c0,c1,c2,hb,c9,LV,LN,N3,LJ,reduceCtorEq,B4,BN]),_,rfl⟩)
   | (have hb:(!isR ⟨bc,bn⟩ 0 0&&!isR ⟨bc,bn⟩ 8 0&&!Xw ⟨bc,bn⟩)=false:=(by(try simp only[isR]);simp[*]);exact .ext hw hx ⟨by first | (simp only[QC,c0,c1,hb,LV,LN,N3,NG,LJ,NJ,Be,Nt,N1,NI,Bd,L8,LM,reduceCtorEq,B4,BN];done) | (have c9:=c3;simp only[hb,LJ]at c9;simp only[QC,c0,c1,c2,hb,c9,LV,LN,N3,LJ,reduceCtorEq,B4,BN]),_,rfl⟩)
   | (have hb:(!isR ⟨bc,bn⟩ 0 0&&!isR ⟨bc,bn⟩ 8 0&&!Xw ⟨bc,bn⟩)=false:=(by(try simp only[isR]);simp[*]);exact P4 _ _ (mcF.env ⟨hx,r1,r3,r4,r5,by rw[hcs];exact g0,g1,g2,g3⟩ (by simp only[Ql,simprocAttr]) (by simp only[Ql,simprocAttr]) (by simp only[Ql,simprocAttr]) (by simp only[Ql,simprocAttr])) c0 c1 hb)
 have P6:∀A H',mcF H cs A H'->(decide (d < -2147483648)||decide (2147483647<d))=false->Qs prog Qbo ⟨Rt prog J7 H λu H'=>u=.int .i64 (QC ⟨⟨bc,bn⟩,⟨ic,nn⟩,sc,d,sz⟩)∧∃k,H'=H.up k,E0⟩ K0 A H':=by
  rintro A H' ⟨hx,r1,r3,r4,r5,g0,g1,g2,g3⟩ c0;rw[hcs]at g0;simp only[Qbo];simp only[Qb,simprocAttr,Qj,Qz,r1,r3,r4,r5,g0,g1,g2,g3]
  repeat' (first
   | (refine QG (λh=>?_) (λh=>?_)<;>(try simp only[Lr,Lu]at h)<;>simp only[Qb,simprocAttr,Qj,Qz,r1,r3,r4,r5,g0,g1,g2,g3,h])
   | (refine Qi (λh=>?_) (λh=>?_)<;>(try simp only[Lr,Lu]at h)<;>simp only[Qb,simprocAttr,Qj,Qz,r1,r3,r4,r5,g0,g1,g2,g3,h])
   | (refine(qs _).thenW ?_;rintro _ _ hn hw2 ⟨rfl,rfl⟩;simp only[Qb,simprocAttr,Qj,Qz,r1,r3,r4,r5,g0,g1,g2,g3])
   | (refine(qw ⟨bc,bn⟩ _).thenW ?_;rintro _ _ hn hw2 ⟨rfl,k,rfl⟩;have hx:=hx.up (show _<=k from hn);simp only[Qb,simprocAttr,Qj,Qz,r1,r3,r4,r5,g0,g1,g2,g3])
   | (refine(qw ⟨ic,nn⟩ _).thenW ?_;rintro _ _ hn hw2 ⟨rfl,k,rfl⟩;have hx:=hx.up (show _<=k from hn);simp only[Qb,simprocAttr,Qj,Qz,r1,r3,r4,r5,g0,g1,g2,g3])
   | (refine(qc _).thenW ?_;rintro _ _ hn hw2 ⟨rfl,k,rfl⟩;have hx:=hx.up (show _<=k from hn);simp only[Qb,simprocAttr,Qj,Qz,r1,r3,r4,r5,g0,g1,g2,g3]))
  all_goals first
   | (have hb:Yj sz=true:=(by(try simp only[isR]);simp[*]);exact .ext hw hx ⟨by first | (simp only[QC,c0,hb,LV,LN,N3,NG,LJ,NJ,Be,Nt,N1,NI,Bd,L8,LM,reduceCtorEq,B4,BN];done) | (have c9:=c3;simp only[hb,LJ]at c9;simp only[QC,c0,c1,c2,hb,c9,LV,LN,N3,LJ,reduceCtorEq,B4,BN]),_,rfl⟩)
   | (have hb:Yj sz=false:=(by(try simp only[isR]);simp[*]);exact .ext hw hx ⟨by first | (simp only[QC,c0,hb,LV,LN,N3,NG,LJ,NJ,Be,Nt,N1,NI,Bd,L8,LM,reduceCtorEq,B4,BN];done) | (have c9:=c3;simp only[hb,LJ]at c9;simp only[QC,c0,c1,c2,hb,c9,LV,LN,N3,LJ,reduceCtorEq,B4,BN]),_,rfl⟩)
   | (have hb:Yj sz=true:=(by(try simp only[isR]);simp[*]);exact P5 _ _ (mcF.env ⟨hx,r1,r3,r4,r5,by rw[hcs];exact g0,g1,g2,g3⟩ (by simp only[Ql,simprocAttr]) (by simp only[Ql,simprocAttr]) (by simp only[Ql,simprocAttr]) (by simp only[Ql,simprocAttr])) c0 hb)
 have hx0:∀b c d e f g h,Ext H (((((((H.push b).push c).set (H.next+1) d).push e).set (H.next+2) f).push g).set (H.next+3) h):=λb c d e f g h=>
  (((((((Ext.refl H).push b).push c).set (by omega) d).push e).set (by omega) f).push g).set (by omega) h
 have fin:∀A,A 1=.pointer (some ⟨H.next,0,none⟩)->A 3=.pointer (some ⟨H.next+1,0,none⟩)->A 4=.pointer (some ⟨H.next+2,0,none⟩)->A 5=.pointer (some ⟨H.next+3,0,none⟩)->∀d e f,mcF H cs A (((((((H.push (.cells cs Qx false)).push d).set (H.next+1) (.cells [.int .i64 0,.int .i64 0] QL false)).push e).set (H.next+2) (.cells [.int .i64 8,.int .i64 0] QL false)).push f).set (H.next+3) (.cells [.int .i64 5,.int .i64 4] QL false)):=by
  intro A r1 r3 r4 r5 d e f;refine⟨hx0 _ _ _ _ _ _ _,r1,r3,r4,r5,?_,?_,?_,?_⟩<;>simp[Qn,Qd,Rh]
 rw[<- hcs];refine QG (λh=>?_) (λh=>?_)<;>(try simp only[Lr,Lu]at h)<;>simp only[Qb,simprocAttr,Qj,Rh,Dd,De,h,hcs]
 ·refine Qi (λh2=>?_) (λh2=>?_)<;>simp only[Qb,simprocAttr,Qj,h2]
  ·exact .ext hw (hx0 _ _ _ _ _ _ _) ⟨by simp only[QC,h,B4,h2,Bd,N3],_,rfl⟩
  ·rw[<- hcs];exact P6 _ _ (fin _ (by simp only[Ql,simprocAttr]) (by simp only[Ql,simprocAttr]) (by simp only[Ql,simprocAttr]) (by simp only[Ql,simprocAttr]) _ _ _) (by simp only[h,h2,NI])
 ·exact .ext hw (hx0 _ _ _ _ _ _ _) ⟨by simp only[QC,h,N1,N3],_,rfl⟩
def QdK:Mm:=⟨⟨0,0⟩,⟨0,0⟩,0,0,0⟩
def Wp (m:Mm):Mm:=
 if(isR m.i 0 0||!(m.sc==1))=true then m else if isR m.b 0 0=true then⟨m.i,⟨0,0⟩,0,m.d,m.sz⟩ else if(m.i.n==4)=true then⟨m.i,m.b,m.sc,m.d,m.sz⟩ else m
def Qj1 (m:Mm):Mm×Int:=if QC m=0 then(Wp m,0) else(QdK,QC m)
theorem QmD (m:Mm) (H:Qa):Qg prog Qb7 [.agg m.cells.toArray] H λu H'=>u=.tuple #[.agg (Qj1 m).1.cells.toArray,.int .i64 (Qj1 m).2]∧∃k,H'=H.up k:=by
 refine QrJ λhw=>?_;have q:=QmC m;obtain⟨e,he⟩:∃e,QC m=e:=⟨_,rfl⟩;rw[he]at q;have hc:Qj1 m=if e=0 then(Wp m,0) else(QdK,e):=by rw[<- he];rfl
 rw[hc];clear hc he;obtain⟨⟨bc,bn⟩,⟨ic,nn⟩,sc,d,sz⟩:=m;simp only[Mm.cells]at q;simp only[Mm.cells,QjX,ZH,ZI,ZJ,ZK,Qb,simprocAttr,Vt];refine(q _).thenW ?_;rintro _ _ hn hw2 ⟨rfl,k,rfl⟩;simp only[Qe,Qy]at hn;have k0:¬H.next=k:=by omega
 have k1:¬H.next+1=k:=by omega
 have k2:¬H.next=k+1:=by omega
 have k3:¬H.next+1=k+1:=by omega
 simp only[Qb,simprocAttr,Vt,ZH,ZI,ZJ,ZK,Qz,Rh,Dd,De,k0,k1,k2,k3]
 repeat' (first
   | refine⟨by simp[Qm,plain],by omega,?_⟩
   | (refine QG (λh=>?_) (λh=>?_)<;>(try simp only[Lr,Lu]at h)<;>simp only[Qb,simprocAttr,Vt,ZH,ZI,ZJ,ZK,Qz,Rh,Dd,De,k0,k1,k2,k3,h])
   | (refine Qi (λh=>?_) (λh=>?_)<;>(try simp only[Lr,Lu]at h)<;>simp only[Qb,simprocAttr,Vt,ZH,ZI,ZJ,ZK,Qz,Rh,Dd,De,k0,k1,k2,k3,h]))
 all_goals refine .ext hw ?_ ⟨?_,_,rfl⟩
 all_goals try (repeat' (first | exact Ext.refl _ | refine Ext.push ?_ _ | refine Ext.up ?_ (by first | assumption | (simp only[Qe,QE];omega)) | refine Ext.set ?_ (by omega) _))
 all_goals (try have he0:e=0:=by simpa using ‹(e==0)=true›)<;>(try have he0:¬e=0:=by simpa using ‹(e==0)=false›)
 all_goals (simp only[Wp,QdK,isR,Mm.cells, *,LV,LN,N3,NG,LJ,NJ,Be,Nt,N1,NI,Bd,L8,LM,reduceCtorEq,BN];done)
structure Ar where
 k:Int
 r:Rg
 m:Mm
 n:Int
 deriving DecidableEq
def Ar.cells (a:Ar):List Value:=[.int .i64 a.k,.int .i64 a.r.c,.int .i64 a.r.n,.int .i64 a.m.b.c,.int .i64 a.m.b.n,.int .i64 a.m.i.c,.int .i64 a.m.i.n,.int .i64 a.m.sc,.int .i64 a.m.d,.int .i64 a.m.sz,.int .i64 a.n]
def Wv (a:Ar):Int:=
 if(a.k==1)=true then(if(!Q9 a.r||(a.r.c==8))=true then 2 else 0)
 else if(a.k==2)=true then QC a.m
 else if(a.k==3)=true then 0
 else if(a.k==4)=true then(if(decide (a.n < -2147483648)||decide (2147483647<a.n))=true then 5 else 0)
 else 2
theorem JB (a:Ar) (H:Qa):Qg prog XR [.agg a.cells.toArray] H λu H'=>u=.int .i64 (Wv a)∧∃k,H'=H.up k:=by
 refine Qlt λhw=>?_;have q1:=J8 a.r;have q2:=QmC a.m;obtain⟨k,⟨rc,rn⟩,⟨⟨bc,bn⟩,⟨ic,nn⟩,sc,d,sz⟩,n⟩:=a;simp only[Rg.cells,Mm.cells]at q1 q2;simp(disch:=omega) only[Ar.cells,QdH,YV,YW,YX,YY,YZ,QK,simprocAttr,Yb]
 repeat' (first
   | (refine QG (λh=>?_) (λh=>?_)<;>(try simp only[Lr,Lu]at h)<;>simp(disch:=omega) only[QK,simprocAttr,Yb,YV,YW,YX,YY,YZ,h])
   | (refine Qi (λh=>?_) (λh=>?_)<;>(try simp only[Lr,Lu]at h)<;>simp(disch:=omega) only[QK,simprocAttr,Yb,YV,YW,YX,YY,YZ,h])
   | (refine(q1 _).thenW ?_;rintro _ _ hn hw2 ⟨rfl,k,rfl⟩;simp only[Qe,Qy,QE]at hn;simp(disch:=omega) only[QK,simprocAttr,Yb])
   | (refine(q2 _).thenW ?_;rintro _ _ hn hw2 ⟨rfl,k,rfl⟩;simp only[Qe,Qy,QE]at hn;simp(disch:=omega) only[QK,simprocAttr,Yb]))
 all_goals refine .ext hw ?_ ⟨?_,_,rfl⟩
 all_goals try (repeat' (first | exact Ext.refl _ | refine Ext.push ?_ _ | refine Ext.up ?_ (by simp only[Qe,QE,Qy];omega) | refine Ext.set ?_ (by omega) _))
 all_goals (simp only[Wv, *,LV,LN,N3,NG,LJ,NJ,Be,Nt,N1,NI,Bd,L8,LM,reduceCtorEq,BN])
/-! ### Canon -/
def WM:Ar:=⟨0,⟨0,0⟩,QdK,0⟩
def Zj (a:Ar):Ar:=if(a.k==1)=true then⟨a.k,a.r,QdK,0⟩ else if(a.k==2)=true then⟨a.k,⟨0,0⟩,Wp a.m,0⟩ else⟨a.k,⟨0,0⟩,QdK,a.n⟩
def Wc (a:Ar):Ar×Int:=if(Wv a==0)=true then(Zj a,0) else(WM,Wv a)
theorem Qou {a:Ar} (hk:(a.k==2)=true):Wv a=QC a.m:=by
 have:a.k=2:=by simpa using hk
 simp[Wv,this]
theorem Qm1 (a:Ar) (H:Qa):Qg prog VS [.agg a.cells.toArray] H λu H'=>u=.tuple #[.agg (Wc a).1.cells.toArray,.int .i64 (Wc a).2]∧∃k,H'=H.up k:=by
 refine Qlu λhw=>?_;have q1:=JB a;have q2:=QmD a.m;have hm:=@Qou a;have hcc:Qj1 a.m=if QC a.m=0 then(Wp a.m,0) else(QdK,QC a.m):=rfl
 have hce:Wc a=if(Wv a==0)=true then(Zj a,0) else(WM,Wv a):=rfl
 rw[hce];rw[hcc]at q2;clear hce hcc;generalize Wv a=e at *;generalize QC a.m=f at *;have hca:Zj a=if(a.k==1)=true then⟨a.k,a.r,QdK,0⟩ else if(a.k==2)=true then⟨a.k,⟨0,0⟩,Wp a.m,0⟩ else⟨a.k,⟨0,0⟩,QdK,a.n⟩:=rfl
 rw[hca];clear hca;generalize Wp a.m=mc at *;obtain⟨k,⟨rc,rn⟩,⟨⟨bc,bn⟩,⟨ic,nn⟩,sc,d,sz⟩,n⟩:=a;obtain⟨⟨mb,mbn⟩,⟨mi,min⟩,msc,md,msz⟩:=mc;simp only[Ar.cells,Mm.cells]at q1 q2 hm;simp(disch:=(first | omega | (simp only[hnP];try omega))) only[Ar.cells,QdI,W1,W2,W3,QK,simprocAttr,Yc]
 repeat' (first
   | (refine QG (λh=>?_) (λh=>?_)<;>(try simp only[Lr,Lu]at h)<;>simp(disch:=(first | omega | (simp only[hnP];try omega))) only[W1,W2,W3,QK,simprocAttr,Yc,h])
   | (refine Qi (λh=>?_) (λh=>?_)<;>(try simp only[Lr,Lu]at h)<;>simp(disch:=(first | omega | (simp only[hnP];try omega))) only[W1,W2,W3,QK,simprocAttr,Yc,h])
   | (refine(q1 _).thenW ?_;rintro _ _ hn hw2 ⟨rfl,k,rfl⟩;(try simp only[Qe,Qy,QE]at hn);simp(disch:=(first | omega | (simp only[hnP];try omega))) only[W1,W2,W3,QK,simprocAttr,Yc])
   | (refine(q2 _).thenW ?_;rintro _ _ hn hw2 ⟨rfl,k,rfl⟩;(try simp only[Qe,Qy,QE]at hn);simp(disch:=(first | omega | (simp only[hnP];try omega))) only[W1,W2,W3,QK,simprocAttr,Yc])
   | (with_reducible refine⟨by simp[Qm,plain],by omega,?_⟩)
   | (with_reducible refine⟨by simp[Qm,plain],?_⟩)
   | fail)
 all_goals refine .ext hw ?_ ⟨?_,_,rfl⟩
 all_goals try (repeat' (first | exact Ext.refl _ | refine Ext.push ?_ _ | refine Ext.up ?_ (by simp only[Qe,QE,Qy];omega) | refine Ext.set ?_ (by omega) _))
 all_goals simp_all [WM,QdK,Ar.cells,Mm.cells]
def QmF (a:Ar):Int:=if(Wv a==0)=true then(if(a.k==1)=true then Qj0 a.r else if(a.k==2)=true then a.m.sz else 0) else 0
theorem Qov (a:Ar) (H:Qa):Qg prog Qbb [.agg a.cells.toArray] H λu H'=>u=.int .i64 (QmF a)∧∃k,H'=H.up k:=by
 refine Qm0 λhw=>?_;have q1:=JB a;have q2:=QvK a.r;have hs:QmF a=if(Wv a==0)=true then(if(a.k==1)=true then Qj0 a.r else if(a.k==2)=true then a.m.sz else 0) else 0:=rfl
 rw[hs];clear hs;generalize Wv a=e at *;generalize Qj0 a.r=sr at *;obtain⟨k,⟨rc,rn⟩,⟨⟨bc,bn⟩,⟨ic,nn⟩,sc,d,sz⟩,n⟩:=a;simp only[Ar.cells,Rg.cells]at q1 q2;simp(disch:=(first | omega | (simp only[hnP];try omega))) only[Ar.cells,Qfq,QK,simprocAttr,YD]
 repeat' (first
   | (refine QG (λh=>?_) (λh=>?_)<;>(try simp only[Lr,Lu]at h)<;>simp(disch:=(first | omega | (simp only[hnP];try omega))) only[QK,simprocAttr,YD,h])
   | (refine Qi (λh=>?_) (λh=>?_)<;>(try simp only[Lr,Lu]at h)<;>simp(disch:=(first | omega | (simp only[hnP];try omega))) only[QK,simprocAttr,YD,h])
   | (refine(q1 _).thenW ?_;rintro _ _ hn hw2 ⟨rfl,k,rfl⟩;(try simp only[Qe,Qy,QE]at hn);simp(disch:=(first | omega | (simp only[hnP];try omega))) only[QK,simprocAttr,YD])
   | (refine(q2 _).thenW ?_;rintro _ _ hn hw2 ⟨rfl,k,rfl⟩;(try simp only[Qe,Qy,QE]at hn);simp(disch:=(first | omega | (simp only[hnP];try omega))) only[QK,simprocAttr,YD])
   | (with_reducible refine⟨by simp[Qm,plain],by omega,?_⟩)
   | (with_reducible refine⟨by simp[Qm,plain],?_⟩)
   | fail)
 all_goals refine .ext hw ?_ ⟨?_,_,rfl⟩
 all_goals try (repeat' (first | exact Ext.refl _ | refine Ext.push ?_ _ | refine Ext.up ?_ (by simp only[Qe,QE,Qy];omega) | refine Ext.set ?_ (by omega) _))
 all_goals simp_all []
def Xh (o:Int):Bool:=decide (1<=o)&&decide (o<=322)
theorem QaQ (o:Int) (H:Qa):Qg prog X0 [.int .i64 o] H λu H'=>u=.bool (Xh o)∧H'=H:=by
 refine Qh1 λhw=>?_;simp(disch:=(first | omega | (simp only[hnP];try omega))) only[Qc9,QK,simprocAttr,ZD]
 repeat' (first
   | (refine QG (λh=>?_) (λh=>?_)<;>(try simp only[Lr,Lu]at h)<;>simp(disch:=(first | omega | (simp only[hnP];try omega))) only[QK,simprocAttr,ZD,h])
   | (refine Qi (λh=>?_) (λh=>?_)<;>(try simp only[Lr,Lu]at h)<;>simp(disch:=(first | omega | (simp only[hnP];try omega))) only[QK,simprocAttr,ZD,h])
   | (with_reducible refine⟨by simp[Qm,plain],by omega,?_⟩)
   | (with_reducible refine⟨by simp[Qm,plain],?_⟩)
   | fail)
 all_goals refine .mk (Lb _) ⟨?_,rfl⟩
 all_goals (simp_all [Xh]<;>omega)
def QvN (o:Int):Int×Bool:=if Xh o=false then(0,false) else if o=1∨o=2∨o=3∨o=4∨o=5∨o=6∨o=7∨o=8∨o=9∨o=10∨o=16 then(0,true) else if o=48 then(64,true) else if o=51 then(16,false) else(8,false)
theorem QvO (o:Int) (H:Qa):Qg prog QiG [.int .i64 o] H λu H'=>u=.tuple #[.int .i64 (QvN o).1,.bool (QvN o).2]∧H'=H:=by
 refine QtB λhw=>?_;have q1:=QaQ o;have hs:QvN o=if Xh o=false then(0,false) else if o=1∨o=2∨o=3∨o=4∨o=5∨o=6∨o=7∨o=8∨o=9∨o=10∨o=16 then(0,true) else if o=48 then(64,true) else if o=51 then(16,false) else(8,false):=rfl
 rw[hs];clear hs;generalize Xh o=v at *;simp(disch:=(first | omega | (simp only[hnP];try omega))) only[Qmz,Jh,Ji,Jj,Jk,Jl,Jm,Jn,Jo,Jp,ZF,ZG,QK,simprocAttr,QaO]
 repeat' (first
   | (refine QG (λh=>?_) (λh=>?_)<;>(try simp only[Lr,Lu]at h)<;>simp(disch:=(first | omega | (simp only[hnP];try omega))) only[Jh,Ji,Jj,Jk,Jl,Jm,Jn,Jo,Jp,ZF,ZG,QK,simprocAttr,QaO,h])
   | (refine Qi (λh=>?_) (λh=>?_)<;>(try simp only[Lr,Lu]at h)<;>simp(disch:=(first | omega | (simp only[hnP];try omega))) only[Jh,Ji,Jj,Jk,Jl,Jm,Jn,Jo,Jp,ZF,ZG,QK,simprocAttr,QaO,h])
   | (refine(q1 _).thenW ?_;rintro _ _ hn hw2 ⟨rfl,rfl⟩;(try simp only[Qe,Qy,QE]at hn);simp(disch:=(first | omega | (simp only[hnP];try omega))) only[Jh,Ji,Jj,Jk,Jl,Jm,Jn,Jo,Jp,ZF,ZG,QK,simprocAttr,QaO])
   | (with_reducible refine⟨by simp[Qm,plain],by omega,?_⟩)
   | (with_reducible refine⟨by simp[Qm,plain],?_⟩)
   | fail)
 all_goals refine .mk (Lb _) ⟨?_,rfl⟩
 all_goals simp_all []
def Qo (l:List Ar):List Value:=l.flatMap Ar.cells
theorem Wi (a:Ar):a.cells.length=11:=rfl
theorem J9 (a:Ar) (l:List Ar):Qo (a::l)=a.cells++Qo l:=by simp[Qo]
theorem QW:∀l:List Ar,(Qo l).length=l.length * 11
 | []=>rfl
 | a::l=>by
  have:=QW l;rw[J9,Lh,Wi,this,Lo];omega
theorem Xd:∀ (l:List Ar) (i:Nat) (p:Ar),l[i]? = some p->((Qo l).drop (i * 11)).take 11=p.cells
 | [],i,p,h=>by simp at h
 | q::l,0,p,h=>by
  simp at h;subst h;rw[J9,BH,Lw,NO (by rw[Wi];exact Lb 11),LF (by rw[Wi];exact Lb 11)]
 | q::l,i+1,p,h=>by
  rw[J9,show(i+1) * 11=q.cells.length+i * 11 by rw[Wi];omega,B3,NK (by omega),LH,NL];exact Xd l i p (by simpa using h)
def Q0 (H:Qa) (v:Value) (l:List Ar):Prop:=QbV H v l.length (Qo l)
theorem Q0.ext {H H':Qa} {v:Value} {l:List Ar} (hw:H.Wf) (he:Ext H H') (h:Q0 H v l):Q0 H' v l:=QbV.ext hw he h
theorem QAb (r:Rg):0<=Qj0 r∧Qj0 r<=32:=by
 unfold Qj0
 repeat' split
 all_goals decide
theorem QyF {n:Int} (h:Yj n=true):0<=n∧n<=32:=by
 simp only[Yj,Nw,L0]at h;omega
theorem QAc (a:Ar):0<=QmF a∧QmF a<=32:=by
 unfold QmF;split
 ·rename_i h;split
  ·exact QAb _
  ·split
   ·rename_i h2;rw[Qou h2]at h;apply QyF;cases hs:Yj a.m.sz with
    | true=>rfl
    | false=>
     unfold QC at h;rw[hs]at h;split at h<;>simp at h
   ·omega
 ·omega
def WC (op:Int) (l:List Ar):Int×Bool:=if Xh op=false then(0,false) else if((QvN op).1==0)=false then QvN op else match l with
 | []=>(0,false)
 | a::_=>if(QmF a==0)=true then(0,false) else(8 * QmF a,(QvN op).2)
theorem Qce (op:Int) (v:Value) (l:List Ar) (H:Qa) (hv:Q0 H v l) (hl:l.length<=1000):Qg prog JY [.agg #[.int .i64 op,v]] H λu H'=>u=.tuple #[.int .i64 (WC op l).1,.bool (WC op l).2]∧∃k,H'=H.up k:=by
 refine QrG λhw=>?_;have q1:=QaQ op;have q2:=QvO op;unfold WC;generalize Xh op=v1 at *;generalize QvN op=v2 at *;obtain⟨v2a,v2b⟩:=v2;obtain⟨a0,cap,rfl,h1⟩:=hv;cases l with
 | nil=>
  have el0:(((0:Nat):Int)==0)=true:=rfl;simp(disch:=(first | omega | (simp only[hnP];try omega))) only[QeS,QK,simprocAttr,el0,Wu]
  repeat' (first
    | (refine QG (λh=>?_) (λh=>?_)<;>(try simp only[Lr,Lu]at h)<;>simp(disch:=(first | omega | (simp only[hnP];try omega))) only[QK,simprocAttr,el0,Wu,h])
    | (refine Qi (λh=>?_) (λh=>?_)<;>(try simp only[Lr,Lu]at h)<;>simp(disch:=(first | omega | (simp only[hnP];try omega))) only[QK,simprocAttr,el0,Wu,h])
    | (refine(q1 _).thenW ?_;rintro _ _ hn hw2 ⟨rfl,rfl⟩;(try simp only[Qe,Qy,QE]at hn);simp(disch:=(first | omega | (simp only[hnP];try omega))) only[QK,simprocAttr,el0,Wu])
    | (refine(q2 _).thenW ?_;rintro _ _ hn hw2 ⟨rfl,rfl⟩;(try simp only[Qe,Qy,QE]at hn);simp(disch:=(first | omega | (simp only[hnP];try omega))) only[QK,simprocAttr,el0,Wu])
    | (with_reducible refine⟨by simp[Qm,plain],by omega,?_⟩)
    | (with_reducible refine⟨by simp[Qm,plain],?_⟩)
    | fail)
  all_goals refine .ext hw ?_ ⟨?_,_,rfl⟩
  all_goals try (repeat' (first | exact Ext.refl _ | refine Ext.push ?_ _ | refine Ext.up ?_ (by simp only[Qe,QE,Qy];omega) | refine Ext.set ?_ (by omega) _))
  all_goals simp_all
 | cons a l=>
  dsimp only;have et0:(0:Int).toNat=0:=rfl;have q3:=Qov a;have h8:=QAc a;generalize QmF a=s at *;obtain⟨b,e,ro,rfl,hgb⟩:=h1 (by simp);have el0:(((l.length+1:Nat):Int)==0)=false:=by simp;omega
  have ec1:((0:Int)<=0∧(0:Int)<((l.length+1:Nat):Int)):=by omega
  have hb:=hw.lt hgb;have e8:IntKind.i64.wrap (8 * s)=8 * s:=w64 (by unfold I64;omega);have hd11:List.take 11 (Qo (a::l))=a.cells:=by
   have:=Xd (a::l) 0 a rfl;simpa using this
  have hle:11<=(Qo (a::l)).length:=by rw[QW];simp;omega
  simp(disch:=(first | omega | (simp only[hnP];try omega))) only[QeS,QK,simprocAttr,el0,ec1,et0,hgb,hd11,hle,e8,Wu]
  repeat' (first
    | (refine QG (λh=>?_) (λh=>?_)<;>(try simp only[Lr,Lu]at h)<;>simp(disch:=(first | omega | (simp only[hnP];try omega))) only[QK,simprocAttr,el0,ec1,et0,hgb,hd11,hle,e8,Wu,h])
    | (refine Qi (λh=>?_) (λh=>?_)<;>(try simp only[Lr,Lu]at h)<;>simp(disch:=(first | omega | (simp only[hnP];try omega))) only[QK,simprocAttr,el0,ec1,et0,hgb,hd11,hle,e8,Wu,h])
    | (refine(q1 _).thenW ?_;rintro _ _ hn hw2 ⟨rfl,rfl⟩;(try simp only[Qe,Qy,QE]at hn);simp(disch:=(first | omega | (simp only[hnP];try omega))) only[QK,simprocAttr,el0,ec1,et0,hgb,hd11,hle,e8,Wu])
    | (refine(q2 _).thenW ?_;rintro _ _ hn hw2 ⟨rfl,rfl⟩;(try simp only[Qe,Qy,QE]at hn);simp(disch:=(first | omega | (simp only[hnP];try omega))) only[QK,simprocAttr,el0,ec1,et0,hgb,hd11,hle,e8,Wu])
    | (refine(q3 _).thenW ?_;rintro _ _ hn hw2 ⟨rfl,k,rfl⟩;(try simp only[Qe,Qy,QE]at hn);simp(disch:=(first | omega | (simp only[hnP];try omega))) only[QK,simprocAttr,el0,ec1,et0,hgb,hd11,hle,e8,Wu])
    | (with_reducible refine⟨by simp[Qm,plain],by omega,?_⟩)
    | (with_reducible refine⟨by simp[Qm,plain],?_⟩)
    | fail)
  all_goals refine .ext hw ?_ ⟨?_,_,rfl⟩
  all_goals try (repeat' (first | exact Ext.refl _ | refine Ext.push ?_ _ | refine Ext.up ?_ (by simp only[Qe,QE,Qy];omega) | refine Ext.set ?_ (by omega) _))
  all_goals simp_all
def QhE (n bits:Int):Int:=if bits=8 then n % 256 else if bits=16 then n % 65536 else if bits=32 then n % 4294967296 else n
def QhF (n bits:Int):Int:=if bits=8 then(n+128) % 256 - 128 else if bits=16 then(n+32768) % 65536 - 32768 else if bits=32 then(n+2147483648) % 4294967296 - 2147483648 else n
def Jt (n bits:Int) (sg:Bool):Int×Int:=
 if(bits==8||bits==16||bits==32||bits==64)=false then(0,2)
 else if(!(n==QhE n bits)&&!(n==QhF n bits))=true then(0,5)
 else if sg=true then(QhF n bits,0) else(QhE n bits,0)
theorem Qlv (n bits:Int) (sg:Bool) (hn:I64 n) (hb:bits=8∨bits=16∨bits=32∨bits=64) (H:Qa):Qg prog Yi [.int .i64 n,.int .i64 bits,.bool sg] H λu H'=>u=.tuple #[.int .i64 (Jt n bits sg).1,.int .i64 (Jt n bits sg).2]∧H'=H:=by
 refine Qgx λhw=>?_;rcases hb with rfl | rfl | rfl | rfl
 ·have t1:((8:Int)==8)=true:=rfl;have t2:((8:Int)==16)=false:=rfl;have t3:((8:Int)==32)=false:=rfl;have t4:((8:Int)==64)=false:=rfl;have w1:IntKind.i64.wrap (64 - 8)=56:=by decide
  have p1:(2:Int) ^ min (Int.toNat 56) IntKind.u64.bits=72057594037927936:=by decide
  have p2:(2:Int) ^ min (Int.toNat 56) IntKind.i64.bits=72057594037927936:=by decide
  have z0:((0:Int)<=56)=True:=eq_true (by decide);have eL:IntKind.i64.wrap ((IntKind.u64.wrap (IntKind.u64.wrap n * 72057594037927936)).fdiv 72057594037927936)=QhE n 8:=by
   unfold I64 at hn;rw[Np _ (by decide),NU,NC,NC];rw[show QhE n 8=n % 256 from rfl];omega
  have eC:(IntKind.i64.wrap (IntKind.u64.wrap (IntKind.u64.wrap n * 72057594037927936))).fdiv 72057594037927936=QhF n 8:=by
   unfold I64 at hn;rw[Np _ (by decide),NU,NC,NC];rw[show QhF n 8=(n+128) % 256 - 128 from rfl];omega
  simp(disch:=(first | omega | (simp only[hnP];try omega))) only[YC,QN,QO,QP,sxA,sxB,Nat.reduceBEq,Nat.reduceEqDiff,reduceCtorEq,mxD,mxB,Nat.reduceAdd,reduceIte,Nat.reduceLeDiff,splice,t1,t2,t3,t4,w1,z0,p1,p2,eL,eC,QY]
  obtain⟨lo,hlo⟩:∃lo,QhE n 8=lo:=⟨_,rfl⟩;obtain⟨cu,hcu⟩:∃cu,QhF n 8=cu:=⟨_,rfl⟩;have hI:Jt n 8 sg=if(!(n==lo)&&!(n==cu))=true then(0,5) else if sg=true then(cu,0) else(lo,0):=by
   rw[<- hlo,<- hcu];rfl
  rw[hI,hlo,hcu];clear hI eL eC hlo hcu
  repeat' (first
   | (refine QG (λh=>?_) (λh=>?_)<;>(try simp only[Lr,Lu]at h)<;>simp(disch:=(first | omega | (simp only[hnP];try omega))) only[QN,QO,QP,QK,simprocAttr,QY,h])
   | (refine Qi (λh=>?_) (λh=>?_)<;>(try simp only[Lr,Lu]at h)<;>simp(disch:=(first | omega | (simp only[hnP];try omega))) only[QN,QO,QP,QK,simprocAttr,QY,h])
   | fail)
  all_goals refine .mk (Lb _) ⟨?_,rfl⟩
  all_goals simp_all
 ·have t1:((16:Int)==8)=false:=rfl;have t2:((16:Int)==16)=true:=rfl;have t3:((16:Int)==32)=false:=rfl;have t4:((16:Int)==64)=false:=rfl;have w1:IntKind.i64.wrap (64 - 16)=48:=by decide
  have p1:(2:Int) ^ min (Int.toNat 48) IntKind.u64.bits=281474976710656:=by decide
  have p2:(2:Int) ^ min (Int.toNat 48) IntKind.i64.bits=281474976710656:=by decide
  have z0:((0:Int)<=48)=True:=eq_true (by decide);have eL:IntKind.i64.wrap ((IntKind.u64.wrap (IntKind.u64.wrap n * 281474976710656)).fdiv 281474976710656)=QhE n 16:=by
   unfold I64 at hn;rw[Np _ (by decide),NU,NC,NC];rw[show QhE n 16=n % 65536 from rfl];omega
  have eC:(IntKind.i64.wrap (IntKind.u64.wrap (IntKind.u64.wrap n * 281474976710656))).fdiv 281474976710656=QhF n 16:=by
   unfold I64 at hn;rw[Np _ (by decide),NU,NC,NC];rw[show QhF n 16=(n+32768) % 65536 - 32768 from rfl];omega
  simp(disch:=(first | omega | (simp only[hnP];try omega))) only[YC,QN,QO,QP,sxA,sxB,Nat.reduceBEq,Nat.reduceEqDiff,reduceCtorEq,mxD,mxB,Nat.reduceAdd,reduceIte,Nat.reduceLeDiff,splice,t1,t2,t3,t4,w1,z0,p1,p2,eL,eC,QY]
  obtain⟨lo,hlo⟩:∃lo,QhE n 16=lo:=⟨_,rfl⟩;obtain⟨cu,hcu⟩:∃cu,QhF n 16=cu:=⟨_,rfl⟩;have hI:Jt n 16 sg=if(!(n==lo)&&!(n==cu))=true then(0,5) else if sg=true then(cu,0) else(lo,0):=by
   rw[<- hlo,<- hcu];rfl
  rw[hI,hlo,hcu];clear hI eL eC hlo hcu
  repeat' (first
   | (refine QG (λh=>?_) (λh=>?_)<;>(try simp only[Lr,Lu]at h)<;>simp(disch:=(first | omega | (simp only[hnP];try omega))) only[QN,QO,QP,QK,simprocAttr,QY,h])
   | (refine Qi (λh=>?_) (λh=>?_)<;>(try simp only[Lr,Lu]at h)<;>simp(disch:=(first | omega | (simp only[hnP];try omega))) only[QN,QO,QP,QK,simprocAttr,QY,h])
   | fail)
  all_goals refine .mk (Lb _) ⟨?_,rfl⟩
  all_goals simp_all
 ·have t1:((32:Int)==8)=false:=rfl;have t2:((32:Int)==16)=false:=rfl;have t3:((32:Int)==32)=true:=rfl;have t4:((32:Int)==64)=false:=rfl;have w1:IntKind.i64.wrap (64 - 32)=32:=by decide
  have p1:(2:Int) ^ min (Int.toNat 32) IntKind.u64.bits=4294967296:=by decide
  have p2:(2:Int) ^ min (Int.toNat 32) IntKind.i64.bits=4294967296:=by decide
  have z0:((0:Int)<=32)=True:=eq_true (by decide);have eL:IntKind.i64.wrap ((IntKind.u64.wrap (IntKind.u64.wrap n * 4294967296)).fdiv 4294967296)=QhE n 32:=by
   unfold I64 at hn;rw[Np _ (by decide),NU,NC,NC];rw[show QhE n 32=n % 4294967296 from rfl];omega
  have eC:(IntKind.i64.wrap (IntKind.u64.wrap (IntKind.u64.wrap n * 4294967296))).fdiv 4294967296=QhF n 32:=by
   unfold I64 at hn;rw[Np _ (by decide),NU,NC,NC];rw[show QhF n 32=(n+2147483648) % 4294967296 - 2147483648 from rfl];omega
  simp(disch:=(first | omega | (simp only[hnP];try omega))) only[YC,QN,QO,QP,sxA,sxB,Nat.reduceBEq,Nat.reduceEqDiff,reduceCtorEq,mxD,mxB,Nat.reduceAdd,reduceIte,Nat.reduceLeDiff,splice,t1,t2,t3,t4,w1,z0,p1,p2,eL,eC,QY]
  obtain⟨lo,hlo⟩:∃lo,QhE n 32=lo:=⟨_,rfl⟩;obtain⟨cu,hcu⟩:∃cu,QhF n 32=cu:=⟨_,rfl⟩;have hI:Jt n 32 sg=if(!(n==lo)&&!(n==cu))=true then(0,5) else if sg=true then(cu,0) else(lo,0):=by
   rw[<- hlo,<- hcu];rfl
  rw[hI,hlo,hcu];clear hI eL eC hlo hcu
  repeat' (first
   | (refine QG (λh=>?_) (λh=>?_)<;>(try simp only[Lr,Lu]at h)<;>simp(disch:=(first | omega | (simp only[hnP];try omega))) only[QN,QO,QP,QK,simprocAttr,QY,h])
   | (refine Qi (λh=>?_) (λh=>?_)<;>(try simp only[Lr,Lu]at h)<;>simp(disch:=(first | omega | (simp only[hnP];try omega))) only[QN,QO,QP,QK,simprocAttr,QY,h])
   | fail)
  all_goals refine .mk (Lb _) ⟨?_,rfl⟩
  all_goals simp_all
 ·have t1:((64:Int)==8)=false:=rfl;have t2:((64:Int)==16)=false:=rfl;have t3:((64:Int)==32)=false:=rfl;have t4:((64:Int)==64)=true:=rfl;have w1:IntKind.i64.wrap (64 - 64)=0:=by decide
  have p1:(2:Int) ^ min (Int.toNat 0) IntKind.u64.bits=1:=by decide
  have p2:(2:Int) ^ min (Int.toNat 0) IntKind.i64.bits=1:=by decide
  have z0:((0:Int)<=0)=True:=eq_true (by decide);have eL:IntKind.i64.wrap ((IntKind.u64.wrap (IntKind.u64.wrap n * 1)).fdiv 1)=QhE n 64:=by
   unfold I64 at hn;rw[Np _ (by decide),NU,NC,NC];rw[show QhE n 64=n from rfl];omega
  have eC:(IntKind.i64.wrap (IntKind.u64.wrap (IntKind.u64.wrap n * 1))).fdiv 1=QhF n 64:=by
   unfold I64 at hn;rw[Np _ (by decide),NU,NC,NC];rw[show QhF n 64=n from rfl];omega
  simp(disch:=(first | omega | (simp only[hnP];try omega))) only[YC,QN,QO,QP,sxA,sxB,Nat.reduceBEq,Nat.reduceEqDiff,reduceCtorEq,mxD,mxB,Nat.reduceAdd,reduceIte,Nat.reduceLeDiff,splice,t1,t2,t3,t4,w1,z0,p1,p2,eL,eC,QY]
  obtain⟨lo,hlo⟩:∃lo,QhE n 64=lo:=⟨_,rfl⟩;obtain⟨cu,hcu⟩:∃cu,QhF n 64=cu:=⟨_,rfl⟩;have hI:Jt n 64 sg=if(!(n==lo)&&!(n==cu))=true then(0,5) else if sg=true then(cu,0) else(lo,0):=by
   rw[<- hlo,<- hcu];rfl
  rw[hI,hlo,hcu];clear hI eL eC hlo hcu
  repeat' (first
   | (refine QG (λh=>?_) (λh=>?_)<;>(try simp only[Lr,Lu]at h)<;>simp(disch:=(first | omega | (simp only[hnP];try omega))) only[QN,QO,QP,QK,simprocAttr,QY,h])
   | (refine Qi (λh=>?_) (λh=>?_)<;>(try simp only[Lr,Lu]at h)<;>simp(disch:=(first | omega | (simp only[hnP];try omega))) only[QN,QO,QP,QK,simprocAttr,QY,h])
   | fail)
  all_goals refine .mk (Lb _) ⟨?_,rfl⟩
  all_goals simp_all
theorem Vu (n bits:Int) (sg:Bool) (hn:I64 n) (H:Qa):Qg prog Yi [.int .i64 n,.int .i64 bits,.bool sg] H λu H'=>u=.tuple #[.int .i64 (Jt n bits sg).1,.int .i64 (Jt n bits sg).2]∧H'=H:=by
 by_cases hb:bits=8∨bits=16∨bits=32∨bits=64
 ·exact Qlv n bits sg hn hb H
 ·have t1:(bits==8)=false:=by simp;omega
  have t2:(bits==16)=false:=by simp;omega
  have t3:(bits==32)=false:=by simp;omega
  have t4:(bits==64)=false:=by simp;omega
  refine Qgx λhw=>?_;simp(disch:=(first | omega | (simp only[hnP];try omega))) only[YC,QN,QO,QP,QK,simprocAttr,t1,t2,t3,t4,QY]
  refine .mk (Lb _) ⟨?_,rfl⟩;simp[Jt,t1,t2,t3,t4]
theorem QAd (n b:Int) (h:I64 n):I64 (QhF n b):=by
 unfold I64 at *;unfold QhF;split
 ·omega
 ·split
  ·omega
  ·split<;>omega
theorem QAe (n b:Int) (h:I64 n):I64 (QhE n b):=by
 unfold I64 at *;unfold QhE;split
 ·omega
 ·split
  ·omega
  ·split<;>omega
theorem Qow (n b:Int) (sg:Bool) (h:I64 n):I64 (Jt n b sg).1:=by
 unfold Jt;split
 ·unfold I64;omega
 ·split
  ·unfold I64;omega
  ·split
   ·exact QAd n b h
   ·exact QAe n b h
def QiR:List Ar->Int
 | []=>0
 | a::l=>if(Wv a==0)=true then QiR l else Wv a
def Yp (k:Int):List Ar->Int
 | []=>0
 | a::l=>(if(a.k==k)=true then 1 else 0)+Yp k l
def Qdb (n:Int):List Ar->Int
 | []=>n
 | a::l=>Qdb (if(a.k==3)=true then a.n else n) l
def Wa (op:Int) (l:List Ar):Int:=
 if Xh op=false then 6 else if l.length>4 then 3 else if(QiR l==0)=false then QiR l
 else if(decide (1<Yp 2 l)||decide (1<Yp 4 l)||decide (1<Yp 3 l))=true then 2
 else if(Yp 3 l==0)=true then 0
 else if((WC op l).1==0)=true then 2 else(Jt (Qdb 0 l) (WC op l).1 (WC op l).2).2
theorem Qhq (k:Int):∀ (l:List Ar) (a:Ar),Yp k (l++[a])=Yp k l+(if(a.k==k)=true then 1 else 0)
 | [],a=>by simp[Yp]
 | b::l,a=>by simp only[Nm,Yp,Qhq k l a];omega
theorem QqQ:∀ (l:List Ar) (n:Int) (a:Ar),Qdb n (l++[a])=if(a.k==3)=true then a.n else Qdb n l
 | [],n,a=>by simp[Qdb]
 | b::l,n,a=>by simp only[Nm,Qdb,QqQ l _ a]
theorem QeV (k:Int):∀l:List Ar,0<=Yp k l∧Yp k l<=l.length
 | []=>by simp[Yp]
 | a::l=>by
  have:=QeV k l;simp only[Yp,Lo];split<;>omega
theorem Qox (n:Int):∀l:List Ar,Qdb n l=n∨∃a∈l,Qdb n l=a.n
 | []=>.inl rfl
 | a::l=>by
  unfold Qdb;split
  ·rcases Qox a.n l with h | ⟨b,hb,h⟩
   ·exact .inr ⟨a,by simp,h⟩
   ·exact .inr ⟨b,by simp[hb],h⟩
  ·rcases Qox n l with h | ⟨b,hb,h⟩
   ·exact .inl h
   ·exact .inr ⟨b,by simp[hb],h⟩
theorem QqR:∀ (l:List Ar) (i:Nat) (a:Ar),l[i]? = some a->QiR (l.drop i)=if(Wv a==0)=true then QiR (l.drop (i+1)) else Wv a
 | [],i,a,h=>by simp at h
 | b::l,0,a,h=>by simp at h;subst h;rfl
 | b::l,i+1,a,h=>by simpa using QqR l i a (by simpa using h)
theorem QyG {α:Type} (l:List α) (i:Nat) (a:α) (h:l[i]? = some a):l.take (i+1)=l.take i++[a]:=by
 rw[Nv,h];rfl
def icF (H:Qa) (op:Int) (v:Value) (A:Env) (H':Qa):Prop:=Ext H H'∧A 1=.pointer (some ⟨H.next,0,none⟩)∧H'.get H.next=some (.cells [.int .i64 op,v] Qc false)∧H.next<H'.next
theorem KI (op:Int) (v:Value) (l:List Ar) (H:Qa) (hv:Q0 H v l) (hl:l.length<=1000) (hI:∀a∈l,I64 a.n):Qg prog YP [.agg #[.int .i64 op,v]] H λu H'=>u=.int .i64 (Wa op l)∧∃k,H'=H.up k:=by
 refine QpL λhw=>?_;have P4:∀A H',icF H op v A H'->Xh op=true->l.length<=4->QiR l=0->A 6=.int .i64 (Yp 2 l)->A 7=.int .i64 (Yp 4 l)->A 8=.int .i64 (Yp 3 l)->A 9=.int .i64 (Qdb 0 l)->
   Qs prog Qaa ⟨Rt prog ZW H λu H'=>u=.int .i64 (Wa op l)∧∃k,H'=H.up k,YO⟩ (Rt prog ZW H λu H'=>u=.int .i64 (Wa op l)∧∃k,H'=H.up k) A H':=by
  rintro A H' ⟨hx,r1,g0,hb0⟩ c1 c2 c3 r6 r7 r8 r9;have qb:=λH' (hx:Ext H H')=>Qce op v l H' (hv.ext hw hx) hl;have hn:I64 (Qdb 0 l):=by
   rcases Qox 0 l with h | ⟨a,ha,h⟩
   ·rw[h];unfold I64;omega
   ·rw[h];exact hI a ha
  have hc:Wa op l=if(decide (1<Yp 2 l)||decide (1<Yp 4 l)||decide (1<Yp 3 l))=true then 2 else if(Yp 3 l==0)=true then 0 else if((WC op l).1==0)=true then 2 else(Jt (Qdb 0 l) (WC op l).1 (WC op l).2).2:=by
   unfold Wa;rw[Le (by simp[c1]),Le (by omega),Le (by simp[c3])]
  rw[hc];clear hc;generalize Yp 2 l=n2 at *;generalize Yp 4 l=n4 at *;generalize Yp 3 l=n3 at *;generalize Qdb 0 l=nn at *;generalize WC op l=ib at *;obtain⟨ib1,ib2⟩:=ib;have qi:=Vu nn ib1 ib2 hn;generalize Jt nn ib1 ib2=im at *;obtain⟨im1,im2⟩:=im;obtain⟨a0,cap,rfl,h1⟩:=hv;simp(disch:=(first | omega | (simp only[hnP];try omega))) only[Qaa,XV,XU,XT,QK,simprocAttr,Q4,r1,g0,r6,r7,r8,r9]
  repeat' (first
   | (refine QG (λh=>?_) (λh=>?_)<;>(try simp only[Lr,Lu]at h)<;>simp(disch:=(first | omega | (simp only[hnP];try omega))) only[XV,XU,XT,QK,simprocAttr,Q4,r1,g0,r6,r7,r8,r9,h])
   | (refine Qi (λh=>?_) (λh=>?_)<;>(try simp only[Lr,Lu]at h)<;>simp(disch:=(first | omega | (simp only[hnP];try omega))) only[XV,XU,XT,QK,simprocAttr,Q4,r1,g0,r6,r7,r8,r9,h])
   | (refine(qb _ hx).thenW ?_;rintro _ _ hn hw2 ⟨rfl,k,rfl⟩;have hx:=hx.up (show _<=k from hn);simp(disch:=(first | omega | (simp only[hnP];try omega))) only[XV,XU,XT,QK,simprocAttr,Q4,r1,g0,r6,r7,r8,r9])
   | (refine(qi _).thenW ?_;rintro _ _ hn hw2 ⟨rfl,rfl⟩;simp(disch:=(first | omega | (simp only[hnP];try omega))) only[XV,XU,XT,QK,simprocAttr,Q4,r1,g0,r6,r7,r8,r9])
   | fail)
  all_goals refine .ext hw hx ⟨?_,_,rfl⟩
  all_goals simp_all
 have hS:∃a0 cap,v=.slice a0 l.length cap:=Q7 hv;obtain⟨a0,cap,hvs⟩:=hS;have hAt:∀ (i:Nat) (a:Ar) (H':Qa),Ext H H'->l[i]? = some a->∃b e ro,a0=some ⟨b,0,none⟩∧H'.get b=some (.cells (Qo l) e ro)∧b<H.next∧List.take 11 (List.drop (i * 11) (Qo l))=a.cells∧i * 11+11<=(Qo l).length:=by
  intro i a H' hx hi;have hil:i<l.length:=(Lk.1 hi).1;obtain⟨a1,cap1,e1,h1⟩:=hv;rw[hvs]at e1;cases e1;obtain⟨b,e,ro,rfl,hb⟩:=h1 (by omega);exact⟨b,e,ro,rfl,by rw[hx.get b (hw.lt hb)];exact hb,hw.lt hb,Xd l i a hi,by rw[QW];omega⟩
 have P9:∀A H',icF H op v A H'->Xh op=true->l.length<=4->QiR l=0->Qs prog Qab ⟨Rt prog ZW H λu H'=>u=.int .i64 (Wa op l)∧∃k,H'=H.up k,YO⟩ (Rt prog ZW H λu H'=>u=.int .i64 (Wa op l)∧∃k,H'=H.up k) A H':=by
  rintro A H' ⟨hx,r1,g0,hb0⟩ c1 c2 c3;simp(disch:=(first | omega | (simp only[hnP];try omega))) only[Qab,QK,simprocAttr,r1,g0,hvs]
  refine QB (λm A' H'=>∃i:Nat,i<=l.length∧m=l.length - i∧icF H op v A' H'∧A' 6=.int .i64 (Yp 2 (l.take i))∧A' 7=.int .i64 (Yp 4 (l.take i))∧A' 8=.int .i64 (Yp 3 (l.take i))∧A' 9=.int .i64 (Qdb 0 (l.take i))∧A' 38=.slice a0 l.length cap∧A' 39=.int .i64 l.length∧A' 40=.int .i64 i) l.length ?_ ?_
  ·refine⟨0,L7 _,by omega,⟨hx,?_,?_,hb0⟩,?_,?_,?_,?_,?_,?_,?_⟩
   all_goals (try simp only[Ql,simprocAttr,r1,g0,hvs])
   all_goals (first | rfl | simp[Yp,Qdb])
  ·rintro m A' H' ⟨i,hi,rfl,⟨hx,r1,g0,hb0⟩,r6,r7,r8,r9,r38,r39,r40⟩;simp(disch:=(first | omega | (simp only[hnP];try omega))) only[Qfm,QK,simprocAttr,r1,g0,r38,r39,r40]
   refine Qi (λh2=>?_) (λh2=>?_)
   ·have h2:i<l.length:=by have:=Lg h2;omega
    obtain⟨a,ha⟩:∃a,l[i]? = some a:=⟨_,La h2⟩;obtain⟨b,e,ro,rfl,hgb,hbn,htk,hle⟩:=hAt i a H' hx ha;have hxn:=hx.next;have d1:(0:Int)<=i∧(i:Int)<l.length:=by omega
    have d3:(i:Int).toNat=i:=by omega
    have ei:IntKind.i64.wrap ((i:Int)+1)=((i+1:Nat):Int):=by rw[w64 (by unfold I64;omega)];omega
    have b2:=QeV 2 (l.take i);have b3:=QeV 3 (l.take i);have b4:=QeV 4 (l.take i);have hlt:(l.take i).length<=1000:=by rw[Sb];omega
    have e2:IntKind.i64.wrap (Yp 2 (l.take i)+1)=Yp 2 (l.take i)+1:=w64 (by unfold I64;omega);have e3:IntKind.i64.wrap (Yp 3 (l.take i)+1)=Yp 3 (l.take i)+1:=w64 (by unfold I64;omega);have e4:IntKind.i64.wrap (Yp 4 (l.take i)+1)=Yp 4 (l.take i)+1:=w64 (by unfold I64;omega);have s2:=Qhq 2 (l.take i) a;have s3:=Qhq 3 (l.take i) a;have s4:=Qhq 4 (l.take i) a;have sn:=QqQ (l.take i) 0 a;rw[<- QyG l i a ha]at s2 s3 s4 sn;obtain⟨k,r,mm,n⟩:=a;simp only[Ar.cells]at htk;simp(disch:=(first | omega | (simp only[hnP];try omega))) only[Qfl,Qfk,Qfj,QK,simprocAttr,r1,g0,r6,r7,r8,r9,r38,r39,r40,d1,d3,hgb,htk,hle,ei,e2,e3,e4]
    repeat' (first
     | (refine Qi (λh=>?_) (λh=>?_)<;>simp(disch:=(first | omega | (simp only[hnP];try omega))) only[QK,simprocAttr,r6,r7,r8,r9,r38,r39,r40,ei,e2,e3,e4])
     | fail)
    all_goals refine⟨l.length - (i+1),by omega,i+1,by omega,rfl,⟨(hx.push _).set (by omega) _,?_,?_,?_⟩,?_,?_,?_,?_,?_,?_,?_⟩
    all_goals (first
     | (simp only[Ql,simprocAttr,r1,r38,r39];done)
     | (simp(disch:=(first | omega | (simp only[hnP];try omega))) only[Qry,simprocAttr,g0];done)
     | (simp only[QE,Qe];omega)
     | (simp only[Ql,simprocAttr,s2,s3,s4,sn,r6,r7,r8,r9];simp_all;done)
     | (simp only[Ql,simprocAttr,s2,s3,s4,sn,r6,r7,r8,r9];simp_all<;>omega))
   ·have h2:i=l.length:=by have:=Ll h2;omega
    subst h2;rw[Nr]at r6 r7 r8 r9;simp(disch:=(first | omega | (simp only[hnP];try omega))) only[QK,simprocAttr]
    refine P4 _ _ ⟨hx,?_,g0,hb0⟩ c1 c2 c3 ?_ ?_ ?_ ?_
    all_goals simp only[Ql,simprocAttr,r1,r6,r7,r8,r9]
 have P12:∀A H',icF H op v A H'->A 2=.int .i64 0->Xh op=true->l.length<=4->Qs prog Vf ⟨Rt prog ZW H λu H'=>u=.int .i64 (Wa op l)∧∃k,H'=H.up k,YO⟩ (Rt prog ZW H λu H'=>u=.int .i64 (Wa op l)∧∃k,H'=H.up k) A H':=by
  rintro A H' ⟨hx,r1,g0,hb0⟩ r2 c1 c2;simp(disch:=(first | omega | (simp only[hnP];try omega))) only[Vf,QK,simprocAttr,r1,g0,hvs]
  refine QB (λm A' H'=>∃i:Nat,i<=l.length∧m=l.length - i∧icF H op v A' H'∧QiR l=QiR (l.drop i)∧A' 25=.slice a0 l.length cap∧A' 26=.int .i64 l.length∧A' 27=.int .i64 i) l.length ?_ ?_
  ·refine⟨0,L7 _,by omega,⟨hx,?_,?_,hb0⟩,?_,?_,?_,?_⟩
   all_goals (try simp only[Ql,simprocAttr,r1,g0,hvs])
   all_goals (first | rfl | simp)
  ·rintro m A' H' ⟨i,hi,rfl,⟨hx,r1,g0,hb0⟩,he,r25,r26,r27⟩;simp(disch:=(first | omega | (simp only[hnP];try omega))) only[QdA,QK,simprocAttr,r1,g0,r25,r26,r27]
   refine Qi (λh2=>?_) (λh2=>?_)
   ·have h2:i<l.length:=by have:=Lg h2;omega
    obtain⟨a,ha⟩:∃a,l[i]? = some a:=⟨_,La h2⟩;obtain⟨b,e,ro,rfl,hgb,hbn,htk,hle⟩:=hAt i a H' hx ha;have hxn:=hx.next;have d1:(0:Int)<=i∧(i:Int)<l.length:=by omega
    have d3:(i:Int).toNat=i:=by omega
    have ei:IntKind.i64.wrap ((i:Int)+1)=((i+1:Nat):Int):=by rw[w64 (by unfold I64;omega)];omega
    have q1:=JB a;have he2:=QqR l i a ha;obtain⟨k,r,mm,n⟩:=a;simp only[Ar.cells]at htk q1;simp(disch:=(first | omega | (simp only[hnP];try omega))) only[Qdz,QK,simprocAttr,r1,g0,r25,r26,r27,d1,d3,hgb,htk,hle,ei]
    refine(q1 _).thenW ?_;rintro _ _ hn hw2 ⟨rfl,kk,rfl⟩;have hn2:H'.next+1<=kk:=hn;simp(disch:=(first | omega | (simp only[hnP];try omega))) only[QK,simprocAttr,r1,g0,r2,r25,r26,r27,ei,Q4]
    refine Qi (λh=>?_) (λh=>?_)
    ·simp(disch:=(first | omega | (simp only[hnP];try omega))) only[QK,simprocAttr,r1,g0,r2,r25,r26,r27,ei,Q4]
     refine .ext hw (((hx.push _).set (by omega) _).up (show _<=kk from hn)) ⟨?_,_,rfl⟩;unfold Wa;simp only[bne,Lr]at h;rw[Le (by simp[c1]),Le (by omega),he,he2,h];simp[h]
    ·simp(disch:=(first | omega | (simp only[hnP];try omega))) only[QK,simprocAttr,r1,g0,r2,r25,r26,r27,ei,Q4]
     refine⟨l.length - (i+1),by omega,i+1,by omega,rfl,⟨((hx.push _).set (by omega) _).up (show _<=kk from hn),?_,?_,?_⟩,?_,?_,?_,?_⟩
     ·simp only[Ql,simprocAttr,r1]
     ·simp(disch:=(first | omega | (simp only[hnP];try omega))) only[Qry,simprocAttr,g0]
     ·show H.next<kk;omega
     ·simp only[bne,Lu]at h;rw[he,he2,h];rfl
     all_goals simp only[Ql,simprocAttr,r25,r26]
   ·have h2:i=l.length:=by have:=Ll h2;omega
    subst h2;simp(disch:=(first | omega | (simp only[hnP];try omega))) only[QK,simprocAttr]
    refine P9 _ _ ⟨hx,?_,g0,hb0⟩ c1 c2 ?_
    ·simp only[Ql,simprocAttr,r1]
    ·rw[he,BU];rfl
 have qv:=QaQ op;have hz:Wa op l=if Xh op=false then 6 else if l.length>4 then 3 else Wa op l:=by
  split
  ·rename_i h;unfold Wa;rw[Lc h]
  ·rename_i h;split
   ·rename_i h2;unfold Wa;rw[Le h,Lc h2]
   ·rfl
 have hx0:=(Ext.refl H).push (.cells [.int .i64 op,v] Qc false);have hx1:=(Ext.refl H).push (.cells [.int .i64 op,.slice a0 l.length cap] Qc false);simp(disch:=(first | omega | (simp only[hnP];try omega))) only[QhZ,QK,simprocAttr,Q4]
 refine(qv _).thenW ?_;rintro _ _ hn hw2 ⟨rfl,rfl⟩;simp(disch:=(first | omega | (simp only[hnP];try omega))) only[QK,simprocAttr,Q4]
 refine Qi (λh1=>?_) (λh1=>?_)
 ·simp only[Lr]at h1;simp(disch:=(first | omega | (simp only[hnP];try omega))) only[QK,simprocAttr,Q4]
  refine .ext hw hx0 ⟨?_,_,rfl⟩;rw[hz,Lc h1]
 ·simp only[Lu]at h1;simp(disch:=(first | omega | (simp only[hnP];try omega))) only[QdB,QK,simprocAttr,hvs,Q4]
  refine Qi (λh2=>?_) (λh2=>?_)
  ·have h2:4<l.length:=by have:=Lg h2;omega
   simp(disch:=(first | omega | (simp only[hnP];try omega))) only[QK,simprocAttr,Q4]
   refine .ext hw hx1 ⟨?_,_,rfl⟩;rw[hz,Le (by simp[h1]),Lc h2]
  ·have h2:l.length<=4:=by have:=Ll h2;omega
   simp(disch:=(first | omega | (simp only[hnP];try omega))) only[QK,simprocAttr]
   refine P12 _ _ ⟨hx1,?_,?_,?_⟩ ?_ h1 h2
   ·simp only[Ql,simprocAttr]
   ·simp(disch:=(first | omega | (simp only[hnP];try omega))) only[Qry,simprocAttr,hvs]
   ·simp only[Qe];omega
   ·simp only[Ql,simprocAttr]
def Qlw (f s:Int):List Ar->Bool
 | [x,y]=>(x.k==f)&&(y.k==s)
 | _=>false
def Qbr:List Ar->Bool
 | [x,y]=>((x.k==1)&&(y.k==1))&&(x.r.c==y.r.c)
 | _=>false
theorem Qhr (x y:Ar):Qo [x,y]=x.cells++y.cells:=by simp[Qo]
theorem Vi (d:Nat) (op:Int) (v:Value) (l:List Ar) (f s:Int) (H:Qa) (ro:Bool) (hd:H.get d=some (.cells [.int .i64 op,v] QI ro)) (hv:Q0 H v l) (hl:l.length<=1000):
  Qg prog Yv [.pointer (some ⟨d,0,none⟩),.int .i64 f,.int .i64 s] H λu H'=>u=.bool (Qlw f s l)∧H'=H:=by
 refine QjY λhw=>?_;have hdn:=hw.lt hd;have hb:∀x y,l=[x,y]->∃b e ro cap,v=.slice (some ⟨b,0,none⟩) 2 cap∧H.get b=some (.cells (x.cells++y.cells) e ro):=by
  rintro x y rfl;obtain⟨a0,cap,rfl,h1⟩:=hv;obtain⟨b,e,ro,rfl,hb⟩:=h1 (by simp);exact⟨b,e,ro,cap,rfl,by rw[<- Qhr];exact hb⟩
 by_cases h:∃x y,l=[x,y]
 ·obtain⟨x,y,rfl⟩:=h;obtain⟨b,e,ro2,cap,rfl,hg⟩:=hb x y rfl;obtain⟨k,r,m,n⟩:=x;obtain⟨k',r',m',n'⟩:=y;simp only[Ar.cells,Nm,LH]at hg;have d0:((0:Int)<=0∧(0:Int)<((2:Nat):Int)):=by omega
  have d1:((0:Int)<=1∧(1:Int)<((2:Nat):Int)):=by omega
  have t0:(0:Int).toNat=0:=rfl;have t1:(1:Int).toNat=1:=rfl;have e2:(((2:Nat):Int)==2)=true:=rfl;simp(disch:=(first | omega | (simp only[hnP];try omega))) only[KG,QK,simprocAttr,hd,hg,d0,d1,t0,t1,e2,JO]
  repeat' (first
   | (refine QG (λh=>?_) (λh=>?_)<;>simp(disch:=(first | omega | (simp only[hnP];try omega))) only[QK,simprocAttr,hd,hg,d0,d1,t0,t1,e2,JO,h])
   | fail)
  all_goals refine .mk (Lb _) ⟨?_,rfl⟩
  all_goals simp_all [Qlw]
 ·have h2:Qlw f s l=false:=by
   match l,h with
   | [],_=>rfl
   | [_],_=>rfl
   | [x,y],h=>exact absurd ⟨x,y,rfl⟩ h
   | _::_::_::_,_=>rfl
  have h3:((l.length:Int)==2)=false:=by
   have:l.length≠2:=λh4=>h (by
    match l,h4 with
    | [x,y],_=>exact⟨x,y,rfl⟩)
   simp only[LC,Da];omega
  obtain⟨a0,cap,rfl,h1⟩:=hv;rw[h2];simp(disch:=(first | omega | (simp only[hnP];try omega))) only[KG,QK,simprocAttr,hd,h3,JO]
  refine .mk (Lb _) ⟨rfl,rfl⟩
theorem Qbs (d:Nat) (op:Int) (v:Value) (l:List Ar) (H:Qa) (ro:Bool) (hd:H.get d=some (.cells [.int .i64 op,v] QI ro)) (hv:Q0 H v l) (hl:l.length<=1000):
  Qg prog YT [.pointer (some ⟨d,0,none⟩)] H λu H'=>u=.bool (Qbr l)∧H'=H:=by
 refine QhD λhw=>?_;have hdn:=hw.lt hd;have q:=Vi d op v l 1 1 H ro hd hv hl
 by_cases h:∃x y,l=[x,y]
 ·obtain⟨x,y,rfl⟩:=h;obtain⟨a0,cap,rfl,h1⟩:=hv;obtain⟨b,e,ro2,rfl,hg⟩:=h1 (by simp);rw[Qhr]at hg;obtain⟨k,r,m,n⟩:=x;obtain⟨k',r',m',n'⟩:=y;simp only[Ar.cells,Nm,LH,Lo,L9]at hg hd q ⊢;have d0:((0:Int)<=0∧(0:Int)<((0+1+1:Nat):Int)):=by omega
  have d1:((0:Int)<=1∧(1:Int)<((0+1+1:Nat):Int)):=by omega
  have t0:(0:Int).toNat=0:=rfl;have t1:(1:Int).toNat=1:=rfl;simp(disch:=(first | omega | (simp only[hnP];try omega))) only[Ja,QK,simprocAttr,WB]
  refine q.thenW ?_;rintro _ _ hn hw2 ⟨rfl,rfl⟩;simp(disch:=(first | omega | (simp only[hnP];try omega))) only[QK,simprocAttr,WB]
  refine QG (λh=>?_) (λh=>?_)
  ·simp(disch:=(first | omega | (simp only[hnP];try omega))) only[QK,simprocAttr,hd,hg,d0,d1,t0,t1,WB,h]
   refine .mk (Lb _) ⟨?_,rfl⟩;simp_all [Qlw,Qbr]
  ·simp(disch:=(first | omega | (simp only[hnP];try omega))) only[QK,simprocAttr,hd,hg,d0,d1,t0,t1,WB,h]
   refine .mk (Lb _) ⟨?_,rfl⟩;simp_all [Qlw,Qbr]
 ·have h2:Qlw 1 1 l=false∧Qbr l=false:=by
   match l,h with
   | [],_=>exact⟨rfl,rfl⟩
   | [_],_=>exact⟨rfl,rfl⟩
   | [x,y],h=>exact absurd ⟨x,y,rfl⟩ h
   | _::_::_::_,_=>exact⟨rfl,rfl⟩
  rw[h2.1]at q;rw[h2.2];simp(disch:=(first | omega | (simp only[hnP];try omega))) only[Ja,QK,simprocAttr,WB]
  refine q.thenW ?_;rintro _ _ hn hw2 ⟨rfl,rfl⟩;simp(disch:=(first | omega | (simp only[hnP];try omega))) only[QK,simprocAttr,WB]
  refine .mk (Lb _) ⟨rfl,rfl⟩
theorem KJ (d b cap:Nat) (op:Int) (x y:Ar) (H:Qa) (ro:Bool) (e:TypeId) (hd:H.get d=some (.cells [.int .i64 op,.slice (some ⟨b,0,none⟩) 2 cap] QI ro)) (hb:H.get b=some (.cells (Qo [x,y]) e false)):
  Qg prog X1 [.pointer (some ⟨d,0,none⟩)] H λu H'=>u=.tuple #[]∧H'=(H.set b (.cells (Qo [y,y]) e false)).set b (.cells (Qo [y,x]) e false):=by
 refine QiP λhw=>?_;have hdn:=hw.lt hd;have hbn:=hw.lt hb;have d0:((0:Int)<=0∧(0:Int)<((2:Nat):Int)):=by omega
 have d1:((0:Int)<=1∧(1:Int)<((2:Nat):Int)):=by omega
 have t0:(0:Int).toNat=0:=rfl;have t1:(1:Int).toNat=1:=rfl;rw[Qhr]at hb;obtain⟨k,r,m,n⟩:=x;obtain⟨k',r',m',n'⟩:=y;simp only[Qhr,Ar.cells,Nm,LH]at hb ⊢;simp(disch:=(first | omega | (simp only[hnP];try omega))) only[Qbp,QK,simprocAttr,hd,hb,d0,d1,t0,t1,QhC]
 refine .mk (by simp only[QE];exact Lb _) ⟨rfl,rfl⟩
variable {P:Program} {A:Env} {H:Qa} {k:Value->Qa->Prop}
theorem QAf {t t' e:TypeId} {x:Operand} {a:Option Addr} {n c:Nat} (h1:P.underlying t=some (.slice e)) (hx:ev A x=.slice a n c):
  pr P (.gen (.binOp .eql t x (.const (.slice none 0 0)) t')) false A H k=k (.bool a.isNone) H:=by
 have hc:ev A (.const (.slice none 0 0))=.slice none 0 0:=rfl;have e:rop P (.gen (.binOp .eql t x (.const (.slice none 0 0)) t')) A H=some (.bool a.isNone,H):=by
  cases a<;>simp[rop,aop,QaF,Qpw,Qjz,Yl,hx,hc,h1,aeq,QfS,Kj,Yr,Qhy,Qpu]
 rw[QD3];unfold QFg;rw[e,QH]
theorem Qoy:∀l:List Ar,(Qo l).all (·.oneCell')=true
 | []=>rfl
 | a::l=>by
  rw[J9,Fo,Qoy l];rfl
theorem Qw2 (v:Value) (l:List Ar) (H:Qa) (hv:Q0 H v l) (hl:l.length<=1000):Qg prog Wk [v] H λu H'=>
  Ext H H'∧((l=[]∧(u=.slice none 0 0∨u=.slice (some ⟨H.next,0,none⟩) 0 0∧H'=H.push (.cells [] Qh false)))∨(l≠[]∧u=.slice (some ⟨H.next+1,0,none⟩) l.length (UNK+11)∧H'=(H.push (.cells [] Qh false)).push (.cells (Qo l) Qh false))):=by
 refine Gj λhw=>?_;obtain⟨a0,cap,rfl,h1⟩:=hv;have hx1:=(Ext.refl H).push (.cells [] Qh false);simp(disch:=(first | omega | (simp only[hnP];try omega))) only[Yn,QK,simprocAttr]
 rw[QAf (a:=a0) (e:=Qh) (n:=l.length) (c:=cap) (by kernel_rfl) (by simp only[Qba,simprocAttr])];cases l with
 | nil=>
  cases a0 with
  | none=>
   simp(disch:=(first | omega | (simp only[hnP];try omega))) only[Qb,simprocAttr,Qry,simprocAttr,Option.isNone,WL]
   exact .mk (Lb _) ⟨.refl _,.inl (.inl rfl)⟩
  | some x=>
   have hr:∀H1:Qa,YN Qh 11 88 (.slice (some ⟨H.next,0,none⟩) 0 0) (.slice (some x) 0 cap) H1=some (.slice (some ⟨H.next,0,none⟩) 0 0,H1):=λH1=>by simp[YN,ZQ]
   simp(disch:=(first | omega | (simp only[hnP];try omega))) only[Qb,simprocAttr,Qry,simprocAttr,Option.isNone,L9]
   unfold Qeu;rw[hr,QH];simp(disch:=(first | omega | (simp only[hnP];try omega))) only[Qb,simprocAttr,Qry,simprocAttr,WL]
   exact .mk hx1.next ⟨hx1,.inl (.inr ⟨rfl,rfl⟩)⟩
 | cons a l=>
  obtain⟨b,e,ro,rfl,hb⟩:=h1 (by simp);have hbn:=hw.lt hb;have hlen:=QW (a::l);have hn:ZQ 11 (.slice (some ⟨b,0,none⟩) (l.length+1) cap) (H.push (.cells [] Qh false))=some (l.length+1,Qo (a::l)):=by
   rw[Qb5 (c:=Qo (a::l)) (e:=e) (ro:=ro) (by rw[Qms (by omega)];exact hb) (by omega) (by rw[hlen,Lo];omega),Lw,LF (by rw[hlen,Lo];exact Lb _)]
  rw[Lo]at hl;simp(disch:=(first | omega | (simp only[hnP];try omega))) only[Qb,simprocAttr,Qry,simprocAttr,Option.isNone]
  refine Qlk (c:=[]) (ro:=false) (e':=Qh) hn (Qoy _) (by omega) (Qmr rfl) (by simp) (by omega) (by omega) (by decide) (by omega) ?_;simp(disch:=(first | omega | (simp only[hnP];try omega))) only[Qb,simprocAttr,Qry,simprocAttr,WL]
  refine .mk (hx1.push _).next ⟨hx1.push _,?_⟩;simp
def QtF (op:Int) (l:List Ar):Bool:=(op==16)&&Qlw 1 3 l
def QtG (op:Int) (l:List Ar):Bool:=(op==10||op==11)&&Qlw 1 2 l
def QrQ (op:Int):List Ar->Bool
 | [x,y]=>(op==11)&&Qbr [x,y]&&!(decide (x.r.n<=y.r.n))
 | _=>false
theorem QtH {f s:Int} {l:List Ar} (h:Qlw f s l=true):∃x y,l=[x,y]:=by
 match l,h with
 | [x,y],_=>exact⟨x,y,rfl⟩
theorem QAg (d:Nat) (op:Int) (v:Value) (l:List Ar) (H:Qa) (hd:H.get d=some (.cells [.int .i64 op,v] QI false)) (hv:Q0 H v l) (hl:l.length<=1000) (hw1:∀x y,l=[x,y]->∃b cap,v=.slice (some ⟨b,0,none⟩) 2 cap∧H.get b=some (.cells (Qo l) Qh false)):
    Qg prog WP [.pointer (some ⟨d,0,none⟩)] H λu H'=>u=.bool (QtG op l)∧(QtG op l=false->H'=H)∧(QtG op l=true->∃x y b cap,l=[x,y]∧v=.slice (some ⟨b,0,none⟩) 2 cap∧H'=(H.set b (.cells (Qo [y,y]) Qh false)).set b (.cells (Qo [y,x]) Qh false)):=by
  refine Qgy λhw=>?_;have hdn:=hw.lt hd;have q:=Vi d op v l 1 2 H false hd hv hl;have qt:=λb cap x y e=>KJ d b cap op x y H false e;have hc:QtG op l=((op==10||op==11)&&Qlw 1 2 l):=rfl;rw[hc];have ht:=@QtH 1 2 l;generalize Qlw 1 2 l=r at *;simp(disch:=(first | omega | (simp only[hnP];try omega))) only[VG,QK,simprocAttr,hd,WW]
  repeat' (first
    | (refine QG (λh=>?_) (λh=>?_)<;>(try simp only[bne,Lr,Lu]at h)<;>simp(disch:=(first | omega | (simp only[hnP];try omega))) only[QK,simprocAttr,hd,WW,h])
    | (refine Qi (λh=>?_) (λh=>?_)<;>(try simp only[bne,Lr,Lu]at h)<;>simp(disch:=(first | omega | (simp only[hnP];try omega))) only[QK,simprocAttr,hd,WW,h])
    | (refine q.thenW ?_;rintro _ _ hn hw2 ⟨rfl,rfl⟩;simp(disch:=(first | omega | (simp only[hnP];try omega))) only[QK,simprocAttr,hd,WW])
    | fail)
  all_goals (first
    | (refine .mk (Lb _) ⟨by simp,λ_=>rfl,by simp⟩)
    | (obtain⟨x,y,hxy⟩:=ht (by assumption)
       obtain⟨b,cap,hvb,hb⟩:=hw1 x y hxy;subst hxy hvb;refine(qt b cap x y _ hd hb).thenW ?_;rintro _ _ hn hw2 ⟨rfl,rfl⟩;simp(disch:=(first | omega | (simp only[hnP];try omega))) only[QK,simprocAttr,WW]
       refine .mk (by simp only[QE];exact Lb _) ⟨by simp_all,by simp_all,λ_=>⟨x,y,b,cap,rfl,rfl,rfl⟩⟩))
theorem QyH (d:Nat) (op:Int) (v:Value) (l:List Ar) (H:Qa) (hd:H.get d=some (.cells [.int .i64 op,v] QI false)) (hv:Q0 H v l) (hl:l.length<=1000) (hw1:∀x y,l=[x,y]->∃b cap,v=.slice (some ⟨b,0,none⟩) 2 cap∧H.get b=some (.cells (Qo l) Qh false)):
    Qg prog Wz [.pointer (some ⟨d,0,none⟩)] H λu H'=>u=.bool (QtF op l)∧(QtF op l=false->H'=H)∧(QtF op l=true->∃x y,l=[x,y]∧H'=(H.push (.cells (Qo [x,x,y]) Qh false)).set d (.cells [.int .i64 op,.slice (some ⟨H.next,0,none⟩) 3 3] QI false)):=by
  refine QfX λhw=>?_;have hdn:=hw.lt hd;have q:=Vi d op v l 1 3 H false hd hv hl;have hc:QtF op l=((op==16)&&Qlw 1 3 l):=rfl;rw[hc];have ht:=@QtH 1 3 l;have hdz:¬d=H.next:=by omega
  generalize Qlw 1 3 l=r at *;simp(disch:=(first | omega | (simp only[hnP];try omega))) only[Gy,QK,simprocAttr,hd,Wm]
  repeat' (first
    | (refine QG (λh=>?_) (λh=>?_)<;>(try simp only[bne,Lr,Lu]at h)<;>simp(disch:=(first | omega | (simp only[hnP];try omega))) only[QK,simprocAttr,hd,Wm,h])
    | (refine Qi (λh=>?_) (λh=>?_)<;>(try simp only[bne,Lr,Lu]at h)<;>simp(disch:=(first | omega | (simp only[hnP];try omega))) only[QK,simprocAttr,hd,Wm,h])
    | (refine q.thenW ?_;rintro _ _ hn hw2 ⟨rfl,rfl⟩;simp(disch:=(first | omega | (simp only[hnP];try omega))) only[QK,simprocAttr,hd,Wm])
    | fail)
  all_goals (first
    | (refine .mk (Lb _) ⟨by simp,λ_=>rfl,by simp⟩)
    | (obtain⟨x,y,hxy⟩:=ht (by assumption)
       obtain⟨b,cap,hvb,hb⟩:=hw1 x y hxy;subst hxy hvb;obtain⟨k,r,m,n⟩:=x;obtain⟨k',r',m',n'⟩:=y;have hbn:=hw.lt hb;have d0:((0:Int)<=0∧(0:Int)<((2:Nat):Int)):=by omega
       have d1:((0:Int)<=1∧(1:Int)<((2:Nat):Int)):=by omega
       have t0:(0:Int).toNat=0:=rfl;have t1:(1:Int).toNat=1:=rfl;simp only[Qhr,Ar.cells,Nm,LH]at hb;simp(disch:=(first | omega | (simp only[hnP];try omega))) only[sxA,sxB,Nat.reduceBEq,Nat.reduceEqDiff,reduceCtorEq,mxA,mxB,Nat.reduceAdd,reduceIte,Nat.reduceLeDiff,splice,mxD,mxB,Nat.reduceAdd,reduceIte,Nat.reduceLeDiff,splice,hd,hb,d0,d1,t0,t1,Wm]
       rw[Lc (by decide)];simp(disch:=(first | omega | (simp only[hnP];try omega))) only[Qb,simprocAttr,Qry,simprocAttr,hd,hb,hdz,LN,d0,d1,t0,t1,Wm]
       refine .mk (by simp only[QE,Qe];omega) ⟨rfl,λh=>h.elim,λ_=>⟨_,_,rfl,rfl⟩⟩))
theorem QAh (d:Nat) (op:Int) (v:Value) (l:List Ar) (H:Qa) (hd:H.get d=some (.cells [.int .i64 op,v] QI false)) (hv:Q0 H v l) (hl:l.length<=1000) (hw1:∀x y,l=[x,y]->∃b cap,v=.slice (some ⟨b,0,none⟩) 2 cap∧H.get b=some (.cells (Qo l) Qh false)):
  Qg prog WQ [.pointer (some ⟨d,0,none⟩)] H λu H'=>u=.bool (QrQ op l)∧(QrQ op l=false->H'=H)∧(QrQ op l=true->∃x y b cap,l=[x,y]∧v=.slice (some ⟨b,0,none⟩) 2 cap∧H'=(H.set b (.cells (Qo [y,y]) Qh false)).set b (.cells (Qo [y,x]) Qh false)):=by
 refine Qgz λhw=>?_;have hdn:=hw.lt hd;have q:=Qbs d op v l H false hd hv hl
 by_cases h2:∃x y,l=[x,y]
 ·obtain⟨x,y,hxy⟩:=h2;obtain⟨b,cap,hvb,hb⟩:=hw1 x y hxy;subst hxy hvb;have qt:=KJ d b cap op x y H false Qh hd hb;have hbn:=hw.lt hb;have hc:QrQ op [x,y]=((op==11)&&Qbr [x,y]&&!(decide (x.r.n<=y.r.n))):=rfl;rw[hc];have hb2:H.get b=some (.cells (x.cells++y.cells) Qh false):=by rw[<- Qhr];exact hb
  have d0:((0:Int)<=0∧(0:Int)<((2:Nat):Int)):=by omega
  have d1:((0:Int)<=1∧(1:Int)<((2:Nat):Int)):=by omega
  have t0:(0:Int).toNat=0:=rfl;have t1:(1:Int).toNat=1:=rfl;obtain⟨k,r,m,n⟩:=x;obtain⟨k',r',m',n'⟩:=y;simp only[Ar.cells,Nm,LH]at hb2;generalize Qbr _=al at *;simp(disch:=(first | omega | (simp only[hnP];try omega))) only[ZE,QK,simprocAttr,hd,hb2,d0,d1,t0,t1,QV]
  repeat' (first
   | (refine QG (λh=>?_) (λh=>?_)<;>(try simp only[bne,Lr,Lu]at h)<;>simp(disch:=(first | omega | (simp only[hnP];try omega))) only[QK,simprocAttr,hd,hb2,d0,d1,t0,t1,QV,h])
   | (refine Qi (λh=>?_) (λh=>?_)<;>(try simp only[bne,Lr,Lu]at h)<;>simp(disch:=(first | omega | (simp only[hnP];try omega))) only[QK,simprocAttr,hd,hb2,d0,d1,t0,t1,QV,h])
   | (refine q.thenW ?_;rintro _ _ hn hw2 ⟨rfl,rfl⟩;simp(disch:=(first | omega | (simp only[hnP];try omega))) only[QK,simprocAttr,hd,hb2,d0,d1,t0,t1,QV])
   | (refine qt.thenW ?_;rintro _ _ hn hw2 ⟨rfl,rfl⟩;simp(disch:=(first | omega | (simp only[hnP];try omega))) only[QK,simprocAttr,QV])
   | fail)
  all_goals (first
   | (refine .mk (Lb _) ⟨by simp,λ_=>rfl,by simp⟩)
   | (refine .mk (by simp only[QE];exact Lb _) ⟨rfl,λh=>h.elim,λ_=>⟨_,_,b,cap,rfl,rfl,rfl⟩⟩))
 ·have h3:Qbr l=false∧QrQ op l=false:=by
   match l,h2 with
   | [],_=>exact⟨rfl,rfl⟩
   | [_],_=>exact⟨rfl,rfl⟩
   | [x,y],h=>exact absurd ⟨x,y,rfl⟩ h
   | _::_::_::_,_=>exact⟨rfl,rfl⟩
  rw[h3.1]at q;rw[h3.2];simp(disch:=(first | omega | (simp only[hnP];try omega))) only[ZE,QK,simprocAttr,hd,QV]
  repeat' (first
   | (refine QG (λh=>?_) (λh=>?_)<;>(try simp only[bne,Lr,Lu]at h)<;>simp(disch:=(first | omega | (simp only[hnP];try omega))) only[QK,simprocAttr,hd,QV,h])
   | (refine Qi (λh=>?_) (λh=>?_)<;>(try simp only[bne,Lr,Lu]at h)<;>simp(disch:=(first | omega | (simp only[hnP];try omega))) only[QK,simprocAttr,hd,QV,h])
   | (refine q.thenW ?_;rintro _ _ hn hw2 ⟨rfl,rfl⟩;simp(disch:=(first | omega | (simp only[hnP];try omega))) only[QK,simprocAttr,hd,QV])
   | fail)
  all_goals exact .mk (Lb _) ⟨rfl,λ_=>rfl,by simp⟩
def Yk (ib:Int×Bool) (a:Ar):Ar×Int:=
 let b:=Wc a
 if(b.2==0)=false then(a,b.2)
 else if(b.1.k==3)=true then(let im:=Jt b.1.n ib.1 ib.2;({b.1 with n:=im.1},im.2))
 else(b.1,0)
def QX (ib:Int×Bool):List Ar->List Ar×Int
 | []=>([],0)
 | a::l=>if((Yk ib a).2==0)=true then((Yk ib a).1::(QX ib l).1,(QX ib l).2) else([],(Yk ib a).2)
def Ka (op:Int) (l:List Ar):List Ar:=
 if QtF op l=true then(match l with | [x,y]=>[x,x,y] | l=>l)
 else if QtG op l=true then l.reverse
 else if QrQ op l=true then l.reverse
 else l
def Qt (op:Int) (l:List Ar):Int×List Ar×Int:=
 if(Wa op l==0)=false then(0,[],Wa op l)
 else if((QX (WC op l) l).2==0)=false then(0,[],(QX (WC op l) l).2)
 else(op,Ka op (QX (WC op l) l).1,0)
theorem Qj2 (ib:Int×Bool):∀ (l:List Ar) (i:Nat) (a:Ar),l[i]? = some a->QX ib (l.drop i)=if((Yk ib a).2==0)=true then((Yk ib a).1::(QX ib (l.drop (i+1))).1,(QX ib (l.drop (i+1))).2) else([],(Yk ib a).2)
 | [],i,a,h=>by simp at h
 | b::l,0,a,h=>by simp at h;subst h;rfl
 | b::l,i+1,a,h=>by simpa using Qj2 ib l i a (by simpa using h)
theorem QyK (a:Ar) (h:I64 a.n):I64 (Wc a).1.n:=by
 have h0:I64 0:=by unfold I64;omega
 unfold Wc Zj;split
 ·split
  ·exact h0
  ·split
   ·exact h0
   ·exact h
 ·exact h0
theorem QvR (c:List Value) (o:Nat) (l:List Value) (h:o+l.length<=c.length):(splice c o l).length=c.length:=by
 simp[splice];omega
theorem QpP (c:List Value) (o:Nat) (l:List Value) (h:o<=c.length) (j:Nat) (hj:j<o):(splice c o l)[j]? = c[j]? := by
 unfold splice;rw[LY (by simp;omega),Nl,Lc hj]
theorem QyL (c:List Value) (o:Nat) (v:Value) (h:o<c.length):(splice c o [v])[o]? = some v:=by
 unfold splice;rw[LR (by simp;omega)];simp[show min o c.length=o by omega]
theorem Qh5 (l m:List Ar):Qo (l++m)=Qo l++Qo m:=by simp[Qo]
theorem QpQ (d:List Ar) (a b:Ar) (l:List Ar):splice (Qo (d++a::l)) (d.length * 11) b.cells=Qo (d++b::l):=by
 have hd:=QW d;unfold splice;rw[Qh5,Qh5,J9,J9,<- hd,List.take_left,Wi];have:(Qo d++(a.cells++Qo l)).drop ((Qo d).length+11)=Qo l:=by
  rw[show(Qo d).length+11=(Qo d).length+a.cells.length by rw[Wi],<- Rc,List.drop_left,List.drop_left]
 rw[this]
theorem QGm (f:Fn) (xs ys:Array Value):(Value.func f xs ys).cells.toList=[.func f xs ys]:=Nu rfl rfl
theorem QGn (f:Fn) (xs ys:Array Value):(Value.func f xs ys).oneCell'=true:=Nu rfl rfl
theorem QEf {P:Program} (f:FuncId) (l:List Value) (H:Qa) (k:Value->Qa->Prop):cvK (.func (.func f) #[] #[]) P l H k=Qg P f l H k:=by
 show Qg P f (([]:List Value)++l++[]) H k=_;rw[LH,Na]
theorem Qcg (a:Ar):List.take 11 a.cells=a.cells:=rfl
theorem QeW (a:Ar):(a.cells.all λv=>v.oneCell')=true:=rfl
theorem QiU {op:Int} {l:List Ar} (h:(Wa op l==0)=true):l.length<=4:=by
 unfold Wa at h;split at h
 ·simp at h
 ·split at h
  ·simp at h
  ·omega
def Qhs (op:Int) (l:List Ar) (H:Qa) (u:Value) (H':Qa):Prop:=
 Ext H H'∧∃v',u=.tuple #[.agg #[.int .i64 (Qt op l).1,v'],.int .i64 (Qt op l).2.2]∧Q0 H' v' (Qt op l).2.1∧∀a n c,v'=.slice (some a) n c->H.next<=a.block∧a.block<H'.next
theorem QrS {op:Int} {l:List Ar} {H H':Qa} (hx:Ext H H') {e:Int} (h:Qt op l=(0,[],e)):Qhs op l H (.tuple #[.agg #[.int .i64 0,.slice none 0 0],.int .i64 e]) H':=by
 unfold Qhs;rw[h];exact⟨hx,_,rfl,⟨none,0,rfl,λh=>absurd h (NX 0)⟩,λa n c h=>by cases h⟩
def QrT:PC:=(.seq (.ops [⟨some 105,.mv (t 7),none,false⟩,⟨some 106,.gen (.nilCheck (t 105)),none,false⟩,⟨some 107,.fldA 0 (t 106),none,false⟩,⟨some 108,.ld false 1 (t 107),none,false⟩,⟨some 109,.mv (t 7),none,false⟩,⟨some 110,.gen (.nilCheck (t 109)),none,false⟩,⟨some 111,.fldA 1 (t 110),none,false⟩,⟨some 112,.ld false 1 (t 111),none,false⟩,⟨some 113,.build [.int .i64 0,.slice none 0 0] [(0,1,(t 108)),(1,1,(t 112))],none,false⟩,⟨none,.st 2 (t 2) (t 113),none,false⟩,⟨some 3,.mv (.const (.int .i64 0)),none,false⟩]) .ret)
section
variable (op:Int) (l:List Ar) (H:Qa)
abbrev KC:Env->Qa->Prop:=Rt prog QeR H (Qhs op l H)
theorem QAl (e:Nat->Env->Qa->Prop) (k:Env->Qa->Prop) (A:Env) (H':Qa) (D:Nat) (cv:Value) (m:List Ar) (hx:Ext H H') (hD:H.next+2<=D)
  (r2:A 2=.pointer (some ⟨H.next+1,0,none⟩)) (r7:A 7=.pointer (some ⟨D,0,none⟩)) (gR:H'.get (H.next+1)=some (.cells [.int .i64 0,.slice none 0 0] Qc false))
  (gD:H'.get D=some (.cells [.int .i64 op,cv] QI false)) (hc:Q0 H' cv m) (hf:∀a n c,cv=.slice (some a) n c->H.next+2<=a.block∧a.block<H'.next) (hm:Qt op l=(op,m,0)):
  Qs prog QrT
   ⟨KC op l H,e⟩ k A H':=by
 obtain⟨ca,cap,rfl,h1⟩:=hc;simp only[QrT,Qb,simprocAttr,r2,r7,gR,gD,KE];have hx2:Ext H (H'.set (H.next+1) (.cells [.int .i64 op,.slice ca m.length cap] Qc false)):=hx.set (by omega) _;refine .mk hx2.next ⟨hx2,_,by rw[hm],?_,λa n c h=>by have:=hf a n c h;rw[QE];omega⟩;rw[hm];refine⟨ca,cap,rfl,λhn=>?_⟩;obtain⟨b,e',ro,rfl,hb⟩:=h1 hn;have:=hf _ _ _ rfl;simp only at this;exact⟨b,e',ro,rfl,by rw[Qn,Le (by omega)];exact hb⟩
theorem QvS {m:List Ar} (h1:QtF op m=false) (h2:QtG op m=false) (h3:QrQ op m=false):Ka op m=m:=by simp[Ka,h1,h2,h3]
theorem QyM (e:Nat->Env->Qa->Prop) (k:Env->Qa->Prop) (A:Env) (H':Qa) (D:Nat) (cv:Value) (m:List Ar) (hx:Ext H H') (hw:H'.Wf) (hD:H.next+2<=D)
  (r2:A 2=.pointer (some ⟨H.next+1,0,none⟩)) (r7:A 7=.pointer (some ⟨D,0,none⟩)) (gR:H'.get (H.next+1)=some (.cells [.int .i64 0,.slice none 0 0] Qc false))
  (gD:H'.get D=some (.cells [.int .i64 op,cv] QI false)) (hc:Q0 H' cv m) (hl:m.length<=1000) (hf:∀a n c,cv=.slice (some a) n c->H.next+2<=a.block∧¬a.block=D∧a.block<H'.next)
  (hw1:∀x y,m=[x,y]->∃b cap,cv=.slice (some ⟨b,0,none⟩) 2 cap∧H'.get b=some (.cells (Qo m) Qh false)) (hm:Qt op l=(op,Ka op m,0)):
  Qs prog Jz ⟨KC op l H,e⟩ k A H':=by
 have tail:=λA2 H2 cv2 m2 hx2 a b c d f g h=>QAl op l H e k A2 H2 D cv2 m2 hx2 hD a b c d f g h;have hDn:=hw.lt gD;have hxn:=hx.next;have hRn:=hw.lt gR;obtain⟨n6,e6⟩:∃n6,Jz=.seq (.seq (.ops [⟨some 95,.bslice n6 1 3 [.nilFunc,.nilFunc,.nilFunc] [(0,(.func Wz)),(1,(.func WP)),(2,(.func WQ))],none,false⟩,⟨some 96,.lenS (t 95),none,false⟩,⟨some 97,.mv (.const (.int .i64 0)),none,false⟩]) (.block 4 (.loop Qac))) QrT:=⟨_,rfl⟩;rw[e6,QaX];generalize hT:Qs prog QrT ⟨KC op l H,e⟩ k=T;have tailT:=λA2 H2 cv2 m2 hx2 a b c d f g h=>(by rw[<- hT];exact tail A2 H2 cv2 m2 hx2 a b c d f g h:T A2 H2);simp(disch:=(first | omega | (simp only[hnP];try omega))) only[QK,simprocAttr,QGm,QGn,Nat.reduceMul,Nat.reduceLeDiff,N3]
 generalize hbl:Blk.cells [.func (.func Wz) #[] #[],.func (.func WP) #[] #[],.func (.func WQ) #[] #[]] _ false=bl;have hxp:Ext H' (H'.push bl):=(Ext.refl _).push _;have gF:(H'.push bl).get H'.next=some bl:=by rw[Qd,Lc rfl]
 have hwp:=hw.push bl;have hpn:(H'.push bl).next=H'.next+1:=rfl;generalize hHp:H'.push bl=Hp at hxp gF hwp hpn;subst hbl;have hxHp:=hx.trans hxp;have gDp:Hp.get D=some (.cells [.int .i64 op,cv] QI false):=by rw[hxp.get _ hDn];exact gD
 have gRp:Hp.get (H.next+1)=some (.cells [.int .i64 0,.slice none 0 0] Qc false):=by rw[hxp.get _ hRn];exact gR
 have hcp:Q0 Hp cv m:=hc.ext hw hxp;have hw1p:∀x y,m=[x,y]->∃b cap,cv=.slice (some ⟨b,0,none⟩) 2 cap∧Hp.get b=some (.cells (Qo m) Qh false):=λx y h=>by
  obtain⟨b,cap,h1,h2⟩:=hw1 x y h;exact⟨b,cap,h1,by rw[hxp.get _ (hw.lt h2)];exact h2⟩
 have q1:=QyH D op cv m Hp gDp hcp hl hw1p;have q2:=QAg D op cv m Hp gDp hcp hl hw1p;have q3:=QAh D op cv m Hp gDp hcp hl hw1p;have hsw:∀x y,m=[x,y]->∀b cap,cv=.slice (some ⟨b,0,none⟩) 2 cap->Qt op l=(op,[y,x],0)->∀A2,A2 2=.pointer (some ⟨H.next+1,0,none⟩)->A2 7=.pointer (some ⟨D,0,none⟩)->T A2 ((Hp.set b (.cells (Qo [y,y]) Qh false)).set b (.cells (Qo [y,x]) Qh false)):=by
  intro x y hxy b cap hcv hm2 A2 a2 a7;have hbn:=hf _ _ _ hcv;simp only at hbn;refine tailT A2 _ cv [y,x] ((hxHp.set (by omega) _).set (by omega) _) a2 a7 ?_ ?_ ⟨some ⟨b,0,none⟩,cap,by rw[hcv];rfl,λ_=>⟨b,_,_,rfl,by rw[Qn,Lc rfl]⟩⟩ (λa n c h=>⟨(hf a n c h).1,by have:=(hf a n c h).2.2;have:=hxp.next;simp only[QE];omega⟩) hm2
  ·rw[Qn,Le (by omega),Qn,Le (by omega)];exact gRp
  ·rw[Qn,Le (by omega),Qn,Le (by omega)];exact gDp
 refine QB (λm' A2 H2=>∃i:Nat,i<=3∧m'=3 - i∧H2=Hp∧A2 2=.pointer (some ⟨H.next+1,0,none⟩)∧A2 7=.pointer (some ⟨D,0,none⟩)∧A2 95=.slice (some ⟨H'.next,0,none⟩) 3 3∧A2 96=.int .i64 ((3:Nat):Int)∧A2 97=.int .i64 i∧(0<i->QtF op m=false)∧(1<i->QtG op m=false)∧(2<i->QrQ op m=false)) 3 ?_ ?_
 ·refine⟨0,L7 _,by omega,rfl,?_,?_,?_,?_,?_,λh=>by omega,λh=>by omega,λh=>by omega⟩
  all_goals simp only[Ql,simprocAttr,r2,r7]
  all_goals rfl
 ·rintro m' A2 H2 ⟨i,hi,rfl,rfl,a2,a7,a95,a96,a97,n1,n2,n3⟩;simp only[Qac,Qfn,sxA,sxB,Nat.reduceBEq,Nat.reduceEqDiff,reduceCtorEq,mxA,mxB,Nat.reduceAdd,reduceIte,Nat.reduceLeDiff,splice,a96,a97];refine Qi (λh2=>?_) (λh2=>?_)
  ·have h2:i<3:=by have:=Lg h2;omega
   have c1:(0:Int)<=i∧(i:Int)<((3:Nat):Int):=by omega
   have c3:(i:Int).toNat=i:=by omega
   have ei:IntKind.i64.wrap ((i:Int)+1)=((i+1:Nat):Int):=by rw[w64 (by unfold I64;omega)];omega
   simp only[sxA,sxB,Nat.reduceBEq,Nat.reduceEqDiff,reduceCtorEq,mxA,mxB,Nat.reduceAdd,reduceIte,Nat.reduceLeDiff,splice,a7,a95,a97,c1,c3,gF];obtain rfl | rfl | rfl:i=0∨i=1∨i=2:=by omega
   ·simp only[sxA,sxB,Nat.reduceBEq,Nat.reduceEqDiff,reduceCtorEq,mxA,mxB,Nat.reduceAdd,reduceIte,Nat.reduceLeDiff,splice,QEf];refine q1.thenW ?_;rintro _ H3 hn3 hw3 ⟨rfl,hF,hTr⟩;simp only[sxA,sxB,Nat.reduceBEq,Nat.reduceEqDiff,reduceCtorEq,mxA,mxB,Nat.reduceAdd,reduceIte,Nat.reduceLeDiff,splice];cases hd:QtF op m with
    | false=>
     rw[hF hd];simp only[sxA,sxB,Nat.reduceBEq,Nat.reduceEqDiff,reduceCtorEq,mxA,mxB,Nat.reduceAdd,reduceIte,Nat.reduceLeDiff,splice,a97,ei];refine⟨2,by omega,1,by omega,rfl,rfl,?_,?_,?_,?_,?_,λ_=>(by first | exact hd | trivial),λh=>by omega,λh=>by omega⟩
     all_goals simp only[Ql,simprocAttr,a2,a7,a95,a96]
    | true=>
     obtain⟨x,y,hxy,hH3⟩:=hTr hd;have hr:Ka op m=[x,x,y]:=by unfold Ka;rw[Lc hd,hxy]
     simp only[Qb,simprocAttr];rw[hH3];refine tailT _ _ (.slice (some ⟨H2.next,0,none⟩) 3 3) [x,x,y] ((hxHp.push _).set (by omega) _) (by first | exact a2 | simp only[Ql,simprocAttr,a2]) (by first | exact a7 | simp only[Ql,simprocAttr,a7]) ?_ ?_ ⟨_,_,rfl,λ_=>⟨H2.next,_,_,rfl,by rw[Qn,Le (by omega),Qd,Lc rfl]⟩⟩ (λa n c h=>by cases h;simp only[QE,Qe];omega) (by rw[hm,hr])
     ·rw[Qn,Le (by omega),Qd,Le (by omega)];exact gRp
     ·rw[Qn,Lc rfl]
   ·have hd:=n1 (by omega);simp only[sxA,sxB,Nat.reduceBEq,Nat.reduceEqDiff,reduceCtorEq,mxA,mxB,Nat.reduceAdd,reduceIte,Nat.reduceLeDiff,splice,QEf];refine q2.thenW ?_;rintro _ H3 hn3 hw3 ⟨rfl,hF,hTr⟩;simp only[sxA,sxB,Nat.reduceBEq,Nat.reduceEqDiff,reduceCtorEq,mxA,mxB,Nat.reduceAdd,reduceIte,Nat.reduceLeDiff,splice];cases hp:QtG op m with
    | false=>
     rw[hF hp];simp only[sxA,sxB,Nat.reduceBEq,Nat.reduceEqDiff,reduceCtorEq,mxA,mxB,Nat.reduceAdd,reduceIte,Nat.reduceLeDiff,splice,a97,ei];refine⟨1,by omega,2,by omega,rfl,rfl,?_,?_,?_,?_,?_,λ_=>(by first | exact hd | trivial),λ_=>(by first | exact hp | trivial),λh=>by omega⟩
     all_goals simp only[Ql,simprocAttr,a2,a7,a95,a96]
    | true=>
     obtain⟨x,y,b,cap,hxy,hcv,hH3⟩:=hTr hp;have hr:Ka op m=[y,x]:=by simp only[Ka,hd,hp];rw[hxy];rfl
     simp only[Qb,simprocAttr];rw[hH3];exact hsw x y hxy b cap hcv (by rw[hm,hr]) _ (by first | exact a2 | simp only[Ql,simprocAttr,a2]) (by first | exact a7 | simp only[Ql,simprocAttr,a7])
   ·have hd:=n1 (by omega);have hp:=n2 (by omega);simp only[sxA,sxB,Nat.reduceBEq,Nat.reduceEqDiff,reduceCtorEq,mxA,mxB,Nat.reduceAdd,reduceIte,Nat.reduceLeDiff,splice,QEf];refine q3.thenW ?_;rintro _ H3 hn3 hw3 ⟨rfl,hF,hTr⟩;simp only[sxA,sxB,Nat.reduceBEq,Nat.reduceEqDiff,reduceCtorEq,mxA,mxB,Nat.reduceAdd,reduceIte,Nat.reduceLeDiff,splice];cases hq:QrQ op m with
    | false=>
     rw[hF hq];simp only[sxA,sxB,Nat.reduceBEq,Nat.reduceEqDiff,reduceCtorEq,mxA,mxB,Nat.reduceAdd,reduceIte,Nat.reduceLeDiff,splice,a97,ei];refine⟨0,by omega,3,by omega,rfl,rfl,?_,?_,?_,?_,?_,λ_=>(by first | exact hd | trivial),λ_=>(by first | exact hp | trivial),λ_=>(by first | exact hq | trivial)⟩
     all_goals simp only[Ql,simprocAttr,a2,a7,a95,a96]
    | true=>
     obtain⟨x,y,b,cap,hxy,hcv,hH3⟩:=hTr hq;have hr:Ka op m=[y,x]:=by simp only[Ka,hd,hp,hq];rw[hxy];rfl
     simp only[Qb,simprocAttr];rw[hH3];exact hsw x y hxy b cap hcv (by rw[hm,hr]) _ (by first | exact a2 | simp only[Ql,simprocAttr,a2]) (by first | exact a7 | simp only[Ql,simprocAttr,a7])
  ·have h2:i=3:=by have:=Ll h2;omega
   subst h2;simp only[Qb,simprocAttr];exact tailT _ _ cv m hxHp (by first | exact a2 | simp only[Ql,simprocAttr,a2]) (by first | exact a7 | simp only[Ql,simprocAttr,a7]) gRp gDp hcp (λa n c h=>⟨(hf a n c h).1,by have:=(hf a n c h).2.2;have:=hxp.next;omega⟩) (by rw[hm,QvS op (n1 (by omega)) (n2 (by omega)) (n3 (by omega))])
theorem QAm (b:Ar) (x:Int):splice b.cells 10 [.int .i64 x]=({b with n:=x}:Ar).cells:=by simp[splice,Ar.cells]
theorem QtM (ib:Int×Bool):QX ib []=([],0):=rfl
theorem QAn (e:Nat->Env->Qa->Prop) (k:Env->Qa->Prop) (A:Env) (H':Qa) (D V cb cap:Nat) (ca:Option Addr) (vs:List Value) (eV:TypeId) (hx:Ext H H') (hw:H'.Wf) (hD:H.next+2<=D) (hV:H.next+2<=V) (hDV:¬D=V)
  (r2:A 2=.pointer (some ⟨H.next+1,0,none⟩)) (r5:A 5=.int .i64 (WC op l).1) (r6:A 6=.bool (WC op l).2) (r7:A 7=.pointer (some ⟨D,0,none⟩)) (r8:A 8=.slice (some ⟨V,0,none⟩) l.length l.length)
  (gR:H'.get (H.next+1)=some (.cells [.int .i64 0,.slice none 0 0] Qc false))
  (gD:H'.get D=some (.cells [.int .i64 op,.slice ca l.length cap] QI false)) (gV:H'.get V=some (.cells vs eV false)) (hvl:vs.length=l.length) (hvs:∀j,j<l.length->vs[j]? = some (.pointer (some ⟨cb,j * 11,none⟩)))
  (hcb:0<l.length->ca=some ⟨cb,0,none⟩∧H.next+2<=cb∧¬cb=D∧¬cb=V∧H'.get cb=some (.cells (Qo l) Qh false)) (hca:∀a,ca=some a->H.next+2<=a.block∧¬a.block=D∧a.block<D)
  (hck:(Wa op l==0)=true) (hI:∀a∈l,I64 a.n):Qs prog ZX ⟨KC op l H,e⟩ k A H':=by
 have hl4:=QiU hck;have e12:ZX=.seq (.seq (.ops [⟨some 58,.mv (t 8),none,false⟩,⟨some 59,.lenS (t 58),none,false⟩,⟨some 60,.mv (.const (.int .i64 0)),none,false⟩]) (.block 2 (.loop Vg))) JA:=rfl;rw[e12,QaX];have e7:JA=.seq (.label 0) Jz:=rfl;generalize hT:Qs prog JA ⟨KC op l H,e⟩ k=T;generalize hib:WC op l=ib at *;obtain⟨ib1,ib2⟩:=ib;simp only at r5 r6;have hic:∀m,QX (ib1,ib2) l=(m,0)->Qt op l=(op,Ka op m,0):=λm h=>by
  unfold Qt;rw[hib,h,hck];rfl
 have hie:∀m x,QX (ib1,ib2) l=(m,x)->(x==0)=false->Qt op l=(0,[],x):=λm x h hx=>by
  unfold Qt;rw[hib,h,hck];simp[hx]
 simp only[Qb,simprocAttr,r8];refine QB (λm' A2 H2=>∃ (i:Nat) (dn:List Ar),i<=l.length∧m'=l.length - i∧dn.length=i∧QX (ib1,ib2) l=(dn++(QX (ib1,ib2) (l.drop i)).1,(QX (ib1,ib2) (l.drop i)).2)∧Ext H H2∧H2.Wf∧
  A2 2=.pointer (some ⟨H.next+1,0,none⟩)∧A2 5=.int .i64 ib1∧A2 6=.bool ib2∧A2 7=.pointer (some ⟨D,0,none⟩)∧A2 58=.slice (some ⟨V,0,none⟩) l.length l.length∧A2 59=.int .i64 (l.length:Int)∧A2 60=.int .i64 i∧
  H2.get (H.next+1)=some (.cells [.int .i64 0,.slice none 0 0] Qc false)∧H2.get D=some (.cells [.int .i64 op,.slice ca l.length cap] QI false)∧H2.get V=some (.cells vs eV false)∧(0<l.length->H2.get cb=some (.cells (Qo (dn++l.drop i)) Qh false))) l.length ?_ ?_
 ·refine⟨0,[],L7 _,by omega,rfl,rfl,hx,hw,?_,?_,?_,?_,?_,?_,?_,gR,gD,gV,λh=>(hcb h).2.2.2.2⟩
  all_goals simp only[Ql,simprocAttr,r2,r5,r6,r7]
  all_goals rfl
 ·rintro m' A2 H2 ⟨i,dn,hi,rfl,hdn,hcan,hx2,hw2,a2,a5,a6,a7,a58,a59,a60,gR,gD,gV,gC⟩;simp only[Vg,Qb,simprocAttr,a59,a60];refine Qi (λh2=>?_) (λh2=>?_)
  ·have h2:i<l.length:=by have:=Lg h2;omega
   obtain⟨hca1,hcb2,hcD,hcV,_⟩:=hcb (by omega);have gC:=gC (by omega);have c1:(0:Int)<=i∧(i:Int)<l.length:=by omega
   have c3:(i:Int).toNat=i:=by omega
   have ei:IntKind.i64.wrap ((i:Int)+1)=((i+1:Nat):Int):=by rw[w64 (by unfold I64;omega)];omega
   have hv:=hvs i h2;have hp:=La h2;have hdr:l.drop i=l[i]::l.drop (i+1):=Nh h2;have had:=Qj2 (ib1,ib2) l i _ hp;have hIa:=hI _ (Nb h2);generalize l[i]=a at hp hdr had hIa;rw[hdr]at gC;have hlen:=QW (dn++a::l.drop (i+1));have hla:(dn++a::l.drop (i+1)).length=l.length:=by simp;omega
   rw[hla]at hlen;have c4:i * 11+11<=l.length * 11:=by omega
   have d1:=Xd (dn++a::l.drop (i+1)) i a (by rw[LR (by omega),hdn,BJ];rfl);simp only[QdC,Qb,simprocAttr,a58,a60,c1,c3,gV,hv,gC,hlen,c4,d1];refine(Qm1 a H2).thenW ?_;rintro _ _ hn3 hw3 ⟨rfl,k3,rfl⟩;simp only[Qy]at hn3;have hn':=QyK a hIa;have hca2:Yk (ib1,ib2) a=if((Wc a).2==0)=false then(a,(Wc a).2) else if((Wc a).1.k==3)=true then({(Wc a).1 with n:=(Jt (Wc a).1.n ib1 ib2).1},(Jt (Wc a).1.n ib1 ib2).2) else((Wc a).1,0):=rfl
   generalize Wc a=bb at hn' hca2;obtain⟨b,be⟩:=bb;simp only at hn' hca2;have hx3:=hx2.up hn3;have gR3:(H2.up k3).get (H.next+1)=some (.cells [.int .i64 0,.slice none 0 0] Qc false):=by rw[Z9];exact gR
   have gD3:(H2.up k3).get D=some (.cells [.int .i64 op,.slice ca l.length cap] QI false):=by rw[Z9];exact gD
   have gV3:(H2.up k3).get V=some (.cells vs eV false):=by rw[Z9];exact gV
   have gC3:(H2.up k3).get cb=some (.cells (Qo (dn++a::l.drop (i+1))) Qh false):=by rw[Z9];exact gC
   generalize H2.up k3=H3 at hw3 hx3 gR3 gD3 gV3 gC3;simp only[Qb,simprocAttr,Wi,Qcg,QeW];obtain⟨H4,hH4⟩:∃h,h=(H3.push (.cells [.int .i64 0,.int .i64 0,.int .i64 0,.int .i64 0,.int .i64 0,.int .i64 0,.int .i64 0,.int .i64 0,.int .i64 0,.int .i64 0,.int .i64 0] Qh false)).set H3.next (.cells b.cells Qh false):=⟨_,rfl⟩;have hw4:H4.Wf:=by rw[hH4];exact(hw3.push _).set (by rw[Qd,Lc rfl]) _
   have hx4:Ext H3 H4:=by rw[hH4];exact((Ext.refl H3).push _).set (Lb _) _
   have gB:H4.get H3.next=some (.cells b.cells Qh false):=by rw[hH4,Qn,Lc rfl]
   have lR:=hw3.lt gR3;have lD:=hw3.lt gD3;have lV:=hw3.lt gV3;have lC:=hw3.lt gC3;have gR4:=(hx4.get _ lR).trans gR3;have gD4:=(hx4.get _ lD).trans gD3;have gV4:=(hx4.get _ lV).trans gV3;have gC4:=(hx4.get _ lC).trans gC3;have hx04:=hx3.trans hx4;have b0:b.cells[0]? = some (.int .i64 b.k):=rfl;have b10:b.cells[10]? = some (.int .i64 b.n):=rfl;simp only[<- hH4,Qb,simprocAttr];cases q1:be==0 with
   | false=>
    have hx5:Ext H (H4.set (H.next+1) (.cells [.int .i64 0,.slice none 0 0] Qc false)):=hx04.set (by omega) _;simp only[Qb,simprocAttr,a2,gR4,KE];refine .mk hx5.next (QrS hx5 (hie _ _ hcan ?_ |>.trans ?_))
    all_goals (rw[had,hca2,q1];simp[q1])
   | true=>
    simp only[Qfp,Qb,simprocAttr,gB,b0];have hs:=λb2:Ar=>QpQ dn a b2 (l.drop (i+1));simp only[splice,hdn,Wi]at hs;have fin:∀ (b2:Ar) (H5:Qa) (A3:Env),Yk (ib1,ib2) a=(b2,0)->Ext H H5->H5.Wf->H5.get (H.next+1)=some (.cells [.int .i64 0,.slice none 0 0] Qc false)->H5.get D=some (.cells [.int .i64 op,.slice ca l.length cap] QI false)->H5.get V=some (.cells vs eV false)->H5.get cb=some (.cells (Qo (dn++a::l.drop (i+1))) Qh false)->
      A3 2=.pointer (some ⟨H.next+1,0,none⟩)->A3 5=.int .i64 ib1->A3 6=.bool ib2->A3 7=.pointer (some ⟨D,0,none⟩)->A3 58=.slice (some ⟨V,0,none⟩) l.length l.length->A3 59=.int .i64 (l.length:Int)->A3 60=.int .i64 ((i+1:Nat):Int)->
      QwU (λm' A2 H2=>∃ (i:Nat) (dn:List Ar),i<=l.length∧m'=l.length - i∧dn.length=i∧QX (ib1,ib2) l=(dn++(QX (ib1,ib2) (l.drop i)).1,(QX (ib1,ib2) (l.drop i)).2)∧Ext H H2∧H2.Wf∧
  A2 2=.pointer (some ⟨H.next+1,0,none⟩)∧A2 5=.int .i64 ib1∧A2 6=.bool ib2∧A2 7=.pointer (some ⟨D,0,none⟩)∧A2 58=.slice (some ⟨V,0,none⟩) l.length l.length∧A2 59=.int .i64 (l.length:Int)∧A2 60=.int .i64 i∧
  H2.get (H.next+1)=some (.cells [.int .i64 0,.slice none 0 0] Qc false)∧H2.get D=some (.cells [.int .i64 op,.slice ca l.length cap] QI false)∧H2.get V=some (.cells vs eV false)∧(0<l.length->H2.get cb=some (.cells (Qo (dn++l.drop i)) Qh false))) (l.length - i) A3 (H5.set cb (.cells (Qo (dn++b2::l.drop (i+1))) Qh false)):=by
     intro b2 H5 A3 hb2 hx5 hw5 gR5 gD5 gV5 gC5 p2 p5 p6 p7 p58 p59 p60;refine⟨l.length - (i+1),by omega,i+1,dn++[b2],by omega,rfl,by simp[hdn],?_,hx5.set (by omega) _,hw5.set gC5 _,p2,p5,p6,p7,p58,p59,p60,?_,?_,?_,λ_=>?_⟩
     ·rw[hcan,had,hb2];simp
     ·rw[Qn,Le (by omega)];exact gR5
     ·rw[Qn,Le (by omega)];exact gD5
     ·rw[Qn,Le (by omega)];exact gV5
     ·rw[Qn,Lc rfl,LQ];rfl
    cases q2:b.k==3 with
    | false=>
     have hnew:Yk (ib1,ib2) a=(b,0):=by rw[hca2,q1,q2];rfl
     simp only[Qb,simprocAttr,gB,gC4,hlen,c4,Wi,Qcg,QeW,hs,a60,ei];refine fin b H4 _ hnew hx04 hw4 gR4 gD4 gV4 gC4 ?_ ?_ ?_ ?_ ?_ ?_ ?_
     all_goals simp only[Ql,simprocAttr,a2,a5,a6,a7,a58,a59]
    | true=>
     have hca3:Yk (ib1,ib2) a=({b with n:=(Jt b.n ib1 ib2).1},(Jt b.n ib1 ib2).2):=by rw[hca2,q1,q2];rfl
     simp only[Qfo,Qb,simprocAttr,gB,b10,a5,a6];refine(Vu b.n ib1 ib2 hn' H4).thenW ?_;rintro _ H4 _ hw4 ⟨rfl,rfl⟩;generalize Jt b.n ib1 ib2=im at hca3;obtain⟨im1,im2⟩:=im;simp only at hca3;have hsp:=QAm b im1;simp only[splice,Nat.reduceAdd,Lo,L9]at hsp;have gB5:∀bl,(H4.set H3.next bl).get H3.next=some bl:=λbl=>by rw[Qn,Lc rfl]
     have wB5:∀bl,(H4.set H3.next bl).Wf:=λbl=>hw4.set gB bl;have xB5:∀bl,Ext H (H4.set H3.next bl):=λbl=>hx04.set (by have:=hx3.next;omega) bl;have oB5:∀bl id,¬id=H3.next->(H4.set H3.next bl).get id=H4.get id:=λbl id h=>by rw[Qn,Le h]
     have tl:(b.cells.take 10++(Value.int .i64 im1::b.cells.drop 11))=({b with n:=im1}:Ar).cells:=by simp[Ar.cells]
     have nR:¬H.next+1=H3.next:=by omega
     have nD:¬D=H3.next:=by omega
     have nV:¬V=H3.next:=by omega
     have nC:¬cb=H3.next:=by omega
     simp only[Qb,simprocAttr,gB,Wi,Qcg,QeW,tl];cases q3:im2==0 with
     | false=>
      have hx5:∀bl,Ext H ((H4.set H3.next bl).set (H.next+1) (.cells [.int .i64 0,.slice none 0 0] Qc false)):=λbl=>(xB5 bl).set (by omega) _;simp only[Qb,simprocAttr,a2,nR,gR4,KE];refine .mk (hx5 _).next (QrS (hx5 _) (hie _ _ hcan ?_ |>.trans ?_))
      all_goals (rw[had,hca3];simp[q3])
     | true=>
      have hnew:Yk (ib1,ib2) a=({b with n:=im1},0):=by rw[hca3];simp at q3;rw[q3]
      simp only[Qb,simprocAttr,nC,gB,gC4,hlen,c4,Wi,Qcg,QeW,hs,a60,ei];refine fin {b with n:=im1} (H4.set H3.next _) _ hnew (xB5 _) (wB5 _) ((oB5 _ _ nR).trans gR4) ((oB5 _ _ nD).trans gD4) ((oB5 _ _ nV).trans gV4) ((oB5 _ _ nC).trans gC4) ?_ ?_ ?_ ?_ ?_ ?_ ?_
      all_goals simp only[Ql,simprocAttr,a2,a5,a6,a7,a58,a59]
  ·have h2:i=l.length:=by have:=Ll h2;omega
   subst h2;simp only[Qb,simprocAttr];rw[<- hT,e7,QaX,Qmm];rw[BU,QtM,Na]at hcan;refine QyM op l H e k _ H2 D _ dn hx2 hw2 hD (by simp only[Ql,simprocAttr,a2]) (by simp only[Ql,simprocAttr,a7]) gR gD ⟨ca,cap,by rw[hdn],λh=>?_⟩ (by omega) (λa n c h=>by cases h;have:=hca _ rfl;have:=hw2.lt gD;omega) (λx y h=>?_) (hic _ hcan)
   ·have h0:0<l.length:=by omega
    obtain⟨hca1,_⟩:=hcb h0;have:=gC h0;rw[BU,Na]at this;exact⟨cb,_,_,hca1,this⟩
   ·have h0:0<l.length:=by rw[<- hdn,h];simp
    obtain⟨hca1,_⟩:=hcb h0;have:=gC h0;rw[BU,Na]at this;exact⟨cb,cap,by rw[hca1,<- hdn,h];rfl,this⟩
theorem QyN (z:Array Value) (m:Nat):(Xt z m).length=m:=by simp[Xt]
theorem QaR (v:Value) (hv:Q0 H v l) (hl:l.length<=1000) (hI:∀a∈l,I64 a.n):Qg prog ZU [.agg #[.int .i64 op,v]] H (Qhs op l H):=by
 refine QpM λhw=>?_;obtain⟨a0,c0,rfl,_⟩:=id hv;have hx0:Ext H ((H.push (.cells [.int .i64 op,.slice a0 l.length c0] Qc false)).push (.cells [.int .i64 0,.slice none 0 0] Qc false)):=((Ext.refl H).push _).push _;have ne1:¬H.next=H.next+1:=by omega
 have gI:((H.push (.cells [.int .i64 op,.slice a0 l.length c0] Qc false)).push (.cells [.int .i64 0,.slice none 0 0] Qc false)).get H.next=some (.cells [.int .i64 op,.slice a0 l.length c0] Qc false):=by rw[Qd,Qe,Le ne1,Qd,Lc rfl]
 have gR:((H.push (.cells [.int .i64 op,.slice a0 l.length c0] Qc false)).push (.cells [.int .i64 0,.slice none 0 0] Qc false)).get (H.next+1)=some (.cells [.int .i64 0,.slice none 0 0] Qc false):=by rw[Qd,Qe,Lc rfl]
 have hw0:=(hw.push (.cells [.int .i64 op,.slice a0 l.length c0] Qc false)).push (.cells [.int .i64 0,.slice none 0 0] Qc false);have hn0:((H.push (.cells [.int .i64 op,.slice a0 l.length c0] Qc false)).push (.cells [.int .i64 0,.slice none 0 0] Qc false)).next=H.next+2:=by simp only[Qe]
 simp only[Qh0,Qb,simprocAttr];refine Qtj (λ_ _ _=>False) 0 ?_ (λ_ _ _ h=>h.elim);generalize (H.push (.cells [.int .i64 op,.slice a0 l.length c0] Qc false)).push (.cells [.int .i64 0,.slice none 0 0] Qc false)=H0 at *;generalize jmK 0 _ 0 _=e;simp only[QdG,Qb,simprocAttr,gI];refine(KI op _ l H0 (hv.ext hw hx0) hl hI).thenW ?_;rintro _ _ hn1 hw1 ⟨rfl,k1,rfl⟩;simp only[Qy]at hn1;have hx1:=hx0.up hn1;have gI1:(H0.up k1).get H.next=some (.cells [.int .i64 op,.slice a0 l.length c0] Qc false):=by rw[Z9];exact gI
 have gR1:(H0.up k1).get (H.next+1)=some (.cells [.int .i64 0,.slice none 0 0] Qc false):=by rw[Z9];exact gR
 have hm1:H.next+2<=(H0.up k1).next:=by simp only[Qy];omega
 generalize H0.up k1=H1 at *;simp only[Qb,simprocAttr];cases hck:Wa op l==0 with
 | false=>
  have hx2:Ext H (H1.set (H.next+1) (.cells [.int .i64 0,.slice none 0 0] Qc false)):=hx1.set (by omega) _;simp only[Qb,simprocAttr,gR1,KE];exact .mk hx2.next (QrS hx2 (by unfold Qt;rw[Lc hck]))
 | true=>
  have hl4:=QiU hck;simp only[QdF,Qb,simprocAttr,gI1];refine(Qce op _ l H1 (hv.ext hw hx1) hl).thenW ?_;rintro _ _ hn2 hw2 ⟨rfl,k2,rfl⟩;simp only[Qy]at hn2;have hx2:=hx1.up hn2;have gI2:(H1.up k2).get H.next=some (.cells [.int .i64 op,.slice a0 l.length c0] Qc false):=by rw[Z9];exact gI1
  have gR2:(H1.up k2).get (H.next+1)=some (.cells [.int .i64 0,.slice none 0 0] Qc false):=by rw[Z9];exact gR1
  have hm2:H.next+2<=(H1.up k2).next:=by simp only[Qy];omega
  generalize H1.up k2=H2 at *;simp only[Qb,simprocAttr,gI2];refine⟨rfl,(Qw2 _ l H2 (hv.ext hw hx2) hl).thenW ?_⟩;rintro u H3 hn3 hw3 ⟨hx3,hcl⟩
  -- what the clone is
  obtain⟨ca,cap,cb,rfl,hcb⟩:∃ca cap cb,u=.slice ca l.length cap∧((0<l.length->ca=some ⟨cb,0,none⟩∧H2.next<=cb∧H3.get cb=some (.cells (Qo l) Qh false))∧(∀a,ca=some a->H2.next<=a.block∧a.block<H3.next)):=by
   rcases hcl with⟨rfl,rfl | ⟨rfl,rfl⟩⟩ | ⟨hne,rfl,rfl⟩
   ·exact⟨none,0,0,rfl,λh=>absurd h (NX 0),λa h=>by cases h⟩
   ·exact⟨_,0,0,rfl,λh=>absurd h (NX 0),λa h=>by cases h;simp only[Qe];omega⟩
   ·refine⟨_,_,H2.next+1,rfl,λ_=>⟨rfl,by omega,by rw[Qd,Lc (by simp only[Qe])]⟩,λa h=>by cases h;simp only[Qe];omega⟩
  obtain⟨hcb,hca⟩:=hcb;have gR3:=(hx3.get _ (hw2.lt gR2)).trans gR2;have hx03:=hx2.trans hx3;have hxn3:=hx3.next;have hbl:Qm H2.next 6 (.int .i64 op)=true:=rfl;simp only[Qb,simprocAttr];refine⟨hx3.eqB,?_⟩;refine⟨⟨by omega,by omega,by omega,by omega⟩,?_⟩;generalize hT:Qs prog ZX ⟨Rt prog QeR H (Qhs op l H),e⟩ (Rt prog QeR H (Qhs op l H))=T;generalize hzs:Xt _ _=zs;have hzl:zs.length=l.length:=by rw[<- hzs,QyN];omega
  have hnat:((l.length:Int)).toNat=l.length:=by omega
  simp only[hnat];generalize hH4:(H3.push (.cells [.int .i64 op,.slice ca l.length cap] QI false)).push (.cells zs _ false)=H4;have ne3:¬H3.next=H3.next+1:=by omega
  have hx4:Ext H3 H4:=by rw[<- hH4];exact((Ext.refl H3).push _).push _
  have hw4:H4.Wf:=by rw[<- hH4];exact(hw3.push _).push _
  have gD4:H4.get H3.next=some (.cells [.int .i64 op,.slice ca l.length cap] QI false):=by rw[<- hH4,Qd,Qe,Le ne3,Qd,Lc rfl]
  obtain⟨eV,gV4⟩:∃eV,H4.get (H3.next+1)=some (.cells zs eV false):=⟨_,by rw[<- hH4,Qd,Qe,Lc rfl]⟩;have gR4:=(hx4.get _ (hw3.lt gR3)).trans gR3;have gC4:0<l.length->H4.get cb=some (.cells (Qo l) Qh false):=λh=>(hx4.get _ (hw3.lt (hcb h).2.2)).trans (hcb h).2.2;have hcb3:0<l.length->cb<H3.next:=λh=>hw3.lt (hcb h).2.2;have hx04:=hx03.trans hx4;clear hH4 hzs;refine QB (λm' A2 H5=>∃ (i:Nat) (cs:List Value),i<=l.length∧m'=l.length - i∧cs.length=l.length∧(∀j,j<i->cs[j]? = some (.pointer (some ⟨cb,j * 11,none⟩)))∧Ext H H5∧H5.Wf∧
   A2 2=.pointer (some ⟨H.next+1,0,none⟩)∧A2 5=.int .i64 (WC op l).1∧A2 6=.bool (WC op l).2∧A2 7=.pointer (some ⟨H3.next,0,none⟩)∧A2 8=.slice (some ⟨H3.next+1,0,none⟩) l.length l.length∧A2 44=.int .i64 (l.length:Int)∧A2 45=.int .i64 i∧
   H5.get (H.next+1)=some (.cells [.int .i64 0,.slice none 0 0] Qc false)∧H5.get H3.next=some (.cells [.int .i64 op,.slice ca l.length cap] QI false)∧H5.get (H3.next+1)=some (.cells cs eV false)∧(0<l.length->H5.get cb=some (.cells (Qo l) Qh false))) l.length ?_ ?_
  ·refine⟨0,zs,L7 _,by omega,hzl,λj h=>by omega,hx04,hw4,?_,?_,?_,?_,?_,?_,?_,gR4,gD4,gV4,gC4⟩
   all_goals simp only[Ql,simprocAttr]
   all_goals rfl
  ·rintro m' A2 H5 ⟨i,cs,hi,rfl,hcsl,hcs,hx5,hw5,a2,a5,a6,a7,a8,a44,a45,gR5,gD5,gV5,gC5⟩;simp only[QdE,Qb,simprocAttr,a44,a45];refine Qi (λh2=>?_) (λh2=>?_)
   ·have h2:i<l.length:=by have:=Lg h2;omega
    obtain⟨hc1,hc2,hc3⟩:=hcb (by omega);have hc4:=hcb3 (by omega);have c1:(0:Int)<=i∧(i:Int)<l.length:=by omega
    have c3:(i:Int).toNat=i:=by omega
    have c4:i+1<=l.length:=h2;have ei:IntKind.i64.wrap ((i:Int)+1)=((i+1:Nat):Int):=by rw[w64 (by unfold I64;omega)];omega
    subst hc1;have hpt:(Value.pointer (some ⟨cb,i * 11,none⟩)).cells.toList=[.pointer (some ⟨cb,i * 11,none⟩)]:=rfl;have hpo:(Value.pointer (some ⟨cb,i * 11,none⟩)).oneCell'=true:=rfl;have hsl:=QvR cs i [.pointer (some ⟨cb,i * 11,none⟩)] (by simp;omega);have hsa:=QyL cs i (.pointer (some ⟨cb,i * 11,none⟩)) (by omega);have hsb:=λj (hj:j<i)=>QpP cs i [.pointer (some ⟨cb,i * 11,none⟩)] (by omega) j hj;simp only[splice,Lo,L9,LP,Nm,LH]at hsl hsa hsb;simp only[QdD,Qb,simprocAttr,a7,a8,a45,c1,c3,c4,gD5,gV5,hcsl,hpt,hpo,ei];refine⟨l.length - (i+1),by omega,i+1,_,by omega,rfl,hsl.trans hcsl,λj hj=>?_,hx5.set (by omega) _,hw5.set gV5 _,?_,?_,?_,?_,?_,?_,?_,?_,?_,by rw[Qn,Lc rfl],λh=>?_⟩
    ·rcases Nq j i with h | h
     ·rw[hsb j h];exact hcs j h
     ·rw[show j=i by omega];exact hsa
    all_goals (try simp only[Ql,simprocAttr,a2,a5,a6,a7,a8,a44])
    ·rw[Qn,Le (by omega)];exact gR5
    ·rw[Qn,Le (by omega)];exact gD5
    ·rw[Qn,Le (by omega)];exact gC5 h
   ·have h2:i=l.length:=by have:=Ll h2;omega
    subst h2;simp only[Qb,simprocAttr];rw[<- hT];refine QAn op l H e _ _ H5 H3.next (H3.next+1) cb cap ca cs eV hx5 hw5 (by omega) (by omega) (by omega) (by simp only[Ql,simprocAttr,a2]) (by simp only[Ql,simprocAttr,a5]) (by simp only[Ql,simprocAttr,a6]) (by simp only[Ql,simprocAttr,a7]) (by simp only[Ql,simprocAttr,a8]) gR5 gD5 gV5 hcsl hcs (λh=>?_) (λa h=>?_) hck hI
    ·obtain⟨hc1,hc2,hc3⟩:=hcb h;have hc4:=hcb3 h;exact⟨hc1,by omega,by omega,by omega,gC5 h⟩
    ·have:=hca a h;exact⟨by omega,by omega,by omega⟩
end
end Go.Proofs.YtiepokkmhhginaaGreatDoor.code
