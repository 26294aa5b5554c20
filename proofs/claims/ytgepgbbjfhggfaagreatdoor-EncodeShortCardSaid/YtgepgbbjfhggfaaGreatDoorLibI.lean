/- Registers. -/
import Derived.Test.YtgepgbbjfhggfaaGreatDoorC2Code
import Derived.Test.YtgepgbbjfhggfaaGreatDoorLibA
import Derived.Test.YtgepgbbjfhggfaaGreatDoorC0Code
set_option linter.unusedVariables false
set_option linter.unusedSimpArgs false
set_option maxRecDepth 100000
set_option maxHeartbeats 4000000
set_option maxHeartbeats 2000000
noncomputable section
namespace Go.Proofs.YtgepgbbjfhggfaaGreatDoor.code
open Go.Ab
structure Rg where
 c:Int
 n:Int
 deriving DecidableEq
def Rg.cells (r:Rg):List Value:=[.int .i64 r.c,.int .i64 r.n]
def Qjp (c:Int):Int×Int:=if c=2 then(4,4) else if c=8 then(0,1) else if c=1∨c=3∨c=4∨c=5∨c=6∨c=7 then(0,16) else(0,0)
def XF (r:Rg):Bool:=decide ((Qjp r.c).1<=r.n∧r.n<(Qjp r.c).1+(Qjp r.c).2)
theorem Qty (c:Int)(H:Qa):Qe prog 103 [.int .i64 c] H λu H'=>u=.tuple #[.int .i64 (Qjp c).1,.int .i64 (Qjp c).2]∧H'=H:=by
 refine Qsc λhw=>?_;simp only[Qkb,Qb,simprocAttr,Qdv]
 repeat' (first | (refine Qp (λh=>?_) (λh=>?_)<;>simp only[Qb,simprocAttr,Qdv]) | (refine Qf (λh=>?_) (λh=>?_)<;>simp only[Qb,simprocAttr,Qdv]))
 all_goals refine .mk (Lb _) ⟨?_,rfl⟩
 all_goals simp_all [Qjp]
theorem QFc (c:Int):0<=(Qjp c).1∧(Qjp c).1<=4∧0<=(Qjp c).2∧(Qjp c).2<=16:=by
 unfold Qjp;split
 ·decide
 split
 ·decide
 split<;>decide
theorem V9 (r:Rg)(H:Qa):Qe prog 62 [.agg r.cells.toArray] H λu H'=>u=.bool (XF r)∧∃m,H'=H.up m:=by
 refine Qvn λhw=>?_;obtain⟨c,n⟩:=r;have hb:=QFc c;have e1:IntKind.i64.wrap ((Qjp c).1+(Qjp c).2)=(Qjp c).1+(Qjp c).2:=w64 (by unfold I64;omega);simp only[Rg.cells,QnV,Qb,simprocAttr];refine(Qty c _).thenW ?_;rintro _ H1 hn1 hw1 ⟨rfl,rfl⟩;simp only[Qb,simprocAttr,Ql5,e1];refine Qp (λh=>?_) (λh=>?_)
 all_goals simp only[Qb,simprocAttr,Ql5,e1,h]
 all_goals refine .ext hw ((Ext.refl H).push _) ⟨?_,_,rfl⟩
 all_goals (simp_all [XF]<;>omega)
def QgR (r:Rg):Int:=if XF r=false then 0 else if r.c=7 then 32 else if r.c=6 then 16 else if r.c=5∨r.c=8 then 8 else if r.c=4 then 4 else if r.c=3 then 2 else 1
theorem Qzh (r:Rg)(H:Qa):Qe prog 107 [.agg r.cells.toArray] H λu H'=>u=.int .i64 (QgR r)∧∃m,H'=H.up m:=by
 refine Qxa λhw=>?_;have q:=V9 r;obtain⟨v,hv⟩:∃v,XF r=v:=⟨_,rfl⟩;rw[hv]at q;obtain⟨c,n⟩:=r;simp only[Rg.cells]at q;simp only[Rg.cells,Qqz,Ve,Vf,Vg,Qb,simprocAttr];refine(q _).thenW ?_;rintro _ H1 hn1 hw1 ⟨rfl,m,rfl⟩;simp only[Qc]at hn1;have hx:Ext H ((H.push (.cells [.int .i64 c,.int .i64 n] 54 false)).up m):=((Ext.refl H).push _).up (by simp only[Qc];exact hn1);simp only[Qb,simprocAttr,Qd5];cases v
 all_goals simp only[Qb,simprocAttr,Qd5,Ve,Vf,Vg]
 ·exact .ext hw hx ⟨by simp[QgR,hv],_,rfl⟩
 repeat' (first | (refine Qp (λh=>?_) (λh=>?_)<;>simp only[Qb,simprocAttr,Qd5,Ve,Vf,Vg,h]) | (refine Qf (λh=>?_) (λh=>?_)<;>simp only[Qb,simprocAttr,Qd5,Ve,Vf,Vg,h]))
 all_goals refine .ext hw hx ⟨?_,_,rfl⟩
 all_goals (simp_all [QgR]<;>decide)
theorem Qr (ne:Bool)(a b c d:Int)(H:Qa)(k:Value->Qa->Prop):QEZ ne [.i,.i] (.agg #[.int .i64 a,.int .i64 b]) (.agg #[.int .i64 c,.int .i64 d]) H k=k (.bool (bif ne then !((a==c)&&(b==d)) else((a==c)&&(b==d)))) H:=by
 refine QBJ ?_
 by_cases h:a=c<;>by_cases g:b=d<;>simp[Qd2,QEt,h,g]
/-! ### Places -/
structure Mm where
 b:Rg
 i:Rg
 sc:Int
 d:Int
 sz:Int
 deriving DecidableEq
def Mm.cells (m:Mm):List Value:=[.int .i64 m.b.c,.int .i64 m.b.n,.int .i64 m.i.c,.int .i64 m.i.n,.int .i64 m.sc,.int .i64 m.d,.int .i64 m.sz]
def JC (r:Rg):Bool:=(r.c==5)&&XF r
theorem Qzi (r:Rg)(H:Qa):Qe prog 105 [.agg r.cells.toArray] H λu H'=>u=.bool (JC r)∧∃m,H'=H.up m:=by
 refine Qw9 λhw=>?_;have q:=V9 r;obtain⟨v,hv⟩:∃v,XF r=v:=⟨_,rfl⟩;rw[hv]at q;obtain⟨c,n⟩:=r;simp only[Rg.cells]at q;simp only[Rg.cells,Qqy,Qb,simprocAttr,Qh5];refine Qp (λh=>?_) (λh=>?_)
 all_goals simp only[Qb,simprocAttr,Qh5,h]
 ·refine(q _).thenW ?_;rintro _ H1 hn1 hw1 ⟨rfl,m,rfl⟩;simp only[Qc]at hn1;have hx:Ext H ((H.push (.cells [.int .i64 c,.int .i64 n] 54 false)).up m):=((Ext.refl H).push _).up (by simp only[Qc];exact hn1);simp only[Qb,simprocAttr,Qh5,h];exact .ext hw hx ⟨by simp[JC,hv,h],_,rfl⟩
 ·exact .ext hw ((Ext.refl H).push _) ⟨by simp[JC,h],_,rfl⟩
def Ko (n:Int):Bool:=n==0||n==1||n==2||n==4||n==8||n==16||n==32
theorem Qxd (n:Int)(H:Qa):Qe prog 104 [.int .i64 n] H λu H'=>u=.bool (Ko n)∧H'=H:=by
 refine Qvp λhw=>?_;simp only[QnX,Qb,simprocAttr,Qf6]
 repeat' (first | (refine Qp (λh=>?_) (λh=>?_)<;>simp only[Qb,simprocAttr,Qf6,h]) | (refine Qf (λh=>?_) (λh=>?_)<;>simp only[Qb,simprocAttr,Qf6,h]))
 all_goals refine .mk (Lb _) ⟨?_,rfl⟩
 all_goals simp_all [Ko]
def XD (n:Int):Bool:=n==1||n==2||n==4||n==8
theorem Qvs (n:Int)(H:Qa):Qe prog 106 [.int .i64 n] H λu H'=>u=.bool (XD n)∧∃m,H'=H.up m:=by
 refine Qtv λhw=>?_;have t1:prog.underlying 188=some (.map 3 3):=by kernel_rfl
 have t2:prog.underlying 3=some (.int .i64):=by kernel_rfl
 have t3:(prog.info? 3).map (·.zero)=some (some (.int .i64 0)):=by kernel_rfl
 obtain⟨inf,t4,t5⟩:=Lx.1 t3;simp only[Ql6,Qb,simprocAttr,Zg];rw[QnN (m:=H.next) (n:=1) (es:=[]) t1 t2 (by simp only[Qg,simprocAttr]) (by simp only[Qg,simprocAttr]) (by rw[Qd,Lc rfl]) rfl];simp only[Qb,simprocAttr,Zg];rw[QnN (m:=H.next) (n:=2) (es:=_) t1 t2 (by simp only[Qg,simprocAttr]) (by simp only[Qg,simprocAttr]) (by rw[Qq,Lc rfl]) rfl];simp only[Qb,simprocAttr,Zg];rw[QnN (m:=H.next) (n:=4) (es:=_) t1 t2 (by simp only[Qg,simprocAttr]) (by simp only[Qg,simprocAttr]) (by rw[Qq,Lc rfl]) rfl];simp only[Qb,simprocAttr,Zg];rw[QnN (m:=H.next) (n:=8) (es:=_) t1 t2 (by simp only[Qg,simprocAttr]) (by simp only[Qg,simprocAttr]) (by rw[Qq,Lc rfl]) rfl];simp only[Qb,simprocAttr,Zg];have hr:∃r,Qvi n [(Value.int IntKind.i64 1,Value.int IntKind.i64 0),(Value.int IntKind.i64 2,Value.int IntKind.i64 1),(Value.int IntKind.i64 4,Value.int IntKind.i64 2),(Value.int IntKind.i64 8,Value.int IntKind.i64 3)] 0=some r∧r.isSome=XD n:=by
  simp only[Qvi];split
  ·exact⟨_,rfl,by simp_all [XD]⟩
  split
  ·exact⟨_,rfl,by simp_all [XD]⟩
  split
  ·exact⟨_,rfl,by simp_all [XD]⟩
  split
  ·exact⟨_,rfl,by simp_all [XD]⟩
  ·exact⟨_,rfl,by simp_all [XD]⟩
 obtain⟨r,h1,h2⟩:=hr;rw[QBQ (m:=H.next) (n:=n) (es:=_) t1 t2 t4 t5 rfl (by simp only[Qg,simprocAttr]) (by simp only[Qg,simprocAttr]) (by rw[Qq,Lc rfl]) h1];have hx:∀a b c d e,Ext H (((((H.push a).set H.next b).set H.next c).set H.next d).set H.next e):=λa b c d e=>(((((Ext.refl H).push a).set (Lb _) b).set (Lb _) c).set (Lb _) d).set (Lb _) e;cases r with
 | none=>
  simp only[Qw4,Qb,simprocAttr,Zg];exact .ext hw (hx _ _ _ _ _) ⟨by rw[<- h2];rfl,_,rfl⟩
 | some q=>
  obtain⟨q1,q2⟩:=q;simp only[Qw4,Qb,simprocAttr,Zg];exact .ext hw (hx _ _ _ _ _) ⟨by rw[<- h2];rfl,_,rfl⟩
def isR (r:Rg)(c n:Int):Bool:=(r.c==c)&&(r.n==n)
def Qw (m:Mm):Int:=
 if(decide (m.d < -2147483648)||decide (m.d>2147483647))=true then 5
 else if Ko m.sz=false then 2
 else if(!isR m.b 0 0&&!isR m.b 8 0&&!JC m.b)=true then 2
 else if(isR m.i 0 0&&!(m.sc==0))=true then 2
 else if isR m.i 0 0=true then 0
 else if(!JC m.i||!XD m.sc||isR m.b 8 0)=true then 2
 else if(isR m.i 5 4&&(!(m.sc==1)||isR m.b 5 4))=true then 2
 else 0
def mcF (H:Qa)(c:List Value)(A:Env)(H':Qa):Prop:=Ext H H'∧A 1=.pointer (some ⟨H.next,0,none⟩)∧A 3=.pointer (some ⟨H.next+1,0,none⟩)∧A 4=.pointer (some ⟨H.next+2,0,none⟩)∧A 5=.pointer (some ⟨H.next+3,0,none⟩)∧
 H'.get H.next=some (.cells c 56 false)∧H'.get (H.next+1)=some (.cells [.int .i64 0,.int .i64 0] 54 false)∧H'.get (H.next+2)=some (.cells [.int .i64 8,.int .i64 0] 54 false)∧H'.get (H.next+3)=some (.cells [.int .i64 5,.int .i64 4] 54 false)
theorem mcF.up {H H':Qa}{c:List Value}{A:Env}(h:mcF H c A H'){k:Nat}(hk:H'.next<=k):mcF H c A (H'.up k):=by
 obtain⟨hx,r1,r3,r4,r5,g0,g1,g2,g3⟩:=h;exact⟨hx.up hk,r1,r3,r4,r5,g0,g1,g2,g3⟩
theorem mcF.env {H H':Qa}{c:List Value}{A B:Env}(h:mcF H c A H')(h1:B 1=A 1)(h3:B 3=A 3)(h4:B 4=A 4)(h5:B 5=A 5):mcF H c B H':=by
 obtain⟨hx,r1,r3,r4,r5,g0,g1,g2,g3⟩:=h;exact⟨hx,h1.trans r1,h3.trans r3,h4.trans r4,h5.trans r5,g0,g1,g2,g3⟩
theorem QqI (m:Mm)(H:Qa):Qe prog 63 [.agg m.cells.toArray] H λu H'=>u=.int .i64 (Qw m)∧∃k,H'=H.up k:=by
 refine Qvo λhw=>?_;have qs:=Qxd m.sz;have qw:=λr=>Qzi r;have qc:=Qvs m.sc;obtain⟨⟨bc,bn⟩,⟨ic,nn⟩,sc,d,sz⟩:=m;simp only at qs qc;simp only[Mm.cells,QnW,Qb,simprocAttr,Qj,Rh,Dd,De];obtain⟨cs,hcs⟩:∃cs,cs=[Value.int .i64 bc,.int .i64 bn,.int .i64 ic,.int .i64 nn,.int .i64 sc,.int .i64 d,.int .i64 sz]:=⟨_,rfl⟩;generalize hE:exK 0 _ WJ=E0;generalize hK:Qm prog _ _ (Rt prog _ H _)=K0;have hret:∀A H',Ext H H'->Qw ⟨⟨bc,bn⟩,⟨ic,nn⟩,sc,d,sz⟩=0->K0 A H':=by
  intro A H' hx h0;rw[<- hK];simp only[Qb,simprocAttr,Qj];exact .ext hw hx ⟨by rw[h0],_,rfl⟩
 have P1:∀A H',mcF H cs A H'->(decide (d < -2147483648)||decide (2147483647<d))=false->Ko sz=true->(!isR ⟨bc,bn⟩ 0 0&&!isR ⟨bc,bn⟩ 8 0&&!JC ⟨bc,bn⟩)=false->(isR ⟨ic,nn⟩ 0 0&&!(sc==0))=false->isR ⟨ic,nn⟩ 0 0=false->(!JC ⟨ic,nn⟩||!XD sc||isR ⟨bc,bn⟩ 8 0)=false->Qm prog Qen ⟨Rt prog JA H λu H'=>u=.int .i64 (Qw ⟨⟨bc,bn⟩,⟨ic,nn⟩,sc,d,sz⟩)∧∃k,H'=H.up k,E0⟩ K0 A H':=by
  rintro A H' ⟨hx,r1,r3,r4,r5,g0,g1,g2,g3⟩ c0 c1 c2 c3 c4 c5;rw[hcs]at g0;simp only[Qen];simp only[Qb,simprocAttr,Qj,Qr,r1,r3,r4,r5,g0,g1,g2,g3]
  repeat' (first
   | (refine Qp (λh=>?_) (λh=>?_)<;>(try simp only[Lr,Lu]at h)<;>simp only[Qb,simprocAttr,Qj,Qr,r1,r3,r4,r5,g0,g1,g2,g3,h])
   | (refine Qf (λh=>?_) (λh=>?_)<;>(try simp only[Lr,Lu]at h)<;>simp only[Qb,simprocAttr,Qj,Qr,r1,r3,r4,r5,g0,g1,g2,g3,h])
   | (refine(qs _).thenW ?_;rintro _ _ hn hw2 ⟨rfl,rfl⟩;simp only[Qb,simprocAttr,Qj,Qr,r1,r3,r4,r5,g0,g1,g2,g3])
   | (refine(qw ⟨bc,bn⟩ _).thenW ?_;rintro _ _ hn hw2 ⟨rfl,k,rfl⟩;have hx:=hx.up (show _<=k from hn);simp only[Qb,simprocAttr,Qj,Qr,r1,r3,r4,r5,g0,g1,g2,g3])
   | (refine(qw ⟨ic,nn⟩ _).thenW ?_;rintro _ _ hn hw2 ⟨rfl,k,rfl⟩;have hx:=hx.up (show _<=k from hn);simp only[Qb,simprocAttr,Qj,Qr,r1,r3,r4,r5,g0,g1,g2,g3])
   | (refine(qc _).thenW ?_;rintro _ _ hn hw2 ⟨rfl,k,rfl⟩;have hx:=hx.up (show _<=k from hn);simp only[Qb,simprocAttr,Qj,Qr,r1,r3,r4,r5,g0,g1,g2,g3]))
  all_goals first
   | (have hb:(isR ⟨ic,nn⟩ 5 4&&(!(sc==1)||isR ⟨bc,bn⟩ 5 4))=true:=(by(try simp only[isR]);simp[*]);exact .ext hw hx ⟨by first | (simp only[Qw,c0,c1,c2,c3,c4,c5,hb,LV,LN,N3,NG,LJ,NJ,Be,Nt,N1,NI,Bd,L8,LM,reduceCtorEq,B4,BN];done) | (have c9:=c3;simp only[hb,LJ]at c9;simp only[Qw,c0,c1,c2,hb,c9,LV,LN,N3,LJ,reduceCtorEq,B4,BN]),_,rfl⟩)
   | (have hb:(isR ⟨ic,nn⟩ 5 4&&(!(sc==1)||isR ⟨bc,bn⟩ 5 4))=false:=(by(try simp only[isR]);simp[*]);exact .ext hw hx ⟨by first | (simp only[Qw,c0,c1,c2,c3,c4,c5,hb,LV,LN,N3,NG,LJ,NJ,Be,Nt,N1,NI,Bd,L8,LM,reduceCtorEq,B4,BN];done) | (have c9:=c3;simp only[hb,LJ]at c9;simp only[Qw,c0,c1,c2,hb,c9,LV,LN,N3,LJ,reduceCtorEq,B4,BN]),_,rfl⟩)
   | (have hb:(isR ⟨ic,nn⟩ 5 4&&(!(sc==1)||isR ⟨bc,bn⟩ 5 4))=false:=(by(try simp only[isR]);simp[*]);exact hret _ _ hx (by simp only[Qw,c0,c1,c2,c3,c4,c5,hb,LV,LN,N3,NG,LJ,NJ,Be,Nt,N1,NI,Bd,L8,LM,reduceCtorEq,B4,BN]))
 have P2:∀A H',mcF H cs A H'->(decide (d < -2147483648)||decide (2147483647<d))=false->Ko sz=true->(!isR ⟨bc,bn⟩ 0 0&&!isR ⟨bc,bn⟩ 8 0&&!JC ⟨bc,bn⟩)=false->(isR ⟨ic,nn⟩ 0 0&&!(sc==0))=false->isR ⟨ic,nn⟩ 0 0=false->Qm prog Qeo ⟨Rt prog JA H λu H'=>u=.int .i64 (Qw ⟨⟨bc,bn⟩,⟨ic,nn⟩,sc,d,sz⟩)∧∃k,H'=H.up k,E0⟩ K0 A H':=by
  rintro A H' ⟨hx,r1,r3,r4,r5,g0,g1,g2,g3⟩ c0 c1 c2 c3 c4;rw[hcs]at g0;simp only[Qeo];simp only[Qb,simprocAttr,Qj,Qr,r1,r3,r4,r5,g0,g1,g2,g3]
  repeat' (first
   | (refine Qp (λh=>?_) (λh=>?_)<;>(try simp only[Lr,Lu]at h)<;>simp only[Qb,simprocAttr,Qj,Qr,r1,r3,r4,r5,g0,g1,g2,g3,h])
   | (refine Qf (λh=>?_) (λh=>?_)<;>(try simp only[Lr,Lu]at h)<;>simp only[Qb,simprocAttr,Qj,Qr,r1,r3,r4,r5,g0,g1,g2,g3,h])
   | (refine(qs _).thenW ?_;rintro _ _ hn hw2 ⟨rfl,rfl⟩;simp only[Qb,simprocAttr,Qj,Qr,r1,r3,r4,r5,g0,g1,g2,g3])
   | (refine(qw ⟨bc,bn⟩ _).thenW ?_;rintro _ _ hn hw2 ⟨rfl,k,rfl⟩;have hx:=hx.up (show _<=k from hn);simp only[Qb,simprocAttr,Qj,Qr,r1,r3,r4,r5,g0,g1,g2,g3])
   | (refine(qw ⟨ic,nn⟩ _).thenW ?_;rintro _ _ hn hw2 ⟨rfl,k,rfl⟩;have hx:=hx.up (show _<=k from hn);simp only[Qb,simprocAttr,Qj,Qr,r1,r3,r4,r5,g0,g1,g2,g3])
   | (refine(qc _).thenW ?_;rintro _ _ hn hw2 ⟨rfl,k,rfl⟩;have hx:=hx.up (show _<=k from hn);simp only[Qb,simprocAttr,Qj,Qr,r1,r3,r4,r5,g0,g1,g2,g3]))
  all_goals first
   | (have hb:(!JC ⟨ic,nn⟩||!XD sc||isR ⟨bc,bn⟩ 8 0)=true:=(by(try simp only[isR]);simp[*]);exact .ext hw hx ⟨by first | (simp only[Qw,c0,c1,c2,c3,c4,hb,LV,LN,N3,NG,LJ,NJ,Be,Nt,N1,NI,Bd,L8,LM,reduceCtorEq,B4,BN];done) | (have c9:=c3;simp only[hb,LJ]at c9;simp only[Qw,c0,c1,c2,hb,c9,LV,LN,N3,LJ,reduceCtorEq,B4,BN]),_,rfl⟩)
   | (have hb:(!JC ⟨ic,nn⟩||!XD sc||isR ⟨bc,bn⟩ 8 0)=false:=(by(try simp only[isR]);simp[*]);exact .ext hw hx ⟨by first | (simp only[Qw,c0,c1,c2,c3,c4,hb,LV,LN,N3,NG,LJ,NJ,Be,Nt,N1,NI,Bd,L8,LM,reduceCtorEq,B4,BN];done) | (have c9:=c3;simp only[hb,LJ]at c9;simp only[Qw,c0,c1,c2,hb,c9,LV,LN,N3,LJ,reduceCtorEq,B4,BN]),_,rfl⟩)
   | (have hb:(!JC ⟨ic,nn⟩||!XD sc||isR ⟨bc,bn⟩ 8 0)=false:=(by(try simp only[isR]);simp[*]);exact P1 _ _ (mcF.env ⟨hx,r1,r3,r4,r5,by rw[hcs];exact g0,g1,g2,g3⟩ (by simp only[Qg,simprocAttr]) (by simp only[Qg,simprocAttr]) (by simp only[Qg,simprocAttr]) (by simp only[Qg,simprocAttr])) c0 c1 c2 c3 c4 hb)
 have P3:∀A H',mcF H cs A H'->(decide (d < -2147483648)||decide (2147483647<d))=false->Ko sz=true->(!isR ⟨bc,bn⟩ 0 0&&!isR ⟨bc,bn⟩ 8 0&&!JC ⟨bc,bn⟩)=false->(isR ⟨ic,nn⟩ 0 0&&!(sc==0))=false->Qm prog Qep ⟨Rt prog JA H λu H'=>u=.int .i64 (Qw ⟨⟨bc,bn⟩,⟨ic,nn⟩,sc,d,sz⟩)∧∃k,H'=H.up k,E0⟩ K0 A H':=by
  rintro A H' ⟨hx,r1,r3,r4,r5,g0,g1,g2,g3⟩ c0 c1 c2 c3;rw[hcs]at g0;simp only[Qep];simp only[Qb,simprocAttr,Qj,Qr,r1,r3,r4,r5,g0,g1,g2,g3]
  repeat' (first
   | (refine Qp (λh=>?_) (λh=>?_)<;>(try simp only[Lr,Lu]at h)<;>simp only[Qb,simprocAttr,Qj,Qr,r1,r3,r4,r5,g0,g1,g2,g3,h])
   | (refine Qf (λh=>?_) (λh=>?_)<;>(try simp only[Lr,Lu]at h)<;>simp only[Qb,simprocAttr,Qj,Qr,r1,r3,r4,r5,g0,g1,g2,g3,h])
   | (refine(qs _).thenW ?_;rintro _ _ hn hw2 ⟨rfl,rfl⟩;simp only[Qb,simprocAttr,Qj,Qr,r1,r3,r4,r5,g0,g1,g2,g3])
   | (refine(qw ⟨bc,bn⟩ _).thenW ?_;rintro _ _ hn hw2 ⟨rfl,k,rfl⟩;have hx:=hx.up (show _<=k from hn);simp only[Qb,simprocAttr,Qj,Qr,r1,r3,r4,r5,g0,g1,g2,g3])
   | (refine(qw ⟨ic,nn⟩ _).thenW ?_;rintro _ _ hn hw2 ⟨rfl,k,rfl⟩;have hx:=hx.up (show _<=k from hn);simp only[Qb,simprocAttr,Qj,Qr,r1,r3,r4,r5,g0,g1,g2,g3])
   | (refine(qc _).thenW ?_;rintro _ _ hn hw2 ⟨rfl,k,rfl⟩;have hx:=hx.up (show _<=k from hn);simp only[Qb,simprocAttr,Qj,Qr,r1,r3,r4,r5,g0,g1,g2,g3]))
  all_goals first
   | (have hb:isR ⟨ic,nn⟩ 0 0=true:=(by(try simp only[isR]);simp[*]);exact .ext hw hx ⟨by first | (simp only[Qw,c0,c1,c2,c3,hb,LV,LN,N3,NG,LJ,NJ,Be,Nt,N1,NI,Bd,L8,LM,reduceCtorEq,B4,BN];done) | (have c9:=c3;simp only[hb,LJ]at c9;simp only[Qw,c0,c1,c2,hb,c9,LV,LN,N3,LJ,reduceCtorEq,B4,BN]),_,rfl⟩)
   | (have hb:isR ⟨ic,nn⟩ 0 0=false:=(by(try simp only[isR]);simp[*]);exact .ext hw hx ⟨by first | (simp only[Qw,c0,c1,c2,c3,hb,LV,LN,N3,NG,LJ,NJ,Be,Nt,N1,NI,Bd,L8,LM,reduceCtorEq,B4,BN];done) | (have c9:=c3;simp only[hb,LJ]at c9;simp only[Qw,c0,c1,c2,hb,c9,LV,LN,N3,LJ,reduceCtorEq,B4,BN]),_,rfl⟩)
   | (have hb:isR ⟨ic,nn⟩ 0 0=false:=(by(try simp only[isR]);simp[*]);exact P2 _ _ (mcF.env ⟨hx,r1,r3,r4,r5,by rw[hcs];exact g0,g1,g2,g3⟩ (by simp only[Qg,simprocAttr]) (by simp only[Qg,simprocAttr]) (by simp only[Qg,simprocAttr]) (by simp only[Qg,simprocAttr])) c0 c1 c2 c3 hb)
 have P4:∀A H',mcF H cs A H'->(decide (d < -2147483648)||decide (2147483647<d))=false->Ko sz=true->(!isR ⟨bc,bn⟩ 0 0&&!isR ⟨bc,bn⟩ 8 0&&!JC ⟨bc,bn⟩)=false->Qm prog Qeq ⟨Rt prog JA H λu H'=>u=.int .i64 (Qw ⟨⟨bc,bn⟩,⟨ic,nn⟩,sc,d,sz⟩)∧∃k,H'=H.up k,E0⟩ K0 A H':=by
  rintro A H' ⟨hx,r1,r3,r4,r5,g0,g1,g2,g3⟩ c0 c1 c2;rw[hcs]at g0;simp only[Qeq];simp only[Qb,simprocAttr,Qj,Qr,r1,r3,r4,r5,g0,g1,g2,g3]
  repeat' (first
   | (refine Qp (λh=>?_) (λh=>?_)<;>(try simp only[Lr,Lu]at h)<;>simp only[Qb,simprocAttr,Qj,Qr,r1,r3,r4,r5,g0,g1,g2,g3,h])
   | (refine Qf (λh=>?_) (λh=>?_)<;>(try simp only[Lr,Lu]at h)<;>simp only[Qb,simprocAttr,Qj,Qr,r1,r3,r4,r5,g0,g1,g2,g3,h])
   | (refine(qs _).thenW ?_;rintro _ _ hn hw2 ⟨rfl,rfl⟩;simp only[Qb,simprocAttr,Qj,Qr,r1,r3,r4,r5,g0,g1,g2,g3])
   | (refine(qw ⟨bc,bn⟩ _).thenW ?_;rintro _ _ hn hw2 ⟨rfl,k,rfl⟩;have hx:=hx.up (show _<=k from hn);simp only[Qb,simprocAttr,Qj,Qr,r1,r3,r4,r5,g0,g1,g2,g3])
   | (refine(qw ⟨ic,nn⟩ _).thenW ?_;rintro _ _ hn hw2 ⟨rfl,k,rfl⟩;have hx:=hx.up (show _<=k from hn);simp only[Qb,simprocAttr,Qj,Qr,r1,r3,r4,r5,g0,g1,g2,g3])
   | (refine(qc _).thenW ?_;rintro _ _ hn hw2 ⟨rfl,k,rfl⟩;have hx:=hx.up (show _<=k from hn);simp only[Qb,simprocAttr,Qj,Qr,r1,r3,r4,r5,g0,g1,g2,g3]))
  all_goals first
   | (have hb:(isR ⟨ic,nn⟩ 0 0&&!(sc==0))=true:=(by(try simp only[isR]);simp[*]);exact .ext hw hx ⟨by first | (simp only[Qw,c0,c1,c2,hb,LV,LN,N3,NG,LJ,NJ,Be,Nt,N1,NI,Bd,L8,LM,reduceCtorEq,B4,BN];done) | (have c9:=c3;simp only[hb,LJ]at c9;simp only[Qw,c0,c1,c2,hb,c9,LV,LN,N3,LJ,reduceCtorEq,B4,BN]),_,rfl⟩)
   | (have hb:(isR ⟨ic,nn⟩ 0 0&&!(sc==0))=false:=(by(try simp only[isR]);simp[*]);exact .ext hw hx ⟨by first | (simp only[Qw,c0,c1,c2,hb,LV,LN,N3,NG,LJ,NJ,Be,Nt,N1,NI,Bd,L8,LM,reduceCtorEq,B4,BN];done) | (have c9:=c3;simp only[hb,LJ]at c9;simp only[Qw,c0,c1,c2,hb,c9,LV,LN,N3,LJ,reduceCtorEq,B4,BN]),_,rfl⟩)
   | (have hb:(isR ⟨ic,nn⟩ 0 0&&!(sc==0))=false:=(by(try simp only[isR]);simp[*]);exact P3 _ _ (mcF.env ⟨hx,r1,r3,r4,r5,by rw[hcs];exact g0,g1,g2,g3⟩ (by simp only[Qg,simprocAttr]) (by simp only[Qg,simprocAttr]) (by simp only[Qg,simprocAttr]) (by simp only[Qg,simprocAttr])) c0 c1 c2 hb)
 have P5:∀A H',mcF H cs A H'->(decide (d < -2147483648)||decide (2147483647<d))=false->Ko sz=true->Qm prog Qer ⟨Rt prog JA H λu H'=>u=.int .i64 (Qw ⟨⟨bc,bn⟩,⟨ic,nn⟩,sc,d,sz⟩)∧∃k,H'=H.up k,E0⟩ K0 A H':=by
  rintro A H' ⟨hx,r1,r3,r4,r5,g0,g1,g2,g3⟩ c0 c1;rw[hcs]at g0;simp only[Qer];simp only[Qb,simprocAttr,Qj,Qr,r1,r3,r4,r5,g0,g1,g2,g3]
  repeat' (first
   | (refine Qp (λh=>?_) (λh=>?_)<;>(try simp only[Lr,Lu]at h)<;>simp only[Qb,simprocAttr,Qj,Qr,r1,r3,r4,r5,g0,g1,g2,g3,h])
   | (refine Qf (λh=>?_) (λh=>?_)<;>(try simp only[Lr,Lu]at h)<;>simp only[Qb,simprocAttr,Qj,Qr,r1,r3,r4,r5,g0,g1,g2,g3,h])
   | (refine(qs _).thenW ?_;rintro _ _ hn hw2 ⟨rfl,rfl⟩;simp only[Qb,simprocAttr,Qj,Qr,r1,r3,r4,r5,g0,g1,g2,g3])
   | (refine(qw ⟨bc,bn⟩ _).thenW ?_;rintro _ _ hn hw2 ⟨rfl,k,rfl⟩;have hx:=hx.up (show _<=k from hn);simp only[Qb,simprocAttr,Qj,Qr,r1,r3,r4,r5,g0,g1,g2,g3])
   | (refine(qw ⟨ic,nn⟩ _).thenW ?_;rintro _ _ hn hw2 ⟨rfl,k,rfl⟩;have hx:=hx.up (show _<=k from hn);simp only[Qb,simprocAttr,Qj,Qr,r1,r3,r4,r5,g0,g1,g2,g3])
   | (refine(qc _).thenW ?_;rintro _ _ hn hw2 ⟨rfl,k,rfl⟩;have hx:=hx.up (show _<=k from hn);simp only[Qb,simprocAttr,Qj,Qr,r1,r3,r4,r5,g0,g1,g2,g3]))
  all_goals first
   | (have hb:(!isR ⟨bc,bn⟩ 0 0&&!isR ⟨bc,bn⟩ 8 0&&!JC ⟨bc,bn⟩)=true:=(by(try simp only[isR]);simp[*]);exact .ext hw hx ⟨by first | (simp only[Qw,c0,c1,hb,LV,LN,N3,NG,LJ,NJ,Be,Nt,N1,NI,Bd,L8,LM,reduceCtorEq,B4,BN];done) | (have c9:=c3;simp only[hb,LJ]at c9;simp only[Qw,c0,c1,c2,hb,c9,LV,LN,N3,LJ,reduceCtorEq,B4,BN]),_,rfl⟩)
   | (have hb:(!isR ⟨bc,bn⟩ 0 0&&!isR ⟨bc,bn⟩ 8 0&&!JC ⟨bc,bn⟩)=false:=(by(try simp only[isR]);simp[*]);exact .ext hw hx ⟨by first | (simp only[Qw,c0,c1,hb,LV,LN,N3,NG,LJ,NJ,Be,Nt,N1,NI,Bd,L8,LM,reduceCtorEq,B4,BN];done) | (have c9:=c3;simp only[hb,LJ]at c9;simp only[Qw,c0,c1,c2,hb,c9,LV,LN,N3,LJ,reduceCtorEq,B4,BN]),_,rfl⟩)
   | (have hb:(!isR ⟨bc,bn⟩ 0 0&&!isR ⟨bc,bn⟩ 8 0&&!JC ⟨bc,bn⟩)=false:=(by(try simp only[isR]);simp[*]);exact P4 _ _ (mcF.env ⟨hx,r1,r3,r4,r5,by rw[hcs];exact g0,g1,g2,g3⟩ (by simp only[Qg,simprocAttr]) (by simp only[Qg,simprocAttr]) (by simp only[Qg,simprocAttr]) (by simp only[Qg,simprocAttr])) c0 c1 hb)
 have P6:∀A H',mcF H cs A H'->(decide (d < -2147483648)||decide (2147483647<d))=false->Qm prog Qes ⟨Rt prog JA H λu H'=>u=.int .i64 (Qw ⟨⟨bc,bn⟩,⟨ic,nn⟩,sc,d,sz⟩)∧∃k,H'=H.up k,E0⟩ K0 A H':=by
  rintro A H' ⟨hx,r1,r3,r4,r5,g0,g1,g2,g3⟩ c0;rw[hcs]at g0;simp only[Qes];simp only[Qb,simprocAttr,Qj,Qr,r1,r3,r4,r5,g0,g1,g2,g3]
  repeat' (first
   | (refine Qp (λh=>?_) (λh=>?_)<;>(try simp only[Lr,Lu]at h)<;>simp only[Qb,simprocAttr,Qj,Qr,r1,r3,r4,r5,g0,g1,g2,g3,h])
   | (refine Qf (λh=>?_) (λh=>?_)<;>(try simp only[Lr,Lu]at h)<;>simp only[Qb,simprocAttr,Qj,Qr,r1,r3,r4,r5,g0,g1,g2,g3,h])
   | (refine(qs _).thenW ?_;rintro _ _ hn hw2 ⟨rfl,rfl⟩;simp only[Qb,simprocAttr,Qj,Qr,r1,r3,r4,r5,g0,g1,g2,g3])
   | (refine(qw ⟨bc,bn⟩ _).thenW ?_;rintro _ _ hn hw2 ⟨rfl,k,rfl⟩;have hx:=hx.up (show _<=k from hn);simp only[Qb,simprocAttr,Qj,Qr,r1,r3,r4,r5,g0,g1,g2,g3])
   | (refine(qw ⟨ic,nn⟩ _).thenW ?_;rintro _ _ hn hw2 ⟨rfl,k,rfl⟩;have hx:=hx.up (show _<=k from hn);simp only[Qb,simprocAttr,Qj,Qr,r1,r3,r4,r5,g0,g1,g2,g3])
   | (refine(qc _).thenW ?_;rintro _ _ hn hw2 ⟨rfl,k,rfl⟩;have hx:=hx.up (show _<=k from hn);simp only[Qb,simprocAttr,Qj,Qr,r1,r3,r4,r5,g0,g1,g2,g3]))
  all_goals first
   | (have hb:Ko sz=true:=(by(try simp only[isR]);simp[*]);exact .ext hw hx ⟨by first | (simp only[Qw,c0,hb,LV,LN,N3,NG,LJ,NJ,Be,Nt,N1,NI,Bd,L8,LM,reduceCtorEq,B4,BN];done) | (have c9:=c3;simp only[hb,LJ]at c9;simp only[Qw,c0,c1,c2,hb,c9,LV,LN,N3,LJ,reduceCtorEq,B4,BN]),_,rfl⟩)
   | (have hb:Ko sz=false:=(by(try simp only[isR]);simp[*]);exact .ext hw hx ⟨by first | (simp only[Qw,c0,hb,LV,LN,N3,NG,LJ,NJ,Be,Nt,N1,NI,Bd,L8,LM,reduceCtorEq,B4,BN];done) | (have c9:=c3;simp only[hb,LJ]at c9;simp only[Qw,c0,c1,c2,hb,c9,LV,LN,N3,LJ,reduceCtorEq,B4,BN]),_,rfl⟩)
   | (have hb:Ko sz=true:=(by(try simp only[isR]);simp[*]);exact P5 _ _ (mcF.env ⟨hx,r1,r3,r4,r5,by rw[hcs];exact g0,g1,g2,g3⟩ (by simp only[Qg,simprocAttr]) (by simp only[Qg,simprocAttr]) (by simp only[Qg,simprocAttr]) (by simp only[Qg,simprocAttr])) c0 hb)
 have hx0:∀b c d e f g h,Ext H (((((((H.push b).push c).set (H.next+1) d).push e).set (H.next+2) f).push g).set (H.next+3) h):=λb c d e f g h=>
  (((((((Ext.refl H).push b).push c).set (by omega) d).push e).set (by omega) f).push g).set (by omega) h
 have fin:∀A,A 1=.pointer (some ⟨H.next,0,none⟩)->A 3=.pointer (some ⟨H.next+1,0,none⟩)->A 4=.pointer (some ⟨H.next+2,0,none⟩)->A 5=.pointer (some ⟨H.next+3,0,none⟩)->∀d e f,mcF H cs A (((((((H.push (.cells cs 56 false)).push d).set (H.next+1) (.cells [.int .i64 0,.int .i64 0] 54 false)).push e).set (H.next+2) (.cells [.int .i64 8,.int .i64 0] 54 false)).push f).set (H.next+3) (.cells [.int .i64 5,.int .i64 4] 54 false)):=by
  intro A r1 r3 r4 r5 d e f;refine⟨hx0 _ _ _ _ _ _ _,r1,r3,r4,r5,?_,?_,?_,?_⟩<;>simp[Qq,Qd,Rh]
 rw[<- hcs];refine Qp (λh=>?_) (λh=>?_)<;>(try simp only[Lr,Lu]at h)<;>simp only[Qb,simprocAttr,Qj,Rh,Dd,De,h,hcs]
 ·refine Qf (λh2=>?_) (λh2=>?_)<;>simp only[Qb,simprocAttr,Qj,h2]
  ·exact .ext hw (hx0 _ _ _ _ _ _ _) ⟨by simp only[Qw,h,B4,h2,Bd,N3],_,rfl⟩
  ·rw[<- hcs];exact P6 _ _ (fin _ (by simp only[Qg,simprocAttr]) (by simp only[Qg,simprocAttr]) (by simp only[Qg,simprocAttr]) (by simp only[Qg,simprocAttr]) _ _ _) (by simp only[h,h2,NI])
 ·exact .ext hw (hx0 _ _ _ _ _ _ _) ⟨by simp only[Qw,h,N1,N3],_,rfl⟩
def J7:Mm:=⟨⟨0,0⟩,⟨0,0⟩,0,0,0⟩
def Y4 (m:Mm):Mm:=
 if(isR m.i 0 0||!(m.sc==1))=true then m else if isR m.b 0 0=true then⟨m.i,⟨0,0⟩,0,m.d,m.sz⟩ else if(m.i.n==4)=true then⟨m.i,m.b,m.sc,m.d,m.sz⟩ else m
def Qa3 (m:Mm):Mm×Int:=if Qw m=0 then(Y4 m,0) else(J7,Qw m)
theorem QqJ (m:Mm)(H:Qa):Qe prog 108 [.agg m.cells.toArray] H λu H'=>u=.tuple #[.agg (Qa3 m).1.cells.toArray,.int .i64 (Qa3 m).2]∧∃k,H'=H.up k:=by
 refine Qvq λhw=>?_;have q:=QqI m;obtain⟨e,he⟩:∃e,Qw m=e:=⟨_,rfl⟩;rw[he]at q;have hc:Qa3 m=if e=0 then(Y4 m,0) else(J7,e):=by rw[<- he];rfl
 rw[hc];clear hc he;obtain⟨⟨bc,bn⟩,⟨ic,nn⟩,sc,d,sz⟩:=m;simp only[Mm.cells]at q;simp only[Mm.cells,QnY,KQ,KS,KU,KW,Qb,simprocAttr,QcN];refine(q _).thenW ?_;rintro _ _ hn hw2 ⟨rfl,k,rfl⟩;simp only[Qc,Ql]at hn;have k0:¬H.next=k:=by omega
 have k1:¬H.next+1=k:=by omega
 have k2:¬H.next=k+1:=by omega
 have k3:¬H.next+1=k+1:=by omega
 simp only[Qb,simprocAttr,QcN,KQ,KS,KU,KW,Qr,Rh,Dd,De,k0,k1,k2,k3]
 repeat' (first
   | refine⟨by simp[Qh,plain],by omega,?_⟩
   | (refine Qp (λh=>?_) (λh=>?_)<;>(try simp only[Lr,Lu]at h)<;>simp only[Qb,simprocAttr,QcN,KQ,KS,KU,KW,Qr,Rh,Dd,De,k0,k1,k2,k3,h])
   | (refine Qf (λh=>?_) (λh=>?_)<;>(try simp only[Lr,Lu]at h)<;>simp only[Qb,simprocAttr,QcN,KQ,KS,KU,KW,Qr,Rh,Dd,De,k0,k1,k2,k3,h]))
 all_goals refine .ext hw ?_ ⟨?_,_,rfl⟩
 all_goals try (repeat' (first | exact Ext.refl _ | refine Ext.push ?_ _ | refine Ext.up ?_ (by first | assumption | (simp only[Qc,Qt];omega)) | refine Ext.set ?_ (by omega) _))
 all_goals (try have he0:e=0:=by simpa using ‹(e==0)=true›)<;>(try have he0:¬e=0:=by simpa using ‹(e==0)=false›)
 all_goals (simp only[Y4,J7,isR,Mm.cells, *,LV,LN,N3,NG,LJ,NJ,Be,Nt,N1,NI,Bd,L8,LM,reduceCtorEq,BN];done)
structure Ar where
 k:Int
 r:Rg
 m:Mm
 n:Int
 deriving DecidableEq
def Ar.cells (a:Ar):List Value:=[.int .i64 a.k,.int .i64 a.r.c,.int .i64 a.r.n,.int .i64 a.m.b.c,.int .i64 a.m.b.n,.int .i64 a.m.i.c,.int .i64 a.m.i.n,.int .i64 a.m.sc,.int .i64 a.m.d,.int .i64 a.m.sz,.int .i64 a.n]
def Wn (a:Ar):Int:=
 if(a.k==1)=true then(if(!XF a.r||(a.r.c==8))=true then 2 else 0)
 else if(a.k==2)=true then Qw a.m
 else if(a.k==3)=true then 0
 else if(a.k==4)=true then(if(decide (a.n < -2147483648)||decide (2147483647<a.n))=true then 5 else 0)
 else 2
theorem VK (a:Ar)(H:Qa):Qe prog 43 [.agg a.cells.toArray] H λu H'=>u=.int .i64 (Wn a)∧∃k,H'=H.up k:=by
 refine Qps λhw=>?_;have q1:=V9 a.r;have q2:=QqI a.m;obtain⟨k,⟨rc,rn⟩,⟨⟨bc,bn⟩,⟨ic,nn⟩,sc,d,sz⟩,n⟩:=a;simp only[Rg.cells,Mm.cells]at q1 q2;simp(disch:=omega) only[Ar.cells,QgH,JL,JM,JN,JO,JP,Qk,simprocAttr,ZH]
 repeat' (first
   | (refine Qp (λh=>?_) (λh=>?_)<;>(try simp only[Lr,Lu]at h)<;>simp(disch:=omega) only[Qk,simprocAttr,ZH,JL,JM,JN,JO,JP,h])
   | (refine Qf (λh=>?_) (λh=>?_)<;>(try simp only[Lr,Lu]at h)<;>simp(disch:=omega) only[Qk,simprocAttr,ZH,JL,JM,JN,JO,JP,h])
   | (refine(q1 _).thenW ?_;rintro _ _ hn hw2 ⟨rfl,k,rfl⟩;simp only[Qc,Ql,Qt]at hn;simp(disch:=omega) only[Qk,simprocAttr,ZH])
   | (refine(q2 _).thenW ?_;rintro _ _ hn hw2 ⟨rfl,k,rfl⟩;simp only[Qc,Ql,Qt]at hn;simp(disch:=omega) only[Qk,simprocAttr,ZH]))
 all_goals refine .ext hw ?_ ⟨?_,_,rfl⟩
 all_goals try (repeat' (first | exact Ext.refl _ | refine Ext.push ?_ _ | refine Ext.up ?_ (by simp only[Qc,Qt,Ql];omega) | refine Ext.set ?_ (by omega) _))
 all_goals (simp only[Wn, *,LV,LN,N3,NG,LJ,NJ,Be,Nt,N1,NI,Bd,L8,LM,reduceCtorEq,BN])
/-! ### Canon -/
def Wc:Ar:=⟨0,⟨0,0⟩,J7,0⟩
def QdD (a:Ar):Ar:=if(a.k==1)=true then⟨a.k,a.r,J7,0⟩ else if(a.k==2)=true then⟨a.k,⟨0,0⟩,Y4 a.m,0⟩ else⟨a.k,⟨0,0⟩,J7,a.n⟩
def Wu (a:Ar):Ar×Int:=if(Wn a==0)=true then(QdD a,0) else(Wc,Wn a)
theorem Qnd {a:Ar}(hk:(a.k==2)=true):Wn a=Qw a.m:=by
 have:a.k=2:=by simpa using hk
 simp[Wn,this]
theorem Qq9 (a:Ar)(H:Qa):Qe prog 67 [.agg a.cells.toArray] H λu H'=>u=.tuple #[.agg (Wu a).1.cells.toArray,.int .i64 (Wu a).2]∧∃k,H'=H.up k:=by
 refine Qpt λhw=>?_;have q1:=VK a;have q2:=QqJ a.m;have hm:=@Qnd a;have hcc:Qa3 a.m=if Qw a.m=0 then(Y4 a.m,0) else(J7,Qw a.m):=rfl
 have hce:Wu a=if(Wn a==0)=true then(QdD a,0) else(Wc,Wn a):=rfl
 rw[hce];rw[hcc]at q2;clear hce hcc;generalize Wn a=e at *;generalize Qw a.m=f at *;have hca:QdD a=if(a.k==1)=true then⟨a.k,a.r,J7,0⟩ else if(a.k==2)=true then⟨a.k,⟨0,0⟩,Y4 a.m,0⟩ else⟨a.k,⟨0,0⟩,J7,a.n⟩:=rfl
 rw[hca];clear hca;generalize Y4 a.m=mc at *;obtain⟨k,⟨rc,rn⟩,⟨⟨bc,bn⟩,⟨ic,nn⟩,sc,d,sz⟩,n⟩:=a;obtain⟨⟨mb,mbn⟩,⟨mi,min⟩,msc,md,msz⟩:=mc;simp only[Ar.cells,Mm.cells]at q1 q2 hm;simp(disch:=(first | omega | (simp only[hnP];try omega))) only[Ar.cells,QgN,Yl,Ym,Yn,Qk,simprocAttr,ZI]
 repeat' (first
   | (refine Qp (λh=>?_) (λh=>?_)<;>(try simp only[Lr,Lu]at h)<;>simp(disch:=(first | omega | (simp only[hnP];try omega))) only[Yl,Ym,Yn,Qk,simprocAttr,ZI,h])
   | (refine Qf (λh=>?_) (λh=>?_)<;>(try simp only[Lr,Lu]at h)<;>simp(disch:=(first | omega | (simp only[hnP];try omega))) only[Yl,Ym,Yn,Qk,simprocAttr,ZI,h])
   | (refine(q1 _).thenW ?_;rintro _ _ hn hw2 ⟨rfl,k,rfl⟩;(try simp only[Qc,Ql,Qt]at hn);simp(disch:=(first | omega | (simp only[hnP];try omega))) only[Yl,Ym,Yn,Qk,simprocAttr,ZI])
   | (refine(q2 _).thenW ?_;rintro _ _ hn hw2 ⟨rfl,k,rfl⟩;(try simp only[Qc,Ql,Qt]at hn);simp(disch:=(first | omega | (simp only[hnP];try omega))) only[Yl,Ym,Yn,Qk,simprocAttr,ZI])
   | (with_reducible refine⟨by simp[Qh,plain],by omega,?_⟩)
   | (with_reducible refine⟨by simp[Qh,plain],?_⟩)
   | fail)
 all_goals refine .ext hw ?_ ⟨?_,_,rfl⟩
 all_goals try (repeat' (first | exact Ext.refl _ | refine Ext.push ?_ _ | refine Ext.up ?_ (by simp only[Qc,Qt,Ql];omega) | refine Ext.set ?_ (by omega) _))
 all_goals simp_all [Wc,J7,Ar.cells,Mm.cells]
def QkC (a:Ar):Int:=if(Wn a==0)=true then(if(a.k==1)=true then QgR a.r else if(a.k==2)=true then a.m.sz else 0) else 0
theorem QsC (a:Ar)(H:Qa):Qe prog 65 [.agg a.cells.toArray] H λu H'=>u=.int .i64 (QkC a)∧∃k,H'=H.up k:=by
 refine Qq1 λhw=>?_;have q1:=VK a;have q2:=Qzh a.r;have hs:QkC a=if(Wn a==0)=true then(if(a.k==1)=true then QgR a.r else if(a.k==2)=true then a.m.sz else 0) else 0:=rfl
 rw[hs];clear hs;generalize Wn a=e at *;generalize QgR a.r=sr at *;obtain⟨k,⟨rc,rn⟩,⟨⟨bc,bn⟩,⟨ic,nn⟩,sc,d,sz⟩,n⟩:=a;simp only[Ar.cells,Rg.cells]at q1 q2;simp(disch:=(first | omega | (simp only[hnP];try omega))) only[Ar.cells,QiI,Qk,simprocAttr,Jm]
 repeat' (first
   | (refine Qp (λh=>?_) (λh=>?_)<;>(try simp only[Lr,Lu]at h)<;>simp(disch:=(first | omega | (simp only[hnP];try omega))) only[Qk,simprocAttr,Jm,h])
   | (refine Qf (λh=>?_) (λh=>?_)<;>(try simp only[Lr,Lu]at h)<;>simp(disch:=(first | omega | (simp only[hnP];try omega))) only[Qk,simprocAttr,Jm,h])
   | (refine(q1 _).thenW ?_;rintro _ _ hn hw2 ⟨rfl,k,rfl⟩;(try simp only[Qc,Ql,Qt]at hn);simp(disch:=(first | omega | (simp only[hnP];try omega))) only[Qk,simprocAttr,Jm])
   | (refine(q2 _).thenW ?_;rintro _ _ hn hw2 ⟨rfl,k,rfl⟩;(try simp only[Qc,Ql,Qt]at hn);simp(disch:=(first | omega | (simp only[hnP];try omega))) only[Qk,simprocAttr,Jm])
   | (with_reducible refine⟨by simp[Qh,plain],by omega,?_⟩)
   | (with_reducible refine⟨by simp[Qh,plain],?_⟩)
   | fail)
 all_goals refine .ext hw ?_ ⟨?_,_,rfl⟩
 all_goals try (repeat' (first | exact Ext.refl _ | refine Ext.push ?_ _ | refine Ext.up ?_ (by simp only[Qc,Qt,Ql];omega) | refine Ext.set ?_ (by omega) _))
 all_goals simp_all []
def Y5 (o:Int):Bool:=decide (1<=o)&&decide (o<=322)
theorem Qib (o:Int)(H:Qa):Qe prog 42 [.int .i64 o] H λu H'=>u=.bool (Y5 o)∧H'=H:=by
 refine Ql3 λhw=>?_;simp(disch:=(first | omega | (simp only[hnP];try omega))) only[Qf5,Qk,simprocAttr,KL]
 repeat' (first
   | (refine Qp (λh=>?_) (λh=>?_)<;>(try simp only[Lr,Lu]at h)<;>simp(disch:=(first | omega | (simp only[hnP];try omega))) only[Qk,simprocAttr,KL,h])
   | (refine Qf (λh=>?_) (λh=>?_)<;>(try simp only[Lr,Lu]at h)<;>simp(disch:=(first | omega | (simp only[hnP];try omega))) only[Qk,simprocAttr,KL,h])
   | (with_reducible refine⟨by simp[Qh,plain],by omega,?_⟩)
   | (with_reducible refine⟨by simp[Qh,plain],?_⟩)
   | fail)
 all_goals refine .mk (Lb _) ⟨?_,rfl⟩
 all_goals (simp_all [Y5]<;>omega)
def QoN (o:Int):Int×Bool:=if Y5 o=false then(0,false) else if o=1∨o=2∨o=3∨o=4∨o=5∨o=6∨o=7∨o=8∨o=9∨o=10∨o=16 then(0,true) else if o=48 then(64,true) else if o=51 then(16,false) else(8,false)
theorem Qzs (o:Int)(H:Qa):Qe prog 64 [.int .i64 o] H λu H'=>u=.tuple #[.int .i64 (QoN o).1,.bool (QoN o).2]∧H'=H:=by
 refine Qw8 λhw=>?_;have q1:=Qib o;have hs:QoN o=if Y5 o=false then(0,false) else if o=1∨o=2∨o=3∨o=4∨o=5∨o=6∨o=7∨o=8∨o=9∨o=10∨o=16 then(0,true) else if o=48 then(64,true) else if o=51 then(16,false) else(8,false):=rfl
 rw[hs];clear hs;generalize Y5 o=v at *;simp(disch:=(first | omega | (simp only[hnP];try omega))) only[Qqx,G5,G6,G7,G8,G9,Va,Vb,Vc,Vd,KM,KN,Qk,simprocAttr,Qd4]
 repeat' (first
   | (refine Qp (λh=>?_) (λh=>?_)<;>(try simp only[Lr,Lu]at h)<;>simp(disch:=(first | omega | (simp only[hnP];try omega))) only[G5,G6,G7,G8,G9,Va,Vb,Vc,Vd,KM,KN,Qk,simprocAttr,Qd4,h])
   | (refine Qf (λh=>?_) (λh=>?_)<;>(try simp only[Lr,Lu]at h)<;>simp(disch:=(first | omega | (simp only[hnP];try omega))) only[G5,G6,G7,G8,G9,Va,Vb,Vc,Vd,KM,KN,Qk,simprocAttr,Qd4,h])
   | (refine(q1 _).thenW ?_;rintro _ _ hn hw2 ⟨rfl,rfl⟩;(try simp only[Qc,Ql,Qt]at hn);simp(disch:=(first | omega | (simp only[hnP];try omega))) only[G5,G6,G7,G8,G9,Va,Vb,Vc,Vd,KM,KN,Qk,simprocAttr,Qd4])
   | (with_reducible refine⟨by simp[Qh,plain],by omega,?_⟩)
   | (with_reducible refine⟨by simp[Qh,plain],?_⟩)
   | fail)
 all_goals refine .mk (Lb _) ⟨?_,rfl⟩
 all_goals simp_all []
def Qi (l:List Ar):List Value:=l.flatMap Ar.cells
theorem WQ (a:Ar):a.cells.length=11:=rfl
theorem Qac (a:Ar)(l:List Ar):Qi (a::l)=a.cells++Qi l:=by simp[Qi]
theorem QJ:∀l:List Ar,(Qi l).length=l.length * 11
 | []=>rfl
 | a::l=>by
  have:=QJ l;rw[Qac,Lh,WQ,this,Lo];omega
theorem WI:∀ (l:List Ar) (i:Nat) (p:Ar),l[i]? = some p->((Qi l).drop (i * 11)).take 11=p.cells
 | [],i,p,h=>by simp at h
 | q::l,0,p,h=>by
  simp at h;subst h;rw[Qac,BH,Lw,NO (by rw[WQ];exact Lb 11),LF (by rw[WQ];exact Lb 11)]
 | q::l,i+1,p,h=>by
  rw[Qac,show(i+1) * 11=q.cells.length+i * 11 by rw[WQ];omega,B3,NK (by omega),LH,NL];exact WI l i p (by simpa using h)
def Qv (H:Qa)(v:Value)(l:List Ar):Prop:=Qdw H v l.length (Qi l)
theorem Qv.ext {H H':Qa}{v:Value}{l:List Ar}(hw:H.Wf)(he:Ext H H')(h:Qv H v l):Qv H' v l:=Qdw.ext hw he h
theorem QDt (r:Rg):0<=QgR r∧QgR r<=32:=by
 unfold QgR
 repeat' split
 all_goals decide
theorem QBW {n:Int}(h:Ko n=true):0<=n∧n<=32:=by
 simp only[Ko,Nw,L0]at h;omega
theorem Qxr (a:Ar):0<=QkC a∧QkC a<=32:=by
 unfold QkC;split
 ·rename_i h;split
  ·exact QDt _
  ·split
   ·rename_i h2;rw[Qnd h2]at h;apply QBW;cases hs:Ko a.m.sz with
    | true=>rfl
    | false=>
     unfold Qw at h;rw[hs]at h;split at h<;>simp at h
   ·omega
 ·omega
def QU (op:Int)(l:List Ar):Int×Bool:=if Y5 op=false then(0,false) else if((QoN op).1==0)=false then QoN op else match l with
 | []=>(0,false)
 | a::_=>if(QkC a==0)=true then(0,false) else(8 * QkC a,(QoN op).2)
theorem QfX (op:Int)(v:Value)(l:List Ar)(H:Qa)(hv:Qv H v l)(hl:l.length<=1000):Qe prog 44 [.agg #[.int .i64 op,v]] H λu H'=>u=.tuple #[.int .i64 (QU op l).1,.bool (QU op l).2]∧∃k,H'=H.up k:=by
 refine Qvm λhw=>?_;have q1:=Qib op;have q2:=Qzs op;unfold QU;generalize Y5 op=v1 at *;generalize QoN op=v2 at *;obtain⟨v2a,v2b⟩:=v2;obtain⟨a0,cap,rfl,h1⟩:=hv;cases l with
 | nil=>
  have el0:(((0:Nat):Int)==0)=true:=rfl;simp(disch:=(first | omega | (simp only[hnP];try omega))) only[Qh4,Qk,simprocAttr,el0,Xb]
  repeat' (first
    | (refine Qp (λh=>?_) (λh=>?_)<;>(try simp only[Lr,Lu]at h)<;>simp(disch:=(first | omega | (simp only[hnP];try omega))) only[Qk,simprocAttr,el0,Xb,h])
    | (refine Qf (λh=>?_) (λh=>?_)<;>(try simp only[Lr,Lu]at h)<;>simp(disch:=(first | omega | (simp only[hnP];try omega))) only[Qk,simprocAttr,el0,Xb,h])
    | (refine(q1 _).thenW ?_;rintro _ _ hn hw2 ⟨rfl,rfl⟩;(try simp only[Qc,Ql,Qt]at hn);simp(disch:=(first | omega | (simp only[hnP];try omega))) only[Qk,simprocAttr,el0,Xb])
    | (refine(q2 _).thenW ?_;rintro _ _ hn hw2 ⟨rfl,rfl⟩;(try simp only[Qc,Ql,Qt]at hn);simp(disch:=(first | omega | (simp only[hnP];try omega))) only[Qk,simprocAttr,el0,Xb])
    | (with_reducible refine⟨by simp[Qh,plain],by omega,?_⟩)
    | (with_reducible refine⟨by simp[Qh,plain],?_⟩)
    | fail)
  all_goals refine .ext hw ?_ ⟨?_,_,rfl⟩
  all_goals try (repeat' (first | exact Ext.refl _ | refine Ext.push ?_ _ | refine Ext.up ?_ (by simp only[Qc,Qt,Ql];omega) | refine Ext.set ?_ (by omega) _))
  all_goals simp_all
 | cons a l=>
  dsimp only;have et0:(0:Int).toNat=0:=rfl;have q3:=QsC a;have h8:=Qxr a;generalize QkC a=s at *;obtain⟨b,e,ro,rfl,hgb⟩:=h1 (by simp);have el0:(((l.length+1:Nat):Int)==0)=false:=by simp;omega
  have ec1:((0:Int)<=0∧(0:Int)<((l.length+1:Nat):Int)):=by omega
  have hb:=hw.lt hgb;have e8:IntKind.i64.wrap (8 * s)=8 * s:=w64 (by unfold I64;omega);have hd11:List.take 11 (Qi (a::l))=a.cells:=by
   have:=WI (a::l) 0 a rfl;simpa using this
  have hle:11<=(Qi (a::l)).length:=by rw[QJ];simp;omega
  simp(disch:=(first | omega | (simp only[hnP];try omega))) only[Qh4,Qk,simprocAttr,el0,ec1,et0,hgb,hd11,hle,e8,Xb]
  repeat' (first
    | (refine Qp (λh=>?_) (λh=>?_)<;>(try simp only[Lr,Lu]at h)<;>simp(disch:=(first | omega | (simp only[hnP];try omega))) only[Qk,simprocAttr,el0,ec1,et0,hgb,hd11,hle,e8,Xb,h])
    | (refine Qf (λh=>?_) (λh=>?_)<;>(try simp only[Lr,Lu]at h)<;>simp(disch:=(first | omega | (simp only[hnP];try omega))) only[Qk,simprocAttr,el0,ec1,et0,hgb,hd11,hle,e8,Xb,h])
    | (refine(q1 _).thenW ?_;rintro _ _ hn hw2 ⟨rfl,rfl⟩;(try simp only[Qc,Ql,Qt]at hn);simp(disch:=(first | omega | (simp only[hnP];try omega))) only[Qk,simprocAttr,el0,ec1,et0,hgb,hd11,hle,e8,Xb])
    | (refine(q2 _).thenW ?_;rintro _ _ hn hw2 ⟨rfl,rfl⟩;(try simp only[Qc,Ql,Qt]at hn);simp(disch:=(first | omega | (simp only[hnP];try omega))) only[Qk,simprocAttr,el0,ec1,et0,hgb,hd11,hle,e8,Xb])
    | (refine(q3 _).thenW ?_;rintro _ _ hn hw2 ⟨rfl,k,rfl⟩;(try simp only[Qc,Ql,Qt]at hn);simp(disch:=(first | omega | (simp only[hnP];try omega))) only[Qk,simprocAttr,el0,ec1,et0,hgb,hd11,hle,e8,Xb])
    | (with_reducible refine⟨by simp[Qh,plain],by omega,?_⟩)
    | (with_reducible refine⟨by simp[Qh,plain],?_⟩)
    | fail)
  all_goals refine .ext hw ?_ ⟨?_,_,rfl⟩
  all_goals try (repeat' (first | exact Ext.refl _ | refine Ext.push ?_ _ | refine Ext.up ?_ (by simp only[Qc,Qt,Ql];omega) | refine Ext.set ?_ (by omega) _))
  all_goals simp_all
def Qgc (n bits:Int):Int:=if bits=8 then n % 256 else if bits=16 then n % 65536 else if bits=32 then n % 4294967296 else n
def Qgd (n bits:Int):Int:=if bits=8 then(n+128) % 256 - 128 else if bits=16 then(n+32768) % 65536 - 32768 else if bits=32 then(n+2147483648) % 4294967296 - 2147483648 else n
def WZ (n bits:Int)(sg:Bool):Int×Int:=
 if(bits==8||bits==16||bits==32||bits==64)=false then(0,2)
 else if(!(n==Qgc n bits)&&!(n==Qgd n bits))=true then(0,5)
 else if sg=true then(Qgd n bits,0) else(Qgc n bits,0)
theorem QpP (n bits:Int)(sg:Bool)(hn:I64 n)(hb:bits=8∨bits=16∨bits=32∨bits=64)(H:Qa):Qe prog 45 [.int .i64 n,.int .i64 bits,.bool sg] H λu H'=>u=.tuple #[.int .i64 (WZ n bits sg).1,.int .i64 (WZ n bits sg).2]∧H'=H:=by
 refine Qj8 λhw=>?_;rcases hb with rfl | rfl | rfl | rfl
 ·have t1:((8:Int)==8)=true:=rfl;have t2:((8:Int)==16)=false:=rfl;have t3:((8:Int)==32)=false:=rfl;have t4:((8:Int)==64)=false:=rfl;have w1:IntKind.i64.wrap (64 - 8)=56:=by decide
  have p1:(2:Int) ^ min (Int.toNat 56) IntKind.u64.bits=72057594037927936:=by decide
  have p2:(2:Int) ^ min (Int.toNat 56) IntKind.i64.bits=72057594037927936:=by decide
  have z0:((0:Int)<=56)=True:=eq_true (by decide);have eL:IntKind.i64.wrap ((IntKind.u64.wrap (IntKind.u64.wrap n * 72057594037927936)).fdiv 72057594037927936)=Qgc n 8:=by
   unfold I64 at hn;rw[Np _ (by decide),NU,NC,NC];rw[show Qgc n 8=n % 256 from rfl];omega
  have eC:(IntKind.i64.wrap (IntKind.u64.wrap (IntKind.u64.wrap n * 72057594037927936))).fdiv 72057594037927936=Qgd n 8:=by
   unfold I64 at hn;rw[Np _ (by decide),NU,NC,NC];rw[show Qgd n 8=(n+128) % 256 - 128 from rfl];omega
  simp(disch:=(first | omega | (simp only[hnP];try omega))) only[Jl,QZ,Q0,Q3,sxA,sxB,Nat.reduceBEq,Nat.reduceEqDiff,reduceCtorEq,mxD,mxB,Nat.reduceAdd,reduceIte,Nat.reduceLeDiff,splice,t1,t2,t3,t4,w1,z0,p1,p2,eL,eC,Wb]
  obtain⟨lo,hlo⟩:∃lo,Qgc n 8=lo:=⟨_,rfl⟩;obtain⟨cu,hcu⟩:∃cu,Qgd n 8=cu:=⟨_,rfl⟩;have hI:WZ n 8 sg=if(!(n==lo)&&!(n==cu))=true then(0,5) else if sg=true then(cu,0) else(lo,0):=by
   rw[<- hlo,<- hcu];rfl
  rw[hI,hlo,hcu];clear hI eL eC hlo hcu
  repeat' (first
   | (refine Qp (λh=>?_) (λh=>?_)<;>(try simp only[Lr,Lu]at h)<;>simp(disch:=(first | omega | (simp only[hnP];try omega))) only[QZ,Q0,Q3,Qk,simprocAttr,Wb,h])
   | (refine Qf (λh=>?_) (λh=>?_)<;>(try simp only[Lr,Lu]at h)<;>simp(disch:=(first | omega | (simp only[hnP];try omega))) only[QZ,Q0,Q3,Qk,simprocAttr,Wb,h])
   | fail)
  all_goals refine .mk (Lb _) ⟨?_,rfl⟩
  all_goals simp_all
 ·have t1:((16:Int)==8)=false:=rfl;have t2:((16:Int)==16)=true:=rfl;have t3:((16:Int)==32)=false:=rfl;have t4:((16:Int)==64)=false:=rfl;have w1:IntKind.i64.wrap (64 - 16)=48:=by decide
  have p1:(2:Int) ^ min (Int.toNat 48) IntKind.u64.bits=281474976710656:=by decide
  have p2:(2:Int) ^ min (Int.toNat 48) IntKind.i64.bits=281474976710656:=by decide
  have z0:((0:Int)<=48)=True:=eq_true (by decide);have eL:IntKind.i64.wrap ((IntKind.u64.wrap (IntKind.u64.wrap n * 281474976710656)).fdiv 281474976710656)=Qgc n 16:=by
   unfold I64 at hn;rw[Np _ (by decide),NU,NC,NC];rw[show Qgc n 16=n % 65536 from rfl];omega
  have eC:(IntKind.i64.wrap (IntKind.u64.wrap (IntKind.u64.wrap n * 281474976710656))).fdiv 281474976710656=Qgd n 16:=by
   unfold I64 at hn;rw[Np _ (by decide),NU,NC,NC];rw[show Qgd n 16=(n+32768) % 65536 - 32768 from rfl];omega
  simp(disch:=(first | omega | (simp only[hnP];try omega))) only[Jl,QZ,Q0,Q3,sxA,sxB,Nat.reduceBEq,Nat.reduceEqDiff,reduceCtorEq,mxD,mxB,Nat.reduceAdd,reduceIte,Nat.reduceLeDiff,splice,t1,t2,t3,t4,w1,z0,p1,p2,eL,eC,Wb]
  obtain⟨lo,hlo⟩:∃lo,Qgc n 16=lo:=⟨_,rfl⟩;obtain⟨cu,hcu⟩:∃cu,Qgd n 16=cu:=⟨_,rfl⟩;have hI:WZ n 16 sg=if(!(n==lo)&&!(n==cu))=true then(0,5) else if sg=true then(cu,0) else(lo,0):=by
   rw[<- hlo,<- hcu];rfl
  rw[hI,hlo,hcu];clear hI eL eC hlo hcu
  repeat' (first
   | (refine Qp (λh=>?_) (λh=>?_)<;>(try simp only[Lr,Lu]at h)<;>simp(disch:=(first | omega | (simp only[hnP];try omega))) only[QZ,Q0,Q3,Qk,simprocAttr,Wb,h])
   | (refine Qf (λh=>?_) (λh=>?_)<;>(try simp only[Lr,Lu]at h)<;>simp(disch:=(first | omega | (simp only[hnP];try omega))) only[QZ,Q0,Q3,Qk,simprocAttr,Wb,h])
   | fail)
  all_goals refine .mk (Lb _) ⟨?_,rfl⟩
  all_goals simp_all
 ·have t1:((32:Int)==8)=false:=rfl;have t2:((32:Int)==16)=false:=rfl;have t3:((32:Int)==32)=true:=rfl;have t4:((32:Int)==64)=false:=rfl;have w1:IntKind.i64.wrap (64 - 32)=32:=by decide
  have p1:(2:Int) ^ min (Int.toNat 32) IntKind.u64.bits=4294967296:=by decide
  have p2:(2:Int) ^ min (Int.toNat 32) IntKind.i64.bits=4294967296:=by decide
  have z0:((0:Int)<=32)=True:=eq_true (by decide);have eL:IntKind.i64.wrap ((IntKind.u64.wrap (IntKind.u64.wrap n * 4294967296)).fdiv 4294967296)=Qgc n 32:=by
   unfold I64 at hn;rw[Np _ (by decide),NU,NC,NC];rw[show Qgc n 32=n % 4294967296 from rfl];omega
  have eC:(IntKind.i64.wrap (IntKind.u64.wrap (IntKind.u64.wrap n * 4294967296))).fdiv 4294967296=Qgd n 32:=by
   unfold I64 at hn;rw[Np _ (by decide),NU,NC,NC];rw[show Qgd n 32=(n+2147483648) % 4294967296 - 2147483648 from rfl];omega
  simp(disch:=(first | omega | (simp only[hnP];try omega))) only[Jl,QZ,Q0,Q3,sxA,sxB,Nat.reduceBEq,Nat.reduceEqDiff,reduceCtorEq,mxD,mxB,Nat.reduceAdd,reduceIte,Nat.reduceLeDiff,splice,t1,t2,t3,t4,w1,z0,p1,p2,eL,eC,Wb]
  obtain⟨lo,hlo⟩:∃lo,Qgc n 32=lo:=⟨_,rfl⟩;obtain⟨cu,hcu⟩:∃cu,Qgd n 32=cu:=⟨_,rfl⟩;have hI:WZ n 32 sg=if(!(n==lo)&&!(n==cu))=true then(0,5) else if sg=true then(cu,0) else(lo,0):=by
   rw[<- hlo,<- hcu];rfl
  rw[hI,hlo,hcu];clear hI eL eC hlo hcu
  repeat' (first
   | (refine Qp (λh=>?_) (λh=>?_)<;>(try simp only[Lr,Lu]at h)<;>simp(disch:=(first | omega | (simp only[hnP];try omega))) only[QZ,Q0,Q3,Qk,simprocAttr,Wb,h])
   | (refine Qf (λh=>?_) (λh=>?_)<;>(try simp only[Lr,Lu]at h)<;>simp(disch:=(first | omega | (simp only[hnP];try omega))) only[QZ,Q0,Q3,Qk,simprocAttr,Wb,h])
   | fail)
  all_goals refine .mk (Lb _) ⟨?_,rfl⟩
  all_goals simp_all
 ·have t1:((64:Int)==8)=false:=rfl;have t2:((64:Int)==16)=false:=rfl;have t3:((64:Int)==32)=false:=rfl;have t4:((64:Int)==64)=true:=rfl;have w1:IntKind.i64.wrap (64 - 64)=0:=by decide
  have p1:(2:Int) ^ min (Int.toNat 0) IntKind.u64.bits=1:=by decide
  have p2:(2:Int) ^ min (Int.toNat 0) IntKind.i64.bits=1:=by decide
  have z0:((0:Int)<=0)=True:=eq_true (by decide);have eL:IntKind.i64.wrap ((IntKind.u64.wrap (IntKind.u64.wrap n * 1)).fdiv 1)=Qgc n 64:=by
   unfold I64 at hn;rw[Np _ (by decide),NU,NC,NC];rw[show Qgc n 64=n from rfl];omega
  have eC:(IntKind.i64.wrap (IntKind.u64.wrap (IntKind.u64.wrap n * 1))).fdiv 1=Qgd n 64:=by
   unfold I64 at hn;rw[Np _ (by decide),NU,NC,NC];rw[show Qgd n 64=n from rfl];omega
  simp(disch:=(first | omega | (simp only[hnP];try omega))) only[Jl,QZ,Q0,Q3,sxA,sxB,Nat.reduceBEq,Nat.reduceEqDiff,reduceCtorEq,mxD,mxB,Nat.reduceAdd,reduceIte,Nat.reduceLeDiff,splice,t1,t2,t3,t4,w1,z0,p1,p2,eL,eC,Wb]
  obtain⟨lo,hlo⟩:∃lo,Qgc n 64=lo:=⟨_,rfl⟩;obtain⟨cu,hcu⟩:∃cu,Qgd n 64=cu:=⟨_,rfl⟩;have hI:WZ n 64 sg=if(!(n==lo)&&!(n==cu))=true then(0,5) else if sg=true then(cu,0) else(lo,0):=by
   rw[<- hlo,<- hcu];rfl
  rw[hI,hlo,hcu];clear hI eL eC hlo hcu
  repeat' (first
   | (refine Qp (λh=>?_) (λh=>?_)<;>(try simp only[Lr,Lu]at h)<;>simp(disch:=(first | omega | (simp only[hnP];try omega))) only[QZ,Q0,Q3,Qk,simprocAttr,Wb,h])
   | (refine Qf (λh=>?_) (λh=>?_)<;>(try simp only[Lr,Lu]at h)<;>simp(disch:=(first | omega | (simp only[hnP];try omega))) only[QZ,Q0,Q3,Qk,simprocAttr,Wb,h])
   | fail)
  all_goals refine .mk (Lb _) ⟨?_,rfl⟩
  all_goals simp_all
theorem QcO (n bits:Int)(sg:Bool)(hn:I64 n)(H:Qa):Qe prog 45 [.int .i64 n,.int .i64 bits,.bool sg] H λu H'=>u=.tuple #[.int .i64 (WZ n bits sg).1,.int .i64 (WZ n bits sg).2]∧H'=H:=by
 by_cases hb:bits=8∨bits=16∨bits=32∨bits=64
 ·exact QpP n bits sg hn hb H
 ·have t1:(bits==8)=false:=by simp;omega
  have t2:(bits==16)=false:=by simp;omega
  have t3:(bits==32)=false:=by simp;omega
  have t4:(bits==64)=false:=by simp;omega
  refine Qj8 λhw=>?_;simp(disch:=(first | omega | (simp only[hnP];try omega))) only[Jl,QZ,Q0,Q3,Qk,simprocAttr,t1,t2,t3,t4,Wb]
  refine .mk (Lb _) ⟨?_,rfl⟩;simp[WZ,t1,t2,t3,t4]
theorem QDA (n b:Int)(h:I64 n):I64 (Qgd n b):=by
 unfold I64 at *;unfold Qgd;split
 ·omega
 ·split
  ·omega
  ·split<;>omega
theorem QDB (n b:Int)(h:I64 n):I64 (Qgc n b):=by
 unfold I64 at *;unfold Qgc;split
 ·omega
 ·split
  ·omega
  ·split<;>omega
theorem QsQ (n b:Int)(sg:Bool)(h:I64 n):I64 (WZ n b sg).1:=by
 unfold WZ;split
 ·unfold I64;omega
 ·split
  ·unfold I64;omega
  ·split
   ·exact QDA n b h
   ·exact QDB n b h
def Qdk:List Ar->Int
 | []=>0
 | a::l=>if(Wn a==0)=true then Qdk l else Wn a
def W4 (k:Int):List Ar->Int
 | []=>0
 | a::l=>(if(a.k==k)=true then 1 else 0)+W4 k l
def Qhy (n:Int):List Ar->Int
 | []=>n
 | a::l=>Qhy (if(a.k==3)=true then a.n else n) l
def Q8 (op:Int)(l:List Ar):Int:=
 if Y5 op=false then 6 else if l.length>4 then 3 else if(Qdk l==0)=false then Qdk l
 else if(decide (1<W4 2 l)||decide (1<W4 4 l)||decide (1<W4 3 l))=true then 2
 else if(W4 3 l==0)=true then 0
 else if((QU op l).1==0)=true then 2 else(WZ (Qhy 0 l) (QU op l).1 (QU op l).2).2
theorem Qhz (k:Int):∀ (l:List Ar) (a:Ar),W4 k (l++[a])=W4 k l+(if(a.k==k)=true then 1 else 0)
 | [],a=>by simp[W4]
 | b::l,a=>by simp only[Nm,W4,Qhz k l a];omega
theorem QuF:∀ (l:List Ar) (n:Int) (a:Ar),Qhy n (l++[a])=if(a.k==3)=true then a.n else Qhy n l
 | [],n,a=>by simp[Qhy]
 | b::l,n,a=>by simp only[Nm,Qhy,QuF l _ a]
theorem Qir (k:Int):∀l:List Ar,0<=W4 k l∧W4 k l<=l.length
 | []=>by simp[W4]
 | a::l=>by
  have:=Qir k l;simp only[W4,Lo];split<;>omega
theorem QsS (n:Int):∀l:List Ar,Qhy n l=n∨∃a∈l,Qhy n l=a.n
 | []=>.inl rfl
 | a::l=>by
  unfold Qhy;split
  ·rcases QsS a.n l with h | ⟨b,hb,h⟩
   ·exact .inr ⟨a,by simp,h⟩
   ·exact .inr ⟨b,by simp[hb],h⟩
  ·rcases QsS n l with h | ⟨b,hb,h⟩
   ·exact .inl h
   ·exact .inr ⟨b,by simp[hb],h⟩
theorem QpQ:∀ (l:List Ar) (i:Nat) (a:Ar),l[i]? = some a->Qdk (l.drop i)=if(Wn a==0)=true then Qdk (l.drop (i+1)) else Wn a
 | [],i,a,h=>by simp at h
 | b::l,0,a,h=>by simp at h;subst h;rfl
 | b::l,i+1,a,h=>by simpa using QpQ l i a (by simpa using h)
theorem QpR {α:Type}(l:List α)(i:Nat)(a:α)(h:l[i]? = some a):l.take (i+1)=l.take i++[a]:=by
 rw[Nv,h];rfl
def icF (H:Qa)(op:Int)(v:Value)(A:Env)(H':Qa):Prop:=Ext H H'∧A 1=.pointer (some ⟨H.next,0,none⟩)∧H'.get H.next=some (.cells [.int .i64 op,v] 24 false)∧H.next<H'.next
theorem Qd9 (op:Int)(v:Value)(l:List Ar)(H:Qa)(hv:Qv H v l)(hl:l.length<=1000)(hI:∀a∈l,I64 a.n):Qe prog 21 [.agg #[.int .i64 op,v]] H λu H'=>u=.int .i64 (Q8 op l)∧∃k,H'=H.up k:=by
 refine Qtt λhw=>?_;have P4:∀A H',icF H op v A H'->Y5 op=true->l.length<=4->Qdk l=0->A 6=.int .i64 (W4 2 l)->A 7=.int .i64 (W4 4 l)->A 8=.int .i64 (W4 3 l)->A 9=.int .i64 (Qhy 0 l)->
   Qm prog Qds ⟨Rt prog ZG H λu H'=>u=.int .i64 (Q8 op l)∧∃k,H'=H.up k,WJ⟩ (Rt prog ZG H λu H'=>u=.int .i64 (Q8 op l)∧∃k,H'=H.up k) A H':=by
  rintro A H' ⟨hx,r1,g0,hb0⟩ c1 c2 c3 r6 r7 r8 r9;have qb:=λH' (hx:Ext H H')=>QfX op v l H' (hv.ext hw hx) hl;have hn:I64 (Qhy 0 l):=by
   rcases QsS 0 l with h | ⟨a,ha,h⟩
   ·rw[h];unfold I64;omega
   ·rw[h];exact hI a ha
  have hc:Q8 op l=if(decide (1<W4 2 l)||decide (1<W4 4 l)||decide (1<W4 3 l))=true then 2 else if(W4 3 l==0)=true then 0 else if((QU op l).1==0)=true then 2 else(WZ (Qhy 0 l) (QU op l).1 (QU op l).2).2:=by
   unfold Q8;rw[Le (by simp[c1]),Le (by omega),Le (by simp[c3])]
  rw[hc];clear hc;generalize W4 2 l=n2 at *;generalize W4 4 l=n4 at *;generalize W4 3 l=n3 at *;generalize Qhy 0 l=nn at *;generalize QU op l=ib at *;obtain⟨ib1,ib2⟩:=ib;have qi:=QcO nn ib1 ib2 hn;generalize WZ nn ib1 ib2=im at *;obtain⟨im1,im2⟩:=im;obtain⟨a0,cap,rfl,h1⟩:=hv;simp(disch:=(first | omega | (simp only[hnP];try omega))) only[Qds,ZA,Zz,Zy,Qk,simprocAttr,Wm,r1,g0,r6,r7,r8,r9]
  repeat' (first
   | (refine Qp (λh=>?_) (λh=>?_)<;>(try simp only[Lr,Lu]at h)<;>simp(disch:=(first | omega | (simp only[hnP];try omega))) only[ZA,Zz,Zy,Qk,simprocAttr,Wm,r1,g0,r6,r7,r8,r9,h])
   | (refine Qf (λh=>?_) (λh=>?_)<;>(try simp only[Lr,Lu]at h)<;>simp(disch:=(first | omega | (simp only[hnP];try omega))) only[ZA,Zz,Zy,Qk,simprocAttr,Wm,r1,g0,r6,r7,r8,r9,h])
   | (refine(qb _ hx).thenW ?_;rintro _ _ hn hw2 ⟨rfl,k,rfl⟩;have hx:=hx.up (show _<=k from hn);simp(disch:=(first | omega | (simp only[hnP];try omega))) only[ZA,Zz,Zy,Qk,simprocAttr,Wm,r1,g0,r6,r7,r8,r9])
   | (refine(qi _).thenW ?_;rintro _ _ hn hw2 ⟨rfl,rfl⟩;simp(disch:=(first | omega | (simp only[hnP];try omega))) only[ZA,Zz,Zy,Qk,simprocAttr,Wm,r1,g0,r6,r7,r8,r9])
   | fail)
  all_goals refine .ext hw hx ⟨?_,_,rfl⟩
  all_goals simp_all
 have hS:∃a0 cap,v=.slice a0 l.length cap:=Qu hv;obtain⟨a0,cap,hvs⟩:=hS;have hAt:∀ (i:Nat) (a:Ar) (H':Qa),Ext H H'->l[i]? = some a->∃b e ro,a0=some ⟨b,0,none⟩∧H'.get b=some (.cells (Qi l) e ro)∧b<H.next∧List.take 11 (List.drop (i * 11) (Qi l))=a.cells∧i * 11+11<=(Qi l).length:=by
  intro i a H' hx hi;have hil:i<l.length:=(Lk.1 hi).1;obtain⟨a1,cap1,e1,h1⟩:=hv;rw[hvs]at e1;cases e1;obtain⟨b,e,ro,rfl,hb⟩:=h1 (by omega);exact⟨b,e,ro,rfl,by rw[hx.get b (hw.lt hb)];exact hb,hw.lt hb,WI l i a hi,by rw[QJ];omega⟩
 have P9:∀A H',icF H op v A H'->Y5 op=true->l.length<=4->Qdk l=0->Qm prog Qdt ⟨Rt prog ZG H λu H'=>u=.int .i64 (Q8 op l)∧∃k,H'=H.up k,WJ⟩ (Rt prog ZG H λu H'=>u=.int .i64 (Q8 op l)∧∃k,H'=H.up k) A H':=by
  rintro A H' ⟨hx,r1,g0,hb0⟩ c1 c2 c3;simp(disch:=(first | omega | (simp only[hnP];try omega))) only[Qdt,Qk,simprocAttr,r1,g0,hvs]
  refine Qo (λm A' H'=>∃i:Nat,i<=l.length∧m=l.length - i∧icF H op v A' H'∧A' 6=.int .i64 (W4 2 (l.take i))∧A' 7=.int .i64 (W4 4 (l.take i))∧A' 8=.int .i64 (W4 3 (l.take i))∧A' 9=.int .i64 (Qhy 0 (l.take i))∧A' 38=.slice a0 l.length cap∧A' 39=.int .i64 l.length∧A' 40=.int .i64 i) l.length ?_ ?_
  ·refine⟨0,L7 _,by omega,⟨hx,?_,?_,hb0⟩,?_,?_,?_,?_,?_,?_,?_⟩
   all_goals (try simp only[Qg,simprocAttr,r1,g0,hvs])
   all_goals (first | rfl | simp[W4,Qhy])
  ·rintro m A' H' ⟨i,hi,rfl,⟨hx,r1,g0,hb0⟩,r6,r7,r8,r9,r38,r39,r40⟩;simp(disch:=(first | omega | (simp only[hnP];try omega))) only[QiE,Qk,simprocAttr,r1,g0,r38,r39,r40]
   refine Qf (λh2=>?_) (λh2=>?_)
   ·have h2:i<l.length:=by have:=Lg h2;omega
    obtain⟨a,ha⟩:∃a,l[i]? = some a:=⟨_,La h2⟩;obtain⟨b,e,ro,rfl,hgb,hbn,htk,hle⟩:=hAt i a H' hx ha;have hxn:=hx.next;have d1:(0:Int)<=i∧(i:Int)<l.length:=by omega
    have d3:(i:Int).toNat=i:=by omega
    have ei:IntKind.i64.wrap ((i:Int)+1)=((i+1:Nat):Int):=by rw[w64 (by unfold I64;omega)];omega
    have b2:=Qir 2 (l.take i);have b3:=Qir 3 (l.take i);have b4:=Qir 4 (l.take i);have hlt:(l.take i).length<=1000:=by rw[Sb];omega
    have e2:IntKind.i64.wrap (W4 2 (l.take i)+1)=W4 2 (l.take i)+1:=w64 (by unfold I64;omega);have e3:IntKind.i64.wrap (W4 3 (l.take i)+1)=W4 3 (l.take i)+1:=w64 (by unfold I64;omega);have e4:IntKind.i64.wrap (W4 4 (l.take i)+1)=W4 4 (l.take i)+1:=w64 (by unfold I64;omega);have s2:=Qhz 2 (l.take i) a;have s3:=Qhz 3 (l.take i) a;have s4:=Qhz 4 (l.take i) a;have sn:=QuF (l.take i) 0 a;rw[<- QpR l i a ha]at s2 s3 s4 sn;obtain⟨k,r,mm,n⟩:=a;simp only[Ar.cells]at htk;simp(disch:=(first | omega | (simp only[hnP];try omega))) only[QiD,QiC,QiB,Qk,simprocAttr,r1,g0,r6,r7,r8,r9,r38,r39,r40,d1,d3,hgb,htk,hle,ei,e2,e3,e4]
    repeat' (first
     | (refine Qf (λh=>?_) (λh=>?_)<;>simp(disch:=(first | omega | (simp only[hnP];try omega))) only[Qk,simprocAttr,r6,r7,r8,r9,r38,r39,r40,ei,e2,e3,e4])
     | fail)
    all_goals refine⟨l.length - (i+1),by omega,i+1,by omega,rfl,⟨(hx.push _).set (by omega) _,?_,?_,?_⟩,?_,?_,?_,?_,?_,?_,?_⟩
    all_goals (first
     | (simp only[Qg,simprocAttr,r1,r38,r39];done)
     | (simp(disch:=(first | omega | (simp only[hnP];try omega))) only[Qr8,simprocAttr,g0];done)
     | (simp only[Qt,Qc];omega)
     | (simp only[Qg,simprocAttr,s2,s3,s4,sn,r6,r7,r8,r9];simp_all;done)
     | (simp only[Qg,simprocAttr,s2,s3,s4,sn,r6,r7,r8,r9];simp_all<;>omega))
   ·have h2:i=l.length:=by have:=Ll h2;omega
    subst h2;rw[Nr]at r6 r7 r8 r9;simp(disch:=(first | omega | (simp only[hnP];try omega))) only[Qk,simprocAttr]
    refine P4 _ _ ⟨hx,?_,g0,hb0⟩ c1 c2 c3 ?_ ?_ ?_ ?_
    all_goals simp only[Qg,simprocAttr,r1,r6,r7,r8,r9]
 have P12:∀A H',icF H op v A H'->A 2=.int .i64 0->Y5 op=true->l.length<=4->Qm prog Qcx ⟨Rt prog ZG H λu H'=>u=.int .i64 (Q8 op l)∧∃k,H'=H.up k,WJ⟩ (Rt prog ZG H λu H'=>u=.int .i64 (Q8 op l)∧∃k,H'=H.up k) A H':=by
  rintro A H' ⟨hx,r1,g0,hb0⟩ r2 c1 c2;simp(disch:=(first | omega | (simp only[hnP];try omega))) only[Qcx,Qk,simprocAttr,r1,g0,hvs]
  refine Qo (λm A' H'=>∃i:Nat,i<=l.length∧m=l.length - i∧icF H op v A' H'∧Qdk l=Qdk (l.drop i)∧A' 25=.slice a0 l.length cap∧A' 26=.int .i64 l.length∧A' 27=.int .i64 i) l.length ?_ ?_
  ·refine⟨0,L7 _,by omega,⟨hx,?_,?_,hb0⟩,?_,?_,?_,?_⟩
   all_goals (try simp only[Qg,simprocAttr,r1,g0,hvs])
   all_goals (first | rfl | simp)
  ·rintro m A' H' ⟨i,hi,rfl,⟨hx,r1,g0,hb0⟩,he,r25,r26,r27⟩;simp(disch:=(first | omega | (simp only[hnP];try omega))) only[QgF,Qk,simprocAttr,r1,g0,r25,r26,r27]
   refine Qf (λh2=>?_) (λh2=>?_)
   ·have h2:i<l.length:=by have:=Lg h2;omega
    obtain⟨a,ha⟩:∃a,l[i]? = some a:=⟨_,La h2⟩;obtain⟨b,e,ro,rfl,hgb,hbn,htk,hle⟩:=hAt i a H' hx ha;have hxn:=hx.next;have d1:(0:Int)<=i∧(i:Int)<l.length:=by omega
    have d3:(i:Int).toNat=i:=by omega
    have ei:IntKind.i64.wrap ((i:Int)+1)=((i+1:Nat):Int):=by rw[w64 (by unfold I64;omega)];omega
    have q1:=VK a;have he2:=QpQ l i a ha;obtain⟨k,r,mm,n⟩:=a;simp only[Ar.cells]at htk q1;simp(disch:=(first | omega | (simp only[hnP];try omega))) only[QgE,Qk,simprocAttr,r1,g0,r25,r26,r27,d1,d3,hgb,htk,hle,ei]
    refine(q1 _).thenW ?_;rintro _ _ hn hw2 ⟨rfl,kk,rfl⟩;have hn2:H'.next+1<=kk:=hn;simp(disch:=(first | omega | (simp only[hnP];try omega))) only[Qk,simprocAttr,r1,g0,r2,r25,r26,r27,ei,Wm]
    refine Qf (λh=>?_) (λh=>?_)
    ·simp(disch:=(first | omega | (simp only[hnP];try omega))) only[Qk,simprocAttr,r1,g0,r2,r25,r26,r27,ei,Wm]
     refine .ext hw (((hx.push _).set (by omega) _).up (show _<=kk from hn)) ⟨?_,_,rfl⟩;unfold Q8;simp only[bne,Lr]at h;rw[Le (by simp[c1]),Le (by omega),he,he2,h];simp[h]
    ·simp(disch:=(first | omega | (simp only[hnP];try omega))) only[Qk,simprocAttr,r1,g0,r2,r25,r26,r27,ei,Wm]
     refine⟨l.length - (i+1),by omega,i+1,by omega,rfl,⟨((hx.push _).set (by omega) _).up (show _<=kk from hn),?_,?_,?_⟩,?_,?_,?_,?_⟩
     ·simp only[Qg,simprocAttr,r1]
     ·simp(disch:=(first | omega | (simp only[hnP];try omega))) only[Qr8,simprocAttr,g0]
     ·show H.next<kk;omega
     ·simp only[bne,Lu]at h;rw[he,he2,h];rfl
     all_goals simp only[Qg,simprocAttr,r25,r26]
   ·have h2:i=l.length:=by have:=Ll h2;omega
    subst h2;simp(disch:=(first | omega | (simp only[hnP];try omega))) only[Qk,simprocAttr]
    refine P9 _ _ ⟨hx,?_,g0,hb0⟩ c1 c2 ?_
    ·simp only[Qg,simprocAttr,r1]
    ·rw[he,BU];rfl
 have qv:=Qib op;have hz:Q8 op l=if Y5 op=false then 6 else if l.length>4 then 3 else Q8 op l:=by
  split
  ·rename_i h;unfold Q8;rw[Lc h]
  ·rename_i h;split
   ·rename_i h2;unfold Q8;rw[Le h,Lc h2]
   ·rfl
 have hx0:=(Ext.refl H).push (.cells [.int .i64 op,v] 24 false);have hx1:=(Ext.refl H).push (.cells [.int .i64 op,.slice a0 l.length cap] 24 false);simp(disch:=(first | omega | (simp only[hnP];try omega))) only[Ql2,Qk,simprocAttr,Wm]
 refine(qv _).thenW ?_;rintro _ _ hn hw2 ⟨rfl,rfl⟩;simp(disch:=(first | omega | (simp only[hnP];try omega))) only[Qk,simprocAttr,Wm]
 refine Qf (λh1=>?_) (λh1=>?_)
 ·simp only[Lr]at h1;simp(disch:=(first | omega | (simp only[hnP];try omega))) only[Qk,simprocAttr,Wm]
  refine .ext hw hx0 ⟨?_,_,rfl⟩;rw[hz,Lc h1]
 ·simp only[Lu]at h1;simp(disch:=(first | omega | (simp only[hnP];try omega))) only[QgG,Qk,simprocAttr,hvs,Wm]
  refine Qf (λh2=>?_) (λh2=>?_)
  ·have h2:4<l.length:=by have:=Lg h2;omega
   simp(disch:=(first | omega | (simp only[hnP];try omega))) only[Qk,simprocAttr,Wm]
   refine .ext hw hx1 ⟨?_,_,rfl⟩;rw[hz,Le (by simp[h1]),Lc h2]
  ·have h2:l.length<=4:=by have:=Ll h2;omega
   simp(disch:=(first | omega | (simp only[hnP];try omega))) only[Qk,simprocAttr]
   refine P12 _ _ ⟨hx1,?_,?_,?_⟩ ?_ h1 h2
   ·simp only[Qg,simprocAttr]
   ·simp(disch:=(first | omega | (simp only[hnP];try omega))) only[Qr8,simprocAttr,hvs]
   ·simp only[Qc];omega
   ·simp only[Qg,simprocAttr]
def QbJ (f s:Int):List Ar->Bool
 | [x,y]=>(x.k==f)&&(y.k==s)
 | _=>false
def QdF:List Ar->Bool
 | [x,y]=>((x.k==1)&&(y.k==1))&&(x.r.c==y.r.c)
 | _=>false
theorem Qlx (x y:Ar):Qi [x,y]=x.cells++y.cells:=by simp[Qi]
theorem QcJ (d:Nat)(op:Int)(v:Value)(l:List Ar)(f s:Int)(H:Qa)(ro:Bool)(hd:H.get d=some (.cells [.int .i64 op,v] 97 ro))(hv:Qv H v l)(hl:l.length<=1000):
  Qe prog 109 [.pointer (some ⟨d,0,none⟩),.int .i64 f,.int .i64 s] H λu H'=>u=.bool (QbJ f s l)∧H'=H:=by
 refine QnZ λhw=>?_;have hdn:=hw.lt hd;have hb:∀x y,l=[x,y]->∃b e ro cap,v=.slice (some ⟨b,0,none⟩) 2 cap∧H.get b=some (.cells (x.cells++y.cells) e ro):=by
  rintro x y rfl;obtain⟨a0,cap,rfl,h1⟩:=hv;obtain⟨b,e,ro,rfl,hb⟩:=h1 (by simp);exact⟨b,e,ro,cap,rfl,by rw[<- Qlx];exact hb⟩
 by_cases h:∃x y,l=[x,y]
 ·obtain⟨x,y,rfl⟩:=h;obtain⟨b,e,ro2,cap,rfl,hg⟩:=hb x y rfl;obtain⟨k,r,m,n⟩:=x;obtain⟨k',r',m',n'⟩:=y;simp only[Ar.cells,Nm,LH]at hg;have d0:((0:Int)<=0∧(0:Int)<((2:Nat):Int)):=by omega
  have d1:((0:Int)<=1∧(1:Int)<((2:Nat):Int)):=by omega
  have t0:(0:Int).toNat=0:=rfl;have t1:(1:Int).toNat=1:=rfl;have e2:(((2:Nat):Int)==2)=true:=rfl;simp(disch:=(first | omega | (simp only[hnP];try omega))) only[QaQ,Qk,simprocAttr,hd,hg,d0,d1,t0,t1,e2,VP]
  repeat' (first
   | (refine Qp (λh=>?_) (λh=>?_)<;>simp(disch:=(first | omega | (simp only[hnP];try omega))) only[Qk,simprocAttr,hd,hg,d0,d1,t0,t1,e2,VP,h])
   | fail)
  all_goals refine .mk (Lb _) ⟨?_,rfl⟩
  all_goals simp_all [QbJ]
 ·have h2:QbJ f s l=false:=by
   match l,h with
   | [],_=>rfl
   | [_],_=>rfl
   | [x,y],h=>exact absurd ⟨x,y,rfl⟩ h
   | _::_::_::_,_=>rfl
  have h3:((l.length:Int)==2)=false:=by
   have:l.length≠2:=λh4=>h (by
    match l,h4 with
    | [x,y],_=>exact⟨x,y,rfl⟩)
   simp only[LC,Da];omega
  obtain⟨a0,cap,rfl,h1⟩:=hv;rw[h2];simp(disch:=(first | omega | (simp only[hnP];try omega))) only[QaQ,Qk,simprocAttr,hd,h3,VP]
  refine .mk (Lb _) ⟨rfl,rfl⟩
theorem Qe0 (d:Nat)(op:Int)(v:Value)(l:List Ar)(H:Qa)(ro:Bool)(hd:H.get d=some (.cells [.int .i64 op,v] 97 ro))(hv:Qv H v l)(hl:l.length<=1000):
  Qe prog 71 [.pointer (some ⟨d,0,none⟩)] H λu H'=>u=.bool (QdF l)∧H'=H:=by
 refine QlC λhw=>?_;have hdn:=hw.lt hd;have q:=QcJ d op v l 1 1 H ro hd hv hl
 by_cases h:∃x y,l=[x,y]
 ·obtain⟨x,y,rfl⟩:=h;obtain⟨a0,cap,rfl,h1⟩:=hv;obtain⟨b,e,ro2,rfl,hg⟩:=h1 (by simp);rw[Qlx]at hg;obtain⟨k,r,m,n⟩:=x;obtain⟨k',r',m',n'⟩:=y;simp only[Ar.cells,Nm,LH,Lo,L9]at hg hd q ⊢;have d0:((0:Int)<=0∧(0:Int)<((0+1+1:Nat):Int)):=by omega
  have d1:((0:Int)<=1∧(1:Int)<((0+1+1:Nat):Int)):=by omega
  have t0:(0:Int).toNat=0:=rfl;have t1:(1:Int).toNat=1:=rfl;simp(disch:=(first | omega | (simp only[hnP];try omega))) only[GL,Qk,simprocAttr,Xr]
  refine q.thenW ?_;rintro _ _ hn hw2 ⟨rfl,rfl⟩;simp(disch:=(first | omega | (simp only[hnP];try omega))) only[Qk,simprocAttr,Xr]
  refine Qp (λh=>?_) (λh=>?_)
  ·simp(disch:=(first | omega | (simp only[hnP];try omega))) only[Qk,simprocAttr,hd,hg,d0,d1,t0,t1,Xr,h]
   refine .mk (Lb _) ⟨?_,rfl⟩;simp_all [QbJ,QdF]
  ·simp(disch:=(first | omega | (simp only[hnP];try omega))) only[Qk,simprocAttr,hd,hg,d0,d1,t0,t1,Xr,h]
   refine .mk (Lb _) ⟨?_,rfl⟩;simp_all [QbJ,QdF]
 ·have h2:QbJ 1 1 l=false∧QdF l=false:=by
   match l,h with
   | [],_=>exact⟨rfl,rfl⟩
   | [_],_=>exact⟨rfl,rfl⟩
   | [x,y],h=>exact absurd ⟨x,y,rfl⟩ h
   | _::_::_::_,_=>exact⟨rfl,rfl⟩
  rw[h2.1]at q;rw[h2.2];simp(disch:=(first | omega | (simp only[hnP];try omega))) only[GL,Qk,simprocAttr,Xr]
  refine q.thenW ?_;rintro _ _ hn hw2 ⟨rfl,rfl⟩;simp(disch:=(first | omega | (simp only[hnP];try omega))) only[Qk,simprocAttr,Xr]
  refine .mk (Lb _) ⟨rfl,rfl⟩
theorem QbK (d b cap:Nat)(op:Int)(x y:Ar)(H:Qa)(ro:Bool)(e:TypeId)(hd:H.get d=some (.cells [.int .i64 op,.slice (some ⟨b,0,none⟩) 2 cap] 97 ro))(hb:H.get b=some (.cells (Qi [x,y]) e false)):
  Qe prog 72 [.pointer (some ⟨d,0,none⟩)] H λu H'=>u=.tuple #[]∧H'=(H.set b (.cells (Qi [y,y]) e false)).set b (.cells (Qi [y,x]) e false):=by
 refine QmJ λhw=>?_;have hdn:=hw.lt hd;have hbn:=hw.lt hb;have d0:((0:Int)<=0∧(0:Int)<((2:Nat):Int)):=by omega
 have d1:((0:Int)<=1∧(1:Int)<((2:Nat):Int)):=by omega
 have t0:(0:Int).toNat=0:=rfl;have t1:(1:Int).toNat=1:=rfl;rw[Qlx]at hb;obtain⟨k,r,m,n⟩:=x;obtain⟨k',r',m',n'⟩:=y;simp only[Qlx,Ar.cells,Nm,LH]at hb ⊢;simp(disch:=(first | omega | (simp only[hnP];try omega))) only[Qet,Qk,simprocAttr,hd,hb,d0,d1,t0,t1,QlD]
 refine .mk (by simp only[Qt];exact Lb _) ⟨rfl,rfl⟩
variable {P:Program} {A:Env} {H:Qa} {k:Value->Qa->Prop}
theorem QDT {t t' e:TypeId}{x:Operand}{a:Option Addr}{n c:Nat}(h1:P.underlying t=some (.slice e))(hx:ev A x=.slice a n c):
  pr P (.gen (.binOp .eql t x (.const (.slice none 0 0)) t')) false A H k=k (.bool a.isNone) H:=by
 have hc:ev A (.const (.slice none 0 0))=.slice none 0 0:=rfl;have e:rop P (.gen (.binOp .eql t x (.const (.slice none 0 0)) t')) A H=some (.bool a.isNone,H):=by
  cases a<;>simp[rop,aop,Qfe,Qu2,Qqc,Ji,hx,hc,h1,aeq,QjW,Qcs,JF,Qmw,Qu0]
 rw[QHb];unfold QIq;rw[e,QM]
theorem Qnk:∀l:List Ar,(Qi l).all (·.oneCell')=true
 | []=>rfl
 | a::l=>by
  rw[Qac,Fo,Qnk l];rfl
theorem QAU (v:Value)(l:List Ar)(H:Qa)(hv:Qv H v l)(hl:l.length<=1000):Qe prog 66 [v] H λu H'=>
  Ext H H'∧((l=[]∧(u=.slice none 0 0∨u=.slice (some ⟨H.next,0,none⟩) 0 0∧H'=H.push (.cells [] 58 false)))∨(l≠[]∧u=.slice (some ⟨H.next+1,0,none⟩) l.length (UNK+11)∧H'=(H.push (.cells [] 58 false)).push (.cells (Qi l) 58 false))):=by
 refine QbN λhw=>?_;obtain⟨a0,cap,rfl,h1⟩:=hv;have hx1:=(Ext.refl H).push (.cells [] 58 false);simp(disch:=(first | omega | (simp only[hnP];try omega))) only[Ja,Qk,simprocAttr]
 rw[QDT (a:=a0) (e:=58) (n:=l.length) (c:=cap) (by kernel_rfl) (by simp only[KG,simprocAttr])];cases l with
 | nil=>
  cases a0 with
  | none=>
   simp(disch:=(first | omega | (simp only[hnP];try omega))) only[Qb,simprocAttr,Qr8,simprocAttr,Option.isNone,XL]
   exact .mk (Lb _) ⟨.refl _,.inl (.inl rfl)⟩
  | some x=>
   have hr:∀H1:Qa,ZF 58 11 88 (.slice (some ⟨H.next,0,none⟩) 0 0) (.slice (some x) 0 cap) H1=some (.slice (some ⟨H.next,0,none⟩) 0 0,H1):=λH1=>by simp[ZF,J4]
   simp(disch:=(first | omega | (simp only[hnP];try omega))) only[Qb,simprocAttr,Qr8,simprocAttr,Option.isNone,L9]
   unfold Qdr;rw[hr,QM];simp(disch:=(first | omega | (simp only[hnP];try omega))) only[Qb,simprocAttr,Qr8,simprocAttr,XL]
   exact .mk hx1.next ⟨hx1,.inl (.inr ⟨rfl,rfl⟩)⟩
 | cons a l=>
  obtain⟨b,e,ro,rfl,hb⟩:=h1 (by simp);have hbn:=hw.lt hb;have hlen:=QJ (a::l);have hn:J4 11 (.slice (some ⟨b,0,none⟩) (l.length+1) cap) (H.push (.cells [] 58 false))=some (l.length+1,Qi (a::l)):=by
   rw[JI (c:=Qi (a::l)) (e:=e) (ro:=ro) (by rw[Qqv (by omega)];exact hb) (by omega) (by rw[hlen,Lo];omega),Lw,LF (by rw[hlen,Lo];exact Lb _)]
  rw[Lo]at hl;simp(disch:=(first | omega | (simp only[hnP];try omega))) only[Qb,simprocAttr,Qr8,simprocAttr,Option.isNone]
  refine Qlo (c:=[]) (ro:=false) (e':=58) hn (Qnk _) (by omega) (Qqu rfl) (by simp) (by omega) (by omega) (by decide) (by omega) ?_;simp(disch:=(first | omega | (simp only[hnP];try omega))) only[Qb,simprocAttr,Qr8,simprocAttr,XL]
  refine .mk (hx1.push _).next ⟨hx1.push _,?_⟩;simp
def QsZ (op:Int)(l:List Ar):Bool:=(op==16)&&QbJ 1 3 l
def Qt0 (op:Int)(l:List Ar):Bool:=(op==10||op==11)&&QbJ 1 2 l
def Qrf (op:Int):List Ar->Bool
 | [x,y]=>(op==11)&&QdF [x,y]&&!(decide (x.r.n<=y.r.n))
 | _=>false
theorem QhB {f s:Int}{l:List Ar}(h:QbJ f s l=true):∃x y,l=[x,y]:=by
 match l,h with
 | [x,y],_=>exact⟨x,y,rfl⟩
theorem QDU (d:Nat)(op:Int)(v:Value)(l:List Ar)(H:Qa)(hd:H.get d=some (.cells [.int .i64 op,v] 97 false))(hv:Qv H v l)(hl:l.length<=1000)(hw1:∀x y,l=[x,y]->∃b cap,v=.slice (some ⟨b,0,none⟩) 2 cap∧H.get b=some (.cells (Qi l) 58 false)):
    Qe prog 69 [.pointer (some ⟨d,0,none⟩)] H λu H'=>u=.bool (Qt0 op l)∧(Qt0 op l=false->H'=H)∧(Qt0 op l=true->∃x y b cap,l=[x,y]∧v=.slice (some ⟨b,0,none⟩) 2 cap∧H'=(H.set b (.cells (Qi [y,y]) 58 false)).set b (.cells (Qi [y,x]) 58 false)):=by
  refine Qj9 λhw=>?_;have hdn:=hw.lt hd;have q:=QcJ d op v l 1 2 H false hd hv hl;have qt:=λb cap x y e=>QbK d b cap op x y H false e;have hc:Qt0 op l=((op==10||op==11)&&QbJ 1 2 l):=rfl;rw[hc];have ht:=@QhB 1 2 l;generalize QbJ 1 2 l=r at *;simp(disch:=(first | omega | (simp only[hnP];try omega))) only[QcZ,Qk,simprocAttr,hd,Ye]
  repeat' (first
    | (refine Qp (λh=>?_) (λh=>?_)<;>(try simp only[bne,Lr,Lu]at h)<;>simp(disch:=(first | omega | (simp only[hnP];try omega))) only[Qk,simprocAttr,hd,Ye,h])
    | (refine Qf (λh=>?_) (λh=>?_)<;>(try simp only[bne,Lr,Lu]at h)<;>simp(disch:=(first | omega | (simp only[hnP];try omega))) only[Qk,simprocAttr,hd,Ye,h])
    | (refine q.thenW ?_;rintro _ _ hn hw2 ⟨rfl,rfl⟩;simp(disch:=(first | omega | (simp only[hnP];try omega))) only[Qk,simprocAttr,hd,Ye])
    | fail)
  all_goals (first
    | (refine .mk (Lb _) ⟨by simp,λ_=>rfl,by simp⟩)
    | (obtain⟨x,y,hxy⟩:=ht (by assumption)
       obtain⟨b,cap,hvb,hb⟩:=hw1 x y hxy;subst hxy hvb;refine(qt b cap x y _ hd hb).thenW ?_;rintro _ _ hn hw2 ⟨rfl,rfl⟩;simp(disch:=(first | omega | (simp only[hnP];try omega))) only[Qk,simprocAttr,Ye]
       refine .mk (by simp only[Qt];exact Lb _) ⟨by simp_all,by simp_all,λ_=>⟨x,y,b,cap,rfl,rfl,rfl⟩⟩))
theorem QCj (d:Nat)(op:Int)(v:Value)(l:List Ar)(H:Qa)(hd:H.get d=some (.cells [.int .i64 op,v] 97 false))(hv:Qv H v l)(hl:l.length<=1000)(hw1:∀x y,l=[x,y]->∃b cap,v=.slice (some ⟨b,0,none⟩) 2 cap∧H.get b=some (.cells (Qi l) 58 false)):
    Qe prog 68 [.pointer (some ⟨d,0,none⟩)] H λu H'=>u=.bool (QsZ op l)∧(QsZ op l=false->H'=H)∧(QsZ op l=true->∃x y,l=[x,y]∧H'=(H.push (.cells (Qi [x,x,y]) 58 false)).set d (.cells [.int .i64 op,.slice (some ⟨H.next,0,none⟩) 3 3] 97 false)):=by
  refine Qjo λhw=>?_;have hdn:=hw.lt hd;have q:=QcJ d op v l 1 3 H false hd hv hl;have hc:QsZ op l=((op==16)&&QbJ 1 3 l):=rfl;rw[hc];have ht:=@QhB 1 3 l;have hdz:¬d=H.next:=by omega
  generalize QbJ 1 3 l=r at *;simp(disch:=(first | omega | (simp only[hnP];try omega))) only[QbW,Qk,simprocAttr,hd,WW]
  repeat' (first
    | (refine Qp (λh=>?_) (λh=>?_)<;>(try simp only[bne,Lr,Lu]at h)<;>simp(disch:=(first | omega | (simp only[hnP];try omega))) only[Qk,simprocAttr,hd,WW,h])
    | (refine Qf (λh=>?_) (λh=>?_)<;>(try simp only[bne,Lr,Lu]at h)<;>simp(disch:=(first | omega | (simp only[hnP];try omega))) only[Qk,simprocAttr,hd,WW,h])
    | (refine q.thenW ?_;rintro _ _ hn hw2 ⟨rfl,rfl⟩;simp(disch:=(first | omega | (simp only[hnP];try omega))) only[Qk,simprocAttr,hd,WW])
    | fail)
  all_goals (first
    | (refine .mk (Lb _) ⟨by simp,λ_=>rfl,by simp⟩)
    | (obtain⟨x,y,hxy⟩:=ht (by assumption)
       obtain⟨b,cap,hvb,hb⟩:=hw1 x y hxy;subst hxy hvb;obtain⟨k,r,m,n⟩:=x;obtain⟨k',r',m',n'⟩:=y;have hbn:=hw.lt hb;have d0:((0:Int)<=0∧(0:Int)<((2:Nat):Int)):=by omega
       have d1:((0:Int)<=1∧(1:Int)<((2:Nat):Int)):=by omega
       have t0:(0:Int).toNat=0:=rfl;have t1:(1:Int).toNat=1:=rfl;simp only[Qlx,Ar.cells,Nm,LH]at hb;simp(disch:=(first | omega | (simp only[hnP];try omega))) only[sxA,sxB,Nat.reduceBEq,Nat.reduceEqDiff,reduceCtorEq,mxA,mxB,Nat.reduceAdd,reduceIte,Nat.reduceLeDiff,splice,mxD,mxB,Nat.reduceAdd,reduceIte,Nat.reduceLeDiff,splice,hd,hb,d0,d1,t0,t1,WW]
       rw[Lc (by decide)];simp(disch:=(first | omega | (simp only[hnP];try omega))) only[Qb,simprocAttr,Qr8,simprocAttr,hd,hb,hdz,LN,d0,d1,t0,t1,WW]
       refine .mk (by simp only[Qt,Qc];omega) ⟨rfl,λh=>h.elim,λ_=>⟨_,_,rfl,rfl⟩⟩))
theorem QDV (d:Nat)(op:Int)(v:Value)(l:List Ar)(H:Qa)(hd:H.get d=some (.cells [.int .i64 op,v] 97 false))(hv:Qv H v l)(hl:l.length<=1000)(hw1:∀x y,l=[x,y]->∃b cap,v=.slice (some ⟨b,0,none⟩) 2 cap∧H.get b=some (.cells (Qi l) 58 false)):
  Qe prog 70 [.pointer (some ⟨d,0,none⟩)] H λu H'=>u=.bool (Qrf op l)∧(Qrf op l=false->H'=H)∧(Qrf op l=true->∃x y b cap,l=[x,y]∧v=.slice (some ⟨b,0,none⟩) 2 cap∧H'=(H.set b (.cells (Qi [y,y]) 58 false)).set b (.cells (Qi [y,x]) 58 false)):=by
 refine Qka λhw=>?_;have hdn:=hw.lt hd;have q:=Qe0 d op v l H false hd hv hl
 by_cases h2:∃x y,l=[x,y]
 ·obtain⟨x,y,hxy⟩:=h2;obtain⟨b,cap,hvb,hb⟩:=hw1 x y hxy;subst hxy hvb;have qt:=QbK d b cap op x y H false 58 hd hb;have hbn:=hw.lt hb;have hc:Qrf op [x,y]=((op==11)&&QdF [x,y]&&!(decide (x.r.n<=y.r.n))):=rfl;rw[hc];have hb2:H.get b=some (.cells (x.cells++y.cells) 58 false):=by rw[<- Qlx];exact hb
  have d0:((0:Int)<=0∧(0:Int)<((2:Nat):Int)):=by omega
  have d1:((0:Int)<=1∧(1:Int)<((2:Nat):Int)):=by omega
  have t0:(0:Int).toNat=0:=rfl;have t1:(1:Int).toNat=1:=rfl;obtain⟨k,r,m,n⟩:=x;obtain⟨k',r',m',n'⟩:=y;simp only[Ar.cells,Nm,LH]at hb2;generalize QdF _=al at *;simp(disch:=(first | omega | (simp only[hnP];try omega))) only[KO,Qk,simprocAttr,hd,hb2,d0,d1,t0,t1,Q9]
  repeat' (first
   | (refine Qp (λh=>?_) (λh=>?_)<;>(try simp only[bne,Lr,Lu]at h)<;>simp(disch:=(first | omega | (simp only[hnP];try omega))) only[Qk,simprocAttr,hd,hb2,d0,d1,t0,t1,Q9,h])
   | (refine Qf (λh=>?_) (λh=>?_)<;>(try simp only[bne,Lr,Lu]at h)<;>simp(disch:=(first | omega | (simp only[hnP];try omega))) only[Qk,simprocAttr,hd,hb2,d0,d1,t0,t1,Q9,h])
   | (refine q.thenW ?_;rintro _ _ hn hw2 ⟨rfl,rfl⟩;simp(disch:=(first | omega | (simp only[hnP];try omega))) only[Qk,simprocAttr,hd,hb2,d0,d1,t0,t1,Q9])
   | (refine qt.thenW ?_;rintro _ _ hn hw2 ⟨rfl,rfl⟩;simp(disch:=(first | omega | (simp only[hnP];try omega))) only[Qk,simprocAttr,Q9])
   | fail)
  all_goals (first
   | (refine .mk (Lb _) ⟨by simp,λ_=>rfl,by simp⟩)
   | (refine .mk (by simp only[Qt];exact Lb _) ⟨rfl,λh=>h.elim,λ_=>⟨_,_,b,cap,rfl,rfl,rfl⟩⟩))
 ·have h3:QdF l=false∧Qrf op l=false:=by
   match l,h2 with
   | [],_=>exact⟨rfl,rfl⟩
   | [_],_=>exact⟨rfl,rfl⟩
   | [x,y],h=>exact absurd ⟨x,y,rfl⟩ h
   | _::_::_::_,_=>exact⟨rfl,rfl⟩
  rw[h3.1]at q;rw[h3.2];simp(disch:=(first | omega | (simp only[hnP];try omega))) only[KO,Qk,simprocAttr,hd,Q9]
  repeat' (first
   | (refine Qp (λh=>?_) (λh=>?_)<;>(try simp only[bne,Lr,Lu]at h)<;>simp(disch:=(first | omega | (simp only[hnP];try omega))) only[Qk,simprocAttr,hd,Q9,h])
   | (refine Qf (λh=>?_) (λh=>?_)<;>(try simp only[bne,Lr,Lu]at h)<;>simp(disch:=(first | omega | (simp only[hnP];try omega))) only[Qk,simprocAttr,hd,Q9,h])
   | (refine q.thenW ?_;rintro _ _ hn hw2 ⟨rfl,rfl⟩;simp(disch:=(first | omega | (simp only[hnP];try omega))) only[Qk,simprocAttr,hd,Q9])
   | fail)
  all_goals exact .mk (Lb _) ⟨rfl,λ_=>rfl,by simp⟩
def VT (ib:Int×Bool)(a:Ar):Ar×Int:=
 let b:=Wu a
 if(b.2==0)=false then(a,b.2)
 else if(b.1.k==3)=true then(let im:=WZ b.1.n ib.1 ib.2;({b.1 with n:=im.1},im.2))
 else(b.1,0)
def XE (ib:Int×Bool):List Ar->List Ar×Int
 | []=>([],0)
 | a::l=>if((VT ib a).2==0)=true then((VT ib a).1::(XE ib l).1,(XE ib l).2) else([],(VT ib a).2)
def ZR (op:Int)(l:List Ar):List Ar:=
 if QsZ op l=true then(match l with | [x,y]=>[x,x,y] | l=>l)
 else if Qt0 op l=true then l.reverse
 else if Qrf op l=true then l.reverse
 else l
def Wa (op:Int)(l:List Ar):Int×List Ar×Int:=
 if(Q8 op l==0)=false then(0,[],Q8 op l)
 else if((XE (QU op l) l).2==0)=false then(0,[],(XE (QU op l) l).2)
 else(op,ZR op (XE (QU op l) l).1,0)
theorem Qo2 (ib:Int×Bool):∀ (l:List Ar) (i:Nat) (a:Ar),l[i]? = some a->XE ib (l.drop i)=if((VT ib a).2==0)=true then((VT ib a).1::(XE ib (l.drop (i+1))).1,(XE ib (l.drop (i+1))).2) else([],(VT ib a).2)
 | [],i,a,h=>by simp at h
 | b::l,0,a,h=>by simp at h;subst h;rfl
 | b::l,i+1,a,h=>by simpa using Qo2 ib l i a (by simpa using h)
theorem QuN (a:Ar)(h:I64 a.n):I64 (Wu a).1.n:=by
 have h0:I64 0:=by unfold I64;omega
 unfold Wu QdD;split
 ·split
  ·exact h0
  ·split
   ·exact h0
   ·exact h
 ·exact h0
theorem QzL (c:List Value)(o:Nat)(l:List Value)(h:o+l.length<=c.length):(splice c o l).length=c.length:=by
 simp[splice];omega
theorem Qt1 (c:List Value)(o:Nat)(l:List Value)(h:o<=c.length)(j:Nat)(hj:j<o):(splice c o l)[j]? = c[j]? := by
 unfold splice;rw[LY (by simp;omega),Nl,Lc hj]
theorem QCk (c:List Value)(o:Nat)(v:Value)(h:o<c.length):(splice c o [v])[o]? = some v:=by
 unfold splice;rw[LR (by simp;omega)];simp[show min o c.length=o by omega]
theorem Qgg (l m:List Ar):Qi (l++m)=Qi l++Qi m:=by simp[Qi]
theorem Qt2 (d:List Ar)(a b:Ar)(l:List Ar):splice (Qi (d++a::l)) (d.length * 11) b.cells=Qi (d++b::l):=by
 have hd:=QJ d;unfold splice;rw[Qgg,Qgg,Qac,Qac,<- hd,List.take_left,WQ];have:(Qi d++(a.cells++Qi l)).drop ((Qi d).length+11)=Qi l:=by
  rw[show(Qi d).length+11=(Qi d).length+a.cells.length by rw[WQ],<- Rc,List.drop_left,List.drop_left]
 rw[this]
theorem QJ0 (f:Fn)(xs ys:Array Value):(Value.func f xs ys).cells.toList=[.func f xs ys]:=Nu rfl rfl
theorem QJ1 (f:Fn)(xs ys:Array Value):(Value.func f xs ys).oneCell'=true:=Nu rfl rfl
theorem QHH {P:Program}(f:FuncId)(l:List Value)(H:Qa)(k:Value->Qa->Prop):cvK (.func (.func f) #[] #[]) P l H k=Qe P f l H k:=by
 show Qe P f (([]:List Value)++l++[]) H k=_;rw[LH,Na]
theorem Qf2 (a:Ar):List.take 11 a.cells=a.cells:=rfl
theorem Qit (a:Ar):(a.cells.all λv=>v.oneCell')=true:=rfl
theorem Qiu {op:Int}{l:List Ar}(h:(Q8 op l==0)=true):l.length<=4:=by
 unfold Q8 at h;split at h
 ·simp at h
 ·split at h
  ·simp at h
  ·omega
def Qly (op:Int)(l:List Ar)(H:Qa)(u:Value)(H':Qa):Prop:=
 Ext H H'∧∃v',u=.tuple #[.agg #[.int .i64 (Wa op l).1,v'],.int .i64 (Wa op l).2.2]∧Qv H' v' (Wa op l).2.1∧∀a n c,v'=.slice (some a) n c->H.next<=a.block∧a.block<H'.next
theorem QvY {op:Int}{l:List Ar}{H H':Qa}(hx:Ext H H'){e:Int}(h:Wa op l=(0,[],e)):Qly op l H (.tuple #[.agg #[.int .i64 0,.slice none 0 0],.int .i64 e]) H':=by
 unfold Qly;rw[h];exact⟨hx,_,rfl,⟨none,0,rfl,λh=>absurd h (NX 0)⟩,λa n c h=>by cases h⟩
def QvZ:PC:=(.seq (.ops [⟨some 105,.mv (t 7),none,false⟩,⟨some 106,.gen (.nilCheck (t 105)),none,false⟩,⟨some 107,.fldA 0 (t 106),none,false⟩,⟨some 108,.ld false 1 (t 107),none,false⟩,⟨some 109,.mv (t 7),none,false⟩,⟨some 110,.gen (.nilCheck (t 109)),none,false⟩,⟨some 111,.fldA 1 (t 110),none,false⟩,⟨some 112,.ld false 1 (t 111),none,false⟩,⟨some 113,.build [.int .i64 0,.slice none 0 0] [(0,1,(t 108)),(1,1,(t 112))],none,false⟩,⟨none,.st 2 (t 2) (t 113),none,false⟩,⟨some 3,.mv (.const (.int .i64 0)),none,false⟩]) .ret)
section
variable (op:Int) (l:List Ar) (H:Qa)
abbrev KC:Env->Qa->Prop:=Rt prog Tryz.f46 H (Qly op l H)
theorem QDW (e:Nat->Env->Qa->Prop)(k:Env->Qa->Prop)(A:Env)(H':Qa)(D:Nat)(cv:Value)(m:List Ar)(hx:Ext H H')(hD:H.next+2<=D)
  (r2:A 2=.pointer (some ⟨H.next+1,0,none⟩)) (r7:A 7=.pointer (some ⟨D,0,none⟩)) (gR:H'.get (H.next+1)=some (.cells [.int .i64 0,.slice none 0 0] 24 false))
  (gD:H'.get D=some (.cells [.int .i64 op,cv] 97 false)) (hc:Qv H' cv m) (hf:∀a n c,cv=.slice (some a) n c->H.next+2<=a.block∧a.block<H'.next) (hm:Wa op l=(op,m,0)):
  Qm prog QvZ
   ⟨KC op l H,e⟩ k A H':=by
 obtain⟨ca,cap,rfl,h1⟩:=hc;simp only[QvZ,Qb,simprocAttr,r2,r7,gR,gD,QaO];have hx2:Ext H (H'.set (H.next+1) (.cells [.int .i64 op,.slice ca m.length cap] 24 false)):=hx.set (by omega) _;refine .mk hx2.next ⟨hx2,_,by rw[hm],?_,λa n c h=>by have:=hf a n c h;rw[Qt];omega⟩;rw[hm];refine⟨ca,cap,rfl,λhn=>?_⟩;obtain⟨b,e',ro,rfl,hb⟩:=h1 hn;have:=hf _ _ _ rfl;simp only at this;exact⟨b,e',ro,rfl,by rw[Qq,Le (by omega)];exact hb⟩
theorem QxX {α:Type}{l:List α}(h:l.length=2):∃x y,l=[x,y]:=by
 match l,h with
 | [x,y],_=>exact⟨x,y,rfl⟩
theorem QzM {m:List Ar}(h1:QsZ op m=false)(h2:Qt0 op m=false)(h3:Qrf op m=false):ZR op m=m:=by simp[ZR,h1,h2,h3]
theorem QCl (e:Nat->Env->Qa->Prop)(k:Env->Qa->Prop)(A:Env)(H':Qa)(D:Nat)(cv:Value)(m:List Ar)(hx:Ext H H')(hw:H'.Wf)(hD:H.next+2<=D)
  (r2:A 2=.pointer (some ⟨H.next+1,0,none⟩)) (r7:A 7=.pointer (some ⟨D,0,none⟩)) (gR:H'.get (H.next+1)=some (.cells [.int .i64 0,.slice none 0 0] 24 false))
  (gD:H'.get D=some (.cells [.int .i64 op,cv] 97 false)) (hc:Qv H' cv m) (hl:m.length<=1000) (hf:∀a n c,cv=.slice (some a) n c->H.next+2<=a.block∧¬a.block=D∧a.block<H'.next)
  (hw1:∀x y,m=[x,y]->∃b cap,cv=.slice (some ⟨b,0,none⟩) 2 cap∧H'.get b=some (.cells (Qi m) 58 false)) (hm:Wa op l=(op,ZR op m,0)):
  Qm prog VH ⟨KC op l H,e⟩ k A H':=by
 have tail:=λA2 H2 cv2 m2 hx2 a b c d f g h=>QDW op l H e k A2 H2 D cv2 m2 hx2 hD a b c d f g h;have hDn:=hw.lt gD;have hxn:=hx.next;have hRn:=hw.lt gR;obtain⟨n6,e6⟩:∃n6,VH=.seq (.seq (.ops [⟨some 95,.bslice n6 1 3 [.nilFunc,.nilFunc,.nilFunc] [(0,(.func 68)),(1,(.func 69)),(2,(.func 70))],none,false⟩,⟨some 96,.lenS (t 95),none,false⟩,⟨some 97,.mv (.const (.int .i64 0)),none,false⟩]) (.block 4 (.loop Qdu))) QvZ:=⟨_,rfl⟩;rw[e6,V1];generalize hT:Qm prog QvZ ⟨KC op l H,e⟩ k=T;have tailT:=λA2 H2 cv2 m2 hx2 a b c d f g h=>(by rw[<- hT];exact tail A2 H2 cv2 m2 hx2 a b c d f g h:T A2 H2);simp(disch:=(first | omega | (simp only[hnP];try omega))) only[Qk,simprocAttr,QJ0,QJ1,Nat.reduceMul,Nat.reduceLeDiff,N3]
 generalize hbl:Blk.cells [.func (.func 68) #[] #[],.func (.func 69) #[] #[],.func (.func 70) #[] #[]] _ false=bl;have hxp:Ext H' (H'.push bl):=(Ext.refl _).push _;have gF:(H'.push bl).get H'.next=some bl:=by rw[Qd,Lc rfl]
 have hwp:=hw.push bl;have hpn:(H'.push bl).next=H'.next+1:=rfl;generalize hHp:H'.push bl=Hp at hxp gF hwp hpn;subst hbl;have hxHp:=hx.trans hxp;have gDp:Hp.get D=some (.cells [.int .i64 op,cv] 97 false):=by rw[hxp.get _ hDn];exact gD
 have gRp:Hp.get (H.next+1)=some (.cells [.int .i64 0,.slice none 0 0] 24 false):=by rw[hxp.get _ hRn];exact gR
 have hcp:Qv Hp cv m:=hc.ext hw hxp;have hw1p:∀x y,m=[x,y]->∃b cap,cv=.slice (some ⟨b,0,none⟩) 2 cap∧Hp.get b=some (.cells (Qi m) 58 false):=λx y h=>by
  obtain⟨b,cap,h1,h2⟩:=hw1 x y h;exact⟨b,cap,h1,by rw[hxp.get _ (hw.lt h2)];exact h2⟩
 have q1:=QCj D op cv m Hp gDp hcp hl hw1p;have q2:=QDU D op cv m Hp gDp hcp hl hw1p;have q3:=QDV D op cv m Hp gDp hcp hl hw1p;have hsw:∀x y,m=[x,y]->∀b cap,cv=.slice (some ⟨b,0,none⟩) 2 cap->Wa op l=(op,[y,x],0)->∀A2,A2 2=.pointer (some ⟨H.next+1,0,none⟩)->A2 7=.pointer (some ⟨D,0,none⟩)->T A2 ((Hp.set b (.cells (Qi [y,y]) 58 false)).set b (.cells (Qi [y,x]) 58 false)):=by
  intro x y hxy b cap hcv hm2 A2 a2 a7;have hbn:=hf _ _ _ hcv;simp only at hbn;refine tailT A2 _ cv [y,x] ((hxHp.set (by omega) _).set (by omega) _) a2 a7 ?_ ?_ ⟨some ⟨b,0,none⟩,cap,by rw[hcv];rfl,λ_=>⟨b,_,_,rfl,by rw[Qq,Lc rfl]⟩⟩ (λa n c h=>⟨(hf a n c h).1,by have:=(hf a n c h).2.2;have:=hxp.next;simp only[Qt];omega⟩) hm2
  ·rw[Qq,Le (by omega),Qq,Le (by omega)];exact gRp
  ·rw[Qq,Le (by omega),Qq,Le (by omega)];exact gDp
 refine Qo (λm' A2 H2=>∃i:Nat,i<=3∧m'=3 - i∧H2=Hp∧A2 2=.pointer (some ⟨H.next+1,0,none⟩)∧A2 7=.pointer (some ⟨D,0,none⟩)∧A2 95=.slice (some ⟨H'.next,0,none⟩) 3 3∧A2 96=.int .i64 ((3:Nat):Int)∧A2 97=.int .i64 i∧(0<i->QsZ op m=false)∧(1<i->Qt0 op m=false)∧(2<i->Qrf op m=false)) 3 ?_ ?_
 ·refine⟨0,L7 _,by omega,rfl,?_,?_,?_,?_,?_,λh=>by omega,λh=>by omega,λh=>by omega⟩
  all_goals simp only[Qg,simprocAttr,r2,r7]
  all_goals rfl
 ·rintro m' A2 H2 ⟨i,hi,rfl,rfl,a2,a7,a95,a96,a97,n1,n2,n3⟩;simp only[Qdu,QiF,sxA,sxB,Nat.reduceBEq,Nat.reduceEqDiff,reduceCtorEq,mxA,mxB,Nat.reduceAdd,reduceIte,Nat.reduceLeDiff,splice,a96,a97];refine Qf (λh2=>?_) (λh2=>?_)
  ·have h2:i<3:=by have:=Lg h2;omega
   have c1:(0:Int)<=i∧(i:Int)<((3:Nat):Int):=by omega
   have c3:(i:Int).toNat=i:=by omega
   have ei:IntKind.i64.wrap ((i:Int)+1)=((i+1:Nat):Int):=by rw[w64 (by unfold I64;omega)];omega
   simp only[sxA,sxB,Nat.reduceBEq,Nat.reduceEqDiff,reduceCtorEq,mxA,mxB,Nat.reduceAdd,reduceIte,Nat.reduceLeDiff,splice,a7,a95,a97,c1,c3,gF];obtain rfl | rfl | rfl:i=0∨i=1∨i=2:=by omega
   ·simp only[sxA,sxB,Nat.reduceBEq,Nat.reduceEqDiff,reduceCtorEq,mxA,mxB,Nat.reduceAdd,reduceIte,Nat.reduceLeDiff,splice,QHH];refine q1.thenW ?_;rintro _ H3 hn3 hw3 ⟨rfl,hF,hTr⟩;simp only[sxA,sxB,Nat.reduceBEq,Nat.reduceEqDiff,reduceCtorEq,mxA,mxB,Nat.reduceAdd,reduceIte,Nat.reduceLeDiff,splice];cases hd:QsZ op m with
    | false=>
     rw[hF hd];simp only[sxA,sxB,Nat.reduceBEq,Nat.reduceEqDiff,reduceCtorEq,mxA,mxB,Nat.reduceAdd,reduceIte,Nat.reduceLeDiff,splice,a97,ei];refine⟨2,by omega,1,by omega,rfl,rfl,?_,?_,?_,?_,?_,λ_=>(by first | exact hd | trivial),λh=>by omega,λh=>by omega⟩
     all_goals simp only[Qg,simprocAttr,a2,a7,a95,a96]
    | true=>
     obtain⟨x,y,hxy,hH3⟩:=hTr hd;have hr:ZR op m=[x,x,y]:=by unfold ZR;rw[Lc hd,hxy]
     simp only[Qb,simprocAttr];rw[hH3];refine tailT _ _ (.slice (some ⟨H2.next,0,none⟩) 3 3) [x,x,y] ((hxHp.push _).set (by omega) _) (by first | exact a2 | simp only[Qg,simprocAttr,a2]) (by first | exact a7 | simp only[Qg,simprocAttr,a7]) ?_ ?_ ⟨_,_,rfl,λ_=>⟨H2.next,_,_,rfl,by rw[Qq,Le (by omega),Qd,Lc rfl]⟩⟩ (λa n c h=>by cases h;simp only[Qt,Qc];omega) (by rw[hm,hr])
     ·rw[Qq,Le (by omega),Qd,Le (by omega)];exact gRp
     ·rw[Qq,Lc rfl]
   ·have hd:=n1 (by omega);simp only[sxA,sxB,Nat.reduceBEq,Nat.reduceEqDiff,reduceCtorEq,mxA,mxB,Nat.reduceAdd,reduceIte,Nat.reduceLeDiff,splice,QHH];refine q2.thenW ?_;rintro _ H3 hn3 hw3 ⟨rfl,hF,hTr⟩;simp only[sxA,sxB,Nat.reduceBEq,Nat.reduceEqDiff,reduceCtorEq,mxA,mxB,Nat.reduceAdd,reduceIte,Nat.reduceLeDiff,splice];cases hp:Qt0 op m with
    | false=>
     rw[hF hp];simp only[sxA,sxB,Nat.reduceBEq,Nat.reduceEqDiff,reduceCtorEq,mxA,mxB,Nat.reduceAdd,reduceIte,Nat.reduceLeDiff,splice,a97,ei];refine⟨1,by omega,2,by omega,rfl,rfl,?_,?_,?_,?_,?_,λ_=>(by first | exact hd | trivial),λ_=>(by first | exact hp | trivial),λh=>by omega⟩
     all_goals simp only[Qg,simprocAttr,a2,a7,a95,a96]
    | true=>
     obtain⟨x,y,b,cap,hxy,hcv,hH3⟩:=hTr hp;have hr:ZR op m=[y,x]:=by simp only[ZR,hd,hp];rw[hxy];rfl
     simp only[Qb,simprocAttr];rw[hH3];exact hsw x y hxy b cap hcv (by rw[hm,hr]) _ (by first | exact a2 | simp only[Qg,simprocAttr,a2]) (by first | exact a7 | simp only[Qg,simprocAttr,a7])
   ·have hd:=n1 (by omega);have hp:=n2 (by omega);simp only[sxA,sxB,Nat.reduceBEq,Nat.reduceEqDiff,reduceCtorEq,mxA,mxB,Nat.reduceAdd,reduceIte,Nat.reduceLeDiff,splice,QHH];refine q3.thenW ?_;rintro _ H3 hn3 hw3 ⟨rfl,hF,hTr⟩;simp only[sxA,sxB,Nat.reduceBEq,Nat.reduceEqDiff,reduceCtorEq,mxA,mxB,Nat.reduceAdd,reduceIte,Nat.reduceLeDiff,splice];cases hq:Qrf op m with
    | false=>
     rw[hF hq];simp only[sxA,sxB,Nat.reduceBEq,Nat.reduceEqDiff,reduceCtorEq,mxA,mxB,Nat.reduceAdd,reduceIte,Nat.reduceLeDiff,splice,a97,ei];refine⟨0,by omega,3,by omega,rfl,rfl,?_,?_,?_,?_,?_,λ_=>(by first | exact hd | trivial),λ_=>(by first | exact hp | trivial),λ_=>(by first | exact hq | trivial)⟩
     all_goals simp only[Qg,simprocAttr,a2,a7,a95,a96]
    | true=>
     obtain⟨x,y,b,cap,hxy,hcv,hH3⟩:=hTr hq;have hr:ZR op m=[y,x]:=by simp only[ZR,hd,hp,hq];rw[hxy];rfl
     simp only[Qb,simprocAttr];rw[hH3];exact hsw x y hxy b cap hcv (by rw[hm,hr]) _ (by first | exact a2 | simp only[Qg,simprocAttr,a2]) (by first | exact a7 | simp only[Qg,simprocAttr,a7])
  ·have h2:i=3:=by have:=Ll h2;omega
   subst h2;simp only[Qb,simprocAttr];exact tailT _ _ cv m hxHp (by first | exact a2 | simp only[Qg,simprocAttr,a2]) (by first | exact a7 | simp only[Qg,simprocAttr,a7]) gRp gDp hcp (λa n c h=>⟨(hf a n c h).1,by have:=(hf a n c h).2.2;have:=hxp.next;omega⟩) (by rw[hm,QzM op (n1 (by omega)) (n2 (by omega)) (n3 (by omega))])
theorem QDX (b:Ar)(x:Int):splice b.cells 10 [.int .i64 x]=({b with n:=x}:Ar).cells:=by simp[splice,Ar.cells]
theorem QxY (ib:Int×Bool):XE ib []=([],0):=rfl
theorem QDY (e:Nat->Env->Qa->Prop)(k:Env->Qa->Prop)(A:Env)(H':Qa)(D V cb cap:Nat)(ca:Option Addr)(vs:List Value)(eV:TypeId)(hx:Ext H H')(hw:H'.Wf)(hD:H.next+2<=D)(hV:H.next+2<=V)(hDV:¬D=V)
  (r2:A 2=.pointer (some ⟨H.next+1,0,none⟩)) (r5:A 5=.int .i64 (QU op l).1) (r6:A 6=.bool (QU op l).2) (r7:A 7=.pointer (some ⟨D,0,none⟩)) (r8:A 8=.slice (some ⟨V,0,none⟩) l.length l.length)
  (gR:H'.get (H.next+1)=some (.cells [.int .i64 0,.slice none 0 0] 24 false))
  (gD:H'.get D=some (.cells [.int .i64 op,.slice ca l.length cap] 97 false)) (gV:H'.get V=some (.cells vs eV false)) (hvl:vs.length=l.length) (hvs:∀j,j<l.length->vs[j]? = some (.pointer (some ⟨cb,j * 11,none⟩)))
  (hcb:0<l.length->ca=some ⟨cb,0,none⟩∧H.next+2<=cb∧¬cb=D∧¬cb=V∧H'.get cb=some (.cells (Qi l) 58 false)) (hca:∀a,ca=some a->H.next+2<=a.block∧¬a.block=D∧a.block<D)
  (hck:(Q8 op l==0)=true) (hI:∀a∈l,I64 a.n):Qm prog Gk ⟨KC op l H,e⟩ k A H':=by
 have hl4:=Qiu hck;have e12:Gk=.seq (.seq (.ops [⟨some 58,.mv (t 8),none,false⟩,⟨some 59,.lenS (t 58),none,false⟩,⟨some 60,.mv (.const (.int .i64 0)),none,false⟩]) (.block 2 (.loop Qcy))) VI:=rfl;rw[e12,V1];have e7:VI=.seq (.label 0) VH:=rfl;generalize hT:Qm prog VI ⟨KC op l H,e⟩ k=T;generalize hib:QU op l=ib at *;obtain⟨ib1,ib2⟩:=ib;simp only at r5 r6;have hic:∀m,XE (ib1,ib2) l=(m,0)->Wa op l=(op,ZR op m,0):=λm h=>by
  unfold Wa;rw[hib,h,hck];rfl
 have hie:∀m x,XE (ib1,ib2) l=(m,x)->(x==0)=false->Wa op l=(0,[],x):=λm x h hx=>by
  unfold Wa;rw[hib,h,hck];simp[hx]
 simp only[Qb,simprocAttr,r8];refine Qo (λm' A2 H2=>∃ (i:Nat) (dn:List Ar),i<=l.length∧m'=l.length - i∧dn.length=i∧XE (ib1,ib2) l=(dn++(XE (ib1,ib2) (l.drop i)).1,(XE (ib1,ib2) (l.drop i)).2)∧Ext H H2∧H2.Wf∧
  A2 2=.pointer (some ⟨H.next+1,0,none⟩)∧A2 5=.int .i64 ib1∧A2 6=.bool ib2∧A2 7=.pointer (some ⟨D,0,none⟩)∧A2 58=.slice (some ⟨V,0,none⟩) l.length l.length∧A2 59=.int .i64 (l.length:Int)∧A2 60=.int .i64 i∧
  H2.get (H.next+1)=some (.cells [.int .i64 0,.slice none 0 0] 24 false)∧H2.get D=some (.cells [.int .i64 op,.slice ca l.length cap] 97 false)∧H2.get V=some (.cells vs eV false)∧(0<l.length->H2.get cb=some (.cells (Qi (dn++l.drop i)) 58 false))) l.length ?_ ?_
 ·refine⟨0,[],L7 _,by omega,rfl,rfl,hx,hw,?_,?_,?_,?_,?_,?_,?_,gR,gD,gV,λh=>(hcb h).2.2.2.2⟩
  all_goals simp only[Qg,simprocAttr,r2,r5,r6,r7]
  all_goals rfl
 ·rintro m' A2 H2 ⟨i,dn,hi,rfl,hdn,hcan,hx2,hw2,a2,a5,a6,a7,a58,a59,a60,gR,gD,gV,gC⟩;simp only[Qcy,Qb,simprocAttr,a59,a60];refine Qf (λh2=>?_) (λh2=>?_)
  ·have h2:i<l.length:=by have:=Lg h2;omega
   obtain⟨hca1,hcb2,hcD,hcV,_⟩:=hcb (by omega);have gC:=gC (by omega);have c1:(0:Int)<=i∧(i:Int)<l.length:=by omega
   have c3:(i:Int).toNat=i:=by omega
   have ei:IntKind.i64.wrap ((i:Int)+1)=((i+1:Nat):Int):=by rw[w64 (by unfold I64;omega)];omega
   have hv:=hvs i h2;have hp:=La h2;have hdr:l.drop i=l[i]::l.drop (i+1):=Nh h2;have had:=Qo2 (ib1,ib2) l i _ hp;have hIa:=hI _ (Nb h2);generalize l[i]=a at hp hdr had hIa;rw[hdr]at gC;have hlen:=QJ (dn++a::l.drop (i+1));have hla:(dn++a::l.drop (i+1)).length=l.length:=by simp;omega
   rw[hla]at hlen;have c4:i * 11+11<=l.length * 11:=by omega
   have d1:=WI (dn++a::l.drop (i+1)) i a (by rw[LR (by omega),hdn,BJ];rfl);simp only[QgI,Qb,simprocAttr,a58,a60,c1,c3,gV,hv,gC,hlen,c4,d1];refine(Qq9 a H2).thenW ?_;rintro _ _ hn3 hw3 ⟨rfl,k3,rfl⟩;simp only[Ql]at hn3;have hn':=QuN a hIa;have hca2:VT (ib1,ib2) a=if((Wu a).2==0)=false then(a,(Wu a).2) else if((Wu a).1.k==3)=true then({(Wu a).1 with n:=(WZ (Wu a).1.n ib1 ib2).1},(WZ (Wu a).1.n ib1 ib2).2) else((Wu a).1,0):=rfl
   generalize Wu a=bb at hn' hca2;obtain⟨b,be⟩:=bb;simp only at hn' hca2;have hx3:=hx2.up hn3;have gR3:(H2.up k3).get (H.next+1)=some (.cells [.int .i64 0,.slice none 0 0] 24 false):=by rw[Y0];exact gR
   have gD3:(H2.up k3).get D=some (.cells [.int .i64 op,.slice ca l.length cap] 97 false):=by rw[Y0];exact gD
   have gV3:(H2.up k3).get V=some (.cells vs eV false):=by rw[Y0];exact gV
   have gC3:(H2.up k3).get cb=some (.cells (Qi (dn++a::l.drop (i+1))) 58 false):=by rw[Y0];exact gC
   generalize H2.up k3=H3 at hw3 hx3 gR3 gD3 gV3 gC3;simp only[Qb,simprocAttr,WQ,Qf2,Qit];obtain⟨H4,hH4⟩:∃h,h=(H3.push (.cells [.int .i64 0,.int .i64 0,.int .i64 0,.int .i64 0,.int .i64 0,.int .i64 0,.int .i64 0,.int .i64 0,.int .i64 0,.int .i64 0,.int .i64 0] 58 false)).set H3.next (.cells b.cells 58 false):=⟨_,rfl⟩;have hw4:H4.Wf:=by rw[hH4];exact(hw3.push _).set (by rw[Qd,Lc rfl]) _
   have hx4:Ext H3 H4:=by rw[hH4];exact((Ext.refl H3).push _).set (Lb _) _
   have gB:H4.get H3.next=some (.cells b.cells 58 false):=by rw[hH4,Qq,Lc rfl]
   have lR:=hw3.lt gR3;have lD:=hw3.lt gD3;have lV:=hw3.lt gV3;have lC:=hw3.lt gC3;have gR4:=(hx4.get _ lR).trans gR3;have gD4:=(hx4.get _ lD).trans gD3;have gV4:=(hx4.get _ lV).trans gV3;have gC4:=(hx4.get _ lC).trans gC3;have hx04:=hx3.trans hx4;have b0:b.cells[0]? = some (.int .i64 b.k):=rfl;have b10:b.cells[10]? = some (.int .i64 b.n):=rfl;simp only[<- hH4,Qb,simprocAttr];cases q1:be==0 with
   | false=>
    have hx5:Ext H (H4.set (H.next+1) (.cells [.int .i64 0,.slice none 0 0] 24 false)):=hx04.set (by omega) _;simp only[Qb,simprocAttr,a2,gR4,QaO];refine .mk hx5.next (QvY hx5 (hie _ _ hcan ?_ |>.trans ?_))
    all_goals (rw[had,hca2,q1];simp[q1])
   | true=>
    simp only[QiH,Qb,simprocAttr,gB,b0];have hs:=λb2:Ar=>Qt2 dn a b2 (l.drop (i+1));simp only[splice,hdn,WQ]at hs;have fin:∀ (b2:Ar) (H5:Qa) (A3:Env),VT (ib1,ib2) a=(b2,0)->Ext H H5->H5.Wf->H5.get (H.next+1)=some (.cells [.int .i64 0,.slice none 0 0] 24 false)->H5.get D=some (.cells [.int .i64 op,.slice ca l.length cap] 97 false)->H5.get V=some (.cells vs eV false)->H5.get cb=some (.cells (Qi (dn++a::l.drop (i+1))) 58 false)->
      A3 2=.pointer (some ⟨H.next+1,0,none⟩)->A3 5=.int .i64 ib1->A3 6=.bool ib2->A3 7=.pointer (some ⟨D,0,none⟩)->A3 58=.slice (some ⟨V,0,none⟩) l.length l.length->A3 59=.int .i64 (l.length:Int)->A3 60=.int .i64 ((i+1:Nat):Int)->
      Qqt (λm' A2 H2=>∃ (i:Nat) (dn:List Ar),i<=l.length∧m'=l.length - i∧dn.length=i∧XE (ib1,ib2) l=(dn++(XE (ib1,ib2) (l.drop i)).1,(XE (ib1,ib2) (l.drop i)).2)∧Ext H H2∧H2.Wf∧
  A2 2=.pointer (some ⟨H.next+1,0,none⟩)∧A2 5=.int .i64 ib1∧A2 6=.bool ib2∧A2 7=.pointer (some ⟨D,0,none⟩)∧A2 58=.slice (some ⟨V,0,none⟩) l.length l.length∧A2 59=.int .i64 (l.length:Int)∧A2 60=.int .i64 i∧
  H2.get (H.next+1)=some (.cells [.int .i64 0,.slice none 0 0] 24 false)∧H2.get D=some (.cells [.int .i64 op,.slice ca l.length cap] 97 false)∧H2.get V=some (.cells vs eV false)∧(0<l.length->H2.get cb=some (.cells (Qi (dn++l.drop i)) 58 false))) (l.length - i) A3 (H5.set cb (.cells (Qi (dn++b2::l.drop (i+1))) 58 false)):=by
     intro b2 H5 A3 hb2 hx5 hw5 gR5 gD5 gV5 gC5 p2 p5 p6 p7 p58 p59 p60;refine⟨l.length - (i+1),by omega,i+1,dn++[b2],by omega,rfl,by simp[hdn],?_,hx5.set (by omega) _,hw5.set gC5 _,p2,p5,p6,p7,p58,p59,p60,?_,?_,?_,λ_=>?_⟩
     ·rw[hcan,had,hb2];simp
     ·rw[Qq,Le (by omega)];exact gR5
     ·rw[Qq,Le (by omega)];exact gD5
     ·rw[Qq,Le (by omega)];exact gV5
     ·rw[Qq,Lc rfl,LQ];rfl
    cases q2:b.k==3 with
    | false=>
     have hnew:VT (ib1,ib2) a=(b,0):=by rw[hca2,q1,q2];rfl
     simp only[Qb,simprocAttr,gB,gC4,hlen,c4,WQ,Qf2,Qit,hs,a60,ei];refine fin b H4 _ hnew hx04 hw4 gR4 gD4 gV4 gC4 ?_ ?_ ?_ ?_ ?_ ?_ ?_
     all_goals simp only[Qg,simprocAttr,a2,a5,a6,a7,a58,a59]
    | true=>
     have hca3:VT (ib1,ib2) a=({b with n:=(WZ b.n ib1 ib2).1},(WZ b.n ib1 ib2).2):=by rw[hca2,q1,q2];rfl
     simp only[QiG,Qb,simprocAttr,gB,b10,a5,a6];refine(QcO b.n ib1 ib2 hn' H4).thenW ?_;rintro _ H4 _ hw4 ⟨rfl,rfl⟩;generalize WZ b.n ib1 ib2=im at hca3;obtain⟨im1,im2⟩:=im;simp only at hca3;have hsp:=QDX b im1;simp only[splice,Nat.reduceAdd,Lo,L9]at hsp;have gB5:∀bl,(H4.set H3.next bl).get H3.next=some bl:=λbl=>by rw[Qq,Lc rfl]
     have wB5:∀bl,(H4.set H3.next bl).Wf:=λbl=>hw4.set gB bl;have xB5:∀bl,Ext H (H4.set H3.next bl):=λbl=>hx04.set (by have:=hx3.next;omega) bl;have oB5:∀bl id,¬id=H3.next->(H4.set H3.next bl).get id=H4.get id:=λbl id h=>by rw[Qq,Le h]
     have tl:(b.cells.take 10++(Value.int .i64 im1::b.cells.drop 11))=({b with n:=im1}:Ar).cells:=by simp[Ar.cells]
     have nR:¬H.next+1=H3.next:=by omega
     have nD:¬D=H3.next:=by omega
     have nV:¬V=H3.next:=by omega
     have nC:¬cb=H3.next:=by omega
     simp only[Qb,simprocAttr,gB,WQ,Qf2,Qit,tl];cases q3:im2==0 with
     | false=>
      have hx5:∀bl,Ext H ((H4.set H3.next bl).set (H.next+1) (.cells [.int .i64 0,.slice none 0 0] 24 false)):=λbl=>(xB5 bl).set (by omega) _;simp only[Qb,simprocAttr,a2,nR,gR4,QaO];refine .mk (hx5 _).next (QvY (hx5 _) (hie _ _ hcan ?_ |>.trans ?_))
      all_goals (rw[had,hca3];simp[q3])
     | true=>
      have hnew:VT (ib1,ib2) a=({b with n:=im1},0):=by rw[hca3];simp at q3;rw[q3]
      simp only[Qb,simprocAttr,nC,gB,gC4,hlen,c4,WQ,Qf2,Qit,hs,a60,ei];refine fin {b with n:=im1} (H4.set H3.next _) _ hnew (xB5 _) (wB5 _) ((oB5 _ _ nR).trans gR4) ((oB5 _ _ nD).trans gD4) ((oB5 _ _ nV).trans gV4) ((oB5 _ _ nC).trans gC4) ?_ ?_ ?_ ?_ ?_ ?_ ?_
      all_goals simp only[Qg,simprocAttr,a2,a5,a6,a7,a58,a59]
  ·have h2:i=l.length:=by have:=Ll h2;omega
   subst h2;simp only[Qb,simprocAttr];rw[<- hT,e7,V1,Qqq];rw[BU,QxY,Na]at hcan;refine QCl op l H e k _ H2 D _ dn hx2 hw2 hD (by simp only[Qg,simprocAttr,a2]) (by simp only[Qg,simprocAttr,a7]) gR gD ⟨ca,cap,by rw[hdn],λh=>?_⟩ (by omega) (λa n c h=>by cases h;have:=hca _ rfl;have:=hw2.lt gD;omega) (λx y h=>?_) (hic _ hcan)
   ·have h0:0<l.length:=by omega
    obtain⟨hca1,_⟩:=hcb h0;have:=gC h0;rw[BU,Na]at this;exact⟨cb,_,_,hca1,this⟩
   ·have h0:0<l.length:=by rw[<- hdn,h];simp
    obtain⟨hca1,_⟩:=hcb h0;have:=gC h0;rw[BU,Na]at this;exact⟨cb,cap,by rw[hca1,<- hdn,h];rfl,this⟩
theorem QCm (z:Array Value)(m:Nat):(Ze z m).length=m:=by simp[Ze]
theorem Qv0 (v:Value)(hv:Qv H v l)(hl:l.length<=1000)(hI:∀a∈l,I64 a.n):Qe prog 46 [.agg #[.int .i64 op,v]] H (Qly op l H):=by
 refine Qtu λhw=>?_;obtain⟨a0,c0,rfl,_⟩:=id hv;have hx0:Ext H ((H.push (.cells [.int .i64 op,.slice a0 l.length c0] 24 false)).push (.cells [.int .i64 0,.slice none 0 0] 24 false)):=((Ext.refl H).push _).push _;have ne1:¬H.next=H.next+1:=by omega
 have gI:((H.push (.cells [.int .i64 op,.slice a0 l.length c0] 24 false)).push (.cells [.int .i64 0,.slice none 0 0] 24 false)).get H.next=some (.cells [.int .i64 op,.slice a0 l.length c0] 24 false):=by rw[Qd,Qc,Le ne1,Qd,Lc rfl]
 have gR:((H.push (.cells [.int .i64 op,.slice a0 l.length c0] 24 false)).push (.cells [.int .i64 0,.slice none 0 0] 24 false)).get (H.next+1)=some (.cells [.int .i64 0,.slice none 0 0] 24 false):=by rw[Qd,Qc,Lc rfl]
 have hw0:=(hw.push (.cells [.int .i64 op,.slice a0 l.length c0] 24 false)).push (.cells [.int .i64 0,.slice none 0 0] 24 false);have hn0:((H.push (.cells [.int .i64 op,.slice a0 l.length c0] 24 false)).push (.cells [.int .i64 0,.slice none 0 0] 24 false)).next=H.next+2:=by simp only[Qc]
 simp only[Ql4,Qb,simprocAttr];refine QwY (λ_ _ _=>False) 0 ?_ (λ_ _ _ h=>h.elim);generalize (H.push (.cells [.int .i64 op,.slice a0 l.length c0] 24 false)).push (.cells [.int .i64 0,.slice none 0 0] 24 false)=H0 at *;generalize jmK 0 _ 0 _=e;simp only[QgM,Qb,simprocAttr,gI];refine(Qd9 op _ l H0 (hv.ext hw hx0) hl hI).thenW ?_;rintro _ _ hn1 hw1 ⟨rfl,k1,rfl⟩;simp only[Ql]at hn1;have hx1:=hx0.up hn1;have gI1:(H0.up k1).get H.next=some (.cells [.int .i64 op,.slice a0 l.length c0] 24 false):=by rw[Y0];exact gI
 have gR1:(H0.up k1).get (H.next+1)=some (.cells [.int .i64 0,.slice none 0 0] 24 false):=by rw[Y0];exact gR
 have hm1:H.next+2<=(H0.up k1).next:=by simp only[Ql];omega
 generalize H0.up k1=H1 at *;simp only[Qb,simprocAttr];cases hck:Q8 op l==0 with
 | false=>
  have hx2:Ext H (H1.set (H.next+1) (.cells [.int .i64 0,.slice none 0 0] 24 false)):=hx1.set (by omega) _;simp only[Qb,simprocAttr,gR1,QaO];exact .mk hx2.next (QvY hx2 (by unfold Wa;rw[Lc hck]))
 | true=>
  have hl4:=Qiu hck;simp only[QgL,Qb,simprocAttr,gI1];refine(QfX op _ l H1 (hv.ext hw hx1) hl).thenW ?_;rintro _ _ hn2 hw2 ⟨rfl,k2,rfl⟩;simp only[Ql]at hn2;have hx2:=hx1.up hn2;have gI2:(H1.up k2).get H.next=some (.cells [.int .i64 op,.slice a0 l.length c0] 24 false):=by rw[Y0];exact gI1
  have gR2:(H1.up k2).get (H.next+1)=some (.cells [.int .i64 0,.slice none 0 0] 24 false):=by rw[Y0];exact gR1
  have hm2:H.next+2<=(H1.up k2).next:=by simp only[Ql];omega
  generalize H1.up k2=H2 at *;simp only[Qb,simprocAttr,gI2];refine⟨rfl,(QAU _ l H2 (hv.ext hw hx2) hl).thenW ?_⟩;rintro u H3 hn3 hw3 ⟨hx3,hcl⟩
  -- what the clone is
  obtain⟨ca,cap,cb,rfl,hcb⟩:∃ca cap cb,u=.slice ca l.length cap∧((0<l.length->ca=some ⟨cb,0,none⟩∧H2.next<=cb∧H3.get cb=some (.cells (Qi l) 58 false))∧(∀a,ca=some a->H2.next<=a.block∧a.block<H3.next)):=by
   rcases hcl with⟨rfl,rfl | ⟨rfl,rfl⟩⟩ | ⟨hne,rfl,rfl⟩
   ·exact⟨none,0,0,rfl,λh=>absurd h (NX 0),λa h=>by cases h⟩
   ·exact⟨_,0,0,rfl,λh=>absurd h (NX 0),λa h=>by cases h;simp only[Qc];omega⟩
   ·refine⟨_,_,H2.next+1,rfl,λ_=>⟨rfl,by omega,by rw[Qd,Lc (by simp only[Qc])]⟩,λa h=>by cases h;simp only[Qc];omega⟩
  obtain⟨hcb,hca⟩:=hcb;have gR3:=(hx3.get _ (hw2.lt gR2)).trans gR2;have hx03:=hx2.trans hx3;have hxn3:=hx3.next;have hbl:Qh H2.next 6 (.int .i64 op)=true:=rfl;simp only[Qb,simprocAttr];refine⟨hx3.eqB,?_⟩;refine⟨⟨by omega,by omega,by omega,by omega⟩,?_⟩;generalize hT:Qm prog Gk ⟨Rt prog Tryz.f46 H (Qly op l H),e⟩ (Rt prog Tryz.f46 H (Qly op l H))=T;generalize hzs:Ze _ _=zs;have hzl:zs.length=l.length:=by rw[<- hzs,QCm];omega
  have hnat:((l.length:Int)).toNat=l.length:=by omega
  simp only[hnat];generalize hH4:(H3.push (.cells [.int .i64 op,.slice ca l.length cap] 97 false)).push (.cells zs _ false)=H4;have ne3:¬H3.next=H3.next+1:=by omega
  have hx4:Ext H3 H4:=by rw[<- hH4];exact((Ext.refl H3).push _).push _
  have hw4:H4.Wf:=by rw[<- hH4];exact(hw3.push _).push _
  have gD4:H4.get H3.next=some (.cells [.int .i64 op,.slice ca l.length cap] 97 false):=by rw[<- hH4,Qd,Qc,Le ne3,Qd,Lc rfl]
  obtain⟨eV,gV4⟩:∃eV,H4.get (H3.next+1)=some (.cells zs eV false):=⟨_,by rw[<- hH4,Qd,Qc,Lc rfl]⟩;have gR4:=(hx4.get _ (hw3.lt gR3)).trans gR3;have gC4:0<l.length->H4.get cb=some (.cells (Qi l) 58 false):=λh=>(hx4.get _ (hw3.lt (hcb h).2.2)).trans (hcb h).2.2;have hcb3:0<l.length->cb<H3.next:=λh=>hw3.lt (hcb h).2.2;have hx04:=hx03.trans hx4;clear hH4 hzs;refine Qo (λm' A2 H5=>∃ (i:Nat) (cs:List Value),i<=l.length∧m'=l.length - i∧cs.length=l.length∧(∀j,j<i->cs[j]? = some (.pointer (some ⟨cb,j * 11,none⟩)))∧Ext H H5∧H5.Wf∧
   A2 2=.pointer (some ⟨H.next+1,0,none⟩)∧A2 5=.int .i64 (QU op l).1∧A2 6=.bool (QU op l).2∧A2 7=.pointer (some ⟨H3.next,0,none⟩)∧A2 8=.slice (some ⟨H3.next+1,0,none⟩) l.length l.length∧A2 44=.int .i64 (l.length:Int)∧A2 45=.int .i64 i∧
   H5.get (H.next+1)=some (.cells [.int .i64 0,.slice none 0 0] 24 false)∧H5.get H3.next=some (.cells [.int .i64 op,.slice ca l.length cap] 97 false)∧H5.get (H3.next+1)=some (.cells cs eV false)∧(0<l.length->H5.get cb=some (.cells (Qi l) 58 false))) l.length ?_ ?_
  ·refine⟨0,zs,L7 _,by omega,hzl,λj h=>by omega,hx04,hw4,?_,?_,?_,?_,?_,?_,?_,gR4,gD4,gV4,gC4⟩
   all_goals simp only[Qg,simprocAttr]
   all_goals rfl
  ·rintro m' A2 H5 ⟨i,cs,hi,rfl,hcsl,hcs,hx5,hw5,a2,a5,a6,a7,a8,a44,a45,gR5,gD5,gV5,gC5⟩;simp only[QgK,Qb,simprocAttr,a44,a45];refine Qf (λh2=>?_) (λh2=>?_)
   ·have h2:i<l.length:=by have:=Lg h2;omega
    obtain⟨hc1,hc2,hc3⟩:=hcb (by omega);have hc4:=hcb3 (by omega);have c1:(0:Int)<=i∧(i:Int)<l.length:=by omega
    have c3:(i:Int).toNat=i:=by omega
    have c4:i+1<=l.length:=h2;have ei:IntKind.i64.wrap ((i:Int)+1)=((i+1:Nat):Int):=by rw[w64 (by unfold I64;omega)];omega
    subst hc1;have hpt:(Value.pointer (some ⟨cb,i * 11,none⟩)).cells.toList=[.pointer (some ⟨cb,i * 11,none⟩)]:=rfl;have hpo:(Value.pointer (some ⟨cb,i * 11,none⟩)).oneCell'=true:=rfl;have hsl:=QzL cs i [.pointer (some ⟨cb,i * 11,none⟩)] (by simp;omega);have hsa:=QCk cs i (.pointer (some ⟨cb,i * 11,none⟩)) (by omega);have hsb:=λj (hj:j<i)=>Qt1 cs i [.pointer (some ⟨cb,i * 11,none⟩)] (by omega) j hj;simp only[splice,Lo,L9,LP,Nm,LH]at hsl hsa hsb;simp only[QgJ,Qb,simprocAttr,a7,a8,a45,c1,c3,c4,gD5,gV5,hcsl,hpt,hpo,ei];refine⟨l.length - (i+1),by omega,i+1,_,by omega,rfl,hsl.trans hcsl,λj hj=>?_,hx5.set (by omega) _,hw5.set gV5 _,?_,?_,?_,?_,?_,?_,?_,?_,?_,by rw[Qq,Lc rfl],λh=>?_⟩
    ·rcases Nq j i with h | h
     ·rw[hsb j h];exact hcs j h
     ·rw[show j=i by omega];exact hsa
    all_goals (try simp only[Qg,simprocAttr,a2,a5,a6,a7,a8,a44])
    ·rw[Qq,Le (by omega)];exact gR5
    ·rw[Qq,Le (by omega)];exact gD5
    ·rw[Qq,Le (by omega)];exact gC5 h
   ·have h2:i=l.length:=by have:=Ll h2;omega
    subst h2;simp only[Qb,simprocAttr];rw[<- hT];refine QDY op l H e _ _ H5 H3.next (H3.next+1) cb cap ca cs eV hx5 hw5 (by omega) (by omega) (by omega) (by simp only[Qg,simprocAttr,a2]) (by simp only[Qg,simprocAttr,a5]) (by simp only[Qg,simprocAttr,a6]) (by simp only[Qg,simprocAttr,a7]) (by simp only[Qg,simprocAttr,a8]) gR5 gD5 gV5 hcsl hcs (λh=>?_) (λa h=>?_) hck hI
    ·obtain⟨hc1,hc2,hc3⟩:=hcb h;have hc4:=hcb3 h;exact⟨hc1,by omega,by omega,by omega,gC5 h⟩
    ·have:=hca a h;exact⟨by omega,by omega,by omega⟩
end
end Go.Proofs.YtgepgbbjfhggfaaGreatDoor.code
