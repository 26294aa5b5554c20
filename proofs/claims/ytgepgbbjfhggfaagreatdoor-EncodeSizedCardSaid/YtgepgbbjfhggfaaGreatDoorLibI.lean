/- Registers. -/
import Derived.Test.YtgepgbbjfhggfaaGreatDoorC2Code
import Derived.Test.YtgepgbbjfhggfaaGreatDoorLibA
import Derived.Test.YtgepgbbjfhggfaaGreatDoorC0Code
set_option linter.unusedVariables false
set_option linter.unusedSimpArgs false
set_option maxRecDepth 100000
set_option maxHeartbeats 4000000
set_option maxHeartbeats 2000000
noncomputable section
namespace Go.Proofs.YtgepgbbjfhggfaaGreatDoor.code
open Go.Ab
structure Rg where
 c:Int
 n:Int
 deriving DecidableEq
def Rg.cells (r:Rg):List Value:=[.int .i64 r.c,.int .i64 r.n]
def Qjz (c:Int):Int×Int:=if c=2 then(4,4) else if c=8 then(0,1) else if c=1∨c=3∨c=4∨c=5∨c=6∨c=7 then(0,16) else(0,0)
def XG (r:Rg):Bool:=decide ((Qjz r.c).1<=r.n∧r.n<(Qjz r.c).1+(Qjz r.c).2)
theorem QtO (c:Int)(H:Qa):Qe prog 103 [.int .i64 c] H λu H'=>u=.tuple #[.int .i64 (Qjz c).1,.int .i64 (Qjz c).2]∧H'=H:=by
 refine Qsr λq=>?_;simp only[Qki,Qb,simprocAttr,Qdz]
 repeat' (first | (refine Qq (λh=>?_) (λh=>?_)<;>simp only[Qb,simprocAttr,Qdz]) | (refine Qf (λh=>?_) (λh=>?_)<;>simp only[Qb,simprocAttr,Qdz]))
 all_goals refine .mk (Lb _) ⟨?_,rfl⟩
 all_goals simp_all [Qjz]
theorem QFB (c:Int):0<=(Qjz c).1∧(Qjz c).1<=4∧0<=(Qjz c).2∧(Qjz c).2<=16:=by
 unfold Qjz;split
 ·decide
 split
 ·decide
 split<;>decide
theorem Qad (r:Rg)(H:Qa):Qe prog 62 [.agg r.cells.toArray] H λu H'=>u=.bool (XG r)∧∃m,H'=H.up m:=by
 refine QvG λq=>?_;obtain⟨c,n⟩:=r;have hb:=QFB c;have e1:IntKind.i64.wrap ((Qjz c).1+(Qjz c).2)=(Qjz c).1+(Qjz c).2:=w64 (by unfold I64;omega);simp only[Rg.cells,Qn3,Qb,simprocAttr];refine(QtO c _).thenW ?_;rintro _ H1 aa ab ⟨rfl,rfl⟩;simp only[Qb,simprocAttr,Qmd,e1];refine Qq (λh=>?_) (λh=>?_)
 all_goals simp only[Qb,simprocAttr,Qmd,e1,h]
 all_goals refine .ext q ((Ext.refl H).push _) ⟨?_,_,rfl⟩
 all_goals (simp_all [XG]<;>omega)
def QgY (r:Rg):Int:=if XG r=false then 0 else if r.c=7 then 32 else if r.c=6 then 16 else if r.c=5∨r.c=8 then 8 else if r.c=4 then 4 else if r.c=3 then 2 else 1
theorem Qzy (r:Rg)(H:Qa):Qe prog 107 [.agg r.cells.toArray] H λu H'=>u=.int .i64 (QgY r)∧∃m,H'=H.up m:=by
 refine Qxr λac=>?_;have q:=Qad r;obtain⟨v,ab⟩:∃v,XG r=v:=⟨_,rfl⟩;rw[ab]at q;obtain⟨c,n⟩:=r;simp only[Rg.cells]at q;simp only[Rg.cells,QqL,Vf,Vg,Vh,Qb,simprocAttr];refine(q _).thenW ?_;rintro _ H1 aa ae ⟨rfl,m,rfl⟩;simp only[Qd]at aa;have ad:Ext H ((H.push (.cells [.int .i64 c,.int .i64 n] 54 false)).up m):=((Ext.refl H).push _).up (by simp only[Qd];exact aa);simp only[Qb,simprocAttr,Qd8];cases v
 all_goals simp only[Qb,simprocAttr,Qd8,Vf,Vg,Vh]
 ·exact .ext ac ad ⟨by simp[QgY,ab],_,rfl⟩
 repeat' (first | (refine Qq (λh=>?_) (λh=>?_)<;>simp only[Qb,simprocAttr,Qd8,Vf,Vg,Vh,h]) | (refine Qf (λh=>?_) (λh=>?_)<;>simp only[Qb,simprocAttr,Qd8,Vf,Vg,Vh,h]))
 all_goals refine .ext ac ad ⟨?_,_,rfl⟩
 all_goals (simp_all [QgY]<;>decide)
theorem Qs (ne:Bool)(a b c d:Int)(H:Qa)(k:Value->Qa->Prop):QFp ne [.i,.i] (.agg #[.int .i64 a,.int .i64 b]) (.agg #[.int .i64 c,.int .i64 d]) H k=k (.bool (bif ne then !((a==c)&&(b==d)) else((a==c)&&(b==d)))) H:=by
 refine QB3 ?_
 by_cases h:a=c<;>by_cases g:b=d<;>simp[Qd5,QET,h,g]
/-! ### Places -/
structure Mm where
 b:Rg
 i:Rg
 sc:Int
 d:Int
 sz:Int
 deriving DecidableEq
def Mm.cells (m:Mm):List Value:=[.int .i64 m.b.c,.int .i64 m.b.n,.int .i64 m.i.c,.int .i64 m.i.n,.int .i64 m.sc,.int .i64 m.d,.int .i64 m.sz]
def JF (r:Rg):Bool:=(r.c==5)&&XG r
theorem Qzz (r:Rg)(H:Qa):Qe prog 105 [.agg r.cells.toArray] H λu H'=>u=.bool (JF r)∧∃m,H'=H.up m:=by
 refine Qxq λac=>?_;have q:=Qad r;obtain⟨v,ab⟩:∃v,XG r=v:=⟨_,rfl⟩;rw[ab]at q;obtain⟨c,n⟩:=r;simp only[Rg.cells]at q;simp only[Rg.cells,QqK,Qb,simprocAttr,Qic];refine Qq (λh=>?_) (λh=>?_)
 all_goals simp only[Qb,simprocAttr,Qic,h]
 ·refine(q _).thenW ?_;rintro _ H1 aa ae ⟨rfl,m,rfl⟩;simp only[Qd]at aa;have ad:Ext H ((H.push (.cells [.int .i64 c,.int .i64 n] 54 false)).up m):=((Ext.refl H).push _).up (by simp only[Qd];exact aa);simp only[Qb,simprocAttr,Qic,h];exact .ext ac ad ⟨by simp[JF,ab,h],_,rfl⟩
 ·exact .ext ac ((Ext.refl H).push _) ⟨by simp[JF,h],_,rfl⟩
def Kt (n:Int):Bool:=n==0||n==1||n==2||n==4||n==8||n==16||n==32
theorem Qxu (n:Int)(H:Qa):Qe prog 104 [.int .i64 n] H λu H'=>u=.bool (Kt n)∧H'=H:=by
 refine QvI λq=>?_;simp only[Qn5,Qb,simprocAttr,Qgc]
 repeat' (first | (refine Qq (λh=>?_) (λh=>?_)<;>simp only[Qb,simprocAttr,Qgc,h]) | (refine Qf (λh=>?_) (λh=>?_)<;>simp only[Qb,simprocAttr,Qgc,h]))
 all_goals refine .mk (Lb _) ⟨?_,rfl⟩
 all_goals simp_all [Kt]
def XE (n:Int):Bool:=n==1||n==2||n==4||n==8
theorem QvL (n:Int)(H:Qa):Qe prog 106 [.int .i64 n] H λu H'=>u=.bool (XE n)∧∃m,H'=H.up m:=by
 refine QtL λab=>?_;have t1:prog.underlying 188=some (.map 3 3):=by kernel_rfl
 have t2:prog.underlying 3=some (.int .i64):=by kernel_rfl
 have t3:(prog.info? 3).map (·.zero)=some (some (.int .i64 0)):=by kernel_rfl
 obtain⟨ag,t4,t5⟩:=Lx.1 t3;simp only[Qme,Qb,simprocAttr,Zl];rw[QnV (m:=H.next) (n:=1) (es:=[]) t1 t2 (by simp only[Qg,simprocAttr]) (by simp only[Qg,simprocAttr]) (by rw[Qc,Lc rfl]) rfl];simp only[Qb,simprocAttr,Zl];rw[QnV (m:=H.next) (n:=2) (es:=_) t1 t2 (by simp only[Qg,simprocAttr]) (by simp only[Qg,simprocAttr]) (by rw[Qn,Lc rfl]) rfl];simp only[Qb,simprocAttr,Zl];rw[QnV (m:=H.next) (n:=4) (es:=_) t1 t2 (by simp only[Qg,simprocAttr]) (by simp only[Qg,simprocAttr]) (by rw[Qn,Lc rfl]) rfl];simp only[Qb,simprocAttr,Zl];rw[QnV (m:=H.next) (n:=8) (es:=_) t1 t2 (by simp only[Qg,simprocAttr]) (by simp only[Qg,simprocAttr]) (by rw[Qn,Lc rfl]) rfl];simp only[Qb,simprocAttr,Zl];have ae:∃r,QvC n [(Value.int IntKind.i64 1,Value.int IntKind.i64 0),(Value.int IntKind.i64 2,Value.int IntKind.i64 1),(Value.int IntKind.i64 4,Value.int IntKind.i64 2),(Value.int IntKind.i64 8,Value.int IntKind.i64 3)] 0=some r∧r.isSome=XE n:=by
  simp only[QvC];split
  ·exact⟨_,rfl,by simp_all [XE]⟩
  split
  ·exact⟨_,rfl,by simp_all [XE]⟩
  split
  ·exact⟨_,rfl,by simp_all [XE]⟩
  split
  ·exact⟨_,rfl,by simp_all [XE]⟩
  ·exact⟨_,rfl,by simp_all [XE]⟩
 obtain⟨r,ad,aa⟩:=ae;rw[QB9 (m:=H.next) (n:=n) (es:=_) t1 t2 t4 t5 rfl (by simp only[Qg,simprocAttr]) (by simp only[Qg,simprocAttr]) (by rw[Qn,Lc rfl]) ad];have ac:∀a b c d e,Ext H (((((H.push a).set H.next b).set H.next c).set H.next d).set H.next e):=λa b c d e=>(((((Ext.refl H).push a).set (Lb _) b).set (Lb _) c).set (Lb _) d).set (Lb _) e;cases r with
 | none=>
  simp only[Qxl,Qb,simprocAttr,Zl];exact .ext ab (ac _ _ _ _ _) ⟨by rw[<- aa];rfl,_,rfl⟩
 | some q=>
  obtain⟨ah,ai⟩:=q;simp only[Qxl,Qb,simprocAttr,Zl];exact .ext ab (ac _ _ _ _ _) ⟨by rw[<- aa];rfl,_,rfl⟩
def isR (r:Rg)(c n:Int):Bool:=(r.c==c)&&(r.n==n)
def Qx (m:Mm):Int:=
 if(decide (m.d < -2147483648)||decide (m.d>2147483647))=true then 5
 else if Kt m.sz=false then 2
 else if(!isR m.b 0 0&&!isR m.b 8 0&&!JF m.b)=true then 2
 else if(isR m.i 0 0&&!(m.sc==0))=true then 2
 else if isR m.i 0 0=true then 0
 else if(!JF m.i||!XE m.sc||isR m.b 8 0)=true then 2
 else if(isR m.i 5 4&&(!(m.sc==1)||isR m.b 5 4))=true then 2
 else 0
def mcF (H:Qa)(c:List Value)(A:Env)(H':Qa):Prop:=Ext H H'∧A 1=.pointer (some ⟨H.next,0,none⟩)∧A 3=.pointer (some ⟨H.next+1,0,none⟩)∧A 4=.pointer (some ⟨H.next+2,0,none⟩)∧A 5=.pointer (some ⟨H.next+3,0,none⟩)∧
 H'.get H.next=some (.cells c 56 false)∧H'.get (H.next+1)=some (.cells [.int .i64 0,.int .i64 0] 54 false)∧H'.get (H.next+2)=some (.cells [.int .i64 8,.int .i64 0] 54 false)∧H'.get (H.next+3)=some (.cells [.int .i64 5,.int .i64 4] 54 false)
theorem mcF.up {H H':Qa}{c:List Value}{A:Env}(h:mcF H c A H'){k:Nat}(q:H'.next<=k):mcF H c A (H'.up k):=by
 obtain⟨aa,r1,r3,r4,r5,g0,g1,g2,g3⟩:=h;exact⟨aa.up q,r1,r3,r4,r5,g0,g1,g2,g3⟩
theorem mcF.env {H H':Qa}{c:List Value}{A B:Env}(h:mcF H c A H')(q:B 1=A 1)(aa:B 3=A 3)(ab:B 4=A 4)(ac:B 5=A 5):mcF H c B H':=by
 obtain⟨ad,r1,r3,r4,r5,g0,g1,g2,g3⟩:=h;exact⟨ad,q.trans r1,aa.trans r3,ab.trans r4,ac.trans r5,g0,g1,g2,g3⟩
theorem QqU (m:Mm)(H:Qa):Qe prog 63 [.agg m.cells.toArray] H λu H'=>u=.int .i64 (Qx m)∧∃k,H'=H.up k:=by
 refine QvH λam=>?_;have au:=Qxu m.sz;have ao:=λr=>Qzz r;have ar:=QvL m.sc;obtain⟨⟨aa,ab⟩,⟨ag,ah⟩,sc,d,sz⟩:=m;simp only at au ar;simp only[Mm.cells,Qn4,Qb,simprocAttr,Qj,Rh,Dd,De];obtain⟨cs,an⟩:∃cs,cs=[Value.int .i64 aa,.int .i64 ab,.int .i64 ag,.int .i64 ah,.int .i64 sc,.int .i64 d,.int .i64 sz]:=⟨_,rfl⟩;generalize aC:exK 0 _ WL=E0;generalize aA:Qm prog _ _ (Rt prog _ H _)=K0;have aB:∀A H',Ext H H'->Qx ⟨⟨aa,ab⟩,⟨ag,ah⟩,sc,d,sz⟩=0->K0 A H':=by
  intro A H' q az;rw[<- aA];simp only[Qb,simprocAttr,Qj];exact .ext am q ⟨by rw[az],_,rfl⟩
 have P1:∀A H',mcF H cs A H'->(decide (d < -2147483648)||decide (2147483647<d))=false->Kt sz=true->(!isR ⟨aa,ab⟩ 0 0&&!isR ⟨aa,ab⟩ 8 0&&!JF ⟨aa,ab⟩)=false->(isR ⟨ag,ah⟩ 0 0&&!(sc==0))=false->isR ⟨ag,ah⟩ 0 0=false->(!JF ⟨ag,ah⟩||!XE sc||isR ⟨aa,ab⟩ 8 0)=false->Qm prog Qeq ⟨Rt prog JD H λu H'=>u=.int .i64 (Qx ⟨⟨aa,ab⟩,⟨ag,ah⟩,sc,d,sz⟩)∧∃k,H'=H.up k,E0⟩ K0 A H':=by
  rintro A H' ⟨q,r1,r3,r4,r5,g0,g1,g2,g3⟩ ad ai aj ak aq aw;rw[an]at g0;simp only[Qeq];simp only[Qb,simprocAttr,Qj,Qs,r1,r3,r4,r5,g0,g1,g2,g3]
  repeat' (first
   | (refine Qq (λh=>?_) (λh=>?_)<;>(try simp only[Lr,Lu]at h)<;>simp only[Qb,simprocAttr,Qj,Qs,r1,r3,r4,r5,g0,g1,g2,g3,h])
   | (refine Qf (λh=>?_) (λh=>?_)<;>(try simp only[Lr,Lu]at h)<;>simp only[Qb,simprocAttr,Qj,Qs,r1,r3,r4,r5,g0,g1,g2,g3,h])
   | (refine(au _).thenW ?_;rintro _ _ ac al ⟨rfl,rfl⟩;simp only[Qb,simprocAttr,Qj,Qs,r1,r3,r4,r5,g0,g1,g2,g3])
   | (refine(ao ⟨aa,ab⟩ _).thenW ?_;rintro _ _ ac al ⟨rfl,k,rfl⟩;have q:=q.up (show _<=k from ac);simp only[Qb,simprocAttr,Qj,Qs,r1,r3,r4,r5,g0,g1,g2,g3])
   | (refine(ao ⟨ag,ah⟩ _).thenW ?_;rintro _ _ ac al ⟨rfl,k,rfl⟩;have q:=q.up (show _<=k from ac);simp only[Qb,simprocAttr,Qj,Qs,r1,r3,r4,r5,g0,g1,g2,g3])
   | (refine(ar _).thenW ?_;rintro _ _ ac al ⟨rfl,k,rfl⟩;have q:=q.up (show _<=k from ac);simp only[Qb,simprocAttr,Qj,Qs,r1,r3,r4,r5,g0,g1,g2,g3]))
  all_goals first
   | (have hb:(isR ⟨ag,ah⟩ 5 4&&(!(sc==1)||isR ⟨aa,ab⟩ 5 4))=true:=(by(try simp only[isR]);simp[*]);exact .ext am q ⟨by first | (simp only[Qx,ad,ai,aj,ak,aq,aw,hb,LV,LN,N3,NG,LJ,NJ,Be,Nt,N1,NI,Bd,L8,LM,reduceCtorEq,B4,BN];done) | (have ae:=ak;simp only[hb,LJ]at ae;simp only[Qx,ad,ai,aj,hb,ae,LV,LN,N3,LJ,reduceCtorEq,B4,BN]),_,rfl⟩)
   | (have hb:(isR ⟨ag,ah⟩ 5 4&&(!(sc==1)||isR ⟨aa,ab⟩ 5 4))=false:=(by(try simp only[isR]);simp[*]);exact .ext am q ⟨by first | (simp only[Qx,ad,ai,aj,ak,aq,aw,hb,LV,LN,N3,NG,LJ,NJ,Be,Nt,N1,NI,Bd,L8,LM,reduceCtorEq,B4,BN];done) | (have ae:=ak;simp only[hb,LJ]at ae;simp only[Qx,ad,ai,aj,hb,ae,LV,LN,N3,LJ,reduceCtorEq,B4,BN]),_,rfl⟩)
   | (have hb:(isR ⟨ag,ah⟩ 5 4&&(!(sc==1)||isR ⟨aa,ab⟩ 5 4))=false:=(by(try simp only[isR]);simp[*]);exact aB _ _ q (by simp only[Qx,ad,ai,aj,ak,aq,aw,hb,LV,LN,N3,NG,LJ,NJ,Be,Nt,N1,NI,Bd,L8,LM,reduceCtorEq,B4,BN]))
 have P2:∀A H',mcF H cs A H'->(decide (d < -2147483648)||decide (2147483647<d))=false->Kt sz=true->(!isR ⟨aa,ab⟩ 0 0&&!isR ⟨aa,ab⟩ 8 0&&!JF ⟨aa,ab⟩)=false->(isR ⟨ag,ah⟩ 0 0&&!(sc==0))=false->isR ⟨ag,ah⟩ 0 0=false->Qm prog Qer ⟨Rt prog JD H λu H'=>u=.int .i64 (Qx ⟨⟨aa,ab⟩,⟨ag,ah⟩,sc,d,sz⟩)∧∃k,H'=H.up k,E0⟩ K0 A H':=by
  rintro A H' ⟨q,r1,r3,r4,r5,g0,g1,g2,g3⟩ ad ai aj ak aq;rw[an]at g0;simp only[Qer];simp only[Qb,simprocAttr,Qj,Qs,r1,r3,r4,r5,g0,g1,g2,g3]
  repeat' (first
   | (refine Qq (λh=>?_) (λh=>?_)<;>(try simp only[Lr,Lu]at h)<;>simp only[Qb,simprocAttr,Qj,Qs,r1,r3,r4,r5,g0,g1,g2,g3,h])
   | (refine Qf (λh=>?_) (λh=>?_)<;>(try simp only[Lr,Lu]at h)<;>simp only[Qb,simprocAttr,Qj,Qs,r1,r3,r4,r5,g0,g1,g2,g3,h])
   | (refine(au _).thenW ?_;rintro _ _ ac al ⟨rfl,rfl⟩;simp only[Qb,simprocAttr,Qj,Qs,r1,r3,r4,r5,g0,g1,g2,g3])
   | (refine(ao ⟨aa,ab⟩ _).thenW ?_;rintro _ _ ac al ⟨rfl,k,rfl⟩;have q:=q.up (show _<=k from ac);simp only[Qb,simprocAttr,Qj,Qs,r1,r3,r4,r5,g0,g1,g2,g3])
   | (refine(ao ⟨ag,ah⟩ _).thenW ?_;rintro _ _ ac al ⟨rfl,k,rfl⟩;have q:=q.up (show _<=k from ac);simp only[Qb,simprocAttr,Qj,Qs,r1,r3,r4,r5,g0,g1,g2,g3])
   | (refine(ar _).thenW ?_;rintro _ _ ac al ⟨rfl,k,rfl⟩;have q:=q.up (show _<=k from ac);simp only[Qb,simprocAttr,Qj,Qs,r1,r3,r4,r5,g0,g1,g2,g3]))
  all_goals first
   | (have hb:(!JF ⟨ag,ah⟩||!XE sc||isR ⟨aa,ab⟩ 8 0)=true:=(by(try simp only[isR]);simp[*]);exact .ext am q ⟨by first | (simp only[Qx,ad,ai,aj,ak,aq,hb,LV,LN,N3,NG,LJ,NJ,Be,Nt,N1,NI,Bd,L8,LM,reduceCtorEq,B4,BN];done) | (have ae:=ak;simp only[hb,LJ]at ae;simp only[Qx,ad,ai,aj,hb,ae,LV,LN,N3,LJ,reduceCtorEq,B4,BN]),_,rfl⟩)
   | (have hb:(!JF ⟨ag,ah⟩||!XE sc||isR ⟨aa,ab⟩ 8 0)=false:=(by(try simp only[isR]);simp[*]);exact .ext am q ⟨by first | (simp only[Qx,ad,ai,aj,ak,aq,hb,LV,LN,N3,NG,LJ,NJ,Be,Nt,N1,NI,Bd,L8,LM,reduceCtorEq,B4,BN];done) | (have ae:=ak;simp only[hb,LJ]at ae;simp only[Qx,ad,ai,aj,hb,ae,LV,LN,N3,LJ,reduceCtorEq,B4,BN]),_,rfl⟩)
   | (have hb:(!JF ⟨ag,ah⟩||!XE sc||isR ⟨aa,ab⟩ 8 0)=false:=(by(try simp only[isR]);simp[*]);exact P1 _ _ (mcF.env ⟨q,r1,r3,r4,r5,by rw[an];exact g0,g1,g2,g3⟩ (by simp only[Qg,simprocAttr]) (by simp only[Qg,simprocAttr]) (by simp only[Qg,simprocAttr]) (by simp only[Qg,simprocAttr])) ad ai aj ak aq hb)
 have P3:∀A H',mcF H cs A H'->(decide (d < -2147483648)||decide (2147483647<d))=false->Kt sz=true->(!isR ⟨aa,ab⟩ 0 0&&!isR ⟨aa,ab⟩ 8 0&&!JF ⟨aa,ab⟩)=false->(isR ⟨ag,ah⟩ 0 0&&!(sc==0))=false->Qm prog Qes ⟨Rt prog JD H λu H'=>u=.int .i64 (Qx ⟨⟨aa,ab⟩,⟨ag,ah⟩,sc,d,sz⟩)∧∃k,H'=H.up k,E0⟩ K0 A H':=by
  rintro A H' ⟨q,r1,r3,r4,r5,g0,g1,g2,g3⟩ ad ai aj ak;rw[an]at g0;simp only[Qes];simp only[Qb,simprocAttr,Qj,Qs,r1,r3,r4,r5,g0,g1,g2,g3]
  repeat' (first
   | (refine Qq (λh=>?_) (λh=>?_)<;>(try simp only[Lr,Lu]at h)<;>simp only[Qb,simprocAttr,Qj,Qs,r1,r3,r4,r5,g0,g1,g2,g3,h])
   | (refine Qf (λh=>?_) (λh=>?_)<;>(try simp only[Lr,Lu]at h)<;>simp only[Qb,simprocAttr,Qj,Qs,r1,r3,r4,r5,g0,g1,g2,g3,h])
   | (refine(au _).thenW ?_;rintro _ _ ac al ⟨rfl,rfl⟩;simp only[Qb,simprocAttr,Qj,Qs,r1,r3,r4,r5,g0,g1,g2,g3])
   | (refine(ao ⟨aa,ab⟩ _).thenW ?_;rintro _ _ ac al ⟨rfl,k,rfl⟩;have q:=q.up (show _<=k from ac);simp only[Qb,simprocAttr,Qj,Qs,r1,r3,r4,r5,g0,g1,g2,g3])
   | (refine(ao ⟨ag,ah⟩ _).thenW ?_;rintro _ _ ac al ⟨rfl,k,rfl⟩;have q:=q.up (show _<=k from ac);simp only[Qb,simprocAttr,Qj,Qs,r1,r3,r4,r5,g0,g1,g2,g3])
   | (refine(ar _).thenW ?_;rintro _ _ ac al ⟨rfl,k,rfl⟩;have q:=q.up (show _<=k from ac);simp only[Qb,simprocAttr,Qj,Qs,r1,r3,r4,r5,g0,g1,g2,g3]))
  all_goals first
   | (have hb:isR ⟨ag,ah⟩ 0 0=true:=(by(try simp only[isR]);simp[*]);exact .ext am q ⟨by first | (simp only[Qx,ad,ai,aj,ak,hb,LV,LN,N3,NG,LJ,NJ,Be,Nt,N1,NI,Bd,L8,LM,reduceCtorEq,B4,BN];done) | (have ae:=ak;simp only[hb,LJ]at ae;simp only[Qx,ad,ai,aj,hb,ae,LV,LN,N3,LJ,reduceCtorEq,B4,BN]),_,rfl⟩)
   | (have hb:isR ⟨ag,ah⟩ 0 0=false:=(by(try simp only[isR]);simp[*]);exact .ext am q ⟨by first | (simp only[Qx,ad,ai,aj,ak,hb,LV,LN,N3,NG,LJ,NJ,Be,Nt,N1,NI,Bd,L8,LM,reduceCtorEq,B4,BN];done) | (have ae:=ak;simp only[hb,LJ]at ae;simp only[Qx,ad,ai,aj,hb,ae,LV,LN,N3,LJ,reduceCtorEq,B4,BN]),_,rfl⟩)
   | (have hb:isR ⟨ag,ah⟩ 0 0=false:=(by(try simp only[isR]);simp[*]);exact P2 _ _ (mcF.env ⟨q,r1,r3,r4,r5,by rw[an];exact g0,g1,g2,g3⟩ (by simp only[Qg,simprocAttr]) (by simp only[Qg,simprocAttr]) (by simp only[Qg,simprocAttr]) (by simp only[Qg,simprocAttr])) ad ai aj ak hb)
 have P4:∀A H',mcF H cs A H'->(decide (d < -2147483648)||decide (2147483647<d))=false->Kt sz=true->(!isR ⟨aa,ab⟩ 0 0&&!isR ⟨aa,ab⟩ 8 0&&!JF ⟨aa,ab⟩)=false->Qm prog Qet ⟨Rt prog JD H λu H'=>u=.int .i64 (Qx ⟨⟨aa,ab⟩,⟨ag,ah⟩,sc,d,sz⟩)∧∃k,H'=H.up k,E0⟩ K0 A H':=by
  rintro A H' ⟨q,r1,r3,r4,r5,g0,g1,g2,g3⟩ ad ai aj;rw[an]at g0;simp only[Qet];simp only[Qb,simprocAttr,Qj,Qs,r1,r3,r4,r5,g0,g1,g2,g3]
  repeat' (first
   | (refine Qq (λh=>?_) (λh=>?_)<;>(try simp only[Lr,Lu]at h)<;>simp only[Qb,simprocAttr,Qj,Qs,r1,r3,r4,r5,g0,g1,g2,g3,h])
   | (refine Qf (λh=>?_) (λh=>?_)<;>(try simp only[Lr,Lu]at h)<;>simp only[Qb,simprocAttr,Qj,Qs,r1,r3,r4,r5,g0,g1,g2,g3,h])
   | (refine(au _).thenW ?_;rintro _ _ ac al ⟨rfl,rfl⟩;simp only[Qb,simprocAttr,Qj,Qs,r1,r3,r4,r5,g0,g1,g2,g3])
   | (refine(ao ⟨aa,ab⟩ _).thenW ?_;rintro _ _ ac al ⟨rfl,k,rfl⟩;have q:=q.up (show _<=k from ac);simp only[Qb,simprocAttr,Qj,Qs,r1,r3,r4,r5,g0,g1,g2,g3])
   | (refine(ao ⟨ag,ah⟩ _).thenW ?_;rintro _ _ ac al ⟨rfl,k,rfl⟩;have q:=q.up (show _<=k from ac);simp only[Qb,simprocAttr,Qj,Qs,r1,r3,r4,r5,g0,g1,g2,g3])
   | (refine(ar _).thenW ?_;rintro _ _ ac al ⟨rfl,k,rfl⟩;have q:=q.up (show _<=k from ac);simp only[Qb,simprocAttr,Qj,Qs,r1,r3,r4,r5,g0,g1,g2,g3]))
  all_goals first
   | (have hb:(isR ⟨ag,ah⟩ 0 0&&!(sc==0))=true:=(by(try simp only[isR]);simp[*]);exact .ext am q ⟨by first | (simp only[Qx,ad,ai,aj,hb,LV,LN,N3,NG,LJ,NJ,Be,Nt,N1,NI,Bd,L8,LM,reduceCtorEq,B4,BN];done) | (have ae:=ak;simp only[hb,LJ]at ae;simp only[Qx,ad,ai,aj,hb,ae,LV,LN,N3,LJ,reduceCtorEq,B4,BN]),_,rfl⟩)
   | (have hb:(isR ⟨ag,ah⟩ 0 0&&!(sc==0))=false:=(by(try simp only[isR]);simp[*]);exact .ext am q ⟨by first | (simp only[Qx,ad,ai,aj,hb,LV,LN,N3,NG,LJ,NJ,Be,Nt,N1,NI,Bd,L8,LM,reduceCtorEq,B4,BN];done) | (have ae:=ak;simp only[hb,LJ]at ae;simp only[Qx,ad,ai,aj,hb,ae,LV,LN,N3,LJ,reduceCtorEq,B4,BN]),_,rfl⟩)
   | (have hb:(isR ⟨ag,ah⟩ 0 0&&!(sc==0))=false:=(by(try simp only[isR]);simp[*]);exact P3 _ _ (mcF.env ⟨q,r1,r3,r4,r5,by rw[an];exact g0,g1,g2,g3⟩ (by simp only[Qg,simprocAttr]) (by simp only[Qg,simprocAttr]) (by simp only[Qg,simprocAttr]) (by simp only[Qg,simprocAttr])) ad ai aj hb)
 have P5:∀A H',mcF H cs A H'->(decide (d < -2147483648)||decide (2147483647<d))=false->Kt sz=true->Qm prog Qeu ⟨Rt prog JD H λu H'=>u=.int .i64 (Qx ⟨⟨aa,ab⟩,⟨ag,ah⟩,sc,d,sz⟩)∧∃k,H'=H.up k,E0⟩ K0 A H':=by
  rintro A H' ⟨q,r1,r3,r4,r5,g0,g1,g2,g3⟩ ad ai;rw[an]at g0;simp only[Qeu];simp only[Qb,simprocAttr,Qj,Qs,r1,r3,r4,r5,g0,g1,g2,g3]
  repeat' (first
   | (refine Qq (λh=>?_) (λh=>?_)<;>(try simp only[Lr,Lu]at h)<;>simp only[Qb,simprocAttr,Qj,Qs,r1,r3,r4,r5,g0,g1,g2,g3,h])
   | (refine Qf (λh=>?_) (λh=>?_)<;>(try simp only[Lr,Lu]at h)<;>simp only[Qb,simprocAttr,Qj,Qs,r1,r3,r4,r5,g0,g1,g2,g3,h])
   | (refine(au _).thenW ?_;rintro _ _ ac al ⟨rfl,rfl⟩;simp only[Qb,simprocAttr,Qj,Qs,r1,r3,r4,r5,g0,g1,g2,g3])
   | (refine(ao ⟨aa,ab⟩ _).thenW ?_;rintro _ _ ac al ⟨rfl,k,rfl⟩;have q:=q.up (show _<=k from ac);simp only[Qb,simprocAttr,Qj,Qs,r1,r3,r4,r5,g0,g1,g2,g3])
   | (refine(ao ⟨ag,ah⟩ _).thenW ?_;rintro _ _ ac al ⟨rfl,k,rfl⟩;have q:=q.up (show _<=k from ac);simp only[Qb,simprocAttr,Qj,Qs,r1,r3,r4,r5,g0,g1,g2,g3])
   | (refine(ar _).thenW ?_;rintro _ _ ac al ⟨rfl,k,rfl⟩;have q:=q.up (show _<=k from ac);simp only[Qb,simprocAttr,Qj,Qs,r1,r3,r4,r5,g0,g1,g2,g3]))
  all_goals first
   | (have hb:(!isR ⟨aa,ab⟩ 0 0&&!isR ⟨aa,ab⟩ 8 0&&!JF ⟨aa,ab⟩)=true:=(by(try simp only[isR]);simp[*]);exact .ext am q ⟨by first | (simp only[Qx,ad,ai,hb,LV,LN,N3,NG,LJ,NJ,Be,Nt,N1,NI,Bd,L8,LM,reduceCtorEq,B4,BN];done) | (have ae:=ak;simp only[hb,LJ]at ae;simp only[Qx,ad,ai,aj,hb,ae,LV,LN,N3,LJ,reduceCtorEq,B4,BN]),_,rfl⟩)
   | (have hb:(!isR ⟨aa,ab⟩ 0 0&&!isR ⟨aa,ab⟩ 8 0&&!JF ⟨aa,ab⟩)=false:=(by(try simp only[isR]);simp[*]);exact .ext am q ⟨by first | (simp only[Qx,ad,ai,hb,LV,LN,N3,NG,LJ,NJ,Be,Nt,N1,NI,Bd,L8,LM,reduceCtorEq,B4,BN];done) | (have ae:=ak;simp only[hb,LJ]at ae;simp only[Qx,ad,ai,aj,hb,ae,LV,LN,N3,LJ,reduceCtorEq,B4,BN]),_,rfl⟩)
   | (have hb:(!isR ⟨aa,ab⟩ 0 0&&!isR ⟨aa,ab⟩ 8 0&&!JF ⟨aa,ab⟩)=false:=(by(try simp only[isR]);simp[*]);exact P4 _ _ (mcF.env ⟨q,r1,r3,r4,r5,by rw[an];exact g0,g1,g2,g3⟩ (by simp only[Qg,simprocAttr]) (by simp only[Qg,simprocAttr]) (by simp only[Qg,simprocAttr]) (by simp only[Qg,simprocAttr])) ad ai hb)
 have P6:∀A H',mcF H cs A H'->(decide (d < -2147483648)||decide (2147483647<d))=false->Qm prog Qev ⟨Rt prog JD H λu H'=>u=.int .i64 (Qx ⟨⟨aa,ab⟩,⟨ag,ah⟩,sc,d,sz⟩)∧∃k,H'=H.up k,E0⟩ K0 A H':=by
  rintro A H' ⟨q,r1,r3,r4,r5,g0,g1,g2,g3⟩ ad;rw[an]at g0;simp only[Qev];simp only[Qb,simprocAttr,Qj,Qs,r1,r3,r4,r5,g0,g1,g2,g3]
  repeat' (first
   | (refine Qq (λh=>?_) (λh=>?_)<;>(try simp only[Lr,Lu]at h)<;>simp only[Qb,simprocAttr,Qj,Qs,r1,r3,r4,r5,g0,g1,g2,g3,h])
   | (refine Qf (λh=>?_) (λh=>?_)<;>(try simp only[Lr,Lu]at h)<;>simp only[Qb,simprocAttr,Qj,Qs,r1,r3,r4,r5,g0,g1,g2,g3,h])
   | (refine(au _).thenW ?_;rintro _ _ ac al ⟨rfl,rfl⟩;simp only[Qb,simprocAttr,Qj,Qs,r1,r3,r4,r5,g0,g1,g2,g3])
   | (refine(ao ⟨aa,ab⟩ _).thenW ?_;rintro _ _ ac al ⟨rfl,k,rfl⟩;have q:=q.up (show _<=k from ac);simp only[Qb,simprocAttr,Qj,Qs,r1,r3,r4,r5,g0,g1,g2,g3])
   | (refine(ao ⟨ag,ah⟩ _).thenW ?_;rintro _ _ ac al ⟨rfl,k,rfl⟩;have q:=q.up (show _<=k from ac);simp only[Qb,simprocAttr,Qj,Qs,r1,r3,r4,r5,g0,g1,g2,g3])
   | (refine(ar _).thenW ?_;rintro _ _ ac al ⟨rfl,k,rfl⟩;have q:=q.up (show _<=k from ac);simp only[Qb,simprocAttr,Qj,Qs,r1,r3,r4,r5,g0,g1,g2,g3]))
  all_goals first
   | (have hb:Kt sz=true:=(by(try simp only[isR]);simp[*]);exact .ext am q ⟨by first | (simp only[Qx,ad,hb,LV,LN,N3,NG,LJ,NJ,Be,Nt,N1,NI,Bd,L8,LM,reduceCtorEq,B4,BN];done) | (have ae:=ak;simp only[hb,LJ]at ae;simp only[Qx,ad,ai,aj,hb,ae,LV,LN,N3,LJ,reduceCtorEq,B4,BN]),_,rfl⟩)
   | (have hb:Kt sz=false:=(by(try simp only[isR]);simp[*]);exact .ext am q ⟨by first | (simp only[Qx,ad,hb,LV,LN,N3,NG,LJ,NJ,Be,Nt,N1,NI,Bd,L8,LM,reduceCtorEq,B4,BN];done) | (have ae:=ak;simp only[hb,LJ]at ae;simp only[Qx,ad,ai,aj,hb,ae,LV,LN,N3,LJ,reduceCtorEq,B4,BN]),_,rfl⟩)
   | (have hb:Kt sz=true:=(by(try simp only[isR]);simp[*]);exact P5 _ _ (mcF.env ⟨q,r1,r3,r4,r5,by rw[an];exact g0,g1,g2,g3⟩ (by simp only[Qg,simprocAttr]) (by simp only[Qg,simprocAttr]) (by simp only[Qg,simprocAttr]) (by simp only[Qg,simprocAttr])) ad hb)
 have ax:∀b c d e f g h,Ext H (((((((H.push b).push c).set (H.next+1) d).push e).set (H.next+2) f).push g).set (H.next+3) h):=λb c d e f g h=>
  (((((((Ext.refl H).push b).push c).set (by omega) d).push e).set (by omega) f).push g).set (by omega) h
 have ay:∀A,A 1=.pointer (some ⟨H.next,0,none⟩)->A 3=.pointer (some ⟨H.next+1,0,none⟩)->A 4=.pointer (some ⟨H.next+2,0,none⟩)->A 5=.pointer (some ⟨H.next+3,0,none⟩)->∀d e f,mcF H cs A (((((((H.push (.cells cs 56 false)).push d).set (H.next+1) (.cells [.int .i64 0,.int .i64 0] 54 false)).push e).set (H.next+2) (.cells [.int .i64 8,.int .i64 0] 54 false)).push f).set (H.next+3) (.cells [.int .i64 5,.int .i64 4] 54 false)):=by
  intro A r1 r3 r4 r5 d e f;refine⟨ax _ _ _ _ _ _ _,r1,r3,r4,r5,?_,?_,?_,?_⟩<;>simp[Qn,Qc,Rh]
 rw[<- an];refine Qq (λh=>?_) (λh=>?_)<;>(try simp only[Lr,Lu]at h)<;>simp only[Qb,simprocAttr,Qj,Rh,Dd,De,h,an]
 ·refine Qf (λav=>?_) (λav=>?_)<;>simp only[Qb,simprocAttr,Qj,av]
  ·exact .ext am (ax _ _ _ _ _ _ _) ⟨by simp only[Qx,h,B4,av,Bd,N3],_,rfl⟩
  ·rw[<- an];exact P6 _ _ (ay _ (by simp only[Qg,simprocAttr]) (by simp only[Qg,simprocAttr]) (by simp only[Qg,simprocAttr]) (by simp only[Qg,simprocAttr]) _ _ _) (by simp only[h,av,NI])
 ·exact .ext am (ax _ _ _ _ _ _ _) ⟨by simp only[Qx,h,N1,N3],_,rfl⟩
def Kb:Mm:=⟨⟨0,0⟩,⟨0,0⟩,0,0,0⟩
def Y9 (m:Mm):Mm:=
 if(isR m.i 0 0||!(m.sc==1))=true then m else if isR m.b 0 0=true then⟨m.i,⟨0,0⟩,0,m.d,m.sz⟩ else if(m.i.n==4)=true then⟨m.i,m.b,m.sc,m.d,m.sz⟩ else m
def Qa5 (m:Mm):Mm×Int:=if Qx m=0 then(Y9 m,0) else(Kb,Qx m)
theorem QqV (m:Mm)(H:Qa):Qe prog 108 [.agg m.cells.toArray] H λu H'=>u=.tuple #[.agg (Qa5 m).1.cells.toArray,.int .i64 (Qa5 m).2]∧∃k,H'=H.up k:=by
 refine QvJ λag=>?_;have q:=QqU m;obtain⟨e,aa⟩:∃e,Qx m=e:=⟨_,rfl⟩;rw[aa]at q;have ac:Qa5 m=if e=0 then(Y9 m,0) else(Kb,e):=by rw[<- aa];rfl
 rw[ac];clear ac aa;obtain⟨⟨ah,ai⟩,⟨ak,al⟩,sc,d,sz⟩:=m;simp only[Mm.cells]at q;simp only[Mm.cells,Qn6,KU,KW,KX,KY,Qb,simprocAttr,QcV];refine(q _).thenW ?_;rintro _ _ ae aj ⟨rfl,k,rfl⟩;simp only[Qd,Ql]at ae;have ab:¬H.next=k:=by omega
 have k1:¬H.next+1=k:=by omega
 have k2:¬H.next=k+1:=by omega
 have k3:¬H.next+1=k+1:=by omega
 simp only[Qb,simprocAttr,QcV,KU,KW,KX,KY,Qs,Rh,Dd,De,ab,k1,k2,k3]
 repeat' (first
   | refine⟨by simp[Qi,plain],by omega,?_⟩
   | (refine Qq (λh=>?_) (λh=>?_)<;>(try simp only[Lr,Lu]at h)<;>simp only[Qb,simprocAttr,QcV,KU,KW,KX,KY,Qs,Rh,Dd,De,ab,k1,k2,k3,h])
   | (refine Qf (λh=>?_) (λh=>?_)<;>(try simp only[Lr,Lu]at h)<;>simp only[Qb,simprocAttr,QcV,KU,KW,KX,KY,Qs,Rh,Dd,De,ab,k1,k2,k3,h]))
 all_goals refine .ext ag ?_ ⟨?_,_,rfl⟩
 all_goals try (repeat' (first | exact Ext.refl _ | refine Ext.push ?_ _ | refine Ext.up ?_ (by first | assumption | (simp only[Qd,Qv];omega)) | refine Ext.set ?_ (by omega) _))
 all_goals (try have ad:e=0:=by simpa using ‹(e==0)=true›)<;>(try have ad:¬e=0:=by simpa using ‹(e==0)=false›)
 all_goals (simp only[Y9,Kb,isR,Mm.cells, *,LV,LN,N3,NG,LJ,NJ,Be,Nt,N1,NI,Bd,L8,LM,reduceCtorEq,BN];done)
structure Ar where
 k:Int
 r:Rg
 m:Mm
 n:Int
 deriving DecidableEq
def Ar.cells (a:Ar):List Value:=[.int .i64 a.k,.int .i64 a.r.c,.int .i64 a.r.n,.int .i64 a.m.b.c,.int .i64 a.m.b.n,.int .i64 a.m.i.c,.int .i64 a.m.i.n,.int .i64 a.m.sc,.int .i64 a.m.d,.int .i64 a.m.sz,.int .i64 a.n]
def Wk (a:Ar):Int:=
 if(a.k==1)=true then(if(!XG a.r||(a.r.c==8))=true then 2 else 0)
 else if(a.k==2)=true then Qx a.m
 else if(a.k==3)=true then 0
 else if(a.k==4)=true then(if(decide (a.n < -2147483648)||decide (2147483647<a.n))=true then 5 else 0)
 else 2
theorem VR (a:Ar)(H:Qa):Qe prog 43 [.agg a.cells.toArray] H λu H'=>u=.int .i64 (Wk a)∧∃k,H'=H.up k:=by
 refine QpD λac=>?_;have aa:=Qad a.r;have ab:=QqU a.m;obtain⟨k,⟨aj,ak⟩,⟨⟨ae,ag⟩,⟨ah,ai⟩,sc,d,sz⟩,n⟩:=a;simp only[Rg.cells,Mm.cells]at aa ab;simp(disch:=omega) only[Ar.cells,QgO,JO,JP,JQ,JR,JS,Qk,simprocAttr,ZH]
 repeat' (first
   | (refine Qq (λh=>?_) (λh=>?_)<;>(try simp only[Lr,Lu]at h)<;>simp(disch:=omega) only[Qk,simprocAttr,ZH,JO,JP,JQ,JR,JS,h])
   | (refine Qf (λh=>?_) (λh=>?_)<;>(try simp only[Lr,Lu]at h)<;>simp(disch:=omega) only[Qk,simprocAttr,ZH,JO,JP,JQ,JR,JS,h])
   | (refine(aa _).thenW ?_;rintro _ _ q ad ⟨rfl,k,rfl⟩;simp only[Qd,Ql,Qv]at q;simp(disch:=omega) only[Qk,simprocAttr,ZH])
   | (refine(ab _).thenW ?_;rintro _ _ q ad ⟨rfl,k,rfl⟩;simp only[Qd,Ql,Qv]at q;simp(disch:=omega) only[Qk,simprocAttr,ZH]))
 all_goals refine .ext ac ?_ ⟨?_,_,rfl⟩
 all_goals try (repeat' (first | exact Ext.refl _ | refine Ext.push ?_ _ | refine Ext.up ?_ (by simp only[Qd,Qv,Ql];omega) | refine Ext.set ?_ (by omega) _))
 all_goals (simp only[Wk, *,LV,LN,N3,NG,LJ,NJ,Be,Nt,N1,NI,Bd,L8,LM,reduceCtorEq,BN])
/-! ### Canon -/
def Q7:Ar:=⟨0,⟨0,0⟩,Kb,0⟩
def QdH (a:Ar):Ar:=if(a.k==1)=true then⟨a.k,a.r,Kb,0⟩ else if(a.k==2)=true then⟨a.k,⟨0,0⟩,Y9 a.m,0⟩ else⟨a.k,⟨0,0⟩,Kb,a.n⟩
def Wx (a:Ar):Ar×Int:=if(Wk a==0)=true then(QdH a,0) else(Q7,Wk a)
theorem Qnl {a:Ar}(q:(a.k==2)=true):Wk a=Qx a.m:=by
 have:a.k=2:=by simpa using q
 simp[Wk,this]
theorem Qrl (a:Ar)(H:Qa):Qe prog 67 [.agg a.cells.toArray] H λu H'=>u=.tuple #[.agg (Wx a).1.cells.toArray,.int .i64 (Wx a).2]∧∃k,H'=H.up k:=by
 refine QpE λah=>?_;have ae:=VR a;have aa:=QqV a.m;have ag:=@Qnl a;have ac:Qa5 a.m=if Qx a.m=0 then(Y9 a.m,0) else(Kb,Qx a.m):=rfl
 have ad:Wx a=if(Wk a==0)=true then(QdH a,0) else(Q7,Wk a):=rfl
 rw[ad];rw[ac]at aa;clear ad ac;generalize Wk a=e at *;generalize Qx a.m=f at *;have ab:QdH a=if(a.k==1)=true then⟨a.k,a.r,Kb,0⟩ else if(a.k==2)=true then⟨a.k,⟨0,0⟩,Y9 a.m,0⟩ else⟨a.k,⟨0,0⟩,Kb,a.n⟩:=rfl
 rw[ab];clear ab;generalize Y9 a.m=mc at *;obtain⟨k,⟨aw,ax⟩,⟨⟨aj,ak⟩,⟨al,av⟩,sc,d,sz⟩,n⟩:=a;obtain⟨⟨am,an⟩,⟨aq,min⟩,ar,ao,au⟩:=mc;simp only[Ar.cells,Mm.cells]at ae aa ag;simp(disch:=(first | omega | (simp only[hnP];try omega))) only[Ar.cells,QgU,Yp,Yq,Yr,Qk,simprocAttr,ZI]
 repeat' (first
   | (refine Qq (λh=>?_) (λh=>?_)<;>(try simp only[Lr,Lu]at h)<;>simp(disch:=(first | omega | (simp only[hnP];try omega))) only[Yp,Yq,Yr,Qk,simprocAttr,ZI,h])
   | (refine Qf (λh=>?_) (λh=>?_)<;>(try simp only[Lr,Lu]at h)<;>simp(disch:=(first | omega | (simp only[hnP];try omega))) only[Yp,Yq,Yr,Qk,simprocAttr,ZI,h])
   | (refine(ae _).thenW ?_;rintro _ _ q ai ⟨rfl,k,rfl⟩;(try simp only[Qd,Ql,Qv]at q);simp(disch:=(first | omega | (simp only[hnP];try omega))) only[Yp,Yq,Yr,Qk,simprocAttr,ZI])
   | (refine(aa _).thenW ?_;rintro _ _ q ai ⟨rfl,k,rfl⟩;(try simp only[Qd,Ql,Qv]at q);simp(disch:=(first | omega | (simp only[hnP];try omega))) only[Yp,Yq,Yr,Qk,simprocAttr,ZI])
   | (with_reducible refine⟨by simp[Qi,plain],by omega,?_⟩)
   | (with_reducible refine⟨by simp[Qi,plain],?_⟩)
   | fail)
 all_goals refine .ext ah ?_ ⟨?_,_,rfl⟩
 all_goals try (repeat' (first | exact Ext.refl _ | refine Ext.push ?_ _ | refine Ext.up ?_ (by simp only[Qd,Qv,Ql];omega) | refine Ext.set ?_ (by omega) _))
 all_goals simp_all [Q7,Kb,Ar.cells,Mm.cells]
def QkI (a:Ar):Int:=if(Wk a==0)=true then(if(a.k==1)=true then QgY a.r else if(a.k==2)=true then a.m.sz else 0) else 0
theorem QsR (a:Ar)(H:Qa):Qe prog 65 [.agg a.cells.toArray] H λu H'=>u=.int .i64 (QkI a)∧∃k,H'=H.up k:=by
 refine Qrd λad=>?_;have ab:=VR a;have ac:=Qzy a.r;have aa:QkI a=if(Wk a==0)=true then(if(a.k==1)=true then QgY a.r else if(a.k==2)=true then a.m.sz else 0) else 0:=rfl
 rw[aa];clear aa;generalize Wk a=e at *;generalize QgY a.r=sr at *;obtain⟨k,⟨ak,al⟩,⟨⟨ag,ah⟩,⟨ai,aj⟩,sc,d,sz⟩,n⟩:=a;simp only[Ar.cells,Rg.cells]at ab ac;simp(disch:=(first | omega | (simp only[hnP];try omega))) only[Ar.cells,QiU,Qk,simprocAttr,Jo]
 repeat' (first
   | (refine Qq (λh=>?_) (λh=>?_)<;>(try simp only[Lr,Lu]at h)<;>simp(disch:=(first | omega | (simp only[hnP];try omega))) only[Qk,simprocAttr,Jo,h])
   | (refine Qf (λh=>?_) (λh=>?_)<;>(try simp only[Lr,Lu]at h)<;>simp(disch:=(first | omega | (simp only[hnP];try omega))) only[Qk,simprocAttr,Jo,h])
   | (refine(ab _).thenW ?_;rintro _ _ q ae ⟨rfl,k,rfl⟩;(try simp only[Qd,Ql,Qv]at q);simp(disch:=(first | omega | (simp only[hnP];try omega))) only[Qk,simprocAttr,Jo])
   | (refine(ac _).thenW ?_;rintro _ _ q ae ⟨rfl,k,rfl⟩;(try simp only[Qd,Ql,Qv]at q);simp(disch:=(first | omega | (simp only[hnP];try omega))) only[Qk,simprocAttr,Jo])
   | (with_reducible refine⟨by simp[Qi,plain],by omega,?_⟩)
   | (with_reducible refine⟨by simp[Qi,plain],?_⟩)
   | fail)
 all_goals refine .ext ad ?_ ⟨?_,_,rfl⟩
 all_goals try (repeat' (first | exact Ext.refl _ | refine Ext.push ?_ _ | refine Ext.up ?_ (by simp only[Qd,Qv,Ql];omega) | refine Ext.set ?_ (by omega) _))
 all_goals simp_all []
def Za (o:Int):Bool:=decide (1<=o)&&decide (o<=322)
theorem Qii (o:Int)(H:Qa):Qe prog 42 [.int .i64 o] H λu H'=>u=.bool (Za o)∧H'=H:=by
 refine Qmb λq=>?_;simp(disch:=(first | omega | (simp only[hnP];try omega))) only[Qgb,Qk,simprocAttr,KN]
 repeat' (first
   | (refine Qq (λh=>?_) (λh=>?_)<;>(try simp only[Lr,Lu]at h)<;>simp(disch:=(first | omega | (simp only[hnP];try omega))) only[Qk,simprocAttr,KN,h])
   | (refine Qf (λh=>?_) (λh=>?_)<;>(try simp only[Lr,Lu]at h)<;>simp(disch:=(first | omega | (simp only[hnP];try omega))) only[Qk,simprocAttr,KN,h])
   | (with_reducible refine⟨by simp[Qi,plain],by omega,?_⟩)
   | (with_reducible refine⟨by simp[Qi,plain],?_⟩)
   | fail)
 all_goals refine .mk (Lb _) ⟨?_,rfl⟩
 all_goals (simp_all [Za]<;>omega)
def QoX (o:Int):Int×Bool:=if Za o=false then(0,false) else if o=1∨o=2∨o=3∨o=4∨o=5∨o=6∨o=7∨o=8∨o=9∨o=10∨o=16 then(0,true) else if o=48 then(64,true) else if o=51 then(16,false) else(8,false)
theorem QzH (o:Int)(H:Qa):Qe prog 64 [.int .i64 o] H λu H'=>u=.tuple #[.int .i64 (QoX o).1,.bool (QoX o).2]∧H'=H:=by
 refine Qxp λac=>?_;have ab:=Qii o;have q:QoX o=if Za o=false then(0,false) else if o=1∨o=2∨o=3∨o=4∨o=5∨o=6∨o=7∨o=8∨o=9∨o=10∨o=16 then(0,true) else if o=48 then(64,true) else if o=51 then(16,false) else(8,false):=rfl
 rw[q];clear q;generalize Za o=v at *;simp(disch:=(first | omega | (simp only[hnP];try omega))) only[QqJ,G6,G7,G8,G9,Va,Vb,Vc,Vd,Ve,KO,KQ,Qk,simprocAttr,Qd7]
 repeat' (first
   | (refine Qq (λh=>?_) (λh=>?_)<;>(try simp only[Lr,Lu]at h)<;>simp(disch:=(first | omega | (simp only[hnP];try omega))) only[G6,G7,G8,G9,Va,Vb,Vc,Vd,Ve,KO,KQ,Qk,simprocAttr,Qd7,h])
   | (refine Qf (λh=>?_) (λh=>?_)<;>(try simp only[Lr,Lu]at h)<;>simp(disch:=(first | omega | (simp only[hnP];try omega))) only[G6,G7,G8,G9,Va,Vb,Vc,Vd,Ve,KO,KQ,Qk,simprocAttr,Qd7,h])
   | (refine(ab _).thenW ?_;rintro _ _ aa ad ⟨rfl,rfl⟩;(try simp only[Qd,Ql,Qv]at aa);simp(disch:=(first | omega | (simp only[hnP];try omega))) only[G6,G7,G8,G9,Va,Vb,Vc,Vd,Ve,KO,KQ,Qk,simprocAttr,Qd7])
   | (with_reducible refine⟨by simp[Qi,plain],by omega,?_⟩)
   | (with_reducible refine⟨by simp[Qi,plain],?_⟩)
   | fail)
 all_goals refine .mk (Lb _) ⟨?_,rfl⟩
 all_goals simp_all []
def Qh (l:List Ar):List Value:=l.flatMap Ar.cells
theorem WT (a:Ar):a.cells.length=11:=rfl
theorem Qaf (a:Ar)(l:List Ar):Qh (a::l)=a.cells++Qh l:=by simp[Qh]
theorem Qr:∀l:List Ar,(Qh l).length=l.length * 11
 | []=>rfl
 | a::l=>by
  have:=Qr l;rw[Qaf,Lh,WT,this,Lo];omega
theorem We:∀ (l:List Ar) (i:Nat) (p:Ar),l[i]? = some p->((Qh l).drop (i * 11)).take 11=p.cells
 | [],i,p,h=>by simp at h
 | q::l,0,p,h=>by
  simp at h;subst h;rw[Qaf,BH,Lw,NO (by rw[WT];exact Lb 11),LF (by rw[WT];exact Lb 11)]
 | q::l,i+1,p,h=>by
  rw[Qaf,show(i+1) * 11=q.cells.length+i * 11 by rw[WT];omega,B3,NK (by omega),LH,NL];exact We l i p (by simpa using h)
def Qt (H:Qa)(v:Value)(l:List Ar):Prop:=QdA H v l.length (Qh l)
theorem Qt.ext {H H':Qa}{v:Value}{l:List Ar}(aa:H.Wf)(q:Ext H H')(h:Qt H v l):Qt H' v l:=QdA.ext aa q h
theorem QDO (r:Rg):0<=QgY r∧QgY r<=32:=by
 unfold QgY
 repeat' split
 all_goals decide
theorem QCf {n:Int}(h:Kt n=true):0<=n∧n<=32:=by
 simp only[Kt,Nw,L0]at h;omega
theorem QxH (a:Ar):0<=QkI a∧QkI a<=32:=by
 unfold QkI;split
 ·rename_i h;split
  ·exact QDO _
  ·split
   ·rename_i q;rw[Qnl q]at h;apply QCf;cases aa:Kt a.m.sz with
    | true=>rfl
    | false=>
     unfold Qx at h;rw[aa]at h;split at h<;>simp at h
   ·omega
 ·omega
def QW (op:Int)(l:List Ar):Int×Bool:=if Za op=false then(0,false) else if((QoX op).1==0)=false then QoX op else match l with
 | []=>(0,false)
 | a::_=>if(QkI a==0)=true then(0,false) else(8 * QkI a,(QoX op).2)
theorem Qf3 (op:Int)(v:Value)(l:List Ar)(H:Qa)(an:Qt H v l)(ar:l.length<=1000):Qe prog 44 [.agg #[.int .i64 op,v]] H λu H'=>u=.tuple #[.int .i64 (QW op l).1,.bool (QW op l).2]∧∃k,H'=H.up k:=by
 refine QvF λaj=>?_;have ak:=Qii op;have al:=QzH op;unfold QW;generalize Za op=v1 at *;generalize QoX op=v2 at *;obtain⟨au,av⟩:=v2;obtain⟨a0,cap,rfl,am⟩:=an;cases l with
 | nil=>
  have q:(((0:Nat):Int)==0)=true:=rfl;simp(disch:=(first | omega | (simp only[hnP];try omega))) only[Qib,Qk,simprocAttr,q,Xc]
  repeat' (first
    | (refine Qq (λh=>?_) (λh=>?_)<;>(try simp only[Lr,Lu]at h)<;>simp(disch:=(first | omega | (simp only[hnP];try omega))) only[Qk,simprocAttr,q,Xc,h])
    | (refine Qf (λh=>?_) (λh=>?_)<;>(try simp only[Lr,Lu]at h)<;>simp(disch:=(first | omega | (simp only[hnP];try omega))) only[Qk,simprocAttr,q,Xc,h])
    | (refine(ak _).thenW ?_;rintro _ _ aa ai ⟨rfl,rfl⟩;(try simp only[Qd,Ql,Qv]at aa);simp(disch:=(first | omega | (simp only[hnP];try omega))) only[Qk,simprocAttr,q,Xc])
    | (refine(al _).thenW ?_;rintro _ _ aa ai ⟨rfl,rfl⟩;(try simp only[Qd,Ql,Qv]at aa);simp(disch:=(first | omega | (simp only[hnP];try omega))) only[Qk,simprocAttr,q,Xc])
    | (with_reducible refine⟨by simp[Qi,plain],by omega,?_⟩)
    | (with_reducible refine⟨by simp[Qi,plain],?_⟩)
    | fail)
  all_goals refine .ext aj ?_ ⟨?_,_,rfl⟩
  all_goals try (repeat' (first | exact Ext.refl _ | refine Ext.push ?_ _ | refine Ext.up ?_ (by simp only[Qd,Qv,Ql];omega) | refine Ext.set ?_ (by omega) _))
  all_goals simp_all
 | cons a l=>
  dsimp only;have ae:(0:Int).toNat=0:=rfl;have ao:=QsR a;have aq:=QxH a;generalize QkI a=s at *;obtain⟨b,e,ro,rfl,ab⟩:=am (by simp);have q:(((l.length+1:Nat):Int)==0)=false:=by simp;omega
  have ad:((0:Int)<=0∧(0:Int)<((l.length+1:Nat):Int)):=by omega
  have hb:=aj.lt ab;have ac:IntKind.i64.wrap (8 * s)=8 * s:=w64 (by unfold I64;omega);have ag:List.take 11 (Qh (a::l))=a.cells:=by
   have:=We (a::l) 0 a rfl;simpa using this
  have ah:11<=(Qh (a::l)).length:=by rw[Qr];simp;omega
  simp(disch:=(first | omega | (simp only[hnP];try omega))) only[Qib,Qk,simprocAttr,q,ad,ae,ab,ag,ah,ac,Xc]
  repeat' (first
    | (refine Qq (λh=>?_) (λh=>?_)<;>(try simp only[Lr,Lu]at h)<;>simp(disch:=(first | omega | (simp only[hnP];try omega))) only[Qk,simprocAttr,q,ad,ae,ab,ag,ah,ac,Xc,h])
    | (refine Qf (λh=>?_) (λh=>?_)<;>(try simp only[Lr,Lu]at h)<;>simp(disch:=(first | omega | (simp only[hnP];try omega))) only[Qk,simprocAttr,q,ad,ae,ab,ag,ah,ac,Xc,h])
    | (refine(ak _).thenW ?_;rintro _ _ aa ai ⟨rfl,rfl⟩;(try simp only[Qd,Ql,Qv]at aa);simp(disch:=(first | omega | (simp only[hnP];try omega))) only[Qk,simprocAttr,q,ad,ae,ab,ag,ah,ac,Xc])
    | (refine(al _).thenW ?_;rintro _ _ aa ai ⟨rfl,rfl⟩;(try simp only[Qd,Ql,Qv]at aa);simp(disch:=(first | omega | (simp only[hnP];try omega))) only[Qk,simprocAttr,q,ad,ae,ab,ag,ah,ac,Xc])
    | (refine(ao _).thenW ?_;rintro _ _ aa ai ⟨rfl,k,rfl⟩;(try simp only[Qd,Ql,Qv]at aa);simp(disch:=(first | omega | (simp only[hnP];try omega))) only[Qk,simprocAttr,q,ad,ae,ab,ag,ah,ac,Xc])
    | (with_reducible refine⟨by simp[Qi,plain],by omega,?_⟩)
    | (with_reducible refine⟨by simp[Qi,plain],?_⟩)
    | fail)
  all_goals refine .ext aj ?_ ⟨?_,_,rfl⟩
  all_goals try (repeat' (first | exact Ext.refl _ | refine Ext.push ?_ _ | refine Ext.up ?_ (by simp only[Qd,Qv,Ql];omega) | refine Ext.set ?_ (by omega) _))
  all_goals simp_all
def Qgi (n bits:Int):Int:=if bits=8 then n % 256 else if bits=16 then n % 65536 else if bits=32 then n % 4294967296 else n
def Qgj (n bits:Int):Int:=if bits=8 then(n+128) % 256 - 128 else if bits=16 then(n+32768) % 65536 - 32768 else if bits=32 then(n+2147483648) % 4294967296 - 2147483648 else n
def WR (n bits:Int)(sg:Bool):Int×Int:=
 if(bits==8||bits==16||bits==32||bits==64)=false then(0,2)
 else if(!(n==Qgi n bits)&&!(n==Qgj n bits))=true then(0,5)
 else if sg=true then(Qgj n bits,0) else(Qgi n bits,0)
theorem Qp1 (n bits:Int)(sg:Bool)(ad:I64 n)(hb:bits=8∨bits=16∨bits=32∨bits=64)(H:Qa):Qe prog 45 [.int .i64 n,.int .i64 bits,.bool sg] H λu H'=>u=.tuple #[.int .i64 (WR n bits sg).1,.int .i64 (WR n bits sg).2]∧H'=H:=by
 refine Qkf λaj=>?_;rcases hb with rfl | rfl | rfl | rfl
 ·have t1:((8:Int)==8)=true:=rfl;have t2:((8:Int)==16)=false:=rfl;have t3:((8:Int)==32)=false:=rfl;have t4:((8:Int)==64)=false:=rfl;have ah:IntKind.i64.wrap (64 - 8)=56:=by decide
  have ae:(2:Int) ^ min (Int.toNat 56) IntKind.u64.bits=72057594037927936:=by decide
  have ag:(2:Int) ^ min (Int.toNat 56) IntKind.i64.bits=72057594037927936:=by decide
  have ai:((0:Int)<=56)=True:=eq_true (by decide);have eL:IntKind.i64.wrap ((IntKind.u64.wrap (IntKind.u64.wrap n * 72057594037927936)).fdiv 72057594037927936)=Qgi n 8:=by
   unfold I64 at ad;rw[Np _ (by decide),NU,NC,NC];rw[show Qgi n 8=n % 256 from rfl];omega
  have eC:(IntKind.i64.wrap (IntKind.u64.wrap (IntKind.u64.wrap n * 72057594037927936))).fdiv 72057594037927936=Qgj n 8:=by
   unfold I64 at ad;rw[Np _ (by decide),NU,NC,NC];rw[show Qgj n 8=(n+128) % 256 - 128 from rfl];omega
  simp(disch:=(first | omega | (simp only[hnP];try omega))) only[Jn,Q3,Q4,Q5,sxA,sxB,Nat.reduceBEq,Nat.reduceEqDiff,reduceCtorEq,mxD,mxB,Nat.reduceAdd,reduceIte,Nat.reduceLeDiff,splice,t1,t2,t3,t4,ah,ai,ae,ag,eL,eC,Wd]
  obtain⟨q,ab⟩:∃q,Qgi n 8=q:=⟨_,rfl⟩;obtain⟨cu,aa⟩:∃cu,Qgj n 8=cu:=⟨_,rfl⟩;have ac:WR n 8 sg=if(!(n==q)&&!(n==cu))=true then(0,5) else if sg=true then(cu,0) else(q,0):=by
   rw[<- ab,<- aa];rfl
  rw[ac,ab,aa];clear ac eL eC ab aa
  repeat' (first
   | (refine Qq (λh=>?_) (λh=>?_)<;>(try simp only[Lr,Lu]at h)<;>simp(disch:=(first | omega | (simp only[hnP];try omega))) only[Q3,Q4,Q5,Qk,simprocAttr,Wd,h])
   | (refine Qf (λh=>?_) (λh=>?_)<;>(try simp only[Lr,Lu]at h)<;>simp(disch:=(first | omega | (simp only[hnP];try omega))) only[Q3,Q4,Q5,Qk,simprocAttr,Wd,h])
   | fail)
  all_goals refine .mk (Lb _) ⟨?_,rfl⟩
  all_goals simp_all
 ·have t1:((16:Int)==8)=false:=rfl;have t2:((16:Int)==16)=true:=rfl;have t3:((16:Int)==32)=false:=rfl;have t4:((16:Int)==64)=false:=rfl;have ah:IntKind.i64.wrap (64 - 16)=48:=by decide
  have ae:(2:Int) ^ min (Int.toNat 48) IntKind.u64.bits=281474976710656:=by decide
  have ag:(2:Int) ^ min (Int.toNat 48) IntKind.i64.bits=281474976710656:=by decide
  have ai:((0:Int)<=48)=True:=eq_true (by decide);have eL:IntKind.i64.wrap ((IntKind.u64.wrap (IntKind.u64.wrap n * 281474976710656)).fdiv 281474976710656)=Qgi n 16:=by
   unfold I64 at ad;rw[Np _ (by decide),NU,NC,NC];rw[show Qgi n 16=n % 65536 from rfl];omega
  have eC:(IntKind.i64.wrap (IntKind.u64.wrap (IntKind.u64.wrap n * 281474976710656))).fdiv 281474976710656=Qgj n 16:=by
   unfold I64 at ad;rw[Np _ (by decide),NU,NC,NC];rw[show Qgj n 16=(n+32768) % 65536 - 32768 from rfl];omega
  simp(disch:=(first | omega | (simp only[hnP];try omega))) only[Jn,Q3,Q4,Q5,sxA,sxB,Nat.reduceBEq,Nat.reduceEqDiff,reduceCtorEq,mxD,mxB,Nat.reduceAdd,reduceIte,Nat.reduceLeDiff,splice,t1,t2,t3,t4,ah,ai,ae,ag,eL,eC,Wd]
  obtain⟨q,ab⟩:∃q,Qgi n 16=q:=⟨_,rfl⟩;obtain⟨cu,aa⟩:∃cu,Qgj n 16=cu:=⟨_,rfl⟩;have ac:WR n 16 sg=if(!(n==q)&&!(n==cu))=true then(0,5) else if sg=true then(cu,0) else(q,0):=by
   rw[<- ab,<- aa];rfl
  rw[ac,ab,aa];clear ac eL eC ab aa
  repeat' (first
   | (refine Qq (λh=>?_) (λh=>?_)<;>(try simp only[Lr,Lu]at h)<;>simp(disch:=(first | omega | (simp only[hnP];try omega))) only[Q3,Q4,Q5,Qk,simprocAttr,Wd,h])
   | (refine Qf (λh=>?_) (λh=>?_)<;>(try simp only[Lr,Lu]at h)<;>simp(disch:=(first | omega | (simp only[hnP];try omega))) only[Q3,Q4,Q5,Qk,simprocAttr,Wd,h])
   | fail)
  all_goals refine .mk (Lb _) ⟨?_,rfl⟩
  all_goals simp_all
 ·have t1:((32:Int)==8)=false:=rfl;have t2:((32:Int)==16)=false:=rfl;have t3:((32:Int)==32)=true:=rfl;have t4:((32:Int)==64)=false:=rfl;have ah:IntKind.i64.wrap (64 - 32)=32:=by decide
  have ae:(2:Int) ^ min (Int.toNat 32) IntKind.u64.bits=4294967296:=by decide
  have ag:(2:Int) ^ min (Int.toNat 32) IntKind.i64.bits=4294967296:=by decide
  have ai:((0:Int)<=32)=True:=eq_true (by decide);have eL:IntKind.i64.wrap ((IntKind.u64.wrap (IntKind.u64.wrap n * 4294967296)).fdiv 4294967296)=Qgi n 32:=by
   unfold I64 at ad;rw[Np _ (by decide),NU,NC,NC];rw[show Qgi n 32=n % 4294967296 from rfl];omega
  have eC:(IntKind.i64.wrap (IntKind.u64.wrap (IntKind.u64.wrap n * 4294967296))).fdiv 4294967296=Qgj n 32:=by
   unfold I64 at ad;rw[Np _ (by decide),NU,NC,NC];rw[show Qgj n 32=(n+2147483648) % 4294967296 - 2147483648 from rfl];omega
  simp(disch:=(first | omega | (simp only[hnP];try omega))) only[Jn,Q3,Q4,Q5,sxA,sxB,Nat.reduceBEq,Nat.reduceEqDiff,reduceCtorEq,mxD,mxB,Nat.reduceAdd,reduceIte,Nat.reduceLeDiff,splice,t1,t2,t3,t4,ah,ai,ae,ag,eL,eC,Wd]
  obtain⟨q,ab⟩:∃q,Qgi n 32=q:=⟨_,rfl⟩;obtain⟨cu,aa⟩:∃cu,Qgj n 32=cu:=⟨_,rfl⟩;have ac:WR n 32 sg=if(!(n==q)&&!(n==cu))=true then(0,5) else if sg=true then(cu,0) else(q,0):=by
   rw[<- ab,<- aa];rfl
  rw[ac,ab,aa];clear ac eL eC ab aa
  repeat' (first
   | (refine Qq (λh=>?_) (λh=>?_)<;>(try simp only[Lr,Lu]at h)<;>simp(disch:=(first | omega | (simp only[hnP];try omega))) only[Q3,Q4,Q5,Qk,simprocAttr,Wd,h])
   | (refine Qf (λh=>?_) (λh=>?_)<;>(try simp only[Lr,Lu]at h)<;>simp(disch:=(first | omega | (simp only[hnP];try omega))) only[Q3,Q4,Q5,Qk,simprocAttr,Wd,h])
   | fail)
  all_goals refine .mk (Lb _) ⟨?_,rfl⟩
  all_goals simp_all
 ·have t1:((64:Int)==8)=false:=rfl;have t2:((64:Int)==16)=false:=rfl;have t3:((64:Int)==32)=false:=rfl;have t4:((64:Int)==64)=true:=rfl;have ah:IntKind.i64.wrap (64 - 64)=0:=by decide
  have ae:(2:Int) ^ min (Int.toNat 0) IntKind.u64.bits=1:=by decide
  have ag:(2:Int) ^ min (Int.toNat 0) IntKind.i64.bits=1:=by decide
  have ai:((0:Int)<=0)=True:=eq_true (by decide);have eL:IntKind.i64.wrap ((IntKind.u64.wrap (IntKind.u64.wrap n * 1)).fdiv 1)=Qgi n 64:=by
   unfold I64 at ad;rw[Np _ (by decide),NU,NC,NC];rw[show Qgi n 64=n from rfl];omega
  have eC:(IntKind.i64.wrap (IntKind.u64.wrap (IntKind.u64.wrap n * 1))).fdiv 1=Qgj n 64:=by
   unfold I64 at ad;rw[Np _ (by decide),NU,NC,NC];rw[show Qgj n 64=n from rfl];omega
  simp(disch:=(first | omega | (simp only[hnP];try omega))) only[Jn,Q3,Q4,Q5,sxA,sxB,Nat.reduceBEq,Nat.reduceEqDiff,reduceCtorEq,mxD,mxB,Nat.reduceAdd,reduceIte,Nat.reduceLeDiff,splice,t1,t2,t3,t4,ah,ai,ae,ag,eL,eC,Wd]
  obtain⟨q,ab⟩:∃q,Qgi n 64=q:=⟨_,rfl⟩;obtain⟨cu,aa⟩:∃cu,Qgj n 64=cu:=⟨_,rfl⟩;have ac:WR n 64 sg=if(!(n==q)&&!(n==cu))=true then(0,5) else if sg=true then(cu,0) else(q,0):=by
   rw[<- ab,<- aa];rfl
  rw[ac,ab,aa];clear ac eL eC ab aa
  repeat' (first
   | (refine Qq (λh=>?_) (λh=>?_)<;>(try simp only[Lr,Lu]at h)<;>simp(disch:=(first | omega | (simp only[hnP];try omega))) only[Q3,Q4,Q5,Qk,simprocAttr,Wd,h])
   | (refine Qf (λh=>?_) (λh=>?_)<;>(try simp only[Lr,Lu]at h)<;>simp(disch:=(first | omega | (simp only[hnP];try omega))) only[Q3,Q4,Q5,Qk,simprocAttr,Wd,h])
   | fail)
  all_goals refine .mk (Lb _) ⟨?_,rfl⟩
  all_goals simp_all
theorem QcW (n bits:Int)(sg:Bool)(q:I64 n)(H:Qa):Qe prog 45 [.int .i64 n,.int .i64 bits,.bool sg] H λu H'=>u=.tuple #[.int .i64 (WR n bits sg).1,.int .i64 (WR n bits sg).2]∧H'=H:=by
 by_cases hb:bits=8∨bits=16∨bits=32∨bits=64
 ·exact Qp1 n bits sg q hb H
 ·have t1:(bits==8)=false:=by simp;omega
  have t2:(bits==16)=false:=by simp;omega
  have t3:(bits==32)=false:=by simp;omega
  have t4:(bits==64)=false:=by simp;omega
  refine Qkf λaa=>?_;simp(disch:=(first | omega | (simp only[hnP];try omega))) only[Jn,Q3,Q4,Q5,Qk,simprocAttr,t1,t2,t3,t4,Wd]
  refine .mk (Lb _) ⟨?_,rfl⟩;simp[WR,t1,t2,t3,t4]
theorem QDV (n b:Int)(h:I64 n):I64 (Qgj n b):=by
 unfold I64 at *;unfold Qgj;split
 ·omega
 ·split
  ·omega
  ·split<;>omega
theorem QDW (n b:Int)(h:I64 n):I64 (Qgi n b):=by
 unfold I64 at *;unfold Qgi;split
 ·omega
 ·split
  ·omega
  ·split<;>omega
theorem Qs5 (n b:Int)(sg:Bool)(h:I64 n):I64 (WR n b sg).1:=by
 unfold WR;split
 ·unfold I64;omega
 ·split
  ·unfold I64;omega
  ·split
   ·exact QDV n b h
   ·exact QDW n b h
def QbR:List Ar->Int
 | []=>0
 | a::l=>if(Wk a==0)=true then QbR l else Wk a
def W5 (k:Int):List Ar->Int
 | []=>0
 | a::l=>(if(a.k==k)=true then 1 else 0)+W5 k l
def QhD (n:Int):List Ar->Int
 | []=>n
 | a::l=>QhD (if(a.k==3)=true then a.n else n) l
def QO (op:Int)(l:List Ar):Int:=
 if Za op=false then 6 else if l.length>4 then 3 else if(QbR l==0)=false then QbR l
 else if(decide (1<W5 2 l)||decide (1<W5 4 l)||decide (1<W5 3 l))=true then 2
 else if(W5 3 l==0)=true then 0
 else if((QW op l).1==0)=true then 2 else(WR (QhD 0 l) (QW op l).1 (QW op l).2).2
theorem QhE (k:Int):∀ (l:List Ar) (a:Ar),W5 k (l++[a])=W5 k l+(if(a.k==k)=true then 1 else 0)
 | [],a=>by simp[W5]
 | b::l,a=>by simp only[Nm,W5,QhE k l a];omega
theorem QuT:∀ (l:List Ar) (n:Int) (a:Ar),QhD n (l++[a])=if(a.k==3)=true then a.n else QhD n l
 | [],n,a=>by simp[QhD]
 | b::l,n,a=>by simp only[Nm,QhD,QuT l _ a]
theorem QiB (k:Int):∀l:List Ar,0<=W5 k l∧W5 k l<=l.length
 | []=>by simp[W5]
 | a::l=>by
  have:=QiB k l;simp only[W5,Lo];split<;>omega
theorem Qs7 (n:Int):∀l:List Ar,QhD n l=n∨∃a∈l,QhD n l=a.n
 | []=>.inl rfl
 | a::l=>by
  unfold QhD;split
  ·rcases Qs7 a.n l with h | ⟨b,hb,h⟩
   ·exact .inr ⟨a,by simp,h⟩
   ·exact .inr ⟨b,by simp[hb],h⟩
  ·rcases Qs7 n l with h | ⟨b,hb,h⟩
   ·exact .inl h
   ·exact .inr ⟨b,by simp[hb],h⟩
theorem Qp2:∀ (l:List Ar) (i:Nat) (a:Ar),l[i]? = some a->QbR (l.drop i)=if(Wk a==0)=true then QbR (l.drop (i+1)) else Wk a
 | [],i,a,h=>by simp at h
 | b::l,0,a,h=>by simp at h;subst h;rfl
 | b::l,i+1,a,h=>by simpa using Qp2 l i a (by simpa using h)
theorem Qp3 {α:Type}(l:List α)(i:Nat)(a:α)(h:l[i]? = some a):l.take (i+1)=l.take i++[a]:=by
 rw[Nv,h];rfl
def icF (H:Qa)(op:Int)(v:Value)(A:Env)(H':Qa):Prop:=Ext H H'∧A 1=.pointer (some ⟨H.next,0,none⟩)∧H'.get H.next=some (.cells [.int .i64 op,v] 24 false)∧H.next<H'.next
theorem Gw (op:Int)(v:Value)(l:List Ar)(H:Qa)(av:Qt H v l)(aU:l.length<=1000)(aR:∀a∈l,I64 a.n):Qe prog 21 [.agg #[.int .i64 op,v]] H λu H'=>u=.int .i64 (QO op l)∧∃k,H'=H.up k:=by
 refine QtJ λal=>?_;have P4:∀A H',icF H op v A H'->Za op=true->l.length<=4->QbR l=0->A 6=.int .i64 (W5 2 l)->A 7=.int .i64 (W5 4 l)->A 8=.int .i64 (W5 3 l)->A 9=.int .i64 (QhD 0 l)->
   Qm prog Qdw ⟨Rt prog ZG H λu H'=>u=.int .i64 (QO op l)∧∃k,H'=H.up k,WL⟩ (Rt prog ZG H λu H'=>u=.int .i64 (QO op l)∧∃k,H'=H.up k) A H':=by
  rintro A H' ⟨aa,r1,g0,ai⟩ am au az ab ac ad ae;have aY:=λH' (aa:Ext H H')=>Qf3 op v l H' (av.ext al aa) aU;have ah:I64 (QhD 0 l):=by
   rcases Qs7 0 l with h | ⟨a,aj,h⟩
   ·rw[h];unfold I64;omega
   ·rw[h];exact aR a aj
  have aK:QO op l=if(decide (1<W5 2 l)||decide (1<W5 4 l)||decide (1<W5 3 l))=true then 2 else if(W5 3 l==0)=true then 0 else if((QW op l).1==0)=true then 2 else(WR (QhD 0 l) (QW op l).1 (QW op l).2).2:=by
   unfold QO;rw[Le (by simp[am]),Le (by omega),Le (by simp[az])]
  rw[aK];clear aK;generalize W5 2 l=n2 at *;generalize W5 4 l=n4 at *;generalize W5 3 l=n3 at *;generalize QhD 0 l=nn at *;generalize QW op l=ib at *;obtain⟨aO,aP⟩:=ib;have aZ:=QcW nn aO aP ah;generalize WR nn aO aP=im at *;obtain⟨bk,bm⟩:=im;obtain⟨a0,cap,rfl,ag⟩:=av;simp(disch:=(first | omega | (simp only[hnP];try omega))) only[Qdw,ZB,ZA,Zz,Qk,simprocAttr,Wp,r1,g0,ab,ac,ad,ae]
  repeat' (first
   | (refine Qq (λh=>?_) (λh=>?_)<;>(try simp only[Lr,Lu]at h)<;>simp(disch:=(first | omega | (simp only[hnP];try omega))) only[ZB,ZA,Zz,Qk,simprocAttr,Wp,r1,g0,ab,ac,ad,ae,h])
   | (refine Qf (λh=>?_) (λh=>?_)<;>(try simp only[Lr,Lu]at h)<;>simp(disch:=(first | omega | (simp only[hnP];try omega))) only[ZB,ZA,Zz,Qk,simprocAttr,Wp,r1,g0,ab,ac,ad,ae,h])
   | (refine(aY _ aa).thenW ?_;rintro _ _ ah aD ⟨rfl,k,rfl⟩;have aa:=aa.up (show _<=k from ah);simp(disch:=(first | omega | (simp only[hnP];try omega))) only[ZB,ZA,Zz,Qk,simprocAttr,Wp,r1,g0,ab,ac,ad,ae])
   | (refine(aZ _).thenW ?_;rintro _ _ ah aD ⟨rfl,rfl⟩;simp(disch:=(first | omega | (simp only[hnP];try omega))) only[ZB,ZA,Zz,Qk,simprocAttr,Wp,r1,g0,ab,ac,ad,ae])
   | fail)
  all_goals refine .ext al aa ⟨?_,_,rfl⟩
  all_goals simp_all
 have aS:∃a0 cap,v=.slice a0 l.length cap:=Qu av;obtain⟨a0,cap,ak⟩:=aS;have aJ:∀ (i:Nat) (a:Ar) (H':Qa),Ext H H'->l[i]? = some a->∃b e ro,a0=some ⟨b,0,none⟩∧H'.get b=some (.cells (Qh l) e ro)∧b<H.next∧List.take 11 (List.drop (i * 11) (Qh l))=a.cells∧i * 11+11<=(Qh l).length:=by
  intro i a H' aa hi;have bh:i<l.length:=(Lk.1 hi).1;obtain⟨a1,bg,e1,ag⟩:=av;rw[ak]at e1;cases e1;obtain⟨b,e,ro,rfl,hb⟩:=ag (by omega);exact⟨b,e,ro,rfl,by rw[aa.get b (al.lt hb)];exact hb,al.lt hb,We l i a hi,by rw[Qr];omega⟩
 have P9:∀A H',icF H op v A H'->Za op=true->l.length<=4->QbR l=0->Qm prog Qdx ⟨Rt prog ZG H λu H'=>u=.int .i64 (QO op l)∧∃k,H'=H.up k,WL⟩ (Rt prog ZG H λu H'=>u=.int .i64 (QO op l)∧∃k,H'=H.up k) A H':=by
  rintro A H' ⟨aa,r1,g0,ai⟩ am au az;simp(disch:=(first | omega | (simp only[hnP];try omega))) only[Qdx,Qk,simprocAttr,r1,g0,ak]
  refine Qo (λm A' H'=>∃i:Nat,i<=l.length∧m=l.length - i∧icF H op v A' H'∧A' 6=.int .i64 (W5 2 (l.take i))∧A' 7=.int .i64 (W5 4 (l.take i))∧A' 8=.int .i64 (W5 3 (l.take i))∧A' 9=.int .i64 (QhD 0 (l.take i))∧A' 38=.slice a0 l.length cap∧A' 39=.int .i64 l.length∧A' 40=.int .i64 i) l.length ?_ ?_
  ·refine⟨0,L7 _,by omega,⟨aa,?_,?_,ai⟩,?_,?_,?_,?_,?_,?_,?_⟩
   all_goals (try simp only[Qg,simprocAttr,r1,g0,ak])
   all_goals (first | rfl | simp[W5,QhD])
  ·rintro m A' H' ⟨i,hi,rfl,⟨aa,r1,g0,ai⟩,ab,ac,ad,ae,ax,ay,aE⟩;simp(disch:=(first | omega | (simp only[hnP];try omega))) only[QiQ,Qk,simprocAttr,r1,g0,ax,ay,aE]
   refine Qf (λq=>?_) (λq=>?_)
   ·have q:i<l.length:=by have:=Lg q;omega
    obtain⟨a,aj⟩:∃a,l[i]? = some a:=⟨_,La q⟩;obtain⟨b,e,ro,rfl,aB,aT,aq,aC⟩:=aJ i a H' aa aj;have aW:=aa.next;have d1:(0:Int)<=i∧(i:Int)<l.length:=by omega
    have d3:(i:Int).toNat=i:=by omega
    have ei:IntKind.i64.wrap ((i:Int)+1)=((i+1:Nat):Int):=by rw[w64 (by unfold I64;omega)];omega
    have bb:=QiB 2 (l.take i);have bc:=QiB 3 (l.take i);have bd:=QiB 4 (l.take i);have bi:(l.take i).length<=1000:=by rw[Sb];omega
    have e2:IntKind.i64.wrap (W5 2 (l.take i)+1)=W5 2 (l.take i)+1:=w64 (by unfold I64;omega);have e3:IntKind.i64.wrap (W5 3 (l.take i)+1)=W5 3 (l.take i)+1:=w64 (by unfold I64;omega);have e4:IntKind.i64.wrap (W5 4 (l.take i)+1)=W5 4 (l.take i)+1:=w64 (by unfold I64;omega);have aF:=QhE 2 (l.take i) a;have aG:=QhE 3 (l.take i) a;have aH:=QhE 4 (l.take i) a;have aI:=QuT (l.take i) 0 a;rw[<- Qp3 l i a aj]at aF aG aH aI;obtain⟨k,r,aX,n⟩:=a;simp only[Ar.cells]at aq;simp(disch:=(first | omega | (simp only[hnP];try omega))) only[QiP,QiO,QiN,Qk,simprocAttr,r1,g0,ab,ac,ad,ae,ax,ay,aE,d1,d3,aB,aq,aC,ei,e2,e3,e4]
    repeat' (first
     | (refine Qf (λh=>?_) (λh=>?_)<;>simp(disch:=(first | omega | (simp only[hnP];try omega))) only[Qk,simprocAttr,ab,ac,ad,ae,ax,ay,aE,ei,e2,e3,e4])
     | fail)
    all_goals refine⟨l.length - (i+1),by omega,i+1,by omega,rfl,⟨(aa.push _).set (by omega) _,?_,?_,?_⟩,?_,?_,?_,?_,?_,?_,?_⟩
    all_goals (first
     | (simp only[Qg,simprocAttr,r1,ax,ay];done)
     | (simp(disch:=(first | omega | (simp only[hnP];try omega))) only[Qsn,simprocAttr,g0];done)
     | (simp only[Qv,Qd];omega)
     | (simp only[Qg,simprocAttr,aF,aG,aH,aI,ab,ac,ad,ae];simp_all;done)
     | (simp only[Qg,simprocAttr,aF,aG,aH,aI,ab,ac,ad,ae];simp_all<;>omega))
   ·have q:i=l.length:=by have:=Ll q;omega
    subst q;rw[Nr]at ab ac ad ae;simp(disch:=(first | omega | (simp only[hnP];try omega))) only[Qk,simprocAttr]
    refine P4 _ _ ⟨aa,?_,g0,ai⟩ am au az ?_ ?_ ?_ ?_
    all_goals simp only[Qg,simprocAttr,r1,ab,ac,ad,ae]
 have P12:∀A H',icF H op v A H'->A 2=.int .i64 0->Za op=true->l.length<=4->Qm prog QcE ⟨Rt prog ZG H λu H'=>u=.int .i64 (QO op l)∧∃k,H'=H.up k,WL⟩ (Rt prog ZG H λu H'=>u=.int .i64 (QO op l)∧∃k,H'=H.up k) A H':=by
  rintro A H' ⟨aa,r1,g0,ai⟩ r2 am au;simp(disch:=(first | omega | (simp only[hnP];try omega))) only[QcE,Qk,simprocAttr,r1,g0,ak]
  refine Qo (λm A' H'=>∃i:Nat,i<=l.length∧m=l.length - i∧icF H op v A' H'∧QbR l=QbR (l.drop i)∧A' 25=.slice a0 l.length cap∧A' 26=.int .i64 l.length∧A' 27=.int .i64 i) l.length ?_ ?_
  ·refine⟨0,L7 _,by omega,⟨aa,?_,?_,ai⟩,?_,?_,?_,?_⟩
   all_goals (try simp only[Qg,simprocAttr,r1,g0,ak])
   all_goals (first | rfl | simp)
  ·rintro m A' H' ⟨i,hi,rfl,⟨aa,r1,g0,ai⟩,aA,an,ao,ar⟩;simp(disch:=(first | omega | (simp only[hnP];try omega))) only[QgM,Qk,simprocAttr,r1,g0,an,ao,ar]
   refine Qf (λq=>?_) (λq=>?_)
   ·have q:i<l.length:=by have:=Lg q;omega
    obtain⟨a,aj⟩:∃a,l[i]? = some a:=⟨_,La q⟩;obtain⟨b,e,ro,rfl,aB,aT,aq,aC⟩:=aJ i a H' aa aj;have aW:=aa.next;have d1:(0:Int)<=i∧(i:Int)<l.length:=by omega
    have d3:(i:Int).toNat=i:=by omega
    have ei:IntKind.i64.wrap ((i:Int)+1)=((i+1:Nat):Int):=by rw[w64 (by unfold I64;omega)];omega
    have aQ:=VR a;have aL:=Qp2 l i a aj;obtain⟨k,r,aX,n⟩:=a;simp only[Ar.cells]at aq aQ;simp(disch:=(first | omega | (simp only[hnP];try omega))) only[QgL,Qk,simprocAttr,r1,g0,an,ao,ar,d1,d3,aB,aq,aC,ei]
    refine(aQ _).thenW ?_;rintro _ _ ah aD ⟨rfl,aw,rfl⟩;have bj:H'.next+1<=aw:=ah;simp(disch:=(first | omega | (simp only[hnP];try omega))) only[Qk,simprocAttr,r1,g0,r2,an,ao,ar,ei,Wp]
    refine Qf (λh=>?_) (λh=>?_)
    ·simp(disch:=(first | omega | (simp only[hnP];try omega))) only[Qk,simprocAttr,r1,g0,r2,an,ao,ar,ei,Wp]
     refine .ext al (((aa.push _).set (by omega) _).up (show _<=aw from ah)) ⟨?_,_,rfl⟩;unfold QO;simp only[bne,Lr]at h;rw[Le (by simp[am]),Le (by omega),aA,aL,h];simp[h]
    ·simp(disch:=(first | omega | (simp only[hnP];try omega))) only[Qk,simprocAttr,r1,g0,r2,an,ao,ar,ei,Wp]
     refine⟨l.length - (i+1),by omega,i+1,by omega,rfl,⟨((aa.push _).set (by omega) _).up (show _<=aw from ah),?_,?_,?_⟩,?_,?_,?_,?_⟩
     ·simp only[Qg,simprocAttr,r1]
     ·simp(disch:=(first | omega | (simp only[hnP];try omega))) only[Qsn,simprocAttr,g0]
     ·show H.next<aw;omega
     ·simp only[bne,Lu]at h;rw[aA,aL,h];rfl
     all_goals simp only[Qg,simprocAttr,an,ao]
   ·have q:i=l.length:=by have:=Ll q;omega
    subst q;simp(disch:=(first | omega | (simp only[hnP];try omega))) only[Qk,simprocAttr]
    refine P9 _ _ ⟨aa,?_,g0,ai⟩ am au ?_
    ·simp only[Qg,simprocAttr,r1]
    ·rw[aA,BU];rfl
 have ba:=Qii op;have aN:QO op l=if Za op=false then 6 else if l.length>4 then 3 else QO op l:=by
  split
  ·rename_i h;unfold QO;rw[Lc h]
  ·rename_i h;split
   ·rename_i q;unfold QO;rw[Le h,Lc q]
   ·rfl
 have aV:=(Ext.refl H).push (.cells [.int .i64 op,v] 24 false);have aM:=(Ext.refl H).push (.cells [.int .i64 op,.slice a0 l.length cap] 24 false);simp(disch:=(first | omega | (simp only[hnP];try omega))) only[Qma,Qk,simprocAttr,Wp]
 refine(ba _).thenW ?_;rintro _ _ ah aD ⟨rfl,rfl⟩;simp(disch:=(first | omega | (simp only[hnP];try omega))) only[Qk,simprocAttr,Wp]
 refine Qf (λag=>?_) (λag=>?_)
 ·simp only[Lr]at ag;simp(disch:=(first | omega | (simp only[hnP];try omega))) only[Qk,simprocAttr,Wp]
  refine .ext al aV ⟨?_,_,rfl⟩;rw[aN,Lc ag]
 ·simp only[Lu]at ag;simp(disch:=(first | omega | (simp only[hnP];try omega))) only[QgN,Qk,simprocAttr,ak,Wp]
  refine Qf (λq=>?_) (λq=>?_)
  ·have q:4<l.length:=by have:=Lg q;omega
   simp(disch:=(first | omega | (simp only[hnP];try omega))) only[Qk,simprocAttr,Wp]
   refine .ext al aM ⟨?_,_,rfl⟩;rw[aN,Le (by simp[ag]),Lc q]
  ·have q:l.length<=4:=by have:=Ll q;omega
   simp(disch:=(first | omega | (simp only[hnP];try omega))) only[Qk,simprocAttr]
   refine P12 _ _ ⟨aM,?_,?_,?_⟩ ?_ ag q
   ·simp only[Qg,simprocAttr]
   ·simp(disch:=(first | omega | (simp only[hnP];try omega))) only[Qsn,simprocAttr,ak]
   ·simp only[Qd];omega
   ·simp only[Qg,simprocAttr]
def QbL (f s:Int):List Ar->Bool
 | [x,y]=>(x.k==f)&&(y.k==s)
 | _=>false
def QdJ:List Ar->Bool
 | [x,y]=>((x.k==1)&&(y.k==1))&&(x.r.c==y.r.c)
 | _=>false
theorem QlG (x y:Ar):Qh [x,y]=x.cells++y.cells:=by simp[Qh]
theorem QcR (d:Nat)(op:Int)(v:Value)(l:List Ar)(f s:Int)(H:Qa)(ro:Bool)(q:H.get d=some (.cells [.int .i64 op,v] 97 ro))(ac:Qt H v l)(aj:l.length<=1000):
  Qe prog 109 [.pointer (some ⟨d,0,none⟩),.int .i64 f,.int .i64 s] H λu H'=>u=.bool (QbL f s l)∧H'=H:=by
 refine Qn7 λah=>?_;have ai:=ah.lt q;have hb:∀x y,l=[x,y]->∃b e ro cap,v=.slice (some ⟨b,0,none⟩) 2 cap∧H.get b=some (.cells (x.cells++y.cells) e ro):=by
  rintro x y rfl;obtain⟨a0,cap,rfl,ab⟩:=ac;obtain⟨b,e,ro,rfl,hb⟩:=ab (by simp);exact⟨b,e,ro,cap,rfl,by rw[<- QlG];exact hb⟩
 by_cases h:∃x y,l=[x,y]
 ·obtain⟨x,y,rfl⟩:=h;obtain⟨b,e,ao,cap,rfl,aa⟩:=hb x y rfl;obtain⟨k,r,m,n⟩:=x;obtain⟨ak,an,al,am⟩:=y;simp only[Ar.cells,Nm,LH]at aa;have d0:((0:Int)<=0∧(0:Int)<((2:Nat):Int)):=by omega
  have d1:((0:Int)<=1∧(1:Int)<((2:Nat):Int)):=by omega
  have t0:(0:Int).toNat=0:=rfl;have t1:(1:Int).toNat=1:=rfl;have e2:(((2:Nat):Int)==2)=true:=rfl;simp(disch:=(first | omega | (simp only[hnP];try omega))) only[QaS,Qk,simprocAttr,q,aa,d0,d1,t0,t1,e2,VT]
  repeat' (first
   | (refine Qq (λh=>?_) (λh=>?_)<;>simp(disch:=(first | omega | (simp only[hnP];try omega))) only[Qk,simprocAttr,q,aa,d0,d1,t0,t1,e2,VT,h])
   | fail)
  all_goals refine .mk (Lb _) ⟨?_,rfl⟩
  all_goals simp_all [QbL]
 ·have ad:QbL f s l=false:=by
   match l,h with
   | [],_=>rfl
   | [_],_=>rfl
   | [x,y],h=>exact absurd ⟨x,y,rfl⟩ h
   | _::_::_::_,_=>rfl
  have ae:((l.length:Int)==2)=false:=by
   have:l.length≠2:=λag=>h (by
    match l,ag with
    | [x,y],_=>exact⟨x,y,rfl⟩)
   simp only[LC,Da];omega
  obtain⟨a0,cap,rfl,ab⟩:=ac;rw[ad];simp(disch:=(first | omega | (simp only[hnP];try omega))) only[QaS,Qk,simprocAttr,q,ae,VT]
  refine .mk (Lb _) ⟨rfl,rfl⟩
theorem Qe3 (d:Nat)(op:Int)(v:Value)(l:List Ar)(H:Qa)(ro:Bool)(aa:H.get d=some (.cells [.int .i64 op,v] 97 ro))(ad:Qt H v l)(ag:l.length<=1000):
  Qe prog 71 [.pointer (some ⟨d,0,none⟩)] H λu H'=>u=.bool (QdJ l)∧H'=H:=by
 refine QlK λai=>?_;have ak:=ai.lt aa;have q:=QcR d op v l 1 1 H ro aa ad ag
 by_cases h:∃x y,l=[x,y]
 ·obtain⟨x,y,rfl⟩:=h;obtain⟨a0,cap,rfl,ae⟩:=ad;obtain⟨b,e,aq,rfl,ab⟩:=ae (by simp);rw[QlG]at ab;obtain⟨k,r,m,n⟩:=x;obtain⟨al,ao,am,an⟩:=y;simp only[Ar.cells,Nm,LH,Lo,L9]at ab aa q ⊢;have d0:((0:Int)<=0∧(0:Int)<((0+1+1:Nat):Int)):=by omega
  have d1:((0:Int)<=1∧(1:Int)<((0+1+1:Nat):Int)):=by omega
  have t0:(0:Int).toNat=0:=rfl;have t1:(1:Int).toNat=1:=rfl;simp(disch:=(first | omega | (simp only[hnP];try omega))) only[GM,Qk,simprocAttr,Xs]
  refine q.thenW ?_;rintro _ _ ah aj ⟨rfl,rfl⟩;simp(disch:=(first | omega | (simp only[hnP];try omega))) only[Qk,simprocAttr,Xs]
  refine Qq (λh=>?_) (λh=>?_)
  ·simp(disch:=(first | omega | (simp only[hnP];try omega))) only[Qk,simprocAttr,aa,ab,d0,d1,t0,t1,Xs,h]
   refine .mk (Lb _) ⟨?_,rfl⟩;simp_all [QbL,QdJ]
  ·simp(disch:=(first | omega | (simp only[hnP];try omega))) only[Qk,simprocAttr,aa,ab,d0,d1,t0,t1,Xs,h]
   refine .mk (Lb _) ⟨?_,rfl⟩;simp_all [QbL,QdJ]
 ·have ac:QbL 1 1 l=false∧QdJ l=false:=by
   match l,h with
   | [],_=>exact⟨rfl,rfl⟩
   | [_],_=>exact⟨rfl,rfl⟩
   | [x,y],h=>exact absurd ⟨x,y,rfl⟩ h
   | _::_::_::_,_=>exact⟨rfl,rfl⟩
  rw[ac.1]at q;rw[ac.2];simp(disch:=(first | omega | (simp only[hnP];try omega))) only[GM,Qk,simprocAttr,Xs]
  refine q.thenW ?_;rintro _ _ ah aj ⟨rfl,rfl⟩;simp(disch:=(first | omega | (simp only[hnP];try omega))) only[Qk,simprocAttr,Xs]
  refine .mk (Lb _) ⟨rfl,rfl⟩
theorem QbM (d b cap:Nat)(op:Int)(x y:Ar)(H:Qa)(ro:Bool)(e:TypeId)(q:H.get d=some (.cells [.int .i64 op,.slice (some ⟨b,0,none⟩) 2 cap] 97 ro))(hb:H.get b=some (.cells (Qh [x,y]) e false)):
  Qe prog 72 [.pointer (some ⟨d,0,none⟩)] H λu H'=>u=.tuple #[]∧H'=(H.set b (.cells (Qh [y,y]) e false)).set b (.cells (Qh [y,x]) e false):=by
 refine QmR λaa=>?_;have ac:=aa.lt q;have ab:=aa.lt hb;have d0:((0:Int)<=0∧(0:Int)<((2:Nat):Int)):=by omega
 have d1:((0:Int)<=1∧(1:Int)<((2:Nat):Int)):=by omega
 have t0:(0:Int).toNat=0:=rfl;have t1:(1:Int).toNat=1:=rfl;rw[QlG]at hb;obtain⟨k,r,m,n⟩:=x;obtain⟨ad,ah,ae,ag⟩:=y;simp only[QlG,Ar.cells,Nm,LH]at hb ⊢;simp(disch:=(first | omega | (simp only[hnP];try omega))) only[Qew,Qk,simprocAttr,q,hb,d0,d1,t0,t1,QlL]
 refine .mk (by simp only[Qv];exact Lb _) ⟨rfl,rfl⟩
variable {P:Program} {A:Env} {H:Qa} {k:Value->Qa->Prop}
theorem QEd {t q e:TypeId}{x:Operand}{a:Option Addr}{n c:Nat}(aa:P.underlying t=some (.slice e))(ac:ev A x=.slice a n c):
  pr P (.gen (.binOp .eql t x (.const (.slice none 0 0)) q)) false A H k=k (.bool a.isNone) H:=by
 have ab:ev A (.const (.slice none 0 0))=.slice none 0 0:=rfl;have e:rop P (.gen (.binOp .eql t x (.const (.slice none 0 0)) q)) A H=some (.bool a.isNone,H):=by
  cases a<;>simp[rop,aop,Qfk,Qvm,Qqn,Jk,ac,ab,aa,aeq,Qj3,Qcx,JI,QmF,Qvk]
 rw[QHz];unfold QIP;rw[e,QJ]
theorem QiC:∀l:List Ar,(Qh l).all (·.oneCell')=true
 | []=>rfl
 | a::l=>by
  rw[Qaf,Fo,QiC l];rfl
theorem QBf (v:Value)(l:List Ar)(H:Qa)(ag:Qt H v l)(ac:l.length<=1000):Qe prog 66 [v] H λu H'=>
  Ext H H'∧((l=[]∧(u=.slice none 0 0∨u=.slice (some ⟨H.next,0,none⟩) 0 0∧H'=H.push (.cells [] 58 false)))∨(l≠[]∧u=.slice (some ⟨H.next+1,0,none⟩) l.length (UNK+11)∧H'=(H.push (.cells [] 58 false)).push (.cells (Qh l) 58 false))):=by
 refine QbQ λah=>?_;obtain⟨a0,cap,rfl,ab⟩:=ag;have q:=(Ext.refl H).push (.cells [] 58 false);simp(disch:=(first | omega | (simp only[hnP];try omega))) only[Jc,Qk,simprocAttr]
 rw[QEd (a:=a0) (e:=58) (n:=l.length) (c:=cap) (by kernel_rfl) (by simp only[JL,simprocAttr])];cases l with
 | nil=>
  cases a0 with
  | none=>
   simp(disch:=(first | omega | (simp only[hnP];try omega))) only[Qb,simprocAttr,Qsn,simprocAttr,Option.isNone,XN]
   exact .mk (Lb _) ⟨.refl _,.inl (.inl rfl)⟩
  | some x=>
   have ae:∀H1:Qa,Y4 58 11 88 (.slice (some ⟨H.next,0,none⟩) 0 0) (.slice (some x) 0 cap) H1=some (.slice (some ⟨H.next,0,none⟩) 0 0,H1):=λH1=>by simp[Y4,Zt]
   simp(disch:=(first | omega | (simp only[hnP];try omega))) only[Qb,simprocAttr,Qsn,simprocAttr,Option.isNone,L9]
   unfold QbP;rw[ae,QJ];simp(disch:=(first | omega | (simp only[hnP];try omega))) only[Qb,simprocAttr,Qsn,simprocAttr,XN]
   exact .mk q.next ⟨q,.inl (.inr ⟨rfl,rfl⟩)⟩
 | cons a l=>
  obtain⟨b,e,ro,rfl,hb⟩:=ab (by simp);have ai:=ah.lt hb;have aa:=Qr (a::l);have ad:Zt 11 (.slice (some ⟨b,0,none⟩) (l.length+1) cap) (H.push (.cells [] 58 false))=some (l.length+1,Qh (a::l)):=by
   rw[Y5 (c:=Qh (a::l)) (e:=e) (ro:=ro) (by rw[QqG (by omega)];exact hb) (by omega) (by rw[aa,Lo];omega),Lw,LF (by rw[aa,Lo];exact Lb _)]
  rw[Lo]at ac;simp(disch:=(first | omega | (simp only[hnP];try omega))) only[Qb,simprocAttr,Qsn,simprocAttr,Option.isNone]
  refine Qlw (c:=[]) (ro:=false) (e':=58) ad (QiC _) (by omega) (QqF rfl) (by simp) (by omega) (by omega) (by decide) (by omega) ?_;simp(disch:=(first | omega | (simp only[hnP];try omega))) only[Qb,simprocAttr,Qsn,simprocAttr,XN]
  refine .mk (q.push _).next ⟨q.push _,?_⟩;simp
def Qte (op:Int)(l:List Ar):Bool:=(op==16)&&QbL 1 3 l
def Quf (op:Int)(l:List Ar):Bool:=(op==10||op==11)&&QbL 1 2 l
def Qrr (op:Int):List Ar->Bool
 | [x,y]=>(op==11)&&QdJ [x,y]&&!(decide (x.r.n<=y.r.n))
 | _=>false
theorem QhG {f s:Int}{l:List Ar}(h:QbL f s l=true):∃x y,l=[x,y]:=by
 match l,h with
 | [x,y],_=>exact⟨x,y,rfl⟩
theorem QEe (d:Nat)(op:Int)(v:Value)(l:List Ar)(H:Qa)(aa:H.get d=some (.cells [.int .i64 op,v] 97 false))(ah:Qt H v l)(ad:l.length<=1000)(ak:∀x y,l=[x,y]->∃b cap,v=.slice (some ⟨b,0,none⟩) 2 cap∧H.get b=some (.cells (Qh l) 58 false)):
    Qe prog 69 [.pointer (some ⟨d,0,none⟩)] H λu H'=>u=.bool (Quf op l)∧(Quf op l=false->H'=H)∧(Quf op l=true->∃x y b cap,l=[x,y]∧v=.slice (some ⟨b,0,none⟩) 2 cap∧H'=(H.set b (.cells (Qh [y,y]) 58 false)).set b (.cells (Qh [y,x]) 58 false)):=by
  refine Qkg λaj=>?_;have an:=aj.lt aa;have q:=QcR d op v l 1 2 H false aa ah ad;have am:=λb cap x y e=>QbM d b cap op x y H false e;have ac:Quf op l=((op==10||op==11)&&QbL 1 2 l):=rfl;rw[ac];have ag:=@QhG 1 2 l;generalize QbL 1 2 l=r at *;simp(disch:=(first | omega | (simp only[hnP];try omega))) only[Qc6,Qk,simprocAttr,aa,Yg]
  repeat' (first
    | (refine Qq (λh=>?_) (λh=>?_)<;>(try simp only[bne,Lr,Lu]at h)<;>simp(disch:=(first | omega | (simp only[hnP];try omega))) only[Qk,simprocAttr,aa,Yg,h])
    | (refine Qf (λh=>?_) (λh=>?_)<;>(try simp only[bne,Lr,Lu]at h)<;>simp(disch:=(first | omega | (simp only[hnP];try omega))) only[Qk,simprocAttr,aa,Yg,h])
    | (refine q.thenW ?_;rintro _ _ ae al ⟨rfl,rfl⟩;simp(disch:=(first | omega | (simp only[hnP];try omega))) only[Qk,simprocAttr,aa,Yg])
    | fail)
  all_goals (first
    | (refine .mk (Lb _) ⟨by simp,λ_=>rfl,by simp⟩)
    | (obtain⟨x,y,ab⟩:=ag (by assumption)
       obtain⟨b,cap,ai,hb⟩:=ak x y ab;subst ab ai;refine(am b cap x y _ aa hb).thenW ?_;rintro _ _ ae al ⟨rfl,rfl⟩;simp(disch:=(first | omega | (simp only[hnP];try omega))) only[Qk,simprocAttr,Yg]
       refine .mk (by simp only[Qv];exact Lb _) ⟨by simp_all,by simp_all,λ_=>⟨x,y,b,cap,rfl,rfl,rfl⟩⟩))
theorem QCC (d:Nat)(op:Int)(v:Value)(l:List Ar)(H:Qa)(aa:H.get d=some (.cells [.int .i64 op,v] 97 false))(ai:Qt H v l)(ag:l.length<=1000)(ak:∀x y,l=[x,y]->∃b cap,v=.slice (some ⟨b,0,none⟩) 2 cap∧H.get b=some (.cells (Qh l) 58 false)):
    Qe prog 68 [.pointer (some ⟨d,0,none⟩)] H λu H'=>u=.bool (Qte op l)∧(Qte op l=false->H'=H)∧(Qte op l=true->∃x y,l=[x,y]∧H'=(H.push (.cells (Qh [x,x,y]) 58 false)).set d (.cells [.int .i64 op,.slice (some ⟨H.next,0,none⟩) 3 3] 97 false)):=by
  refine Qjy λab=>?_;have am:=ab.lt aa;have q:=QcR d op v l 1 3 H false aa ai ag;have ad:Qte op l=((op==16)&&QbL 1 3 l):=rfl;rw[ad];have ah:=@QhG 1 3 l;have ae:¬d=H.next:=by omega
  generalize QbL 1 3 l=r at *;simp(disch:=(first | omega | (simp only[hnP];try omega))) only[Qb0,Qk,simprocAttr,aa,WZ]
  repeat' (first
    | (refine Qq (λh=>?_) (λh=>?_)<;>(try simp only[bne,Lr,Lu]at h)<;>simp(disch:=(first | omega | (simp only[hnP];try omega))) only[Qk,simprocAttr,aa,WZ,h])
    | (refine Qf (λh=>?_) (λh=>?_)<;>(try simp only[bne,Lr,Lu]at h)<;>simp(disch:=(first | omega | (simp only[hnP];try omega))) only[Qk,simprocAttr,aa,WZ,h])
    | (refine q.thenW ?_;rintro _ _ an ao ⟨rfl,rfl⟩;simp(disch:=(first | omega | (simp only[hnP];try omega))) only[Qk,simprocAttr,aa,WZ])
    | fail)
  all_goals (first
    | (refine .mk (Lb _) ⟨by simp,λ_=>rfl,by simp⟩)
    | (obtain⟨x,y,ac⟩:=ah (by assumption)
       obtain⟨b,cap,aj,hb⟩:=ak x y ac;subst ac aj;obtain⟨k,r,m,n⟩:=x;obtain⟨aq,av,ar,au⟩:=y;have al:=ab.lt hb;have d0:((0:Int)<=0∧(0:Int)<((2:Nat):Int)):=by omega
       have d1:((0:Int)<=1∧(1:Int)<((2:Nat):Int)):=by omega
       have t0:(0:Int).toNat=0:=rfl;have t1:(1:Int).toNat=1:=rfl;simp only[QlG,Ar.cells,Nm,LH]at hb;simp(disch:=(first | omega | (simp only[hnP];try omega))) only[sxA,sxB,Nat.reduceBEq,Nat.reduceEqDiff,reduceCtorEq,mxA,mxB,Nat.reduceAdd,reduceIte,Nat.reduceLeDiff,splice,mxD,mxB,Nat.reduceAdd,reduceIte,Nat.reduceLeDiff,splice,aa,hb,d0,d1,t0,t1,WZ]
       rw[Lc (by decide)];simp(disch:=(first | omega | (simp only[hnP];try omega))) only[Qb,simprocAttr,Qsn,simprocAttr,aa,hb,ae,LN,d0,d1,t0,t1,WZ]
       refine .mk (by simp only[Qv,Qd];omega) ⟨rfl,λh=>h.elim,λ_=>⟨_,_,rfl,rfl⟩⟩))
theorem QEf (d:Nat)(op:Int)(v:Value)(l:List Ar)(H:Qa)(aa:H.get d=some (.cells [.int .i64 op,v] 97 false))(am:Qt H v l)(ak:l.length<=1000)(ao:∀x y,l=[x,y]->∃b cap,v=.slice (some ⟨b,0,none⟩) 2 cap∧H.get b=some (.cells (Qh l) 58 false)):
  Qe prog 70 [.pointer (some ⟨d,0,none⟩)] H λu H'=>u=.bool (Qrr op l)∧(Qrr op l=false->H'=H)∧(Qrr op l=true->∃x y b cap,l=[x,y]∧v=.slice (some ⟨b,0,none⟩) 2 cap∧H'=(H.set b (.cells (Qh [y,y]) 58 false)).set b (.cells (Qh [y,x]) 58 false)):=by
 refine Qkh λag=>?_;have au:=ag.lt aa;have q:=Qe3 d op v l H false aa am ak
 by_cases ac:∃x y,l=[x,y]
 ·obtain⟨x,y,ai⟩:=ac;obtain⟨b,cap,an,hb⟩:=ao x y ai;subst ai an;have aq:=QbM d b cap op x y H false 58 aa hb;have ar:=ag.lt hb;have aj:Qrr op [x,y]=((op==11)&&QdJ [x,y]&&!(decide (x.r.n<=y.r.n))):=rfl;rw[aj];have ab:H.get b=some (.cells (x.cells++y.cells) 58 false):=by rw[<- QlG];exact hb
  have d0:((0:Int)<=0∧(0:Int)<((2:Nat):Int)):=by omega
  have d1:((0:Int)<=1∧(1:Int)<((2:Nat):Int)):=by omega
  have t0:(0:Int).toNat=0:=rfl;have t1:(1:Int).toNat=1:=rfl;obtain⟨k,r,m,n⟩:=x;obtain⟨av,ay,aw,ax⟩:=y;simp only[Ar.cells,Nm,LH]at ab;generalize QdJ _=al at *;simp(disch:=(first | omega | (simp only[hnP];try omega))) only[KS,Qk,simprocAttr,aa,ab,d0,d1,t0,t1,Wb]
  repeat' (first
   | (refine Qq (λh=>?_) (λh=>?_)<;>(try simp only[bne,Lr,Lu]at h)<;>simp(disch:=(first | omega | (simp only[hnP];try omega))) only[Qk,simprocAttr,aa,ab,d0,d1,t0,t1,Wb,h])
   | (refine Qf (λh=>?_) (λh=>?_)<;>(try simp only[bne,Lr,Lu]at h)<;>simp(disch:=(first | omega | (simp only[hnP];try omega))) only[Qk,simprocAttr,aa,ab,d0,d1,t0,t1,Wb,h])
   | (refine q.thenW ?_;rintro _ _ ae ah ⟨rfl,rfl⟩;simp(disch:=(first | omega | (simp only[hnP];try omega))) only[Qk,simprocAttr,aa,ab,d0,d1,t0,t1,Wb])
   | (refine aq.thenW ?_;rintro _ _ ae ah ⟨rfl,rfl⟩;simp(disch:=(first | omega | (simp only[hnP];try omega))) only[Qk,simprocAttr,Wb])
   | fail)
  all_goals (first
   | (refine .mk (Lb _) ⟨by simp,λ_=>rfl,by simp⟩)
   | (refine .mk (by simp only[Qv];exact Lb _) ⟨rfl,λh=>h.elim,λ_=>⟨_,_,b,cap,rfl,rfl,rfl⟩⟩))
 ·have ad:QdJ l=false∧Qrr op l=false:=by
   match l,ac with
   | [],_=>exact⟨rfl,rfl⟩
   | [_],_=>exact⟨rfl,rfl⟩
   | [x,y],h=>exact absurd ⟨x,y,rfl⟩ h
   | _::_::_::_,_=>exact⟨rfl,rfl⟩
  rw[ad.1]at q;rw[ad.2];simp(disch:=(first | omega | (simp only[hnP];try omega))) only[KS,Qk,simprocAttr,aa,Wb]
  repeat' (first
   | (refine Qq (λh=>?_) (λh=>?_)<;>(try simp only[bne,Lr,Lu]at h)<;>simp(disch:=(first | omega | (simp only[hnP];try omega))) only[Qk,simprocAttr,aa,Wb,h])
   | (refine Qf (λh=>?_) (λh=>?_)<;>(try simp only[bne,Lr,Lu]at h)<;>simp(disch:=(first | omega | (simp only[hnP];try omega))) only[Qk,simprocAttr,aa,Wb,h])
   | (refine q.thenW ?_;rintro _ _ ae ah ⟨rfl,rfl⟩;simp(disch:=(first | omega | (simp only[hnP];try omega))) only[Qk,simprocAttr,aa,Wb])
   | fail)
  all_goals exact .mk (Lb _) ⟨rfl,λ_=>rfl,by simp⟩
def VX (q:Int×Bool)(a:Ar):Ar×Int:=
 let b:=Wx a
 if(b.2==0)=false then(a,b.2)
 else if(b.1.k==3)=true then(let aa:=WR b.1.n q.1 q.2;({b.1 with n:=aa.1},aa.2))
 else(b.1,0)
def XF (q:Int×Bool):List Ar->List Ar×Int
 | []=>([],0)
 | a::l=>if((VX q a).2==0)=true then((VX q a).1::(XF q l).1,(XF q l).2) else([],(VX q a).2)
def ZS (op:Int)(l:List Ar):List Ar:=
 if Qte op l=true then(match l with | [x,y]=>[x,x,y] | l=>l)
 else if Quf op l=true then l.reverse
 else if Qrr op l=true then l.reverse
 else l
def Wc (op:Int)(l:List Ar):Int×List Ar×Int:=
 if(QO op l==0)=false then(0,[],QO op l)
 else if((XF (QW op l) l).2==0)=false then(0,[],(XF (QW op l) l).2)
 else(op,ZS op (XF (QW op l) l).1,0)
theorem Qpc (q:Int×Bool):∀ (l:List Ar) (i:Nat) (a:Ar),l[i]? = some a->XF q (l.drop i)=if((VX q a).2==0)=true then((VX q a).1::(XF q (l.drop (i+1))).1,(XF q (l.drop (i+1))).2) else([],(VX q a).2)
 | [],i,a,h=>by simp at h
 | b::l,0,a,h=>by simp at h;subst h;rfl
 | b::l,i+1,a,h=>by simpa using Qpc q l i a (by simpa using h)
theorem Qu3 (a:Ar)(h:I64 a.n):I64 (Wx a).1.n:=by
 have q:I64 0:=by unfold I64;omega
 unfold Wx QdH;split
 ·split
  ·exact q
  ·split
   ·exact q
   ·exact h
 ·exact q
theorem Qz0 (c:List Value)(o:Nat)(l:List Value)(h:o+l.length<=c.length):(splice c o l).length=c.length:=by
 simp[splice];omega
theorem Qug (c:List Value)(o:Nat)(l:List Value)(h:o<=c.length)(j:Nat)(q:j<o):(splice c o l)[j]? = c[j]? := by
 unfold splice;rw[LY (by simp;omega),Nl,Lc q]
theorem QCD (c:List Value)(o:Nat)(v:Value)(h:o<c.length):(splice c o [v])[o]? = some v:=by
 unfold splice;rw[LR (by simp;omega)];simp[show min o c.length=o by omega]
theorem Qgm (l m:List Ar):Qh (l++m)=Qh l++Qh m:=by simp[Qh]
theorem Quh (d:List Ar)(a b:Ar)(l:List Ar):splice (Qh (d++a::l)) (d.length * 11) b.cells=Qh (d++b::l):=by
 have q:=Qr d;unfold splice;rw[Qgm,Qgm,Qaf,Qaf,<- q,List.take_left,WT];have:(Qh d++(a.cells++Qh l)).drop ((Qh d).length+11)=Qh l:=by
  rw[show(Qh d).length+11=(Qh d).length+a.cells.length by rw[WT],<- Rc,List.drop_left,List.drop_left]
 rw[this]
theorem QKo (f:Fn)(xs ys:Array Value):(Value.func f xs ys).cells.toList=[.func f xs ys]:=Nu rfl rfl
theorem QKp (f:Fn)(xs ys:Array Value):(Value.func f xs ys).oneCell'=true:=Nu rfl rfl
theorem QH5 {P:Program}(f:FuncId)(l:List Value)(H:Qa)(k:Value->Qa->Prop):cvK (.func (.func f) #[] #[]) P l H k=Qe P f l H k:=by
 show Qe P f (([]:List Value)++l++[]) H k=_;rw[LH,Na]
theorem Qf7 (a:Ar):List.take 11 a.cells=a.cells:=rfl
theorem QiD (a:Ar):(a.cells.all λv=>v.oneCell')=true:=rfl
theorem QiE {op:Int}{l:List Ar}(h:(QO op l==0)=true):l.length<=4:=by
 unfold QO at h;split at h
 ·simp at h
 ·split at h
  ·simp at h
  ·omega
def QlH (op:Int)(l:List Ar)(H:Qa)(u:Value)(H':Qa):Prop:=
 Ext H H'∧∃q,u=.tuple #[.agg #[.int .i64 (Wc op l).1,q],.int .i64 (Wc op l).2.2]∧Qt H' q (Wc op l).2.1∧∀a n c,q=.slice (some a) n c->H.next<=a.block∧a.block<H'.next
theorem Qwh {op:Int}{l:List Ar}{H H':Qa}(q:Ext H H'){e:Int}(h:Wc op l=(0,[],e)):QlH op l H (.tuple #[.agg #[.int .i64 0,.slice none 0 0],.int .i64 e]) H':=by
 unfold QlH;rw[h];exact⟨q,_,rfl,⟨none,0,rfl,λh=>absurd h (NX 0)⟩,λa n c h=>by cases h⟩
def Qwi:PC:=(.seq (.ops [⟨some 105,.mv (t 7),none,false⟩,⟨some 106,.gen (.nilCheck (t 105)),none,false⟩,⟨some 107,.fldA 0 (t 106),none,false⟩,⟨some 108,.ld false 1 (t 107),none,false⟩,⟨some 109,.mv (t 7),none,false⟩,⟨some 110,.gen (.nilCheck (t 109)),none,false⟩,⟨some 111,.fldA 1 (t 110),none,false⟩,⟨some 112,.ld false 1 (t 111),none,false⟩,⟨some 113,.build [.int .i64 0,.slice none 0 0] [(0,1,(t 108)),(1,1,(t 112))],none,false⟩,⟨none,.st 2 (t 2) (t 113),none,false⟩,⟨some 3,.mv (.const (.int .i64 0)),none,false⟩]) .ret)
section
variable (op:Int) (l:List Ar) (H:Qa)
abbrev KC:Env->Qa->Prop:=Rt prog Tryz.f46 H (QlH op l H)
theorem QEg (e:Nat->Env->Qa->Prop)(k:Env->Qa->Prop)(A:Env)(H':Qa)(D:Nat)(q:Value)(m:List Ar)(aj:Ext H H')(al:H.next+2<=D)
  (r2:A 2=.pointer (some ⟨H.next+1,0,none⟩)) (ak:A 7=.pointer (some ⟨D,0,none⟩)) (ae:H'.get (H.next+1)=some (.cells [.int .i64 0,.slice none 0 0] 24 false))
  (gD:H'.get D=some (.cells [.int .i64 op,q] 97 false)) (ah:Qt H' q m) (ab:∀a n c,q=.slice (some a) n c->H.next+2<=a.block∧a.block<H'.next) (ac:Wc op l=(op,m,0)):
  Qm prog Qwi
   ⟨KC op l H,e⟩ k A H':=by
 obtain⟨aa,cap,rfl,ag⟩:=ah;simp only[Qwi,Qb,simprocAttr,r2,ak,ae,gD,QaQ];have ad:Ext H (H'.set (H.next+1) (.cells [.int .i64 op,.slice aa m.length cap] 24 false)):=aj.set (by omega) _;refine .mk ad.next ⟨ad,_,by rw[ac],?_,λa n c h=>by have:=ab a n c h;rw[Qv];omega⟩;rw[ac];refine⟨aa,cap,rfl,λai=>?_⟩;obtain⟨b,e',ro,rfl,hb⟩:=ag ai;have:=ab _ _ _ rfl;simp only at this;exact⟨b,e',ro,rfl,by rw[Qn,Le (by omega)];exact hb⟩
theorem Qye {α:Type}{l:List α}(h:l.length=2):∃x y,l=[x,y]:=by
 match l,h with
 | [x,y],_=>exact⟨x,y,rfl⟩
theorem Qz1 {m:List Ar}(q:Qte op m=false)(aa:Quf op m=false)(ab:Qrr op m=false):ZS op m=m:=by simp[ZS,q,aa,ab]
theorem QCE (e:Nat->Env->Qa->Prop)(k:Env->Qa->Prop)(A:Env)(H':Qa)(D:Nat)(q:Value)(m:List Ar)(aL:Ext H H')(ao:H'.Wf)(aT:H.next+2<=D)
  (r2:A 2=.pointer (some ⟨H.next+1,0,none⟩)) (bk:A 7=.pointer (some ⟨D,0,none⟩)) (aH:H'.get (H.next+1)=some (.cells [.int .i64 0,.slice none 0 0] 24 false))
  (gD:H'.get D=some (.cells [.int .i64 op,q] 97 false)) (aZ:Qt H' q m) (az:m.length<=1000) (am:∀a n c,q=.slice (some a) n c->H.next+2<=a.block∧¬a.block=D∧a.block<H'.next)
  (bc:∀x y,m=[x,y]->∃b cap,q=.slice (some ⟨b,0,none⟩) 2 cap∧H'.get b=some (.cells (Qh m) 58 false)) (av:Wc op l=(op,ZS op m,0)):
  Qm prog VO ⟨KC op l H,e⟩ k A H':=by
 have tail:=λA2 H2 ax aD aB a b c d f g h=>QEg op l H e k A2 H2 D ax aD aB aT a b c d f g h;have aU:=ao.lt gD;have bn:=aL.next;have aV:=ao.lt aH;obtain⟨aO,aR⟩:∃aO,VO=.seq (.seq (.ops [⟨some 95,.bslice aO 1 3 [.nilFunc,.nilFunc,.nilFunc] [(0,(.func 68)),(1,(.func 69)),(2,(.func 70))],none,false⟩,⟨some 96,.lenS (t 95),none,false⟩,⟨some 97,.mv (.const (.int .i64 0)),none,false⟩]) (.block 4 (.loop Qdy))) Qwi:=⟨_,rfl⟩;rw[aR,V5];generalize aW:Qm prog Qwi ⟨KC op l H,e⟩ k=T;have aF:=λA2 H2 ax aD aB a b c d f g h=>(by rw[<- aW];exact tail A2 H2 ax aD aB a b c d f g h:T A2 H2);simp(disch:=(first | omega | (simp only[hnP];try omega))) only[Qk,simprocAttr,QKo,QKp,Nat.reduceMul,Nat.reduceLeDiff,N3]
 generalize aX:Blk.cells [.func (.func 68) #[] #[],.func (.func 69) #[] #[],.func (.func 70) #[] #[]] _ false=bl;have ac:Ext H' (H'.push bl):=(Ext.refl _).push _;have aG:(H'.push bl).get H'.next=some bl:=by rw[Qc,Lc rfl]
 have bd:=ao.push bl;have bb:(H'.push bl).next=H'.next+1:=rfl;generalize bm:H'.push bl=Hp at ac aG bd bb;subst aX;have aC:=aL.trans ac;have ai:Hp.get D=some (.cells [.int .i64 op,q] 97 false):=by rw[ac.get _ aU];exact gD
 have ay:Hp.get (H.next+1)=some (.cells [.int .i64 0,.slice none 0 0] 24 false):=by rw[ac.get _ aV];exact aH
 have au:Qt Hp q m:=aZ.ext ao ac;have aA:∀x y,m=[x,y]->∃b cap,q=.slice (some ⟨b,0,none⟩) 2 cap∧Hp.get b=some (.cells (Qh m) 58 false):=λx y h=>by
  obtain⟨b,cap,aS,ab⟩:=bc x y h;exact⟨b,cap,aS,by rw[ac.get _ (ao.lt ab)];exact ab⟩
 have bh:=QCC D op q m Hp ai au az aA;have bi:=QEe D op q m Hp ai au az aA;have bj:=QEf D op q m Hp ai au az aA;have aJ:∀x y,m=[x,y]->∀b cap,q=.slice (some ⟨b,0,none⟩) 2 cap->Wc op l=(op,[y,x],0)->∀A2,A2 2=.pointer (some ⟨H.next+1,0,none⟩)->A2 7=.pointer (some ⟨D,0,none⟩)->T A2 ((Hp.set b (.cells (Qh [y,y]) 58 false)).set b (.cells (Qh [y,x]) 58 false)):=by
  intro x y ad b cap ag ba A2 a2 a7;have aY:=am _ _ _ ag;simp only at aY;refine aF A2 _ q [y,x] ((aC.set (by omega) _).set (by omega) _) a2 a7 ?_ ?_ ⟨some ⟨b,0,none⟩,cap,by rw[ag];rfl,λ_=>⟨b,_,_,rfl,by rw[Qn,Lc rfl]⟩⟩ (λa n c h=>⟨(am a n c h).1,by have:=(am a n c h).2.2;have:=ac.next;simp only[Qv];omega⟩) ba
  ·rw[Qn,Le (by omega),Qn,Le (by omega)];exact ay
  ·rw[Qn,Le (by omega),Qn,Le (by omega)];exact ai
 refine Qo (λaM A2 H2=>∃i:Nat,i<=3∧aM=3 - i∧H2=Hp∧A2 2=.pointer (some ⟨H.next+1,0,none⟩)∧A2 7=.pointer (some ⟨D,0,none⟩)∧A2 95=.slice (some ⟨H'.next,0,none⟩) 3 3∧A2 96=.int .i64 ((3:Nat):Int)∧A2 97=.int .i64 i∧(0<i->Qte op m=false)∧(1<i->Quf op m=false)∧(2<i->Qrr op m=false)) 3 ?_ ?_
 ·refine⟨0,L7 _,by omega,rfl,?_,?_,?_,?_,?_,λh=>by omega,λh=>by omega,λh=>by omega⟩
  all_goals simp only[Qg,simprocAttr,r2,bk]
  all_goals rfl
 ·rintro aM A2 H2 ⟨i,hi,rfl,rfl,a2,a7,aq,ar,ah,aE,aN,bg⟩;simp only[Qdy,QiR,sxA,sxB,Nat.reduceBEq,Nat.reduceEqDiff,reduceCtorEq,mxA,mxB,Nat.reduceAdd,reduceIte,Nat.reduceLeDiff,splice,ar,ah];refine Qf (λab=>?_) (λab=>?_)
  ·have ab:i<3:=by have:=Lg ab;omega
   have aP:(0:Int)<=i∧(i:Int)<((3:Nat):Int):=by omega
   have aQ:(i:Int).toNat=i:=by omega
   have ei:IntKind.i64.wrap ((i:Int)+1)=((i+1:Nat):Int):=by rw[w64 (by unfold I64;omega)];omega
   simp only[sxA,sxB,Nat.reduceBEq,Nat.reduceEqDiff,reduceCtorEq,mxA,mxB,Nat.reduceAdd,reduceIte,Nat.reduceLeDiff,splice,a7,aq,ah,aP,aQ,aG];obtain rfl | rfl | rfl:i=0∨i=1∨i=2:=by omega
   ·simp only[sxA,sxB,Nat.reduceBEq,Nat.reduceEqDiff,reduceCtorEq,mxA,mxB,Nat.reduceAdd,reduceIte,Nat.reduceLeDiff,splice,QH5];refine bh.thenW ?_;rintro _ H3 aI aK ⟨rfl,aj,al⟩;simp only[sxA,sxB,Nat.reduceBEq,Nat.reduceEqDiff,reduceCtorEq,mxA,mxB,Nat.reduceAdd,reduceIte,Nat.reduceLeDiff,splice];cases aa:Qte op m with
    | false=>
     rw[aj aa];simp only[sxA,sxB,Nat.reduceBEq,Nat.reduceEqDiff,reduceCtorEq,mxA,mxB,Nat.reduceAdd,reduceIte,Nat.reduceLeDiff,splice,ah,ei];refine⟨2,by omega,1,by omega,rfl,rfl,?_,?_,?_,?_,?_,λ_=>(by first | exact aa | trivial),λh=>by omega,λh=>by omega⟩
     all_goals simp only[Qg,simprocAttr,a2,a7,aq,ar]
    | true=>
     obtain⟨x,y,ad,ak⟩:=al aa;have an:ZS op m=[x,x,y]:=by unfold ZS;rw[Lc aa,ad]
     simp only[Qb,simprocAttr];rw[ak];refine aF _ _ (.slice (some ⟨H2.next,0,none⟩) 3 3) [x,x,y] ((aC.push _).set (by omega) _) (by first | exact a2 | simp only[Qg,simprocAttr,a2]) (by first | exact a7 | simp only[Qg,simprocAttr,a7]) ?_ ?_ ⟨_,_,rfl,λ_=>⟨H2.next,_,_,rfl,by rw[Qn,Le (by omega),Qc,Lc rfl]⟩⟩ (λa n c h=>by cases h;simp only[Qv,Qd];omega) (by rw[av,an])
     ·rw[Qn,Le (by omega),Qc,Le (by omega)];exact ay
     ·rw[Qn,Lc rfl]
   ·have aa:=aE (by omega);simp only[sxA,sxB,Nat.reduceBEq,Nat.reduceEqDiff,reduceCtorEq,mxA,mxB,Nat.reduceAdd,reduceIte,Nat.reduceLeDiff,splice,QH5];refine bi.thenW ?_;rintro _ H3 aI aK ⟨rfl,aj,al⟩;simp only[sxA,sxB,Nat.reduceBEq,Nat.reduceEqDiff,reduceCtorEq,mxA,mxB,Nat.reduceAdd,reduceIte,Nat.reduceLeDiff,splice];cases ae:Quf op m with
    | false=>
     rw[aj ae];simp only[sxA,sxB,Nat.reduceBEq,Nat.reduceEqDiff,reduceCtorEq,mxA,mxB,Nat.reduceAdd,reduceIte,Nat.reduceLeDiff,splice,ah,ei];refine⟨1,by omega,2,by omega,rfl,rfl,?_,?_,?_,?_,?_,λ_=>(by first | exact aa | trivial),λ_=>(by first | exact ae | trivial),λh=>by omega⟩
     all_goals simp only[Qg,simprocAttr,a2,a7,aq,ar]
    | true=>
     obtain⟨x,y,b,cap,ad,ag,ak⟩:=al ae;have an:ZS op m=[y,x]:=by simp only[ZS,aa,ae];rw[ad];rfl
     simp only[Qb,simprocAttr];rw[ak];exact aJ x y ad b cap ag (by rw[av,an]) _ (by first | exact a2 | simp only[Qg,simprocAttr,a2]) (by first | exact a7 | simp only[Qg,simprocAttr,a7])
   ·have aa:=aE (by omega);have ae:=aN (by omega);simp only[sxA,sxB,Nat.reduceBEq,Nat.reduceEqDiff,reduceCtorEq,mxA,mxB,Nat.reduceAdd,reduceIte,Nat.reduceLeDiff,splice,QH5];refine bj.thenW ?_;rintro _ H3 aI aK ⟨rfl,aj,al⟩;simp only[sxA,sxB,Nat.reduceBEq,Nat.reduceEqDiff,reduceCtorEq,mxA,mxB,Nat.reduceAdd,reduceIte,Nat.reduceLeDiff,splice];cases aw:Qrr op m with
    | false=>
     rw[aj aw];simp only[sxA,sxB,Nat.reduceBEq,Nat.reduceEqDiff,reduceCtorEq,mxA,mxB,Nat.reduceAdd,reduceIte,Nat.reduceLeDiff,splice,ah,ei];refine⟨0,by omega,3,by omega,rfl,rfl,?_,?_,?_,?_,?_,λ_=>(by first | exact aa | trivial),λ_=>(by first | exact ae | trivial),λ_=>(by first | exact aw | trivial)⟩
     all_goals simp only[Qg,simprocAttr,a2,a7,aq,ar]
    | true=>
     obtain⟨x,y,b,cap,ad,ag,ak⟩:=al aw;have an:ZS op m=[y,x]:=by simp only[ZS,aa,ae,aw];rw[ad];rfl
     simp only[Qb,simprocAttr];rw[ak];exact aJ x y ad b cap ag (by rw[av,an]) _ (by first | exact a2 | simp only[Qg,simprocAttr,a2]) (by first | exact a7 | simp only[Qg,simprocAttr,a7])
  ·have ab:i=3:=by have:=Ll ab;omega
   subst ab;simp only[Qb,simprocAttr];exact aF _ _ q m aC (by first | exact a2 | simp only[Qg,simprocAttr,a2]) (by first | exact a7 | simp only[Qg,simprocAttr,a7]) ay ai au (λa n c h=>⟨(am a n c h).1,by have:=(am a n c h).2.2;have:=ac.next;omega⟩) (by rw[av,Qz1 op (aE (by omega)) (aN (by omega)) (bg (by omega))])
theorem QEh (b:Ar)(x:Int):splice b.cells 10 [.int .i64 x]=({b with n:=x}:Ar).cells:=by simp[splice,Ar.cells]
theorem Qyf (q:Int×Bool):XF q []=([],0):=rfl
theorem QEi (e:Nat->Env->Qa->Prop)(k:Env->Qa->Prop)(A:Env)(H':Qa)(D V cb cap:Nat)(ad:Option Addr)(ah:List Value)(al:TypeId)(aT:Ext H H')(bE:H'.Wf)(b4:H.next+2<=D)(bX:H.next+2<=V)(bW:¬D=V)
  (r2:A 2=.pointer (some ⟨H.next+1,0,none⟩)) (r5:A 5=.int .i64 (QW op l).1) (bo:A 6=.bool (QW op l).2) (bR:A 7=.pointer (some ⟨D,0,none⟩)) (bS:A 8=.slice (some ⟨V,0,none⟩) l.length l.length)
  (aw:H'.get (H.next+1)=some (.cells [.int .i64 0,.slice none 0 0] 24 false))
  (gD:H'.get D=some (.cells [.int .i64 op,.slice ad l.length cap] 97 false)) (gV:H'.get V=some (.cells ah al false)) (ce:ah.length=l.length) (bD:∀j,j<l.length->ah[j]? = some (.pointer (some ⟨cb,j * 11,none⟩)))
  (aC:0<l.length->ad=some ⟨cb,0,none⟩∧H.next+2<=cb∧¬cb=D∧¬cb=V∧H'.get cb=some (.cells (Qh l) 58 false)) (b8:∀a,ad=some a->H.next+2<=a.block∧¬a.block=D∧a.block<D)
  (aO:(QO op l==0)=true) (b5:∀a∈l,I64 a.n):Qm prog Gm ⟨KC op l H,e⟩ k A H':=by
 have cc:=QiE aO;have bw:Gm=.seq (.seq (.ops [⟨some 58,.mv (t 8),none,false⟩,⟨some 59,.lenS (t 58),none,false⟩,⟨some 60,.mv (.const (.int .i64 0)),none,false⟩]) (.block 2 (.loop QcF))) VP:=rfl;rw[bw,V5];have bx:VP=.seq (.label 0) VO:=rfl;generalize b6:Qm prog VP ⟨KC op l H,e⟩ k=T;generalize bd:QW op l=ib at *;obtain⟨q,aa⟩:=ib;simp only at r5 bo;have b9:∀m,XF (q,aa) l=(m,0)->Wc op l=(op,ZS op m,0):=λm h=>by
  unfold Wc;rw[bd,h,aO];rfl
 have bg:∀m x,XF (q,aa) l=(m,x)->(x==0)=false->Wc op l=(0,[],x):=λm x h aT=>by
  unfold Wc;rw[bd,h,aO];simp[aT]
 simp only[Qb,simprocAttr,bS];refine Qo (λaE A2 H2=>∃ (i:Nat) (ab:List Ar),i<=l.length∧aE=l.length - i∧ab.length=i∧XF (q,aa) l=(ab++(XF (q,aa) (l.drop i)).1,(XF (q,aa) (l.drop i)).2)∧Ext H H2∧H2.Wf∧
  A2 2=.pointer (some ⟨H.next+1,0,none⟩)∧A2 5=.int .i64 q∧A2 6=.bool aa∧A2 7=.pointer (some ⟨D,0,none⟩)∧A2 58=.slice (some ⟨V,0,none⟩) l.length l.length∧A2 59=.int .i64 (l.length:Int)∧A2 60=.int .i64 i∧
  H2.get (H.next+1)=some (.cells [.int .i64 0,.slice none 0 0] 24 false)∧H2.get D=some (.cells [.int .i64 op,.slice ad l.length cap] 97 false)∧H2.get V=some (.cells ah al false)∧(0<l.length->H2.get cb=some (.cells (Qh (ab++l.drop i)) 58 false))) l.length ?_ ?_
 ·refine⟨0,[],L7 _,by omega,rfl,rfl,aT,bE,?_,?_,?_,?_,?_,?_,?_,aw,gD,gV,λh=>(aC h).2.2.2.2⟩
  all_goals simp only[Qg,simprocAttr,r2,r5,bo,bR]
  all_goals rfl
 ·rintro aE A2 H2 ⟨i,ab,hi,rfl,aj,ao,bk,bj,a2,a5,a6,a7,aH,aI,au,aw,gD,gV,ae⟩;simp only[QcF,Qb,simprocAttr,aI,au];refine Qf (λac=>?_) (λac=>?_)
  ·have ac:i<l.length:=by have:=Lg ac;omega
   obtain⟨aA,ca,bY,bZ,_⟩:=aC (by omega);have ae:=ae (by omega);have bu:(0:Int)<=i∧(i:Int)<l.length:=by omega
   have bv:(i:Int).toNat=i:=by omega
   have ei:IntKind.i64.wrap ((i:Int)+1)=((i+1:Nat):Int):=by rw[w64 (by unfold I64;omega)];omega
   have bC:=bD i ac;have bi:=La ac;have bc:l.drop i=l[i]::l.drop (i+1):=Nh ac;have az:=Qpc (q,aa) l i _ bi;have ba:=b5 _ (Nb ac);generalize l[i]=a at bi bc az ba;rw[bc]at ae;have aD:=Qr (ab++a::l.drop (i+1));have bA:(ab++a::l.drop (i+1)).length=l.length:=by simp;omega
   rw[bA]at aD;have aJ:i * 11+11<=l.length * 11:=by omega
   have d1:=We (ab++a::l.drop (i+1)) i a (by rw[LR (by omega),aj,BJ];rfl);simp only[QgP,Qb,simprocAttr,aH,au,bu,bv,gV,bC,ae,aD,aJ,d1];refine(Qrl a H2).thenW ?_;rintro _ _ bh ak ⟨rfl,k3,rfl⟩;simp only[Ql]at bh;have aP:=Qu3 a ba;have an:VX (q,aa) a=if((Wx a).2==0)=false then(a,(Wx a).2) else if((Wx a).1.k==3)=true then({(Wx a).1 with n:=(WR (Wx a).1.n q aa).1},(WR (Wx a).1.n q aa).2) else((Wx a).1,0):=rfl
   generalize Wx a=bb at aP an;obtain⟨b,br⟩:=bb;simp only at aP an;have aV:=bk.up bh;have aM:(H2.up k3).get (H.next+1)=some (.cells [.int .i64 0,.slice none 0 0] 24 false):=by rw[Zk];exact aw
   have aL:(H2.up k3).get D=some (.cells [.int .i64 op,.slice ad l.length cap] 97 false):=by rw[Zk];exact gD
   have aN:(H2.up k3).get V=some (.cells ah al false):=by rw[Zk];exact gV
   have aK:(H2.up k3).get cb=some (.cells (Qh (ab++a::l.drop (i+1))) 58 false):=by rw[Zk];exact ae
   generalize H2.up k3=H3 at ak aV aM aL aN aK;simp only[Qb,simprocAttr,WT,Qf7,QiD];obtain⟨H4,ay⟩:∃h,h=(H3.push (.cells [.int .i64 0,.int .i64 0,.int .i64 0,.int .i64 0,.int .i64 0,.int .i64 0,.int .i64 0,.int .i64 0,.int .i64 0,.int .i64 0,.int .i64 0] 58 false)).set H3.next (.cells b.cells 58 false):=⟨_,rfl⟩;have aS:H4.Wf:=by rw[ay];exact(ak.push _).set (by rw[Qc,Lc rfl]) _
   have aq:Ext H3 H4:=by rw[ay];exact((Ext.refl H3).push _).set (Lb _) _
   have gB:H4.get H3.next=some (.cells b.cells 58 false):=by rw[ay,Qn,Lc rfl]
   have lR:=ak.lt aM;have bH:=ak.lt aL;have bI:=ak.lt aN;have lC:=ak.lt aK;have ax:=(aq.get _ lR).trans aM;have aY:=(aq.get _ bH).trans aL;have aZ:=(aq.get _ bI).trans aN;have av:=(aq.get _ lC).trans aK;have aU:=aV.trans aq;have b0:b.cells[0]? = some (.int .i64 b.k):=rfl;have bq:b.cells[10]? = some (.int .i64 b.n):=rfl;simp only[<- ay,Qb,simprocAttr];cases aG:br==0 with
   | false=>
    have ag:Ext H (H4.set (H.next+1) (.cells [.int .i64 0,.slice none 0 0] 24 false)):=aU.set (by omega) _;simp only[Qb,simprocAttr,a2,ax,QaQ];refine .mk ag.next (Qwh ag (bg _ _ ao ?_ |>.trans ?_))
    all_goals (rw[az,an,aG];simp[aG])
   | true=>
    simp only[QiT,Qb,simprocAttr,gB,b0];have aR:=λai:Ar=>Quh ab a ai (l.drop (i+1));simp only[splice,aj,WT]at aR;have aX:∀ (ai:Ar) (H5:Qa) (A3:Env),VX (q,aa) a=(ai,0)->Ext H H5->H5.Wf->H5.get (H.next+1)=some (.cells [.int .i64 0,.slice none 0 0] 24 false)->H5.get D=some (.cells [.int .i64 op,.slice ad l.length cap] 97 false)->H5.get V=some (.cells ah al false)->H5.get cb=some (.cells (Qh (ab++a::l.drop (i+1))) 58 false)->
      A3 2=.pointer (some ⟨H.next+1,0,none⟩)->A3 5=.int .i64 q->A3 6=.bool aa->A3 7=.pointer (some ⟨D,0,none⟩)->A3 58=.slice (some ⟨V,0,none⟩) l.length l.length->A3 59=.int .i64 (l.length:Int)->A3 60=.int .i64 ((i+1:Nat):Int)->
      Qsl (λaE A2 H2=>∃ (i:Nat) (ab:List Ar),i<=l.length∧aE=l.length - i∧ab.length=i∧XF (q,aa) l=(ab++(XF (q,aa) (l.drop i)).1,(XF (q,aa) (l.drop i)).2)∧Ext H H2∧H2.Wf∧
  A2 2=.pointer (some ⟨H.next+1,0,none⟩)∧A2 5=.int .i64 q∧A2 6=.bool aa∧A2 7=.pointer (some ⟨D,0,none⟩)∧A2 58=.slice (some ⟨V,0,none⟩) l.length l.length∧A2 59=.int .i64 (l.length:Int)∧A2 60=.int .i64 i∧
  H2.get (H.next+1)=some (.cells [.int .i64 0,.slice none 0 0] 24 false)∧H2.get D=some (.cells [.int .i64 op,.slice ad l.length cap] 97 false)∧H2.get V=some (.cells ah al false)∧(0<l.length->H2.get cb=some (.cells (Qh (ab++l.drop i)) 58 false))) (l.length - i) A3 (H5.set cb (.cells (Qh (ab++ai::l.drop (i+1))) 58 false)):=by
     intro ai H5 A3 b7 ag bF b2 b1 b3 bz bK bL bO bQ bM bN bP;refine⟨l.length - (i+1),by omega,i+1,ab++[ai],by omega,rfl,by simp[aj],?_,ag.set (by omega) _,bF.set bz _,bK,bL,bO,bQ,bM,bN,bP,?_,?_,?_,λ_=>?_⟩
     ·rw[ao,az,b7];simp
     ·rw[Qn,Le (by omega)];exact b2
     ·rw[Qn,Le (by omega)];exact b1
     ·rw[Qn,Le (by omega)];exact b3
     ·rw[Qn,Lc rfl,LQ];rfl
    cases bn:b.k==3 with
    | false=>
     have aQ:VX (q,aa) a=(b,0):=by rw[an,aG,bn];rfl
     simp only[Qb,simprocAttr,gB,av,aD,aJ,WT,Qf7,QiD,aR,au,ei];refine aX b H4 _ aQ aU aS ax aY aZ av ?_ ?_ ?_ ?_ ?_ ?_ ?_
     all_goals simp only[Qg,simprocAttr,a2,a5,a6,a7,aH,aI]
    | true=>
     have aB:VX (q,aa) a=({b with n:=(WR b.n q aa).1},(WR b.n q aa).2):=by rw[an,aG,bn];rfl
     simp only[QiS,Qb,simprocAttr,gB,bq,a5,a6];refine(QcW b.n q aa aP H4).thenW ?_;rintro _ H4 _ aS ⟨rfl,rfl⟩;generalize WR b.n q aa=im at aB;obtain⟨ar,bG⟩:=im;simp only at aB;have bB:=QEh b ar;simp only[splice,Nat.reduceAdd,Lo,L9]at bB;have bV:∀bl,(H4.set H3.next bl).get H3.next=some bl:=λbl=>by rw[Qn,Lc rfl]
     have bU:∀bl,(H4.set H3.next bl).Wf:=λbl=>aS.set gB bl;have bp:∀bl,Ext H (H4.set H3.next bl):=λbl=>aU.set (by have:=aV.next;omega) bl;have aF:∀bl id,¬id=H3.next->(H4.set H3.next bl).get id=H4.get id:=λbl id h=>by rw[Qn,Le h]
     have bT:(b.cells.take 10++(Value.int .i64 ar::b.cells.drop 11))=({b with n:=ar}:Ar).cells:=by simp[Ar.cells]
     have bm:¬H.next+1=H3.next:=by omega
     have nD:¬D=H3.next:=by omega
     have bJ:¬V=H3.next:=by omega
     have nC:¬cb=H3.next:=by omega
     simp only[Qb,simprocAttr,gB,WT,Qf7,QiD,bT];cases aW:bG==0 with
     | false=>
      have ag:∀bl,Ext H ((H4.set H3.next bl).set (H.next+1) (.cells [.int .i64 0,.slice none 0 0] 24 false)):=λbl=>(bp bl).set (by omega) _;simp only[Qb,simprocAttr,a2,bm,ax,QaQ];refine .mk (ag _).next (Qwh (ag _) (bg _ _ ao ?_ |>.trans ?_))
      all_goals (rw[az,aB];simp[aW])
     | true=>
      have aQ:VX (q,aa) a=({b with n:=ar},0):=by rw[aB];simp at aW;rw[aW]
      simp only[Qb,simprocAttr,nC,gB,av,aD,aJ,WT,Qf7,QiD,aR,au,ei];refine aX {b with n:=ar} (H4.set H3.next _) _ aQ (bp _) (bU _) ((aF _ _ bm).trans ax) ((aF _ _ nD).trans aY) ((aF _ _ bJ).trans aZ) ((aF _ _ nC).trans av) ?_ ?_ ?_ ?_ ?_ ?_ ?_
      all_goals simp only[Qg,simprocAttr,a2,a5,a6,a7,aH,aI]
  ·have ac:i=l.length:=by have:=Ll ac;omega
   subst ac;simp only[Qb,simprocAttr];rw[<- b6,bx,V5,QqC];rw[BU,Qyf,Na]at ao;refine QCE op l H e k _ H2 D _ ab bk bj b4 (by simp only[Qg,simprocAttr,a2]) (by simp only[Qg,simprocAttr,a7]) aw gD ⟨ad,cap,by rw[aj],λh=>?_⟩ (by omega) (λa n c h=>by cases h;have:=b8 _ rfl;have:=bj.lt gD;omega) (λx y h=>?_) (b9 _ ao)
   ·have am:0<l.length:=by omega
    obtain⟨aA,_⟩:=aC am;have:=ae am;rw[BU,Na]at this;exact⟨cb,_,_,aA,this⟩
   ·have am:0<l.length:=by rw[<- aj,h];simp
    obtain⟨aA,_⟩:=aC am;have:=ae am;rw[BU,Na]at this;exact⟨cb,cap,by rw[aA,<- aj,h];rfl,this⟩
theorem QCF (z:Array Value)(m:Nat):(YM z m).length=m:=by simp[YM]
theorem Qwj (v:Value)(ah:Qt H v l)(ar:l.length<=1000)(aF:∀a∈l,I64 a.n):Qe prog 46 [.agg #[.int .i64 op,v]] H (QlH op l H):=by
 refine QtK λai=>?_;obtain⟨a0,q,rfl,_⟩:=id ah;have aP:Ext H ((H.push (.cells [.int .i64 op,.slice a0 l.length q] 24 false)).push (.cells [.int .i64 0,.slice none 0 0] 24 false)):=((Ext.refl H).push _).push _;have bv:¬H.next=H.next+1:=by omega
 have az:((H.push (.cells [.int .i64 op,.slice a0 l.length q] 24 false)).push (.cells [.int .i64 0,.slice none 0 0] 24 false)).get H.next=some (.cells [.int .i64 op,.slice a0 l.length q] 24 false):=by rw[Qc,Qd,Le bv,Qc,Lc rfl]
 have aZ:((H.push (.cells [.int .i64 op,.slice a0 l.length q] 24 false)).push (.cells [.int .i64 0,.slice none 0 0] 24 false)).get (H.next+1)=some (.cells [.int .i64 0,.slice none 0 0] 24 false):=by rw[Qc,Qd,Lc rfl]
 have b6:=(ai.push (.cells [.int .i64 op,.slice a0 l.length q] 24 false)).push (.cells [.int .i64 0,.slice none 0 0] 24 false);have b3:((H.push (.cells [.int .i64 op,.slice a0 l.length q] 24 false)).push (.cells [.int .i64 0,.slice none 0 0] 24 false)).next=H.next+2:=by simp only[Qd]
 simp only[Qmc,Qb,simprocAttr];refine Qxf (λ_ _ _=>False) 0 ?_ (λ_ _ _ h=>h.elim);generalize (H.push (.cells [.int .i64 op,.slice a0 l.length q] 24 false)).push (.cells [.int .i64 0,.slice none 0 0] 24 false)=H0 at *;generalize jmK 0 _ 0 _=e;simp only[QgT,Qb,simprocAttr,az];refine(Gw op _ l H0 (ah.ext ai aP) ar aF).thenW ?_;rintro _ _ aJ b7 ⟨rfl,k1,rfl⟩;simp only[Ql]at aJ;have au:=aP.up aJ;have aA:(H0.up k1).get H.next=some (.cells [.int .i64 op,.slice a0 l.length q] 24 false):=by rw[Zk];exact az
 have aB:(H0.up k1).get (H.next+1)=some (.cells [.int .i64 0,.slice none 0 0] 24 false):=by rw[Zk];exact aZ
 have b1:H.next+2<=(H0.up k1).next:=by simp only[Ql];omega
 generalize H0.up k1=H1 at *;simp only[Qb,simprocAttr];cases ao:QO op l==0 with
 | false=>
  have ae:Ext H (H1.set (H.next+1) (.cells [.int .i64 0,.slice none 0 0] 24 false)):=au.set (by omega) _;simp only[Qb,simprocAttr,aB,QaQ];exact .mk ae.next (Qwh ae (by unfold Wc;rw[Lc ao]))
 | true=>
  have bz:=QiE ao;simp only[QgS,Qb,simprocAttr,aA];refine(Qf3 op _ l H1 (ah.ext ai au) ar).thenW ?_;rintro _ _ aK bo ⟨rfl,k2,rfl⟩;simp only[Ql]at aK;have ae:=au.up aK;have aY:(H1.up k2).get H.next=some (.cells [.int .i64 op,.slice a0 l.length q] 24 false):=by rw[Zk];exact aA
  have aC:(H1.up k2).get (H.next+1)=some (.cells [.int .i64 0,.slice none 0 0] 24 false):=by rw[Zk];exact aB
  have b2:H.next+2<=(H1.up k2).next:=by simp only[Ql];omega
  generalize H1.up k2=H2 at *;simp only[Qb,simprocAttr,aY];refine⟨rfl,(QBf _ l H2 (ah.ext ai ae) ar).thenW ?_⟩;rintro u H3 b4 aj ⟨ak,bj⟩
  -- what the clone is
  obtain⟨aa,cap,cb,rfl,ac⟩:∃aa cap cb,u=.slice aa l.length cap∧((0<l.length->aa=some ⟨cb,0,none⟩∧H2.next<=cb∧H3.get cb=some (.cells (Qh l) 58 false))∧(∀a,aa=some a->H2.next<=a.block∧a.block<H3.next)):=by
   rcases bj with⟨rfl,rfl | ⟨rfl,rfl⟩⟩ | ⟨b5,rfl,rfl⟩
   ·exact⟨none,0,0,rfl,λh=>absurd h (NX 0),λa h=>by cases h⟩
   ·exact⟨_,0,0,rfl,λh=>absurd h (NX 0),λa h=>by cases h;simp only[Qd];omega⟩
   ·refine⟨_,_,H2.next+1,rfl,λ_=>⟨rfl,by omega,by rw[Qc,Lc (by simp only[Qd])]⟩,λa h=>by cases h;simp only[Qd];omega⟩
  obtain⟨ac,bi⟩:=ac;have aD:=(ak.get _ (bo.lt aC)).trans aC;have bq:=ae.trans ak;have b8:=ak.next;have bx:Qi H2.next 6 (.int .i64 op)=true:=rfl;simp only[Qb,simprocAttr];refine⟨ak.eqB,?_⟩;refine⟨⟨by omega,by omega,by omega,by omega⟩,?_⟩;generalize bc:Qm prog Gm ⟨Rt prog Tryz.f46 H (QlH op l H),e⟩ (Rt prog Tryz.f46 H (QlH op l H))=T;generalize aR:YM _ _=zs;have bu:zs.length=l.length:=by rw[<- aR,QCF];omega
  have bk:((l.length:Int)).toNat=l.length:=by omega
  simp only[bk];generalize ad:(H3.push (.cells [.int .i64 op,.slice aa l.length cap] 97 false)).push (.cells zs _ false)=H4;have bw:¬H3.next=H3.next+1:=by omega
  have av:Ext H3 H4:=by rw[<- ad];exact((Ext.refl H3).push _).push _
  have bp:H4.Wf:=by rw[<- ad];exact(aj.push _).push _
  have aX:H4.get H3.next=some (.cells [.int .i64 op,.slice aa l.length cap] 97 false):=by rw[<- ad,Qc,Qd,Le bw,Qc,Lc rfl]
  obtain⟨ag,bb⟩:∃ag,H4.get (H3.next+1)=some (.cells zs ag false):=⟨_,by rw[<- ad,Qc,Qd,Lc rfl]⟩;have ba:=(av.get _ (aj.lt aD)).trans aD;have aW:0<l.length->H4.get cb=some (.cells (Qh l) 58 false):=λh=>(av.get _ (aj.lt (ac h).2.2)).trans (ac h).2.2;have aG:0<l.length->cb<H3.next:=λh=>aj.lt (ac h).2.2;have br:=bq.trans av;clear ad aR;refine Qo (λaS A2 H5=>∃ (i:Nat) (cs:List Value),i<=l.length∧aS=l.length - i∧cs.length=l.length∧(∀j,j<i->cs[j]? = some (.pointer (some ⟨cb,j * 11,none⟩)))∧Ext H H5∧H5.Wf∧
   A2 2=.pointer (some ⟨H.next+1,0,none⟩)∧A2 5=.int .i64 (QW op l).1∧A2 6=.bool (QW op l).2∧A2 7=.pointer (some ⟨H3.next,0,none⟩)∧A2 8=.slice (some ⟨H3.next+1,0,none⟩) l.length l.length∧A2 44=.int .i64 (l.length:Int)∧A2 45=.int .i64 i∧
   H5.get (H.next+1)=some (.cells [.int .i64 0,.slice none 0 0] 24 false)∧H5.get H3.next=some (.cells [.int .i64 op,.slice aa l.length cap] 97 false)∧H5.get (H3.next+1)=some (.cells cs ag false)∧(0<l.length->H5.get cb=some (.cells (Qh l) 58 false))) l.length ?_ ?_
  ·refine⟨0,zs,L7 _,by omega,bu,λj h=>by omega,br,bp,?_,?_,?_,?_,?_,?_,?_,ba,aX,bb,aW⟩
   all_goals simp only[Qg,simprocAttr]
   all_goals rfl
  ·rintro aS A2 H5 ⟨i,cs,hi,rfl,aq,aH,aQ,aO,a2,a5,a6,a7,a8,aw,ax,aE,al,am,ay⟩;simp only[QgR,Qb,simprocAttr,aw,ax];refine Qf (λab=>?_) (λab=>?_)
   ·have ab:i<l.length:=by have:=Lg ab;omega
    obtain⟨an,bd,bg⟩:=ac (by omega);have bh:=aG (by omega);have aT:(0:Int)<=i∧(i:Int)<l.length:=by omega
    have aU:(i:Int).toNat=i:=by omega
    have aV:i+1<=l.length:=ab;have ei:IntKind.i64.wrap ((i:Int)+1)=((i+1:Nat):Int):=by rw[w64 (by unfold I64;omega)];omega
    subst an;have bn:(Value.pointer (some ⟨cb,i * 11,none⟩)).cells.toList=[.pointer (some ⟨cb,i * 11,none⟩)]:=rfl;have bm:(Value.pointer (some ⟨cb,i * 11,none⟩)).oneCell'=true:=rfl;have aN:=Qz0 cs i [.pointer (some ⟨cb,i * 11,none⟩)] (by simp;omega);have aL:=QCD cs i (.pointer (some ⟨cb,i * 11,none⟩)) (by omega);have aM:=λj (aI:j<i)=>Qug cs i [.pointer (some ⟨cb,i * 11,none⟩)] (by omega) j aI;simp only[splice,Lo,L9,LP,Nm,LH]at aN aL aM;simp only[QgQ,Qb,simprocAttr,a7,a8,ax,aT,aU,aV,al,am,aq,bn,bm,ei];refine⟨l.length - (i+1),by omega,i+1,_,by omega,rfl,aN.trans aq,λj aI=>?_,aQ.set (by omega) _,aO.set am _,?_,?_,?_,?_,?_,?_,?_,?_,?_,by rw[Qn,Lc rfl],λh=>?_⟩
    ·rcases Nq j i with h | h
     ·rw[aM j h];exact aH j h
     ·rw[show j=i by omega];exact aL
    all_goals (try simp only[Qg,simprocAttr,a2,a5,a6,a7,a8,aw])
    ·rw[Qn,Le (by omega)];exact aE
    ·rw[Qn,Le (by omega)];exact al
    ·rw[Qn,Le (by omega)];exact ay h
   ·have ab:i=l.length:=by have:=Ll ab;omega
    subst ab;simp only[Qb,simprocAttr];rw[<- bc];refine QEi op l H e _ _ H5 H3.next (H3.next+1) cb cap aa cs ag aQ aO (by omega) (by omega) (by omega) (by simp only[Qg,simprocAttr,a2]) (by simp only[Qg,simprocAttr,a5]) (by simp only[Qg,simprocAttr,a6]) (by simp only[Qg,simprocAttr,a7]) (by simp only[Qg,simprocAttr,a8]) aE al am aq aH (λh=>?_) (λa h=>?_) ao aF
    ·obtain⟨an,bd,bg⟩:=ac h;have bh:=aG h;exact⟨an,by omega,by omega,by omega,ay h⟩
    ·have:=bi a h;exact⟨by omega,by omega,by omega⟩
end
end Go.Proofs.YtgepgbbjfhggfaaGreatDoor.code
