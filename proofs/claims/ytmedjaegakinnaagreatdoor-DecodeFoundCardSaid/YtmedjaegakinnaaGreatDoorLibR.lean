/- field: sizes, bits, signs. -/
import Derived.Test.YtmedjaegakinnaaGreatDoorC5Dec
import Derived.Test.YtmedjaegakinnaaGreatDoorLibA
import Derived.Test.YtmedjaegakinnaaGreatDoorLibI
import Derived.Test.YtmedjaegakinnaaGreatDoorC0Code
set_option maxHeartbeats 4000000
set_option linter.defProp false
set_option linter.unusedVariables false
set_option linter.unusedSimpArgs false
set_option maxRecDepth 100000
noncomputable section
namespace Go.Proofs.YtmedjaegakinnaaGreatDoor.code
open Go.Ab
def Qf4 (H:Qa)(v:Value)(bs:List Int):Prop:=∃a cap,v=.slice a bs.length cap∧(0<bs.length->∃b o e ro cs,a=some ⟨b,o,none⟩∧H.get b=some (.cells cs e ro)∧∀j,j<bs.length->cs[o+j]? = some (.int .u8 (bs.getD j 0)))
def Qf4.ext {H H':Qa}{v:Value}{bs:List Int}(ae:H.Wf)(ac:Ext H H')(h:Qf4 H v bs):Qf4 H' v bs:=by
 obtain⟨a,cap,rfl,aa⟩:=h;refine⟨a,cap,rfl,λad=>?_⟩;obtain⟨b,o,e,ro,cs,rfl,q,ab⟩:=aa ad;exact⟨b,o,e,ro,cs,rfl,by rw[ac.get b (ae.lt q)];exact q,ab⟩
def GA (n:Int):Bool:=(n==1)||(n==2)||(n==4)||(n==8)
def QiF (n:Int)(H:Qa):Qe Pg 82 [.Z n] H λu H'=>u=.bool (GA n)∧H'=H:=by
 refine QpB λq=>?_;simp(disch:=(try simp only[hnP])<;>try omega) only[QgI,QE,simprocAttr]
 repeat' (first
   | (refine Qz (λh=>?_) (λh=>?_)<;>(try simp only[Lr,Lu]at h)<;>simp(disch:=(try simp only[hnP])<;>try omega) only[QE,simprocAttr,Qn5,h])
   | fail)
 all_goals refine .mk (Lb _) ⟨?_,rfl⟩
 all_goals (simp only[GA];simp_all)
def WD (n:Int):Bool:=decide (1<=n)&&decide (n<=64)
def Kz (n:Int)(H:Qa):Qe Pg 104 [.Z n] H λu H'=>u=.bool (WD n)∧H'=H:=by
 refine Qmn λq=>?_;simp(disch:=(try simp only[hnP])<;>try omega) only[Qdy,QE,simprocAttr]
 repeat' (first
   | (refine Qz (λh=>?_) (λh=>?_)<;>(try simp only[Lr,Lu]at h)<;>simp(disch:=(try simp only[hnP])<;>try omega) only[QE,simprocAttr,Qkt,h])
   | fail)
 all_goals refine .mk (Lb _) ⟨?_,rfl⟩
 all_goals (simp only[WD];simp_all<;>omega)
def Qaz (n bits:Int):Int:=if WD bits=false then 0 else(IntKind.i64.wrap (IntKind.u64.wrap (IntKind.u64.wrap n * 2 ^ (min (64 - bits).toNat 64)))).fdiv (2 ^ (min (64 - bits).toNat 64))
def QeG (n bits:Int)(H:Qa):Qe Pg 83 [.Z n,.Z bits] H λu H'=>u=.Z (Qaz n bits)∧H'=H:=by
 refine Qrg λab=>?_;simp only[Qis,Qb,simprocAttr];refine(Kz bits H).w ?_;rintro _ H _ ab ⟨rfl,rfl⟩;simp only[Qb,simprocAttr];cases q:WD bits with
 | false=>
  simp only[Qb,simprocAttr,QgJ];exact .mk (Lb _) ⟨by rw[Qaz,Lc q],rfl⟩
 | true=>
  have ac:1<=bits∧bits<=64:=by simpa[WD] using q
  have e:IntKind.i64.wrap (64 - bits)=64 - bits:=w64 (by unfold I64;omega);have aa:0<=64 - bits:=by omega
  have b1:IntKind.u64.bits=64:=rfl;have b2:IntKind.i64.bits=64:=rfl;simp only[Qb,simprocAttr,e,aa,b1,b2,QgJ];exact .mk (Lb _) ⟨by rw[Qaz,Le (by simp[q])],rfl⟩
def Qlj (bs:List Int)(p:Nat):Nat->Int
 | 0=>0
 | i+1=>IntKind.u64.wrap (BitVec.ofInt IntKind.u64.bits (Qlj bs p i) ||| BitVec.ofInt IntKind.u64.bits (IntKind.u64.wrap (IntKind.u64.wrap (bs.getD (p+i) 0) * 2 ^ (min (8 * i) 64)))).toNat
def Q3 (bs:List Int)(p sz:Int)(q:Bool):Int×Int:=
 if GA sz=false then(0,2) else if(decide (p<0)||decide ((bs.length:Int)<p))=true then(0,5) else if(bs.length:Int) - p<sz then(0,9)
 else if q=true then(Qaz (IntKind.i64.wrap (Qlj bs p.toNat sz.toNat)) (8 * sz),0) else(IntKind.i64.wrap (Qlj bs p.toNat sz.toNat),0)
def QcR (v:Value)(bs:List Int)(p sz:Int)(aa:Bool)(H:Qa)(ae:Qf4 H v bs)(aq:bs.length<=1000000)(ar:I64 p):Qe Pg 65 [v,.Z p,.Z sz,.bool aa] H λu H'=>u=.tuple #[.Z (Q3 bs p sz aa).1,.Z (Q3 bs p sz aa).2]∧H'=H:=by
 refine Qte λai=>?_;obtain⟨a,cap,rfl,ae⟩:=ae;simp only[Qkq,Qb,simprocAttr];refine(QiF sz H).w ?_;rintro _ H _ ai ⟨rfl,rfl⟩;simp only[Qb,simprocAttr];cases q:GA sz with
 | false=>
  simp only[Qb,simprocAttr,Zs];exact .mk (Lb _) ⟨by rw[Q3,Lc q],rfl⟩
 | true=>
  have au:sz=1∨sz=2∨sz=4∨sz=8:=by
   simp only[GA,Nw,L0]at q;omega
  have ac:Q3 bs p sz aa=if(decide (p<0)||decide ((bs.length:Int)<p))=true then(0,5) else if(bs.length:Int) - p<sz then(0,9)
    else if aa=true then(Qaz (IntKind.i64.wrap (Qlj bs p.toNat sz.toNat)) (8 * sz),0) else(IntKind.i64.wrap (Qlj bs p.toNat sz.toNat),0):=by rw[Q3,Le (by simp[q])]
  rw[ac];clear ac;simp only[QgE,Qb,simprocAttr]
  by_cases ad:p<0;·simp only[ad,Nf,Qb,simprocAttr,Zs];exact .mk (Lb _) ⟨by simp,rfl⟩
  by_cases ac:(bs.length:Int)<p;·simp only[ad,ac,Nf,NE,Qb,simprocAttr,Zs];exact .mk (Lb _) ⟨by simp,rfl⟩
  have e1:IntKind.i64.wrap ((bs.length:Int) - p)=(bs.length:Int) - p:=w64 (by unfold I64;omega);simp only[ad,ac,NE,QgD,Qb,simprocAttr,e1]
  by_cases ah:(bs.length:Int) - p<sz;·simp only[ah,Nf,Qb,simprocAttr,Zs];exact .mk (Lb _) ⟨by simp,rfl⟩
  obtain⟨m,rfl⟩:∃m:Nat,p=m:=⟨p.toNat,by omega⟩;obtain⟨z,rfl⟩:∃z:Nat,sz=z:=⟨sz.toNat,by omega⟩;have b1:IntKind.u64.bits=64:=rfl;simp only[ah,NE,QgC,Qb,simprocAttr,Bool.or_self,LV,LG];refine Qu (λk A' H'=>∃i:Nat,i<=z∧k=z - i∧H'=H∧A' 0=.slice a bs.length cap∧A' 1=.Z m∧A' 2=.Z z∧A' 3=.bool aa∧A' 10=.int .u64 (Qlj bs m i)∧A' 29=.Z z∧A' 30=.Z i) z ?_ ?_
  ·refine⟨0,L7 _,by omega,rfl,?_,?_,?_,?_,?_,?_,?_⟩
   all_goals simp only[Qd,simprocAttr]
   all_goals rfl
  rintro k A' H' ⟨i,hi,rfl,rfl,aj,r1,r2,r3,ag,ak,am⟩;simp only[QgB,Qb,simprocAttr,ak,am];refine Qg (λab=>?_) (λab=>?_)
  ·have ab:i<z:=by have:=Lg ab;omega
   obtain⟨b,o,e,ro,cs,rfl,ap,ao⟩:=ae (by omega);have d1:IntKind.i64.wrap ((m:Int)+(i:Int))=((m+i:Nat):Int):=by rw[w64 (by unfold I64;omega)];omega
   have d2:(0:Int)<=((m+i:Nat):Int)∧((m+i:Nat):Int)<bs.length:=by omega
   have d3:(((m+i:Nat):Int)).toNat=m+i:=by omega
   have d4:IntKind.i64.wrap (8 * (i:Int))=((8 * i:Nat):Int):=by rw[w64 (by unfold I64;omega)];omega
   have d5:(0:Int)<=((8 * i:Nat):Int):=by omega
   have d6:(((8 * i:Nat):Int)).toNat=8 * i:=by omega
   have an:IntKind.i64.wrap ((i:Int)+1)=((i+1:Nat):Int):=by rw[w64 (by unfold I64;omega)];omega
   have g1:=ao (m+i) (by omega);simp only[QgA,Qb,simprocAttr,aj,r1,ag,am,d1,d2,d3,d4,d5,d6,ap,g1,an,b1];refine⟨z - (i+1),by omega,i+1,by omega,rfl,rfl,?_,?_,?_,?_,?_,?_,?_⟩
   all_goals simp only[Qd,simprocAttr,aj,r1,r2,r3,ak]
   rfl
  have ab:i=z:=by have:=Ll ab;omega
  subst ab;simp only[Qgz,Qb,simprocAttr,r3];cases aa with
  | false=>
   simp only[Qb,simprocAttr,ag,Zs];exact .mk (Lb _) ⟨by simp,rfl⟩
  | true=>
   have d4:IntKind.i64.wrap (8 * (i:Int))=8 * (i:Int):=w64 (by unfold I64;omega);simp only[Qb,simprocAttr,r2,ag,d4];refine(QeG _ _ _).w ?_;rintro _ H _ ai ⟨rfl,rfl⟩;simp only[Qb,simprocAttr,Zs];exact .mk (Lb _) ⟨by simp,rfl⟩
def XF (a b:Int):Int:=IntKind.i64.wrap (BitVec.ofInt IntKind.i64.bits a &&& BitVec.ofInt IntKind.i64.bits b).toNat
def GM (a:Int)(n:Nat):Int:=a.fdiv (2 ^ (min n 64))
def QFr (a:Int)(m:Nat)(aa:m<1000):0<=XF a m∧XF a m<=m:=by
 have b2:IntKind.i64.bits=64:=rfl;unfold XF;rw[b2];have q:(BitVec.ofInt 64 a &&& BitVec.ofInt 64 (m:Int)).toNat<=m:=by
  rw[FK];refine N8 Nat.and_le_right ?_;rw[B7];omega
 rw[w64 (by unfold I64;omega)];omega
def QP (n:Int):Int×Int×Int:=(XF (GM n 6) 3,XF (GM n 3) 7,XF n 7)
def QiO (n:Int)(H:Qa):Qe Pg 79 [.Z n] H λu H'=>u=.tuple #[.Z (QP n).1,.Z (QP n).2.1,.Z (QP n).2.2]∧H'=H:=by
 refine Qpz λab=>?_;have aa:(0:Int)<=6:=by omega
 have q:(0:Int)<=3:=by omega
 simp only[QgG,Qb,simprocAttr,aa,q,Qn4];exact .mk (Lb _) ⟨rfl,rfl⟩
def WK (md:Int)(m:Mm):Int:=if(md==1)=true then 1 else if(md==2||!(m.b.c==5))=true then 4 else 0
def QrA (md:Int)(m:Mm)(H:Qa):Qe Pg 81 [.Z md,.agg m.cells.toArray] H λu H'=>u=.Z (WK md m)∧∃k,H'=H.up k:=by
 refine QpA λaa=>?_;have q:WK md m=if(md==1)=true then 1 else if(md==2||!(m.b.c==5))=true then 4 else 0:=rfl
 rw[q];clear q;obtain⟨⟨ab,ac⟩,⟨ad,ae⟩,sc,d,sz⟩:=m;simp(disch:=(try simp only[hnP])<;>try omega) only[Mm.cells,QgH,QE,simprocAttr]
 repeat' (first
   | (refine Qz (λh=>?_) (λh=>?_)<;>(try simp only[Lr,Lu]at h)<;>simp(disch:=(try simp only[hnP])<;>try omega) only[QE,simprocAttr,Qft,h])
   | (refine Qg (λh=>?_) (λh=>?_)<;>(try simp only[Lr,Lu]at h)<;>simp(disch:=(try simp only[hnP])<;>try omega) only[QE,simprocAttr,Qft,h])
   | fail)
 all_goals refine .ext aa ((Ext.refl H).push _) ⟨?_,_,rfl⟩
 all_goals simp_all
def pl8 (a b:Int):Int:=IntKind.i64.wrap (IntKind.i64.wrap (8 * a)+b)
def Qp0 (hi q x:Int):Mm×Int:=if(!(q==4)||x==1)=true then({Wa with i:=⟨5,pl8 x q⟩,sc:=IntKind.i64.wrap (1 * 2 ^ (min hi.toNat 64))},0) else if(!(hi==0))=true then(Wa,4) else(Wa,0)
def QrB (m:Mm)(q md bb:Int):Mm×Int:=if(!(q==5)||!(md==0))=true then({m with b:=⟨5,pl8 bb q⟩},0) else if(bb==1)=true then(Wa,4) else(m,0)
def Qd1 (sib md x bb:Int):Mm×Int:=if((Qp0 (QP sib).1 (QP sib).2.1 x).2==0)=true then QrB (Qp0 (QP sib).1 (QP sib).2.1 x).1 (QP sib).2.2 md bb else(Wa,4)
def QmE (sib md x bb:Int)(H:Qa):Qe Pg 80 [.Z sib,.Z md,.Z x,.Z bb] H λu H'=>u=.tuple #[.agg (Qd1 sib md x bb).1.cells.toArray,.Z (Qd1 sib md x bb).2]∧∃k,H'=H.up k:=by
 refine Qkr λac=>?_;have q:=QiO sib;have aa:0<=(QP sib).1:=(QFr _ 3 (by omega)).1;have ab:Qd1 sib md x bb=if((Qp0 (QP sib).1 (QP sib).2.1 x).2==0)=true then QrB (Qp0 (QP sib).1 (QP sib).2.1 x).1 (QP sib).2.2 md bb else(Wa,4):=rfl
 rw[ab];clear ab;generalize QP sib=s at *;obtain⟨hi,ah,ad⟩:=s;simp only at aa q ⊢;have b2:IntKind.i64.bits=64:=rfl;simp(disch:=(try simp only[hnP])<;>try omega) only[Qci,QE,simprocAttr]
 refine(q _).w ?_;rintro _ _ ae ag ⟨rfl,rfl⟩;simp(disch:=(try simp only[hnP])<;>try omega) only[Qap,Qaq,Qar,Qas,QE,simprocAttr]
 repeat' (first
   | (refine Qz (λh=>?_) (λh=>?_)<;>(try simp only[Lr,Lu]at h)<;>simp(disch:=(try simp only[hnP])<;>try omega) only[QE,simprocAttr,Qbh,h,aa,b2])
   | (refine Qg (λh=>?_) (λh=>?_)<;>(try simp only[Lr,Lu]at h)<;>simp(disch:=(try simp only[hnP])<;>try omega) only[QE,simprocAttr,Qbh,h,aa,b2])
   | fail)
 all_goals refine .ext ac ?_ ⟨?_,_,rfl⟩
 all_goals try (repeat' (first | exact Ext.refl _ | refine Ext.push ?_ _ | refine Ext.up ?_ (by simp only[Qf,QR,Q8];omega) | refine Ext.set ?_ (by omega) _))
 all_goals (simp_all [Qp0,QrB,Mm.cells,Wa,pl8])
structure Sn where
 fld:Int
 reg:Int
 m:Mm
 ends:Int
def Sn.cells (s:Sn):List Value:=[.Z s.fld,.Z s.reg,.Z s.m.b.c,.Z s.m.b.n,.Z s.m.i.c,.Z s.m.i.n,.Z s.m.sc,.Z s.m.d,.Z s.m.sz,.Z s.ends]
def QK:Sn:=⟨0,0,Wa,0⟩
def Qd2 (mid p:Int)(m:Mm):Sn×Int:=if((Zf m).2==0)=true then(⟨mid,-1,(Zf m).1,p⟩,0) else(QK,4)
def WC (bs:List Int)(p md mid:Int)(m:Mm):Sn×Int:=
 if(WK md m==0)=true then Qd2 mid p m
 else if((Q3 bs p (WK md m) true).2==0)=true then Qd2 mid (IntKind.i64.wrap (p+WK md m)) {m with d:=(Q3 bs p (WK md m) true).1} else(QK,(Q3 bs p (WK md m) true).2)
def K5 (bs:List Int)(p md mid x bb:Int):Sn×Int:=
 if((Q3 bs p 1 false).2==0)=true then
  (if((Qd1 (Q3 bs p 1 false).1 md x bb).2==0)=true then WC bs (IntKind.i64.wrap (p+1)) md mid (Qd1 (Q3 bs p 1 false).1 md x bb).1 else(QK,(Qd1 (Q3 bs p 1 false).1 md x bb).2))
 else(QK,(Q3 bs p 1 false).2)
def JV (bs:List Int)(p md mid rm x bb:Int):Sn×Int:=
 if(x==1&&(md==3||!(rm==4)))=true then(QK,4)
 else if(md==3)=true then(⟨mid,pl8 bb rm,Wa,p⟩,0)
 else if(rm==4)=true then K5 bs p md mid x bb
 else if(md==0&&rm==5)=true then(if(bb==1)=true then(QK,4) else WC bs p md mid {Wa with b:=⟨8,0⟩})
 else WC bs p md mid {Wa with b:=⟨5,pl8 bb rm⟩}
def rdF (bs:List Int)(p x bb:Int):Sn×Int:=
 if(decide (p<0)||decide ((bs.length:Int)<p)||decide (x<0)||decide (1<x)||decide (bb<0)||decide (1<bb))=true then(QK,5)
 else if((Q3 bs p 1 false).2==0)=true then JV bs (IntKind.i64.wrap (p+1)) (QP (Q3 bs p 1 false).1).1 (QP (Q3 bs p 1 false).1).2.1 (QP (Q3 bs p 1 false).1).2.2 x bb
 else(QK,(Q3 bs p 1 false).2)
def Zg (a b:PC)(ks:Kp)(k:Env->Qa->Prop):Qm Pg (.seq a b) ks k=Qm Pg a ks (Qm Pg b ks k):=by funext A H;exact QaQ a b ks k A H
section
variable (H:Qa) (r:Sn×Int)
abbrev QxU:Value->Qa->Prop:=λu H'=>u=.tuple #[.agg r.1.cells.toArray,.Z r.2]∧∃k,H'=H.up k
abbrev KRd:Env->Qa->Prop:=Rt Pg Tryz.f63 H (QxU H r)
structure RdF (M:Nat) (m:Mm) (mid p:Int) (A:Env) (H':Qa):Prop where
 hx:Ext H H'
 r1:A 1=.Z p
 r8:A 8=.P H.y
 r13:A 13=.Z mid
 r15:A 15=.P M
 gS:H'.get H.y=some (.C [.Z 0,.Z 0,.Z 0,.Z 0,.Z 0,.Z 0,.Z 0,.Z 0,.Z 0,.Z 0] 85)
 gM:H'.get M=some (.C m.cells 48)
 ne:¬H.y=M
 lo:H.y<=M
 hi:M<H'.y
def QH5 (ad:H.Wf)(M:Nat)(m:Mm)(mid p:Int)(A:Env)(H':Qa)(e:Nat->Env->Qa->Prop)(k:Env->Qa->Prop)(f:RdF H M m mid p A H')(ab:r=Qd2 mid p m):Qm Pg Zl ⟨KRd H r,e⟩ k A H':=by
 obtain⟨hx,r1,r8,r13,r15,gS,gM,ne,lo,hi⟩:=f;have q:=Qg8 m;have ac:r=if((Zf m).2==0)=true then(⟨mid,-1,(Zf m).1,p⟩,0) else(QK,4):=ab
 rw[ac];clear ab ac;generalize Zf m=c at *;obtain⟨c,ag⟩:=c;have ak:=hx.y;have aw:¬M=H.y:=λh=>ne h.symm;obtain⟨⟨ah,ai⟩,⟨am,ax⟩,sc,d,sz⟩:=c;obtain⟨⟨an,ao⟩,⟨aq,ar⟩,au,ap,av⟩:=m;simp only[Mm.cells]at q gM;simp only[Zl,Qb,simprocAttr,r15,gM];refine(q _).w ?_;rintro _ _ aa aj ⟨rfl,k2,rfl⟩;simp only[Q8]at aa;have ae:=hx.up aa;simp only[Qb,simprocAttr,r15,gM];cases ay:ag==0
 all_goals simp only[Qb,simprocAttr,r1,r8,r13,r15,gS,ne,Wz]
 ·refine .ext ad ((ae.set lo _).set (Lb _) _) ⟨?_,_,rfl⟩;simp[Sn.cells,QK,Wa]
 refine .ext ad ((ae.set lo _).set (Lb _) _) ⟨?_,_,rfl⟩;simp[Sn.cells]
def Qze (ab:H.Wf)(v:Value)(bs:List Int)(ay:Qf4 H v bs)(az:bs.length<=1000000)(M:Nat)(m:Mm)(md mid p:Int)(aA:I64 p)(A:Env)(H':Qa)(e:Nat->Env->Qa->Prop)(k:Env->Qa->Prop)(aC:A 0=v)(aD:A 12=.Z md)(f:RdF H M m mid p A H')(ap:r=WC bs p md mid m):Qm Pg Zm ⟨KRd H r,e⟩ k A H':=by
 have aj:=λm p A H'=>QH5 H r ab M m mid p A H' e k;obtain⟨hx,r1,r8,r13,r15,gS,gM,ne,lo,hi⟩:=f;have av:=QrA md m;have aB:=λH' (hx:Ext H H') sz=>QcR v bs p sz true H' (ay.ext ab hx) az aA;have q:r=if(WK md m==0)=true then Qd2 mid p m
  else if((Q3 bs p (WK md m) true).2==0)=true then Qd2 mid (IntKind.i64.wrap (p+WK md m)) {m with d:=(Q3 bs p (WK md m) true).1} else(QK,(Q3 bs p (WK md m) true).2):=ap
 clear ap;generalize WK md m=wd at *;have aH:¬M=H.y:=λh=>ne h.symm;obtain⟨⟨ac,ad⟩,⟨ae,ag⟩,ah,aq,ai⟩:=m;simp only[Mm.cells]at av gM;have e1:Zm=.seq (.seq (.ops [⟨some 129,.mv (t 12),none,false⟩,⟨some 130,.ld true 7 (t 15),none,false⟩,⟨some 131,.call 81 [(t 129),(t 130)],none,false⟩,⟨some 18,.mv (t 131),none,false⟩]) (.seq (.ops [⟨some 132,.mv (t 18),none,false⟩,⟨some 133,.bin .neq (t 132) (.const (.Z 0)),none,false⟩]) (.cond (t 133) VY .skip))) Zl:=rfl;rw[e1,QaQ];generalize am:Qm Pg Zl ⟨KRd H r,e⟩ k=T;simp only[Qb,simprocAttr,aD,r15,gM];refine(av _).w ?_;rintro _ _ ao aF ⟨rfl,k2,rfl⟩;simp only[Q8]at ao;have aa:=hx.up ao;have an:M<(H'.up k2).y:=by simp only[Q8];omega
 simp only[Qb,simprocAttr];cases ar:wd==0 with
 | true=>
  rw[Lc ar]at q;simp only[Qb,simprocAttr];rw[<- am];refine aj ⟨⟨ac,ad⟩,⟨ae,ag⟩,ah,aq,ai⟩ p _ _ ⟨aa,by simp only[Qd,simprocAttr,r1],by simp only[Qd,simprocAttr,r8],by simp only[Qd,simprocAttr,r13],by simp only[Qd,simprocAttr,r15],by rw[XB];exact gS,by rw[XB];exact gM,ne,lo,an⟩ q
 | false=>
  rw[Le (by rw[ar];decide)]at q;simp only[VY,Qb,simprocAttr,aC,r1];refine(aB _ aa wd).w ?_;rintro _ H3 aE aG ⟨rfl,rfl⟩;generalize Q3 bs p wd true=g at *;obtain⟨g,ax⟩:=g;simp only at q;have aw:(H'.up k2).get M=some (.C [.Z ac,.Z ad,.Z ae,.Z ag,.Z ah,.Z aq,.Z ai] 48):=by rw[XB];exact gM
  have ak:(H'.up k2).get H.y=_:=(XB _ _ _).trans gS;generalize H'.up k2=H3 at *;simp only[Qb,simprocAttr,r15,aw];cases au:ax==0 with
  | true=>
   rw[Lc au]at q;simp only[Qb,simprocAttr,r1];rw[<- am];refine aj ⟨⟨ac,ad⟩,⟨ae,ag⟩,ah,g,ai⟩ _ _ _ ⟨aa.set lo _,by simp only[Qd,simprocAttr],by simp only[Qd,simprocAttr,r8],by simp only[Qd,simprocAttr,r13],by simp only[Qd,simprocAttr,r15],by rw[Qj,Le ne];exact ak,by rw[Qj,Lc rfl];rfl,ne,lo,an⟩ q
  | false=>
   rw[Le (by rw[au];decide)]at q;simp only[Qb,simprocAttr,r8,ak,ne,Wz];refine .ext ab ((aa.set lo _).set (Lb _) _) ⟨?_,_,rfl⟩;rw[q];simp[Sn.cells,QK,Wa]
def Qp1 (n:Int):I64 (IntKind.i64.wrap n):=by
 rw[NU];unfold I64;omega
abbrev z10:List Value:=[.Z 0,.Z 0,.Z 0,.Z 0,.Z 0,.Z 0,.Z 0,.Z 0,.Z 0,.Z 0]
def QmF (aa:H.Wf){H':Qa}(hx:Ext H H')(b:Blk){x:Int}(q:r=(QK,x)):Ret H (QxU H r) (.tuple #[.agg #[.Z 0,.Z 0,.Z 0,.Z 0,.Z 0,.Z 0,.Z 0,.Z 0,.Z 0,.Z 0],.Z x]) (H'.set H.y b):=by
 refine .ext aa (hx.set (Lb _) _) ⟨?_,_,rfl⟩;rw[q];simp[Sn.cells,QK,Wa]
def QH6 (aa:H.Wf)(v:Value)(bs:List Int)(ap:Qf4 H v bs)(ar:bs.length<=1000000)(M:Nat)(md mid p x bb:Int)(au:I64 p)(A:Env)(H':Qa)(e:Nat->Env->Qa->Prop)(k:Env->Qa->Prop)
  (aj:A 0=v) (r2:A 2=.Z x) (r3:A 3=.Z bb) (ak:A 12=.Z md) (f:RdF H M Wa mid p A H') (ad:r=K5 bs p md mid x bb)
  (ao:∀ (m:Mm) (p:Int) (A2:Env) (H2:Qa),I64 p->A2 0=v->A2 12=.Z md->RdF H M m mid p A2 H2->r=WC bs p md mid m->k A2 H2):Qm Pg VZ ⟨KRd H r,e⟩ k A H':=by
 obtain⟨hx,r1,r8,r13,r15,gS,gM,ne,lo,hi⟩:=f;have av:=QcR v bs p 1 false H' (ap.ext aa hx) ar au;have q:r=if((Q3 bs p 1 false).2==0)=true then
   (if((Qd1 (Q3 bs p 1 false).1 md x bb).2==0)=true then WC bs (IntKind.i64.wrap (p+1)) md mid (Qd1 (Q3 bs p 1 false).1 md x bb).1 else(QK,(Qd1 (Q3 bs p 1 false).1 md x bb).2))
  else(QK,(Q3 bs p 1 false).2):=ad
 clear ad;simp only[VZ,Qb,simprocAttr,aj,r1];refine av.w ?_;rintro _ H' aE aF ⟨rfl,rfl⟩;generalize Q3 bs p 1 false=g at *;obtain⟨g,an⟩:=g;simp only at q;simp only[Qb,simprocAttr];cases ag:an==0 with
 | false=>
  rw[Le (by rw[ag];decide)]at q;simp only[Qb,simprocAttr,r8,gS,Wz];exact QmF H r aa hx _ q
 | true=>
  rw[Lc ag]at q;have ai:=λH=>QmE g md x bb H;generalize Qd1 g md x bb=s at *;obtain⟨s,az⟩:=s;simp only at q;obtain⟨⟨aw,ax⟩,⟨aA,aB⟩,aC,ay,aD⟩:=s;simp only[Mm.cells,Wa]at ai gM;simp only[Qfi,Qb,simprocAttr,r1,r2,r3,ak];refine(ai _).w ?_;rintro _ _ ac aG ⟨rfl,k3,rfl⟩;simp only[Q8]at ac;have ae:=hx.up ac;have am:(H'.up k3).get M=_:=(XB _ _ _).trans gM;have ab:(H'.up k3).get H.y=_:=(XB _ _ _).trans gS;have aq:M<(H'.up k3).y:=by simp only[Q8];omega
  generalize H'.up k3=H3 at *;simp only[Qb,simprocAttr,r15,am];cases ah:az==0 with
  | false=>
   rw[Le (by rw[ah];decide)]at q;simp only[Qb,simprocAttr,r8,ab,ne,Wz];exact QmF H r aa (ae.set lo _) _ q
  | true=>
   rw[Lc ah]at q;simp only[Qb,simprocAttr];refine ao ⟨⟨aw,ax⟩,⟨aA,aB⟩,aC,ay,aD⟩ _ _ _ (Qp1 _) (by simp only[Qd,simprocAttr,aj]) (by simp only[Qd,simprocAttr,ak]) ⟨ae.set lo _,by simp only[Qd,simprocAttr],by simp only[Qd,simprocAttr,r8],by simp only[Qd,simprocAttr,r13],by simp only[Qd,simprocAttr,r15],by rw[Qj,Le ne];exact ab,by rw[Qj,Lc rfl];rfl,ne,lo,aq⟩ q
def QFs (ag:H.Wf)(v:Value)(bs:List Int)(ao:Qf4 H v bs)(aq:bs.length<=1000000)(h p x bb:Int)(am:I64 p)(A:Env)(H':Qa)(e:Nat->Env->Qa->Prop)(k:Env->Qa->Prop)
  (aM:A 0=v) (r1:A 1=.Z p) (r2:A 2=.Z x) (r3:A 3=.Z bb) (r8:A 8=.P H.y) (aN:A 10=.Z h) (hx:Ext H H') (aK:H'.y=H.y+1) (gS:H'.get H.y=some (.C z10 85))
  (ab:r=JV bs (IntKind.i64.wrap (p+1)) (QP h).1 (QP h).2.1 (QP h).2.2 x bb):Qm Pg Vc ⟨KRd H r,e⟩ k A H':=by
 have q:=QiO h H';generalize QP h=s at *;obtain⟨md,mid,rm⟩:=s;simp only at q ab;have aa:r=if(x==1&&(md==3||!(rm==4)))=true then(QK,4)
  else if(md==3)=true then(⟨mid,pl8 bb rm,Wa,IntKind.i64.wrap (p+1)⟩,0)
  else if(rm==4)=true then K5 bs (IntKind.i64.wrap (p+1)) md mid x bb
  else if(md==0&&rm==5)=true then(if(bb==1)=true then(QK,4) else WC bs (IntKind.i64.wrap (p+1)) md mid {Wa with b:=⟨8,0⟩})
  else WC bs (IntKind.i64.wrap (p+1)) md mid {Wa with b:=⟨5,pl8 bb rm⟩}:=ab
 clear ab;have aw:=Qp1 (p+1);generalize aL:IntKind.i64.wrap (p+1)=p1 at *;have av:=λm A2 H2 (ac:A2 0=v) ad ae ab=>Qze H r ag v bs ao aq (H.y+1) m md mid p1 aw A2 H2 e k ac ad ae ab;have aG:=λA2 H2 e2 k2 (ac:A2 0=v) ha2 ha3 ad ae ab ai=>QH6 H r ag v bs ao aq (H.y+1) md mid p1 x bb aw A2 H2 e2 k2 ac ha2 ha3 ad ae ab ai;have aH:=λm p A2 H2 am (ac:A2 0=v) ad ae ab=>Qze H r ag v bs ao aq (H.y+1) m md mid p am A2 H2 e k ac ad ae ab;have aF:V1=.seq (.ops [⟨some 73,.build [.Z 0,.Z 0,.Z 0,.Z 0,.Z 0,.Z 0,.Z 0] [],none,false⟩,⟨some 15,.alloc 48 [.Z 0,.Z 0,.Z 0,.Z 0,.Z 0,.Z 0,.Z 0],none,false⟩,⟨none,.st 7 (t 15) (t 73),none,false⟩]) (.seq (.block 0 (.seq (.ops [⟨some 81,.mv (t 12),none,false⟩,⟨some 82,.bin .eql (t 81) (.const (.Z 3)),none,false⟩,⟨some 80,.mv (t 82),none,false⟩]) (.cond (t 80) (.seq (.ops [⟨some 83,.mv (t 13),none,false⟩,⟨some 84,.mv (t 3),none,false⟩,⟨some 85,.bin .mul (.const (.Z 8)) (t 84),none,false⟩,⟨some 86,.mv (t 14),none,false⟩,⟨some 87,.bin .add (t 85) (t 86),none,false⟩,⟨some 88,.mv (t 1),none,false⟩,⟨some 89,.build [.Z 0,.Z 0,.Z 0,.Z 0,.Z 0,.Z 0,.Z 0,.Z 0,.Z 0,.Z 0] [(0,1,(t 83)),(1,1,(t 87)),(9,1,(t 88))],none,false⟩,⟨none,.st 10 (t 8) (t 89),none,false⟩,⟨some 9,.mv (.const (.Z 0)),none,false⟩]) .ret) V0))) Zm):=rfl;have ne:¬H.y=H.y+1:=by omega
 have aP:¬H.y+1=H.y:=by omega
 simp only[Vc,Qb,simprocAttr,r1,aN,aL];refine q.w ?_;rintro _ H' _ aO ⟨rfl,rfl⟩;simp only[Qb,simprocAttr,r2];have go:∀A2:Env,A2 0=v->A2 1=.Z p1->A2 2=.Z x->A2 3=.Z bb->A2 8=.P H.y->A2 12=.Z md->A2 13=.Z mid->A2 14=.Z rm->(x==1&&(md==3||!(rm==4)))=false->Qm Pg V1 ⟨KRd H r,e⟩ k A2 H':=by
  intro A2 a0 a1 a2 a3 a8 a12 a13 a14 aJ;rw[Le (by rw[aJ];decide)]at aa;rw[aF,Zg,Zg];generalize ai:Qm Pg Zm ⟨KRd H r,e⟩ k=T;simp only[Qb,simprocAttr,aK,a12];have aj:Ext H ((H'.push (.C [.Z 0,.Z 0,.Z 0,.Z 0,.Z 0,.Z 0,.Z 0] 48)).set (H.y+1) (.C [.Z 0,.Z 0,.Z 0,.Z 0,.Z 0,.Z 0,.Z 0] 48)):=(hx.push _).set (by omega) _;have ah:((H'.push (.C [.Z 0,.Z 0,.Z 0,.Z 0,.Z 0,.Z 0,.Z 0] 48)).set (H.y+1) (.C [.Z 0,.Z 0,.Z 0,.Z 0,.Z 0,.Z 0,.Z 0] 48)).get H.y=some (.C z10 85):=by rw[Qj,Le ne,Qc,Le (by omega)];exact gS
  have ak:((H'.push (.C [.Z 0,.Z 0,.Z 0,.Z 0,.Z 0,.Z 0,.Z 0] 48)).set (H.y+1) (.C [.Z 0,.Z 0,.Z 0,.Z 0,.Z 0,.Z 0,.Z 0] 48)).get (H.y+1)=some (.C [.Z 0,.Z 0,.Z 0,.Z 0,.Z 0,.Z 0,.Z 0] 48):=by rw[Qj,Lc rfl]
  have ap:H.y+1<((H'.push (.C [.Z 0,.Z 0,.Z 0,.Z 0,.Z 0,.Z 0,.Z 0] 48)).set (H.y+1) (.C [.Z 0,.Z 0,.Z 0,.Z 0,.Z 0,.Z 0,.Z 0] 48)).y:=by simp only[QR,Qf];omega
  generalize (H'.push (.C [.Z 0,.Z 0,.Z 0,.Z 0,.Z 0,.Z 0,.Z 0] 48)).set (H.y+1) (.C [.Z 0,.Z 0,.Z 0,.Z 0,.Z 0,.Z 0,.Z 0] 48)=H2 at *;cases ay:md==3 with
  | true=>
   rw[Lc ay]at aa;simp only[Qb,simprocAttr,a1,a3,a8,a13,a14,ah,Wz];refine .ext ag (aj.set (Lb _) _) ⟨?_,_,rfl⟩;rw[aa];simp[Sn.cells,Wa,pl8]
  | false=>
   rw[Le (by rw[ay];decide)]at aa;simp only[V0,Qb,simprocAttr,a14];cases az:rm==4 with
   | true=>
    rw[Lc az]at aa;simp only[Qb,simprocAttr];refine aG _ H2 _ _ (by simp only[Qd,simprocAttr,a0]) (by simp only[Qd,simprocAttr,a2]) (by simp only[Qd,simprocAttr,a3]) (by simp only[Qd,simprocAttr,a12]) ⟨aj,by simp only[Qd,simprocAttr,a1],by simp only[Qd,simprocAttr,a8],by simp only[Qd,simprocAttr,a13],by simp only[Qd,simprocAttr],ah,ak,ne,by omega,ap⟩ aa (λm p A3 H3 am ac ad ae ab=>?_);rw[<- ai];exact aH m p A3 H3 am ac ad ae ab
   | false=>
    rw[Le (by rw[az];decide)]at aa;simp only[Qfk,Qb,simprocAttr,a12]
    by_cases an:(md==0&&rm==5)=true
    ·rw[Lc an]at aa;obtain⟨ar,au⟩:(md==0)=true∧(rm==5)=true:=by simpa using an
     simp only[ar,au,Qfj,Qb,simprocAttr,a3,a14];cases aA:bb==1 with
     | true=>
      rw[Lc aA]at aa;simp only[Qb,simprocAttr,a8,ah,Wz];exact QmF H r ag aj _ aa
     | false=>
      rw[Le (by rw[aA];decide)]at aa;simp only[Qb,simprocAttr,ak];rw[<- ai];refine av _ _ _ (by simp only[Qd,simprocAttr,a0]) (by simp only[Qd,simprocAttr,a12]) ⟨aj.set (by omega) _,by simp only[Qd,simprocAttr,a1],by simp only[Qd,simprocAttr,a8],by simp only[Qd,simprocAttr,a13],by simp only[Qd,simprocAttr],by rw[Qj,Le ne];exact ah,by rw[Qj,Lc rfl];rfl,ne,by omega,ap⟩ aa
    rw[Le an]at aa;have ax:∀A3:Env,A3 0=v->A3 1=.Z p1->A3 8=.P H.y->A3 12=.Z md->A3 13=.Z mid->A3 15=.P (H.y+1)->T A3 (H2.set (H.y+1) (.C [.Z 5,.Z (pl8 bb rm),.Z 0,.Z 0,.Z 0,.Z 0,.Z 0] 48)):=λA3 b0 b1 aE aB aC aD=>by
     rw[<- ai];exact av _ _ _ b0 aB ⟨aj.set (by omega) _,b1,aE,aC,aD,by rw[Qj,Le ne];exact ah,by rw[Qj,Lc rfl];rfl,ne,by omega,ap⟩ aa
    cases ar:md==0 with
    | false=>
     simp only[Qb,simprocAttr,a3,a14,ak];exact ax _ (by simp only[Qd,simprocAttr,a0]) (by simp only[Qd,simprocAttr,a1]) (by simp only[Qd,simprocAttr,a8]) (by simp only[Qd,simprocAttr,a12]) (by simp only[Qd,simprocAttr,a13]) (by simp only[Qd,simprocAttr])
    | true=>
     have au:(rm==5)=false:=by simpa[ar] using an
     simp only[au,Qb,simprocAttr,a3,a14,ak];exact ax _ (by simp only[Qd,simprocAttr,a0]) (by simp only[Qd,simprocAttr,a1]) (by simp only[Qd,simprocAttr,a8]) (by simp only[Qd,simprocAttr,a12]) (by simp only[Qd,simprocAttr,a13]) (by simp only[Qd,simprocAttr])
 have aI:(x==1&&(md==3||!(rm==4)))=true->r=(QK,4):=λh=>by rw[Lc h]at aa;exact aa
 repeat' (first
  | (refine Qz (λh=>?_) (λh=>?_)<;>(try simp only[Lr,Lu]at h)<;>simp only[Qb,simprocAttr,h,r8,gS,Wz])
  | (refine Qg (λh=>?_) (λh=>?_)<;>(try simp only[Lr,Lu]at h)<;>simp only[Qb,simprocAttr,h,r8,gS,Wz])
  | fail)
 all_goals first
  | (refine go _ (by simp only[Qd,simprocAttr,aM]) (by simp only[Qd,simprocAttr]) (by simp only[Qd,simprocAttr,r2]) (by simp only[Qd,simprocAttr,r3]) (by simp only[Qd,simprocAttr,r8]) (by simp only[Qd,simprocAttr]) (by simp only[Qd,simprocAttr]) (by simp only[Qd,simprocAttr]) (by simp_all);done)
  | (refine QmF H r ag hx _ (aI (by simp_all));done)
def Qtv (v:Value)(bs:List Int)(ac:Qf4 H v bs)(ag:bs.length<=1000000)(p x bb:Int)(ah:I64 p):Qe Pg 63 [v,.Z p,.Z x,.Z bb] H (QxU H (rdF bs p x bb)):=by
 refine Qrd λaa=>?_;obtain⟨r,ae⟩:∃r,r=rdF bs p x bb:=⟨_,rfl⟩;rw[<- ae];have q:r=if(decide (p<0)||decide ((bs.length:Int)<p)||decide (x<0)||decide (1<x)||decide (bb<0)||decide (1<bb))=true then(QK,5)
  else if((Q3 bs p 1 false).2==0)=true then JV bs (IntKind.i64.wrap (p+1)) (QP (Q3 bs p 1 false).1).1 (QP (Q3 bs p 1 false).1).2.1 (QP (Q3 bs p 1 false).1).2.2 x bb
  else(QK,(Q3 bs p 1 false).2):=ae
 clear ae;obtain⟨a,cap,rfl,_⟩:=id ac;have ab:Ext H (H.push (.C z10 85)):=(Ext.refl H).push _;have gS:(H.push (.C z10 85)).get H.y=some (.C z10 85):=by rw[Qc,Lc rfl]
 have am:(H.push (.C z10 85)).y=H.y+1:=rfl;simp only[Qik,Qb,simprocAttr];generalize H.push (.C z10 85)=H0 at *;have go:∀A:Env,A 0=.slice a bs.length cap->A 1=.Z p->A 2=.Z x->A 3=.Z bb->A 8=.P H.y->(decide (p<0)||decide ((bs.length:Int)<p)||decide (x<0)||decide (1<x)||decide (bb<0)||decide (1<bb))=false->Qm Pg Ve ⟨KRd H r,X4⟩ (KRd H r) A H0:=by
  intro A a0 a1 a2 a3 a8 ak;rw[Le (by rw[ak];decide)]at q;have an:=QcR _ bs p 1 false H0 (ac.ext aa ab) ag ah;simp only[Ve,Qb,simprocAttr,a0,a1];refine an.w ?_;rintro _ H1 _ ao ⟨rfl,rfl⟩;generalize Q3 bs p 1 false=g at *;obtain⟨g,aj⟩:=g;simp only at q;simp only[Qb,simprocAttr];cases ai:aj==0 with
  | false=>
   rw[Le (by rw[ai];decide)]at q;simp only[Qb,simprocAttr,a8,gS,Wz];exact QmF H r aa ab _ q
  | true=>
   rw[Lc ai]at q;simp only[Qb,simprocAttr];exact QFs H r aa _ bs ac ag g p x bb ah _ _ _ _ (by simp only[Qd,simprocAttr,a0]) (by simp only[Qd,simprocAttr,a1]) (by simp only[Qd,simprocAttr,a2]) (by simp only[Qd,simprocAttr,a3]) (by simp only[Qd,simprocAttr,a8]) (by simp only[Qd,simprocAttr]) ab am gS q
 have ad:(decide (p<0)||decide ((bs.length:Int)<p)||decide (x<0)||decide (1<x)||decide (bb<0)||decide (1<bb))=true->r=(QK,5):=λh=>by rw[Lc h]at q;exact q
 clear q
 repeat' (first
  | (refine Qz (λh=>?_) (λh=>?_)<;>(try simp only[Lr,Lu]at h)<;>simp only[Qb,simprocAttr,h,gS,Wz])
  | (refine Qg (λh=>?_) (λh=>?_)<;>(try simp only[Lr,Lu]at h)<;>simp only[Qb,simprocAttr,h,gS,Wz])
  | fail)
 all_goals first
  | (refine go _ (by simp only[Qd,simprocAttr]) (by simp only[Qd,simprocAttr]) (by simp only[Qd,simprocAttr]) (by simp only[Qd,simprocAttr]) (by simp only[Qd,simprocAttr]) (by clear go ad;simp_all);done)
  | (refine QmF H r aa ab _ (ad (by clear go ad;simp_all));done)
end
def ppF (n:Int):Int:=if n=1 then 1 else if n=2 then 4 else if n=3 then 2 else 0
def Qlk (n:Int)(H:Qa):Qe Pg 102 [.Z n] H λu H'=>u=.Z (ppF n)∧H'=H:=by
 refine Qrh λq=>?_;simp(disch:=(try simp only[hnP])<;>try omega) only[Qit,QE,simprocAttr]
 repeat' (first
   | (refine Qg (λh=>?_) (λh=>?_)<;>(try simp only[Lr,Lu]at h)<;>simp(disch:=(try simp only[hnP])<;>try omega) only[QE,simprocAttr,QpE,h])
   | fail)
 all_goals refine .mk (Lb _) ⟨?_,rfl⟩
 all_goals (simp only[ppF];simp_all)
def KN (a b:Int):Int:=IntKind.i64.wrap (BitVec.ofInt IntKind.i64.bits a ^^^ BitVec.ofInt IntKind.i64.bits b).toNat
structure Vd where
 r:Int
 x:Int
 b:Int
 map:Int
 w:Int
 v:Int
 l:Int
 pre:Int
def Vd.cells (v:Vd):List Value:=[.Z v.r,.Z v.x,.Z v.b,.Z v.map,.Z v.w,.Z v.v,.Z v.l,.Z v.pre]
def ZQ:Vd:=⟨0,0,0,0,0,0,0,0⟩
def vx2 (b1:Int):Vd:=⟨GM (KN (IntKind.i64.wrap b1) 248) 7,0,0,1,0,XF (GM (KN (IntKind.i64.wrap b1) 248) 3) 15,XF (GM (KN (IntKind.i64.wrap b1) 248) 2) 1,ppF (XF (KN (IntKind.i64.wrap b1) 248) 3)⟩
def vx3 (b1 b2:Int):Vd:=⟨GM (KN (IntKind.i64.wrap b1) 224) 7,XF (GM (KN (IntKind.i64.wrap b1) 224) 6) 1,XF (GM (KN (IntKind.i64.wrap b1) 224) 5) 1,XF (KN (IntKind.i64.wrap b1) 224) 31,GM (KN (IntKind.i64.wrap b2) 120) 7,XF (GM (KN (IntKind.i64.wrap b2) 120) 3) 15,XF (GM (KN (IntKind.i64.wrap b2) 120) 2) 1,ppF (XF (KN (IntKind.i64.wrap b2) 120) 3)⟩
def QT (bs:List Int):Vd×Int×Int:=
 if bs.length=0 then(ZQ,0,9)
 else if(bs.getD 0 0==197)=true then(if bs.length<2 then(ZQ,0,9) else(vx2 (bs.getD 1 0),2,0))
 else if(bs.getD 0 0==196)=false then(ZQ,0,4)
 else if bs.length<2 then(ZQ,0,9)
 else if(decide (XF (KN (IntKind.i64.wrap (bs.getD 1 0)) 224) 31<1)||decide (3<XF (KN (IntKind.i64.wrap (bs.getD 1 0)) 224) 31))=true then(ZQ,0,4)
 else if bs.length<3 then(ZQ,0,9) else(vx3 (bs.getD 1 0) (bs.getD 2 0),3,0)
def QxV (v:Value)(bs:List Int)(H:Qa)(an:Qf4 H v bs)(aH:bs.length<=1000000):Qe Pg 76 [v] H λu H'=>u=.tuple #[.agg (QT bs).1.cells.toArray,.Z (QT bs).2.1,.Z (QT bs).2.2]∧∃k,H'=H.up k:=by
 refine Qvo λaq=>?_;obtain⟨a,cap,rfl,an⟩:=an;have ar:Ext H (H.push (.C ZQ.cells 134)):=(Ext.refl H).push _;have gV:(H.push (.C ZQ.cells 134)).get H.y=some (.C ZQ.cells 134):=by rw[Qc,Lc rfl]
 have aF:ZQ.cells=[.Z 0,.Z 0,.Z 0,.Z 0,.Z 0,.Z 0,.Z 0,.Z 0]:=rfl;rw[aF]at ar gV;have aI:=fun(b:Nat) c e ro (h:H.get b=some (.cells c e ro))=>aq.lt h;obtain⟨r,ap⟩:∃r,r=QT bs:=⟨_,rfl⟩;rw[<- ap];have q:r=if bs.length=0 then(ZQ,0,9)
  else if(bs.getD 0 0==197)=true then(if bs.length<2 then(ZQ,0,9) else(vx2 (bs.getD 1 0),2,0))
  else if(bs.getD 0 0==196)=false then(ZQ,0,4)
  else if bs.length<2 then(ZQ,0,9)
  else if(decide (XF (KN (IntKind.i64.wrap (bs.getD 1 0)) 224) 31<1)||decide (3<XF (KN (IntKind.i64.wrap (bs.getD 1 0)) 224) 31))=true then(ZQ,0,4)
  else if bs.length<3 then(ZQ,0,9) else(vx3 (bs.getD 1 0) (bs.getD 2 0),3,0):=ap
 clear ap;have ai:∀ (v:Vd) (n x:Int) (H1:Qa),Ext H H1->r=(v,n,x)->Ret H (λu H'=>u=.tuple #[.agg r.1.cells.toArray,.Z r.2.1,.Z r.2.2]∧∃k,H'=H.up k) (.tuple #[.agg v.cells.toArray,.Z n,.Z x]) H1:=λv n x H1 ak am=>.ext aq ak ⟨by rw[am],_,rfl⟩;have aa:∀b,Ext H ((H.push (.C [.Z 0,.Z 0,.Z 0,.Z 0,.Z 0,.Z 0,.Z 0,.Z 0] 134)).set H.y b):=λb=>ar.set (Lb _) b;simp only[Qnv,Qb,simprocAttr];generalize H.push (.C [.Z 0,.Z 0,.Z 0,.Z 0,.Z 0,.Z 0,.Z 0,.Z 0] 134)=H0 at *;have ac:∀ (x:Int) (H1:Qa),Ext H H1->r=(ZQ,0,x)->Ret H (λu H'=>u=.tuple #[.agg r.1.cells.toArray,.Z r.2.1,.Z r.2.2]∧∃k,H'=H.up k) (.tuple #[.agg #[.Z 0,.Z 0,.Z 0,.Z 0,.Z 0,.Z 0,.Z 0,.Z 0],.Z 0,.Z x]) H1:=λx H1 ak am=>ai ZQ 0 x H1 ak am
 by_cases av:bs.length=0
 ·rw[Lc av]at q;have e0:((bs.length:Int)==0)=true:=by simp[av]
  simp only[e0,Qb,simprocAttr,gV,XM];exact ac _ _ (aa _) q
 rw[Le av]at q;have e0:((bs.length:Int)==0)=false:=LC.2 (by omega);obtain⟨b,o,e,ro,cs,rfl,aw,ag⟩:=an (by omega);have ad:H0.get b=some (.cells cs e ro):=(ar.get b (aq.lt aw)).trans aw;have c0:(0:Int)<=0∧(0:Int)<bs.length:=by omega
 have t0:(0:Int).toNat=0:=rfl;have t1:(1:Int).toNat=1:=rfl;have t2:(2:Int).toNat=2:=rfl;have aj:=ag 0 (by omega);simp only[N9]at aj;have s7:(0:Int)<=7:=by omega
 have aG:(0:Int)<=6:=by omega
 have s5:(0:Int)<=5:=by omega
 have s3:(0:Int)<=3:=by omega
 have s2:(0:Int)<=2:=by omega
 simp only[Qir,e0,Qb,simprocAttr,c0,t0,ad,aj];cases ay:bs.getD 0 0==197 with
 | true=>
  rw[Lc ay]at q
  by_cases ae:bs.length<2;·rw[Lc ae]at q;have ab:decide ((bs.length:Int)<2)=true:=Lp (by omega);simp only[Qc1,ab,Qb,simprocAttr,gV,XM];exact ac _ _ (aa _) q
  rw[Le ae]at q;have ab:decide ((bs.length:Int)<2)=false:=Lj (by omega);have ah:(0:Int)<=1∧(1:Int)<bs.length:=by omega
  have g1:=ag 1 (by omega);simp only[Qc1,Qip,ab,Qb,simprocAttr,ah,t1,ad,g1,s7,s3,s2];refine(Qlk _ _).w ?_;rintro _ H0 _ aD ⟨rfl,rfl⟩;simp only[Qb,simprocAttr,gV,XM];exact ai (vx2 (bs.getD 1 0)) 2 0 _ (aa _) q
 | false=>
  rw[Le (by rw[ay];decide)]at q;simp only[Qiq,Qb,simprocAttr,c0,t0,ad,aj];cases az:bs.getD 0 0==196 with
  | false=>
   rw[Lc az]at q;simp only[Qb,simprocAttr,gV,XM];exact ac _ _ (aa _) q
  | true=>
   rw[Le (by rw[az];decide)]at q
   by_cases ae:bs.length<2;·rw[Lc ae]at q;have ab:decide ((bs.length:Int)<2)=true:=Lp (by omega);simp only[Qc2,ab,Qb,simprocAttr,gV,XM];exact ac _ _ (aa _) q
   rw[Le ae]at q;have ab:decide ((bs.length:Int)<2)=false:=Lj (by omega);have ah:(0:Int)<=1∧(1:Int)<bs.length:=by omega
   have g1:=ag 1 (by omega);have aE:IntKind.i64.wrap (BitVec.ofInt IntKind.i64.bits (IntKind.i64.wrap (bs.getD 1 0)) ^^^ BitVec.ofInt IntKind.i64.bits 224).toNat=KN (IntKind.i64.wrap (bs.getD 1 0)) 224:=rfl;have aB:IntKind.i64.wrap (BitVec.ofInt IntKind.i64.bits (KN (IntKind.i64.wrap (bs.getD 1 0)) 224) &&& BitVec.ofInt IntKind.i64.bits 31).toNat=XF (KN (IntKind.i64.wrap (bs.getD 1 0)) 224) 31:=rfl;simp only[Qc2,Qio,ab,Qb,simprocAttr,ah,t1,ad,g1,aE,aB];have go:∀A:Env,A 0=.slice (some ⟨b,o,none⟩) bs.length cap->A 2=.P H.y->A 6=.Z (KN (IntKind.i64.wrap (bs.getD 1 0)) 224)->(decide (XF (KN (IntKind.i64.wrap (bs.getD 1 0)) 224) 31<1)||decide (3<XF (KN (IntKind.i64.wrap (bs.getD 1 0)) 224) 31))=false->Qm Pg Vs ⟨Rt Pg Tryz.f76 H (λu H'=>u=.tuple #[.agg r.1.cells.toArray,.Z r.2.1,.Z r.2.2]∧∃k,H'=H.up k),X4⟩ (Rt Pg Tryz.f76 H (λu H'=>u=.tuple #[.agg r.1.cells.toArray,.Z r.2.1,.Z r.2.2]∧∃k,H'=H.up k)) A H0:=by
    intro A a0 a2 a6 aC;rw[Le (by rw[aC];decide)]at q
    by_cases ax:bs.length<3;·rw[Lc ax]at q;have au:decide ((bs.length:Int)<3)=true:=Lp (by omega);simp only[Vs,au,Qb,simprocAttr,a0,a2,gV,XM];exact ac _ _ (aa _) q
    rw[Le ax]at q;have au:decide ((bs.length:Int)<3)=false:=Lj (by omega);have aA:(0:Int)<=2∧(2:Int)<bs.length:=by omega
    have g2:=ag 2 (by omega);simp only[Vs,Qin,au,Qb,simprocAttr,a0,a6,aA,t2,ad,g2,s7,aG,s5,s3];refine(Qlk _ _).w ?_;rintro _ H0 _ aD ⟨rfl,rfl⟩;simp only[Qb,simprocAttr,a2,gV,XM];exact ai (vx3 (bs.getD 1 0) (bs.getD 2 0)) 3 0 _ (aa _) q
   have ao:(decide (XF (KN (IntKind.i64.wrap (bs.getD 1 0)) 224) 31<1)||decide (3<XF (KN (IntKind.i64.wrap (bs.getD 1 0)) 224) 31))=true->r=(ZQ,0,4):=λh=>by rw[Lc h]at q;exact q
   clear q
   repeat' (first
    | (refine Qz (λh=>?_) (λh=>?_)<;>(try simp only[Lr,Lu]at h)<;>simp only[Qb,simprocAttr,h,gV,XM])
    | (refine Qg (λh=>?_) (λh=>?_)<;>(try simp only[Lr,Lu]at h)<;>simp only[Qb,simprocAttr,h,gV,XM])
    | fail)
   all_goals first
    | (refine go _ (by simp only[Qd,simprocAttr]) (by simp only[Qd,simprocAttr]) (by simp only[Qd,simprocAttr]) (by clear go ao;simp_all);done)
    | (refine ac _ _ (aa _) (ao (by clear go ao;simp_all));done)
def QKR {P:Program}{fn:Func}{H0 H:Qa}{k:Value->Qa->Prop}{A:Env}{r s u w:Nat}(aa:fn.results=#[.tmp r,.tmp s,.tmp u,.tmp w])(q:(Nat.blt r fn.ntmps&&Nat.blt s fn.ntmps&&Nat.blt u fn.ntmps&&Nat.blt w fn.ntmps)=true):Rt P fn H0 k A H=Ret H0 k (.tuple #[A r,A s,A u,A w]) H:=by
 have:((r<fn.ntmps∧s<fn.ntmps)∧u<fn.ntmps)∧w<fn.ntmps:=by simpa using q
 simp[Rt,QnX,Ret,QfW,aa,ZT,this]
def QCA (H0 H:Qa)(k:Value->Qa->Prop)(A:Env):Rt Pg Tryz.f103 H0 k A H=Ret H0 k (.tuple #[A 2,A 3,A 4,A 5]) H:=QKR (by kernel_rfl) (by kernel_rfl)
def YF (n:Nat)(i k:Nat):Int:=if k<i∧(n / 2 ^ k) % 2=1 then 1 else 0
def QFt:∀ (n:Fin 16) (i:Fin 4),IntKind.i64.wrap (BitVec.ofInt IntKind.i64.bits ((n.1:Nat):Int) &&& BitVec.ofInt IntKind.i64.bits (IntKind.i64.wrap (1 * 2 ^ (min i.1 IntKind.i64.bits)))).toNat=if(n.1 / 2 ^ i.1) % 2=1 then(2 ^ i.1:Int) else 0:=by decide
def QxW (n:Nat)(ao:n<16)(H:Qa):Qe Pg 103 [.Z n] H λu H'=>u=.tuple #[.Z (YF n 4 3),.Z (YF n 4 2),.Z (YF n 4 1),.Z (YF n 4 0)]∧H'=H:=by
 refine Qvp λar=>?_;have am:decide ((n:Int)<0)=false:=Lj (by omega);have an:decide ((15:Int)<n)=false:=Lj (by omega);simp only[Qnw,Qiy,am,an,Qb,simprocAttr];refine Qu (λm A H'=>∃i:Nat,i<=4∧m=4 - i∧H'=H∧A 0=.Z n∧A 17=.Z i∧A 6=.Z (YF n i 3)∧A 7=.Z (YF n i 2)∧A 8=.Z (YF n i 1)∧A 9=.Z (YF n i 0)) 4 ?_ ?_
 ·refine⟨0,L7 _,by omega,rfl,?_,?_,?_,?_,?_,?_⟩
  all_goals simp only[Qd,simprocAttr]
  all_goals rfl
 rintro m A H' ⟨i,hi,rfl,rfl,ae,ab,ag,ah,r8,ai⟩;simp only[Qix,Qb,simprocAttr,ab];refine Qg (λaa=>?_) (λaa=>?_)
 ·have aa:i<4:=by have:=Lg aa;omega
  have c0:(0:Int)<=i:=by omega
  have ak:(i:Int).toNat=i:=by omega
  have aq:IntKind.i64.wrap ((i:Int)+1)=((i+1:Nat):Int):=by rw[w64 (by unfold I64;omega)];omega
  have ac:=QFt ⟨n,ao⟩ ⟨i,aa⟩;simp only at ac;simp only[Qiw,Qb,simprocAttr,ae,ab,c0,ak,ac];obtain⟨q,ad⟩:∃q,(n / 2 ^ i) % 2=q:=⟨_,rfl⟩;have ap:q=0∨q=1:=by omega
  rw[ad];have go:∀A2:Env,A2 0=.Z n->A2 17=.Z ((i+1:Nat):Int)->A2 6=.Z (YF n (i+1) 3)->A2 7=.Z (YF n (i+1) 2)->A2 8=.Z (YF n (i+1) 1)->A2 9=.Z (YF n (i+1) 0)->Qvj (λm A H'_1=>∃i:Nat,i<=4∧m=4 - i∧H'_1=H'∧A 0=.Z n∧A 17=.Z i∧A 6=.Z (YF n i 3)∧A 7=.Z (YF n i 2)∧A 8=.Z (YF n i 1)∧A 9=.Z (YF n i 0)) (4 - i) A2 H':=λA2 a0 aj a6 a7 a8 a9=>⟨4 - (i+1),by omega,i+1,by omega,rfl,rfl,a0,aj,a6,a7,a8,a9⟩;obtain rfl | rfl | rfl | rfl:i=0∨i=1∨i=2∨i=3:=by omega
  all_goals rcases ap with rfl | rfl
  all_goals simp only[Qiv,Qiu,Qb,simprocAttr,ab,Int.reducePow,Int.reduceBEq,Nat.zero_ne_one]
  all_goals refine go _ ?_ ?_ ?_ ?_ ?_ ?_
  all_goals simp only[Qd,simprocAttr,ae,ag,ah,r8,ai]
  all_goals (first | rfl | (simp only[YF,ad];simp))
 have aa:i=4:=by have:=Ll aa;omega
 subst aa;simp only[Qb,simprocAttr,ag,ah,r8,ai,QCA];exact .mk (Lb _) ⟨rfl,rfl⟩
def szF (s:Int):Int:=if s=15 then 0 else if s=7 then 1 else if s=8∨s=34 then 2 else if s=9∨s=11∨s=16 then 4 else if s=10∨s=12∨s=17 then 8 else if s=13∨s=18 then 16 else if s=14∨s=19 then 32 else -1
def Qab (s:Int)(H:Qa):Qe Pg 62 [.Z s] H λu H'=>u=.Z (szF s)∧H'=H:=by
 refine Qmj λq=>?_;simp(disch:=(try simp only[hnP])<;>try omega) only[Qds,Qa7,Qa8,Qa9,Qba,Qbb,Qbc,Qbd,Qbe,Qbf,Qao,QE,simprocAttr]
 repeat' (first
   | (refine Qg (λh=>?_) (λh=>?_)<;>(try simp only[Lr,Lu]at h)<;>simp(disch:=(try simp only[hnP])<;>try omega) only[QE,simprocAttr,Qkp,h])
   | fail)
 all_goals refine .mk (Lb _) ⟨?_,rfl⟩
 all_goals (simp only[L0,LC,Da]at *;simp only[szF];simp[*])
def clF (s:Int):Int:=if s=1∨s=7 then 1 else if s=2∨s=8 then 3 else if s=3∨s=9 then 4 else if s=4∨s=10 then 5 else if s=5∨s=11∨s=12∨s=13 then 6 else if s=6∨s=14 then 7 else 0
def Qd3 (s:Int)(H:Qa):Qe Pg 61 [.Z s] H λu H'=>u=.Z (clF s)∧H'=H:=by
 refine Qko λq=>?_;simp(disch:=(try simp only[hnP])<;>try omega) only[Qch,Qaf,Qag,Qah,Qai,Qaj,Qak,Qal,Qam,Qan,VG,VH,QE,simprocAttr]
 repeat' (first
   | (refine Qg (λh=>?_) (λh=>?_)<;>(try simp only[Lr,Lu]at h)<;>simp(disch:=(try simp only[hnP])<;>try omega) only[QE,simprocAttr,Qjh,h])
   | fail)
 all_goals refine .mk (Lb _) ⟨?_,rfl⟩
 all_goals (simp only[L0,LC,Da]at *;simp only[clF];simp[*])
structure Rr where
 x:Lf
 bv:Value
 p:Int
 rex:Bool
 r:Int
 xx:Int
 bb:Int
 v:Int
 low:Int
 seen:Sn
def Rr.cells (c:Rr):List Value:=c.x.cells++([c.bv,.Z c.p,.bool c.rex,.Z c.r,.Z c.xx,.Z c.bb,.Z c.v,.Z c.low]++c.seen.cells)
def W8 (c:Rr):c.cells.length=28:=rfl
def Yp (c:Rr):List.take 10 c.cells=c.x.cells:=rfl
def rr1 (c:Rr):c.cells[1]? = some c.x.sv:=rfl
def QrC (c:Rr):c.cells[10]? = some c.bv:=rfl
def Qhd (c:Rr):c.cells[11]? = some (.Z c.p):=rfl
def QKS (c:Rr):c.cells[12]? = some (.bool c.rex):=rfl
def Qoh (c:Rr):c.cells[13]? = some (.Z c.r):=rfl
def QrD (c:Rr):c.cells[14]? = some (.Z c.xx):=rfl
def Qp2 (c:Rr):c.cells[15]? = some (.Z c.bb):=rfl
def QCB (c:Rr)(n:Int):List.take 11 c.cells++(Value.Z n::List.drop 12 c.cells)=({c with p:=n}:Rr).cells:=rfl
structure Wh (H H':Qa) (b:Nat) (c:Rr):Prop where
 y:H.y<=H'.y
 get:∀id,id<H.y->id≠b->H'.get id=H.get id
 at_:H'.get b=some (.C c.cells 87)
def Wh.refl {H:Qa}{b:Nat}{c:Rr}(h:H.get b=some (.C c.cells 87)):Wh H H b c:=⟨Lb _,λ_ _ _=>rfl,h⟩
def Wh.trans {H H1 H2:Qa}{b:Nat}{c c':Rr}(q:Wh H H1 b c)(aa:Wh H1 H2 b c'):Wh H H2 b c':=
 ⟨N8 q.y aa.y,λid ab ac=>by rw[aa.get id (N5 ab q.y) ac,q.get id ab ac],aa.at_⟩
def Wh.up {H H1:Qa}{b:Nat}{c:Rr}(q:Wh H H1 b c){k:Nat}(ab:H1.y<=k):Wh H (H1.up k) b c:=⟨N8 q.y ab,λid aa ac=>by rw[XB];exact q.get id aa ac,by rw[XB];exact q.at_⟩
def Wh.set {H H1:Qa}{b:Nat}{c:Rr}(q:Wh H H1 b c)(c':Rr):Wh H (H1.set b (.C c'.cells 87)) b c':=⟨q.y,λid ab aa=>by rw[Qj,Le aa];exact q.get id ab aa,by rw[Qj,Lc rfl]⟩
def Kr (H:Qa)(b:Nat)(e:Int)(c:Rr):Value->Qa->Prop:=λu H'=>u=.Z e∧Wh H H' b c
def Xu (f:Fm)(r x bb:Int):Bool:=
 if(r==1&&decide (Qh f.slots 1<0))=true then false
 else if(x==1&&(decide (Qh f.slots 2<0)||decide (szF (f.shapes.getD (Qh f.slots 2).toNat 0)<0)))=true then false
 else(bb==0)||decide (0<=Qh f.slots 2)||decide (0<=Qh f.slots 4)
def QvG (x:Int):∀ (l:List Int) (k:Nat),Ke l x k<((k+l.length:Nat):Int)
 | [],k=>by simp[Ke];omega
 | y::l,k=>by
  unfold Ke;split;·simp;omega
  have:=QvG x l (k+1);simp only[Lo];omega
def QoE (l:List Int)(x:Int):Qh l x<l.length:=by
 have:=QvG x l 0;unfold Qh;omega
def QmG (b:Nat)(c:Rr)(H:Qa)(aa:H.get b=some (.C c.cells 87))(hx:c.x.At H)(ay:c.x.f.shapes.length=c.x.f.slots.length):Qe Pg 75 [.P b] H λu H'=>u=.bool (Xu c.x.f c.r c.xx c.bb)∧∃k,H'=H.up k:=by
 refine Qc0 λah=>?_;have ak:=λH' (aj:Ext H H')=>QG c.x 1 H' (hx.ext ah aj);have am:=λH' (aj:Ext H H')=>QG c.x 2 H' (hx.ext ah aj);have an:=λH' (aj:Ext H H')=>QG c.x 4 H' (hx.ext ah aj);have aw:=QoE c.x.f.slots 2;obtain⟨a1,av,e1,s1⟩:=id hx.2.2.1;have ac:c.cells[1]? = some (.slice a1 c.x.f.shapes.length av):=by rw[rr1,e1]
 have aq:Xu c.x.f c.r c.xx c.bb=if(c.r==1&&decide (Qh c.x.f.slots 1<0))=true then false
  else if(c.xx==1&&(decide (Qh c.x.f.slots 2<0)||decide (szF (c.x.f.shapes.getD (Qh c.x.f.slots 2).toNat 0)<0)))=true then false
  else(c.bb==0)||decide (0<=Qh c.x.f.slots 2)||decide (0<=Qh c.x.f.slots 4):=rfl
 rw[aq];clear aq;generalize Qh c.x.f.slots 1=i1 at *;generalize Qh c.x.f.slots 2=i2 at *;generalize Qh c.x.f.slots 4=i4 at *;have q:=Ext.refl H;have ao:0<=i2->∃b1 e1 au,a1=some ⟨b1,0,none⟩∧H.get b1=some (.cells (ints c.x.f.shapes) e1 au):=λh=>s1 (by omega);have az:decide (i2<0)=!decide (0<=i2):=by rw[Ni,Lr,Lv,NY];omega
 by_cases ap:0<=i2
 ·obtain⟨b1,t1,au,rfl,ag⟩:=ao ap;have ax:=ah.lt ag;have ad:decide (0<=i2)=true:=Lp ap;have ae:decide (i2<0)=false:=Lj (by omega);have d1:(0:Int)<=i2∧i2<c.x.f.shapes.length:=by omega
  have g1:=Kd (l:=c.x.f.shapes) (i:=i2.toNat) (by omega);have ar:=λH=>Qab (c.x.f.shapes.getD i2.toNat 0) H;generalize szF (c.x.f.shapes.getD i2.toNat 0)=z at *;simp only[YB,Qb,simprocAttr,aa,W8,Yp];refine(am _ q).w ?_;rintro _ _ ab ai ⟨rfl,k2,rfl⟩;have q:=q.up (show _<=k2 from ab);simp only[Qq,Qr,Qb,simprocAttr,aa,Qoh]
  repeat' (first
   | (refine Qz (λh=>?_) (λh=>?_)<;>(try simp only[Lr,Lu]at h)<;>simp only[Qq,Qr,Qb,simprocAttr,aa,W8,Yp,Qoh,QrD,Qp2,ac,QN,h,ad,ae,d1,ag,g1])
   | (refine Qg (λh=>?_) (λh=>?_)<;>(try simp only[Lr,Lu]at h)<;>simp only[Qq,Qr,Qb,simprocAttr,aa,W8,Yp,Qoh,QrD,Qp2,ac,QN,h,ad,ae,d1,ag,g1])
   | (refine(ak _ q).w ?_;rintro _ _ ab ai ⟨rfl,k,rfl⟩;have q:=q.up (show _<=k from ab);simp only[Qq,Qr,Qb,simprocAttr,aa,W8,Yp,Qoh,QrD,Qp2,ac,QN,ad,ae,d1,ag,g1])
   | (refine(an _ q).w ?_;rintro _ _ ab ai ⟨rfl,k,rfl⟩;have q:=q.up (show _<=k from ab);simp only[Qq,Qr,Qb,simprocAttr,aa,W8,Yp,Qoh,QrD,Qp2,ac,QN,ad,ae,d1,ag,g1])
   | (refine(ar _).w ?_;rintro _ _ ab ai ⟨rfl,rfl⟩;simp only[Qq,Qr,Qb,simprocAttr,aa,W8,Yp,Qoh,QrD,Qp2,ac,QN,ad,ae,d1,ag,g1])
   | fail)
  all_goals refine .ext ah q ⟨?_,_,rfl⟩
  all_goals (clear ak am an ar aa hx ac ao ag g1 e1 s1;simp_all)
 have ad:decide (0<=i2)=false:=Lj ap;have ae:decide (i2<0)=true:=Lp (by omega);simp only[YB,Qb,simprocAttr,aa,W8,Yp];refine(am _ q).w ?_;rintro _ _ ab ai ⟨rfl,k2,rfl⟩;have q:=q.up (show _<=k2 from ab);simp only[Qq,Qr,Qb,simprocAttr,aa,Qoh]
 repeat' (first
  | (refine Qz (λh=>?_) (λh=>?_)<;>(try simp only[Lr,Lu]at h)<;>simp only[Qq,Qr,Qb,simprocAttr,aa,W8,Yp,Qoh,QrD,Qp2,ac,QN,h,ad,ae])
  | (refine Qg (λh=>?_) (λh=>?_)<;>(try simp only[Lr,Lu]at h)<;>simp only[Qq,Qr,Qb,simprocAttr,aa,W8,Yp,Qoh,QrD,Qp2,ac,QN,h,ad,ae])
  | (refine(ak _ q).w ?_;rintro _ _ ab ai ⟨rfl,k,rfl⟩;have q:=q.up (show _<=k from ab);simp only[Qq,Qr,Qb,simprocAttr,aa,W8,Yp,Qoh,QrD,Qp2,ac,QN,ad,ae])
  | (refine(an _ q).w ?_;rintro _ _ ab ai ⟨rfl,k,rfl⟩;have q:=q.up (show _<=k from ab);simp only[Qq,Qr,Qb,simprocAttr,aa,W8,Yp,Qoh,QrD,Qp2,ac,QN,ad,ae])
  | fail)
 all_goals refine .ext ah q ⟨?_,_,rfl⟩
 all_goals (clear ak am an aa hx ac ao e1 s1;simp_all)
structure Jj (H0 H:Qa) (b:Nat) (c:Rr) (bs:List Int):Prop where
 wf:H0.Wf
 hx:Ext H0 H
 lo:H0.y<=b
 at_:H.get b=some (.C c.cells 87)
 fm:c.x.At H0
 by_:Qf4 H0 c.bv bs
 len:bs.length<=1000000
 p0:0<=c.p∧c.p<=bs.length
def Jj.only {H0 H H':Qa}{b:Nat}{c c':Rr}{bs:List Int}(h:Jj H0 H b c bs)(q:Wh H H' b c')(hx:c'.x=c.x)(ab:c'.bv=c.bv)(ac:0<=c'.p∧c'.p<=bs.length):Jj H0 H' b c' bs:=
 ⟨h.wf,⟨N8 h.hx.y q.y,λid aa=>by rw[q.get id (N5 aa h.hx.y) (by have:=h.lo;omega),h.hx.get id aa]⟩,h.lo,q.at_,by rw[hx];exact h.fm,by rw[ab];exact h.by_,h.len,ac⟩
def Jj.up {H0 H:Qa}{b:Nat}{c:Rr}{bs:List Int}(h:Jj H0 H b c bs){k:Nat}(q:H.y<=k):Jj H0 (H.up k) b c bs:=h.only (Wh.refl h.at_ |>.up q) rfl rfl h.p0
def Qb6 (bs:List Int)(p n:Int):Int×Int:=
 if(bs.length:Int)<=p then(9,p) else if(IntKind.i64.wrap (bs.getD p.toNat 0)==n)=false then(4,p) else(0,IntKind.i64.wrap (p+1))
def QxX {bs:List Int}{p n:Int}(h:0<=p∧p<=bs.length)(q:bs.length<=1000000):0<=(Qb6 bs p n).2∧(Qb6 bs p n).2<=bs.length:=by
 unfold Qb6;split;·exact h
 split;·exact h
 rw[w64 (by unfold I64;omega)];simp only;omega
def Qll {H0:Qa}(b:Nat)(c:Rr)(bs:List Int)(n:Int)(H:Qa)(h:Jj H0 H b c bs):Qe Pg 60 [.P b,.Z n] H (Kr H b (Qb6 bs c.p n).1 {c with p:=(Qb6 bs c.p n).2}):=by
 refine Qdr λan=>?_;obtain⟨am,hx,lo,ac,fm,by_,len,p0⟩:=h;obtain⟨a,cap,ah,ai⟩:=by_;have ad:c.cells[10]? = some (.slice a bs.length cap):=by rw[QrC,ah]
 have oc:=Wh.refl ac;have aa:Qb6 bs c.p n=if(bs.length:Int)<=c.p then(9,c.p) else if(IntKind.i64.wrap (bs.getD c.p.toNat 0)==n)=false then(4,c.p) else(0,IntKind.i64.wrap (c.p+1)):=rfl
 simp only[KZ,Qb,simprocAttr,ac,Qhd,ad]
 by_cases ab:(bs.length:Int)<=c.p;·rw[Lc ab]at aa;simp only[ab,Nf,Qb,simprocAttr,Yx];exact .mk (Lb _) ⟨by rw[aa],by rw[aa];exact oc⟩
 rw[Le ab]at aa;obtain⟨bb,o,e,ro,cs,rfl,ae,aj⟩:=ai (by omega);have ak:H.get bb=some (.cells cs e ro):=(hx.get bb (am.lt ae)).trans ae;have ag:(0:Int)<=c.p∧c.p<bs.length:=by omega
 have g1:=aj c.p.toNat (by omega);simp only[ab,NE,Qb,simprocAttr,ac,Qhd,ad,ag,ak,g1];cases q:IntKind.i64.wrap (bs.getD c.p.toNat 0)==n with
 | false=>
  rw[Lc q]at aa;simp only[Qb,simprocAttr,Yx];exact .mk (Lb _) ⟨by rw[aa],by rw[aa];exact oc⟩
 | true=>
  rw[Le (by rw[q];decide)]at aa;simp only[Qb,simprocAttr,ac,Qhd,W8,QCB,Yx];exact .mk (Lb _) ⟨by rw[aa],by rw[aa];exact oc.set _⟩
def QH7 {a b c d:Value}{l:List Value}{H:Qa}{k:Value->Qa->Prop}:QCd (.tuple (a::b::c::d::l).toArray) 3 H k=k d H:=Qs
def rr7 (c:Rr):c.cells[7]? = some (.Z c.x.f.w):=rfl
def QKT (c:Rr)(v:Bool):List.take 12 c.cells++(Value.bool v::List.drop 13 c.cells)=({c with rex:=v}:Rr).cells:=rfl
def QH8 (c:Rr)(n:Int):List.take 13 c.cells++(Value.Z n::List.drop 14 c.cells)=({c with r:=n}:Rr).cells:=rfl
def QH9 (c:Rr)(n:Int):List.take 14 c.cells++(Value.Z n::List.drop 15 c.cells)=({c with xx:=n}:Rr).cells:=rfl
def QIa (c:Rr)(n:Int):List.take 15 c.cells++(Value.Z n::List.drop 16 c.cells)=({c with bb:=n}:Rr).cells:=rfl
def QQ (bs:List Int)(p:Int):Int:=IntKind.i64.wrap (bs.getD p.toNat 0)
def Qtw (c:Rr)(m:Nat):Rr:={c with rex:=true,r:=YF m 4 2,xx:=YF m 4 1,bb:=YF m 4 0,p:=IntKind.i64.wrap (c.p+1)}
def Ya (c:Rr)(w:Int):Int×Rr:=if(!(w==c.x.f.w)||!Xu c.x.f c.r c.xx c.bb)=true then(4,c) else(0,c)
def X5 (bs:List Int)(c:Rr):Int×Rr:=
 if(bs.length:Int)<=c.p then(9,c)
 else if(decide (64<=QQ bs c.p)&&decide (QQ bs c.p<=79))=true then Ya (Qtw c (QQ bs c.p - 64).toNat) (YF (QQ bs c.p - 64).toNat 4 3) else Ya c 0
def QbN (c:Rr)(w:Int):(Ya c w).2=c:=by unfold Ya;split<;>rfl
def QvH {H0:Qa}(b:Nat)(c:Rr)(bs:List Int)(H:Qa)(h:Jj H0 H b c bs)(aE:c.x.f.shapes.length=c.x.f.slots.length):Qe Pg 77 [.P b] H (Kr H b (X5 bs c).1 (X5 bs c).2):=by
 refine Qbg λaJ=>?_;obtain⟨au,hx,lo,ah,fm,by_,len,p0⟩:=id h;obtain⟨a,cap,ay,aj⟩:=by_;have az:∀c':Rr,c'.bv=c.bv->c'.cells[10]? = some (.slice a bs.length cap):=λc' h=>by rw[QrC,h,ay]
 have am:=az c rfl;have oc:=Wh.refl ah;obtain⟨r,ak⟩:∃r,r=X5 bs c:=⟨_,rfl⟩;rw[<- ak];have aa:r=if(bs.length:Int)<=c.p then(9,c)
  else if(decide (64<=QQ bs c.p)&&decide (QQ bs c.p<=79))=true then Ya (Qtw c (QQ bs c.p - 64).toNat) (YF (QQ bs c.p - 64).toNat 4 3) else Ya c 0:=ak
 clear ak;have tail:∀ (c':Rr) (w:Int) (A:Env) (H1:Qa),A 0=.P b->A 3=.Z w->Wh H H1 b c'->c'.x=c.x->r=Ya c' w->Qm Pg XC ⟨Rt Pg Tryz.f77 H (Kr H b r.1 r.2),X4⟩ (Rt Pg Tryz.f77 H (Kr H b r.1 r.2)) A H1:=by
  intro c' w A H1 a0 a3 ad ao ar;have an:=ad.at_;have aG:Ext H0 H1:=⟨N8 hx.y ad.y,λid aq=>by rw[ad.get id (N5 aq hx.y) (by omega),hx.get id aq]⟩;have aH:=QmG b c' H1 an (by rw[ao];exact fm.ext au aG) (by rw[ao];exact aE);have ab:r=if(!(w==c'.x.f.w)||!Xu c'.x.f c'.r c'.xx c'.bb)=true then(4,c') else(0,c'):=ar
  clear ar;simp only[XC,Qb,simprocAttr,a0,a3,an,rr7];cases ac:w==c'.x.f.w with
  | false=>
   rw[Lc (by rw[ac];rfl)]at ab;simp only[Qb,simprocAttr,WS];exact .mk ad.y ⟨by rw[ab],by rw[ab];exact ad⟩
  | true=>
   simp only[Qb,simprocAttr,a0];refine aH.w ?_;rintro _ _ aD aF ⟨rfl,k,rfl⟩;have ai:=ad.up (show _<=k from aD);simp only[Qb,simprocAttr];cases ae:Xu c'.x.f c'.r c'.xx c'.bb with
   | false=>
    rw[Lc (by rw[ac,ae];rfl)]at ab;simp only[Qb,simprocAttr,WS];exact .mk ai.y ⟨by rw[ab],by rw[ab];exact ai⟩
   | true=>
    rw[Le (by rw[ac,ae];decide)]at ab;simp only[Qb,simprocAttr,WS];exact .mk ai.y ⟨by rw[ab],by rw[ab];exact ai⟩
 simp only[Z8,Qb,simprocAttr,ah,Qhd,am]
 by_cases ag:(bs.length:Int)<=c.p;·rw[Lc ag]at aa;simp only[ag,Nf,Qb,simprocAttr,WS];exact .mk (Lb _) ⟨by rw[aa],by rw[aa];exact oc⟩
 rw[Le ag]at aa;obtain⟨bb,o,e,ro,cs,rfl,ap,aA⟩:=aj (by omega);have aB:H.get bb=some (.cells cs e ro):=(hx.get bb (au.lt ap)).trans ap;have av:(0:Int)<=c.p∧c.p<bs.length:=by omega
 have g1:=aA c.p.toNat (by omega);have aj:IntKind.i64.wrap (bs.getD c.p.toNat 0)=QQ bs c.p:=rfl;simp only[ag,NE,Zo,Qb,simprocAttr,ah,Qhd,am,av,aB,g1,aj]
 by_cases q:(decide (64<=QQ bs c.p)&&decide (QQ bs c.p<=79))=true
 ·rw[Lc q]at aa;obtain⟨ac,ae⟩:64<=QQ bs c.p∧QQ bs c.p<=79:=by simpa using q
  obtain⟨m,aI⟩:∃m:Nat,QQ bs c.p=64+m:=⟨(QQ bs c.p - 64).toNat,by omega⟩;have aC:m<16:=by omega
  have aw:IntKind.i64.wrap (QQ bs c.p - 64)=(m:Int):=by rw[w64 (by unfold I64;omega)];omega
  have ax:(QQ bs c.p - 64).toNat=m:=by omega
  rw[ax]at aa;simp only[Lp ac,Lp ae,Zn,Qb,simprocAttr,aw];refine(QxW m aC H).w ?_;rintro _ H _ aF ⟨rfl,rfl⟩;simp only[Qb,simprocAttr,QH7,ah,Qhd,W8,QCB,QKT,QH8,QH9,QIa];refine tail (Qtw c m) _ _ _ ?_ ?_ ((((((oc.set _).set _).set _).set _).set (Qtw c m))) rfl aa
  all_goals simp only[Qd,simprocAttr]
 rw[Le q]at aa;cases ac:decide (64<=QQ bs c.p) with
 | false=>
  simp only[Qb,simprocAttr];exact tail c 0 _ _ (by simp only[Qd,simprocAttr]) (by simp only[Qd,simprocAttr]) oc rfl aa
 | true=>
  have ae:decide (QQ bs c.p<=79)=false:=by simpa[ac] using q
  simp only[ae,Qb,simprocAttr];exact tail c 0 _ _ (by simp only[Qd,simprocAttr]) (by simp only[Qd,simprocAttr]) oc rfl aa
def QvI (c n:Int):List Value:=[.Z 1,.Z c,.Z n,.Z 0,.Z 0,.Z 0,.Z 0,.Z 0,.Z 0,.Z 0,.Z 0]
def QJ0 (k n:Int):List Value:=[.Z k,.Z 0,.Z 0,.Z 0,.Z 0,.Z 0,.Z 0,.Z 0,.Z 0,.Z 0,.Z n]
def QFu (s:Int):List Value:=if s=28 then QvI 1 0 else if s=29 then QvI 3 0 else if s=30 then QvI 4 0 else if s=31 then QvI 5 0 else if s=32 then QvI 1 1 else QJ0 3 1
def QvJ (H:Qa)(l:List Value):Value->Qa->Prop:=λu H'=>u=.agg l.toArray∧∃k,H'=H.up k
def QFv (s:Int)(H:Qa):Qe Pg 85 [.Z s] H (QvJ H (QFu s)):=by
 refine Qn6 λq=>?_;have hx:=Ext.refl H;simp only[Qfu,Qb,simprocAttr]
 repeat' (first
   | (refine Qg (λh=>?_) (λh=>?_)<;>(try simp only[Lr,Lu]at h)<;>simp only[Qb,simprocAttr,Qmk,h])
   | fail)
 all_goals refine Ret.ext q ((hx.push _).set (Lb _) _) ⟨?_,_,rfl⟩
 all_goals (simp only[L0,LC,Da]at *;simp only[QFu];simp[*,QvI,QJ0])
def QmH (c:Rr)(s n:Int):Int:=bif (clF s==1)&&!c.rex&&!c.x.f.vex&&decide (4<=n)&&decide (n<=7) then 2 else clF s
def rr8 (c:Rr):c.cells[8]? = some (.bool c.x.f.vex):=rfl
def QxY (b:Nat)(c:Rr)(s n:Int)(H:Qa)(q:H.get b=some (.C c.cells 87)):Qe Pg 84 [.P b,.Z s,.Z n] H (QvJ H (QvI (QmH c s n) n)):=by
 refine Qb2 λaa=>?_;have hx:=Ext.refl H;have ad:=aa.lt q;have ac:QmH c s n=bif (clF s==1)&&!c.rex&&!c.x.f.vex&&decide (4<=n)&&decide (n<=7) then 2 else clF s:=rfl
 simp only[JL,Qb,simprocAttr];refine(Qd3 s _).w ?_;rintro _ _ ae ag ⟨rfl,rfl⟩;generalize clF s=z at *;simp only[Qb,simprocAttr];have ab:(b=H.y)=False:=by simp;omega
 cases b1:z==1<;>cases b2:c.rex<;>cases b3:c.x.f.vex<;>cases b4:decide (4<=n)<;>cases b5:decide (n<=7)<;>simp only[Qb,simprocAttr,ab,Qbi,q,QKS,rr8,b2,b3,b4,b5]
 all_goals refine Ret.ext aa ((hx.push _).set (Lb _) _) ⟨?_,_,rfl⟩
 all_goals (rw[ac,b1,b2,b3,b4,b5];rfl)
def rr5 (c:Rr):c.cells[5]? = some (.Z c.x.f.code):=rfl
def rr6 (c:Rr):c.cells[6]? = some (.Z c.x.f.digit):=rfl
def QJ1 (c:Rr):c.cells[17]? = some (.Z c.low):=rfl
def QKU (c:Rr)(n:Int):List.take 17 c.cells++(Value.Z n::List.drop 18 c.cells)=({c with low:=n}:Rr).cells:=rfl
def ZA (bs:List Int)(p:Int):Int:=IntKind.i64.wrap (IntKind.u8.wrap (BitVec.ofInt IntKind.u8.bits (bs.getD p.toNat 0) &&& BitVec.ofInt IntKind.u8.bits 7).toNat)
def Wd (bs:List Int)(c:Rr)(n:Int):Int×Rr:=((Qb6 bs c.p n).1,{c with p:=(Qb6 bs c.p n).2})
def opF (bs:List Int)(c:Rr):Int×Rr:=
 if(decide (Qh c.x.f.slots 4<0))=true then Wd bs c c.x.f.code
 else if(bs.length:Int)<=c.p then(9,c) else Wd bs {c with low:=ZA bs c.p} (IntKind.i64.wrap (c.x.f.code+ZA bs c.p))
def QCC {H0:Qa}(b:Nat)(c:Rr)(bs:List Int)(H:Qa)(h:Jj H0 H b c bs):Qe Pg 38 [.P b] H (Kr H b (opF bs c).1 (opF bs c).2):=by
 refine Qdo λax=>?_;obtain⟨aj,hx,lo,ab,fm,by_,len,p0⟩:=id h;obtain⟨a,cap,ao,aq⟩:=by_;have ap:∀c':Rr,c'.bv=c.bv->c'.cells[10]? = some (.slice a bs.length cap):=λc' h=>by rw[QrC,h,ao]
 have ah:=ap c rfl;obtain⟨r,ae⟩:∃r,r=opF bs c:=⟨_,rfl⟩;rw[<- ae];have aa:r=if(decide (Qh c.x.f.slots 4<0))=true then Wd bs c c.x.f.code
  else if(bs.length:Int)<=c.p then(9,c) else Wd bs {c with low:=ZA bs c.p} (IntKind.i64.wrap (c.x.f.code+ZA bs c.p)):=ae
 clear ae;have aw:=QG c.x 4 H (fm.ext aj hx);generalize Qh c.x.f.slots 4=i4 at *;simp only[KW,Qb,simprocAttr,ab,W8,Yp];refine aw.w ?_;rintro _ _ ad ak ⟨rfl,k,rfl⟩;have an:=h.up (show _<=k from ad);have oc:=(Wh.refl ab).up (show _<=k from ad);simp only[Qb,simprocAttr];cases q:decide (i4<0) with
 | true=>
  rw[Lc q]at aa;simp only[Qb,simprocAttr,ab,rr5];refine(Qll b c bs c.x.f.code _ an).w ?_;rintro _ _ ad ak ⟨rfl,ac⟩;simp only[Qb,simprocAttr,Yu];exact .mk (oc.trans ac).y ⟨by rw[aa,Wd],by rw[aa,Wd];exact oc.trans ac⟩
 | false=>
  rw[Le (by rw[q];decide)]at aa;simp only[Qb,simprocAttr,ab,Qhd,ah]
  by_cases g:(bs.length:Int)<=c.p;·rw[Lc g]at aa;simp only[g,Nf,Qb,simprocAttr,Yu];exact .mk oc.y ⟨by rw[aa],by rw[aa];exact oc⟩
  rw[Le g]at aa;obtain⟨bb,o,e,ro,cs,rfl,ai,ar⟩:=aq (by omega);have au:H.get bb=some (.cells cs e ro):=(hx.get bb (aj.lt ai)).trans ai;have am:(0:Int)<=c.p∧c.p<bs.length:=by omega
  have g1:=ar c.p.toNat (by omega);simp only[g,NE,Qb,simprocAttr,ab,Qhd,ah,am,au,g1,W8,QKU];have av:IntKind.i64.wrap (IntKind.u8.wrap (BitVec.ofInt IntKind.u8.bits (bs.getD c.p.toNat 0) &&& BitVec.ofInt IntKind.u8.bits 7).toNat)=ZA bs c.p:=rfl;rw[av];simp only[Qb,simprocAttr,rr5,QJ1];have ag:=oc.set {c with low:=ZA bs c.p};refine(Qll b {c with low:=ZA bs c.p} bs _ _ (h.only ag rfl rfl p0)).w ?_;rintro _ _ ad ak ⟨rfl,ac⟩;simp only[Qb,simprocAttr,Yu];exact .mk (ag.trans ac).y ⟨by rw[aa,Wd],by rw[aa,Wd];exact ag.trans ac⟩
def Wh.ext {H H1 H2:Qa}{b:Nat}{c:Rr}(h:Wh H H1 b c)(aa:b<H.y)(hx:Ext H1 H2):Wh H H2 b c:=
 ⟨N8 h.y hx.y,λid q ab=>by rw[hx.get id (N5 q h.y),h.get id q ab],by rw[hx.get b (N5 aa h.y),h.at_]⟩
def G3 (f:Fm)(n s:Int):Bool:=!(decide (0<=f.digit)&&!(XF (GM n 3) 7==f.digit))&&bif GM n 6==3 then !(clF s==0) else !decide (szF s<0)
def Vj (bs:List Int)(c:Rr):Int×Rr:=
 if decide (Qh c.x.f.slots 2<0)=true then(0,c)
 else if(bs.length:Int)<=c.p then(9,c)
 else if G3 c.x.f (QQ bs c.p) (c.x.f.shapes.getD (Qh c.x.f.slots 2).toNat 0)=false then(4,c)
 else if((rdF bs c.p c.xx c.bb).2==0)=false then((rdF bs c.p c.xx c.bb).2,c)
 else(0,{c with seen:=(rdF bs c.p c.xx c.bb).1,p:=(rdF bs c.p c.xx c.bb).1.ends})
def Qp3 {H0:Qa}(b:Nat)(c:Rr)(bs:List Int)(H:Qa)(h:Jj H0 H b c bs)(aU:c.x.f.shapes.length=c.x.f.slots.length):Qe Pg 39 [.P b] H (Kr H b (Vj bs c).1 (Vj bs c).2):=by
 refine QeB λar=>?_;obtain⟨r,aq⟩:∃r,r=Vj bs c:=⟨_,rfl⟩;rw[<- aq];have aa:r=if decide (Qh c.x.f.slots 2<0)=true then(0,c)
  else if(bs.length:Int)<=c.p then(9,c)
  else if G3 c.x.f (QQ bs c.p) (c.x.f.shapes.getD (Qh c.x.f.slots 2).toNat 0)=false then(4,c)
  else if((rdF bs c.p c.xx c.bb).2==0)=false then((rdF bs c.p c.xx c.bb).2,c)
  else(0,{c with seen:=(rdF bs c.p c.xx c.bb).1,p:=(rdF bs c.p c.xx c.bb).1.ends}):=aq
 clear aq;obtain⟨ak,hx,lo,ac,fm,by_,len,p0⟩:=id h;have aC:∀H':Qa,Ext H H'->Qf4 H' c.bv bs:=λH' aN=>by
  obtain⟨a,cap,ao,ag⟩:=by_;refine⟨a,cap,ao,λaK=>?_⟩;obtain⟨bb,o,e,ro,cs,e1,ah,ap⟩:=ag aK;have:=ak.lt ah;exact⟨bb,o,e,ro,cs,e1,by rw[aN.get bb (N5 this hx.y),hx.get bb this,ah],ap⟩
 obtain⟨a,cap,ao,ag⟩:=id by_;have aI:∀c':Rr,c'.bv=c.bv->c'.cells[10]? = some (.slice a bs.length cap):=λc' h=>by rw[QrC,h,ao]
 have ay:=aI c rfl;obtain⟨a1,aD,e1,s1⟩:=id fm.2.2.1;have aM:c.cells[1]? = some (.slice a1 c.x.f.shapes.length aD):=by rw[rr1,e1]
 have aT:=QoE c.x.f.slots 2;have aO:=QG c.x 2 H (fm.ext ak hx);generalize Qh c.x.f.slots 2=i2 at *;simp only[Gk,Qb,simprocAttr,ac,W8,Yp];refine aO.w ?_;rintro _ _ ai au ⟨rfl,k,rfl⟩;have az:H.y<=k:=ai;have oc:=(Wh.refl ac).up az;have aR:=h.up (show _<=k from ai);simp only[J6,Qb,simprocAttr];cases q:decide (i2<0) with
 | true=>
  rw[Lc q]at aa;simp only[Qb,simprocAttr,Wl];exact .mk oc.y ⟨by rw[aa],by rw[aa];exact oc⟩
 | false=>
  rw[Le (by rw[q];decide)]at aa;have aW:0<=i2:=by have:=Ll q;omega
  simp only[Qb,simprocAttr,ac,Qhd,ay]
  by_cases g:(bs.length:Int)<=c.p;·rw[Lc g]at aa;simp only[g,Nf,Qb,simprocAttr,Wl];exact .mk oc.y ⟨by rw[aa],by rw[aa];exact oc⟩
  rw[Le g]at aa;obtain⟨bb,o,e,ro,cs,rfl,ah,ap⟩:=ag (by omega);have aJ:H.get bb=some (.cells cs e ro):=(hx.get bb (ak.lt ah)).trans ah;have aE:(0:Int)<=c.p∧c.p<bs.length:=by omega
  have g1:=ap c.p.toNat (by omega);obtain⟨b1,t1,aP,rfl,ax⟩:=s1 (by omega);have aH:H.get b1=some (.cells (ints c.x.f.shapes) t1 aP):=(hx.get b1 (ak.lt ax)).trans ax;have d1:(0:Int)<=i2∧i2<c.x.f.shapes.length:=by omega
  have g2:=Kd (l:=c.x.f.shapes) (i:=i2.toNat) (by omega);have ag:IntKind.i64.wrap (bs.getD c.p.toNat 0)=QQ bs c.p:=rfl;generalize ai:QQ bs c.p=n at *;generalize aV:c.x.f.shapes.getD i2.toNat 0=s at *;simp only[g,NE,J5,Qb,simprocAttr,ac,Qhd,ay,aE,aJ,g1,aM,d1,aH,g2,ag,rr6];have ab:G3 c.x.f n s=(!(decide (0<=c.x.f.digit)&&!(XF (GM n 3) 7==c.x.f.digit))&&bif GM n 6==3 then !(clF s==0) else !decide (szF s<0)):=rfl;have aA:G3 c.x.f n s=true->∀ (A:Env),A 0=.P b->Qm Pg Yv ⟨Rt Pg Tryz.f39 H (Kr H b r.1 r.2),X4⟩ (Rt Pg Tryz.f39 H (Kr H b r.1 r.2)) A (H.up k):=by
   intro ok A a0;rw[Le (by rw[ok];decide)]at aa;simp only[Yv,J4,Qb,simprocAttr,a0,ac,Qhd,QrC,QrD,Qp2];refine(Qtv _ c.bv bs (aC _ ((Ext.refl H).up az)) len c.p c.xx c.bb (by unfold I64;omega)).w ?_;rintro _ _ aj au ⟨rfl,k2,rfl⟩;have aS:k<=k2:=aj;generalize rdF bs c.p c.xx c.bb=m at *;have sl:m.1.cells.length=10:=rfl;have aQ:m.1.cells[9]? = some (.Z m.1.ends):=rfl;have aL:(b=k2)=False:=by simp;have:=ar.lt ac;omega
   simp only[Qb,simprocAttr,sl];have av:=λB C=>oc.ext (ar.lt ac) ((((Ext.refl (H.up k)).up (show _<=k2 from aj)).push B).set (show(H.up k).y<=k2 from aj) C);cases z:m.2==0 with
   | false=>
    rw[Lc z]at aa;simp only[Qb,simprocAttr,Wl];exact⟨rfl,.mk (av _ _).y ⟨by rw[aa],by rw[aa];exact av _ _⟩⟩
   | true=>
    rw[Le (by rw[z];decide)]at aa;simp only[Qb,simprocAttr,aQ];refine⟨rfl,FM sl.symm,rfl,?_⟩;simp only[Qb,simprocAttr,Wl,a0,aL,ac,W8];refine⟨⟨rfl,Lb _,rfl⟩,by have:=ar.lt ac;omega,show 12<=28 by omega,?_⟩;have of:=λB C=>((av B C).set {c with seen:=m.1}).set {c with seen:=m.1,p:=m.1.ends};exact .mk (of _ _).y ⟨by rw[aa],by rw[aa];exact of _ _⟩
  have tail:((decide (0<=c.x.f.digit)&&!(XF (GM n 3) 7==c.x.f.digit))=false)->∀ (A:Env),A 0=.P b->A 4=.Z n->A 5=.Z s->Qm Pg Yw ⟨Rt Pg Tryz.f39 H (Kr H b r.1 r.2),X4⟩ (Rt Pg Tryz.f39 H (Kr H b r.1 r.2)) A (H.up k):=by
   intro t1 A a0 a4 a5;have am:(0:Int)<=6:=by omega
   have an:n.fdiv (2 ^ min (Int.toNat 6) IntKind.i64.bits)=GM n 6:=rfl;rw[t1]at ab;simp only[Yw,sxA,sxB,Nat.reduceBEq,Nat.reduceEqDiff,reduceCtorEq,mxA,mxB,Nat.reduceAdd,reduceIte,Nat.reduceLeDiff,splice,a4,am,an];cases ae:GM n 6==3 with
   | true=>
    simp only[Qb,simprocAttr,a5];refine(Qd3 s _).w ?_;rintro _ _ aj au ⟨rfl,rfl⟩;cases ad:clF s==0 with
    | true=>
     rw[ae,ad]at ab;rw[Lc (by rw[ab];rfl)]at aa;simp only[Qb,simprocAttr,ad,Wl];exact .mk oc.y ⟨by rw[aa],by rw[aa];exact oc⟩
    | false=>
     rw[ae,ad]at ab;simp only[sxA,sxB,Nat.reduceBEq,Nat.reduceEqDiff,reduceCtorEq,mxA,mxB,Nat.reduceAdd,reduceIte,Nat.reduceLeDiff,splice,ad,am,an,ae,a4];refine aA (by rw[ab];rfl) _ ?_;simp only[Qd,simprocAttr,a0]
   | false=>
    simp only[sxA,sxB,Nat.reduceBEq,Nat.reduceEqDiff,reduceCtorEq,mxA,mxB,Nat.reduceAdd,reduceIte,Nat.reduceLeDiff,splice,am,an,ae,a4,a5];refine(Qab s _).w ?_;rintro _ _ ai au ⟨rfl,rfl⟩;cases ad:decide (szF s<0) with
    | true=>
     rw[ae,ad]at ab;rw[Lc (by rw[ab];rfl)]at aa;simp only[Qb,simprocAttr,ad,Wl];exact .mk oc.y ⟨by rw[aa],by rw[aa];exact oc⟩
    | false=>
     rw[ae,ad]at ab;simp only[Qb,simprocAttr,ad];refine aA (by rw[ab];rfl) _ ?_;simp only[Qd,simprocAttr,a0]
  have aF:(0:Int)<=3:=by omega
  have aG:IntKind.i64.wrap (BitVec.ofInt IntKind.i64.bits (n.fdiv (2 ^ min (Int.toNat 3) IntKind.i64.bits)) &&& BitVec.ofInt IntKind.i64.bits 7).toNat=XF (GM n 3) 7:=rfl;cases aw:decide (0<=c.x.f.digit) with
  | false=>
   simp only[Qb,simprocAttr];refine tail (by rw[aw];rfl) _ ?_ ?_ ?_
   all_goals simp only[Qd,simprocAttr]
  | true=>
   simp only[sxA,sxB,Nat.reduceBEq,Nat.reduceEqDiff,reduceCtorEq,mxA,mxB,Nat.reduceAdd,reduceIte,Nat.reduceLeDiff,splice,ac,rr6,aF,aG];cases aB:XF (GM n 3) 7==c.x.f.digit with
   | false=>
    rw[aw,aB]at ab;rw[Lc (by rw[ab];rfl)]at aa;simp only[Qb,simprocAttr,Wl];exact .mk oc.y ⟨by rw[aa],by rw[aa];exact oc⟩
   | true=>
    simp only[Qb,simprocAttr];refine tail (by rw[aw,aB];rfl) _ ?_ ?_ ?_
    all_goals simp only[Qd,simprocAttr]
abbrev tA2:TypeId:=137
abbrev tA3:TypeId:=138
def XG (i:Nat):Int:=if i=0 then 1 else if i=1 then 2 else 4
def Jz (i:Nat):Int:=if i=0 then 102 else if i=1 then 242 else 243
def QbO (x y:Int):Value:=.agg #[.Z x,.Z y]
def QxZ:Value:=.agg #[.Z 1,.Z 102,.Z 2,.Z 242,.Z 4,.Z 243]
section
variable {A:Env} {H:Qa} {k:Value->Qa->Prop}
def QFw:pr Pg (.gen (.build tA2 #[(0,(.const (.Z 1))),(1,(.const (.Z 102)))])) false A H k=k (QbO 1 102) H:=by
 have e:rop Pg (.gen (.build tA2 #[(0,(.const (.Z 1))),(1,(.const (.Z 102)))])) A H=some (QbO 1 102,H):=by kernel_rfl
 refine(We _).trans ?_;rw[e,Qs]
def QFx:pr Pg (.gen (.build tA2 #[(0,(.const (.Z 2))),(1,(.const (.Z 242)))])) false A H k=k (QbO 2 242) H:=by
 have e:rop Pg (.gen (.build tA2 #[(0,(.const (.Z 2))),(1,(.const (.Z 242)))])) A H=some (QbO 2 242,H):=by kernel_rfl
 refine(We _).trans ?_;rw[e,Qs]
def QFy:pr Pg (.gen (.build tA2 #[(0,(.const (.Z 4))),(1,(.const (.Z 243)))])) false A H k=k (QbO 4 243) H:=by
 have e:rop Pg (.gen (.build tA2 #[(0,(.const (.Z 4))),(1,(.const (.Z 243)))])) A H=some (QbO 4 243,H):=by kernel_rfl
 refine(We _).trans ?_;rw[e,Qs]
def QIb:pr Pg (.gen (.build tA3 #[(0,(t 16)),(1,(t 17)),(2,(t 18))])) false (upd (upd (upd A 16 (QbO 1 102)) 17 (QbO 2 242)) 18 (QbO 4 243)) H k=k QxZ H:=by
 have e:rop Pg (.gen (.build tA3 #[(0,(t 16)),(1,(t 17)),(2,(t 18))])) (upd (upd (upd A 16 (QbO 1 102)) 17 (QbO 2 242)) 18 (QbO 4 243)) H=some (QxZ,H):=by kernel_rfl
 refine(We _).trans ?_;rw[e,Qs]
def QFz {x y:Operand}(i:Nat)(hi:i<3)(hx:ev A x=QxZ)(ab:ev A y=.Z i):pr Pg (.gen (.index tA3 x y)) false A H k=k (QbO (XG i) (Jz i)) H:=by
 have e0:rop Pg (.gen (.index tA3 x y)) A H=rop Pg (.gen (.index tA3 (.const QxZ) (.const (.Z i)))) A H:=by
  have q:ev A (.const QxZ)=QxZ:=rfl;have aa:ev A (.const (.Z i))=.Z i:=rfl;simp only[rop,aop,Qj8,hx,ab,q,aa]
 have e:rop Pg (.gen (.index tA3 x y)) A H=some (QbO (XG i) (Jz i),H):=by
  rw[e0];obtain rfl | rfl | rfl:i=0∨i=1∨i=2:=by omega
  all_goals kernel_rfl
 refine(We _).trans ?_;rw[e,Qs]
def QJ2 {x:Operand}(B:Nat)(i:Nat)(hi:i<2)(hx:ev A x=.P B):pr Pg (.gen (.indexAddr tA2 x (.const (.Z i)))) false A H k=k (.pointer (some ⟨B,i,none⟩)) H:=by
 have e0:rop Pg (.gen (.indexAddr tA2 x (.const (.Z i)))) A H=rop Pg (.gen (.indexAddr tA2 (.const (.P B)) (.const (.Z i)))) A H:=by
  have q:ev A (.const (.P B))=.P B:=rfl;simp only[rop,aop,ZV,hx,q]
 have e:rop Pg (.gen (.indexAddr tA2 x (.const (.Z i)))) A H=some (.pointer (some ⟨B,i,none⟩),H):=by
  rw[e0];obtain rfl | rfl:i=0∨i=1:=by omega
  all_goals kernel_rfl
 refine(We _).trans ?_;rw[e,Qs]
def QFA {ty:TypeId}(q:Pg.underlying ty=some .string){x:Operand}{s:ByteArray}(hx:ev A x=.string s):pr Pg (.gen (.range ty x)) false A H k=k (.P H.y) (H.push (.iter s 0)):=by
 have e:rop Pg (.gen (.range ty x)) A H=some (.P H.y,H.push (.iter s 0)):=by
  simp only[rop,aop,Qoy,hx,q]
 refine(We _).trans ?_;rw[e,Qs]
def QIc {x:Operand}{b p:Nat}{s:ByteArray}(hx:ev A x=.P b)(aa:H.get b=some (.iter s p)):pr Pg (.gen (.next x true)) false A H k=if p<s.size then k (.tuple #[.bool true,.Z p,.int .i32 (Utf8.decode s p).1]) (H.set b (.iter s (p+(Utf8.decode s p).2))) else k (.tuple #[.bool false]) H:=by
 by_cases q:p<s.size
 ·have e:rop Pg (.gen (.next x true)) A H=some (.tuple #[.bool true,.Z p,.int .i32 (Utf8.decode s p).1],H.set b (.iter s (p+(Utf8.decode s p).2))):=by
   simp only[rop,aop,hx,Qr7,aa,q,N3];rfl
  rw[Lc q];refine(We _).trans ?_;rw[e,Qs]
 have e:rop Pg (.gen (.next x true)) A H=some (.tuple #[.bool false],H):=by
  simp only[rop,aop,hx,Qr7,aa,q,LN];rfl
 rw[Le q];refine(We _).trans ?_;rw[e,Qs]
end
def QCD (n:Int):(mkS (WG n)).size=(WG n).length:=rfl
def Qp4 (n:Int):WG n=[15]∨WG n=[15,56]∨WG n=[15,58]∨WG n=[]:=by
 unfold WG;cases(n==1)<;>cases(n==2)<;>cases(n==3)<;>simp
def QId (n:Int)(j:Nat)(h:j<(WG n).length):Utf8.decode (mkS (WG n)) j=(((WG n).getD j 0).toNat,1):=by
 rcases Qp4 n with e | e | e | e<;>rw[e]at h ⊢<;>simp only[Lo,L9]at h
 ·obtain rfl:j=0:=by omega
  kernel_rfl
 ·obtain rfl | rfl:j=0∨j=1:=by omega
  ·kernel_rfl
  kernel_rfl
 ·obtain rfl | rfl:j=0∨j=1:=by omega
  ·kernel_rfl
  kernel_rfl
 omega
def Qlm (a b:Int):Int:=IntKind.i64.wrap (BitVec.ofInt IntKind.i64.bits a &&& ~~~BitVec.ofInt IntKind.i64.bits b).toNat
def Qx0 (x:BitVec 64):BitVec.ofInt 64 (IntKind.i64.wrap x.toNat)=x:=by
 have hx:=x.isLt;apply Fu;rw[B7,NU];omega
def QFB (l a b:Int):XF (Qlm l a) b=IntKind.i64.wrap ((BitVec.ofInt 64 l &&& (~~~BitVec.ofInt 64 a &&& BitVec.ofInt 64 b)).toNat:Nat):=by
 show IntKind.i64.wrap ((BitVec.ofInt 64 (IntKind.i64.wrap ((BitVec.ofInt 64 l &&& ~~~BitVec.ofInt 64 a).toNat:Nat)) &&& BitVec.ofInt 64 b).toNat:Nat)=_;rw[Qx0,BitVec.and_assoc]
def hit (left:Int)(i:Nat):Bool:=!(XF left (XG i)==0)
def KE (l:Int)(i j:Nat)(hi:i<3)(q:j<3):hit (Qlm l (XG i)) j=if i=j then false else hit l j:=by
 unfold hit;rw[QFB];have z:IntKind.i64.wrap ((BitVec.ofInt 64 l &&& 0#64).toNat:Nat)=0:=by rw[BitVec.and_zero];rfl
 have e:∀b,XF l b=IntKind.i64.wrap ((BitVec.ofInt 64 l &&& BitVec.ofInt 64 b).toNat:Nat):=λb=>rfl;obtain rfl | rfl | rfl:i=0∨i=1∨i=2:=by omega
 all_goals obtain rfl | rfl | rfl:j=0∨j=1∨j=2:=by omega
 all_goals first
  | (rw[show(~~~BitVec.ofInt 64 (XG 0) &&& BitVec.ofInt 64 (XG 0))=0#64 by decide,z];rfl)
  | (rw[show(~~~BitVec.ofInt 64 (XG 1) &&& BitVec.ofInt 64 (XG 1))=0#64 by decide,z];rfl)
  | (rw[show(~~~BitVec.ofInt 64 (XG 2) &&& BitVec.ofInt 64 (XG 2))=0#64 by decide,z];rfl)
  | (rw[show(~~~BitVec.ofInt 64 (XG 0) &&& BitVec.ofInt 64 (XG 1))=BitVec.ofInt 64 (XG 1) by decide,e];rfl)
  | (rw[show(~~~BitVec.ofInt 64 (XG 0) &&& BitVec.ofInt 64 (XG 2))=BitVec.ofInt 64 (XG 2) by decide,e];rfl)
  | (rw[show(~~~BitVec.ofInt 64 (XG 1) &&& BitVec.ofInt 64 (XG 0))=BitVec.ofInt 64 (XG 0) by decide,e];rfl)
  | (rw[show(~~~BitVec.ofInt 64 (XG 1) &&& BitVec.ofInt 64 (XG 2))=BitVec.ofInt 64 (XG 2) by decide,e];rfl)
  | (rw[show(~~~BitVec.ofInt 64 (XG 2) &&& BitVec.ofInt 64 (XG 0))=BitVec.ofInt 64 (XG 0) by decide,e];rfl)
  | (rw[show(~~~BitVec.ofInt 64 (XG 2) &&& BitVec.ofInt 64 (XG 1))=BitVec.ofInt 64 (XG 1) by decide,e];rfl)
def cnt (l:Int):Nat:=(hit l 0).toNat+(hit l 1).toNat+(hit l 2).toNat
def QCE (l:Int):cnt l<=3:=by
 unfold cnt;cases hit l 0<;>cases hit l 1<;>cases hit l 2<;>decide
def QoF (l:Int)(i:Nat)(hi:i<3)(h:hit l i=true):cnt (Qlm l (XG i))+1=cnt l:=by
 unfold cnt;rw[KE l i 0 hi (by omega),KE l i 1 hi (by omega),KE l i 2 hi (by omega)];obtain rfl | rfl | rfl:i=0∨i=1∨i=2:=by omega
 all_goals (rw[h];simp;try omega)
def QjM (bs:List Int):Nat->Int->Rr->Int×Rr
 | 0,_,c=>(0,c)
 | n+1,left,c=>
  let go:=λi=>if((Wd bs c (Jz i)).1==0)=true then QjM bs n (Qlm left (XG i)) (Wd bs c (Jz i)).2 else Wd bs c (Jz i)
  if hit left 0=true then go 0 else if hit left 1=true then go 1 else if hit left 2=true then go 2 else(0,c)
def Vk (bs:List Int)(n:Nat)(left:Int)(c:Rr):QjM bs (n+1) left c =
  if hit left 0=true then(if((Wd bs c (Jz 0)).1==0)=true then QjM bs n (Qlm left (XG 0)) (Wd bs c (Jz 0)).2 else Wd bs c (Jz 0))
  else if hit left 1=true then(if((Wd bs c (Jz 1)).1==0)=true then QjM bs n (Qlm left (XG 1)) (Wd bs c (Jz 1)).2 else Wd bs c (Jz 1))
  else if hit left 2=true then(if((Wd bs c (Jz 2)).1==0)=true then QjM bs n (Qlm left (XG 2)) (Wd bs c (Jz 2)).2 else Wd bs c (Jz 2))
  else(0,c):=rfl
def Qln (bs:List Int)(n:Nat)(left:Int)(c:Rr)(i:Nat)(hi:i<3)(q:∀j,j<i->hit left j=false)(h:hit left i=true):
  QjM bs (n+1) left c=if((Wd bs c (Jz i)).1==0)=true then QjM bs n (Qlm left (XG i)) (Wd bs c (Jz i)).2 else Wd bs c (Jz i):=by
 obtain rfl | rfl | rfl:i=0∨i=1∨i=2:=by omega
 ·rw[Vk,Lc h]
 ·rw[Vk,Le (by rw[q 0 (by omega)];decide),Lc h]
 rw[Vk,Le (by rw[q 0 (by omega)];decide),Le (by rw[q 1 (by omega)];decide),Lc h]
def Qso (bs:List Int)(n:Nat)(left:Int)(c:Rr)(q:∀j,j<3->hit left j=false):QjM bs n left c=(0,c):=by
 cases n with
 | zero=>rfl
 | succ n=>rw[Vk,Le (by rw[q 0 (by omega)];decide),Le (by rw[q 1 (by omega)];decide),Le (by rw[q 2 (by omega)];decide)]
def JW (bs:List Int):List UInt8->Rr->Int×Rr
 | [],c=>(0,c)
 | n::l,c=>if((Wd bs c n.toNat).1==0)=true then JW bs l (Wd bs c n.toNat).2 else Wd bs c n.toNat
def Qd4 (bs:List Int)(c:Rr):Int×Rr:=if((X5 bs c).1==0)=true then JW bs (WG (X5 bs c).2.x.f.map) (X5 bs c).2 else X5 bs c
def Qhe (bs:List Int)(e:Int×Rr):Int×Rr:=if(e.1==0)=true then Qd4 bs e.2 else e
def Kt (bs:List Int)(c:Rr):Int×Rr:=Qhe bs (QjM bs 4 c.x.f.pre c)
def Qp5 {bs:List Int}{c:Rr}(h:0<=c.p∧c.p<=bs.length)(q:bs.length<=1000000):0<=(X5 bs c).2.p∧(X5 bs c).2.p<=bs.length:=by
 unfold X5;split;·exact h
 split;·rw[QbN];show 0<=IntKind.i64.wrap (c.p+1)∧IntKind.i64.wrap (c.p+1)<=bs.length;rw[w64 (by unfold I64;omega)];omega
 rw[QbN];exact h
def Qtx (bs:List Int)(c:Rr):(X5 bs c).2.x=c.x∧(X5 bs c).2.bv=c.bv:=by
 unfold X5;split;·exact⟨rfl,rfl⟩
 split<;>rw[QbN]<;>exact⟨rfl,rfl⟩
def rr3 (c:Rr):c.cells[3]? = some (.Z c.x.f.pre):=rfl
def rr4 (c:Rr):c.cells[4]? = some (.Z c.x.f.map):=rfl
def QJ3:J0+0≠1∧J0+0≠0∧J0+0≠2:=by unfold J0;omega
def Jj.put {H0 H:Qa}{b:Nat}{c:Rr}{bs:List Int}(h:Jj H0 H b c bs){i:Nat}(hi:H0.y<=i)(q:i≠b)(B:Blk):Jj H0 (H.set i B) b c bs:=
 ⟨h.wf,h.hx.set hi B,h.lo,by rw[Qj,Le (λe=>q e.symm)];exact h.at_,h.fm,h.by_,h.len,h.p0⟩
def Wh.put {H H':Qa}{b:Nat}{c:Rr}(h:Wh H H' b c){i:Nat}(hi:H.y<=i)(ab:i≠b)(B:Blk):Wh H (H'.set i B) b c:=
 ⟨h.y,λid q aa=>by rw[Qj,Le (by omega)];exact h.get id q aa,by rw[Qj,Le (λe=>ab e.symm)];exact h.at_⟩
def QFC {H0 H:Qa}(b:Nat)(bs:List Int)(c:Rr)(r:Int×Rr)(e:Nat->Env->Qa->Prop)(A:Env)(H1:Qa)(aW:H.Wf)(aY:H1.Wf)(a0:A 0=.P b)(ai:Jj H0 H1 b c bs)(oc:Wh H H1 b c)(aD:b<H.y)(aK:c.x.f.shapes.length=c.x.f.slots.length)(aw:r=Qd4 bs c):
  Qm Pg X9 ⟨Rt Pg Tryz.f58 H (Kr H b r.1 r.2),e⟩ (Rt Pg Tryz.f58 H (Kr H b r.1 r.2)) A H1:=by
 have ad:r=if((X5 bs c).1==0)=true then JW bs (WG (X5 bs c).2.x.f.map) (X5 bs c).2 else X5 bs c:=aw
 clear aw;simp only[X9,JH,Qb,simprocAttr,a0];refine(QvH b c bs H1 ai aK).w ?_;rintro _ H2 aT aZ ⟨rfl,aq⟩;have ab:=ai.only aq (Qtx bs c).1 (Qtx bs c).2 (Qp5 ai.p0 ai.len);have ah:=oc.trans aq;generalize X5 bs c=x at *;obtain⟨aR,ae⟩:=x;simp only at ad ab ah aq;cases q:aR==0 with
 | false=>
  rw[Le (by rw[q];decide)]at ad;simp only[Qb,simprocAttr,Xo,q];exact .mk ah.y ⟨by rw[ad],by rw[ad];exact ah⟩
 | true=>
  rw[Lc q]at ad;simp only[Qb,simprocAttr,a0,q,ab.at_,rr4];refine(QfI ae.x.f.map H2).w ?_;rintro _ H3 aU ax ⟨rfl,rfl⟩;have au:=QCD ae.x.f.map;have aC:=QId ae.x.f.map;generalize WG ae.x.f.map=l at *;have aQ:Pg.underlying 9=some .string:=by kernel_rfl
  simp only[Qb,simprocAttr];rw[QFA aQ (s:=mkS l) (by simp only[Qd,simprocAttr])];simp only[Qb,simprocAttr];have aL:=ax.push (.iter (mkS l) 0);refine Qu (λm A' H'=>∃ (j:Nat) (c':Rr),j<=l.length∧m=l.length - j∧A' 0=.P b∧A' 51=.P H3.y∧H'.Wf∧H3.y<H'.y∧H'.get H3.y=some (.iter (mkS l) j)∧Jj H0 H' b c' bs∧Wh H H' b c'∧r=JW bs (l.drop j) c') l.length ?_ ?_
  ·refine⟨0,ae,L7 _,by omega,?_,?_,aL,?_,?_,?_,?_,ad⟩;·simp only[Qd,simprocAttr,a0]
   ·simp only[Qd,simprocAttr]
   ·simp only[Qf];omega
   ·rw[Qc,Lc rfl]
   ·exact ab.only (Wh.refl ab.at_ |>.ext (ax.lt ab.at_) ((Ext.refl H3).push _)) rfl rfl ab.p0
   exact ah.ext aD ((Ext.refl H3).push _)
  rintro m A' H' ⟨j,c',aS,rfl,ay,az,aX,aH,aE,aJ,ap,ag⟩;simp only[JG,JF,Qb,simprocAttr];rw[QIc (A:=A') (x:=t 51) (b:=H3.y) (p:=j) (s:=mkS l) (by simp only[Qd,simprocAttr,az]) aE];have aB:H.y<=H3.y:=ah.y;have ao:H3.y≠b:=by omega
  have aA:H0.y<=H3.y:=by have:=ab.hx.y;omega
  by_cases ac:j<l.length
  ·rw[Lc (by rw[au];exact ac),aC j ac];have an:l.drop j=l.getD j 0::l.drop (j+1):=by
    rw[Nh ac,LX,La ac];rfl
   generalize l.getD j 0=x at *;have ba:x.toNat<256:=x.toNat_lt;have aN:IntKind.i64.wrap ((x.toNat:Nat):Int)=x.toNat:=w64 (by unfold I64;omega);have aj:=aJ.put aA ao (.iter (mkS l) (j+1));have aI:=ap.put aB ao (.iter (mkS l) (j+1));have aF:(H'.set H3.y (.iter (mkS l) (j+1))).get H3.y=some (.iter (mkS l) (j+1)):=by rw[Qj,Lc rfl]
   have av:H3.y<(H'.set H3.y (.iter (mkS l) (j+1))).y:=aH;rw[an]at ag;have aa:r=if((Wd bs c' x.toNat).1==0)=true then JW bs (l.drop (j+1)) (Wd bs c' x.toNat).2 else Wd bs c' x.toNat:=ag
   clear ag;generalize H'.set H3.y (.iter (mkS l) (j+1))=H4 at *;simp only[Qb,simprocAttr,ay,aN];refine(Qll b c' bs x.toNat H4 aj).w ?_;rintro _ H5 aV aM ⟨rfl,ak⟩;have ar:=aj.only ak rfl rfl (QxX aj.p0 aj.len);have am:=aI.trans ak;have aG:H5.get H3.y=some (.iter (mkS l) (j+1)):=by rw[ak.get _ av ao];exact aF
   have aO:(Wd bs c' x.toNat).1=(Qb6 bs c'.p x.toNat).1:=rfl;have aP:(Wd bs c' x.toNat).2={c' with p:=(Qb6 bs c'.p x.toNat).2}:=rfl;rw[<- aO];rw[<- aP]at ar am;cases z:(Wd bs c' x.toNat).1==0 with
   | false=>
    rw[Le (by rw[z];decide)]at aa;simp only[Qb,simprocAttr,z,Xo];exact .mk am.y ⟨by rw[aa],by rw[aa];exact am⟩
   | true=>
    rw[Lc z]at aa;simp only[Qb,simprocAttr,z];refine⟨_,?_,j+1,(Wd bs c' x.toNat).2,ac,rfl,?_,?_,aM,N5 av ak.y,aG,ar,am,aa⟩;·omega
    ·simp only[Qd,simprocAttr,ay]
    simp only[Qd,simprocAttr,az]
  rw[Le (by rw[au];exact ac)];have an:l.drop j=[]:=NR (by omega);rw[an]at ag;have aa:r=(0,c'):=ag;simp only[Qb,simprocAttr,Xo];exact .mk ap.y ⟨by rw[aa],by rw[aa];exact ap⟩
def QG9 {A:Env}{H:Qa}{k:Value->Qa->Prop}{x:Operand}(B:Nat)(hx:ev A x=.P B):pr Pg (.gen (.indexAddr tA2 x (.const (.Z 0)))) false A H k=k (.P B) H:=QJ2 B 0 (by omega) hx
def QJ4 {A:Env}{H:Qa}{k:Value->Qa->Prop}{x:Operand}(B:Nat)(hx:ev A x=.P B):pr Pg (.gen (.indexAddr tA2 x (.const (.Z 1)))) false A H k=k (.pointer (some ⟨B,1,none⟩)) H:=QJ2 B 1 (by omega) hx
def QCF {H0:Qa}(b:Nat)(c:Rr)(bs:List Int)(H:Qa)(h:Jj H0 H b c bs)(aO:c.x.f.shapes.length=c.x.f.slots.length):Qe Pg 58 [.P b] H (Kr H b (Kt bs c).1 (Kt bs c).2):=by
 refine Qdq λap=>?_;obtain⟨r,ao⟩:∃r,r=Kt bs c:=⟨_,rfl⟩;rw[<- ao];have aM:r=Qhe bs (QjM bs 4 c.x.f.pre c):=ao;clear ao;have aw:b<H.y:=ap.lt h.at_;simp only[KY,Qb,simprocAttr];have body:∀ (I:Nat->Env->Qa->Prop),I=(λm A' H'=>∃ (left:Int) (c':Rr),cnt left<=m∧A' 0=.P b∧A' 3=.Z left∧H'.Wf∧Jj H0 H' b c' bs∧Wh H H' b c'∧c'.x=c.x∧r=Qhe bs (QjM bs m left c'))->∀m A' H',I m A' H'->
   Qm Pg W9 ⟨Rt Pg Tryz.f58 H (Kr H b r.1 r.2),jmK 0 I m X4⟩ (Rt Pg Tryz.f58 H (Kr H b r.1 r.2)) A' H':=by
  intro I av m A' H' ay;rw[av]at ay;obtain⟨left,c',aV,a0,a3,aP,aN,aL,ax,aa⟩:=ay;simp only[W9,Qb,simprocAttr,QFw,QFx,QFy];rw[QIb];simp only[Qb,simprocAttr];refine Qu (λq A2 H2=>∃i:Nat,i<=3∧q=3 - i∧A2 0=.P b∧A2 3=.Z left∧A2 19=QxZ∧A2 20=.Z i∧(∀j,j<i->hit left j=false)∧H2.Wf∧Jj H0 H2 b c' bs∧Wh H H2 b c') 3 ?_ ?_
  ·refine⟨0,by omega,rfl,?_,?_,?_,?_,λj az=>by omega,aP,aN,aL⟩
   all_goals simp only[uxA,uxB,Nat.reduceBEq,a0,a3]
   rfl
  rintro q A2 H2 ⟨i,hi,rfl,ak,r3,aF,ar,an,aj,ab,aA⟩;simp only[JK,Qb,simprocAttr,ar]
  by_cases ae:i<3
  ·have am:(i:Int)<3:=by omega
   simp only[am,Nf,JJ,Qb,simprocAttr];rw[QFz i ae (by simp only[Qd,simprocAttr,aF]) (by simp only[Qd,simprocAttr,ar])];simp only[QbO,Qb,simprocAttr];have ag:((H2.push (.C [.Z 0,.Z 0] tA2)).set H2.y (.C [.Z (XG i),.Z (Jz i)] tA2)).get H2.y=some (.C [.Z (XG i),.Z (Jz i)] tA2):=by rw[Qj,Lc rfl]
   have aD:((H2.push (.C [.Z 0,.Z 0] tA2)).set H2.y (.C [.Z (XG i),.Z (Jz i)] tA2)).Wf:=(aj.push _).set (by rw[Qc,Lc rfl]) _;have aE:Ext H2 ((H2.push (.C [.Z 0,.Z 0] tA2)).set H2.y (.C [.Z (XG i),.Z (Jz i)] tA2)):=((Ext.refl H2).push _).set (Lb _) _;generalize (H2.push (.C [.Z 0,.Z 0] tA2)).set H2.y (.C [.Z (XG i),.Z (Jz i)] tA2)=H3 at *;have ac:=ab.only ((Wh.refl ab.at_).ext (aj.lt ab.at_) aE) rfl rfl ab.p0;have aB:=aA.ext aw aE;rw[QG9 H2.y (by simp only[Qd,simprocAttr])];have aI:IntKind.i64.wrap (BitVec.ofInt IntKind.i64.bits left &&& BitVec.ofInt IntKind.i64.bits (XG i)).toNat=XF left (XG i):=rfl;have aJ:IntKind.i64.wrap (BitVec.ofInt IntKind.i64.bits left &&& ~~~BitVec.ofInt IntKind.i64.bits (XG i)).toNat=Qlm left (XG i):=rfl;simp only[Qb,simprocAttr,ag,r3,aI];cases z:XF left (XG i)==0 with
   | true=>
    have ah:hit left i=false:=by unfold hit;rw[z];rfl
    have aH:IntKind.i64.wrap ((i:Int)+1)=((i+1:Nat):Int):=by rw[w64 (by unfold I64;omega)];omega
    simp only[Qb,simprocAttr,ar,aH];refine⟨_,?_,i+1,ae,rfl,?_,?_,?_,?_,λj az=>?_,aD,ac,aB⟩;·omega
    ·simp only[Qd,simprocAttr,ak]
    ·simp only[Qd,simprocAttr,r3]
    ·simp only[Qd,simprocAttr,aF]
    ·simp only[Qd,simprocAttr]
    by_cases e:j=i;·rw[e];exact ah
    exact an j (by omega)
   | false=>
    have ah:hit left i=true:=by unfold hit;rw[z];rfl
    have aU:=QoF left i ae ah;obtain⟨n,rfl⟩:∃n,m=n+1:=⟨m - 1,by omega⟩;rw[Qln bs n left c' i ae an ah]at aa;simp only[JI,Qb,simprocAttr];rw[QJ4 H2.y (by simp only[Qd,simprocAttr])];simp only[Qb,simprocAttr,ag,ak];refine(Qll b c' bs (Jz i) H3 ac).w ?_;rintro _ H4 aW aQ ⟨rfl,aq⟩;have au:=ac.only aq rfl rfl (QxX ac.p0 ac.len);have ai:=aB.trans aq;have aK:H4.get H2.y=some (.C [.Z (XG i),.Z (Jz i)] tA2):=by
     rw[aq.get _ (aD.lt ag) (by have:=aj.lt ab.at_;omega)];exact ag
    have aR:(Wd bs c' (Jz i)).1=(Qb6 bs c'.p (Jz i)).1:=rfl;have aS:(Wd bs c' (Jz i)).2={c' with p:=(Qb6 bs c'.p (Jz i)).2}:=rfl;have aT:(Wd bs c' (Jz i)).2.x=c'.x:=rfl;rw[<- aR];rw[<- aS]at au ai;generalize Wd bs c' (Jz i)=x at *;cases ad:x.1==0 with
    | false=>
     rw[Le (by rw[ad];decide)]at aa;have aC:r=x:=by rw[aa];unfold Qhe;rw[Le (by rw[ad];decide)]
     simp only[Qb,simprocAttr,ad,Xo];exact .mk ai.y ⟨by rw[aC],by rw[aC];exact ai⟩
    | true=>
     rw[Lc ad]at aa;have az:=QJ3;simp only[Qb,simprocAttr,ad,r3];rw[QG9 H2.y (by simp only[Qd,simprocAttr])];simp only[Qb,simprocAttr,aK,aJ];rw[av];refine⟨n,by omega,Qlm left (XG i),x.2,by omega,?_,?_,aQ,au,ai,by rw[aT,ax],aa⟩;·simp only[Qd,simprocAttr,ak]
     simp only[Qd,simprocAttr]
  have am:¬ (i:Int)<3:=by omega
  simp only[am,NE,Qb,simprocAttr];obtain rfl:i=3:=by omega
  rw[Qso bs m left c' an]at aa;exact QFC b bs c' r _ _ H2 ap aj (by simp only[Qd,simprocAttr,ak]) ab aA aw (by rw[ax];exact aO) aa
 refine Qnp _ 4 ?_ (body _ rfl);have aG:ZX=W9:=rfl;simp only[ZY,Qb,simprocAttr,h.at_,rr3,aG];refine body _ rfl 4 _ _ ⟨c.x.f.pre,c,N8 (QCE _) (by omega),?_,?_,ap,h,Wh.refl h.at_,rfl,aM⟩
 all_goals simp only[Qd,simprocAttr]
def QvK (bs:List Int)(c:Rr):Rr:={c with r:=(QT bs).1.r,xx:=(QT bs).1.x,bb:=(QT bs).1.b,v:=(QT bs).1.v,p:=(QT bs).2.1}
def QcS (m:Vd)(f:Fm):Bool:=!(m.map==f.map)||(!(f.w==-1)&&!(m.w==f.w))||!(m.l==f.l)||!(m.pre==f.pre)
def K8 (bs:List Int)(c:Rr):Int×Rr:=
 if((QT bs).2.2==0)=false then((QT bs).2.2,c)
 else if QcS (QT bs).1 c.x.f=true then(4,QvK bs c)
 else if((!((QT bs).1.v==0)&&decide (Qh c.x.f.slots 3<0))||!Xu c.x.f (QT bs).1.r (QT bs).1.x (QT bs).1.b)=true then(4,QvK bs c)
 else(0,QvK bs c)
def Qty (bs:List Int):0<=(QT bs).2.1∧(QT bs).2.1<=bs.length:=by
 unfold QT
 repeat' split
 all_goals (simp only;omega)
def QJ5 (c:Rr):c.cells[7]? = some (.Z c.x.f.w):=rfl
def rr9 (c:Rr):c.cells[9]? = some (.Z c.x.f.l):=rfl
def QKV (c:Rr)(n:Int):List.take 16 c.cells++(Value.Z n::List.drop 17 c.cells)=({c with v:=n}:Rr).cells:=rfl
def QIe (v:Vd):v.cells.length=8:=rfl
def vx0 (v:Vd):v.cells[0]? = some (.Z v.r):=rfl
def vx1 (v:Vd):v.cells[1]? = some (.Z v.x):=rfl
def QKW (v:Vd):v.cells[2]? = some (.Z v.b):=rfl
def QKX (v:Vd):v.cells[3]? = some (.Z v.map):=rfl
def vx4 (v:Vd):v.cells[4]? = some (.Z v.w):=rfl
def vx5 (v:Vd):v.cells[5]? = some (.Z v.v):=rfl
def vx6 (v:Vd):v.cells[6]? = some (.Z v.l):=rfl
def vx7 (v:Vd):v.cells[7]? = some (.Z v.pre):=rfl
def Qzf {H0 H:Qa}(b:Nat)(bs:List Int)(c:Rr)(r:Int×Rr)(e:Nat->Env->Qa->Prop)(A:Env)(H1:Qa)(bp:H.Wf)(bq:H1.Wf)(a0:A 0=.P b)(am:Jj H0 H1 b c bs)(oc:Wh H H1 b c)(ai:b<H.y)(bg:c.x.f.shapes.length=c.x.f.slots.length)(aH:r=K8 bs c):
    Qm Pg X7 ⟨Rt Pg Tryz.f57 H (Kr H b r.1 r.2),e⟩ (Rt Pg Tryz.f57 H (Kr H b r.1 r.2)) A H1:=by
  have ab:r=if((QT bs).2.2==0)=false then((QT bs).2.2,c)
    else if QcS (QT bs).1 c.x.f=true then(4,{c with r:=(QT bs).1.r,xx:=(QT bs).1.x,bb:=(QT bs).1.b,v:=(QT bs).1.v,p:=(QT bs).2.1})
    else if((!((QT bs).1.v==0)&&decide (Qh c.x.f.slots 3<0))||!Xu c.x.f (QT bs).1.r (QT bs).1.x (QT bs).1.b)=true then(4,{c with r:=(QT bs).1.r,xx:=(QT bs).1.x,bb:=(QT bs).1.b,v:=(QT bs).1.v,p:=(QT bs).2.1})
    else(0,{c with r:=(QT bs).1.r,xx:=(QT bs).1.x,bb:=(QT bs).1.b,v:=(QT bs).1.v,p:=(QT bs).2.1}):=aH
  clear aH;have aI:=Qty bs;obtain⟨ar,hx,lo,ao,fm,by_,len,p0⟩:=id am;have aR:Qf4 H1 c.bv bs:=by
    obtain⟨a,cap,aU,aV⟩:=by_;refine⟨a,cap,aU,λaX=>?_⟩;obtain⟨bb,o,e,ro,cs,e1,aD,aW⟩:=aV aX;exact⟨bb,o,e,ro,cs,e1,by rw[hx.get bb (ar.lt aD),aD],aW⟩
  simp only[X7,Qb,simprocAttr,a0,ao,QrC];refine(QxV c.bv bs H1 aR len).w ?_;rintro _ _ aY br ⟨rfl,k,rfl⟩;have aj:H1.y<=k:=aY;have aK:=oc.up aj;have bm:=am.up aj;have bo:b<k:=N5 ai (N8 oc.y aj);generalize QT bs=mm at *;obtain⟨m,n,x⟩:=mm;simp only at ab aI;simp only[Qb,simprocAttr,QIe];have au:=λB C=>((Ext.refl (H1.up k)).push B).set (i:=k) (Lb _) C;cases z:x==0 with
  | false=>
    rw[Lc z]at ab;simp only[Qb,simprocAttr,QB];exact⟨rfl,.mk (aK.ext ai (au _ _)).y ⟨by rw[ab],by rw[ab];exact aK.ext ai (au _ _)⟩⟩
  | true=>
    rw[Le (by rw[z];decide)]at ab;have ba:(b=k)=False:=by simp;omega
    simp only[JB,Qb,simprocAttr,a0,ba];refine⟨rfl,?_⟩;have aT:∀ (q:Int) (K:Nat),(Qp K 6 (.Z q)=true)=True:=λ_ _=>eq_true rfl;have aG:(k=b)=False:=by simp;omega
    simp only[Qb,simprocAttr,vx0,vx1,QKW,vx5,aT,a0,aG,ao,W8,QH8,QH9,QIa,QKV,QCB];obtain⟨aa,ae⟩:∃aa:Rr,aa={c with r:=m.r,xx:=m.x,bb:=m.b,v:=m.v,p:=n}:=⟨_,rfl⟩;rw[<- ae]at ab ⊢;generalize an:Qa.set _ b (.C aa.cells 87)=H9;have aM:Wh H1 H9 b aa:=by
      rw[<- an];exact(((((((Wh.refl ao).up aj).ext (N5 ai oc.y) (au _ _)).set _).set _).set _).set _).set aa
    have gk:H9.get k=some (.C m.cells 134):=by
      rw[<- an];simp only[Qj,aG,LN,N3]
    have ag:=am.only aM (by rw[ae]) (by rw[ae]) (by rw[ae];exact aI);have ah:=oc.trans aM;have aP:aa.x=c.x:=by rw[ae]
    have bd:aa.r=m.r:=by rw[ae]
    have bi:aa.xx=m.x:=by rw[ae]
    have aS:aa.bb=m.b:=by rw[ae]
    clear an ae;have e4:∀f:Fm,QcS m f=(!(m.map==f.map)||(!(f.w==-1)&&!(m.w==f.w))||!(m.l==f.l)||!(m.pre==f.pre)):=λ_=>rfl;rw[e4,<- aP]at ab;have no:QcS m aa.x.f=true->r=(4,aa):=λh=>by rw[<- e4,Lc h]at ab;exact ab
    have aB:=ag.at_;have aC:QcS m aa.x.f=false->∀ (e':Nat->Env->Qa->Prop) (av:Env->Qa->Prop),(∀A3 H3,r=(0,aa)->Wh H H3 b aa->av A3 H3)->∀A2:Env,A2 0=.P b->A2 4=.P k->Qm Pg X6 ⟨Rt Pg Tryz.f57 H (Kr H b r.1 r.2),e'⟩ av A2 H9:=by
      intro bc e' av aF A2 a0 a4;rw[<- e4,Le (by rw[bc];decide),<- bd,<- bi,<- aS]at ab;have bj:=QG aa.x 3 H9 (ag.fm.ext ar ag.hx);have aN:=fun(aJ:Nat) (aE:H9.y<=aJ)=>QmG b aa (H9.up aJ) (ag.up aE).at_ (ag.fm.ext ar (ag.up aE).hx) (by rw[aP];exact bg);generalize Qh aa.x.f.slots 3=i3 at *;generalize bn:Xu aa.x.f aa.r aa.xx aa.bb=al at *;simp only[X6,Qb,simprocAttr,a4,gk,vx5];cases aQ:m.v==0 with
      | true=>
        rw[aQ]at ab;have aO:=aN H9.y (Lb _);rw[Qa.up_self]at aO;simp only[Qb,simprocAttr,a0];refine aO.w ?_;rintro _ _ aq bh ⟨rfl,k5,rfl⟩;have ad:=ah.up (show H9.y<=k5 from aq);cases al with
        | false=>
          have ac:r=(4,aa):=by rw[Lc (by rfl)]at ab;exact ab
          simp only[Qb,simprocAttr,QB];exact .mk ad.y ⟨by rw[ac],by rw[ac];exact ad⟩
        | true=>
          have ac:r=(0,aa):=by rw[Le (by simp)]at ab;exact ab
          simp only[Qb,simprocAttr];exact aF _ _ ac ad
      | false=>
        rw[aQ]at ab;simp only[Qb,simprocAttr,a0,aB,W8,Yp];refine bj.w ?_;rintro _ _ aZ bu ⟨rfl,k4,rfl⟩;have ap:H9.y<=k4:=aZ;cases ak:decide (i3<0) with
        | true=>
          rw[ak]at ab;have ac:r=(4,aa):=by rw[Lc (by rfl)]at ab;exact ab
          have ad:=ah.up ap;simp only[Qb,simprocAttr,ak,QB];exact .mk ad.y ⟨by rw[ac],by rw[ac];exact ad⟩
        | false=>
          rw[ak]at ab;simp only[Qb,simprocAttr,ak,a0];refine(aN k4 ap).w ?_;rintro _ _ aq bh ⟨rfl,k5,rfl⟩;have ad:=(ah.up ap).up (show(H9.up k4).y<=k5 from aq);cases al with
          | false=>
            have ac:r=(4,aa):=by rw[Lc (by rfl)]at ab;exact ab
            simp only[Qb,simprocAttr,QB];exact .mk ad.y ⟨by rw[ac],by rw[ac];exact ad⟩
          | true=>
            have ac:r=(0,aa):=by rw[Le (by decide)]at ab;exact ab
            simp only[Qb,simprocAttr];exact aF _ _ ac ad
    rw[e4]at no aC;cases aw:m.map==aa.x.f.map<;>cases ax:aa.x.f.w==-1<;>cases ay:m.w==aa.x.f.w<;>cases az:m.l==aa.x.f.l<;>cases aA:m.pre==aa.x.f.pre<;>simp only[Qb,simprocAttr,a0,gk,aB,QKX,vx4,vx6,vx7,rr4,QJ5,rr9,rr3,aw,ax,ay,az,aA,QB]
    all_goals first
      | (have ac:=no (by rw[aw,ax,ay,az,aA];rfl)
         exact .mk ah.y ⟨by rw[ac],by rw[ac];exact ah⟩)
      | (refine aC (by rw[aw,ax,ay,az,aA];rfl) _ _ (λA3 H3 ac aL=>?_) _ ?_ ?_
         · simp only[Qb,simprocAttr,QB]
           exact .mk aL.y ⟨by rw[ac],by rw[ac];exact aL⟩
         · simp only[Qd,simprocAttr,a0]
         · simp only[Qd,simprocAttr])
def QjN (n:Int)(s:Nat):Int:=KN (XF (GM n s) 1) 1
def ZB (bs:List Int)(c:Rr):Rr:={c with r:=QjN (IntKind.i64.wrap (bs.getD 1 0)) 7,xx:=QjN (IntKind.i64.wrap (bs.getD 1 0)) 6,bb:=QjN (IntKind.i64.wrap (bs.getD 1 0)) 5}
def ZC (bs:List Int)(c:Rr):Int×Rr:=
 if bs.length=0 then(9,c)
 else if((bs.getD 0 0==197)&&(c.x.f.map==1)&&!(c.x.f.w==1))=true then K8 bs c
 else if(bs.getD 0 0==196)=false then(4,c)
 else if bs.length<2 then(9,c)
 else if(!(XF (IntKind.i64.wrap (bs.getD 1 0)) 31==c.x.f.map)||!Xu c.x.f (ZB bs c).r (ZB bs c).xx (ZB bs c).bb)=true then(4,ZB bs c)
 else K8 bs (ZB bs c)
def QCG {H0:Qa}(b:Nat)(c:Rr)(bs:List Int)(H:Qa)(h:Jj H0 H b c bs)(am:c.x.f.shapes.length=c.x.f.slots.length):Qe Pg 57 [.P b] H (Kr H b (ZC bs c).1 (ZC bs c).2):=by
  refine Qdp λag=>?_;obtain⟨r,ad⟩:∃r,r=ZC bs c:=⟨_,rfl⟩;rw[<- ad];have q:r=if bs.length=0 then(9,c)
    else if((bs.getD 0 0==197)&&(c.x.f.map==1)&&!(c.x.f.w==1))=true then K8 bs c
    else if(bs.getD 0 0==196)=false then(4,c)
    else if bs.length<2 then(9,c)
    else if(!(XF (IntKind.i64.wrap (bs.getD 1 0)) 31==c.x.f.map)||!Xu c.x.f (ZB bs c).r (ZB bs c).xx (ZB bs c).bb)=true then(4,ZB bs c)
    else K8 bs (ZB bs c):=ad
  clear ad;obtain⟨aA,hx,lo,aa,fm,by_,len,p0⟩:=id h;obtain⟨a,cap,aQ,aS⟩:=id by_;have aR:∀c':Rr,c'.bv=c.bv->c'.cells[10]? = some (.slice a bs.length cap):=λc' h=>by rw[QrC,h,aQ]
  have ac:=aR c rfl;have aw:b<H.y:=ag.lt aa;have oc:=Wh.refl aa;simp only[KX,Qb,simprocAttr,aa,ac]
  by_cases g:bs.length=0
  · rw[Lc g]at q
    have aj:((bs.length:Int)==0)=true:=by rw[g];rfl
    simp only[aj,Qb,simprocAttr,QB];exact .mk (Lb _) ⟨by rw[q],by rw[q];exact oc⟩
  · rw[Le g]at q
    have aj:((bs.length:Int)==0)=false:=by simp;intro e;rw[e]at g;exact g rfl
    obtain⟨bb,o,e,ro,cs,rfl,ay,ax⟩:=aS (by omega);have ak:H.get bb=some (.cells cs e ro):=(hx.get bb (aA.lt ay)).trans ay;have av:(0:Int)<=0∧(0:Int)<bs.length:=by omega
    have g1:cs[o]? = some (.int .u8 (bs.getD 0 0)):=ax 0 (by omega);have t0:(0:Int).toNat=0:=rfl;simp only[aj,JE,Qb,simprocAttr,aa,ac,av,ak,t0,g1];have bc:=fun(e':Nat->Env->Qa->Prop) (A:Env) (a0:A 0=.P b) (ad:r=K8 bs c)=>Qzf b bs c r e' A H ag ag a0 h oc aw am ad;have ba:((bs.getD 0 0==197)&&(c.x.f.map==1)&&!(c.x.f.w==1))=false->∀ (e':Nat->Env->Qa->Prop) (an:Env->Qa->Prop),(∀ (A3:Env) (H3:Qa),A3 0=.P b->H3.Wf->Jj H0 H3 b (ZB bs c) bs->Wh H H3 b (ZB bs c)->r=K8 bs (ZB bs c)->an A3 H3)->∀A2:Env,A2 0=.P b->Qm Pg X8 ⟨Rt Pg Tryz.f57 H (Kr H b r.1 r.2),e'⟩ an A2 H:=by
      intro aW e' an aT A2 a0;rw[Le (by rw[aW];decide)]at q;simp only[X8,Qb,simprocAttr,a0,aa,ac,av,ak,t0,g1];cases aD:bs.getD 0 0==196 with
      | false=>
        rw[Lc aD]at q;simp only[Qb,simprocAttr,QB];exact .mk (Lb _) ⟨by rw[q],by rw[q];exact oc⟩
      | true=>
        rw[Le (by rw[aD];decide)]at q;simp only[JD,Qb,simprocAttr,a0,aa,ac]
        by_cases g2:bs.length<2
        · rw[Lc g2]at q
          have g3:(bs.length:Int)<2:=by omega
          simp only[g3,Nf,Qb,simprocAttr,QB];exact .mk (Lb _) ⟨by rw[q],by rw[q];exact oc⟩
        · rw[Le g2]at q
          have g3:¬ (bs.length:Int)<2:=by omega
          have aJ:(0:Int)<=1∧(1:Int)<bs.length:=by omega
          have t1:(1:Int).toNat=1:=rfl;have g4:=ax 1 (by omega);have aB:ZB bs c={c with r:=QjN (IntKind.i64.wrap (bs.getD 1 0)) 7,xx:=QjN (IntKind.i64.wrap (bs.getD 1 0)) 6,bb:=QjN (IntKind.i64.wrap (bs.getD 1 0)) 5}:=rfl;have aN:(0:Int)<=7:=by omega
          have aM:(0:Int)<=6:=by omega
          have aL:(0:Int)<=5:=by omega
          generalize aU:IntKind.i64.wrap (bs.getD 1 0)=n at *;have bh:IntKind.i64.wrap (BitVec.ofInt IntKind.i64.bits (IntKind.i64.wrap (BitVec.ofInt IntKind.i64.bits (n.fdiv (2 ^ min (Int.toNat 7) IntKind.i64.bits)) &&& BitVec.ofInt IntKind.i64.bits 1).toNat) ^^^ BitVec.ofInt IntKind.i64.bits 1).toNat=QjN n 7:=rfl;have bg:IntKind.i64.wrap (BitVec.ofInt IntKind.i64.bits (IntKind.i64.wrap (BitVec.ofInt IntKind.i64.bits (n.fdiv (2 ^ min (Int.toNat 6) IntKind.i64.bits)) &&& BitVec.ofInt IntKind.i64.bits 1).toNat) ^^^ BitVec.ofInt IntKind.i64.bits 1).toNat=QjN n 6:=rfl;have bd:IntKind.i64.wrap (BitVec.ofInt IntKind.i64.bits (IntKind.i64.wrap (BitVec.ofInt IntKind.i64.bits (n.fdiv (2 ^ min (Int.toNat 5) IntKind.i64.bits)) &&& BitVec.ofInt IntKind.i64.bits 1).toNat) ^^^ BitVec.ofInt IntKind.i64.bits 1).toNat=QjN n 5:=rfl;have aP:IntKind.i64.wrap (BitVec.ofInt IntKind.i64.bits n &&& BitVec.ofInt IntKind.i64.bits 31).toNat=XF n 31:=rfl;simp only[g3,NE,JC,sxA,sxB,Nat.reduceBEq,Nat.reduceEqDiff,reduceCtorEq,mxA,mxB,Nat.reduceAdd,reduceIte,Nat.reduceLeDiff,splice,a0,aa,ac,aJ,ak,t1,g4,aU,aN,aM,aL,bh,bg,bd,aP,W8,QH8,QH9,QIa];rw[<- aB];have ap:(ZB bs c).x=c.x:=rfl;have aE:(ZB bs c).bv=c.bv:=rfl;have aY:(ZB bs c).p=c.p:=rfl;clear aB;generalize ZB bs c=c9 at *;generalize aO:Qa.set _ b (.C c9.cells 87)=H9;have ah:Wh H H9 b c9:=by
            rw[<- aO];exact((oc.set _).set _).set c9
          have ae:=h.only ah ap aE (by rw[aY];exact p0);have aK:=ae.at_;have aZ:=QmG b c9 H9 aK (ae.fm.ext aA ae.hx) (by rw[ap];exact am);rw[<- ap]at q;simp only[Qb,simprocAttr,rr4];cases au:XF n 31==c9.x.f.map with
          | false=>
            have ab:r=(4,c9):=by rw[q,Lc (by rw[au];rfl)]
            simp only[Qb,simprocAttr,QB];exact .mk ah.y ⟨by rw[ab],by rw[ab];exact ah⟩
          | true=>
            simp only[Qb,simprocAttr,a0];refine aZ.w ?_;rintro _ _ aV aX ⟨rfl,k5,rfl⟩;have az:H9.y<=k5:=aV;have ao:=ah.up az;cases ai:Xu c9.x.f c9.r c9.xx c9.bb with
            | false=>
              have ab:r=(4,c9):=by rw[q,Lc (by rw[au,ai];rfl)]
              simp only[Qb,simprocAttr,ai,QB];exact .mk ao.y ⟨by rw[ab],by rw[ab];exact ao⟩
            | true=>
              have ab:r=K8 bs c9:=by rw[q,Le (by rw[au,ai];decide)]
              simp only[Qb,simprocAttr,ai];refine aT _ _ ?_ aX (ae.up az) ao ab;simp only[Qd,simprocAttr,a0]
    cases aC:bs.getD 0 0==197<;>cases aq:c.x.f.map==1<;>cases ar:c.x.f.w==1<;>simp only[Qb,simprocAttr,aa,rr4,QJ5,aq,ar]
    all_goals first
      | (rw[Lc (by rw[aC,aq,ar];rfl)]at q
         refine bc _ _ ?_ q;simp only[Qd,simprocAttr])
      | (refine ba (by rw[aC,aq,ar];rfl) _ _ (λA3 H3 b0 aI aH aG aF=>Qzf b bs (ZB bs c) r _ A3 H3 ag aI b0 aH aG aw am aF) _ ?_
         simp only[Qd,simprocAttr])
def Wc (bs:List Int)(c:Rr):Int×Rr:=bif c.x.f.vex then ZC bs c else Kt bs c
def QIf {H0:Qa}(b:Nat)(c:Rr)(bs:List Int)(H:Qa)(h:Jj H0 H b c bs)(aa:c.x.f.shapes.length=c.x.f.slots.length):Qe Pg 37 [.P b] H (Kr H b (Wc bs c).1 (Wc bs c).2):=by
 refine Qf0 λag=>?_;have ad:=QCG b c bs H h aa;have ae:=QCF b c bs H h aa;have q:Wc bs c=bif c.x.f.vex then ZC bs c else Kt bs c:=rfl
 simp only[GZ,Qb,simprocAttr,h.at_,rr8];cases z:c.x.f.vex with
 | true=>
  rw[z]at q;simp only[Qb,simprocAttr];refine ad.w ?_;rintro _ _ ab ac ⟨rfl,oc⟩;simp only[Qb,simprocAttr,Gj];exact .mk oc.y ⟨by rw[q];rfl,by rw[q];exact oc⟩
 | false=>
  rw[z]at q;simp only[Qb,simprocAttr];refine ae.w ?_;rintro _ _ ab ac ⟨rfl,oc⟩;simp only[Qb,simprocAttr,Gj];exact .mk oc.y ⟨by rw[q];rfl,by rw[q];exact oc⟩
def rA (c:Rr)(s n:Int):Ar:=⟨1,⟨QmH c s n,n⟩,Wa,0⟩
def nA (k n:Int):Ar:=⟨k,⟨0,0⟩,Wa,n⟩
def QAR (s:Int):Ar:=if s=28 then⟨1,⟨1,0⟩,Wa,0⟩ else if s=29 then⟨1,⟨3,0⟩,Wa,0⟩ else if s=30 then⟨1,⟨4,0⟩,Wa,0⟩ else if s=31 then⟨1,⟨5,0⟩,Wa,0⟩ else if s=32 then⟨1,⟨1,1⟩,Wa,0⟩ else nA 3 1
def Qx1 (s:Int):QFu s=(QAR s).cells:=by
 unfold QFu QAR
 repeat' split
 all_goals rfl
def Qhf (c:Rr)(s n:Int):QvI (QmH c s n) n=(rA c s n).cells:=rfl
def opA (c:Rr)(s slot n is4:Int):Ar:=
 if(slot==1)=true then rA c s (IntKind.i64.wrap (IntKind.i64.wrap (8 * c.r)+c.seen.fld))
 else if(slot==3)=true then rA c s c.v
 else if(slot==4)=true then rA c s (IntKind.i64.wrap (IntKind.i64.wrap (8 * c.bb)+c.low))
 else if(slot==7)=true then rA c s is4
 else if(slot==6)=true then QAR s
 else if(slot==2)=true then(if decide (0<=c.seen.reg)=true then rA c s c.seen.reg else⟨2,⟨0,0⟩,{c.seen.m with sz:=szF s},0⟩)
 else if(s==26||s==27)=true then nA 4 n else nA 3 n
def QKY (c:Rr):c.cells[16]? = some (.Z c.v):=rfl
def QKZ (c:Rr):c.cells[18]? = some (.Z c.seen.fld):=rfl
def QJ6 (c:Rr):c.cells[19]? = some (.Z c.seen.reg):=rfl
def QK0 (c:Rr):List.take 7 (List.drop 20 c.cells)=c.seen.m.cells:=rfl
def QAS (b:Nat)(c:Rr)(s slot n is4:Int)(H:Qa)(ab:H.get b=some (.C c.cells 87)):Qe Pg 66 [.P b,.Z s,.Z slot,.Z n,.Z is4] H (QvJ H (opA c s slot n is4).cells):=by
 refine QcZ λag=>?_;obtain⟨a,ah⟩:∃a,a=opA c s slot n is4:=⟨_,rfl⟩;rw[<- ah];have q:a=if(slot==1)=true then rA c s (IntKind.i64.wrap (IntKind.i64.wrap (8 * c.r)+c.seen.fld))
  else if(slot==3)=true then rA c s c.v
  else if(slot==4)=true then rA c s (IntKind.i64.wrap (IntKind.i64.wrap (8 * c.bb)+c.low))
  else if(slot==7)=true then rA c s is4
  else if(slot==6)=true then QAR s
  else if(slot==2)=true then(if decide (0<=c.seen.reg)=true then rA c s c.seen.reg else⟨2,⟨0,0⟩,{c.seen.m with sz:=szF s},0⟩)
  else if(s==26||s==27)=true then nA 4 n else nA 3 n:=ah
 clear ah;have aC:=ag.lt ab;have ac:(b=H.y)=False:=by simp;omega
 have ai:=λB=>(Ext.refl H).push B;have gB:∀B,(H.push B).get b=some (.C c.cells 87):=λB=>by rw[Qc,Le (by omega)];exact ab
 have ae:=λm B=>QxY b c s m (H.push B) (gB B);have al:∀a:Ar,(a.cells.all λx=>x.oneCell')=true:=λ_=>rfl;have len:∀a:Ar,a.cells.length=11:=λ_=>rfl;have done:∀ (B:Blk) (k:Nat) (C:Blk),(H.push B).y<=k->Ret H (QvJ H a.cells) (.agg (List.take 11 a.cells).toArray) (((H.push B).up k).set H.y C):=λB k C ax=>
  Ret.ext ag (((ai B).up ax).set (Lb _) C) ⟨rfl,_,rfl⟩
 have aw:∀ (B C:Blk) (l:List Value),l=a.cells->Ret H (QvJ H a.cells) (.agg l.toArray) ((H.push B).set H.y C):=λB C l e=>by
  rw[e];exact Ret.ext ag ((ai B).set (Lb _) C) ⟨rfl,_,rfl⟩
 simp only[J7,Qb,simprocAttr];cases an:slot==1 with
 | true=>
  rw[Lc an]at q;simp only[Z0,Qb,simprocAttr,ac,ab,Qoh,QKZ];refine(ae _ _).w ?_;rintro _ _ aa ad ⟨rfl,k,rfl⟩;rw[Qhf,<- q];simp only[Qb,simprocAttr,len,QM];exact⟨rfl,done _ _ _ aa⟩
 | false=>
  rw[Le (by rw[an];decide)]at q;simp only[ZL,Qb,simprocAttr];cases ap:slot==3 with
  | true=>
   rw[Lc ap]at q;simp only[Qb,simprocAttr,ac,ab,QKY];refine(ae _ _).w ?_;rintro _ _ aa ad ⟨rfl,k,rfl⟩;rw[Qhf,<- q];simp only[Qb,simprocAttr,len,QM];exact⟨rfl,done _ _ _ aa⟩
  | false=>
   rw[Le (by rw[ap];decide)]at q;simp only[Z7,Qb,simprocAttr];cases aq:slot==4 with
   | true=>
    rw[Lc aq]at q;simp only[Z1,Qb,simprocAttr,ac,ab,Qp2,QJ1];refine(ae _ _).w ?_;rintro _ _ aa ad ⟨rfl,k,rfl⟩;rw[Qhf,<- q];simp only[Qb,simprocAttr,len,QM];exact⟨rfl,done _ _ _ aa⟩
   | false=>
    rw[Le (by rw[aq];decide)]at q;simp only[Z6,Qb,simprocAttr];cases au:slot==7 with
    | true=>
     rw[Lc au]at q;simp only[Qb,simprocAttr];refine(ae _ _).w ?_;rintro _ _ aa ad ⟨rfl,k,rfl⟩;rw[Qhf,<- q];simp only[Qb,simprocAttr,len,QM];exact⟨rfl,done _ _ _ aa⟩
    | false=>
     rw[Le (by rw[au];decide)]at q;simp only[Z5,Qb,simprocAttr];cases ar:slot==6 with
     | true=>
      rw[Lc ar]at q;simp only[Qb,simprocAttr];refine(QFv s _).w ?_;rintro _ _ aa ad ⟨rfl,k,rfl⟩;rw[Qx1,<- q];simp only[Qb,simprocAttr,len,QM];exact⟨rfl,done _ _ _ aa⟩
     | false=>
      rw[Le (by rw[ar];decide)]at q;simp only[Z4,Qb,simprocAttr];cases ao:slot==2 with
      | true=>
       rw[Lc ao]at q;simp only[Z3,Qb,simprocAttr,ac,ab,QJ6];cases av:decide (0<=c.seen.reg) with
       | true=>
        rw[Lc av]at q;simp only[Qb,simprocAttr,ac,ab,QJ6];refine(ae _ _).w ?_;rintro _ _ aa ad ⟨rfl,k,rfl⟩;rw[Qhf,<- q];simp only[Qb,simprocAttr,len,QM];exact⟨rfl,done _ _ _ aa⟩
       | false=>
        rw[Le (by rw[av];decide)]at q;simp only[Z2,Qb,simprocAttr,ac,ab,W8,QK0];refine⟨⟨rfl,Lb _,rfl⟩,(Qab s _).w ?_⟩;rintro _ _ aa ad ⟨rfl,rfl⟩;have ay:∀m:Mm,m.cells++List.drop m.cells.length [Value.Z 0,.Z 0,.Z 0,.Z 0,.Z 0,.Z 0,.Z 0]=m.cells:=λ_=>rfl;have az:∀ (m:Mm) (z:Int),List.take 6 m.cells++(Value.Z z::List.drop 7 m.cells)=({m with sz:=z}:Mm).cells:=λ_ _=>rfl;have aj:∀m:Mm,m.cells.length=7:=λ_=>rfl;have ak:(H.y=H.y+1)=False:=by simp
        have am:(H.y+1=H.y)=False:=by simp
        simp only[Qb,simprocAttr,ay,az,aj,ak,am,QM];have m4:∀m:Mm,List.take 7 m.cells=m.cells:=λ_=>rfl;have aA:∀m:Mm,Value.Z 2::.Z 0::.Z 0::(m.cells++List.drop (3+7) [Value.Z 2,.Z 0,.Z 0,.Z 0,.Z 0,.Z 0,.Z 0,.Z 0,.Z 0,.Z 0,.Z 0])=(Ar.mk 2 ⟨0,0⟩ m 0).cells:=λ_=>rfl;simp only[m4,aj,aA,N3,<- q];simp only[Qb,simprocAttr,ak,am,len,QM];exact⟨rfl,Ret.ext ag (((((ai _).push _).set (by omega) _).set (by omega) _).set (Lb _) _) ⟨rfl,_,rfl⟩⟩
      | false=>
       rw[Le (by rw[ao];decide)]at q;simp only[ZZ,Qb,simprocAttr];cases aB:s==26<;>cases z10:s==27<;>simp only[Qb,simprocAttr,z10,QM]
       all_goals (rw[aB,z10]at q)
       all_goals exact aw _ _ _ (by rw[q];rfl)
def tl0 (s:Int):Int:=if(s==20||s==21||s==26)=true then 1 else if(s==22)=true then 2 else if(s==23||s==24||s==27)=true then 4 else if(s==25)=true then 8 else 0
def tl1 (f:Fm):Int:=if(decide (0<=Qh f.slots 5)&&decide (Qh f.slots 5<f.shapes.length))=true then tl0 (f.shapes.getD (Qh f.slots 5).toNat 0) else 0
def tlF (f:Fm):Int:=bif decide (0<=Qh f.slots 7) then tl1 f+1 else tl1 f
def QIg (s:Int):0<=tl0 s∧tl0 s<=8:=by
 unfold tl0
 repeat' split
 all_goals decide
def Qp6 (f:Fm):0<=tl1 f∧tl1 f<=8:=by
 unfold tl1;split;·exact QIg _
 decide
def Qlo (x:Lf)(H:Qa)(hx:x.At H):Qe Pg 64 [.agg x.cells.toArray] H λu H'=>u=.Z (tlF x.f)∧∃m,H'=H.up m:=by
 refine Qre λab=>?_;have aB:(Value.agg x.cells.toArray).cells.toList=x.cells:=rfl;have ah:Ext H (H.push (.C x.cells 57)):=(Ext.refl H).push _;have ac:(H.push (.C x.cells 57)).get H.y=some (.C x.cells 57):=by rw[Qc,Lc rfl]
 have aK:=ab.push (.C x.cells 57);obtain⟨aL,aM,ai,aI⟩:=hx.ext ab ah;obtain⟨a1,az,e1,s1⟩:=ai;have ad:x.cells[1]? = some (.slice a1 x.f.shapes.length az):=by rw[<- e1];rfl
 have aG:=QG x 5 _ (hx.ext ab ah);have aF:=λm (ae:(H.push (.C x.cells 57)).y<=m)=>QG x 7 _ (hx.ext ab (ah.up ae));have ag:tlF x.f=bif decide (0<=Qh x.f.slots 7) then tl1 x.f+1 else tl1 x.f:=rfl
 have q:tl1 x.f=if(decide (0<=Qh x.f.slots 5)&&decide (Qh x.f.slots 5<x.f.shapes.length))=true then tl0 (x.f.shapes.getD (Qh x.f.slots 5).toNat 0) else 0:=rfl
 have aJ:=Qp6 x.f;generalize tl1 x.f=n at *;generalize tlF x.f=r at *;generalize Qh x.f.slots 7=i7 at *;simp only[Qil,aB,Qb,simprocAttr,Qw,Wj,ad];generalize H.push (.C x.cells 57)=H1 at *;have aj:∀ (A:Env) m,H1.y<=m->A 1=.P H.y->A 3=.Z n->Qm Pg V2 ⟨Rt Pg Tryz.f64 H (λu H'=>u=.Z r∧∃m,H'=H.up m),X4⟩ (Rt Pg Tryz.f64 H (λu H'=>u=.Z r∧∃m,H'=H.up m)) A (H1.up m):=by
  intro A m ae ay a3;simp only[V2,Qb,simprocAttr,ay,a3,ac,Qw,Wj];refine(aF m ae).w ?_;rintro _ _ aa aE ⟨rfl,aN,rfl⟩;have an:=(ah.up ae).up aa;have aA:IntKind.i64.wrap (n+1)=n+1:=w64 (by unfold I64;omega);cases z:decide (0<=i7) with
  | true=>
   rw[z]at ag;simp only[Qb,simprocAttr,z,a3,aA,Qgy];exact .ext ab an ⟨by rw[ag];rfl,_,rfl⟩
  | false=>
   rw[z]at ag;simp only[Qb,simprocAttr,z,a3,Qgy];exact .ext ab an ⟨by rw[ag];rfl,_,rfl⟩
 refine aG.w ?_;rintro _ _ aa aE ⟨rfl,ak,rfl⟩;simp only[Q8]at aa;generalize Qh x.f.slots 5=i at *;simp only[Qb,simprocAttr,ac,ad];refine Qz (λh=>?_) (λh=>?_)<;>simp only[Qb,simprocAttr,ac,ad,h]
 ·have aC:0<=i:=Lg h;refine Qg (λh'=>?_) (λh'=>?_)<;>simp only[Qb,simprocAttr,ac,ad]
  ·have ai:i<x.f.shapes.length:=Lg h';obtain⟨b1,aH,aO,rfl,aD⟩:=s1 (by omega);have g1:=Kd (l:=x.f.shapes) (i:=i.toNat) (by omega);rw[Lc (by rw[h,h'];rfl)]at q;generalize x.f.shapes.getD i.toNat 0=s at *;have am:n=if(s==20||s==21||s==26)=true then 1 else if(s==22)=true then 2 else if(s==23||s==24||s==27)=true then 4 else if(s==25)=true then 8 else 0:=q
   clear q;simp only[Qfp,Qfo,Qfn,Qfm,Qfl,aC,ai,Qb,simprocAttr,ac,ad,aD,g1];cases ao:s==20<;>cases ap:s==21<;>cases aq:s==26<;>cases ar:s==22<;>cases au:s==23<;>cases av:s==24<;>cases aw:s==27<;>cases ax:s==25<;>simp only[Qb,simprocAttr,ao,ap,aq,ar,au,av,aw,ax]
   all_goals (rw[ao,ap,aq,ar,au,av,aw,ax]at am;refine aj _ ak aa ?_ ?_<;>simp only[Qd,simprocAttr,am])
   all_goals rfl
  rw[Le (by rw[h,h'];decide)]at q;refine aj _ ak aa ?_ ?_<;>simp only[Qd,simprocAttr,q]
 rw[Le (by rw[h];simp)]at q;refine aj _ ak aa ?_ ?_<;>simp only[Qd,simprocAttr,q]
def Qlp (H0 H:Qa)(v:Value)(ys:List Ar):Prop:=(v=.slice none 0 0∧ys=[])∨∃b,v=.S b ys.length (UNK+11)∧H0.y<=b∧H.get b=some (.C (Ql ys) 50)∧ys≠[]
def Qlp.app {H0 H:Qa}{v:Value}{ys:List Ar}{x:Ar}{b1:Nat}{K:Value->Qa->Prop}(h:Qlp H0 H v ys)(ae:H0.y<=H.y)(aa:H.Wf)(ao:ys.length<=100000)(ah:H.get b1=some (.C x.cells 50))(aj:∀a l c,v=.slice (some a) l c->a.block≠b1)
  (ac:∀ab H',H'.Wf->H.y<=H'.y->Qlp H0 H' ab (ys++[x])->(∀a l c,ab=.slice (some a) l c->H.y<=a.block)->(∀id,id<H0.y->H'.get id=H.get id)->K ab H'):QfY 50 11 88 v (.S b1 1 1) H K:=by
 have ag:Zx 11 (.S b1 1 1) H=some (1,x.cells):=by
  have:=Gg (size:=11) (m:=1) (b:=b1) (o:=0) (cap:=1) (c:=x.cells) (e:=50) (ro:=false) (H:=H) ah (by decide) (by rw[Wq];decide);rw[this];rfl
 have a1:x.cells.all (·.oneCell')=true:=rfl;rcases id h with⟨rfl,rfl⟩ | ⟨b,rfl,ak,ad,ap⟩
 ·refine Qgq ag a1 (by decide) (by decide) (by decide) ?_;have q:∀id,id<H0.y->(H.push (.C x.cells 50)).get id=H.get id:=λid ai=>by
   rw[Qc,Le (by omega)]
  exact ac _ _ (aa.push _) (by simp) (.inr ⟨H.y,rfl,ae,by rw[Qc,Lc rfl];simp[Ql],by simp⟩) (λa l c e=>by cases e;exact Lb _) q
 have am:=aa.lt ad;have an:b≠b1:=aj _ _ _ rfl;refine Qkl rfl ag a1 (by decide) (c:=Ql ys) ad (by rw[Wb];omega) (by omega) (by omega) (by unfold UNK;omega) ?_;have q:∀id,id<H0.y->((H.kill b).push (.C (Ql ys++x.cells) 50)).get id=H.get id:=λid ai=>by
  rw[Qc,Le (by simp;omega),WE,Le (by omega)]
 have:=ac (.S H.y (ys.length+1) (UNK+11)) ((H.kill b).push (.C (Ql ys++x.cells) 50)) ((aa.kill _).push _) (by simp)
  (.inr ⟨H.y,by simp,ae,by rw[Qc,Lc (by simp),QvA],by simp⟩) (λa l c e=>by cases e;exact Lb _) q
 exact this
def Qlp.at {H0 H:Qa}{v:Value}{ys:List Ar}(h:Qlp H0 H v ys):Wg H v ys:=by
 rcases h with⟨rfl,rfl⟩ | ⟨b,rfl,_,q,_⟩;·exact⟨none,0,rfl,λh=>absurd h (NX 0)⟩
 exact⟨_,_,rfl,λ_=>⟨b,_,_,rfl,q⟩⟩
def opL (c:Rr)(n is4:Int):List Ar:=(List.range c.x.f.shapes.length).map λk=>opA c (c.x.f.shapes.getD k 0) (c.x.f.slots.getD k 0) n is4
def QCH (c:Rr)(n is4:Int)(k:Nat)(h:k<c.x.f.shapes.length):(opL c n is4).take (k+1)=(opL c n is4).take k++[opA c (c.x.f.shapes.getD k 0) (c.x.f.slots.getD k 0) n is4]:=by
 unfold opL;rw[<- List.map_take,<- List.map_take,List.take_range,List.take_range,BC (by omega),BC (by omega),R0,N6];rfl
def Qlp.below {H0 H:Qa}{v:Value}{ys:List Ar}(h:Qlp H0 H v ys)(aa:H.Wf):Qp H.y 6 v=true:=by
 rcases h with⟨rfl,rfl⟩ | ⟨b,rfl,_,q,_⟩;·rfl
 have:=aa.lt q;show Nat.ble (b+1) H.y=true;exact BL▸this
def Qlp.ext {H0 H H':Qa}{v:Value}{ys:List Ar}(h:Qlp H0 H v ys)(ad:H.Wf)(hx:Ext H H'):Qlp H0 H' v ys:=by
 rcases h with h | ⟨b,aa,ab,q,ac⟩;·exact .inl h
 exact .inr ⟨b,aa,ab,by rw[hx.get b (ad.lt q)];exact q,ac⟩
def Qlp.put {H0 H:Qa}{v:Value}{ys:List Ar}(h:Qlp H0 H v ys){i:Nat}(ac:∀a l c,v=.slice (some a) l c->i≠a.block)(B:Blk):Qlp H0 (H.set i B) v ys:=by
 rcases h with h | ⟨b,rfl,q,aa,ab⟩;·exact .inl h
 exact .inr ⟨b,rfl,q,by rw[Qj,Le (λe=>ac _ _ _ rfl e.symm)];exact aa,ab⟩
def Wh.same {H H1 H5 H6:Qa}{b:Nat}{c:Rr}(h:Wh H H5 b c)(ac:H5.y<=H6.y)(ae:H.y<=H1.y)(aa:b<H1.y)(q:∀id,id<H1.y->H6.get id=H5.get id):Wh H H6 b c:=
 ⟨N8 h.y ac,λid ab ad=>by rw[q id (by omega)];exact h.get id ab ad,by rw[q b aa];exact h.at_⟩
def Jj.same {H0 H1 H5 H6:Qa}{b:Nat}{c:Rr}{bs:List Int}(h:Jj H0 H5 b c bs)(ac:H5.y<=H6.y)(ad:H0.y<=H1.y)(aa:b<H1.y)(q:∀id,id<H1.y->H6.get id=H5.get id):Jj H0 H6 b c bs:=
 ⟨h.wf,⟨N8 h.hx.y ac,λid ab=>by rw[q id (by omega)];exact h.hx.get id ab⟩,h.lo,by rw[q b aa];exact h.at_,h.fm,h.by_,h.len,h.p0⟩
def QFD {H0 H H1:Qa}(b bt q:Nat)(c:Rr)(bs:List Int)(n is4:Int)(A:Env)(ks:Kp)(k:Env->Qa->Prop)(au:H1.Wf)(ab:Jj H0 H1 b c bs)(oc:Wh H H1 b c)(bc:b<H.y)(bN:H.y<=bt)(bg:H.y<=q)(bx:bt≠q)(bQ:c.x.f.shapes.length=c.x.f.slots.length)
  (a0:A 0=.P b) (a2:A 2=.P bt) (a6:A 6=.Z is4) (a7:A 7=.Z n) (a9:A 9=.P q)
  (aD:H1.get bt=some (.C [.Z 0,.slice none 0 0] 26)) (aA:H1.get q=some (.C [.Z c.x.f.op,.slice none 0 0] 26))
  (bn:∀ (A':Env) (H':Qa) (v:Value),H'.Wf->A' 0=.P b->A' 2=.P bt->A' 9=.P q->Jj H0 H' b c bs->Wh H H' b c->H'.get bt=some (.C [.Z 0,.slice none 0 0] 26)->H'.get q=some (.C [.Z c.x.f.op,v] 26)->Wg H' v (opL c n is4)->k A' H'):
  Qm Pg (.seq (.ops [⟨some 109,.mv (t 0),none,false⟩,⟨some 110,.gen (.nilCheck (t 109)),none,false⟩,⟨some 111,.fldA 0 (t 110),none,false⟩,⟨some 112,.fldA 1 (t 111),none,false⟩,⟨some 113,.ld false 1 (t 112),none,false⟩,⟨some 114,.lenS (t 113),none,false⟩,⟨some 115,.mv (.const (.Z 0)),none,false⟩]) (.block 0 (.loop XJ))) ks k A H1:=by
 obtain⟨aS,sc,bF,ss⟩:=id ab.fm.2.2.1;obtain⟨bG,bH,bI,bJ⟩:=id ab.fm.2.2.2;have bw:c.cells[1]? = some (.slice aS c.x.f.shapes.length sc):=by rw[rr1,bF]
 have b7:c.cells[2]? = some (.slice bG c.x.f.slots.length bH):=by rw[<- bI];rfl
 have bR:=ab.fm.1;simp only[Qb,simprocAttr,a0,ab.at_,bw];refine Qu (λm A' H'=>∃ (i:Nat) (v:Value),i<=c.x.f.shapes.length∧m=c.x.f.shapes.length - i∧A' 0=.P b∧A' 2=.P bt∧A' 6=.Z is4∧A' 7=.Z n∧A' 9=.P q∧
   A' 113=.slice aS c.x.f.shapes.length sc∧A' 114=.Z c.x.f.shapes.length∧A' 115=.Z i∧H'.Wf∧H1.y<=H'.y∧Jj H0 H' b c bs∧Wh H H' b c∧H'.get bt=some (.C [.Z 0,.slice none 0 0] 26)∧H'.get q=some (.C [.Z c.x.f.op,v] 26)∧Qlp H1 H' v ((opL c n is4).take i)) c.x.f.shapes.length ?_ ?_
 ·refine⟨0,.slice none 0 0,L7 _,by omega,?_,?_,?_,?_,?_,?_,?_,?_,au,Lb _,ab,oc,aD,aA,.inl ⟨rfl,rfl⟩⟩
  all_goals simp only[Qd,simprocAttr,a0,a2,a6,a7,a9]
  all_goals rfl
 rintro m A' H' ⟨i,v,hi,rfl,av,r2,aQ,aR,ak,aO,aP,aw,ar,bp,aa,aN,aE,am,ae⟩;simp only[XJ,Qb,simprocAttr,aP,aw]
 by_cases aG:i<c.x.f.shapes.length
 ·have an:(i:Int)<c.x.f.shapes.length:=by omega
  have bz:=QCH c n is4 i aG;obtain⟨b1,e1,bD,rfl,aH⟩:=ss (by omega);obtain⟨b2,e2,bE,rfl,aI⟩:=bJ (by omega);have ag:H'.get b1=some (.cells (ints c.x.f.shapes) e1 bD):=(aa.hx.get b1 (aa.wf.lt aH)).trans aH;have bd:H'.get b2=some (.cells (ints c.x.f.slots) e2 bE):=(aa.hx.get b2 (aa.wf.lt aI)).trans aI;have d1:(0:Int)<=i∧(i:Int)<c.x.f.shapes.length:=by omega
  have d2:(0:Int)<=i∧(i:Int)<c.x.f.slots.length:=by omega
  have d3:(i:Int).toNat=i:=by omega
  have g1:=Kd (l:=c.x.f.shapes) (i:=i) (by omega);have g2:=Kd (l:=c.x.f.slots) (i:=i) (by omega);generalize c.x.f.shapes.getD i 0=s at *;generalize c.x.f.slots.getD i 0=sl at *;have aT:IntKind.i64.wrap ((i:Int)+1)=((i+1:Nat):Int):=by rw[w64 (by unfold I64;omega)];omega
  simp only[an,Nf,ZI,Qb,simprocAttr,av,aQ,aR,ak,aO,aw,d1,d2,d3,ag,g1,am,aa.at_,b7,bd,g2];refine⟨ae.below ar,?_⟩;refine(QAS b c s sl n is4 H' aa.at_).w ?_;rintro _ _ bq ac ⟨rfl,k4,rfl⟩;have ah:H'.y<=k4:=bq;have aL:Ext H' (H'.up k4):=(Ext.refl H').up ah;have ao:=ae.ext ar aL;have ai:=aa.up ah;have bA:=aN.up ah;have aF:(H'.up k4).get bt=some (.C [.Z 0,.slice none 0 0] 26):=by rw[XB];exact aE
  have aB:(H'.up k4).get q=some (.C [.Z c.x.f.op,v] 26):=by rw[XB];exact am
  have bP:H1.y<=(H'.up k4).y:=N8 bp ah;refine⟨aL.eqB,?_⟩;generalize H'.up k4=H4 at *;generalize opA c s sl n is4=x at *;have tk:List.take 11 x.cells=x.cells:=rfl;have bL:x.cells.length=11:=rfl;simp only[Qb,simprocAttr,bL];have ad:Ext H4 (H4.push (.C x.cells 50)):=(Ext.refl H4).push _;have b8:=ac.push (.C x.cells 50);have br:=ai.only ((Wh.refl ai.at_).ext (ac.lt ai.at_) ad) rfl rfl ai.p0;have bB:=bA.ext bc ad;have aV:=(ad.get _ (ac.lt aF)).trans aF;have aU:=(ad.get _ (ac.lt aB)).trans aB;have aZ:=ao.ext ac ad;have aY:H.y<=H1.y:=oc.y;have aX:H0.y<=H1.y:=ab.hx.y;have bO:=ab.lo;have bi:=au.lt aD;have bh:=au.lt aA;have ag:b<H1.y:=by omega
  have bo:((opL c n is4).take i).length<=100000:=by rw[Sb];omega
  have bM:=ao.below ac;have aK:H1.y<=(H4.push (.C x.cells 50)).y:=by simp only[Qf];omega
  refine aZ.app aK b8 bo (b1:=H4.y) (by rw[Qc,Lc rfl]) (λa l ay e=>?_) ?_
  ·rcases ao with⟨e2,_⟩ | ⟨b4,e2,_,bm,_⟩;·rw[e2]at e;cases e
   rw[e2]at e;cases e;have:=ac.lt bm;show b4≠H4.y;omega
  intro bK H6 b9 aq ap bj aj;have bu:=br.same aq aX ag aj;have bC:=bB.same aq aY ag aj;have aW:=(aj bt bi).trans aV;have aC:=(aj q bh).trans aU;have aJ:q≠b:=by omega
  rw[<- bz]at ap;obtain⟨ax,aM,az,rfl⟩:∃ax aM az,bK=.slice ax aM az:=by
   rcases ap with⟨rfl,_⟩ | ⟨b6,rfl,_⟩;·exact⟨_,_,_,rfl⟩
   exact⟨_,_,_,rfl⟩
  simp only[Qb,simprocAttr,ak,aC,aw,aT];refine⟨_,?_,i+1,_,aG,rfl,?_,?_,?_,?_,?_,?_,?_,?_,b9.set aC _,?_,bu.put (by omega) aJ _,bC.put bg aJ _,?_,?_,ap.put (λa l ay e=>?_) _⟩;·omega
  all_goals (try simp only[Qd,simprocAttr,av,r2,aQ,aR,ak,aO,aP])
  ·exact N8 aK aq
  ·rw[Qj,Le bx];exact aW
  ·rw[Qj,Lc rfl]
  have:=bj a l ay e;omega
 have an:¬ (i:Int)<c.x.f.shapes.length:=by omega
 obtain rfl:i=c.x.f.shapes.length:=by omega
 simp only[an,NE,Qb,simprocAttr];have ba:(opL c n is4).take c.x.f.shapes.length=opL c n is4:=LF (by unfold opL;rw[Nn,BO];exact Lb _);rw[ba]at ae;refine bn _ H' v ar ?_ ?_ ?_ aa aN aE am ae.at
 all_goals simp only[Qd,simprocAttr,av,r2,ak]
structure Dr where
 op:Int
 l:List Ar
 n:Int
 e:Int
def Y0 (e:Int):Dr:=⟨0,[],0,e⟩
def Qhg (H:Qa)(b:Nat)(r:Dr):Value->Qa->Prop:=λu H'=>
 H.y<=H'.y∧(∀id,id<H.y->id≠b->H'.get id=H.get id)∧∃q,u=.tuple #[.agg #[.Z r.op,q],.Z r.n,.Z r.e]∧Wg H' q r.l∧∀a n c,q=.slice (some a) n c->H.y<=a.block∧a.block<H'.y
def Qhg.err {H H':Qa}{b:Nat}{c:Rr}{r:Dr}{e:Int}(oc:Wh H H' b c)(h:r=Y0 e):Qhg H b r (.tuple #[.agg #[.Z 0,.slice none 0 0],.Z 0,.Z e]) H':=by
 subst h;exact⟨oc.y,oc.get,_,rfl,⟨none,0,rfl,λh=>absurd h (NX 0)⟩,λa n c h=>by cases h⟩
def Qda (op p:Int)(l:List Ar):Dr:=if((QU op l).2.2==0)=false then Y0 4 else⟨(QU op l).1,(QU op l).2.1,p,0⟩
def QIi {H0 H H1:Qa}(b bt ab:Nat)(c:Rr)(bs:List Int)(op:Int)(l:List Ar)(v:Value)(r:Dr)(A:Env)(e:Nat->Env->Qa->Prop)(aS:H.Wf)(ai:H1.Wf)(ac:Jj H0 H1 b c bs)(oc:Wh H H1 b c)(ah:b<H.y)(ax:H.y<=bt)(aL:H.y<=ab)(aR:bt≠ab)
  (a0:A 0=.P b) (a2:A 2=.P bt) (a9:A 9=.P ab)
  (ae:H1.get bt=some (.C [.Z 0,.slice none 0 0] 26)) (au:H1.get ab=some (.C [.Z op,v] 26)) (ao:Wg H1 v l) (ay:l.length<=1000) (aw:∀a∈l,I64 a.n) (an:r=Qda op c.p l):
  Qm Pg WR ⟨Rt Pg QV H (Qhg H b r),e⟩ (Rt Pg QV H (Qhg H b r)) A H1:=by
 obtain⟨va,vc,rfl,_⟩:=id ao;have aa:r=if((QU op l).2.2==0)=false then Y0 4 else⟨(QU op l).1,(QU op l).2.1,c.p,0⟩:=an
 clear an;simp only[WR,Qb,simprocAttr,a9,au];refine(QeT op l H1 _ ao ay aw).w ?_;rintro _ H2 aO ap ⟨ad,aT,rfl,aC,aj⟩;have aq:=oc.ext ah ad;have ag:=(ad.get _ (ai.lt ae)).trans ae;have aB:=ac.only ((Wh.refl ac.at_).ext (ai.lt ac.at_) ad) rfl rfl ac.p0;generalize QU op l=w at *;obtain⟨aF,aG,rfl,aD⟩:=id aC;simp only[Qb,simprocAttr];have aN:=ap.lt ag;have aK:b<H2.y:=N5 ah aq.y;have az:(b=H2.y)=False:=by simp;omega
 have am:(bt=H2.y)=False:=by simp;omega
 have aP:(bt=b)=False:=by simp;omega
 have aA:(b=bt)=False:=by simp;omega
 have q:=λB C D=>(aq.ext ah (((Ext.refl H2).push B).set (i:=H2.y) (Lb _) C)).put (i:=bt) ax (by omega) D;have aQ:=ad.y;have aJ:=oc.y;cases z:w.2.2==0 with
 | false=>
  rw[Lc z]at aa;simp only[Qb,simprocAttr,a2,ag,am,Wy];exact .mk (q _ _ _).y (.err (q _ _ _) aa)
 | true=>
  rw[Le (by rw[z];decide)]at aa;simp only[Qb,simprocAttr,a0,a2,ag,az,am,aA,aB.at_,Qhd,Wy];have aM:=ai.lt ae;refine⟨rfl,.mk (q _ _ _).y ⟨(q _ _ _).y,(q _ _ _).get,_,by rw[aa],?_,λa n ar h=>?_⟩⟩;·rw[aa];refine⟨aF,aG,rfl,λh=>?_⟩;obtain⟨b2,e2,aE,rfl,ak⟩:=aD h;have av:=aj _ _ _ rfl;have aH:=ap.lt ak;simp only at av;exact⟨b2,e2,aE,rfl,by rw[Qj,Le (by omega),Qj,Le (by omega),Qc,Le (by omega)];exact ak⟩
  have aI:=aj a n ar h;refine⟨by omega,?_⟩;simp only[QR,Qf];omega
def QvM (x:Int):I64 (IntKind.i64.wrap x):=Qp1 x
def QCN (y:Int)(k:Nat)(h:I64 y):I64 (y.fdiv (2 ^ k)):=by
 have ac:(1:Int)<=2 ^ k:=by
  have:=Int.pow_pos (n:=2) (m:=k) (by decide);omega
 generalize (2:Int) ^ k=d at *;rw[Np _ (by omega)]
 by_cases q:0<=y;·have aa:=Int.ediv_nonneg q (show(0:Int)<=d by omega);have ab:=Int.ediv_le_self d q;unfold I64 at *;omega
 have aa:=Int.ediv_neg_of_neg_of_pos (show y<0 by omega) (show(0:Int)<d by omega);have ab:y<=y / d:=(Int.le_ediv_iff_mul_le (by omega)).2 (by
  have:=Int.mul_le_mul_of_nonpos_left (a:=y) (show y<=0 by omega) ac;omega)
 unfold I64 at *;omega
def QAZ (x b:Int):I64 (Qaz x b):=by
 unfold Qaz;split;·unfold I64;omega
 exact QCN _ _ (QvM _)
def QvN (bs:List Int)(p sz:Int)(q:Bool):I64 (Q3 bs p sz q).1:=by
 have z:I64 0:=by unfold I64;omega
 unfold Q3
 repeat' split
 all_goals first
  | exact z
  | exact QAZ _ _
  | exact QvM _
def Qp9 (bs:List Int)(p sz:Int)(aa:Bool)(h:((Q3 bs p sz aa).2==0)=true):0<=p∧p+sz<=bs.length:=by
 unfold Q3 at h;split at h;·simp at h
 split at h;·simp at h
 rename_i q;split at h;·simp at h
 simp only[Nw,Lv,not_or,Int.not_lt]at q;omega
def QtB (c:Rr)(n is4:Int)(h:I64 n):∀a∈opL c n is4,I64 a.n:=by
 have z:I64 0:=by unfold I64;omega
 have o:I64 1:=by unfold I64;omega
 intro a q;unfold opL at q;rw[N4]at q;obtain⟨k,_,rfl⟩:=q;unfold opA QAR
 repeat' split
 all_goals first
  | exact h
  | exact z
  | exact o
def QJ7 {H0 H H1:Qa}(b bt:Nat)(c:Rr)(bs:List Int)(n is4:Int)(r:Dr)(A:Env)(e:Nat->Env->Qa->Prop)(ax:H.Wf)(ab:H1.Wf)(q:Jj H0 H1 b c bs)(oc:Wh H H1 b c)(aa:b<H.y)(ag:H.y<=bt)(au:c.x.f.shapes.length=c.x.f.slots.length)(ao:I64 n)
  (a0:A 0=.P b) (a2:A 2=.P bt) (a6:A 6=.Z is4) (a7:A 7=.Z n)
  (ad:H1.get bt=some (.C [.Z 0,.slice none 0 0] 26)) (ap:r=Qda c.x.f.op c.p (opL c n is4)):
  Qm Pg Wt ⟨Rt Pg QV H (Qhg H b r),e⟩ (Rt Pg QV H (Qhg H b r)) A H1:=by
 have aE:c.cells[0]? = some (.Z c.x.f.op):=rfl;have an:=ab.lt ad;have ae:=oc.y;rw[Wt];rw[Zg];generalize am:Qm Pg (PC.seq _ WR) _ _=K;simp only[Qb,simprocAttr,a0,q.at_,aE];have ac:Ext H1 ((H1.push (.C [.Z 0,.slice none 0 0] 26)).set H1.y (.C [.Z c.x.f.op,.slice none 0 0] 26)):=((Ext.refl H1).push _).set (Lb _) _;have az:((H1.push (.C [.Z 0,.slice none 0 0] 26)).set H1.y (.C [.Z c.x.f.op,.slice none 0 0] 26)).Wf:=(ab.push _).set (by rw[Qc,Lc rfl]) _;have ai:((H1.push (.C [.Z 0,.slice none 0 0] 26)).set H1.y (.C [.Z c.x.f.op,.slice none 0 0] 26)).get H1.y=some (.C [.Z c.x.f.op,.slice none 0 0] 26):=by rw[Qj,Lc rfl]
 generalize (H1.push (.C [.Z 0,.slice none 0 0] 26)).set H1.y (.C [.Z c.x.f.op,.slice none 0 0] 26)=H2 at *;have ar:=q.only ((Wh.refl q.at_).ext (ab.lt q.at_) ac) rfl rfl q.p0;have aB:=oc.ext aa ac;have ak:=(ac.get _ an).trans ad;have av:=q.fm.1;rw[<- am,Zg];refine QFD b bt H1.y c bs n is4 _ _ _ az ar aB aa ag ae (by omega) au ?_ ?_ ?_ ?_ ?_ ak ai ?_;·simp only[Qd,simprocAttr,a0]
 ·simp only[Qd,simprocAttr,a2]
 ·simp only[Qd,simprocAttr,a6]
 ·simp only[Qd,simprocAttr,a7]
 ·simp only[Qd,simprocAttr]
 intro A' H' v ay aC r2 aD aq aA aj ah aw;exact QIi b bt H1.y c bs c.x.f.op (opL c n is4) v r A' e ax ay aq aA aa ag ae (by omega) aC r2 aD aj ah aw (by unfold opL;rw[Nn,BO];exact av) (QtB c n is4 ao) ap
def Qlr (bs:List Int)(p:Int):Int:=IntKind.u8.wrap (BitVec.ofInt IntKind.u8.bits (bs.getD p.toNat 0) &&& BitVec.ofInt IntKind.u8.bits 15).toNat
def hi4 (bs:List Int)(p:Int):Int:=IntKind.i64.wrap ((bs.getD p.toNat 0).fdiv (2 ^ (min (Int.toNat 4) IntKind.u8.bits)))
def GW (bs:List Int)(c:Rr)(n:Int):Dr:=
  if decide (0<=Qh c.x.f.slots 7)=true then
    (if(bs.length:Int)<=c.p then Y0 9
     else if(Qlr bs c.p==0)=false then Y0 4
     else Qda c.x.f.op (IntKind.i64.wrap (c.p+1)) (opL c n (hi4 bs c.p)))
  else Qda c.x.f.op c.p (opL c n 0)
def QJ8 {H0 H H1:Qa}(b bt:Nat)(c:Rr)(bs:List Int)(n:Int)(r:Dr)(A:Env)(e:Nat->Env->Qa->Prop)(av:H.Wf)(aH:H1.Wf)(ar:Jj H0 H1 b c bs)(oc:Wh H H1 b c)(ak:b<H.y)(aa:H.y<=bt)(au:c.x.f.shapes.length=c.x.f.slots.length)(ap:I64 n)
    (a0:A 0=.P b) (a2:A 2=.P bt) (a6:A 6=.Z 0) (a7:A 7=.Z n)
    (ac:H1.get bt=some (.C [.Z 0,.slice none 0 0] 26)) (aq:r=GW bs c n):
    Qm Pg Wu ⟨Rt Pg QV H (Qhg H b r),e⟩ (Rt Pg QV H (Qhg H b r)) A H1:=by
  have q:r=if decide (0<=Qh c.x.f.slots 7)=true then
    (if(bs.length:Int)<=c.p then Y0 9
     else if(Qlr bs c.p==0)=false then Y0 4
     else Qda c.x.f.op (IntKind.i64.wrap (c.p+1)) (opL c n (hi4 bs c.p)))
    else Qda c.x.f.op c.p (opL c n 0):=aq
  clear aq;have aL:=aH.lt ac;obtain⟨aw,hx,lo,ad,fm,by_,len,p0⟩:=id ar;obtain⟨a,cap,aC,aD⟩:=id by_;have ag:c.cells[10]? = some (.slice a bs.length cap):=by rw[QrC,aC]
  have aK:=QG c.x 7 H1 (fm.ext aw hx);generalize Qh c.x.f.slots 7=i7 at *;have az:Wu=.seq (.seq (.ops [⟨some 54,.mv (t 0),none,false⟩,⟨some 55,.gen (.nilCheck (t 54)),none,false⟩,⟨some 56,.fldA 0 (t 55),none,false⟩,⟨some 57,.ld true 10 (t 56),none,false⟩,⟨some 58,.call 59 [(t 57),(.const (.Z 7))],none,false⟩,⟨some 59,.bin .geq (t 58) (.const (.Z 0)),none,false⟩]) (.cond (t 59) XK .skip)) Wt:=rfl;rw[az,Zg];generalize aj:Qm Pg Wt _ _=K;simp only[Qb,simprocAttr,a0,ad,W8,Yp];refine aK.w ?_;rintro _ _ aG ax ⟨rfl,k,rfl⟩;have ao:H1.y<=k:=aG;have ae:=ar.up ao;have ab:=oc.up ao;have ai:(H1.up k).get bt=some (.C [.Z 0,.slice none 0 0] 26):=by rw[XB];exact ac
  have aM:(bt=b)=False:=by simp;omega
  cases z:decide (0<=i7) with
  | false=>
    rw[Le (by rw[z];decide)]at q;simp only[Qb,simprocAttr,z];rw[<- aj];refine QJ7 b bt c bs n 0 r _ e av ax ae ab ak aa au ap ?_ ?_ ?_ ?_ ai q
    all_goals simp only[Qd,simprocAttr,a0,a2,a6,a7]
  | true=>
    rw[Lc z]at q;simp only[XK,Qb,simprocAttr,z,a0,ad,Qhd,ag]
    by_cases g:(bs.length:Int)<=c.p
    · rw[Lc g]at q
      simp only[g,Nf,Qb,simprocAttr,a2,ac,Wy];exact .mk (ab.put aa (by omega) _).y (.err (ab.put aa (by omega) _) q)
    · rw[Le g]at q
      obtain⟨bb,o,e',ro,cs,rfl,am,aE⟩:=aD (by omega);have an:H1.get bb=some (.cells cs e' ro):=(hx.get bb (aw.lt am)).trans am;have ah:(0:Int)<=c.p∧c.p<bs.length:=by omega
      have g1:=aE c.p.toNat (by omega);have aA:IntKind.u8.wrap (BitVec.ofInt IntKind.u8.bits (bs.getD c.p.toNat 0) &&& BitVec.ofInt IntKind.u8.bits 15).toNat=Qlr bs c.p:=rfl;have aF:IntKind.i64.wrap ((bs.getD c.p.toNat 0).fdiv (2 ^ (min (Int.toNat 4) IntKind.u8.bits)))=hi4 bs c.p:=rfl;have aB:(0:Int)<=4:=by omega
      simp only[g,NE,ZK,Qb,simprocAttr,a0,ad,Qhd,ag,ah,an,g1,aA];cases ay:Qlr bs c.p==0 with
      | false=>
        rw[Lc ay]at q;simp only[Qb,simprocAttr,a2,ac,Wy];exact .mk (ab.put aa (by omega) _).y (.err (ab.put aa (by omega) _) q)
      | true=>
        rw[Le (by rw[ay];decide)]at q;simp only[ZJ,sxA,sxB,Nat.reduceBEq,Nat.reduceEqDiff,reduceCtorEq,mxA,mxB,Nat.reduceAdd,reduceIte,Nat.reduceLeDiff,splice,a0,ad,Qhd,ag,ah,an,g1,aB,aF,W8,QCB];rw[<- aj];have aJ:IntKind.i64.wrap (c.p+1)=c.p+1:=w64 (by unfold I64;omega);have aI:=(Wh.refl ae.at_).set {c with p:=IntKind.i64.wrap (c.p+1)};refine QJ7 b bt {c with p:=IntKind.i64.wrap (c.p+1)} bs n (hi4 bs c.p) r _ e av (ax.set ae.at_ _) (ae.only aI rfl rfl (by show 0<=IntKind.i64.wrap (c.p+1)∧IntKind.i64.wrap (c.p+1)<=bs.length;rw[aJ];omega)) (ab.set _) ak aa au ap ?_ ?_ ?_ ?_ (by rw[Qj,Le (by omega)];exact ai) q
        all_goals simp only[Qd,simprocAttr,a0,a2,a7]
def Jk (bs:List Int)(c:Rr):Dr:=
  if decide (0<tl1 c.x.f)=true then
    (if((Q3 bs c.p (tl1 c.x.f) true).2==0)=false then Y0 (Q3 bs c.p (tl1 c.x.f) true).2
     else GW bs {c with p:=IntKind.i64.wrap (c.p+tl1 c.x.f)} (Q3 bs c.p (tl1 c.x.f) true).1)
  else GW bs c 0
def Qx4 {H0:Qa}(b:Nat)(c:Rr)(bs:List Int)(H:Qa)(h:Jj H0 H b c bs)(aB:c.x.f.shapes.length=c.x.f.slots.length):Qe Pg 40 [.P b] H (Qhg H b (Jk bs c)):=by
  refine Qb0 λah=>?_;obtain⟨r,an⟩:∃r,r=Jk bs c:=⟨_,rfl⟩;rw[<- an];have aa:r=if decide (0<tl1 c.x.f)=true then
    (if((Q3 bs c.p (tl1 c.x.f) true).2==0)=false then Y0 (Q3 bs c.p (tl1 c.x.f) true).2
     else GW bs {c with p:=IntKind.i64.wrap (c.p+tl1 c.x.f)} (Q3 bs c.p (tl1 c.x.f) true).1)
    else GW bs c 0:=an
  clear an;obtain⟨ap,hx,lo,ad,fm,by_,len,p0⟩:=id h;obtain⟨a,cap,ax,aI⟩:=id by_;have aZ:c.cells[10]? = some (.slice a bs.length cap):=by rw[QrC,ax]
  have ac:b<H.y:=ah.lt ad;have aN:(b=H.y)=False:=by simp;omega
  have aC:Ext H (H.push (.C [.Z 0,.slice none 0 0] 26)):=(Ext.refl H).push _;have aG:(H.push (.C [.Z 0,.slice none 0 0] 26)).get H.y=some (.C [.Z 0,.slice none 0 0] 26):=by rw[Qc,Lc rfl]
  have bd:=ah.push (.C [.Z 0,.slice none 0 0] 26);have ab:=h.only ((Wh.refl ad).ext ac aC) rfl rfl p0;have aR:=(Wh.refl ad).ext ac aC;have aF:WL=.seq (.ops [⟨some 7,.mv (.const (.Z 0)),none,false⟩]) (.seq (.seq (.ops [⟨some 27,.mv (t 5),none,false⟩,⟨some 28,.bin .gtr (t 27) (.const (.Z 0)),none,false⟩]) (.cond (t 28) XL .skip)) Wu):=rfl;have aD:∀ (A:Env) (H2:Qa),H2.Wf->Jj H0 H2 b c bs->Wh H H2 b c->H2.get H.y=some (.C [.Z 0,.slice none 0 0] 26)->A 0=.P b->A 2=.P H.y->A 5=.Z (tl1 c.x.f)->A 6=.Z 0->
      Qm Pg WL ⟨Rt Pg QV H (Qhg H b r),X4⟩ (Rt Pg QV H (Qhg H b r)) A H2:=by
    intro A H2 aq q aj am a0 a2 a5 a6;have aQ:=Qp6 c.x.f;have aY:b<H2.y:=aq.lt q.at_;have ba:(H.y=b)=False:=by simp;omega
    rw[aF,Zg,Zg];generalize aw:Qm Pg Wu _ _=K;have aE:Qf4 H2 c.bv bs:=by
      refine⟨a,cap,ax,λaL=>?_⟩;obtain⟨bb,o,e,ro,cs,e1,ay,aJ⟩:=aI aL;exact⟨bb,o,e,ro,cs,e1,by rw[q.hx.get bb (ap.lt ay),ay],aJ⟩
    have aT:=QcR c.bv bs c.p (tl1 c.x.f) true H2 aE len (by unfold I64;omega);have aO:=Qp9 bs c.p (tl1 c.x.f) true;have aH:=QvN bs c.p (tl1 c.x.f) true;generalize Q3 bs c.p (tl1 c.x.f) true=g at *;simp only[Qb,simprocAttr,a5];generalize tl1 c.x.f=sz at *;cases z:decide (0<sz) with
    | false=>
      rw[Le (by rw[z];decide)]at aa;have aW:decide (sz>0)=false:=z;simp only[Qb,simprocAttr];rw[<- aw];refine QJ8 b H.y c bs 0 r _ X4 ah aq q aj ac (Lb _) aB (by unfold I64;omega) ?_ ?_ ?_ ?_ am aa
      all_goals simp only[Qd,simprocAttr,a0,a2,a6]
    | true=>
      rw[Lc z]at aa;have aW:decide (sz>0)=true:=z;simp only[XL,Qb,simprocAttr,a0,a5,q.at_,QrC,Qhd];refine aT.w ?_;rintro _ H3 aA ai ⟨rfl,rfl⟩;simp only[Qb,simprocAttr];cases ar:g.2==0 with
      | false=>
        rw[Lc ar]at aa;simp only[Qb,simprocAttr,a2,am,Wy];exact .mk (aj.put (Lb _) (by omega) _).y (.err (aj.put (Lb _) (by omega) _) aa)
      | true=>
        rw[Le (by rw[ar];decide)]at aa;have bc:=aO ar;have aS:IntKind.i64.wrap (c.p+sz)=c.p+sz:=w64 (by unfold I64;omega);simp only[Qb,simprocAttr,a0,a5,q.at_,Qhd,W8,QCB];rw[<- aw];have ak:=(Wh.refl q.at_).set {c with p:=IntKind.i64.wrap (c.p+sz)};refine QJ8 b H.y {c with p:=IntKind.i64.wrap (c.p+sz)} bs g.1 r _ X4 ah (ai.set q.at_ _) (q.only ak rfl rfl (by show 0<=IntKind.i64.wrap (c.p+sz)∧IntKind.i64.wrap (c.p+sz)<=bs.length;rw[aS];omega)) (aj.set _) ac (Lb _) aB aH ?_ ?_ ?_ ?_ (by rw[Qj,Le (by omega)];exact am) aa
        all_goals simp only[Qd,simprocAttr,a0,a2,a6]
  have aV:=Qlo c.x _ (fm.ext ap ab.hx);have aU:=λk (aK:(H.push (.C [.Z 0,.slice none 0 0] 26)).y<=k)=>QG c.x 7 _ (fm.ext ap (ab.up aK).hx);have ag:tlF c.x.f=bif decide (0<=Qh c.x.f.slots 7) then tl1 c.x.f+1 else tl1 c.x.f:=rfl
  have aQ:=Qp6 c.x.f;generalize tlF c.x.f=tf at *;generalize Qh c.x.f.slots 7=i7 at *;generalize aP:WL=pc10 at *;simp only[JA,aP,Qb,simprocAttr,aN,ad,W8,Yp];generalize H.push (.C [.Z 0,.slice none 0 0] 26)=H1 at *;refine aV.w ?_;rintro _ _ aM aq ⟨rfl,k2,rfl⟩;have ae:H1.y<=k2:=aM;have aX:=(ab.up ae).at_;simp only[Qb,simprocAttr,ab.at_,W8,Yp];refine(aU k2 ae).w ?_;rintro _ _ aA ai ⟨rfl,k3,rfl⟩;have az:(H1.up k2).y<=k3:=aA;have av:=(ab.up ae).up az;have ak:=(aR.up ae).up az;have au:((H1.up k2).up k3).get H.y=some (.C [.Z 0,.slice none 0 0] 26):=by rw[XB,XB];exact aG
  cases z:decide (0<=i7) with
  | false=>
    rw[z]at ag;have ao:tf=tl1 c.x.f:=ag;simp only[Qb,simprocAttr,z];refine aD _ _ ai av ak au ?_ ?_ ?_ ?_
    all_goals simp only[Qd,simprocAttr,ao]
  | true=>
    rw[z]at ag;have ao:IntKind.i64.wrap (tf - 1)=tl1 c.x.f:=by
      rw[show tf=tl1 c.x.f+1 from ag,w64 (by unfold I64;omega)];omega
    simp only[Qb,simprocAttr,z,ao];refine aD _ _ ai av ak au ?_ ?_ ?_ ?_
    all_goals simp only[Qd,simprocAttr]
def InB (bs:List Int)(p:Int):Prop:=0<=p∧p<=bs.length
def InB.zero (bs:List Int):InB bs 0:=⟨by omega,by omega⟩
def InB.wrap {bs:List Int}{p:Int}(q:bs.length<=1000000)(h:InB bs p):InB bs (IntKind.i64.wrap p):=by
 unfold InB at *;rw[w64 (by unfold I64;omega)];exact h
def QA0 (md:Int)(m:Mm):0<=WK md m:=by
 unfold WK
 repeat' split
 all_goals decide
def QvO {bs:List Int}{p:Int}(mid:Int)(m:Mm)(h:InB bs p):InB bs (Qd2 mid p m).1.ends:=by
 unfold Qd2;split;·exact h
 exact .zero bs
def QmJ {bs:List Int}{p:Int}(aa:bs.length<=1000000)(md mid:Int)(m:Mm)(h:InB bs p):InB bs (WC bs p md mid m).1.ends:=by
 unfold WC;split;·exact QvO mid m h
 split;·rename_i q;have ab:=Qp9 _ _ _ _ q;have ac:=QA0 md m;exact QvO mid _ (.wrap aa ⟨by omega,ab.2⟩)
 exact .zero bs
def QCO {bs:List Int}{p:Int}(q:bs.length<=1000000)(md mid x bb:Int)(h:InB bs p):InB bs (K5 bs p md mid x bb).1.ends:=by
 unfold K5;split
 ·rename_i aa;have ab:=Qp9 _ _ _ _ aa;split;·exact QmJ q md mid _ (.wrap q ⟨by omega,ab.2⟩)
  exact .zero bs
 exact .zero bs
def QA1 {bs:List Int}{p:Int}(q:bs.length<=1000000)(md mid rm x bb:Int)(h:InB bs p):InB bs (JV bs p md mid rm x bb).1.ends:=by
 unfold JV;split;·exact .zero bs
 split;·exact h
 split;·exact QCO q md mid x bb h
 split
 ·split;·exact .zero bs
  exact QmJ q md mid _ h
 exact QmJ q md mid _ h
def QIj {bs:List Int}{p:Int}(q:bs.length<=1000000)(x bb:Int):InB bs (rdF bs p x bb).1.ends:=by
 unfold rdF;split;·exact .zero bs
 split;·rename_i aa;have ab:=Qp9 _ _ _ _ aa;exact QA1 q _ _ _ x bb (.wrap q ⟨by omega,ab.2⟩)
 exact .zero bs
def Jl (bs:List Int)(c c':Rr):Prop:=c'.x=c.x∧c'.bv=c.bv∧InB bs c'.p
def Jl.trans {bs:List Int}{a b c:Rr}(h:Jl bs a b)(h':Jl bs b c):Jl bs a c:=⟨h'.1.trans h.1,h'.2.1.trans h.2.1,h'.2.2⟩
def Jl.self {bs:List Int}{c:Rr}(h:InB bs c.p):Jl bs c c:=⟨rfl,rfl,h⟩
def Qqa {bs:List Int}{c:Rr}(q:bs.length<=1000000)(n:Int)(h:InB bs c.p):Jl bs c (Wd bs c n).2:=⟨rfl,rfl,QxX h q⟩
def QCP {bs:List Int}(aa:bs.length<=1000000):∀ (n:Nat) (left:Int) (c:Rr),InB bs c.p->Jl bs c (QjM bs n left c).2
 | 0,_,c,h=>.self h
 | n+1,left,c,h=>by
  rw[Vk];have q:=λb=>Qqa aa b h
  repeat' split
  all_goals first
   | exact(q _).trans (QCP aa n _ _ (q _).2.2)
   | exact q _
   | exact .self h
def QCQ {bs:List Int}(aa:bs.length<=1000000):∀ (l:List UInt8) (c:Rr),InB bs c.p->Jl bs c (JW bs l c).2
 | [],c,h=>.self h
 | n::l,c,h=>by
  have q:=Qqa aa (n.toNat) h;show Jl bs c (if((Wd bs c n.toNat).1==0)=true then JW bs l (Wd bs c n.toNat).2 else Wd bs c n.toNat).2;split;·exact q.trans (QCQ aa l _ q.2.2)
  exact q
def QFE {bs:List Int}{c:Rr}(aa:bs.length<=1000000)(h:InB bs c.p):Jl bs c (Qd4 bs c).2:=by
 have q:Jl bs c (X5 bs c).2:=⟨(Qtx bs c).1,(Qtx bs c).2,Qp5 h aa⟩;unfold Qd4;split;·exact q.trans (QCQ aa _ _ q.2.2)
 exact q
def QtC {bs:List Int}{c:Rr}(aa:bs.length<=1000000)(h:InB bs c.p):Jl bs c (Kt bs c).2:=by
 have q:=QCP aa 4 c.x.f.pre c h;unfold Kt Qhe;split;·exact q.trans (QFE aa q.2.2)
 exact q
def QCR {bs:List Int}{c:Rr}(h:InB bs c.p):Jl bs c (K8 bs c).2:=by
 have q:Jl bs c (QvK bs c):=⟨rfl,rfl,Qty bs⟩;unfold K8
 repeat' split
 all_goals first
  | exact q
  | exact .self h
def QCS {bs:List Int}{c:Rr}(h:InB bs c.p):Jl bs c (ZC bs c).2:=by
 have q:Jl bs c (ZB bs c):=⟨rfl,rfl,h⟩;unfold ZC
 repeat' split
 all_goals first
  | exact QCR h
  | exact q.trans (QCR q.2.2)
  | exact q
  | exact .self h
def QtD {bs:List Int}{c:Rr}(q:bs.length<=1000000)(h:InB bs c.p):Jl bs c (Wc bs c).2:=by
 unfold Wc;cases c.x.f.vex with
 | true=>exact QCS h
 | false=>exact QtC q h
def QCT {bs:List Int}{c:Rr}(q:bs.length<=1000000)(h:InB bs c.p):Jl bs c (opF bs c).2:=by
 unfold opF
 repeat' split
 ·exact Qqa q _ h
 ·exact .self h
 have aa:Jl bs c {c with low:=ZA bs c.p}:=⟨rfl,rfl,h⟩;exact aa.trans (Qqa q _ aa.2.2)
def Qx5 {bs:List Int}{c:Rr}(q:bs.length<=1000000)(h:InB bs c.p):Jl bs c (Vj bs c).2:=by
 unfold Vj
 repeat' split
 all_goals first
  | exact .self h
  | exact⟨rfl,rfl,QIj q _ _⟩
def rd0 (x:Lf)(bv:Value):Rr:=⟨x,bv,0,false,0,0,0,0,0,QK⟩
def rdH (bs:List Int)(c:Rr):Int×Rr:=Wc bs c
def rdO (bs:List Int)(c:Rr):Int×Rr:=bif (rdH bs c).1==0 then opF bs (rdH bs c).2 else rdH bs c
def rdM (bs:List Int)(c:Rr):Int×Rr:=bif (rdO bs c).1==0 then Vj bs (rdO bs c).2 else rdO bs c
def Qqb (bs:List Int)(x:Lf)(bv:Value):Dr:=bif (rdM bs (rd0 x bv)).1==0 then Jk bs (rdM bs (rd0 x bv)).2 else Y0 (rdM bs (rd0 x bv)).1
def Qls (H:Qa)(r:Dr):Value->Qa->Prop:=λu H'=>
 Ext H H'∧∃q,u=.tuple #[.agg #[.Z r.op,q],.Z r.n,.Z r.e]∧Wg H' q r.l∧∀a n c,q=.slice (some a) n c->H.y<=a.block∧a.block<H'.y
def QFF:PC:=.seq (.seq (.ops [⟨some 19,.mv (t 8),none,false⟩,⟨some 20,.bin .neq (t 19) (.const (.Z 0)),none,false⟩]) (.cond (t 20) (.seq (.ops [⟨some 21,.build [.Z 0,.slice none 0 0] [],none,false⟩,⟨some 22,.mv (t 8),none,false⟩,⟨none,.st 2 (t 4) (t 21),none,false⟩,⟨some 5,.mv (.const (.Z 0)),none,false⟩,⟨some 6,.mv (t 22),none,false⟩]) .ret) .skip))
 (.seq (.ops [⟨some 23,.call 40 [(t 7)],none,false⟩,⟨some 24,.ext (t 23) 0,none,false⟩,⟨some 25,.ext (t 23) 1,none,false⟩,⟨some 26,.ext (t 23) 2,none,false⟩,⟨none,.st 2 (t 4) (t 24),none,false⟩,⟨some 5,.mv (t 25),none,false⟩,⟨some 6,.mv (t 26),none,false⟩]) .ret)
def QFG:PC:=.seq (.seq (.ops [⟨some 16,.mv (t 8),none,false⟩,⟨some 17,.bin .eql (t 16) (.const (.Z 0)),none,false⟩]) (.cond (t 17) (.ops [⟨some 18,.call 39 [(t 7)],none,false⟩,⟨some 8,.mv (t 18),none,false⟩]) .skip)) QFF
def QIk:PC:=.seq (.seq (.ops [⟨some 13,.mv (t 8),none,false⟩,⟨some 14,.bin .eql (t 13) (.const (.Z 0)),none,false⟩]) (.cond (t 14) (.ops [⟨some 15,.call 38 [(t 7)],none,false⟩,⟨some 8,.mv (t 15),none,false⟩]) .skip)) QFG
structure StR (H H3 H4:Qa) (b bt:Nat) (c0 c:Rr) (bs:List Int) (A:Env) (e:Int):Prop where
 wf:H4.Wf
 rd:Jj H H4 b c bs
 oc:Wh H3 H4 b c
 kx:c.x=c0.x
 a4:A 4=.P bt
 a7:A 7=.P b
 a8:A 8=.Z e
section
variable {H H3:Qa} {b bt:Nat} {c0:Rr} {bs:List Int} {r:Dr}
def QIl (aE:H.Wf)(aG:Ext H H3)(ab:H.y<=bt)(aB:H.y<=b)(aj:bt≠b)(ap:bt<H3.y)(aC:b<H3.y)(am:H3.get bt=some (.C [.Z 0,.slice none 0 0] 26))(av:c0.x.f.shapes.length=c0.x.f.slots.length)
  (m:Int×Rr) (A:Env) (H4:Qa) (h:StR H H3 H4 b bt c0 m.2 bs A m.1) (ac:r=bif m.1==0 then Jk bs m.2 else Y0 m.1):
  Qm Pg QFF ⟨Rt Pg Tryz.f20 H (Qls H r),X4⟩ (Rt Pg Tryz.f20 H (Qls H r)) A H4:=by
 obtain⟨ay,ai,oc,kx,a4,a7,a8⟩:=h;have ad:=(oc.get bt ap aj).trans am;have q:=ai.hx;simp only[QFF,Qb,simprocAttr,a8];cases z:m.1==0 with
 | false=>
  rw[z]at ac;have aa:r=Y0 m.1:=ac;simp only[Qb,simprocAttr,a4,a8,ad,Qfc];exact .mk (q.set ab _).y ⟨q.set ab _,_,by rw[aa];rfl,by rw[aa];exact⟨none,0,rfl,λh=>absurd h (NX 0)⟩,λa n c h=>by cases h⟩
 | true=>
  rw[z]at ac;have aa:r=Jk bs m.2:=ac;simp only[Qb,simprocAttr,a7];refine(Qx4 b m.2 bs H4 ai (by rw[kx];exact av)).w ?_;rintro _ H5 aD aF ⟨au,ah,aH,rfl,aw,ae⟩;have aq:=ay.lt ad;have an:=(ah bt aq aj).trans ad;have ak:Ext H H5:=⟨N8 q.y au,λid ag=>by rw[ah id (N5 ag q.y) (by omega),q.get id ag]⟩;obtain⟨va,vc,rfl,ax⟩:=id aw;simp only[Qb,simprocAttr,a4,an,Qfc];refine .mk (ak.set ab _).y ⟨ak.set ab _,_,by rw[aa],?_,λa n c h=>?_⟩;·rw[aa];refine⟨va,vc,rfl,λh=>?_⟩;obtain⟨b2,e2,az,rfl,ar⟩:=ax h;have ao:=ae _ _ _ rfl;simp only at ao;exact⟨b2,e2,az,rfl,by rw[Qj,Le (by omega)];exact ar⟩
  have aA:=ae a n c h;have:=q.y;refine⟨by omega,?_⟩;simp only[QR];omega
def QIm (aq:H.Wf)(av:Ext H H3)(an:H.y<=bt)(ak:H.y<=b)(ap:bt≠b)(ao:bt<H3.y)(am:b<H3.y)(aj:H3.get bt=some (.C [.Z 0,.slice none 0 0] 26))(ah:c0.x.f.shapes.length=c0.x.f.slots.length)
  (o:Int×Rr) (A:Env) (H4:Qa) (h:StR H H3 H4 b bt c0 o.2 bs A o.1) (m:Int×Rr) (ac:m=bif o.1==0 then Vj bs o.2 else o) (ag:r=bif m.1==0 then Jk bs m.2 else Y0 m.1):
  Qm Pg QFG ⟨Rt Pg Tryz.f20 H (Qls H r),X4⟩ (Rt Pg Tryz.f20 H (Qls H r)) A H4:=by
 have s3:=λm A H4 h=>QIl (r:=r) (c0:=c0) (bs:=bs) aq av an ak ap ao am aj ah m A H4 h;have h':=h;obtain⟨ar,aa,oc,kx,a4,a7,a8⟩:=h;rw[QFG,Zg];generalize ae:Qm Pg QFF _ _=K;simp only[Qb,simprocAttr,a8];cases z:o.1==0 with
 | false=>
  rw[z]at ac;have ad:m=o:=ac;subst ad;simp only[Qb,simprocAttr];rw[<- ae];refine s3 m _ H4 ⟨ar,aa,oc,kx,?_,?_,?_⟩ ag
  all_goals simp only[Qd,simprocAttr,a4,a7,a8]
 | true=>
  rw[z]at ac;have ad:m=Vj bs o.2:=ac;have ab:=Qx5 (c:=o.2) aa.len aa.p0;have q:=Qp3 b o.2 bs H4 aa (by rw[kx];exact ah);rw[<- ad]at ab q;simp only[Qb,simprocAttr,a7];refine q.w ?_;rintro _ H5 aw au ⟨rfl,ai⟩;simp only[Qb,simprocAttr];rw[<- ae];refine s3 m _ H5 ⟨au,aa.only ai ab.1 ab.2.1 ab.2.2,oc.trans ai,ab.1.trans kx,?_,?_,?_⟩ ag
  all_goals simp only[Qd,simprocAttr,a4,a7]
def QIn (ar:H.Wf)(aw:Ext H H3)(am:H.y<=bt)(aj:H.y<=b)(aq:bt≠b)(an:bt<H3.y)(ak:b<H3.y)(ai:H3.get bt=some (.C [.Z 0,.slice none 0 0] 26))(ap:c0.x.f.shapes.length=c0.x.f.slots.length)
  (o:Int×Rr) (A:Env) (H4:Qa) (h:StR H H3 H4 b bt c0 o.2 bs A o.1) (m:Int×Rr) (aa:m=bif o.1==0 then opF bs o.2 else o) (w:Int×Rr) (ag:w=bif m.1==0 then Vj bs m.2 else m) (ao:r=bif w.1==0 then Jk bs w.2 else Y0 w.1):
  Qm Pg QIk ⟨Rt Pg Tryz.f20 H (Qls H r),X4⟩ (Rt Pg Tryz.f20 H (Qls H r)) A H4:=by
 have s3:=λm A H4 h aa=>QIm (r:=r) (c0:=c0) (bs:=bs) ar aw am aj aq an ak ai ap m A H4 h w aa ao;obtain⟨au,ab,oc,kx,a4,a7,a8⟩:=h;rw[QIk,Zg];generalize ae:Qm Pg QFG _ _=K;simp only[Qb,simprocAttr,a8];cases z:o.1==0 with
 | false=>
  rw[z]at aa;have ad:m=o:=aa;subst ad;simp only[Qb,simprocAttr];rw[<- ae];refine s3 m _ H4 ⟨au,ab,oc,kx,?_,?_,?_⟩ ag
  all_goals simp only[Qd,simprocAttr,a4,a7,a8]
 | true=>
  rw[z]at aa;have ad:m=opF bs o.2:=aa;have ac:=QCT (c:=o.2) ab.len ab.p0;have q:=QCC b o.2 bs H4 ab;rw[<- ad]at ac q;simp only[Qb,simprocAttr,a7];refine q.w ?_;rintro _ H5 ax av ⟨rfl,ah⟩;simp only[Qb,simprocAttr];rw[<- ae];refine s3 m _ H5 ⟨av,ab.only ah ac.1 ac.2.1 ac.2.2,oc.trans ah,ac.1.trans kx,?_,?_,?_⟩ ag
  all_goals simp only[Qd,simprocAttr,a4,a7]
end
def QrG (x:Lf)(bv:Value)(bs:List Int)(H:Qa)(hx:x.At H)(ag:Qf4 H bv bs)(ah:bs.length<=1000000)(ai:x.f.shapes.length=x.f.slots.length):Qe Pg 20 [.agg x.cells.toArray,bv] H (Qls H (Qqb bs x bv)):=by
 refine Qpw λaj=>?_;obtain⟨va,vc,rfl,_⟩:=id ag;obtain⟨r,ac⟩:∃r,r=Qqb bs x (.slice va bs.length vc):=⟨_,rfl⟩;rw[<- ac];have av:r=bif (rdM bs (rd0 x (.slice va bs.length vc))).1==0 then Jk bs (rdM bs (rd0 x (.slice va bs.length vc))).2 else Y0 (rdM bs (rd0 x (.slice va bs.length vc))).1:=ac
 clear ac;have aq:(Value.agg x.cells.toArray).cells.toList=x.cells:=rfl;obtain⟨aA,sc,aB,_⟩:=id hx.2.2.1;obtain⟨aC,aD,aE,_⟩:=id hx.2.2.2;have ap:Qgw=.seq (.ops [⟨some 2,.box 57 (t 0),none,false⟩,⟨some 4,.alloc 26 [.Z 0,.slice none 0 0],none,false⟩,⟨some 5,.mv (.const (.Z 0)),none,false⟩,⟨some 6,.mv (.const (.Z 0)),none,false⟩]) (.seq (.ops [⟨some 9,.ld true 10 (t 2),none,false⟩,⟨some 10,.mv (t 1),none,false⟩,⟨some 11,.build [.Z 0,.slice none 0 0,.slice none 0 0,.Z 0,.Z 0,.Z 0,.Z 0,.Z 0,.bool false,.Z 0,.slice none 0 0,.Z 0,.bool false,.Z 0,.Z 0,.Z 0,.Z 0,.Z 0,.Z 0,.Z 0,.Z 0,.Z 0,.Z 0,.Z 0,.Z 0,.Z 0,.Z 0,.Z 0] [(0,10,(t 9)),(10,1,(t 10))],none,false⟩,⟨some 7,.alloc 87 [.Z 0,.slice none 0 0,.slice none 0 0,.Z 0,.Z 0,.Z 0,.Z 0,.Z 0,.bool false,.Z 0,.slice none 0 0,.Z 0,.bool false,.Z 0,.Z 0,.Z 0,.Z 0,.Z 0,.Z 0,.Z 0,.Z 0,.Z 0,.Z 0,.Z 0,.Z 0,.Z 0,.Z 0,.Z 0],none,false⟩,⟨none,.st 28 (t 7) (t 11),none,false⟩]) (.seq (.ops [⟨some 12,.call 37 [(t 7)],none,false⟩,⟨some 8,.mv (t 12),none,false⟩]) QIk)):=rfl;rw[ap];simp only[aq,Qb,simprocAttr,Qw,Wj];change QxD (some (rd0 x (.slice va bs.length vc)).cells) _ _;have ao:((rd0 x (.slice va bs.length vc)).cells.all λx=>x.oneCell')=true:=by
  show((x.cells++_).all λx=>x.oneCell')=true;rw[Fo,Y8 hx];rfl
 generalize ab:rd0 x (.slice va bs.length vc)=c0 at *;have aF:List.take 28 c0.cells=c0.cells:=LF (FM (W8 c0));simp only[Qb,simprocAttr,W8,ao];generalize q:Qa.set _ (H.y+1+1) (.C c0.cells 87)=H3;have am:H.y+1≠H.y+1+1:=by omega
 have ak:Ext H H3:=by
  rw[<- q];exact((((Ext.refl H).push _).push _).push _).set (by omega) _
 have au:H3.get (H.y+1+1)=some (.C c0.cells 87):=by rw[<- q,Qj,Lc rfl]
 have ar:H3.get (H.y+1)=some (.C [.Z 0,.slice none 0 0] 26):=by
  rw[<- q,Qj,Le am,Qc,Le (by simp only[Qf];omega),Qc,Lc (by simp only[Qf])]
 have ay:H3.y=H.y+1+1+1:=by rw[<- q];simp only[QR,Qf]
 clear q;have ae:c0.x=x:=by rw[<- ab];rfl
 have b0:c0.bv=.slice va bs.length vc:=by rw[<- ab];rfl
 have p0:c0.p=0:=by rw[<- ab];rfl
 have ad:Jj H H3 (H.y+1+1) c0 bs:=⟨aj,ak,by omega,au,by rw[ae];exact hx,by rw[b0];exact ag,ah,by rw[p0];omega⟩;generalize ax:H.y+1+1=b at *;refine(QIf b c0 bs H3 ad (by rw[ae];exact ai)).w ?_;rintro _ H4 az aw ⟨rfl,an⟩;have aa:=QtD ah ad.p0;simp only[Qb,simprocAttr];refine QIn (bt:=H.y+1) (c0:=c0) aj ak (by omega) (by omega) am (by omega) (by omega) ar (by rw[ae];exact ai) (Wc bs c0) _ H4 ⟨aw,ad.only an aa.1 aa.2.1 aa.2.2,an,aa.1,?_,?_,?_⟩ (rdO bs c0) rfl (rdM bs c0) rfl av
 all_goals simp only[Qd,simprocAttr]
def Rr.els (s t v:Value)(c:Rr):Rr:={c with x:=⟨c.x.f,s,t⟩,bv:=v}
def Qd6 (s t v:Value)(e:Int×Rr):Int×Rr:=(e.1,e.2.els s t v)
section
variable (bs:List Int) (s t v:Value)
def Kv (p:Prop)[Decidable p](a b:Int×Rr):Qd6 s t v (if p then a else b)=if p then Qd6 s t v a else Qd6 s t v b:=by split<;>rfl
def QvP:∀ (n:Nat) (left:Int) (c:Rr),QjM bs n left (c.els s t v)=Qd6 s t v (QjM bs n left c)
 | 0,_,_=>rfl
 | n+1,left,c=>by
  rw[Vk,Vk];simp only[Kv];have e:=λb=>QvP n (Qlm left (XG b)) (Wd bs c (Jz b)).2;simp only[<- e];rfl
def QvQ:∀ (l:List UInt8) (c:Rr),JW bs l (c.els s t v)=Qd6 s t v (JW bs l c)
 | [],_=>rfl
 | n::l,c=>by
  show(if((Wd bs c n.toNat).1==0)=true then JW bs l ((Wd bs c n.toNat).2.els s t v) else Qd6 s t v (Wd bs c n.toNat))=Qd6 s t v (if((Wd bs c n.toNat).1==0)=true then JW bs l (Wd bs c n.toNat).2 else Wd bs c n.toNat);rw[Kv,QvQ l]
def Qx6 (c:Rr)(w:Int):Ya (c.els s t v) w=Qd6 s t v (Ya c w):=by
 unfold Ya;rw[Kv];rfl
def QCU (c:Rr):X5 bs (c.els s t v)=Qd6 s t v (X5 bs c):=by
 unfold X5;simp only[Kv,<- Qx6];rfl
def QA2 (c:Rr):Qd4 bs (c.els s t v)=Qd6 s t v (Qd4 bs c):=by
 unfold Qd4;rw[QCU,Kv,<- QvQ];rfl
def QCV (c:Rr):Kt bs (c.els s t v)=Qd6 s t v (Kt bs c):=by
 unfold Kt Qhe;rw[show(c.els s t v).x.f.pre=c.x.f.pre from rfl,QvP,Kv,<- QA2];rfl
def QCW (c:Rr):K8 bs (c.els s t v)=Qd6 s t v (K8 bs c):=by
 unfold K8;simp only[Kv];rfl
def QCX (c:Rr):ZC bs (c.els s t v)=Qd6 s t v (ZC bs c):=by
 unfold ZC;simp only[Kv,<- QCW];rfl
def QA3 (c:Rr):Wc bs (c.els s t v)=Qd6 s t v (Wc bs c):=by
 unfold Wc;rw[show(c.els s t v).x.f.vex=c.x.f.vex from rfl,QCX,QCV];cases c.x.f.vex<;>rfl
def QFH (c:Rr):opF bs (c.els s t v)=Qd6 s t v (opF bs c):=by
 unfold opF;simp only[Kv];rfl
def QCY (c:Rr):Vj bs (c.els s t v)=Qd6 s t v (Vj bs c):=by
 unfold Vj;simp only[Kv];rfl
def QFI (c:Rr):rdO bs (c.els s t v)=Qd6 s t v (rdO bs c):=by
 unfold rdO rdH;rw[QA3];show(bif (Wc bs c).1==0 then opF bs ((Wc bs c).2.els s t v) else Qd6 s t v (Wc bs c))=_;rw[QFH];cases(Wc bs c).1==0<;>rfl
def QFJ (c:Rr):rdM bs (c.els s t v)=Qd6 s t v (rdM bs c):=by
 unfold rdM;rw[QFI];show(bif (rdO bs c).1==0 then Vj bs ((rdO bs c).2.els s t v) else Qd6 s t v (rdO bs c))=_;rw[QCY];cases(rdO bs c).1==0<;>rfl
end
def QD (bs:List Int)(f:Fm):Dr:=Qqb bs ⟨f,.slice none 0 0,.slice none 0 0⟩ (.slice none 0 0)
def QvR (bs:List Int)(x:Lf)(bv:Value):Qqb bs x bv=QD bs x.f:=by
 unfold QD Qqb;have e:rd0 ⟨x.f,.slice none 0 0,.slice none 0 0⟩ (.slice none 0 0)=(rd0 x bv).els (.slice none 0 0) (.slice none 0 0) (.slice none 0 0):=rfl;rw[e,QFJ];rfl
def QIo (x:Lf)(bv:Value)(bs:List Int)(H:Qa)(hx:x.At H)(q:Qf4 H bv bs)(aa:bs.length<=1000000)(ab:x.f.shapes.length=x.f.slots.length):Qe Pg 20 [.agg x.cells.toArray,bv] H (Qls H (QD bs x.f)):=by
 rw[<- QvR bs x bv];exact QrG x bv bs H hx q aa ab
def Qli.by_ {H:Qa}{v:Value}{bs:List Int}(h:Qli H v bs):Qf4 H v bs:=by
 obtain⟨a,cap,rfl,q⟩:=h;refine⟨a,cap,rfl,λac=>?_⟩;obtain⟨b,o,c,e,ro,rfl,ab,aa⟩:=q ac;exact⟨b,o,e,ro,c,rfl,ab,aa⟩
def QaK (bs:List Int):List Fm->Int->Dr
 | [],err=>Y0 err
 | f::l,err=>if((QD bs f).e==0)=true then⟨(QD bs f).op,(QD bs f).l,(QD bs f).n,0⟩ else QaK bs l (if((QD bs f).e==9)=true then 9 else err)
def QA4 (bs:List Int){L:List Fm}{k:Nat}{f:Fm}(h:L[k]? = some f)(err:Int):QaK bs (L.drop k) err=if((QD bs f).e==0)=true then⟨(QD bs f).op,(QD bs f).l,(QD bs f).n,0⟩ else QaK bs (L.drop (k+1)) (if((QD bs f).e==9)=true then 9 else err):=by
 obtain⟨q,rfl⟩:=Lk.1 h;rw[Nh q];rfl
def KG {T:Qa->Prop}{L:List Fm}{bs:List Int}(aT:∀H,T H->Qe Pg 32 [] H λu H'=>QdY H H' u L)(bg:QiN 81)(aF:∀f∈Q7 bs true 0 L,f.shapes.length=f.slots.length)(va:Value)(aU:∀H H',H.Wf->T H->Ext H H'->T H')(H:Qa)(bd:T H)(aG:Qli H va bs)(aW:bs.length<=100000):
  Qe Pg 6 [va] H (Qls H (QaK bs (Q7 bs true 0 L) 4)):=by
 refine Qmf λai=>?_;simp only[Qdl,Qb,simprocAttr];have ac:Ext H (H.push (.C [.Z 0,.slice none 0 0] 26)):=(Ext.refl H).push _;have aq:(H.push (.C [.Z 0,.slice none 0 0] 26)).get H.y=some (.C [.Z 0,.slice none 0 0] 26):=by rw[Qc,Lc rfl]
 have aN:=ai.push (.C [.Z 0,.slice none 0 0] 26);generalize H.push (.C [.Z 0,.slice none 0 0] 26)=H0 at ac aq aN;refine(Qrz aT bg va bs H0 (aU _ _ ai bd ac) (aG.ext ai ac) aW).w ?_;rintro bE H1 bA au ⟨am,ys,e1,aV,b7,bx⟩;obtain⟨⟨aP,cap,rfl,bc⟩,bj⟩:=id aV.fms;rw[<- e1]at aF;rw[<- e1];obtain⟨r,aL⟩:∃r,r=QaK bs (ys.map (·.f)) 4:=⟨_,rfl⟩;rw[<- aL];have aY:=aN.lt aq;simp only[Qb,simprocAttr];refine Qu (λm A' H'=>∃ (k:Nat) (err:Int),k<=ys.length∧m=ys.length - k∧H'.Wf∧Ext H1 H'∧
   A' 0=va∧A' 2=.P H.y∧A' 5=.Z err∧A' 12=.slice aP ys.length cap∧A' 13=.Z ys.length∧A' 14=.Z k∧r=QaK bs ((ys.map (·.f)).drop k) err) ys.length ?_ ?_
 ·refine⟨0,4,L7 _,by omega,au,.refl _,?_,?_,?_,?_,?_,?_,aL⟩
  all_goals simp only[Qd,simprocAttr]
  all_goals rfl
 rintro m A' H3 ⟨k,err,bz,rfl,aj,ab,ay,r2,aO,az,r13,ao,q⟩;simp only[Qb,simprocAttr,r13,ao];have ah:H3.get H.y=some (.C [.Z 0,.slice none 0 0] 26):=by rw[(am.trans ab).get _ aY];exact aq
 refine Qg (λaa=>?_) (λaa=>?_)
 ·have aa:k<ys.length:=by have:=Lg aa;omega
  obtain⟨b1,aR,bn,rfl,aJ⟩:=bc (by omega);have aX:H3.get b1=some (.cells (WP ys) aR bn):=by rw[ab.get _ (au.lt aJ)];exact aJ
  have d1:(0:Int)<=k∧(k:Int)<ys.length:=by omega
  have d3:(k:Int).toNat=k:=by omega
  have d4:k * 10+10<=ys.length * 10:=by omega
  have aE:IntKind.i64.wrap ((k:Int)+1)=((k+1:Nat):Int):=by rw[w64 (by unfold I64;omega)];omega
  have ar:=La aa;have aZ:(ys.map (·.f))[k]? = some ys[k].f:=by rw[LD,ar];rfl
  have aD:=QaT ys k _ ar;have bm:=XR ys;have ax:ys[k]∈ys:=Nb aa;have aC:=(bj _ ax).ext au ab;rw[QA4 bs aZ]at q;generalize ys[k]=x at ar aD ax aC q;have aQ:=Y8 aC;simp only[Qb,simprocAttr,ay,az,ao,d1,d3,d4,aX,bm,aD,Qw,Wj,aQ];obtain⟨G1,ap⟩:∃h,h=(H3.push (.C [.Z 0,.slice none 0 0,.slice none 0 0,.Z 0,.Z 0,.Z 0,.Z 0,.Z 0,.bool false,.Z 0] 57)).set H3.y (.C x.cells 57):=⟨_,rfl⟩;have bC:G1.Wf:=by rw[ap];exact(aj.push _).set (by rw[Qc,Lc rfl]) _
  have ad:Ext H3 G1:=by rw[ap];exact((Ext.refl H3).push _).set (Lb _) _
  simp only[<- ap];have aw:Ext H G1:=(ac.trans am).trans (ab.trans ad);refine(QIo x va bs G1 (aC.ext aj ad) (aG.ext ai aw).by_ (by omega) (aF x.f (Rw ax))).w ?_;rintro _ G2 bB ak ⟨an,bD,rfl,bh,aH⟩;generalize QD bs x.f=d at *;obtain⟨aA,aB,rfl,bi⟩:=id bh;have aK:G2.get H.y=some (.C [.Z 0,.slice none 0 0] 26):=by rw[(ad.trans an).get _ (aj.lt ah)];exact ah
  have av:=λC=>((Ext.refl G2).push (.C [.Z 0,.slice none 0 0] 26)).set (i:=G2.y) (Lb _) C;have b9:=ak.lt aK;have ba:(H.y=G2.y)=False:=by simp;omega
  simp only[Qb,simprocAttr];cases z:d.e==0 with
  | true=>
   rw[Lc z]at q;simp only[Qb,simprocAttr,r2,aK,ba,Qcf];have ae:Ext H (((G2.push (.C [.Z 0,.slice none 0 0] 26)).set G2.y (.C [.Z d.op,.slice aA d.l.length aB] 26)).set H.y (.C [.Z d.op,.slice aA d.l.length aB] 26)):=(aw.trans (an.trans (av _))).set (Lb _) _;have br:=aw.y;have bu:=(ac.trans am).y;have bw:=ab.y;have bq:=ad.y;have b8:=aj.lt ah;refine .mk ae.y ⟨ae,_,by rw[q],?_,λa n c h=>?_⟩;·rw[q];refine⟨aA,aB,rfl,λh=>?_⟩;obtain⟨b2,e2,bo,rfl,aI⟩:=bi h;have aS:=aH _ _ _ rfl;have bp:=ak.lt aI;simp only at aS;exact⟨b2,e2,bo,rfl,by rw[Qj,Le (by omega),Qj,Le (by omega),Qc,Le (by omega)];exact aI⟩
   have aa:=aH a n c h;refine⟨by omega,?_⟩;simp only[QR,Qf];omega
  | false=>
   rw[Le (by rw[z];decide)]at q;cases ag:d.e==9 with
   | true=>
    rw[Lc ag]at q;simp only[Qb,simprocAttr,ag,ao,aE];refine⟨ys.length - (k+1),by omega,k+1,9,by omega,rfl,?_,ab.trans ((ad.trans an).trans (av _)),?_,?_,?_,?_,?_,?_,q⟩;·exact(ak.push _).set (by rw[Qc,Lc rfl]) _
    all_goals simp only[Qd,simprocAttr,ay,r2,az,r13]
   | false=>
    rw[Le (by rw[ag];decide)]at q;simp only[Qb,simprocAttr,ag,ao,aE];refine⟨ys.length - (k+1),by omega,k+1,err,by omega,rfl,?_,ab.trans ((ad.trans an).trans (av _)),?_,?_,?_,?_,?_,?_,q⟩;·exact(ak.push _).set (by rw[Qc,Lc rfl]) _
    all_goals simp only[Qd,simprocAttr,ay,r2,aO,az,r13]
 have aa:k=ys.length:=by have:=Ll aa;omega
 subst aa;rw[NR (by rw[Nn];exact Lb _)]at q;have aM:r=Y0 err:=q;have ae:=ac.trans (am.trans ab);simp only[Qb,simprocAttr,r2,aO,ah,Qcf];exact .mk (ae.set (Lb _) _).y ⟨ae.set (Lb _) _,_,by rw[aM];rfl,by rw[aM];exact⟨none,0,rfl,λh=>absurd h (NX 0)⟩,λa n c h=>by cases h⟩
def QnL (ib:Int×Bool):∀l:List Ar,(QS ib l).1.length<=l.length
 | []=>Lb _
 | a::l=>by
  have:=QnL ib l;show(if((Wi ib a).2==0)=true then((Wi ib a).1::(QS ib l).1,(QS ib l).2) else([],(Wi ib a).2)).1.length<=_;split;·simp only[Lo];omega
  exact L7 _
def QBb (op:Int)(l:List Ar):(Q6 op l).length<=l.length+1:=by
 unfold Q6;split
 ·split;·simp
  omega
 split;·simp
 split;·simp
 omega
def QDf (op p:Int)(l:List Ar):(Qda op p l).l.length<=5:=by
 unfold Qda;split;·exact L7 _
 rename_i h;show(QU op l).2.1.length<=5;unfold QU at h ⊢;split;·exact L7 _
 rename_i q;split;·exact L7 _
 have aa:=QeR (op:=op) (l:=l) (by simpa using q);have ab:=QnL (Qy op l) l;have ac:=QBb op (QS (Qy op l) l).1;show(Q6 op (QS (Qy op l) l).1).length<=5;omega
def QDg (bs:List Int)(c:Rr):(Jk bs c).l.length<=5:=by
 have q:∀c n,(GW bs c n).l.length<=5:=λc n=>by
  unfold GW
  repeat' split
  all_goals first
   | exact QDf _ _ _
   | exact L7 _
 unfold Jk
 repeat' split
 all_goals first
  | exact q _ _
  | exact L7 _
def QsA (bs:List Int)(f:Fm):(QD bs f).l.length<=5:=by
 unfold QD Qqb;cases(rdM bs (rd0 ⟨f,.slice none 0 0,.slice none 0 0⟩ (.slice none 0 0))).1==0;·exact L7 _
 exact QDg _ _
structure QFV (bs:List Int) (r:Dr):Prop where
 n:InB bs r.n
 i:∀a∈r.l,I64 a.n
def Qzs {bs:List Int}{op p:Int}{l:List Ar}(ac:InB bs p)(aa:∀a∈l,I64 a.n)(h:(Qda op p l).e=0):QFV bs (Qda op p l):=by
 unfold Qda at h ⊢;split;·rename_i q;rw[Lc q]at h;cases h
 rename_i q;exact⟨ac,λa ab=>((QDl aa (by simpa using q)).2.2.2 a ab).n⟩
def QDm {bs:List Int}{c:Rr}(ae:bs.length<=1000000)(ad:InB bs c.p){n:Int}(ac:I64 n)(h:(GW bs c n).e=0):QFV bs (GW bs c n):=by
 unfold GW at h ⊢;split
 ·rename_i q;rw[Lc q]at h;split;·rename_i aa;rw[Lc aa]at h;cases h
  rename_i aa;rw[Le aa]at h;split;·rename_i ab;rw[Lc ab]at h;cases h
  rename_i ab;rw[Le ab]at h;exact Qzs (InB.wrap ae ⟨by have:=ad.1;omega,by omega⟩) (QtB _ _ _ ac) h
 rename_i q;rw[Le q]at h;exact Qzs ad (QtB _ _ _ ac) h
def QIy {bs:List Int}{c:Rr}(ac:bs.length<=1000000)(ad:InB bs c.p)(h:(Jk bs c).e=0):QFV bs (Jk bs c):=by
 unfold Jk at h ⊢;split
 ·rename_i aa;rw[Lc aa]at h;split;·rename_i q;rw[Lc q]at h;have ab:(Q3 bs c.p (tl1 c.x.f) true).2=0:=h;rw[ab]at q;cases q
  rename_i q;rw[Le q]at h;have ab:((Q3 bs c.p (tl1 c.x.f) true).2==0)=true:=by simpa using q
  have ae:=Qp9 _ _ _ _ ab;have ag:=Qp6 c.x.f;exact QDm ac (InB.wrap ac ⟨by have:=ad.1;omega,by omega⟩) (QvN _ _ _ _) h
 rename_i aa;rw[Le aa]at h;exact QDm ac ad (by unfold I64;omega) h
def QIz {bs:List Int}(q:bs.length<=1000000)(c:Rr)(ad:InB bs c.p):InB bs (rdM bs c).2.p:=by
 have aa:=(QtD q ad).2.2;unfold rdM rdO rdH;cases ac:(Wc bs c).1==0 with
 | false=>
  simp only[Ls,ac];exact aa
 | true=>
  simp only[Lq];have ab:=(QCT q aa).2.2;cases ae:(opF bs (Wc bs c).2).1==0 with
  | false=>simp only[Ls];exact ab
  | true=>simp only[Lq];exact(Qx5 q ab).2.2
def Qzt {bs:List Int}(aa:bs.length<=1000000)(f:Fm)(h:(QD bs f).e=0):QFV bs (QD bs f):=by
 unfold QD Qqb at h ⊢;have ab:=QIz aa (rd0 ⟨f,.slice none 0 0,.slice none 0 0⟩ (.slice none 0 0)) (InB.zero bs);generalize rdM bs (rd0 ⟨f,.slice none 0 0,.slice none 0 0⟩ (.slice none 0 0))=c at *;cases q:c.1==0 with
 | false=>
  rw[q]at h;simp only[Ls]at h;have ac:c.1=0:=h;rw[ac]at q;cases q
 | true=>
  rw[q]at h;simp only[Lq]at h ⊢;exact QIy aa ab h
