import Derived.Test.YtopkfjiipdjbmaaGreatDoorC5Dec
import Derived.Test.YtopkfjiipdjbmaaGreatDoorLibA
import Derived.Test.YtopkfjiipdjbmaaGreatDoorLibI
import Derived.Test.YtopkfjiipdjbmaaGreatDoorC0Code
set_option maxHeartbeats 4000000
set_option linter.defProp false
set_option linter.unusedVariables false
set_option linter.unusedSimpArgs false
set_option maxRecDepth 100000
noncomputable section
namespace Go.Proofs.YtopkfjiipdjbmaaGreatDoor.code
open Go.Ab
def Qh3 (H:Qa)(v:Value)(bs:List Int):Prop:=∃a cap,v=.slice a bs.length cap∧(0<bs.length->∃b o e ro cs,a=some ⟨b,o,none⟩∧H.get b=some (.cells cs e ro)∧∀j,j<bs.length->cs[o+j]? = some (.int .u8 (bs.getD j 0)))
def Qh3.ext {H H':Qa}{v:Value}{bs:List Int}(ag:H.Wf)(ad:Ext H H')(h:Qh3 H v bs):Qh3 H' v bs:=by
 obtain⟨a,cap,rfl,ab⟩:=h;refine⟨a,cap,rfl,λae=>?_⟩;obtain⟨b,o,e,ro,cs,rfl,aa,ac⟩:=ab ae;exact⟨b,o,e,ro,cs,rfl,by rw[ad.get b (ag.lt aa)];exact aa,ac⟩
def QeP (n:Int):Bool:=(n==1)||(n==2)||(n==4)||(n==8)
def QkU (n:Int)(H:Qa):Qe Pg 92 [.Z n] H λu H'=>u=.bool (QeP n)∧H'=H:=by
 refine Qr5 λaa=>?_;simp(disch:=(try simp only[hnP])<;>try omega) only[QiR,QF,simprocAttr]
 repeat' (first
   | (refine Qz (λh=>?_) (λh=>?_)<;>(try simp only[Lr,Lu]at h)<;>simp(disch:=(try simp only[hnP])<;>try omega) only[QF,simprocAttr,Qhs,h])
   | fail)
 all_goals refine .mk (Lb _) ⟨?_,rfl⟩
 all_goals (simp only[QeP];simp_all)
def Zu (n:Int):Bool:=decide (1<=n)&&decide (n<=64)
def KU (n:Int)(H:Qa):Qe Pg 118 [.Z n] H λu H'=>u=.bool (Zu n)∧H'=H:=by
 refine Qop λaa=>?_;simp(disch:=(try simp only[hnP])<;>try omega) only[Qfy,QF,simprocAttr]
 repeat' (first
   | (refine Qz (λh=>?_) (λh=>?_)<;>(try simp only[Lr,Lu]at h)<;>simp(disch:=(try simp only[hnP])<;>try omega) only[QF,simprocAttr,QdX,h])
   | fail)
 all_goals refine .mk (Lb _) ⟨?_,rfl⟩
 all_goals (simp only[Zu];simp_all<;>omega)
def QkV (n bits:Int):Int:=if Zu bits=false then 0 else(IntKind.i64.wrap (IntKind.u64.wrap (IntKind.u64.wrap n * 2 ^ (min (64 - bits).toNat 64)))).fdiv (2 ^ (min (64 - bits).toNat 64))
def QgH (n bits:Int)(H:Qa):Qe Pg 93 [.Z n,.Z bits] H λu H'=>u=.Z (QkV n bits)∧H'=H:=by
 refine Qtq λac=>?_;simp only[QkA,Qb,simprocAttr];refine(KU bits H).w ?_;rintro _ H _ ac ⟨rfl,rfl⟩;simp only[Qb,simprocAttr];cases q:Zu bits with
 | false=>
  simp only[Qb,simprocAttr,QiS];exact .mk (Lb _) ⟨by rw[QkV,Lc q],rfl⟩
 | true=>
  have ad:1<=bits∧bits<=64:=by simpa[Zu] using q
  have e:IntKind.i64.wrap (64 - bits)=64 - bits:=w64 (by unfold I64;omega);have ab:0<=64 - bits:=by omega
  have b1:IntKind.u64.bits=64:=rfl;have aa:IntKind.i64.bits=64:=rfl;simp only[Qb,simprocAttr,e,ab,b1,aa,QiS];exact .mk (Lb _) ⟨by rw[QkV,Le (by simp[q])],rfl⟩
def QC7 (bs:List Int)(p:Nat):Nat->Int
 | 0=>0
 | i+1=>IntKind.u64.wrap (BitVec.ofInt IntKind.u64.bits (QC7 bs p i) ||| BitVec.ofInt IntKind.u64.bits (IntKind.u64.wrap (IntKind.u64.wrap (bs.getD (p+i) 0) * 2 ^ (min (8 * i) 64)))).toNat
def XM (bs:List Int)(p sz:Int)(aa:Bool):Int×Int:=
 if QeP sz=false then(0,2) else if(decide (p<0)||decide ((bs.length:Int)<p))=true then(0,5) else if(bs.length:Int) - p<sz then(0,9)
 else if aa=true then(QkV (IntKind.i64.wrap (QC7 bs p.toNat sz.toNat)) (8 * sz),0) else(IntKind.i64.wrap (QC7 bs p.toNat sz.toNat),0)
def Qew (v:Value)(bs:List Int)(p sz:Int)(aa:Bool)(H:Qa)(ae:Qh3 H v bs)(ao:bs.length<=1000000)(ap:I64 p):Qe Pg 59 [v,.Z p,.Z sz,.bool aa] H λu H'=>u=.tuple #[.Z (XM bs p sz aa).1,.Z (XM bs p sz aa).2]∧H'=H:=by
 refine Qv0 λai=>?_;obtain⟨a,cap,rfl,ae⟩:=ae;simp only[Qnp,Qb,simprocAttr];refine(QkU sz H).w ?_;rintro _ H _ ai ⟨rfl,rfl⟩;simp only[Qb,simprocAttr];cases q:QeP sz with
 | false=>
  simp only[Qb,simprocAttr,ZB];exact .mk (Lb _) ⟨by rw[XM,Lc q],rfl⟩
 | true=>
  have aq:sz=1∨sz=2∨sz=4∨sz=8:=by
   simp only[QeP,Nw,L0]at q;omega
  have ac:XM bs p sz aa=if(decide (p<0)||decide ((bs.length:Int)<p))=true then(0,5) else if(bs.length:Int) - p<sz then(0,9)
    else if aa=true then(QkV (IntKind.i64.wrap (QC7 bs p.toNat sz.toNat)) (8 * sz),0) else(IntKind.i64.wrap (QC7 bs p.toNat sz.toNat),0):=by rw[XM,Le (by simp[q])]
  rw[ac];clear ac;simp only[Qjh,Qb,simprocAttr]
  by_cases ad:p<0;·simp only[ad,Nf,Qb,simprocAttr,ZB];exact .mk (Lb _) ⟨by simp,rfl⟩
  by_cases ac:(bs.length:Int)<p;·simp only[ad,ac,Nf,NE,Qb,simprocAttr,ZB];exact .mk (Lb _) ⟨by simp,rfl⟩
  have e1:IntKind.i64.wrap ((bs.length:Int) - p)=(bs.length:Int) - p:=w64 (by unfold I64;omega);simp only[ad,ac,NE,Qjg,Qb,simprocAttr,e1]
  by_cases ah:(bs.length:Int) - p<sz;·simp only[ah,Nf,Qb,simprocAttr,ZB];exact .mk (Lb _) ⟨by simp,rfl⟩
  obtain⟨m,rfl⟩:∃m:Nat,p=m:=⟨p.toNat,by omega⟩;obtain⟨z,rfl⟩:∃z:Nat,sz=z:=⟨sz.toNat,by omega⟩;have b1:IntKind.u64.bits=64:=rfl;simp only[ah,NE,Qjf,Qb,simprocAttr,Bool.or_self,LV,LG];refine Qp (λk A' H'=>∃i:Nat,i<=z∧k=z - i∧H'=H∧A' 0=.slice a bs.length cap∧A' 1=.Z m∧A' 2=.Z z∧A' 3=.bool aa∧A' 10=.int .u64 (QC7 bs m i)∧A' 29=.Z z∧A' 30=.Z i) z ?_ ?_
  ·refine⟨0,L7 _,by omega,rfl,?_,?_,?_,?_,?_,?_,?_⟩
   all_goals simp only[Qf,simprocAttr]
   all_goals rfl
  rintro k A' H' ⟨i,hi,rfl,rfl,r0,r1,r2,r3,ag,aj,ak⟩;simp only[Qje,Qb,simprocAttr,aj,ak];refine Qg (λab=>?_) (λab=>?_)
  ·have ab:i<z:=by have:=Lg ab;omega
   obtain⟨b,o,e,ro,cs,rfl,an,am⟩:=ae (by omega);have d1:IntKind.i64.wrap ((m:Int)+(i:Int))=((m+i:Nat):Int):=by rw[w64 (by unfold I64;omega)];omega
   have d2:(0:Int)<=((m+i:Nat):Int)∧((m+i:Nat):Int)<bs.length:=by omega
   have d3:(((m+i:Nat):Int)).toNat=m+i:=by omega
   have d4:IntKind.i64.wrap (8 * (i:Int))=((8 * i:Nat):Int):=by rw[w64 (by unfold I64;omega)];omega
   have d5:(0:Int)<=((8 * i:Nat):Int):=by omega
   have d6:(((8 * i:Nat):Int)).toNat=8 * i:=by omega
   have al:IntKind.i64.wrap ((i:Int)+1)=((i+1:Nat):Int):=by rw[w64 (by unfold I64;omega)];omega
   have g1:=am (m+i) (by omega);simp only[Qjd,Qb,simprocAttr,r0,r1,ag,ak,d1,d2,d3,d4,d5,d6,an,g1,al,b1];refine⟨z - (i+1),by omega,i+1,by omega,rfl,rfl,?_,?_,?_,?_,?_,?_,?_⟩
   all_goals simp only[Qf,simprocAttr,r0,r1,r2,r3,aj]
   rfl
  have ab:i=z:=by have:=Ll ab;omega
  subst ab;simp only[Qjc,Qb,simprocAttr,r3];cases aa with
  | false=>
   simp only[Qb,simprocAttr,ag,ZB];exact .mk (Lb _) ⟨by simp,rfl⟩
  | true=>
   have d4:IntKind.i64.wrap (8 * (i:Int))=8 * (i:Int):=w64 (by unfold I64;omega);simp only[Qb,simprocAttr,r2,ag,d4];refine(QgH _ _ _).w ?_;rintro _ H _ ai ⟨rfl,rfl⟩;simp only[Qb,simprocAttr,ZB];exact .mk (Lb _) ⟨by simp,rfl⟩
def Zk (a b:Int):Int:=IntKind.i64.wrap (BitVec.ofInt IntKind.i64.bits a &&& BitVec.ofInt IntKind.i64.bits b).toNat
def QeR (a:Int)(n:Nat):Int:=a.fdiv (2 ^ (min n 64))
def QHB (a:Int)(m:Nat)(ac:m<1000):0<=Zk a m∧Zk a m<=m:=by
 have aa:IntKind.i64.bits=64:=rfl;unfold Zk;rw[aa];have ab:(BitVec.ofInt 64 a &&& BitVec.ofInt 64 (m:Int)).toNat<=m:=by
  rw[FK];refine N8 Nat.and_le_right ?_;rw[B7];omega
 rw[w64 (by unfold I64;omega)];omega
def Xn (n:Int):Int×Int×Int:=(Zk (QeR n 6) 3,Zk (QeR n 3) 7,Zk n 7)
def QkY (n:Int)(H:Qa):Qe Pg 88 [.Z n] H λu H'=>u=.tuple #[.Z (Xn n).1,.Z (Xn n).2.1,.Z (Xn n).2.2]∧H'=H:=by
 refine Qsi λac=>?_;have ab:(0:Int)<=6:=by omega
 have aa:(0:Int)<=3:=by omega
 simp only[Qji,Qb,simprocAttr,ab,aa,Qqj];exact .mk (Lb _) ⟨rfl,rfl⟩
def Gc (aa:Int)(m:Mm):Int:=if(aa==1)=true then 1 else if(aa==2||!(m.b.c==5))=true then 4 else 0
def QtC (aa:Int)(m:Mm)(H:Qa):Qe Pg 90 [.Z aa,.agg m.cells.toArray] H λu H'=>u=.Z (Gc aa m)∧∃k,H'=H.up k:=by
 refine Qsj λac=>?_;have ab:Gc aa m=if(aa==1)=true then 1 else if(aa==2||!(m.b.c==5))=true then 4 else 0:=rfl
 rw[ab];clear ab;obtain⟨⟨ad,ae⟩,⟨ag,ah⟩,sc,d,sz⟩:=m;simp(disch:=(try simp only[hnP])<;>try omega) only[Mm.cells,Qjj,QF,simprocAttr]
 repeat' (first
   | (refine Qz (λh=>?_) (λh=>?_)<;>(try simp only[Lr,Lu]at h)<;>simp(disch:=(try simp only[hnP])<;>try omega) only[QF,simprocAttr,Qba,h])
   | (refine Qg (λh=>?_) (λh=>?_)<;>(try simp only[Lr,Lu]at h)<;>simp(disch:=(try simp only[hnP])<;>try omega) only[QF,simprocAttr,Qba,h])
   | fail)
 all_goals refine .ext ac ((Ext.refl H).push _) ⟨?_,_,rfl⟩
 all_goals simp_all
def pl8 (a b:Int):Int:=IntKind.i64.wrap (IntKind.i64.wrap (8 * a)+b)
def QE2 (hi aa x:Int):Mm×Int:=if(!(aa==4)||x==1)=true then({WX with i:=⟨5,pl8 x aa⟩,sc:=IntKind.i64.wrap (1 * 2 ^ (min hi.toNat 64))},0) else if(!(hi==0))=true then(WX,4) else(WX,0)
def QJR (m:Mm)(aa ab bb:Int):Mm×Int:=if(!(aa==5)||!(ab==0))=true then({m with b:=⟨5,pl8 bb aa⟩},0) else if(bb==1)=true then(WX,4) else(m,0)
def QtD (sib aa x bb:Int):Mm×Int:=if((QE2 (Xn sib).1 (Xn sib).2.1 x).2==0)=true then QJR (QE2 (Xn sib).1 (Xn sib).2.1 x).1 (Xn sib).2.2 aa bb else(WX,4)
def QoE (sib aa x bb:Int)(H:Qa):Qe Pg 89 [.Z sib,.Z aa,.Z x,.Z bb] H λu H'=>u=.tuple #[.agg (QtD sib aa x bb).1.cells.toArray,.Z (QtD sib aa x bb).2]∧∃k,H'=H.up k:=by
 refine Qnq λae=>?_;have q:=QkY sib;have ab:0<=(Xn sib).1:=(QHB _ 3 (by omega)).1;have ad:QtD sib aa x bb=if((QE2 (Xn sib).1 (Xn sib).2.1 x).2==0)=true then QJR (QE2 (Xn sib).1 (Xn sib).2.1 x).1 (Xn sib).2.2 aa bb else(WX,4):=rfl
 rw[ad];clear ad;generalize Xn sib=s at *;obtain⟨hi,aj,ag⟩:=s;simp only at ab q ⊢;have ac:IntKind.i64.bits=64:=rfl;simp(disch:=(try simp only[hnP])<;>try omega) only[Qev,QF,simprocAttr]
 refine(q _).w ?_;rintro _ _ ah ai ⟨rfl,rfl⟩;simp(disch:=(try simp only[hnP])<;>try omega) only[QbM,QbN,QbO,QbP,QF,simprocAttr]
 repeat' (first
   | (refine Qz (λh=>?_) (λh=>?_)<;>(try simp only[Lr,Lu]at h)<;>simp(disch:=(try simp only[hnP])<;>try omega) only[QF,simprocAttr,Zj,h,ab,ac])
   | (refine Qg (λh=>?_) (λh=>?_)<;>(try simp only[Lr,Lu]at h)<;>simp(disch:=(try simp only[hnP])<;>try omega) only[QF,simprocAttr,Zj,h,ab,ac])
   | fail)
 all_goals refine .ext ae ?_ ⟨?_,_,rfl⟩
 all_goals try (repeat' (first | exact Ext.refl _ | refine Ext.push ?_ _ | refine Ext.up ?_ (by simp only[Qd,Qo,Qw];omega) | refine Ext.set ?_ (by omega) _))
 all_goals (simp_all [QE2,QJR,Mm.cells,WX,pl8])
structure Sn where
 fld:Int
 reg:Int
 m:Mm
 ends:Int
def Sn.cells (s:Sn):List Value:=[.Z s.fld,.Z s.reg,.Z s.m.b.c,.Z s.m.b.n,.Z s.m.i.c,.Z s.m.i.n,.Z s.m.sc,.Z s.m.d,.Z s.m.sz,.Z s.ends]
def Jx:Sn:=⟨0,0,WX,0⟩
def Qsl (mid p:Int)(m:Mm):Sn×Int:=if((Qat m).2==0)=true then(⟨mid,-1,(Qat m).1,p⟩,0) else(Jx,4)
def QeS (bs:List Int)(p aa mid:Int)(m:Mm):Sn×Int:=
 if(Gc aa m==0)=true then Qsl mid p m
 else if((XM bs p (Gc aa m) true).2==0)=true then Qsl mid (IntKind.i64.wrap (p+Gc aa m)) {m with d:=(XM bs p (Gc aa m) true).1} else(Jx,(XM bs p (Gc aa m) true).2)
def Qx7 (bs:List Int)(p aa mid x bb:Int):Sn×Int:=
 if((XM bs p 1 false).2==0)=true then
  (if((QtD (XM bs p 1 false).1 aa x bb).2==0)=true then QeS bs (IntKind.i64.wrap (p+1)) aa mid (QtD (XM bs p 1 false).1 aa x bb).1 else(Jx,(QtD (XM bs p 1 false).1 aa x bb).2))
 else(Jx,(XM bs p 1 false).2)
def Qsm (bs:List Int)(p aa mid ab x bb:Int):Sn×Int:=
 if(x==1&&(aa==3||!(ab==4)))=true then(Jx,4)
 else if(aa==3)=true then(⟨mid,pl8 bb ab,WX,p⟩,0)
 else if(ab==4)=true then Qx7 bs p aa mid x bb
 else if(aa==0&&ab==5)=true then(if(bb==1)=true then(Jx,4) else QeS bs p aa mid {WX with b:=⟨8,0⟩})
 else QeS bs p aa mid {WX with b:=⟨5,pl8 bb ab⟩}
def rdF (bs:List Int)(p x bb:Int):Sn×Int:=
 if(decide (p<0)||decide ((bs.length:Int)<p)||decide (x<0)||decide (1<x)||decide (bb<0)||decide (1<bb))=true then(Jx,5)
 else if((XM bs p 1 false).2==0)=true then Qsm bs (IntKind.i64.wrap (p+1)) (Xn (XM bs p 1 false).1).1 (Xn (XM bs p 1 false).1).2.1 (Xn (XM bs p 1 false).1).2.2 x bb
 else(Jx,(XM bs p 1 false).2)
def Zl (a b:PC)(ks:Kp)(k:Env->Qa->Prop):Qk Pg (.seq a b) ks k=Qk Pg a ks (Qk Pg b ks k):=by funext A H;exact Gj a b ks k A H
section
variable (H:Qa) (r:Sn×Int)
abbrev QAt:Value->Qa->Prop:=λu H'=>u=.tuple #[.agg r.1.cells.toArray,.Z r.2]∧∃k,H'=H.up k
abbrev KRd:Env->Qa->Prop:=Rt Pg Tryz.f57 H (QAt H r)
structure RdF (M:Nat) (m:Mm) (mid p:Int) (A:Env) (H':Qa):Prop where
 hx:Ext H H'
 r1:A 1=.Z p
 r8:A 8=.P H.y
 r13:A 13=.Z mid
 r15:A 15=.P M
 gS:H'.get H.y=some (.C [.Z 0,.Z 0,.Z 0,.Z 0,.Z 0,.Z 0,.Z 0,.Z 0,.Z 0,.Z 0] 72)
 gM:H'.get M=some (.C m.cells 70)
 ne:¬H.y=M
 lo:H.y<=M
 hi:M<H'.y
def QJS (ad:H.Wf)(M:Nat)(m:Mm)(mid p:Int)(A:Env)(H':Qa)(e:Nat->Env->Qa->Prop)(k:Env->Qa->Prop)(f:RdF H M m mid p A H')(ab:r=Qsl mid p m):Qk Pg Zq ⟨KRd H r,e⟩ k A H':=by
 obtain⟨hx,r1,r8,r13,r15,gS,gM,ne,lo,hi⟩:=f;have q:=QiF m;have ac:r=if((Qat m).2==0)=true then(⟨mid,-1,(Qat m).1,p⟩,0) else(Jx,4):=ab
 rw[ac];clear ab ac;generalize Qat m=c at *;obtain⟨c,ag⟩:=c;have ak:=hx.y;have av:¬M=H.y:=λh=>ne h.symm;obtain⟨⟨ah,ai⟩,⟨al,ax⟩,sc,d,sz⟩:=c;obtain⟨⟨am,an⟩,⟨ap,aq⟩,ar,ao,au⟩:=m;simp only[Mm.cells]at q gM;simp only[Zq,Qb,simprocAttr,r15,gM];refine(q _).w ?_;rintro _ _ aa aj ⟨rfl,k2,rfl⟩;simp only[Qw]at aa;have ae:=hx.up aa;simp only[Qb,simprocAttr,r15,gM];cases ay:ag==0
 all_goals simp only[Qb,simprocAttr,r1,r8,r13,r15,gS,ne,Wo]
 ·refine .ext ad ((ae.set lo _).set (Lb _) _) ⟨?_,_,rfl⟩;simp[Sn.cells,Jx,WX]
 refine .ext ad ((ae.set lo _).set (Lb _) _) ⟨?_,_,rfl⟩;simp[Sn.cells]
def QBx (ad:H.Wf)(v:Value)(bs:List Int)(aA:Qh3 H v bs)(aB:bs.length<=1000000)(M:Nat)(m:Mm)(aa mid p:Int)(aC:I64 p)(A:Env)(H':Qa)(e:Nat->Env->Qa->Prop)(k:Env->Qa->Prop)(r0:A 0=v)(aE:A 12=.Z aa)(f:RdF H M m mid p A H')(aq:r=QeS bs p aa mid m):Qk Pg Zr ⟨KRd H r,e⟩ k A H':=by
 have al:=λm p A H'=>QJS H r ad M m mid p A H' e k;obtain⟨hx,r1,r8,r13,r15,gS,gM,ne,lo,hi⟩:=f;have ax:=QtC aa m;have aD:=λH' (hx:Ext H H') sz=>Qew v bs p sz true H' (aA.ext ad hx) aB aC;have ab:r=if(Gc aa m==0)=true then Qsl mid p m
  else if((XM bs p (Gc aa m) true).2==0)=true then Qsl mid (IntKind.i64.wrap (p+Gc aa m)) {m with d:=(XM bs p (Gc aa m) true).1} else(Jx,(XM bs p (Gc aa m) true).2):=aq
 clear aq;generalize Gc aa m=wd at *;have aI:¬M=H.y:=λh=>ne h.symm;obtain⟨⟨ae,ag⟩,⟨ah,ai⟩,aj,ar,ak⟩:=m;simp only[Mm.cells]at ax gM;have e1:Zr=.seq (.seq (.ops [⟨some 129,.mv (t 12),none,false⟩,⟨some 130,.ld true 7 (t 15),none,false⟩,⟨some 131,.call 90 [(t 129),(t 130)],none,false⟩,⟨some 18,.mv (t 131),none,false⟩]) (.seq (.ops [⟨some 132,.mv (t 18),none,false⟩,⟨some 133,.bin .neq (t 132) (.const (.Z 0)),none,false⟩]) (.cond (t 133) Qa6 .skip))) Zq:=rfl;rw[e1,Gj];generalize an:Qk Pg Zq ⟨KRd H r,e⟩ k=T;simp only[Qb,simprocAttr,aE,r15,gM];refine(ax _).w ?_;rintro _ _ ap aG ⟨rfl,k2,rfl⟩;simp only[Qw]at ap;have ac:=hx.up ap;have ao:M<(H'.up k2).y:=by simp only[Qw];omega
 simp only[Qb,simprocAttr];cases au:wd==0 with
 | true=>
  rw[Lc au]at ab;simp only[Qb,simprocAttr];rw[<- an];refine al ⟨⟨ae,ag⟩,⟨ah,ai⟩,aj,ar,ak⟩ p _ _ ⟨ac,by simp only[Qf,simprocAttr,r1],by simp only[Qf,simprocAttr,r8],by simp only[Qf,simprocAttr,r13],by simp only[Qf,simprocAttr,r15],by rw[Xo];exact gS,by rw[Xo];exact gM,ne,lo,ao⟩ ab
 | false=>
  rw[Le (by rw[au];decide)]at ab;simp only[Qa6,Qb,simprocAttr,r0,r1];refine(aD _ ac wd).w ?_;rintro _ H3 aF aH ⟨rfl,rfl⟩;generalize XM bs p wd true=g at *;obtain⟨g,az⟩:=g;simp only at ab;have ay:(H'.up k2).get M=some (.C [.Z ae,.Z ag,.Z ah,.Z ai,.Z aj,.Z ar,.Z ak] 70):=by rw[Xo];exact gM
  have am:(H'.up k2).get H.y=_:=(Xo _ _ _).trans gS;generalize H'.up k2=H3 at *;simp only[Qb,simprocAttr,r15,ay];cases av:az==0 with
  | true=>
   rw[Lc av]at ab;simp only[Qb,simprocAttr,r1];rw[<- an];refine al ⟨⟨ae,ag⟩,⟨ah,ai⟩,aj,g,ak⟩ _ _ _ ⟨ac.set lo _,by simp only[Qf,simprocAttr],by simp only[Qf,simprocAttr,r8],by simp only[Qf,simprocAttr,r13],by simp only[Qf,simprocAttr,r15],by rw[Qh,Le ne];exact am,by rw[Qh,Lc rfl];rfl,ne,lo,ao⟩ ab
  | false=>
   rw[Le (by rw[av];decide)]at ab;simp only[Qb,simprocAttr,r8,am,ne,Wo];refine .ext ad ((ac.set lo _).set (Lb _) _) ⟨?_,_,rfl⟩;rw[ab];simp[Sn.cells,Jx,WX]
def Qsn (n:Int):I64 (IntKind.i64.wrap n):=by
 rw[NU];unfold I64;omega
abbrev z10:List Value:=[.Z 0,.Z 0,.Z 0,.Z 0,.Z 0,.Z 0,.Z 0,.Z 0,.Z 0,.Z 0]
def QoF (ab:H.Wf){H':Qa}(hx:Ext H H')(b:Blk){x:Int}(aa:r=(Jx,x)):Ret H (QAt H r) (.tuple #[.agg #[.Z 0,.Z 0,.Z 0,.Z 0,.Z 0,.Z 0,.Z 0,.Z 0,.Z 0,.Z 0],.Z x]) (H'.set H.y b):=by
 refine .ext ab (hx.set (Lb _) _) ⟨?_,_,rfl⟩;rw[aa];simp[Sn.cells,Jx,WX]
def QJT (ac:H.Wf)(v:Value)(bs:List Int)(ap:Qh3 H v bs)(ar:bs.length<=1000000)(M:Nat)(aa mid p x bb:Int)(au:I64 p)(A:Env)(H':Qa)(e:Nat->Env->Qa->Prop)(k:Env->Qa->Prop)
  (r0:A 0=v) (r2:A 2=.Z x) (r3:A 3=.Z bb) (al:A 12=.Z aa) (f:RdF H M WX mid p A H') (ag:r=Qx7 bs p aa mid x bb)
  (ao:∀ (m:Mm) (p:Int) (A2:Env) (H2:Qa),I64 p->A2 0=v->A2 12=.Z aa->RdF H M m mid p A2 H2->r=QeS bs p aa mid m->k A2 H2):Qk Pg Qa7 ⟨KRd H r,e⟩ k A H':=by
 obtain⟨hx,r1,r8,r13,r15,gS,gM,ne,lo,hi⟩:=f;have av:=Qew v bs p 1 false H' (ap.ext ac hx) ar au;have ab:r=if((XM bs p 1 false).2==0)=true then
   (if((QtD (XM bs p 1 false).1 aa x bb).2==0)=true then QeS bs (IntKind.i64.wrap (p+1)) aa mid (QtD (XM bs p 1 false).1 aa x bb).1 else(Jx,(QtD (XM bs p 1 false).1 aa x bb).2))
  else(Jx,(XM bs p 1 false).2):=ag
 clear ag;simp only[Qa7,Qb,simprocAttr,r0,r1];refine av.w ?_;rintro _ H' aF aG ⟨rfl,rfl⟩;generalize XM bs p 1 false=g at *;obtain⟨g,an⟩:=g;simp only at ab;simp only[Qb,simprocAttr];cases ai:an==0 with
 | false=>
  rw[Le (by rw[ai];decide)]at ab;simp only[Qb,simprocAttr,r8,gS,Wo];exact QoF H r ac hx _ ab
 | true=>
  rw[Lc ai]at ab;have ak:=λH=>QoE g aa x bb H;generalize QtD g aa x bb=s at *;obtain⟨s,aA⟩:=s;simp only at ab;obtain⟨⟨ax,ay⟩,⟨aB,aC⟩,aD,az,aE⟩:=s;simp only[Mm.cells,WX]at ak gM;simp only[QhB,Qb,simprocAttr,r1,r2,r3,al];refine(ak _).w ?_;rintro _ _ ae aH ⟨rfl,k3,rfl⟩;simp only[Qw]at ae;have ah:=hx.up ae;have am:(H'.up k3).get M=_:=(Xo _ _ _).trans gM;have ad:(H'.up k3).get H.y=_:=(Xo _ _ _).trans gS;have aq:M<(H'.up k3).y:=by simp only[Qw];omega
  generalize H'.up k3=H3 at *;simp only[Qb,simprocAttr,r15,am];cases aj:aA==0 with
  | false=>
   rw[Le (by rw[aj];decide)]at ab;simp only[Qb,simprocAttr,r8,ad,ne,Wo];exact QoF H r ac (ah.set lo _) _ ab
  | true=>
   rw[Lc aj]at ab;simp only[Qb,simprocAttr];refine ao ⟨⟨ax,ay⟩,⟨aB,aC⟩,aD,az,aE⟩ _ _ _ (Qsn _) (by simp only[Qf,simprocAttr,r0]) (by simp only[Qf,simprocAttr,al]) ⟨ah.set lo _,by simp only[Qf,simprocAttr],by simp only[Qf,simprocAttr,r8],by simp only[Qf,simprocAttr,r13],by simp only[Qf,simprocAttr,r15],by rw[Qh,Le ne];exact ad,by rw[Qh,Lc rfl];rfl,ne,lo,aq⟩ ab
def QHC (ai:H.Wf)(v:Value)(bs:List Int)(ap:Qh3 H v bs)(ar:bs.length<=1000000)(h p x bb:Int)(an:I64 p)(A:Env)(H':Qa)(e:Nat->Env->Qa->Prop)(k:Env->Qa->Prop)
  (r0:A 0=v) (r1:A 1=.Z p) (r2:A 2=.Z x) (r3:A 3=.Z bb) (r8:A 8=.P H.y) (aO:A 10=.Z h) (hx:Ext H H') (aM:H'.y=H.y+1) (gS:H'.get H.y=some (.C z10 72))
  (ad:r=Qsm bs (IntKind.i64.wrap (p+1)) (Xn h).1 (Xn h).2.1 (Xn h).2.2 x bb):Qk Pg Qah ⟨KRd H r,e⟩ k A H':=by
 have q:=QkY h H';generalize Xn h=s at *;obtain⟨aa,mid,ac⟩:=s;simp only at q ad;have ab:r=if(x==1&&(aa==3||!(ac==4)))=true then(Jx,4)
  else if(aa==3)=true then(⟨mid,pl8 bb ac,WX,IntKind.i64.wrap (p+1)⟩,0)
  else if(ac==4)=true then Qx7 bs (IntKind.i64.wrap (p+1)) aa mid x bb
  else if(aa==0&&ac==5)=true then(if(bb==1)=true then(Jx,4) else QeS bs (IntKind.i64.wrap (p+1)) aa mid {WX with b:=⟨8,0⟩})
  else QeS bs (IntKind.i64.wrap (p+1)) aa mid {WX with b:=⟨5,pl8 bb ac⟩}:=ad
 clear ad;have ay:=Qsn (p+1);generalize aN:IntKind.i64.wrap (p+1)=p1 at *;have ax:=λm A2 H2 (ae:A2 0=v) ag ah ad=>QBx H r ai v bs ap ar (H.y+1) m aa mid p1 ay A2 H2 e k ae ag ah ad;have aI:=λA2 H2 e2 k2 (ae:A2 0=v) ha2 ha3 ag ah ad ak=>QJT H r ai v bs ap ar (H.y+1) aa mid p1 x bb ay A2 H2 e2 k2 ae ha2 ha3 ag ah ad ak;have aJ:=λm p A2 H2 an (ae:A2 0=v) ag ah ad=>QBx H r ai v bs ap ar (H.y+1) m aa mid p an A2 H2 e k ae ag ah ad;have aH:Qa9=.seq (.ops [⟨some 73,.build [.Z 0,.Z 0,.Z 0,.Z 0,.Z 0,.Z 0,.Z 0] [],none,false⟩,⟨some 15,.alloc 70 [.Z 0,.Z 0,.Z 0,.Z 0,.Z 0,.Z 0,.Z 0],none,false⟩,⟨none,.st 7 (t 15) (t 73),none,false⟩]) (.seq (.block 0 (.seq (.ops [⟨some 81,.mv (t 12),none,false⟩,⟨some 82,.bin .eql (t 81) (.const (.Z 3)),none,false⟩,⟨some 80,.mv (t 82),none,false⟩]) (.cond (t 80) (.seq (.ops [⟨some 83,.mv (t 13),none,false⟩,⟨some 84,.mv (t 3),none,false⟩,⟨some 85,.bin .mul (.const (.Z 8)) (t 84),none,false⟩,⟨some 86,.mv (t 14),none,false⟩,⟨some 87,.bin .add (t 85) (t 86),none,false⟩,⟨some 88,.mv (t 1),none,false⟩,⟨some 89,.build [.Z 0,.Z 0,.Z 0,.Z 0,.Z 0,.Z 0,.Z 0,.Z 0,.Z 0,.Z 0] [(0,1,(t 83)),(1,1,(t 87)),(9,1,(t 88))],none,false⟩,⟨none,.st 10 (t 8) (t 89),none,false⟩,⟨some 9,.mv (.const (.Z 0)),none,false⟩]) .ret) Qa8))) Zr):=rfl;have ne:¬H.y=H.y+1:=by omega
 have aQ:¬H.y+1=H.y:=by omega
 simp only[Qah,Qb,simprocAttr,r1,aO,aN];refine q.w ?_;rintro _ H' _ aP ⟨rfl,rfl⟩;simp only[Qb,simprocAttr,r2];have go:∀A2:Env,A2 0=v->A2 1=.Z p1->A2 2=.Z x->A2 3=.Z bb->A2 8=.P H.y->A2 12=.Z aa->A2 13=.Z mid->A2 14=.Z ac->(x==1&&(aa==3||!(ac==4)))=false->Qk Pg Qa9 ⟨KRd H r,e⟩ k A2 H':=by
  intro A2 a0 a1 a2 a3 a8 a12 a13 a14 aL;rw[Le (by rw[aL];decide)]at ab;rw[aH,Zl,Zl];generalize ak:Qk Pg Zr ⟨KRd H r,e⟩ k=T;simp only[Qb,simprocAttr,aM,a12];have al:Ext H ((H'.push (.C [.Z 0,.Z 0,.Z 0,.Z 0,.Z 0,.Z 0,.Z 0] 70)).set (H.y+1) (.C [.Z 0,.Z 0,.Z 0,.Z 0,.Z 0,.Z 0,.Z 0] 70)):=(hx.push _).set (by omega) _;have aj:((H'.push (.C [.Z 0,.Z 0,.Z 0,.Z 0,.Z 0,.Z 0,.Z 0] 70)).set (H.y+1) (.C [.Z 0,.Z 0,.Z 0,.Z 0,.Z 0,.Z 0,.Z 0] 70)).get H.y=some (.C z10 72):=by rw[Qh,Le ne,Qc,Le (by omega)];exact gS
  have am:((H'.push (.C [.Z 0,.Z 0,.Z 0,.Z 0,.Z 0,.Z 0,.Z 0] 70)).set (H.y+1) (.C [.Z 0,.Z 0,.Z 0,.Z 0,.Z 0,.Z 0,.Z 0] 70)).get (H.y+1)=some (.C [.Z 0,.Z 0,.Z 0,.Z 0,.Z 0,.Z 0,.Z 0] 70):=by rw[Qh,Lc rfl]
  have aq:H.y+1<((H'.push (.C [.Z 0,.Z 0,.Z 0,.Z 0,.Z 0,.Z 0,.Z 0] 70)).set (H.y+1) (.C [.Z 0,.Z 0,.Z 0,.Z 0,.Z 0,.Z 0,.Z 0] 70)).y:=by simp only[Qo,Qd];omega
  generalize (H'.push (.C [.Z 0,.Z 0,.Z 0,.Z 0,.Z 0,.Z 0,.Z 0] 70)).set (H.y+1) (.C [.Z 0,.Z 0,.Z 0,.Z 0,.Z 0,.Z 0,.Z 0] 70)=H2 at *;cases aA:aa==3 with
  | true=>
   rw[Lc aA]at ab;simp only[Qb,simprocAttr,a1,a3,a8,a13,a14,aj,Wo];refine .ext ai (al.set (Lb _) _) ⟨?_,_,rfl⟩;rw[ab];simp[Sn.cells,WX,pl8]
  | false=>
   rw[Le (by rw[aA];decide)]at ab;simp only[Qa8,Qb,simprocAttr,a14];cases aB:ac==4 with
   | true=>
    rw[Lc aB]at ab;simp only[Qb,simprocAttr];refine aI _ H2 _ _ (by simp only[Qf,simprocAttr,a0]) (by simp only[Qf,simprocAttr,a2]) (by simp only[Qf,simprocAttr,a3]) (by simp only[Qf,simprocAttr,a12]) ⟨al,by simp only[Qf,simprocAttr,a1],by simp only[Qf,simprocAttr,a8],by simp only[Qf,simprocAttr,a13],by simp only[Qf,simprocAttr],aj,am,ne,by omega,aq⟩ ab (λm p A3 H3 an ae ag ah ad=>?_);rw[<- ak];exact aJ m p A3 H3 an ae ag ah ad
   | false=>
    rw[Le (by rw[aB];decide)]at ab;simp only[QhD,Qb,simprocAttr,a12]
    by_cases ao:(aa==0&&ac==5)=true
    ·rw[Lc ao]at ab;obtain⟨au,av⟩:(aa==0)=true∧(ac==5)=true:=by simpa using ao
     simp only[au,av,QhC,Qb,simprocAttr,a3,a14];cases aC:bb==1 with
     | true=>
      rw[Lc aC]at ab;simp only[Qb,simprocAttr,a8,aj,Wo];exact QoF H r ai al _ ab
     | false=>
      rw[Le (by rw[aC];decide)]at ab;simp only[Qb,simprocAttr,am];rw[<- ak];refine ax _ _ _ (by simp only[Qf,simprocAttr,a0]) (by simp only[Qf,simprocAttr,a12]) ⟨al.set (by omega) _,by simp only[Qf,simprocAttr,a1],by simp only[Qf,simprocAttr,a8],by simp only[Qf,simprocAttr,a13],by simp only[Qf,simprocAttr],by rw[Qh,Le ne];exact aj,by rw[Qh,Lc rfl];rfl,ne,by omega,aq⟩ ab
    rw[Le ao]at ab;have az:∀A3:Env,A3 0=v->A3 1=.Z p1->A3 8=.P H.y->A3 12=.Z aa->A3 13=.Z mid->A3 15=.P (H.y+1)->T A3 (H2.set (H.y+1) (.C [.Z 5,.Z (pl8 bb ac),.Z 0,.Z 0,.Z 0,.Z 0,.Z 0] 70)):=λA3 b0 b1 aG aD aE aF=>by
     rw[<- ak];exact ax _ _ _ b0 aD ⟨al.set (by omega) _,b1,aG,aE,aF,by rw[Qh,Le ne];exact aj,by rw[Qh,Lc rfl];rfl,ne,by omega,aq⟩ ab
    cases au:aa==0 with
    | false=>
     simp only[Qb,simprocAttr,a3,a14,am];exact az _ (by simp only[Qf,simprocAttr,a0]) (by simp only[Qf,simprocAttr,a1]) (by simp only[Qf,simprocAttr,a8]) (by simp only[Qf,simprocAttr,a12]) (by simp only[Qf,simprocAttr,a13]) (by simp only[Qf,simprocAttr])
    | true=>
     have av:(ac==5)=false:=by simpa[au] using ao
     simp only[av,Qb,simprocAttr,a3,a14,am];exact az _ (by simp only[Qf,simprocAttr,a0]) (by simp only[Qf,simprocAttr,a1]) (by simp only[Qf,simprocAttr,a8]) (by simp only[Qf,simprocAttr,a12]) (by simp only[Qf,simprocAttr,a13]) (by simp only[Qf,simprocAttr])
 have aK:(x==1&&(aa==3||!(ac==4)))=true->r=(Jx,4):=λh=>by rw[Lc h]at ab;exact ab
 repeat' (first
  | (refine Qz (λh=>?_) (λh=>?_)<;>(try simp only[Lr,Lu]at h)<;>simp only[Qb,simprocAttr,h,r8,gS,Wo])
  | (refine Qg (λh=>?_) (λh=>?_)<;>(try simp only[Lr,Lu]at h)<;>simp only[Qb,simprocAttr,h,r8,gS,Wo])
  | fail)
 all_goals first
  | (refine go _ (by simp only[Qf,simprocAttr,r0]) (by simp only[Qf,simprocAttr]) (by simp only[Qf,simprocAttr,r2]) (by simp only[Qf,simprocAttr,r3]) (by simp only[Qf,simprocAttr,r8]) (by simp only[Qf,simprocAttr]) (by simp only[Qf,simprocAttr]) (by simp only[Qf,simprocAttr]) (by simp_all);done)
  | (refine QoF H r ai hx _ (aK (by simp_all));done)
def Qv1 (v:Value)(bs:List Int)(ad:Qh3 H v bs)(ah:bs.length<=1000000)(p x bb:Int)(ai:I64 p):Qe Pg 57 [v,.Z p,.Z x,.Z bb] H (QAt H (rdF bs p x bb)):=by
 refine QtA λab=>?_;obtain⟨r,ag⟩:∃r,r=rdF bs p x bb:=⟨_,rfl⟩;rw[<- ag];have aa:r=if(decide (p<0)||decide ((bs.length:Int)<p)||decide (x<0)||decide (1<x)||decide (bb<0)||decide (1<bb))=true then(Jx,5)
  else if((XM bs p 1 false).2==0)=true then Qsm bs (IntKind.i64.wrap (p+1)) (Xn (XM bs p 1 false).1).1 (Xn (XM bs p 1 false).1).2.1 (Xn (XM bs p 1 false).1).2.2 x bb
  else(Jx,(XM bs p 1 false).2):=ag
 clear ag;obtain⟨a,cap,rfl,_⟩:=id ad;have ac:Ext H (H.push (.C z10 72)):=(Ext.refl H).push _;have gS:(H.push (.C z10 72)).get H.y=some (.C z10 72):=by rw[Qc,Lc rfl]
 have am:(H.push (.C z10 72)).y=H.y+1:=rfl;simp only[QkI,Qb,simprocAttr];generalize H.push (.C z10 72)=H0 at *;have go:∀A:Env,A 0=.slice a bs.length cap->A 1=.Z p->A 2=.Z x->A 3=.Z bb->A 8=.P H.y->(decide (p<0)||decide ((bs.length:Int)<p)||decide (x<0)||decide (1<x)||decide (bb<0)||decide (1<bb))=false->Qk Pg Qai ⟨KRd H r,Xi⟩ (KRd H r) A H0:=by
  intro A a0 a1 a2 a3 a8 al;rw[Le (by rw[al];decide)]at aa;have an:=Qew _ bs p 1 false H0 (ad.ext ab ac) ah ai;simp only[Qai,Qb,simprocAttr,a0,a1];refine an.w ?_;rintro _ H1 _ ao ⟨rfl,rfl⟩;generalize XM bs p 1 false=g at *;obtain⟨g,ak⟩:=g;simp only at aa;simp only[Qb,simprocAttr];cases aj:ak==0 with
  | false=>
   rw[Le (by rw[aj];decide)]at aa;simp only[Qb,simprocAttr,a8,gS,Wo];exact QoF H r ab ac _ aa
  | true=>
   rw[Lc aj]at aa;simp only[Qb,simprocAttr];exact QHC H r ab _ bs ad ah g p x bb ai _ _ _ _ (by simp only[Qf,simprocAttr,a0]) (by simp only[Qf,simprocAttr,a1]) (by simp only[Qf,simprocAttr,a2]) (by simp only[Qf,simprocAttr,a3]) (by simp only[Qf,simprocAttr,a8]) (by simp only[Qf,simprocAttr]) ac am gS aa
 have ae:(decide (p<0)||decide ((bs.length:Int)<p)||decide (x<0)||decide (1<x)||decide (bb<0)||decide (1<bb))=true->r=(Jx,5):=λh=>by rw[Lc h]at aa;exact aa
 clear aa
 repeat' (first
  | (refine Qz (λh=>?_) (λh=>?_)<;>(try simp only[Lr,Lu]at h)<;>simp only[Qb,simprocAttr,h,gS,Wo])
  | (refine Qg (λh=>?_) (λh=>?_)<;>(try simp only[Lr,Lu]at h)<;>simp only[Qb,simprocAttr,h,gS,Wo])
  | fail)
 all_goals first
  | (refine go _ (by simp only[Qf,simprocAttr]) (by simp only[Qf,simprocAttr]) (by simp only[Qf,simprocAttr]) (by simp only[Qf,simprocAttr]) (by simp only[Qf,simprocAttr]) (by clear go ae;simp_all);done)
  | (refine QoF H r ab ac _ (ae (by clear go ae;simp_all));done)
end
def ppF (n:Int):Int:=if n=1 then 1 else if n=2 then 4 else if n=3 then 2 else 0
def Qnr (n:Int)(H:Qa):Qe Pg 116 [.Z n] H λu H'=>u=.Z (ppF n)∧H'=H:=by
 refine QtB λaa=>?_;simp(disch:=(try simp only[hnP])<;>try omega) only[QkO,QF,simprocAttr]
 repeat' (first
   | (refine Qg (λh=>?_) (λh=>?_)<;>(try simp only[Lr,Lu]at h)<;>simp(disch:=(try simp only[hnP])<;>try omega) only[QF,simprocAttr,Qjk,h])
   | fail)
 all_goals refine .mk (Lb _) ⟨?_,rfl⟩
 all_goals (simp only[ppF];simp_all)
def Qbb (a b:Int):Int:=IntKind.i64.wrap (BitVec.ofInt IntKind.i64.bits a ^^^ BitVec.ofInt IntKind.i64.bits b).toNat
structure Vd where
 r:Int
 x:Int
 b:Int
 map:Int
 w:Int
 v:Int
 l:Int
 pre:Int
def Vd.cells (v:Vd):List Value:=[.Z v.r,.Z v.x,.Z v.b,.Z v.map,.Z v.w,.Z v.v,.Z v.l,.Z v.pre]
def Vv:Vd:=⟨0,0,0,0,0,0,0,0⟩
def vx2 (b1:Int):Vd:=⟨QeR (Qbb (IntKind.i64.wrap b1) 248) 7,0,0,1,0,Zk (QeR (Qbb (IntKind.i64.wrap b1) 248) 3) 15,Zk (QeR (Qbb (IntKind.i64.wrap b1) 248) 2) 1,ppF (Zk (Qbb (IntKind.i64.wrap b1) 248) 3)⟩
def vx3 (b1 aa:Int):Vd:=⟨QeR (Qbb (IntKind.i64.wrap b1) 224) 7,Zk (QeR (Qbb (IntKind.i64.wrap b1) 224) 6) 1,Zk (QeR (Qbb (IntKind.i64.wrap b1) 224) 5) 1,Zk (Qbb (IntKind.i64.wrap b1) 224) 31,QeR (Qbb (IntKind.i64.wrap aa) 120) 7,Zk (QeR (Qbb (IntKind.i64.wrap aa) 120) 3) 15,Zk (QeR (Qbb (IntKind.i64.wrap aa) 120) 2) 1,ppF (Zk (Qbb (IntKind.i64.wrap aa) 120) 3)⟩
def YF (bs:List Int):Vd×Int×Int:=
 if bs.length=0 then(Vv,0,9)
 else if(bs.getD 0 0==197)=true then(if bs.length<2 then(Vv,0,9) else(vx2 (bs.getD 1 0),2,0))
 else if(bs.getD 0 0==196)=false then(Vv,0,4)
 else if bs.length<2 then(Vv,0,9)
 else if(decide (Zk (Qbb (IntKind.i64.wrap (bs.getD 1 0)) 224) 31<1)||decide (3<Zk (Qbb (IntKind.i64.wrap (bs.getD 1 0)) 224) 31))=true then(Vv,0,4)
 else if bs.length<3 then(Vv,0,9) else(vx3 (bs.getD 1 0) (bs.getD 2 0),3,0)
def QAu (v:Value)(bs:List Int)(H:Qa)(am:Qh3 H v bs)(aK:bs.length<=1000000):Qe Pg 85 [v] H λu H'=>u=.tuple #[.agg (YF bs).1.cells.toArray,.Z (YF bs).2.1,.Z (YF bs).2.2]∧∃k,H'=H.up k:=by
 refine Qx4 λap=>?_;obtain⟨a,cap,rfl,am⟩:=am;have aq:Ext H (H.push (.C Vv.cells 154)):=(Ext.refl H).push _;have gV:(H.push (.C Vv.cells 154)).get H.y=some (.C Vv.cells 154):=by rw[Qc,Lc rfl]
 have aG:Vv.cells=[.Z 0,.Z 0,.Z 0,.Z 0,.Z 0,.Z 0,.Z 0,.Z 0]:=rfl;rw[aG]at aq gV;have aL:=fun(b:Nat) c e ro (h:H.get b=some (.cells c e ro))=>ap.lt h;obtain⟨r,ao⟩:∃r,r=YF bs:=⟨_,rfl⟩;rw[<- ao];have aa:r=if bs.length=0 then(Vv,0,9)
  else if(bs.getD 0 0==197)=true then(if bs.length<2 then(Vv,0,9) else(vx2 (bs.getD 1 0),2,0))
  else if(bs.getD 0 0==196)=false then(Vv,0,4)
  else if bs.length<2 then(Vv,0,9)
  else if(decide (Zk (Qbb (IntKind.i64.wrap (bs.getD 1 0)) 224) 31<1)||decide (3<Zk (Qbb (IntKind.i64.wrap (bs.getD 1 0)) 224) 31))=true then(Vv,0,4)
  else if bs.length<3 then(Vv,0,9) else(vx3 (bs.getD 1 0) (bs.getD 2 0),3,0):=ao
 clear ao;have ai:∀ (v:Vd) (n x:Int) (H1:Qa),Ext H H1->r=(v,n,x)->Ret H (λu H'=>u=.tuple #[.agg r.1.cells.toArray,.Z r.2.1,.Z r.2.2]∧∃k,H'=H.up k) (.tuple #[.agg v.cells.toArray,.Z n,.Z x]) H1:=λv n x H1 ak al=>.ext ap ak ⟨by rw[al],_,rfl⟩;have ab:∀b,Ext H ((H.push (.C [.Z 0,.Z 0,.Z 0,.Z 0,.Z 0,.Z 0,.Z 0,.Z 0] 154)).set H.y b):=λb=>aq.set (Lb _) b;simp only[QpL,Qb,simprocAttr];generalize H.push (.C [.Z 0,.Z 0,.Z 0,.Z 0,.Z 0,.Z 0,.Z 0,.Z 0] 154)=H0 at *;have ad:∀ (x:Int) (H1:Qa),Ext H H1->r=(Vv,0,x)->Ret H (λu H'=>u=.tuple #[.agg r.1.cells.toArray,.Z r.2.1,.Z r.2.2]∧∃k,H'=H.up k) (.tuple #[.agg #[.Z 0,.Z 0,.Z 0,.Z 0,.Z 0,.Z 0,.Z 0,.Z 0],.Z 0,.Z x]) H1:=λx H1 ak al=>ai Vv 0 x H1 ak al
 by_cases au:bs.length=0
 ·rw[Lc au]at aa;have e0:((bs.length:Int)==0)=true:=by simp[au]
  simp only[e0,Qb,simprocAttr,gV,Xx];exact ad _ _ (ab _) aa
 rw[Le au]at aa;have e0:((bs.length:Int)==0)=false:=LC.2 (by omega);obtain⟨b,o,e,ro,cs,rfl,av,ah⟩:=am (by omega);have ae:H0.get b=some (.cells cs e ro):=(aq.get b (ap.lt av)).trans av;have c0:(0:Int)<=0∧(0:Int)<bs.length:=by omega
 have t0:(0:Int).toNat=0:=rfl;have t1:(1:Int).toNat=1:=rfl;have t2:(2:Int).toNat=2:=rfl;have aj:=ah 0 (by omega);simp only[N9]at aj;have aB:(0:Int)<=7:=by omega
 have aJ:(0:Int)<=6:=by omega
 have aI:(0:Int)<=5:=by omega
 have aA:(0:Int)<=3:=by omega
 have aH:(0:Int)<=2:=by omega
 simp only[QkN,e0,Qb,simprocAttr,c0,t0,ae,aj];cases ay:bs.getD 0 0==197 with
 | true=>
  rw[Lc ay]at aa
  by_cases ag:bs.length<2;·rw[Lc ag]at aa;have ac:decide ((bs.length:Int)<2)=true:=Lp (by omega);simp only[QeN,ac,Qb,simprocAttr,gV,Xx];exact ad _ _ (ab _) aa
  rw[Le ag]at aa;have ac:decide ((bs.length:Int)<2)=false:=Lj (by omega);have c1:(0:Int)<=1∧(1:Int)<bs.length:=by omega
  have g1:=ah 1 (by omega);simp only[QeN,QkL,ac,Qb,simprocAttr,c1,t1,ae,g1,aB,aA,aH];refine(Qnr _ _).w ?_;rintro _ H0 _ aE ⟨rfl,rfl⟩;simp only[Qb,simprocAttr,gV,Xx];exact ai (vx2 (bs.getD 1 0)) 2 0 _ (ab _) aa
 | false=>
  rw[Le (by rw[ay];decide)]at aa;simp only[QkM,Qb,simprocAttr,c0,t0,ae,aj];cases az:bs.getD 0 0==196 with
  | false=>
   rw[Lc az]at aa;simp only[Qb,simprocAttr,gV,Xx];exact ad _ _ (ab _) aa
  | true=>
   rw[Le (by rw[az];decide)]at aa
   by_cases ag:bs.length<2;·rw[Lc ag]at aa;have ac:decide ((bs.length:Int)<2)=true:=Lp (by omega);simp only[QeO,ac,Qb,simprocAttr,gV,Xx];exact ad _ _ (ab _) aa
   rw[Le ag]at aa;have ac:decide ((bs.length:Int)<2)=false:=Lj (by omega);have c1:(0:Int)<=1∧(1:Int)<bs.length:=by omega
   have g1:=ah 1 (by omega);have aF:IntKind.i64.wrap (BitVec.ofInt IntKind.i64.bits (IntKind.i64.wrap (bs.getD 1 0)) ^^^ BitVec.ofInt IntKind.i64.bits 224).toNat=Qbb (IntKind.i64.wrap (bs.getD 1 0)) 224:=rfl;have aC:IntKind.i64.wrap (BitVec.ofInt IntKind.i64.bits (Qbb (IntKind.i64.wrap (bs.getD 1 0)) 224) &&& BitVec.ofInt IntKind.i64.bits 31).toNat=Zk (Qbb (IntKind.i64.wrap (bs.getD 1 0)) 224) 31:=rfl;simp only[QeO,QkK,ac,Qb,simprocAttr,c1,t1,ae,g1,aF,aC];have go:∀A:Env,A 0=.slice (some ⟨b,o,none⟩) bs.length cap->A 2=.P H.y->A 6=.Z (Qbb (IntKind.i64.wrap (bs.getD 1 0)) 224)->(decide (Zk (Qbb (IntKind.i64.wrap (bs.getD 1 0)) 224) 31<1)||decide (3<Zk (Qbb (IntKind.i64.wrap (bs.getD 1 0)) 224) 31))=false->Qk Pg Qav ⟨Rt Pg Tryz.f85 H (λu H'=>u=.tuple #[.agg r.1.cells.toArray,.Z r.2.1,.Z r.2.2]∧∃k,H'=H.up k),Xi⟩ (Rt Pg Tryz.f85 H (λu H'=>u=.tuple #[.agg r.1.cells.toArray,.Z r.2.1,.Z r.2.2]∧∃k,H'=H.up k)) A H0:=by
    intro A a0 a2 a6 aD;rw[Le (by rw[aD];decide)]at aa
    by_cases ax:bs.length<3;·rw[Lc ax]at aa;have ar:decide ((bs.length:Int)<3)=true:=Lp (by omega);simp only[Qav,ar,Qb,simprocAttr,a0,a2,gV,Xx];exact ad _ _ (ab _) aa
    rw[Le ax]at aa;have ar:decide ((bs.length:Int)<3)=false:=Lj (by omega);have c2:(0:Int)<=2∧(2:Int)<bs.length:=by omega
    have g2:=ah 2 (by omega);simp only[Qav,QkJ,ar,Qb,simprocAttr,a0,a6,c2,t2,ae,g2,aB,aJ,aI,aA];refine(Qnr _ _).w ?_;rintro _ H0 _ aE ⟨rfl,rfl⟩;simp only[Qb,simprocAttr,a2,gV,Xx];exact ai (vx3 (bs.getD 1 0) (bs.getD 2 0)) 3 0 _ (ab _) aa
   have an:(decide (Zk (Qbb (IntKind.i64.wrap (bs.getD 1 0)) 224) 31<1)||decide (3<Zk (Qbb (IntKind.i64.wrap (bs.getD 1 0)) 224) 31))=true->r=(Vv,0,4):=λh=>by rw[Lc h]at aa;exact aa
   clear aa
   repeat' (first
    | (refine Qz (λh=>?_) (λh=>?_)<;>(try simp only[Lr,Lu]at h)<;>simp only[Qb,simprocAttr,h,gV,Xx])
    | (refine Qg (λh=>?_) (λh=>?_)<;>(try simp only[Lr,Lu]at h)<;>simp only[Qb,simprocAttr,h,gV,Xx])
    | fail)
   all_goals first
    | (refine go _ (by simp only[Qf,simprocAttr]) (by simp only[Qf,simprocAttr]) (by simp only[Qf,simprocAttr]) (by clear go an;simp_all);done)
    | (refine ad _ _ (ab _) (an (by clear go an;simp_all));done)
def QMk {P:Program}{fn:Func}{H0 H:Qa}{k:Value->Qa->Prop}{A:Env}{r s u w:Nat}(ab:fn.results=#[.tmp r,.tmp s,.tmp u,.tmp w])(aa:(Nat.blt r fn.ntmps&&Nat.blt s fn.ntmps&&Nat.blt u fn.ntmps&&Nat.blt w fn.ntmps)=true):Rt P fn H0 k A H=Ret H0 k (.tuple #[A r,A s,A u,A w]) H:=by
 have:((r<fn.ntmps∧s<fn.ntmps)∧u<fn.ntmps)∧w<fn.ntmps:=by simpa using aa
 simp[Rt,QpV,Ret,QhP,ab,ZV,this]
def QE3 (H0 H:Qa)(k:Value->Qa->Prop)(A:Env):Rt Pg Tryz.f117 H0 k A H=Ret H0 k (.tuple #[A 2,A 3,A 4,A 5]) H:=QMk (by kernel_rfl) (by kernel_rfl)
def QdD (n:Nat)(i k:Nat):Int:=if k<i∧(n / 2 ^ k) % 2=1 then 1 else 0
def QHD:∀ (n:Fin 16) (i:Fin 4),IntKind.i64.wrap (BitVec.ofInt IntKind.i64.bits ((n.1:Nat):Int) &&& BitVec.ofInt IntKind.i64.bits (IntKind.i64.wrap (1 * 2 ^ (min i.1 IntKind.i64.bits)))).toNat=if(n.1 / 2 ^ i.1) % 2=1 then(2 ^ i.1:Int) else 0:=by decide
def QAv (n:Nat)(al:n<16)(H:Qa):Qe Pg 117 [.Z n] H λu H'=>u=.tuple #[.Z (QdD n 4 3),.Z (QdD n 4 2),.Z (QdD n 4 1),.Z (QdD n 4 0)]∧H'=H:=by
 refine Qx5 λao=>?_;have aj:decide ((n:Int)<0)=false:=Lj (by omega);have ak:decide ((15:Int)<n)=false:=Lj (by omega);simp only[QpM,QkT,aj,ak,Qb,simprocAttr];refine Qp (λm A H'=>∃i:Nat,i<=4∧m=4 - i∧H'=H∧A 0=.Z n∧A 17=.Z i∧A 6=.Z (QdD n i 3)∧A 7=.Z (QdD n i 2)∧A 8=.Z (QdD n i 1)∧A 9=.Z (QdD n i 0)) 4 ?_ ?_
 ·refine⟨0,L7 _,by omega,rfl,?_,?_,?_,?_,?_,?_⟩
  all_goals simp only[Qf,simprocAttr]
  all_goals rfl
 rintro m A H' ⟨i,hi,rfl,rfl,r0,ab,ae,ag,r8,ah⟩;simp only[QkS,Qb,simprocAttr,ab];refine Qg (λaa=>?_) (λaa=>?_)
 ·have aa:i<4:=by have:=Lg aa;omega
  have c0:(0:Int)<=i:=by omega
  have c3:(i:Int).toNat=i:=by omega
  have an:IntKind.i64.wrap ((i:Int)+1)=((i+1:Nat):Int):=by rw[w64 (by unfold I64;omega)];omega
  have ac:=QHD ⟨n,al⟩ ⟨i,aa⟩;simp only at ac;simp only[QkR,Qb,simprocAttr,r0,ab,c0,c3,ac];obtain⟨q,ad⟩:∃q,(n / 2 ^ i) % 2=q:=⟨_,rfl⟩;have am:q=0∨q=1:=by omega
  rw[ad];have go:∀A2:Env,A2 0=.Z n->A2 17=.Z ((i+1:Nat):Int)->A2 6=.Z (QdD n (i+1) 3)->A2 7=.Z (QdD n (i+1) 2)->A2 8=.Z (QdD n (i+1) 1)->A2 9=.Z (QdD n (i+1) 0)->Quj (λm A H'_1=>∃i:Nat,i<=4∧m=4 - i∧H'_1=H'∧A 0=.Z n∧A 17=.Z i∧A 6=.Z (QdD n i 3)∧A 7=.Z (QdD n i 2)∧A 8=.Z (QdD n i 1)∧A 9=.Z (QdD n i 0)) (4 - i) A2 H':=λA2 a0 ai a6 a7 a8 a9=>⟨4 - (i+1),by omega,i+1,by omega,rfl,rfl,a0,ai,a6,a7,a8,a9⟩;obtain rfl | rfl | rfl | rfl:i=0∨i=1∨i=2∨i=3:=by omega
  all_goals rcases am with rfl | rfl
  all_goals simp only[QkQ,QkP,Qb,simprocAttr,ab,Int.reducePow,Int.reduceBEq,Nat.zero_ne_one]
  all_goals refine go _ ?_ ?_ ?_ ?_ ?_ ?_
  all_goals simp only[Qf,simprocAttr,r0,ae,ag,r8,ah]
  all_goals (first | rfl | (simp only[QdD,ad];simp))
 have aa:i=4:=by have:=Ll aa;omega
 subst aa;simp only[Qb,simprocAttr,ae,ag,r8,ah,QE3];exact .mk (Lb _) ⟨rfl,rfl⟩
def szF (s:Int):Int:=if s=15 then 0 else if s=7 then 1 else if s=8∨s=34 then 2 else if s=9∨s=11∨s=16 then 4 else if s=10∨s=12∨s=17 then 8 else if s=13∨s=18 then 16 else if s=14∨s=19 then 32 else -1
def Qbc (s:Int)(H:Qa):Qe Pg 56 [.Z s] H λu H'=>u=.Z (szF s)∧H'=H:=by
 refine QoD λaa=>?_;simp(disch:=(try simp only[hnP])<;>try omega) only[QfV,Qda,Qdb,Qdc,Qdd,Qde,Qdf,Qdg,Qdh,Qdi,QbL,QF,simprocAttr]
 repeat' (first
   | (refine Qg (λh=>?_) (λh=>?_)<;>(try simp only[Lr,Lu]at h)<;>simp(disch:=(try simp only[hnP])<;>try omega) only[QF,simprocAttr,Qeu,h])
   | fail)
 all_goals refine .mk (Lb _) ⟨?_,rfl⟩
 all_goals (simp only[L0,LC,Da]at *;simp only[szF];simp[*])
def clF (s:Int):Int:=if s=1∨s=7 then 1 else if s=2∨s=8 then 3 else if s=3∨s=9 then 4 else if s=4∨s=10 then 5 else if s=5∨s=11∨s=12∨s=13 then 6 else if s=6∨s=14 then 7 else 0
def QfX (s:Int)(H:Qa):Qe Pg 55 [.Z s] H λu H'=>u=.Z (clF s)∧H'=H:=by
 refine Qno λaa=>?_;simp(disch:=(try simp only[hnP])<;>try omega) only[Qet,QbC,QbD,QbE,QbF,QbG,QbH,QbI,QbJ,QbK,QaL,QaM,QF,simprocAttr]
 repeat' (first
   | (refine Qg (λh=>?_) (λh=>?_)<;>(try simp only[Lr,Lu]at h)<;>simp(disch:=(try simp only[hnP])<;>try omega) only[QF,simprocAttr,Qc9,h])
   | fail)
 all_goals refine .mk (Lb _) ⟨?_,rfl⟩
 all_goals (simp only[L0,LC,Da]at *;simp only[clF];simp[*])
structure Rr where
 x:Lf
 bv:Value
 p:Int
 rex:Bool
 r:Int
 xx:Int
 bb:Int
 v:Int
 low:Int
 seen:Sn
def Rr.cells (c:Rr):List Value:=c.x.cells++([c.bv,.Z c.p,.bool c.rex,.Z c.r,.Z c.xx,.Z c.bb,.Z c.v,.Z c.low]++c.seen.cells)
def WF (c:Rr):c.cells.length=28:=rfl
def Xy (c:Rr):List.take 10 c.cells=c.x.cells:=rfl
def rr1 (c:Rr):c.cells[1]? = some c.x.sv:=rfl
def QtE (c:Rr):c.cells[10]? = some c.bv:=rfl
def Qjl (c:Rr):c.cells[11]? = some (.Z c.p):=rfl
def QLh (c:Rr):c.cells[12]? = some (.bool c.rex):=rfl
def Qql (c:Rr):c.cells[13]? = some (.Z c.r):=rfl
def Qqm (c:Rr):c.cells[14]? = some (.Z c.xx):=rfl
def QoG (c:Rr):c.cells[15]? = some (.Z c.bb):=rfl
def QAw (c:Rr)(n:Int):List.take 11 c.cells++(Value.Z n::List.drop 12 c.cells)=({c with p:=n}:Rr).cells:=rfl
structure Q6 (H H':Qa) (b:Nat) (c:Rr):Prop where
 y:H.y<=H'.y
 get:∀id,id<H.y->id≠b->H'.get id=H.get id
 at_:H'.get b=some (.C c.cells 74)
def Q6.refl {H:Qa}{b:Nat}{c:Rr}(h:H.get b=some (.C c.cells 74)):Q6 H H b c:=⟨Lb _,λ_ _ _=>rfl,h⟩
def Q6.trans {H H1 H2:Qa}{b:Nat}{c c':Rr}(aa:Q6 H H1 b c)(ab:Q6 H1 H2 b c'):Q6 H H2 b c':=
 ⟨N8 aa.y ab.y,λid ac ad=>by rw[ab.get id (N5 ac aa.y) ad,aa.get id ac ad],ab.at_⟩
def Q6.up {H H1:Qa}{b:Nat}{c:Rr}(aa:Q6 H H1 b c){k:Nat}(ac:H1.y<=k):Q6 H (H1.up k) b c:=⟨N8 aa.y ac,λid ab ad=>by rw[Xo];exact aa.get id ab ad,by rw[Xo];exact aa.at_⟩
def Q6.set {H H1:Qa}{b:Nat}{c:Rr}(aa:Q6 H H1 b c)(c':Rr):Q6 H (H1.set b (.C c'.cells 74)) b c':=⟨aa.y,λid ac ab=>by rw[Qh,Le ab];exact aa.get id ac ab,by rw[Qh,Lc rfl]⟩
def KI (H:Qa)(b:Nat)(e:Int)(c:Rr):Value->Qa->Prop:=λu H'=>u=.Z e∧Q6 H H' b c
def Qdm (f:Fm)(r x bb:Int):Bool:=
 if(r==1&&decide (Qy f.slots 1<0))=true then false
 else if(x==1&&(decide (Qy f.slots 2<0)||decide (szF (f.shapes.getD (Qy f.slots 2).toNat 0)<0)))=true then false
 else(bb==0)||decide (0<=Qy f.slots 2)||decide (0<=Qy f.slots 4)
def Qx8 (x:Int):∀ (l:List Int) (k:Nat),Ve l x k<((k+l.length:Nat):Int)
 | [],k=>by simp[Ve];omega
 | y::l,k=>by
  unfold Ve;split;·simp;omega
  have:=Qx8 x l (k+1);simp only[Lo];omega
def QBy (l:List Int)(x:Int):Qy l x<l.length:=by
 have:=Qx8 x l 0;unfold Qy;omega
def QoH (b:Nat)(c:Rr)(H:Qa)(ab:H.get b=some (.C c.cells 74))(hx:c.x.At H)(az:c.x.f.shapes.length=c.x.f.slots.length):Qe Pg 84 [.P b] H λu H'=>u=.bool (Qdm c.x.f c.r c.xx c.bb)∧∃k,H'=H.up k:=by
 refine QeM λai=>?_;have al:=λH' (ak:Ext H H')=>QH c.x 1 H' (hx.ext ai ak);have am:=λH' (ak:Ext H H')=>QH c.x 2 H' (hx.ext ai ak);have an:=λH' (ak:Ext H H')=>QH c.x 4 H' (hx.ext ai ak);have ax:=QBy c.x.f.slots 2;obtain⟨a1,c1,e1,aq⟩:=id hx.2.2.1;have ad:c.cells[1]? = some (.slice a1 c.x.f.shapes.length c1):=by rw[rr1,e1]
 have ar:Qdm c.x.f c.r c.xx c.bb=if(c.r==1&&decide (Qy c.x.f.slots 1<0))=true then false
  else if(c.xx==1&&(decide (Qy c.x.f.slots 2<0)||decide (szF (c.x.f.shapes.getD (Qy c.x.f.slots 2).toNat 0)<0)))=true then false
  else(c.bb==0)||decide (0<=Qy c.x.f.slots 2)||decide (0<=Qy c.x.f.slots 4):=rfl
 rw[ar];clear ar;generalize Qy c.x.f.slots 1=i1 at *;generalize Qy c.x.f.slots 2=i2 at *;generalize Qy c.x.f.slots 4=i4 at *;have aa:=Ext.refl H;have ao:0<=i2->∃b1 e1 av,a1=some ⟨b1,0,none⟩∧H.get b1=some (.cells (ints c.x.f.shapes) e1 av):=λh=>aq (by omega);have aA:decide (i2<0)=!decide (0<=i2):=by rw[Ni,Lr,Lv,NY];omega
 by_cases ap:0<=i2
 ·obtain⟨b1,t1,av,rfl,ah⟩:=ao ap;have ay:=ai.lt ah;have ae:decide (0<=i2)=true:=Lp ap;have ag:decide (i2<0)=false:=Lj (by omega);have d1:(0:Int)<=i2∧i2<c.x.f.shapes.length:=by omega
  have g1:=ZY (l:=c.x.f.shapes) (i:=i2.toNat) (by omega);have au:=λH=>Qbc (c.x.f.shapes.getD i2.toNat 0) H;generalize szF (c.x.f.shapes.getD i2.toNat 0)=z at *;simp only[YD,Qb,simprocAttr,ab,WF,Xy];refine(am _ aa).w ?_;rintro _ _ ac aj ⟨rfl,k2,rfl⟩;have aa:=aa.up (show _<=k2 from ac);simp only[Qt,Qu,Qb,simprocAttr,ab,Qql]
  repeat' (first
   | (refine Qz (λh=>?_) (λh=>?_)<;>(try simp only[Lr,Lu]at h)<;>simp only[Qt,Qu,Qb,simprocAttr,ab,WF,Xy,Qql,Qqm,QoG,ad,QB,h,ae,ag,d1,ah,g1])
   | (refine Qg (λh=>?_) (λh=>?_)<;>(try simp only[Lr,Lu]at h)<;>simp only[Qt,Qu,Qb,simprocAttr,ab,WF,Xy,Qql,Qqm,QoG,ad,QB,h,ae,ag,d1,ah,g1])
   | (refine(al _ aa).w ?_;rintro _ _ ac aj ⟨rfl,k,rfl⟩;have aa:=aa.up (show _<=k from ac);simp only[Qt,Qu,Qb,simprocAttr,ab,WF,Xy,Qql,Qqm,QoG,ad,QB,ae,ag,d1,ah,g1])
   | (refine(an _ aa).w ?_;rintro _ _ ac aj ⟨rfl,k,rfl⟩;have aa:=aa.up (show _<=k from ac);simp only[Qt,Qu,Qb,simprocAttr,ab,WF,Xy,Qql,Qqm,QoG,ad,QB,ae,ag,d1,ah,g1])
   | (refine(au _).w ?_;rintro _ _ ac aj ⟨rfl,rfl⟩;simp only[Qt,Qu,Qb,simprocAttr,ab,WF,Xy,Qql,Qqm,QoG,ad,QB,ae,ag,d1,ah,g1])
   | fail)
  all_goals refine .ext ai aa ⟨?_,_,rfl⟩
  all_goals (clear al am an au ab hx ad ao ah g1 e1 aq;simp_all)
 have ae:decide (0<=i2)=false:=Lj ap;have ag:decide (i2<0)=true:=Lp (by omega);simp only[YD,Qb,simprocAttr,ab,WF,Xy];refine(am _ aa).w ?_;rintro _ _ ac aj ⟨rfl,k2,rfl⟩;have aa:=aa.up (show _<=k2 from ac);simp only[Qt,Qu,Qb,simprocAttr,ab,Qql]
 repeat' (first
  | (refine Qz (λh=>?_) (λh=>?_)<;>(try simp only[Lr,Lu]at h)<;>simp only[Qt,Qu,Qb,simprocAttr,ab,WF,Xy,Qql,Qqm,QoG,ad,QB,h,ae,ag])
  | (refine Qg (λh=>?_) (λh=>?_)<;>(try simp only[Lr,Lu]at h)<;>simp only[Qt,Qu,Qb,simprocAttr,ab,WF,Xy,Qql,Qqm,QoG,ad,QB,h,ae,ag])
  | (refine(al _ aa).w ?_;rintro _ _ ac aj ⟨rfl,k,rfl⟩;have aa:=aa.up (show _<=k from ac);simp only[Qt,Qu,Qb,simprocAttr,ab,WF,Xy,Qql,Qqm,QoG,ad,QB,ae,ag])
  | (refine(an _ aa).w ?_;rintro _ _ ac aj ⟨rfl,k,rfl⟩;have aa:=aa.up (show _<=k from ac);simp only[Qt,Qu,Qb,simprocAttr,ab,WF,Xy,Qql,Qqm,QoG,ad,QB,ae,ag])
  | fail)
 all_goals refine .ext ai aa ⟨?_,_,rfl⟩
 all_goals (clear al am an ab hx ad ao e1 aq;simp_all)
structure Jy (H0 H:Qa) (b:Nat) (c:Rr) (bs:List Int):Prop where
 wf:H0.Wf
 hx:Ext H0 H
 lo:H0.y<=b
 at_:H.get b=some (.C c.cells 74)
 fm:c.x.At H0
 by_:Qh3 H0 c.bv bs
 len:bs.length<=1000000
 p0:0<=c.p∧c.p<=bs.length
def Jy.only {H0 H H':Qa}{b:Nat}{c c':Rr}{bs:List Int}(h:Jy H0 H b c bs)(aa:Q6 H H' b c')(hx:c'.x=c.x)(ac:c'.bv=c.bv)(ad:0<=c'.p∧c'.p<=bs.length):Jy H0 H' b c' bs:=
 ⟨h.wf,⟨N8 h.hx.y aa.y,λid ab=>by rw[aa.get id (N5 ab h.hx.y) (by have:=h.lo;omega),h.hx.get id ab]⟩,h.lo,aa.at_,by rw[hx];exact h.fm,by rw[ac];exact h.by_,h.len,ad⟩
def Jy.up {H0 H:Qa}{b:Nat}{c:Rr}{bs:List Int}(h:Jy H0 H b c bs){k:Nat}(aa:H.y<=k):Jy H0 (H.up k) b c bs:=h.only (Q6.refl h.at_ |>.up aa) rfl rfl h.p0
def Qqn (bs:List Int)(p n:Int):Int×Int:=
 if(bs.length:Int)<=p then(9,p) else if(IntKind.i64.wrap (bs.getD p.toNat 0)==n)=false then(4,p) else(0,IntKind.i64.wrap (p+1))
def QAx {bs:List Int}{p n:Int}(h:0<=p∧p<=bs.length)(aa:bs.length<=1000000):0<=(Qqn bs p n).2∧(Qqn bs p n).2<=bs.length:=by
 unfold Qqn;split;·exact h
 split;·exact h
 rw[w64 (by unfold I64;omega)];simp only;omega
def Qns {H0:Qa}(b:Nat)(c:Rr)(bs:List Int)(n:Int)(H:Qa)(h:Jy H0 H b c bs):Qe Pg 54 [.P b,.Z n] H (KI H b (Qqn bs c.p n).1 {c with p:=(Qqn bs c.p n).2}):=by
 refine QfU λal=>?_;obtain⟨ak,hx,lo,ac,fm,by_,len,p0⟩:=h;obtain⟨a,cap,ag,ah⟩:=by_;have ad:c.cells[10]? = some (.slice a bs.length cap):=by rw[QtE,ag]
 have oc:=Q6.refl ac;have aa:Qqn bs c.p n=if(bs.length:Int)<=c.p then(9,c.p) else if(IntKind.i64.wrap (bs.getD c.p.toNat 0)==n)=false then(4,c.p) else(0,IntKind.i64.wrap (c.p+1)):=rfl
 simp only[GG,Qb,simprocAttr,ac,Qjl,ad]
 by_cases ab:(bs.length:Int)<=c.p;·rw[Lc ab]at aa;simp only[ab,Nf,Qb,simprocAttr,YB];exact .mk (Lb _) ⟨by rw[aa],by rw[aa];exact oc⟩
 rw[Le ab]at aa;obtain⟨bb,o,e,ro,cs,rfl,ae,ai⟩:=ah (by omega);have aj:H.get bb=some (.cells cs e ro):=(hx.get bb (ak.lt ae)).trans ae;have c1:(0:Int)<=c.p∧c.p<bs.length:=by omega
 have g1:=ai c.p.toNat (by omega);simp only[ab,NE,Qb,simprocAttr,ac,Qjl,ad,c1,aj,g1];cases q:IntKind.i64.wrap (bs.getD c.p.toNat 0)==n with
 | false=>
  rw[Lc q]at aa;simp only[Qb,simprocAttr,YB];exact .mk (Lb _) ⟨by rw[aa],by rw[aa];exact oc⟩
 | true=>
  rw[Le (by rw[q];decide)]at aa;simp only[Qb,simprocAttr,ac,Qjl,WF,QAw,YB];exact .mk (Lb _) ⟨by rw[aa],by rw[aa];exact oc.set _⟩
def QJU {a b c d:Value}{l:List Value}{H:Qa}{k:Value->Qa->Prop}:QEe (.tuple (a::b::c::d::l).toArray) 3 H k=k d H:=Qs
def rr7 (c:Rr):c.cells[7]? = some (.Z c.x.f.w):=rfl
def QMl (c:Rr)(v:Bool):List.take 12 c.cells++(Value.bool v::List.drop 13 c.cells)=({c with rex:=v}:Rr).cells:=rfl
def QJV (c:Rr)(n:Int):List.take 13 c.cells++(Value.Z n::List.drop 14 c.cells)=({c with r:=n}:Rr).cells:=rfl
def QJW (c:Rr)(n:Int):List.take 14 c.cells++(Value.Z n::List.drop 15 c.cells)=({c with xx:=n}:Rr).cells:=rfl
def QJX (c:Rr)(n:Int):List.take 15 c.cells++(Value.Z n::List.drop 16 c.cells)=({c with bb:=n}:Rr).cells:=rfl
def Zv (bs:List Int)(p:Int):Int:=IntKind.i64.wrap (bs.getD p.toNat 0)
def QHE (c:Rr)(m:Nat):Rr:={c with rex:=true,r:=QdD m 4 2,xx:=QdD m 4 1,bb:=QdD m 4 0,p:=IntKind.i64.wrap (c.p+1)}
def QeT (c:Rr)(w:Int):Int×Rr:=if(!(w==c.x.f.w)||!Qdm c.x.f c.r c.xx c.bb)=true then(4,c) else(0,c)
def QdE (bs:List Int)(c:Rr):Int×Rr:=
 if(bs.length:Int)<=c.p then(9,c)
 else if(decide (64<=Zv bs c.p)&&decide (Zv bs c.p<=79))=true then QeT (QHE c (Zv bs c.p - 64).toNat) (QdD (Zv bs c.p - 64).toNat 4 3) else QeT c 0
def Qso (c:Rr)(w:Int):(QeT c w).2=c:=by unfold QeT;split<;>rfl
def Qx9 {H0:Qa}(b:Nat)(c:Rr)(bs:List Int)(H:Qa)(h:Jy H0 H b c bs)(aD:c.x.f.shapes.length=c.x.f.slots.length):Qe Pg 86 [.P b] H (KI H b (QdE bs c).1 (QdE bs c).2):=by
 refine Qdj λaI=>?_;obtain⟨ar,hx,lo,ah,fm,by_,len,p0⟩:=id h;obtain⟨a,cap,ax,aj⟩:=by_;have ay:∀c':Rr,c'.bv=c.bv->c'.cells[10]? = some (.slice a bs.length cap):=λc' h=>by rw[QtE,h,ax]
 have al:=ay c rfl;have oc:=Q6.refl ah;obtain⟨r,ak⟩:∃r,r=QdE bs c:=⟨_,rfl⟩;rw[<- ak];have aa:r=if(bs.length:Int)<=c.p then(9,c)
  else if(decide (64<=Zv bs c.p)&&decide (Zv bs c.p<=79))=true then QeT (QHE c (Zv bs c.p - 64).toNat) (QdD (Zv bs c.p - 64).toNat 4 3) else QeT c 0:=ak
 clear ak;have tail:∀ (c':Rr) (w:Int) (A:Env) (H1:Qa),A 0=.P b->A 3=.Z w->Q6 H H1 b c'->c'.x=c.x->r=QeT c' w->Qk Pg Xm ⟨Rt Pg Tryz.f86 H (KI H b r.1 r.2),Xi⟩ (Rt Pg Tryz.f86 H (KI H b r.1 r.2)) A H1:=by
  intro c' w A H1 a0 a3 ad an aq;have am:=ad.at_;have aF:Ext H0 H1:=⟨N8 hx.y ad.y,λid ap=>by rw[ad.get id (N5 ap hx.y) (by omega),hx.get id ap]⟩;have aG:=QoH b c' H1 am (by rw[an];exact fm.ext ar aF) (by rw[an];exact aD);have ab:r=if(!(w==c'.x.f.w)||!Qdm c'.x.f c'.r c'.xx c'.bb)=true then(4,c') else(0,c'):=aq
  clear aq;simp only[Xm,Qb,simprocAttr,a0,a3,am,rr7];cases ac:w==c'.x.f.w with
  | false=>
   rw[Lc (by rw[ac];rfl)]at ab;simp only[Qb,simprocAttr,WL];exact .mk ad.y ⟨by rw[ab],by rw[ab];exact ad⟩
  | true=>
   simp only[Qb,simprocAttr,a0];refine aG.w ?_;rintro _ _ aC aE ⟨rfl,k,rfl⟩;have ai:=ad.up (show _<=k from aC);simp only[Qb,simprocAttr];cases ae:Qdm c'.x.f c'.r c'.xx c'.bb with
   | false=>
    rw[Lc (by rw[ac,ae];rfl)]at ab;simp only[Qb,simprocAttr,WL];exact .mk ai.y ⟨by rw[ab],by rw[ab];exact ai⟩
   | true=>
    rw[Le (by rw[ac,ae];decide)]at ab;simp only[Qb,simprocAttr,WL];exact .mk ai.y ⟨by rw[ab],by rw[ab];exact ai⟩
 simp only[Jv,Qb,simprocAttr,ah,Qjl,al]
 by_cases ag:(bs.length:Int)<=c.p;·rw[Lc ag]at aa;simp only[ag,Nf,Qb,simprocAttr,WL];exact .mk (Lb _) ⟨by rw[aa],by rw[aa];exact oc⟩
 rw[Le ag]at aa;obtain⟨bb,o,e,ro,cs,rfl,ao,az⟩:=aj (by omega);have aA:H.get bb=some (.cells cs e ro):=(hx.get bb (ar.lt ao)).trans ao;have c1:(0:Int)<=c.p∧c.p<bs.length:=by omega
 have g1:=az c.p.toNat (by omega);have aj:IntKind.i64.wrap (bs.getD c.p.toNat 0)=Zv bs c.p:=rfl;simp only[ag,NE,Zt,Qb,simprocAttr,ah,Qjl,al,c1,aA,g1,aj]
 by_cases q:(decide (64<=Zv bs c.p)&&decide (Zv bs c.p<=79))=true
 ·rw[Lc q]at aa;obtain⟨ac,ae⟩:64<=Zv bs c.p∧Zv bs c.p<=79:=by simpa using q
  obtain⟨m,aH⟩:∃m:Nat,Zv bs c.p=64+m:=⟨(Zv bs c.p - 64).toNat,by omega⟩;have aB:m<16:=by omega
  have au:IntKind.i64.wrap (Zv bs c.p - 64)=(m:Int):=by rw[w64 (by unfold I64;omega)];omega
  have av:(Zv bs c.p - 64).toNat=m:=by omega
  rw[av]at aa;simp only[Lp ac,Lp ae,Zs,Qb,simprocAttr,au];refine(QAv m aB H).w ?_;rintro _ H _ aE ⟨rfl,rfl⟩;simp only[Qb,simprocAttr,QJU,ah,Qjl,WF,QAw,QMl,QJV,QJW,QJX];refine tail (QHE c m) _ _ _ ?_ ?_ ((((((oc.set _).set _).set _).set _).set (QHE c m))) rfl aa
  all_goals simp only[Qf,simprocAttr]
 rw[Le q]at aa;cases ac:decide (64<=Zv bs c.p) with
 | false=>
  simp only[Qb,simprocAttr];exact tail c 0 _ _ (by simp only[Qf,simprocAttr]) (by simp only[Qf,simprocAttr]) oc rfl aa
 | true=>
  have ae:decide (Zv bs c.p<=79)=false:=by simpa[ac] using q
  simp only[ae,Qb,simprocAttr];exact tail c 0 _ _ (by simp only[Qf,simprocAttr]) (by simp only[Qf,simprocAttr]) oc rfl aa
def Qya (c n:Int):List Value:=[.Z 1,.Z c,.Z n,.Z 0,.Z 0,.Z 0,.Z 0,.Z 0,.Z 0,.Z 0,.Z 0]
def QLi (k n:Int):List Value:=[.Z k,.Z 0,.Z 0,.Z 0,.Z 0,.Z 0,.Z 0,.Z 0,.Z 0,.Z 0,.Z n]
def QHF (s:Int):List Value:=if s=28 then Qya 1 0 else if s=29 then Qya 3 0 else if s=30 then Qya 4 0 else if s=31 then Qya 5 0 else if s=32 then Qya 1 1 else QLi 3 1
def Qyb (H:Qa)(l:List Value):Value->Qa->Prop:=λu H'=>u=.agg l.toArray∧∃k,H'=H.up k
def QHG (s:Int)(H:Qa):Qe Pg 95 [.Z s] H (Qyb H (QHF s)):=by
 refine Qqk λaa=>?_;have hx:=Ext.refl H;simp only[QhE,Qb,simprocAttr]
 repeat' (first
   | (refine Qg (λh=>?_) (λh=>?_)<;>(try simp only[Lr,Lu]at h)<;>simp only[Qb,simprocAttr,QfW,h])
   | fail)
 all_goals refine Ret.ext aa ((hx.push _).set (Lb _) _) ⟨?_,_,rfl⟩
 all_goals (simp only[L0,LC,Da]at *;simp only[QHF];simp[*,Qya,QLi])
def QHH (c:Rr)(s n:Int):Int:=bif (clF s==1)&&!c.rex&&!c.x.f.vex&&decide (4<=n)&&decide (n<=7) then 2 else clF s
def rr8 (c:Rr):c.cells[8]? = some (.bool c.x.f.vex):=rfl
def QAy (b:Nat)(c:Rr)(s n:Int)(H:Qa)(ae:H.get b=some (.C c.cells 74)):Qe Pg 94 [.P b,.Z s,.Z n] H (Qyb H (Qya (QHH c s n) n)):=by
 refine QdC λag=>?_;have hx:=Ext.refl H;have aj:=ag.lt ae;have ai:QHH c s n=bif (clF s==1)&&!c.rex&&!c.x.f.vex&&decide (4<=n)&&decide (n<=7) then 2 else clF s:=rfl
 simp only[J3,Qb,simprocAttr];refine(QfX s _).w ?_;rintro _ _ ak al ⟨rfl,rfl⟩;generalize clF s=z at *;simp only[Qb,simprocAttr];have ah:(b=H.y)=False:=by simp;omega
 cases b1:z==1<;>cases aa:c.rex<;>cases ab:c.x.f.vex<;>cases ac:decide (4<=n)<;>cases ad:decide (n<=7)<;>simp only[Qb,simprocAttr,ah,Jw,ae,QLh,rr8,aa,ab,ac,ad]
 all_goals refine Ret.ext ag ((hx.push _).set (Lb _) _) ⟨?_,_,rfl⟩
 all_goals (rw[ai,b1,aa,ab,ac,ad];rfl)
def rr5 (c:Rr):c.cells[5]? = some (.Z c.x.f.code):=rfl
def rr6 (c:Rr):c.cells[6]? = some (.Z c.x.f.digit):=rfl
def QLj (c:Rr):c.cells[17]? = some (.Z c.low):=rfl
def QMm (c:Rr)(n:Int):List.take 17 c.cells++(Value.Z n::List.drop 18 c.cells)=({c with low:=n}:Rr).cells:=rfl
def Qyc (bs:List Int)(p:Int):Int:=IntKind.i64.wrap (IntKind.u8.wrap (BitVec.ofInt IntKind.u8.bits (bs.getD p.toNat 0) &&& BitVec.ofInt IntKind.u8.bits 7).toNat)
def XF (bs:List Int)(c:Rr)(n:Int):Int×Rr:=((Qqn bs c.p n).1,{c with p:=(Qqn bs c.p n).2})
def opF (bs:List Int)(c:Rr):Int×Rr:=
 if(decide (Qy c.x.f.slots 4<0))=true then XF bs c c.x.f.code
 else if(bs.length:Int)<=c.p then(9,c) else XF bs {c with low:=Qyc bs c.p} (IntKind.i64.wrap (c.x.f.code+Qyc bs c.p))
def QE4 {H0:Qa}(b:Nat)(c:Rr)(bs:List Int)(H:Qa)(h:Jy H0 H b c bs):Qe Pg 30 [.P b] H (KI H b (opF bs c).1 (opF bs c).2):=by
 refine QfR λav=>?_;obtain⟨aj,hx,lo,ab,fm,by_,len,p0⟩:=id h;obtain⟨a,cap,am,ao⟩:=by_;have an:∀c':Rr,c'.bv=c.bv->c'.cells[10]? = some (.slice a bs.length cap):=λc' h=>by rw[QtE,h,am]
 have ah:=an c rfl;obtain⟨r,ae⟩:∃r,r=opF bs c:=⟨_,rfl⟩;rw[<- ae];have aa:r=if(decide (Qy c.x.f.slots 4<0))=true then XF bs c c.x.f.code
  else if(bs.length:Int)<=c.p then(9,c) else XF bs {c with low:=Qyc bs c.p} (IntKind.i64.wrap (c.x.f.code+Qyc bs c.p)):=ae
 clear ae;have au:=QH c.x 4 H (fm.ext aj hx);generalize Qy c.x.f.slots 4=i4 at *;simp only[GD,Qb,simprocAttr,ab,WF,Xy];refine au.w ?_;rintro _ _ ad ak ⟨rfl,k,rfl⟩;have al:=h.up (show _<=k from ad);have oc:=(Q6.refl ab).up (show _<=k from ad);simp only[Qb,simprocAttr];cases q:decide (i4<0) with
 | true=>
  rw[Lc q]at aa;simp only[Qb,simprocAttr,ab,rr5];refine(Qns b c bs c.x.f.code _ al).w ?_;rintro _ _ ad ak ⟨rfl,ac⟩;simp only[Qb,simprocAttr,Yy];exact .mk (oc.trans ac).y ⟨by rw[aa,XF],by rw[aa,XF];exact oc.trans ac⟩
 | false=>
  rw[Le (by rw[q];decide)]at aa;simp only[Qb,simprocAttr,ab,Qjl,ah]
  by_cases g:(bs.length:Int)<=c.p;·rw[Lc g]at aa;simp only[g,Nf,Qb,simprocAttr,Yy];exact .mk oc.y ⟨by rw[aa],by rw[aa];exact oc⟩
  rw[Le g]at aa;obtain⟨bb,o,e,ro,cs,rfl,ai,ap⟩:=ao (by omega);have aq:H.get bb=some (.cells cs e ro):=(hx.get bb (aj.lt ai)).trans ai;have c1:(0:Int)<=c.p∧c.p<bs.length:=by omega
  have g1:=ap c.p.toNat (by omega);simp only[g,NE,Qb,simprocAttr,ab,Qjl,ah,c1,aq,g1,WF,QMm];have ar:IntKind.i64.wrap (IntKind.u8.wrap (BitVec.ofInt IntKind.u8.bits (bs.getD c.p.toNat 0) &&& BitVec.ofInt IntKind.u8.bits 7).toNat)=Qyc bs c.p:=rfl;rw[ar];simp only[Qb,simprocAttr,rr5,QLj];have ag:=oc.set {c with low:=Qyc bs c.p};refine(Qns b {c with low:=Qyc bs c.p} bs _ _ (h.only ag rfl rfl p0)).w ?_;rintro _ _ ad ak ⟨rfl,ac⟩;simp only[Qb,simprocAttr,Yy];exact .mk (ag.trans ac).y ⟨by rw[aa,XF],by rw[aa,XF];exact ag.trans ac⟩
def Q6.ext {H H1 H2:Qa}{b:Nat}{c:Rr}(h:Q6 H H1 b c)(ab:b<H.y)(hx:Ext H1 H2):Q6 H H2 b c:=
 ⟨N8 h.y hx.y,λid aa ac=>by rw[hx.get id (N5 aa h.y),h.get id aa ac],by rw[hx.get b (N5 ab h.y),h.at_]⟩
def QBz (f:Fm)(n s:Int):Bool:=!(decide (0<=f.digit)&&!(Zk (QeR n 3) 7==f.digit))&&bif QeR n 6==3 then !(clF s==0) else !decide (szF s<0)
def QoI (bs:List Int)(c:Rr):Int×Rr:=
 if decide (Qy c.x.f.slots 2<0)=true then(0,c)
 else if(bs.length:Int)<=c.p then(9,c)
 else if QBz c.x.f (Zv bs c.p) (c.x.f.shapes.getD (Qy c.x.f.slots 2).toNat 0)=false then(4,c)
 else if((rdF bs c.p c.xx c.bb).2==0)=false then((rdF bs c.p c.xx c.bb).2,c)
 else(0,{c with seen:=(rdF bs c.p c.xx c.bb).1,p:=(rdF bs c.p c.xx c.bb).1.ends})
def Qsp {H0:Qa}(b:Nat)(c:Rr)(bs:List Int)(H:Qa)(h:Jy H0 H b c bs)(aT:c.x.f.shapes.length=c.x.f.slots.length):Qe Pg 31 [.P b] H (KI H b (QoI bs c).1 (QoI bs c).2):=by
 refine QgG λaq=>?_;obtain⟨r,ap⟩:∃r,r=QoI bs c:=⟨_,rfl⟩;rw[<- ap];have aa:r=if decide (Qy c.x.f.slots 2<0)=true then(0,c)
  else if(bs.length:Int)<=c.p then(9,c)
  else if QBz c.x.f (Zv bs c.p) (c.x.f.shapes.getD (Qy c.x.f.slots 2).toNat 0)=false then(4,c)
  else if((rdF bs c.p c.xx c.bb).2==0)=false then((rdF bs c.p c.xx c.bb).2,c)
  else(0,{c with seen:=(rdF bs c.p c.xx c.bb).1,p:=(rdF bs c.p c.xx c.bb).1.ends}):=ap
 clear ap;obtain⟨ak,hx,lo,ac,fm,by_,len,p0⟩:=id h;have aC:∀H':Qa,Ext H H'->Qh3 H' c.bv bs:=λH' aL=>by
  obtain⟨a,cap,an,ag⟩:=by_;refine⟨a,cap,an,λaI=>?_⟩;obtain⟨bb,o,e,ro,cs,e1,ah,ao⟩:=ag aI;have:=ak.lt ah;exact⟨bb,o,e,ro,cs,e1,by rw[aL.get bb (N5 this hx.y),hx.get bb this,ah],ao⟩
 obtain⟨a,cap,an,ag⟩:=id by_;have aG:∀c':Rr,c'.bv=c.bv->c'.cells[10]? = some (.slice a bs.length cap):=λc' h=>by rw[QtE,h,an]
 have ay:=aG c rfl;obtain⟨a1,c1,e1,aO⟩:=id fm.2.2.1;have aK:c.cells[1]? = some (.slice a1 c.x.f.shapes.length c1):=by rw[rr1,e1]
 have aS:=QBy c.x.f.slots 2;have aM:=QH c.x 2 H (fm.ext ak hx);generalize Qy c.x.f.slots 2=i2 at *;simp only[Vu,Qb,simprocAttr,ac,WF,Xy];refine aM.w ?_;rintro _ _ ai ar ⟨rfl,k,rfl⟩;have az:H.y<=k:=ai;have oc:=(Q6.refl ac).up az;have aQ:=h.up (show _<=k from ai);simp only[KE,Qb,simprocAttr];cases q:decide (i2<0) with
 | true=>
  rw[Lc q]at aa;simp only[Qb,simprocAttr,QY];exact .mk oc.y ⟨by rw[aa],by rw[aa];exact oc⟩
 | false=>
  rw[Le (by rw[q];decide)]at aa;have aV:0<=i2:=by have:=Ll q;omega
  simp only[Qb,simprocAttr,ac,Qjl,ay]
  by_cases g:(bs.length:Int)<=c.p;·rw[Lc g]at aa;simp only[g,Nf,Qb,simprocAttr,QY];exact .mk oc.y ⟨by rw[aa],by rw[aa];exact oc⟩
  rw[Le g]at aa;obtain⟨bb,o,e,ro,cs,rfl,ah,ao⟩:=ag (by omega);have aH:H.get bb=some (.cells cs e ro):=(hx.get bb (ak.lt ah)).trans ah;have c2:(0:Int)<=c.p∧c.p<bs.length:=by omega
  have g1:=ao c.p.toNat (by omega);obtain⟨b1,t1,aN,rfl,ax⟩:=aO (by omega);have aF:H.get b1=some (.cells (ints c.x.f.shapes) t1 aN):=(hx.get b1 (ak.lt ax)).trans ax;have d1:(0:Int)<=i2∧i2<c.x.f.shapes.length:=by omega
  have g2:=ZY (l:=c.x.f.shapes) (i:=i2.toNat) (by omega);have ag:IntKind.i64.wrap (bs.getD c.p.toNat 0)=Zv bs c.p:=rfl;generalize ai:Zv bs c.p=n at *;generalize aU:c.x.f.shapes.getD i2.toNat 0=s at *;simp only[g,NE,KD,Qb,simprocAttr,ac,Qjl,ay,c2,aH,g1,aK,d1,aF,g2,ag,rr6];have ab:QBz c.x.f n s=(!(decide (0<=c.x.f.digit)&&!(Zk (QeR n 3) 7==c.x.f.digit))&&bif QeR n 6==3 then !(clF s==0) else !decide (szF s<0)):=rfl;have aA:QBz c.x.f n s=true->∀ (A:Env),A 0=.P b->Qk Pg Yz ⟨Rt Pg Tryz.f31 H (KI H b r.1 r.2),Xi⟩ (Rt Pg Tryz.f31 H (KI H b r.1 r.2)) A (H.up k):=by
   intro ok A a0;rw[Le (by rw[ok];decide)]at aa;simp only[Yz,KB,Qb,simprocAttr,a0,ac,Qjl,QtE,Qqm,QoG];refine(Qv1 _ c.bv bs (aC _ ((Ext.refl H).up az)) len c.p c.xx c.bb (by unfold I64;omega)).w ?_;rintro _ _ aj ar ⟨rfl,k2,rfl⟩;have aR:k<=k2:=aj;generalize rdF bs c.p c.xx c.bb=m at *;have sl:m.1.cells.length=10:=rfl;have aP:m.1.cells[9]? = some (.Z m.1.ends):=rfl;have aJ:(b=k2)=False:=by simp;have:=aq.lt ac;omega
   simp only[Qb,simprocAttr,sl];have au:=λB C=>oc.ext (aq.lt ac) ((((Ext.refl (H.up k)).up (show _<=k2 from aj)).push B).set (show(H.up k).y<=k2 from aj) C);cases z:m.2==0 with
   | false=>
    rw[Lc z]at aa;simp only[Qb,simprocAttr,QY];exact⟨rfl,.mk (au _ _).y ⟨by rw[aa],by rw[aa];exact au _ _⟩⟩
   | true=>
    rw[Le (by rw[z];decide)]at aa;simp only[Qb,simprocAttr,aP];refine⟨rfl,FM sl.symm,rfl,?_⟩;simp only[Qb,simprocAttr,QY,a0,aJ,ac,WF];refine⟨⟨rfl,Lb _,rfl⟩,by have:=aq.lt ac;omega,show 12<=28 by omega,?_⟩;have of:=λB C=>((au B C).set {c with seen:=m.1}).set {c with seen:=m.1,p:=m.1.ends};exact .mk (of _ _).y ⟨by rw[aa],by rw[aa];exact of _ _⟩
  have tail:((decide (0<=c.x.f.digit)&&!(Zk (QeR n 3) 7==c.x.f.digit))=false)->∀ (A:Env),A 0=.P b->A 4=.Z n->A 5=.Z s->Qk Pg YA ⟨Rt Pg Tryz.f31 H (KI H b r.1 r.2),Xi⟩ (Rt Pg Tryz.f31 H (KI H b r.1 r.2)) A (H.up k):=by
   intro t1 A a0 a4 a5;have al:(0:Int)<=6:=by omega
   have am:n.fdiv (2 ^ min (Int.toNat 6) IntKind.i64.bits)=QeR n 6:=rfl;rw[t1]at ab;simp only[YA,sxA,sxB,Nat.reduceBEq,Nat.reduceEqDiff,reduceCtorEq,mxA,mxB,Nat.reduceAdd,reduceIte,Nat.reduceLeDiff,splice,a4,al,am];cases ae:QeR n 6==3 with
   | true=>
    simp only[Qb,simprocAttr,a5];refine(QfX s _).w ?_;rintro _ _ aj ar ⟨rfl,rfl⟩;cases ad:clF s==0 with
    | true=>
     rw[ae,ad]at ab;rw[Lc (by rw[ab];rfl)]at aa;simp only[Qb,simprocAttr,ad,QY];exact .mk oc.y ⟨by rw[aa],by rw[aa];exact oc⟩
    | false=>
     rw[ae,ad]at ab;simp only[sxA,sxB,Nat.reduceBEq,Nat.reduceEqDiff,reduceCtorEq,mxA,mxB,Nat.reduceAdd,reduceIte,Nat.reduceLeDiff,splice,ad,al,am,ae,a4];refine aA (by rw[ab];rfl) _ ?_;simp only[Qf,simprocAttr,a0]
   | false=>
    simp only[sxA,sxB,Nat.reduceBEq,Nat.reduceEqDiff,reduceCtorEq,mxA,mxB,Nat.reduceAdd,reduceIte,Nat.reduceLeDiff,splice,al,am,ae,a4,a5];refine(Qbc s _).w ?_;rintro _ _ ai ar ⟨rfl,rfl⟩;cases ad:decide (szF s<0) with
    | true=>
     rw[ae,ad]at ab;rw[Lc (by rw[ab];rfl)]at aa;simp only[Qb,simprocAttr,ad,QY];exact .mk oc.y ⟨by rw[aa],by rw[aa];exact oc⟩
    | false=>
     rw[ae,ad]at ab;simp only[Qb,simprocAttr,ad];refine aA (by rw[ab];rfl) _ ?_;simp only[Qf,simprocAttr,a0]
  have aD:(0:Int)<=3:=by omega
  have aE:IntKind.i64.wrap (BitVec.ofInt IntKind.i64.bits (n.fdiv (2 ^ min (Int.toNat 3) IntKind.i64.bits)) &&& BitVec.ofInt IntKind.i64.bits 7).toNat=Zk (QeR n 3) 7:=rfl;cases av:decide (0<=c.x.f.digit) with
  | false=>
   simp only[Qb,simprocAttr];refine tail (by rw[av];rfl) _ ?_ ?_ ?_
   all_goals simp only[Qf,simprocAttr]
  | true=>
   simp only[sxA,sxB,Nat.reduceBEq,Nat.reduceEqDiff,reduceCtorEq,mxA,mxB,Nat.reduceAdd,reduceIte,Nat.reduceLeDiff,splice,ac,rr6,aD,aE];cases aB:Zk (QeR n 3) 7==c.x.f.digit with
   | false=>
    rw[av,aB]at ab;rw[Lc (by rw[ab];rfl)]at aa;simp only[Qb,simprocAttr,QY];exact .mk oc.y ⟨by rw[aa],by rw[aa];exact oc⟩
   | true=>
    simp only[Qb,simprocAttr];refine tail (by rw[av,aB];rfl) _ ?_ ?_ ?_
    all_goals simp only[Qf,simprocAttr]
abbrev tA2:TypeId:=157
abbrev tA3:TypeId:=158
def XN (i:Nat):Int:=if i=0 then 1 else if i=1 then 2 else 4
def Gd (i:Nat):Int:=if i=0 then 102 else if i=1 then 242 else 243
def Qdn (x y:Int):Value:=.agg #[.Z x,.Z y]
def QAz:Value:=.agg #[.Z 1,.Z 102,.Z 2,.Z 242,.Z 4,.Z 243]
section
variable {A:Env} {H:Qa} {k:Value->Qa->Prop}
def QHI:pr Pg (.gen (.build tA2 #[(0,(.const (.Z 1))),(1,(.const (.Z 102)))])) false A H k=k (Qdn 1 102) H:=by
 have e:rop Pg (.gen (.build tA2 #[(0,(.const (.Z 1))),(1,(.const (.Z 102)))])) A H=some (Qdn 1 102,H):=by kernel_rfl
 refine(Q4 _).trans ?_;rw[e,Qs]
def QHJ:pr Pg (.gen (.build tA2 #[(0,(.const (.Z 2))),(1,(.const (.Z 242)))])) false A H k=k (Qdn 2 242) H:=by
 have e:rop Pg (.gen (.build tA2 #[(0,(.const (.Z 2))),(1,(.const (.Z 242)))])) A H=some (Qdn 2 242,H):=by kernel_rfl
 refine(Q4 _).trans ?_;rw[e,Qs]
def QHK:pr Pg (.gen (.build tA2 #[(0,(.const (.Z 4))),(1,(.const (.Z 243)))])) false A H k=k (Qdn 4 243) H:=by
 have e:rop Pg (.gen (.build tA2 #[(0,(.const (.Z 4))),(1,(.const (.Z 243)))])) A H=some (Qdn 4 243,H):=by kernel_rfl
 refine(Q4 _).trans ?_;rw[e,Qs]
def QJZ:pr Pg (.gen (.build tA3 #[(0,(t 16)),(1,(t 17)),(2,(t 18))])) false (upd (upd (upd A 16 (Qdn 1 102)) 17 (Qdn 2 242)) 18 (Qdn 4 243)) H k=k QAz H:=by
 have e:rop Pg (.gen (.build tA3 #[(0,(t 16)),(1,(t 17)),(2,(t 18))])) (upd (upd (upd A 16 (Qdn 1 102)) 17 (Qdn 2 242)) 18 (Qdn 4 243)) H=some (QAz,H):=by kernel_rfl
 refine(Q4 _).trans ?_;rw[e,Qs]
def QHL {x y:Operand}(i:Nat)(hi:i<3)(hx:ev A x=QAz)(ac:ev A y=.Z i):pr Pg (.gen (.index tA3 x y)) false A H k=k (Qdn (XN i) (Gd i)) H:=by
 have e0:rop Pg (.gen (.index tA3 x y)) A H=rop Pg (.gen (.index tA3 (.const QAz) (.const (.Z i)))) A H:=by
  have aa:ev A (.const QAz)=QAz:=rfl;have ab:ev A (.const (.Z i))=.Z i:=rfl;simp only[rop,aop,Qmb,hx,ac,aa,ab]
 have e:rop Pg (.gen (.index tA3 x y)) A H=some (Qdn (XN i) (Gd i),H):=by
  rw[e0];obtain rfl | rfl | rfl:i=0∨i=1∨i=2:=by omega
  all_goals kernel_rfl
 refine(Q4 _).trans ?_;rw[e,Qs]
def QLk {x:Operand}(B:Nat)(i:Nat)(hi:i<2)(hx:ev A x=.P B):pr Pg (.gen (.indexAddr tA2 x (.const (.Z i)))) false A H k=k (.pointer (some ⟨B,i,none⟩)) H:=by
 have e0:rop Pg (.gen (.indexAddr tA2 x (.const (.Z i)))) A H=rop Pg (.gen (.indexAddr tA2 (.const (.P B)) (.const (.Z i)))) A H:=by
  have aa:ev A (.const (.P B))=.P B:=rfl;simp only[rop,aop,YY,hx,aa]
 have e:rop Pg (.gen (.indexAddr tA2 x (.const (.Z i)))) A H=some (.pointer (some ⟨B,i,none⟩),H):=by
  rw[e0];obtain rfl | rfl:i=0∨i=1:=by omega
  all_goals kernel_rfl
 refine(Q4 _).trans ?_;rw[e,Qs]
def QHM {ty:TypeId}(aa:Pg.underlying ty=some .string){x:Operand}{s:ByteArray}(hx:ev A x=.string s):pr Pg (.gen (.range ty x)) false A H k=k (.P H.y) (H.push (.iter s 0)):=by
 have e:rop Pg (.gen (.range ty x)) A H=some (.P H.y,H.push (.iter s 0)):=by
  simp only[rop,aop,QqC,hx,aa]
 refine(Q4 _).trans ?_;rw[e,Qs]
def QJ0 {x:Operand}{b p:Nat}{s:ByteArray}(hx:ev A x=.P b)(ab:H.get b=some (.iter s p)):pr Pg (.gen (.next x true)) false A H k=if p<s.size then k (.tuple #[.bool true,.Z p,.int .i32 (Utf8.decode s p).1]) (H.set b (.iter s (p+(Utf8.decode s p).2))) else k (.tuple #[.bool false]) H:=by
 by_cases aa:p<s.size
 ·have e:rop Pg (.gen (.next x true)) A H=some (.tuple #[.bool true,.Z p,.int .i32 (Utf8.decode s p).1],H.set b (.iter s (p+(Utf8.decode s p).2))):=by
   simp only[rop,aop,hx,Qt8,ab,aa,N3];rfl
  rw[Lc aa];refine(Q4 _).trans ?_;rw[e,Qs]
 have e:rop Pg (.gen (.next x true)) A H=some (.tuple #[.bool false],H):=by
  simp only[rop,aop,hx,Qt8,ab,aa,LN];rfl
 rw[Le aa];refine(Q4 _).trans ?_;rw[e,Qs]
end
def QE6 (n:Int):(mkS (QdF n)).size=(QdF n).length:=rfl
def QE7 (n:Int):QdF n=[15]∨QdF n=[15,56]∨QdF n=[15,58]∨QdF n=[]:=by
 unfold QdF;cases(n==1)<;>cases(n==2)<;>cases(n==3)<;>simp
def QJ1 (n:Int)(j:Nat)(h:j<(QdF n).length):Utf8.decode (mkS (QdF n)) j=(((QdF n).getD j 0).toNat,1):=by
 rcases QE7 n with e | e | e | e<;>rw[e]at h ⊢<;>simp only[Lo,L9]at h
 ·obtain rfl:j=0:=by omega
  kernel_rfl
 ·obtain rfl | rfl:j=0∨j=1:=by omega
  ·kernel_rfl
  kernel_rfl
 ·obtain rfl | rfl:j=0∨j=1:=by omega
  ·kernel_rfl
  kernel_rfl
 omega
def Qsr (a b:Int):Int:=IntKind.i64.wrap (BitVec.ofInt IntKind.i64.bits a &&& ~~~BitVec.ofInt IntKind.i64.bits b).toNat
def QAA (x:BitVec 64):BitVec.ofInt 64 (IntKind.i64.wrap x.toNat)=x:=by
 have hx:=x.isLt;apply Fu;rw[B7,NU];omega
def QHN (l a b:Int):Zk (Qsr l a) b=IntKind.i64.wrap ((BitVec.ofInt 64 l &&& (~~~BitVec.ofInt 64 a &&& BitVec.ofInt 64 b)).toNat:Nat):=by
 show IntKind.i64.wrap ((BitVec.ofInt 64 (IntKind.i64.wrap ((BitVec.ofInt 64 l &&& ~~~BitVec.ofInt 64 a).toNat:Nat)) &&& BitVec.ofInt 64 b).toNat:Nat)=_;rw[QAA,BitVec.and_assoc]
def hit (left:Int)(i:Nat):Bool:=!(Zk left (XN i)==0)
def Qv2 (l:Int)(i j:Nat)(hi:i<3)(aa:j<3):hit (Qsr l (XN i)) j=if i=j then false else hit l j:=by
 unfold hit;rw[QHN];have z:IntKind.i64.wrap ((BitVec.ofInt 64 l &&& 0#64).toNat:Nat)=0:=by rw[BitVec.and_zero];rfl
 have e:∀b,Zk l b=IntKind.i64.wrap ((BitVec.ofInt 64 l &&& BitVec.ofInt 64 b).toNat:Nat):=λb=>rfl;obtain rfl | rfl | rfl:i=0∨i=1∨i=2:=by omega
 all_goals obtain rfl | rfl | rfl:j=0∨j=1∨j=2:=by omega
 all_goals first
  | (rw[show(~~~BitVec.ofInt 64 (XN 0) &&& BitVec.ofInt 64 (XN 0))=0#64 by decide,z];rfl)
  | (rw[show(~~~BitVec.ofInt 64 (XN 1) &&& BitVec.ofInt 64 (XN 1))=0#64 by decide,z];rfl)
  | (rw[show(~~~BitVec.ofInt 64 (XN 2) &&& BitVec.ofInt 64 (XN 2))=0#64 by decide,z];rfl)
  | (rw[show(~~~BitVec.ofInt 64 (XN 0) &&& BitVec.ofInt 64 (XN 1))=BitVec.ofInt 64 (XN 1) by decide,e];rfl)
  | (rw[show(~~~BitVec.ofInt 64 (XN 0) &&& BitVec.ofInt 64 (XN 2))=BitVec.ofInt 64 (XN 2) by decide,e];rfl)
  | (rw[show(~~~BitVec.ofInt 64 (XN 1) &&& BitVec.ofInt 64 (XN 0))=BitVec.ofInt 64 (XN 0) by decide,e];rfl)
  | (rw[show(~~~BitVec.ofInt 64 (XN 1) &&& BitVec.ofInt 64 (XN 2))=BitVec.ofInt 64 (XN 2) by decide,e];rfl)
  | (rw[show(~~~BitVec.ofInt 64 (XN 2) &&& BitVec.ofInt 64 (XN 0))=BitVec.ofInt 64 (XN 0) by decide,e];rfl)
  | (rw[show(~~~BitVec.ofInt 64 (XN 2) &&& BitVec.ofInt 64 (XN 1))=BitVec.ofInt 64 (XN 1) by decide,e];rfl)
def cnt (l:Int):Nat:=(hit l 0).toNat+(hit l 1).toNat+(hit l 2).toNat
def QJ2 (l:Int):cnt l<=3:=by
 unfold cnt;cases hit l 0<;>cases hit l 1<;>cases hit l 2<;>decide
def QHO (l:Int)(i:Nat)(hi:i<3)(h:hit l i=true):cnt (Qsr l (XN i))+1=cnt l:=by
 unfold cnt;rw[Qv2 l i 0 hi (by omega),Qv2 l i 1 hi (by omega),Qv2 l i 2 hi (by omega)];obtain rfl | rfl | rfl:i=0∨i=1∨i=2:=by omega
 all_goals (rw[h];simp;try omega)
def Qnt (bs:List Int):Nat->Int->Rr->Int×Rr
 | 0,_,c=>(0,c)
 | n+1,left,c=>
  let go:=λi=>if((XF bs c (Gd i)).1==0)=true then Qnt bs n (Qsr left (XN i)) (XF bs c (Gd i)).2 else XF bs c (Gd i)
  if hit left 0=true then go 0 else if hit left 1=true then go 1 else if hit left 2=true then go 2 else(0,c)
def Qaj (bs:List Int)(n:Nat)(left:Int)(c:Rr):Qnt bs (n+1) left c =
  if hit left 0=true then(if((XF bs c (Gd 0)).1==0)=true then Qnt bs n (Qsr left (XN 0)) (XF bs c (Gd 0)).2 else XF bs c (Gd 0))
  else if hit left 1=true then(if((XF bs c (Gd 1)).1==0)=true then Qnt bs n (Qsr left (XN 1)) (XF bs c (Gd 1)).2 else XF bs c (Gd 1))
  else if hit left 2=true then(if((XF bs c (Gd 2)).1==0)=true then Qnt bs n (Qsr left (XN 2)) (XF bs c (Gd 2)).2 else XF bs c (Gd 2))
  else(0,c):=rfl
def QE8 (bs:List Int)(n:Nat)(left:Int)(c:Rr)(i:Nat)(hi:i<3)(aa:∀j,j<i->hit left j=false)(h:hit left i=true):
  Qnt bs (n+1) left c=if((XF bs c (Gd i)).1==0)=true then Qnt bs n (Qsr left (XN i)) (XF bs c (Gd i)).2 else XF bs c (Gd i):=by
 obtain rfl | rfl | rfl:i=0∨i=1∨i=2:=by omega
 ·rw[Qaj,Lc h]
 ·rw[Qaj,Le (by rw[aa 0 (by omega)];decide),Lc h]
 rw[Qaj,Le (by rw[aa 0 (by omega)];decide),Le (by rw[aa 1 (by omega)];decide),Lc h]
def QC9 (bs:List Int)(n:Nat)(left:Int)(c:Rr)(aa:∀j,j<3->hit left j=false):Qnt bs n left c=(0,c):=by
 cases n with
 | zero=>rfl
 | succ n=>rw[Qaj,Le (by rw[aa 0 (by omega)];decide),Le (by rw[aa 1 (by omega)];decide),Le (by rw[aa 2 (by omega)];decide)]
def Qss (bs:List Int):List UInt8->Rr->Int×Rr
 | [],c=>(0,c)
 | n::l,c=>if((XF bs c n.toNat).1==0)=true then Qss bs l (XF bs c n.toNat).2 else XF bs c n.toNat
def Qst (bs:List Int)(c:Rr):Int×Rr:=if((QdE bs c).1==0)=true then Qss bs (QdF (QdE bs c).2.x.f.map) (QdE bs c).2 else QdE bs c
def QuB (bs:List Int)(e:Int×Rr):Int×Rr:=if(e.1==0)=true then Qst bs e.2 else e
def QtF (bs:List Int)(c:Rr):Int×Rr:=QuB bs (Qnt bs 4 c.x.f.pre c)
def QE9 {bs:List Int}{c:Rr}(h:0<=c.p∧c.p<=bs.length)(aa:bs.length<=1000000):0<=(QdE bs c).2.p∧(QdE bs c).2.p<=bs.length:=by
 unfold QdE;split;·exact h
 split;·rw[Qso];show 0<=IntKind.i64.wrap (c.p+1)∧IntKind.i64.wrap (c.p+1)<=bs.length;rw[w64 (by unfold I64;omega)];omega
 rw[Qso];exact h
def Qv3 (bs:List Int)(c:Rr):(QdE bs c).2.x=c.x∧(QdE bs c).2.bv=c.bv:=by
 unfold QdE;split;·exact⟨rfl,rfl⟩
 split<;>rw[Qso]<;>exact⟨rfl,rfl⟩
def rr3 (c:Rr):c.cells[3]? = some (.Z c.x.f.pre):=rfl
def rr4 (c:Rr):c.cells[4]? = some (.Z c.x.f.map):=rfl
def QLl:J0+0≠1∧J0+0≠0∧J0+0≠2:=by unfold J0;omega
def Jy.put {H0 H:Qa}{b:Nat}{c:Rr}{bs:List Int}(h:Jy H0 H b c bs){i:Nat}(hi:H0.y<=i)(aa:i≠b)(B:Blk):Jy H0 (H.set i B) b c bs:=
 ⟨h.wf,h.hx.set hi B,h.lo,by rw[Qh,Le (λe=>aa e.symm)];exact h.at_,h.fm,h.by_,h.len,h.p0⟩
def Q6.put {H H':Qa}{b:Nat}{c:Rr}(h:Q6 H H' b c){i:Nat}(hi:H.y<=i)(ac:i≠b)(B:Blk):Q6 H (H'.set i B) b c:=
 ⟨h.y,λid aa ab=>by rw[Qh,Le (by omega)];exact h.get id aa ab,by rw[Qh,Le (λe=>ac e.symm)];exact h.at_⟩
def QHP {H0 H:Qa}(b:Nat)(bs:List Int)(c:Rr)(r:Int×Rr)(e:Nat->Env->Qa->Prop)(A:Env)(H1:Qa)(aU:H.Wf)(aW:H1.Wf)(a0:A 0=.P b)(ah:Jy H0 H1 b c bs)(oc:Q6 H H1 b c)(aB:b<H.y)(aI:c.x.f.shapes.length=c.x.f.slots.length)(au:r=Qst bs c):
  Qk Pg XY ⟨Rt Pg Tryz.f52 H (KI H b r.1 r.2),e⟩ (Rt Pg Tryz.f52 H (KI H b r.1 r.2)) A H1:=by
 have ad:r=if((QdE bs c).1==0)=true then Qss bs (QdF (QdE bs c).2.x.f.map) (QdE bs c).2 else QdE bs c:=au
 clear au;simp only[XY,JY,Qb,simprocAttr,a0];refine(Qx9 b c bs H1 ah aI).w ?_;rintro _ H2 aR aX ⟨rfl,ao⟩;have ab:=ah.only ao (Qv3 bs c).1 (Qv3 bs c).2 (QE9 ah.p0 ah.len);have ag:=oc.trans ao;generalize QdE bs c=x at *;obtain⟨aP,c2⟩:=x;simp only at ad ab ag ao;cases q:aP==0 with
 | false=>
  rw[Le (by rw[q];decide)]at ad;simp only[Qb,simprocAttr,Xa,q];exact .mk ag.y ⟨by rw[ad],by rw[ad];exact ag⟩
 | true=>
  rw[Lc q]at ad;simp only[Qb,simprocAttr,a0,q,ab.at_,rr4];refine(QhF c2.x.f.map H2).w ?_;rintro _ H3 aS av ⟨rfl,rfl⟩;have aq:=QE6 c2.x.f.map;have aA:=QJ1 c2.x.f.map;generalize QdF c2.x.f.map=l at *;have aO:Pg.underlying 9=some .string:=by kernel_rfl
  simp only[Qb,simprocAttr];rw[QHM aO (s:=mkS l) (by simp only[Qf,simprocAttr])];simp only[Qb,simprocAttr];have aJ:=av.push (.iter (mkS l) 0);refine Qp (λm A' H'=>∃ (j:Nat) (c':Rr),j<=l.length∧m=l.length - j∧A' 0=.P b∧A' 51=.P H3.y∧H'.Wf∧H3.y<H'.y∧H'.get H3.y=some (.iter (mkS l) j)∧Jy H0 H' b c' bs∧Q6 H H' b c'∧r=Qss bs (l.drop j) c') l.length ?_ ?_
  ·refine⟨0,c2,L7 _,by omega,?_,?_,aJ,?_,?_,?_,?_,ad⟩;·simp only[Qf,simprocAttr,a0]
   ·simp only[Qf,simprocAttr]
   ·simp only[Qd];omega
   ·rw[Qc,Lc rfl]
   ·exact ab.only (Q6.refl ab.at_ |>.ext (av.lt ab.at_) ((Ext.refl H3).push _)) rfl rfl ab.p0
   exact ag.ext aB ((Ext.refl H3).push _)
  rintro m A' H' ⟨j,c',aQ,rfl,r0,ax,aV,aF,aC,aH,an,ae⟩;simp only[JX,JW,Qb,simprocAttr];rw[QJ0 (A:=A') (x:=t 51) (b:=H3.y) (p:=j) (s:=mkS l) (by simp only[Qf,simprocAttr,ax]) aC];have az:H.y<=H3.y:=ag.y;have am:H3.y≠b:=by omega
  have ay:H0.y<=H3.y:=by have:=ab.hx.y;omega
  by_cases ac:j<l.length
  ·rw[Lc (by rw[aq];exact ac),aA j ac];have al:l.drop j=l.getD j 0::l.drop (j+1):=by
    rw[Nh ac,LX,La ac];rfl
   generalize l.getD j 0=x at *;have aY:x.toNat<256:=x.toNat_lt;have aL:IntKind.i64.wrap ((x.toNat:Nat):Int)=x.toNat:=w64 (by unfold I64;omega);have ai:=aH.put ay am (.iter (mkS l) (j+1));have aG:=an.put az am (.iter (mkS l) (j+1));have aD:(H'.set H3.y (.iter (mkS l) (j+1))).get H3.y=some (.iter (mkS l) (j+1)):=by rw[Qh,Lc rfl]
   have ar:H3.y<(H'.set H3.y (.iter (mkS l) (j+1))).y:=aF;rw[al]at ae;have aa:r=if((XF bs c' x.toNat).1==0)=true then Qss bs (l.drop (j+1)) (XF bs c' x.toNat).2 else XF bs c' x.toNat:=ae
   clear ae;generalize H'.set H3.y (.iter (mkS l) (j+1))=H4 at *;simp only[Qb,simprocAttr,r0,aL];refine(Qns b c' bs x.toNat H4 ai).w ?_;rintro _ H5 aT aK ⟨rfl,aj⟩;have ap:=ai.only aj rfl rfl (QAx ai.p0 ai.len);have ak:=aG.trans aj;have aE:H5.get H3.y=some (.iter (mkS l) (j+1)):=by rw[aj.get _ ar am];exact aD
   have aM:(XF bs c' x.toNat).1=(Qqn bs c'.p x.toNat).1:=rfl;have aN:(XF bs c' x.toNat).2={c' with p:=(Qqn bs c'.p x.toNat).2}:=rfl;rw[<- aM];rw[<- aN]at ap ak;cases z:(XF bs c' x.toNat).1==0 with
   | false=>
    rw[Le (by rw[z];decide)]at aa;simp only[Qb,simprocAttr,z,Xa];exact .mk ak.y ⟨by rw[aa],by rw[aa];exact ak⟩
   | true=>
    rw[Lc z]at aa;simp only[Qb,simprocAttr,z];refine⟨_,?_,j+1,(XF bs c' x.toNat).2,ac,rfl,?_,?_,aK,N5 ar aj.y,aE,ap,ak,aa⟩;·omega
    ·simp only[Qf,simprocAttr,r0]
    simp only[Qf,simprocAttr,ax]
  rw[Le (by rw[aq];exact ac)];have al:l.drop j=[]:=NR (by omega);rw[al]at ae;have aa:r=(0,c'):=ae;simp only[Qb,simprocAttr,Xa];exact .mk an.y ⟨by rw[aa],by rw[aa];exact an⟩
def QII {A:Env}{H:Qa}{k:Value->Qa->Prop}{x:Operand}(B:Nat)(hx:ev A x=.P B):pr Pg (.gen (.indexAddr tA2 x (.const (.Z 0)))) false A H k=k (.P B) H:=QLk B 0 (by omega) hx
def QLm {A:Env}{H:Qa}{k:Value->Qa->Prop}{x:Operand}(B:Nat)(hx:ev A x=.P B):pr Pg (.gen (.indexAddr tA2 x (.const (.Z 1)))) false A H k=k (.pointer (some ⟨B,1,none⟩)) H:=QLk B 1 (by omega) hx
def QFa {H0:Qa}(b:Nat)(c:Rr)(bs:List Int)(H:Qa)(h:Jy H0 H b c bs)(aN:c.x.f.shapes.length=c.x.f.slots.length):Qe Pg 52 [.P b] H (KI H b (QtF bs c).1 (QtF bs c).2):=by
 refine QfT λan=>?_;obtain⟨r,am⟩:∃r,r=QtF bs c:=⟨_,rfl⟩;rw[<- am];have aL:r=QuB bs (Qnt bs 4 c.x.f.pre c):=am;clear am;have au:b<H.y:=an.lt h.at_;simp only[GF,Qb,simprocAttr];have body:∀ (I:Nat->Env->Qa->Prop),I=(λm A' H'=>∃ (left:Int) (c':Rr),cnt left<=m∧A' 0=.P b∧A' 3=.Z left∧H'.Wf∧Jy H0 H' b c' bs∧Q6 H H' b c'∧c'.x=c.x∧r=QuB bs (Qnt bs m left c'))->∀m A' H',I m A' H'->
   Qk Pg WZ ⟨Rt Pg Tryz.f52 H (KI H b r.1 r.2),jmK 0 I m Xi⟩ (Rt Pg Tryz.f52 H (KI H b r.1 r.2)) A' H':=by
  intro I ar m A' H' ax;rw[ar]at ax;obtain⟨left,c',aU,a0,a3,aO,aM,aK,av,aa⟩:=ax;simp only[WZ,Qb,simprocAttr,QHI,QHJ,QHK];rw[QJZ];simp only[Qb,simprocAttr];refine Qp (λq A2 H2=>∃i:Nat,i<=3∧q=3 - i∧A2 0=.P b∧A2 3=.Z left∧A2 19=QAz∧A2 20=.Z i∧(∀j,j<i->hit left j=false)∧H2.Wf∧Jy H0 H2 b c' bs∧Q6 H H2 b c') 3 ?_ ?_
  ·refine⟨0,by omega,rfl,?_,?_,?_,?_,λj ay=>by omega,aO,aM,aK⟩
   all_goals simp only[uxA,uxB,Nat.reduceBEq,a0,a3]
   rfl
  rintro q A2 H2 ⟨i,hi,rfl,r0,r3,aE,ap,al,aj,ab,az⟩;simp only[J2,Qb,simprocAttr,ap]
  by_cases ae:i<3
  ·have ak:(i:Int)<3:=by omega
   simp only[ak,Nf,J1,Qb,simprocAttr];rw[QHL i ae (by simp only[Qf,simprocAttr,aE]) (by simp only[Qf,simprocAttr,ap])];simp only[Qdn,Qb,simprocAttr];have ag:((H2.push (.C [.Z 0,.Z 0] tA2)).set H2.y (.C [.Z (XN i),.Z (Gd i)] tA2)).get H2.y=some (.C [.Z (XN i),.Z (Gd i)] tA2):=by rw[Qh,Lc rfl]
   have aC:((H2.push (.C [.Z 0,.Z 0] tA2)).set H2.y (.C [.Z (XN i),.Z (Gd i)] tA2)).Wf:=(aj.push _).set (by rw[Qc,Lc rfl]) _;have aD:Ext H2 ((H2.push (.C [.Z 0,.Z 0] tA2)).set H2.y (.C [.Z (XN i),.Z (Gd i)] tA2)):=((Ext.refl H2).push _).set (Lb _) _;generalize (H2.push (.C [.Z 0,.Z 0] tA2)).set H2.y (.C [.Z (XN i),.Z (Gd i)] tA2)=H3 at *;have ac:=ab.only ((Q6.refl ab.at_).ext (aj.lt ab.at_) aD) rfl rfl ab.p0;have aA:=az.ext au aD;rw[QII H2.y (by simp only[Qf,simprocAttr])];have aH:IntKind.i64.wrap (BitVec.ofInt IntKind.i64.bits left &&& BitVec.ofInt IntKind.i64.bits (XN i)).toNat=Zk left (XN i):=rfl;have aI:IntKind.i64.wrap (BitVec.ofInt IntKind.i64.bits left &&& ~~~BitVec.ofInt IntKind.i64.bits (XN i)).toNat=Qsr left (XN i):=rfl;simp only[Qb,simprocAttr,ag,r3,aH];cases z:Zk left (XN i)==0 with
   | true=>
    have ah:hit left i=false:=by unfold hit;rw[z];rfl
    have aG:IntKind.i64.wrap ((i:Int)+1)=((i+1:Nat):Int):=by rw[w64 (by unfold I64;omega)];omega
    simp only[Qb,simprocAttr,ap,aG];refine⟨_,?_,i+1,ae,rfl,?_,?_,?_,?_,λj ay=>?_,aC,ac,aA⟩;·omega
    ·simp only[Qf,simprocAttr,r0]
    ·simp only[Qf,simprocAttr,r3]
    ·simp only[Qf,simprocAttr,aE]
    ·simp only[Qf,simprocAttr]
    by_cases e:j=i;·rw[e];exact ah
    exact al j (by omega)
   | false=>
    have ah:hit left i=true:=by unfold hit;rw[z];rfl
    have aT:=QHO left i ae ah;obtain⟨n,rfl⟩:∃n,m=n+1:=⟨m - 1,by omega⟩;rw[QE8 bs n left c' i ae al ah]at aa;simp only[JZ,Qb,simprocAttr];rw[QLm H2.y (by simp only[Qf,simprocAttr])];simp only[Qb,simprocAttr,ag,r0];refine(Qns b c' bs (Gd i) H3 ac).w ?_;rintro _ H4 aV aP ⟨rfl,ao⟩;have aq:=ac.only ao rfl rfl (QAx ac.p0 ac.len);have ai:=aA.trans ao;have aJ:H4.get H2.y=some (.C [.Z (XN i),.Z (Gd i)] tA2):=by
     rw[ao.get _ (aC.lt ag) (by have:=aj.lt ab.at_;omega)];exact ag
    have aQ:(XF bs c' (Gd i)).1=(Qqn bs c'.p (Gd i)).1:=rfl;have aR:(XF bs c' (Gd i)).2={c' with p:=(Qqn bs c'.p (Gd i)).2}:=rfl;have aS:(XF bs c' (Gd i)).2.x=c'.x:=rfl;rw[<- aQ];rw[<- aR]at aq ai;generalize XF bs c' (Gd i)=x at *;cases ad:x.1==0 with
    | false=>
     rw[Le (by rw[ad];decide)]at aa;have aB:r=x:=by rw[aa];unfold QuB;rw[Le (by rw[ad];decide)]
     simp only[Qb,simprocAttr,ad,Xa];exact .mk ai.y ⟨by rw[aB],by rw[aB];exact ai⟩
    | true=>
     rw[Lc ad]at aa;have ay:=QLl;simp only[Qb,simprocAttr,ad,r3];rw[QII H2.y (by simp only[Qf,simprocAttr])];simp only[Qb,simprocAttr,aJ,aI];rw[ar];refine⟨n,by omega,Qsr left (XN i),x.2,by omega,?_,?_,aP,aq,ai,by rw[aS,av],aa⟩;·simp only[Qf,simprocAttr,r0]
     simp only[Qf,simprocAttr]
  have ak:¬ (i:Int)<3:=by omega
  simp only[ak,NE,Qb,simprocAttr];obtain rfl:i=3:=by omega
  rw[QC9 bs m left c' al]at aa;exact QHP b bs c' r _ _ H2 an aj (by simp only[Qf,simprocAttr,r0]) ab az au (by rw[av];exact aN) aa
 refine Qpm _ 4 ?_ (body _ rfl);have aF:Jk=WZ:=rfl;simp only[Jl,Qb,simprocAttr,h.at_,rr3,aF];refine body _ rfl 4 _ _ ⟨c.x.f.pre,c,N8 (QJ2 _) (by omega),?_,?_,an,h,Q6.refl h.at_,rfl,aL⟩
 all_goals simp only[Qf,simprocAttr]
def QHQ (bs:List Int)(c:Rr):Rr:={c with r:=(YF bs).1.r,xx:=(YF bs).1.x,bb:=(YF bs).1.b,v:=(YF bs).1.v,p:=(YF bs).2.1}
def Qyd (m:Vd)(f:Fm):Bool:=!(m.map==f.map)||(!(f.w==-1)&&!(m.w==f.w))||!(m.l==f.l)||!(m.pre==f.pre)
def QoJ (bs:List Int)(c:Rr):Int×Rr:=
 if((YF bs).2.2==0)=false then((YF bs).2.2,c)
 else if Qyd (YF bs).1 c.x.f=true then(4,QHQ bs c)
 else if((!((YF bs).1.v==0)&&decide (Qy c.x.f.slots 3<0))||!Qdm c.x.f (YF bs).1.r (YF bs).1.x (YF bs).1.b)=true then(4,QHQ bs c)
 else(0,QHQ bs c)
def QFb (bs:List Int):0<=(YF bs).2.1∧(YF bs).2.1<=bs.length:=by
 unfold YF
 repeat' split
 all_goals (simp only;omega)
def QLn (c:Rr):c.cells[7]? = some (.Z c.x.f.w):=rfl
def rr9 (c:Rr):c.cells[9]? = some (.Z c.x.f.l):=rfl
def QMn (c:Rr)(n:Int):List.take 16 c.cells++(Value.Z n::List.drop 17 c.cells)=({c with v:=n}:Rr).cells:=rfl
def QJ3 (v:Vd):v.cells.length=8:=rfl
def vx0 (v:Vd):v.cells[0]? = some (.Z v.r):=rfl
def vx1 (v:Vd):v.cells[1]? = some (.Z v.x):=rfl
def QMo (v:Vd):v.cells[2]? = some (.Z v.b):=rfl
def QMp (v:Vd):v.cells[3]? = some (.Z v.map):=rfl
def vx4 (v:Vd):v.cells[4]? = some (.Z v.w):=rfl
def vx5 (v:Vd):v.cells[5]? = some (.Z v.v):=rfl
def vx6 (v:Vd):v.cells[6]? = some (.Z v.l):=rfl
def vx7 (v:Vd):v.cells[7]? = some (.Z v.pre):=rfl
def QBA {H0 H:Qa}(b:Nat)(bs:List Int)(c:Rr)(r:Int×Rr)(e:Nat->Env->Qa->Prop)(A:Env)(H1:Qa)(br:H.Wf)(bu:H1.Wf)(a0:A 0=.P b)(am:Jy H0 H1 b c bs)(oc:Q6 H H1 b c)(ai:b<H.y)(bi:c.x.f.shapes.length=c.x.f.slots.length)(aI:r=QoJ bs c):
    Qk Pg XW ⟨Rt Pg Tryz.f51 H (KI H b r.1 r.2),e⟩ (Rt Pg Tryz.f51 H (KI H b r.1 r.2)) A H1:=by
  have ab:r=if((YF bs).2.2==0)=false then((YF bs).2.2,c)
    else if Qyd (YF bs).1 c.x.f=true then(4,{c with r:=(YF bs).1.r,xx:=(YF bs).1.x,bb:=(YF bs).1.b,v:=(YF bs).1.v,p:=(YF bs).2.1})
    else if((!((YF bs).1.v==0)&&decide (Qy c.x.f.slots 3<0))||!Qdm c.x.f (YF bs).1.r (YF bs).1.x (YF bs).1.b)=true then(4,{c with r:=(YF bs).1.r,xx:=(YF bs).1.x,bb:=(YF bs).1.b,v:=(YF bs).1.v,p:=(YF bs).2.1})
    else(0,{c with r:=(YF bs).1.r,xx:=(YF bs).1.x,bb:=(YF bs).1.b,v:=(YF bs).1.v,p:=(YF bs).2.1}):=aI
  clear aI;have aJ:=QFb bs;obtain⟨ar,hx,lo,ao,fm,by_,len,p0⟩:=id am;have aT:Qh3 H1 c.bv bs:=by
    obtain⟨a,cap,aW,aX⟩:=by_;refine⟨a,cap,aW,λaZ=>?_⟩;obtain⟨bb,o,e,ro,cs,e1,aE,aY⟩:=aX aZ;exact⟨bb,o,e,ro,cs,e1,by rw[hx.get bb (ar.lt aE),aE],aY⟩
  simp only[XW,Qb,simprocAttr,a0,ao,QtE];refine(QAu c.bv bs H1 aT len).w ?_;rintro _ _ ba bw ⟨rfl,k,rfl⟩;have aj:H1.y<=k:=ba;have aM:=oc.up aj;have bo:=am.up aj;have bq:b<k:=N5 ai (N8 oc.y aj);generalize YF bs=mm at *;obtain⟨m,n,x⟩:=mm;simp only at ab aJ;simp only[Qb,simprocAttr,QJ3];have au:=λB C=>((Ext.refl (H1.up k)).push B).set (i:=k) (Lb _) C;cases z:x==0 with
  | false=>
    rw[Lc z]at ab;simp only[Qb,simprocAttr,QC];exact⟨rfl,.mk (aM.ext ai (au _ _)).y ⟨by rw[ab],by rw[ab];exact aM.ext ai (au _ _)⟩⟩
  | true=>
    rw[Le (by rw[z];decide)]at ab;have bd:(b=k)=False:=by simp;omega
    simp only[JS,Qb,simprocAttr,a0,bd];refine⟨rfl,?_⟩;have aV:∀ (q:Int) (K:Nat),(Qj K 6 (.Z q)=true)=True:=λ_ _=>eq_true rfl;have aH:(k=b)=False:=by simp;omega
    simp only[Qb,simprocAttr,vx0,vx1,QMo,vx5,aV,a0,aH,ao,WF,QJV,QJW,QJX,QMn,QAw];obtain⟨aa,ae⟩:∃aa:Rr,aa={c with r:=m.r,xx:=m.x,bb:=m.b,v:=m.v,p:=n}:=⟨_,rfl⟩;rw[<- ae]at ab ⊢;generalize an:Qa.set _ b (.C aa.cells 74)=H9;have aO:Q6 H1 H9 b aa:=by
      rw[<- an];exact(((((((Q6.refl ao).up aj).ext (N5 ai oc.y) (au _ _)).set _).set _).set _).set _).set aa
    have gk:H9.get k=some (.C m.cells 154):=by
      rw[<- an];simp only[Qh,aH,LN,N3]
    have ag:=am.only aO (by rw[ae]) (by rw[ae]) (by rw[ae];exact aJ);have ah:=oc.trans aO;have aR:aa.x=c.x:=by rw[ae]
    have bh:aa.r=m.r:=by rw[ae]
    have bm:aa.xx=m.x:=by rw[ae]
    have aU:aa.bb=m.b:=by rw[ae]
    clear an ae;have e4:∀f:Fm,Qyd m f=(!(m.map==f.map)||(!(f.w==-1)&&!(m.w==f.w))||!(m.l==f.l)||!(m.pre==f.pre)):=λ_=>rfl;rw[e4,<- aR]at ab;have aL:Qyd m aa.x.f=true->r=(4,aa):=λh=>by rw[<- e4,Lc h]at ab;exact ab
    have aC:=ag.at_;have aD:Qyd m aa.x.f=false->∀ (e':Nat->Env->Qa->Prop) (av:Env->Qa->Prop),(∀A3 H3,r=(0,aa)->Q6 H H3 b aa->av A3 H3)->∀A2:Env,A2 0=.P b->A2 4=.P k->Qk Pg XV ⟨Rt Pg Tryz.f51 H (KI H b r.1 r.2),e'⟩ av A2 H9:=by
      intro bg e' av aG A2 a0 a4;rw[<- e4,Le (by rw[bg];decide),<- bh,<- bm,<- aU]at ab;have bn:=QH aa.x 3 H9 (ag.fm.ext ar ag.hx);have aP:=fun(aK:Nat) (aF:H9.y<=aK)=>QoH b aa (H9.up aK) (ag.up aF).at_ (ag.fm.ext ar (ag.up aF).hx) (by rw[aR];exact bi);generalize Qy aa.x.f.slots 3=i3 at *;generalize bp:Qdm aa.x.f aa.r aa.xx aa.bb=al at *;simp only[XV,Qb,simprocAttr,a4,gk,vx5];cases aS:m.v==0 with
      | true=>
        rw[aS]at ab;have aQ:=aP H9.y (Lb _);rw[Qa.up_self]at aQ;simp only[Qb,simprocAttr,a0];refine aQ.w ?_;rintro _ _ aq bj ⟨rfl,k5,rfl⟩;have ad:=ah.up (show H9.y<=k5 from aq);cases al with
        | false=>
          have ac:r=(4,aa):=by rw[Lc (by rfl)]at ab;exact ab
          simp only[Qb,simprocAttr,QC];exact .mk ad.y ⟨by rw[ac],by rw[ac];exact ad⟩
        | true=>
          have ac:r=(0,aa):=by rw[Le (by simp)]at ab;exact ab
          simp only[Qb,simprocAttr];exact aG _ _ ac ad
      | false=>
        rw[aS]at ab;simp only[Qb,simprocAttr,a0,aC,WF,Xy];refine bn.w ?_;rintro _ _ bc bx ⟨rfl,k4,rfl⟩;have ap:H9.y<=k4:=bc;cases ak:decide (i3<0) with
        | true=>
          rw[ak]at ab;have ac:r=(4,aa):=by rw[Lc (by rfl)]at ab;exact ab
          have ad:=ah.up ap;simp only[Qb,simprocAttr,ak,QC];exact .mk ad.y ⟨by rw[ac],by rw[ac];exact ad⟩
        | false=>
          rw[ak]at ab;simp only[Qb,simprocAttr,ak,a0];refine(aP k4 ap).w ?_;rintro _ _ aq bj ⟨rfl,k5,rfl⟩;have ad:=(ah.up ap).up (show(H9.up k4).y<=k5 from aq);cases al with
          | false=>
            have ac:r=(4,aa):=by rw[Lc (by rfl)]at ab;exact ab
            simp only[Qb,simprocAttr,QC];exact .mk ad.y ⟨by rw[ac],by rw[ac];exact ad⟩
          | true=>
            have ac:r=(0,aa):=by rw[Le (by decide)]at ab;exact ab
            simp only[Qb,simprocAttr];exact aG _ _ ac ad
    rw[e4]at aL aD;cases ax:m.map==aa.x.f.map<;>cases ay:aa.x.f.w==-1<;>cases az:m.w==aa.x.f.w<;>cases aA:m.l==aa.x.f.l<;>cases aB:m.pre==aa.x.f.pre<;>simp only[Qb,simprocAttr,a0,gk,aC,QMp,vx4,vx6,vx7,rr4,QLn,rr9,rr3,ax,ay,az,aA,aB,QC]
    all_goals first
      | (have ac:=aL (by rw[ax,ay,az,aA,aB];rfl)
         exact .mk ah.y ⟨by rw[ac],by rw[ac];exact ah⟩)
      | (refine aD (by rw[ax,ay,az,aA,aB];rfl) _ _ (λA3 H3 ac aN=>?_) _ ?_ ?_
         · simp only[Qb,simprocAttr,QC]
           exact .mk aN.y ⟨by rw[ac],by rw[ac];exact aN⟩
         · simp only[Qf,simprocAttr,a0]
         · simp only[Qf,simprocAttr])
def Qv4 (n:Int)(s:Nat):Int:=Qbb (Zk (QeR n s) 1) 1
def QfY (bs:List Int)(c:Rr):Rr:={c with r:=Qv4 (IntKind.i64.wrap (bs.getD 1 0)) 7,xx:=Qv4 (IntKind.i64.wrap (bs.getD 1 0)) 6,bb:=Qv4 (IntKind.i64.wrap (bs.getD 1 0)) 5}
def QtG (bs:List Int)(c:Rr):Int×Rr:=
 if bs.length=0 then(9,c)
 else if((bs.getD 0 0==197)&&(c.x.f.map==1)&&!(c.x.f.w==1))=true then QoJ bs c
 else if(bs.getD 0 0==196)=false then(4,c)
 else if bs.length<2 then(9,c)
 else if(!(Zk (IntKind.i64.wrap (bs.getD 1 0)) 31==c.x.f.map)||!Qdm c.x.f (QfY bs c).r (QfY bs c).xx (QfY bs c).bb)=true then(4,QfY bs c)
 else QoJ bs (QfY bs c)
def QFc {H0:Qa}(b:Nat)(c:Rr)(bs:List Int)(H:Qa)(h:Jy H0 H b c bs)(am:c.x.f.shapes.length=c.x.f.slots.length):Qe Pg 51 [.P b] H (KI H b (QtG bs c).1 (QtG bs c).2):=by
  refine QfS λah=>?_;obtain⟨r,ae⟩:∃r,r=QtG bs c:=⟨_,rfl⟩;rw[<- ae];have aa:r=if bs.length=0 then(9,c)
    else if((bs.getD 0 0==197)&&(c.x.f.map==1)&&!(c.x.f.w==1))=true then QoJ bs c
    else if(bs.getD 0 0==196)=false then(4,c)
    else if bs.length<2 then(9,c)
    else if(!(Zk (IntKind.i64.wrap (bs.getD 1 0)) 31==c.x.f.map)||!Qdm c.x.f (QfY bs c).r (QfY bs c).xx (QfY bs c).bb)=true then(4,QfY bs c)
    else QoJ bs (QfY bs c):=ae
  clear ae;obtain⟨aA,hx,lo,ab,fm,by_,len,p0⟩:=id h;obtain⟨a,cap,aP,aR⟩:=id by_;have aQ:∀c':Rr,c'.bv=c.bv->c'.cells[10]? = some (.slice a bs.length cap):=λc' h=>by rw[QtE,h,aP]
  have ad:=aQ c rfl;have av:b<H.y:=ah.lt ab;have oc:=Q6.refl ab;simp only[GE,Qb,simprocAttr,ab,ad]
  by_cases g:bs.length=0
  · rw[Lc g]at aa
    have ak:((bs.length:Int)==0)=true:=by rw[g];rfl
    simp only[ak,Qb,simprocAttr,QC];exact .mk (Lb _) ⟨by rw[aa],by rw[aa];exact oc⟩
  · rw[Le g]at aa
    have ak:((bs.length:Int)==0)=false:=by simp;intro e;rw[e]at g;exact g rfl
    obtain⟨bb,o,e,ro,cs,rfl,ay,ax⟩:=aR (by omega);have al:H.get bb=some (.cells cs e ro):=(hx.get bb (aA.lt ay)).trans ay;have c1:(0:Int)<=0∧(0:Int)<bs.length:=by omega
    have g1:cs[o]? = some (.int .u8 (bs.getD 0 0)):=ax 0 (by omega);have t0:(0:Int).toNat=0:=rfl;simp only[ak,JV,Qb,simprocAttr,ab,ad,c1,al,t0,g1];have ba:=fun(e':Nat->Env->Qa->Prop) (A:Env) (a0:A 0=.P b) (ae:r=QoJ bs c)=>QBA b bs c r e' A H ah ah a0 h oc av am ae;have aZ:((bs.getD 0 0==197)&&(c.x.f.map==1)&&!(c.x.f.w==1))=false->∀ (e':Nat->Env->Qa->Prop) (an:Env->Qa->Prop),(∀ (A3:Env) (H3:Qa),A3 0=.P b->H3.Wf->Jy H0 H3 b (QfY bs c) bs->Q6 H H3 b (QfY bs c)->r=QoJ bs (QfY bs c)->an A3 H3)->∀A2:Env,A2 0=.P b->Qk Pg XX ⟨Rt Pg Tryz.f51 H (KI H b r.1 r.2),e'⟩ an A2 H:=by
      intro aV e' an aS A2 a0;rw[Le (by rw[aV];decide)]at aa;simp only[XX,Qb,simprocAttr,a0,ab,ad,c1,al,t0,g1];cases aD:bs.getD 0 0==196 with
      | false=>
        rw[Lc aD]at aa;simp only[Qb,simprocAttr,QC];exact .mk (Lb _) ⟨by rw[aa],by rw[aa];exact oc⟩
      | true=>
        rw[Le (by rw[aD];decide)]at aa;simp only[JU,Qb,simprocAttr,a0,ab,ad]
        by_cases g2:bs.length<2
        · rw[Lc g2]at aa
          have g3:(bs.length:Int)<2:=by omega
          simp only[g3,Nf,Qb,simprocAttr,QC];exact .mk (Lb _) ⟨by rw[aa],by rw[aa];exact oc⟩
        · rw[Le g2]at aa
          have g3:¬ (bs.length:Int)<2:=by omega
          have c2:(0:Int)<=1∧(1:Int)<bs.length:=by omega
          have t1:(1:Int).toNat=1:=rfl;have g4:=ax 1 (by omega);have aB:QfY bs c={c with r:=Qv4 (IntKind.i64.wrap (bs.getD 1 0)) 7,xx:=Qv4 (IntKind.i64.wrap (bs.getD 1 0)) 6,bb:=Qv4 (IntKind.i64.wrap (bs.getD 1 0)) 5}:=rfl;have aM:(0:Int)<=7:=by omega
          have aL:(0:Int)<=6:=by omega
          have aK:(0:Int)<=5:=by omega
          generalize aT:IntKind.i64.wrap (bs.getD 1 0)=n at *;have bg:IntKind.i64.wrap (BitVec.ofInt IntKind.i64.bits (IntKind.i64.wrap (BitVec.ofInt IntKind.i64.bits (n.fdiv (2 ^ min (Int.toNat 7) IntKind.i64.bits)) &&& BitVec.ofInt IntKind.i64.bits 1).toNat) ^^^ BitVec.ofInt IntKind.i64.bits 1).toNat=Qv4 n 7:=rfl;have bd:IntKind.i64.wrap (BitVec.ofInt IntKind.i64.bits (IntKind.i64.wrap (BitVec.ofInt IntKind.i64.bits (n.fdiv (2 ^ min (Int.toNat 6) IntKind.i64.bits)) &&& BitVec.ofInt IntKind.i64.bits 1).toNat) ^^^ BitVec.ofInt IntKind.i64.bits 1).toNat=Qv4 n 6:=rfl;have bc:IntKind.i64.wrap (BitVec.ofInt IntKind.i64.bits (IntKind.i64.wrap (BitVec.ofInt IntKind.i64.bits (n.fdiv (2 ^ min (Int.toNat 5) IntKind.i64.bits)) &&& BitVec.ofInt IntKind.i64.bits 1).toNat) ^^^ BitVec.ofInt IntKind.i64.bits 1).toNat=Qv4 n 5:=rfl;have aO:IntKind.i64.wrap (BitVec.ofInt IntKind.i64.bits n &&& BitVec.ofInt IntKind.i64.bits 31).toNat=Zk n 31:=rfl;simp only[g3,NE,JT,sxA,sxB,Nat.reduceBEq,Nat.reduceEqDiff,reduceCtorEq,mxA,mxB,Nat.reduceAdd,reduceIte,Nat.reduceLeDiff,splice,a0,ab,ad,c2,al,t1,g4,aT,aM,aL,aK,bg,bd,bc,aO,WF,QJV,QJW,QJX];rw[<- aB];have ap:(QfY bs c).x=c.x:=rfl;have aE:(QfY bs c).bv=c.bv:=rfl;have aX:(QfY bs c).p=c.p:=rfl;clear aB;generalize QfY bs c=c9 at *;generalize aN:Qa.set _ b (.C c9.cells 74)=H9;have ai:Q6 H H9 b c9:=by
            rw[<- aN];exact((oc.set _).set _).set c9
          have ag:=h.only ai ap aE (by rw[aX];exact p0);have aJ:=ag.at_;have aY:=QoH b c9 H9 aJ (ag.fm.ext aA ag.hx) (by rw[ap];exact am);rw[<- ap]at aa;simp only[Qb,simprocAttr,rr4];cases au:Zk n 31==c9.x.f.map with
          | false=>
            have ac:r=(4,c9):=by rw[aa,Lc (by rw[au];rfl)]
            simp only[Qb,simprocAttr,QC];exact .mk ai.y ⟨by rw[ac],by rw[ac];exact ai⟩
          | true=>
            simp only[Qb,simprocAttr,a0];refine aY.w ?_;rintro _ _ aU aW ⟨rfl,k5,rfl⟩;have az:H9.y<=k5:=aU;have ao:=ai.up az;cases aj:Qdm c9.x.f c9.r c9.xx c9.bb with
            | false=>
              have ac:r=(4,c9):=by rw[aa,Lc (by rw[au,aj];rfl)]
              simp only[Qb,simprocAttr,aj,QC];exact .mk ao.y ⟨by rw[ac],by rw[ac];exact ao⟩
            | true=>
              have ac:r=QoJ bs c9:=by rw[aa,Le (by rw[au,aj];decide)]
              simp only[Qb,simprocAttr,aj];refine aS _ _ ?_ aW (ag.up az) ao ac;simp only[Qf,simprocAttr,a0]
    cases aC:bs.getD 0 0==197<;>cases aq:c.x.f.map==1<;>cases ar:c.x.f.w==1<;>simp only[Qb,simprocAttr,ab,rr4,QLn,aq,ar]
    all_goals first
      | (rw[Lc (by rw[aC,aq,ar];rfl)]at aa
         refine ba _ _ ?_ aa;simp only[Qf,simprocAttr])
      | (refine aZ (by rw[aC,aq,ar];rfl) _ _ (λA3 H3 b0 aI aH aG aF=>QBA b bs (QfY bs c) r _ A3 H3 ah aI b0 aH aG av am aF) _ ?_
         simp only[Qf,simprocAttr])
def QbR (bs:List Int)(c:Rr):Int×Rr:=bif c.x.f.vex then QtG bs c else QtF bs c
def QJ4 {H0:Qa}(b:Nat)(c:Rr)(bs:List Int)(H:Qa)(h:Jy H0 H b c bs)(ab:c.x.f.shapes.length=c.x.f.slots.length):Qe Pg 29 [.P b] H (KI H b (QbR bs c).1 (QbR bs c).2):=by
 refine Qh2 λah=>?_;have ae:=QFc b c bs H h ab;have ag:=QFa b c bs H h ab;have aa:QbR bs c=bif c.x.f.vex then QtG bs c else QtF bs c:=rfl
 simp only[VX,Qb,simprocAttr,h.at_,rr8];cases z:c.x.f.vex with
 | true=>
  rw[z]at aa;simp only[Qb,simprocAttr];refine ae.w ?_;rintro _ _ ac ad ⟨rfl,oc⟩;simp only[Qb,simprocAttr,Vt];exact .mk oc.y ⟨by rw[aa];rfl,by rw[aa];exact oc⟩
 | false=>
  rw[z]at aa;simp only[Qb,simprocAttr];refine ag.w ?_;rintro _ _ ac ad ⟨rfl,oc⟩;simp only[Qb,simprocAttr,Vt];exact .mk oc.y ⟨by rw[aa];rfl,by rw[aa];exact oc⟩
def rA (c:Rr)(s n:Int):Ar:=⟨1,⟨QHH c s n,n⟩,WX,0⟩
def nA (k n:Int):Ar:=⟨k,⟨0,0⟩,WX,n⟩
def QFd (s:Int):Ar:=if s=28 then⟨1,⟨1,0⟩,WX,0⟩ else if s=29 then⟨1,⟨3,0⟩,WX,0⟩ else if s=30 then⟨1,⟨4,0⟩,WX,0⟩ else if s=31 then⟨1,⟨5,0⟩,WX,0⟩ else if s=32 then⟨1,⟨1,1⟩,WX,0⟩ else nA 3 1
def QAB (s:Int):QHF s=(QFd s).cells:=by
 unfold QHF QFd
 repeat' split
 all_goals rfl
def Qjm (c:Rr)(s n:Int):Qya (QHH c s n) n=(rA c s n).cells:=rfl
def opA (c:Rr)(s slot n aa:Int):Ar:=
 if(slot==1)=true then rA c s (IntKind.i64.wrap (IntKind.i64.wrap (8 * c.r)+c.seen.fld))
 else if(slot==3)=true then rA c s c.v
 else if(slot==4)=true then rA c s (IntKind.i64.wrap (IntKind.i64.wrap (8 * c.bb)+c.low))
 else if(slot==7)=true then rA c s aa
 else if(slot==6)=true then QFd s
 else if(slot==2)=true then(if decide (0<=c.seen.reg)=true then rA c s c.seen.reg else⟨2,⟨0,0⟩,{c.seen.m with sz:=szF s},0⟩)
 else if(s==26||s==27)=true then nA 4 n else nA 3 n
def QMq (c:Rr):c.cells[16]? = some (.Z c.v):=rfl
def QMr (c:Rr):c.cells[18]? = some (.Z c.seen.fld):=rfl
def QLo (c:Rr):c.cells[19]? = some (.Z c.seen.reg):=rfl
def QMs (c:Rr):List.take 7 (List.drop 20 c.cells)=c.seen.m.cells:=rfl
def QDa (b:Nat)(c:Rr)(s slot n ai:Int)(H:Qa)(ac:H.get b=some (.C c.cells 74)):Qe Pg 60 [.P b,.Z s,.Z slot,.Z n,.Z ai] H (Qyb H (opA c s slot n ai).cells):=by
 refine QeL λah=>?_;obtain⟨a,aj⟩:∃a,a=opA c s slot n ai:=⟨_,rfl⟩;rw[<- aj];have aa:a=if(slot==1)=true then rA c s (IntKind.i64.wrap (IntKind.i64.wrap (8 * c.r)+c.seen.fld))
  else if(slot==3)=true then rA c s c.v
  else if(slot==4)=true then rA c s (IntKind.i64.wrap (IntKind.i64.wrap (8 * c.bb)+c.low))
  else if(slot==7)=true then rA c s ai
  else if(slot==6)=true then QFd s
  else if(slot==2)=true then(if decide (0<=c.seen.reg)=true then rA c s c.seen.reg else⟨2,⟨0,0⟩,{c.seen.m with sz:=szF s},0⟩)
  else if(s==26||s==27)=true then nA 4 n else nA 3 n:=aj
 clear aj;have aG:=ah.lt ac;have ad:(b=H.y)=False:=by simp;omega
 have ak:=λB=>(Ext.refl H).push B;have gB:∀B,(H.push B).get b=some (.C c.cells 74):=λB=>by rw[Qc,Le (by omega)];exact ac
 have ag:=λm B=>QAy b c s m (H.push B) (gB B);have aF:∀a:Ar,(a.cells.all λx=>x.oneCell')=true:=λ_=>rfl;have len:∀a:Ar,a.cells.length=11:=λ_=>rfl;have done:∀ (B:Blk) (k:Nat) (C:Blk),(H.push B).y<=k->Ret H (Qyb H a.cells) (.agg (List.take 11 a.cells).toArray) (((H.push B).up k).set H.y C):=λB k C az=>
  Ret.ext ah (((ak B).up az).set (Lb _) C) ⟨rfl,_,rfl⟩
 have ay:∀ (B C:Blk) (l:List Value),l=a.cells->Ret H (Qyb H a.cells) (.agg l.toArray) ((H.push B).set H.y C):=λB C l e=>by
  rw[e];exact Ret.ext ah ((ak B).set (Lb _) C) ⟨rfl,_,rfl⟩
 simp only[KG,Qb,simprocAttr];cases ao:slot==1 with
 | true=>
  rw[Lc ao]at aa;simp only[Jn,Qb,simprocAttr,ad,ac,Qql,QMr];refine(ag _ _).w ?_;rintro _ _ ab ae ⟨rfl,k,rfl⟩;rw[Qjm,<- aa];simp only[Qb,simprocAttr,len,QL];exact⟨rfl,done _ _ _ ab⟩
 | false=>
  rw[Le (by rw[ao];decide)]at aa;simp only[ZQ,Qb,simprocAttr];cases aq:slot==3 with
  | true=>
   rw[Lc aq]at aa;simp only[Qb,simprocAttr,ad,ac,QMq];refine(ag _ _).w ?_;rintro _ _ ab ae ⟨rfl,k,rfl⟩;rw[Qjm,<- aa];simp only[Qb,simprocAttr,len,QL];exact⟨rfl,done _ _ _ ab⟩
  | false=>
   rw[Le (by rw[aq];decide)]at aa;simp only[Ju,Qb,simprocAttr];cases ar:slot==4 with
   | true=>
    rw[Lc ar]at aa;simp only[Jo,Qb,simprocAttr,ad,ac,QoG,QLj];refine(ag _ _).w ?_;rintro _ _ ab ae ⟨rfl,k,rfl⟩;rw[Qjm,<- aa];simp only[Qb,simprocAttr,len,QL];exact⟨rfl,done _ _ _ ab⟩
   | false=>
    rw[Le (by rw[ar];decide)]at aa;simp only[Jt,Qb,simprocAttr];cases av:slot==7 with
    | true=>
     rw[Lc av]at aa;simp only[Qb,simprocAttr];refine(ag _ _).w ?_;rintro _ _ ab ae ⟨rfl,k,rfl⟩;rw[Qjm,<- aa];simp only[Qb,simprocAttr,len,QL];exact⟨rfl,done _ _ _ ab⟩
    | false=>
     rw[Le (by rw[av];decide)]at aa;simp only[Js,Qb,simprocAttr];cases au:slot==6 with
     | true=>
      rw[Lc au]at aa;simp only[Qb,simprocAttr];refine(QHG s _).w ?_;rintro _ _ ab ae ⟨rfl,k,rfl⟩;rw[QAB,<- aa];simp only[Qb,simprocAttr,len,QL];exact⟨rfl,done _ _ _ ab⟩
     | false=>
      rw[Le (by rw[au];decide)]at aa;simp only[Jr,Qb,simprocAttr];cases ap:slot==2 with
      | true=>
       rw[Lc ap]at aa;simp only[Jq,Qb,simprocAttr,ad,ac,QLo];cases ax:decide (0<=c.seen.reg) with
       | true=>
        rw[Lc ax]at aa;simp only[Qb,simprocAttr,ad,ac,QLo];refine(ag _ _).w ?_;rintro _ _ ab ae ⟨rfl,k,rfl⟩;rw[Qjm,<- aa];simp only[Qb,simprocAttr,len,QL];exact⟨rfl,done _ _ _ ab⟩
       | false=>
        rw[Le (by rw[ax];decide)]at aa;simp only[Jp,Qb,simprocAttr,ad,ac,WF,QMs];refine⟨⟨rfl,Lb _,rfl⟩,(Qbc s _).w ?_⟩;rintro _ _ ab ae ⟨rfl,rfl⟩;have aA:∀m:Mm,m.cells++List.drop m.cells.length [Value.Z 0,.Z 0,.Z 0,.Z 0,.Z 0,.Z 0,.Z 0]=m.cells:=λ_=>rfl;have aB:∀ (m:Mm) (z:Int),List.take 6 m.cells++(Value.Z z::List.drop 7 m.cells)=({m with sz:=z}:Mm).cells:=λ_ _=>rfl;have al:∀m:Mm,m.cells.length=7:=λ_=>rfl;have am:(H.y=H.y+1)=False:=by simp
        have an:(H.y+1=H.y)=False:=by simp
        simp only[Qb,simprocAttr,aA,aB,al,am,an,QL];have aC:∀m:Mm,List.take 7 m.cells=m.cells:=λ_=>rfl;have aD:∀m:Mm,Value.Z 2::.Z 0::.Z 0::(m.cells++List.drop (3+7) [Value.Z 2,.Z 0,.Z 0,.Z 0,.Z 0,.Z 0,.Z 0,.Z 0,.Z 0,.Z 0,.Z 0])=(Ar.mk 2 ⟨0,0⟩ m 0).cells:=λ_=>rfl;simp only[aC,al,aD,N3,<- aa];simp only[Qb,simprocAttr,am,an,len,QL];exact⟨rfl,Ret.ext ah (((((ak _).push _).set (by omega) _).set (by omega) _).set (Lb _) _) ⟨rfl,_,rfl⟩⟩
      | false=>
       rw[Le (by rw[ap];decide)]at aa;simp only[Jm,Qb,simprocAttr];cases aE:s==26<;>cases z10:s==27<;>simp only[Qb,simprocAttr,z10,QL]
       all_goals (rw[aE,z10]at aa)
       all_goals exact ay _ _ _ (by rw[aa];rfl)
def tl0 (s:Int):Int:=if(s==20||s==21||s==26)=true then 1 else if(s==22)=true then 2 else if(s==23||s==24||s==27)=true then 4 else if(s==25)=true then 8 else 0
def tl1 (f:Fm):Int:=if(decide (0<=Qy f.slots 5)&&decide (Qy f.slots 5<f.shapes.length))=true then tl0 (f.shapes.getD (Qy f.slots 5).toNat 0) else 0
def tlF (f:Fm):Int:=bif decide (0<=Qy f.slots 7) then tl1 f+1 else tl1 f
def QJ5 (s:Int):0<=tl0 s∧tl0 s<=8:=by
 unfold tl0
 repeat' split
 all_goals decide
def Qsu (f:Fm):0<=tl1 f∧tl1 f<=8:=by
 unfold tl1;split;·exact QJ5 _
 decide
def Qnu (x:Lf)(H:Qa)(hx:x.At H):Qe Pg 58 [.agg x.cells.toArray] H λu H'=>u=.Z (tlF x.f)∧∃m,H'=H.up m:=by
 refine Qtn λac=>?_;have aB:(Value.agg x.cells.toArray).cells.toList=x.cells:=rfl;have ai:Ext H (H.push (.C x.cells 51)):=(Ext.refl H).push _;have ad:(H.push (.C x.cells 51)).get H.y=some (.C x.cells 51):=by rw[Qc,Lc rfl]
 have aL:=ac.push (.C x.cells 51);obtain⟨aM,aN,aj,aJ⟩:=hx.ext ac ai;obtain⟨a1,c1,e1,aH⟩:=aj;have ae:x.cells[1]? = some (.slice a1 x.f.shapes.length c1):=by rw[<- e1];rfl
 have aG:=QH x 5 _ (hx.ext ac ai);have aF:=λm (ag:(H.push (.C x.cells 51)).y<=m)=>QH x 7 _ (hx.ext ac (ai.up ag));have ah:tlF x.f=bif decide (0<=Qy x.f.slots 7) then tl1 x.f+1 else tl1 x.f:=rfl
 have aa:tl1 x.f=if(decide (0<=Qy x.f.slots 5)&&decide (Qy x.f.slots 5<x.f.shapes.length))=true then tl0 (x.f.shapes.getD (Qy x.f.slots 5).toNat 0) else 0:=rfl
 have aK:=Qsu x.f;generalize tl1 x.f=n at *;generalize tlF x.f=r at *;generalize Qy x.f.slots 7=i7 at *;simp only[Qkx,aB,Qb,simprocAttr,Qv,QV,ae];generalize H.push (.C x.cells 51)=H1 at *;have ak:∀ (A:Env) m,H1.y<=m->A 1=.P H.y->A 3=.Z n->Qk Pg Qa2 ⟨Rt Pg Tryz.f58 H (λu H'=>u=.Z r∧∃m,H'=H.up m),Xi⟩ (Rt Pg Tryz.f58 H (λu H'=>u=.Z r∧∃m,H'=H.up m)) A (H1.up m):=by
  intro A m ag az a3;simp only[Qa2,Qb,simprocAttr,az,a3,ad,Qv,QV];refine(aF m ag).w ?_;rintro _ _ ab aE ⟨rfl,aO,rfl⟩;have an:=(ai.up ag).up ab;have aA:IntKind.i64.wrap (n+1)=n+1:=w64 (by unfold I64;omega);cases z:decide (0<=i7) with
  | true=>
   rw[z]at ah;simp only[Qb,simprocAttr,z,a3,aA,QiP];exact .ext ac an ⟨by rw[ah];rfl,_,rfl⟩
  | false=>
   rw[z]at ah;simp only[Qb,simprocAttr,z,a3,QiP];exact .ext ac an ⟨by rw[ah];rfl,_,rfl⟩
 refine aG.w ?_;rintro _ _ ab aE ⟨rfl,al,rfl⟩;simp only[Qw]at ab;generalize Qy x.f.slots 5=i at *;simp only[Qb,simprocAttr,ad,ae];refine Qz (λh=>?_) (λh=>?_)<;>simp only[Qb,simprocAttr,ad,ae,h]
 ·have aC:0<=i:=Lg h;refine Qg (λh'=>?_) (λh'=>?_)<;>simp only[Qb,simprocAttr,ad,ae]
  ·have aj:i<x.f.shapes.length:=Lg h';obtain⟨b1,aI,aP,rfl,aD⟩:=aH (by omega);have g1:=ZY (l:=x.f.shapes) (i:=i.toNat) (by omega);rw[Lc (by rw[h,h'];rfl)]at aa;generalize x.f.shapes.getD i.toNat 0=s at *;have am:n=if(s==20||s==21||s==26)=true then 1 else if(s==22)=true then 2 else if(s==23||s==24||s==27)=true then 4 else if(s==25)=true then 8 else 0:=aa
   clear aa;simp only[Qhr,Qhq,Qhp,Qho,Qhn,aC,aj,Qb,simprocAttr,ad,ae,aD,g1];cases ao:s==20<;>cases ap:s==21<;>cases aq:s==26<;>cases ar:s==22<;>cases au:s==23<;>cases av:s==24<;>cases ax:s==27<;>cases ay:s==25<;>simp only[Qb,simprocAttr,ao,ap,aq,ar,au,av,ax,ay]
   all_goals (rw[ao,ap,aq,ar,au,av,ax,ay]at am;refine ak _ al ab ?_ ?_<;>simp only[Qf,simprocAttr,am])
   all_goals rfl
  rw[Le (by rw[h,h'];decide)]at aa;refine ak _ al ab ?_ ?_<;>simp only[Qf,simprocAttr,aa]
 rw[Le (by rw[h];simp)]at aa;refine ak _ al ab ?_ ?_<;>simp only[Qf,simprocAttr,aa]
def QnI (H0 H:Qa)(v:Value)(aa:List Ar):Prop:=(v=.slice none 0 0∧aa=[])∨∃b,v=.S b aa.length (UNK+11)∧H0.y<=b∧H.get b=some (.C (Qm aa) 95)∧aa≠[]
def QnI.app {H0 H:Qa}{v:Value}{aa:List Ar}{x:Ar}{b1:Nat}{K:Value->Qa->Prop}(h:QnI H0 H v aa)(ah:H0.y<=H.y)(ac:H.Wf)(ap:aa.length<=100000)(aj:H.get b1=some (.C x.cells 95))(al:∀a l c,v=.slice (some a) l c->a.block≠b1)
  (ae:∀ad H',H'.Wf->H.y<=H'.y->QnI H0 H' ad (aa++[x])->(∀a l c,ad=.slice (some a) l c->H.y<=a.block)->(∀id,id<H0.y->H'.get id=H.get id)->K ad H'):Qdv 95 11 88 v (.S b1 1 1) H K:=by
 have ai:YX 11 (.S b1 1 1) H=some (1,x.cells):=by
  have:=KM (size:=11) (m:=1) (b:=b1) (o:=0) (cap:=1) (c:=x.cells) (e:=95) (ro:=false) (H:=H) aj (by decide) (by rw[We];decide);rw[this];rfl
 have a1:x.cells.all (·.oneCell')=true:=rfl;rcases id h with⟨rfl,rfl⟩ | ⟨b,rfl,am,ag,aq⟩
 ·refine Qe2 ai a1 (by decide) (by decide) (by decide) ?_;have ab:∀id,id<H0.y->(H.push (.C x.cells 95)).get id=H.get id:=λid ak=>by
   rw[Qc,Le (by omega)]
  exact ae _ _ (ac.push _) (by simp) (.inr ⟨H.y,rfl,ah,by rw[Qc,Lc rfl];simp[Qm],by simp⟩) (λa l c e=>by cases e;exact Lb _) ab
 have an:=ac.lt ag;have ao:b≠b1:=al _ _ _ rfl;refine Qin rfl ai a1 (by decide) (c:=Qm aa) ag (by rw[Q7];omega) (by omega) (by omega) (by unfold UNK;omega) ?_;have ab:∀id,id<H0.y->((H.kill b).push (.C (Qm aa++x.cells) 95)).get id=H.get id:=λid ak=>by
  rw[Qc,Le (by simp;omega),Q0,Le (by omega)]
 have:=ae (.S H.y (aa.length+1) (UNK+11)) ((H.kill b).push (.C (Qm aa++x.cells) 95)) ((ac.kill _).push _) (by simp)
  (.inr ⟨H.y,by simp,ah,by rw[Qc,Lc (by simp),Qxp],by simp⟩) (λa l c e=>by cases e;exact Lb _) ab
 exact this
def QnI.at {H0 H:Qa}{v:Value}{aa:List Ar}(h:QnI H0 H v aa):QQ H v aa:=by
 rcases h with⟨rfl,rfl⟩ | ⟨b,rfl,_,ab,_⟩;·exact⟨none,0,rfl,λh=>absurd h (NX 0)⟩
 exact⟨_,_,rfl,λ_=>⟨b,_,_,rfl,ab⟩⟩
def opL (c:Rr)(n aa:Int):List Ar:=(List.range c.x.f.shapes.length).map λk=>opA c (c.x.f.shapes.getD k 0) (c.x.f.slots.getD k 0) n aa
def QFB (c:Rr)(n aa:Int)(k:Nat)(h:k<c.x.f.shapes.length):(opL c n aa).take (k+1)=(opL c n aa).take k++[opA c (c.x.f.shapes.getD k 0) (c.x.f.slots.getD k 0) n aa]:=by
 unfold opL;rw[<- List.map_take,<- List.map_take,List.take_range,List.take_range,BC (by omega),BC (by omega),R0,N6];rfl
def QnI.below {H0 H:Qa}{v:Value}{ac:List Ar}(h:QnI H0 H v ac)(ab:H.Wf):Qj H.y 6 v=true:=by
 rcases h with⟨rfl,rfl⟩ | ⟨b,rfl,_,aa,_⟩;·rfl
 have:=ab.lt aa;show Nat.ble (b+1) H.y=true;exact BL▸this
def QnI.ext {H0 H H':Qa}{v:Value}{ab:List Ar}(h:QnI H0 H v ab)(ag:H.Wf)(hx:Ext H H'):QnI H0 H' v ab:=by
 rcases h with h | ⟨b,ac,ad,aa,ae⟩;·exact .inl h
 exact .inr ⟨b,ac,ad,by rw[hx.get b (ag.lt aa)];exact aa,ae⟩
def QnI.put {H0 H:Qa}{v:Value}{aa:List Ar}(h:QnI H0 H v aa){i:Nat}(ae:∀a l c,v=.slice (some a) l c->i≠a.block)(B:Blk):QnI H0 (H.set i B) v aa:=by
 rcases h with h | ⟨b,rfl,ab,ac,ad⟩;·exact .inl h
 exact .inr ⟨b,rfl,ab,by rw[Qh,Le (λe=>ae _ _ _ rfl e.symm)];exact ac,ad⟩
def Q6.same {H H1 H5 H6:Qa}{b:Nat}{c:Rr}(h:Q6 H H5 b c)(ad:H5.y<=H6.y)(ag:H.y<=H1.y)(ab:b<H1.y)(aa:∀id,id<H1.y->H6.get id=H5.get id):Q6 H H6 b c:=
 ⟨N8 h.y ad,λid ac ae=>by rw[aa id (by omega)];exact h.get id ac ae,by rw[aa b ab];exact h.at_⟩
def Jy.same {H0 H1 H5 H6:Qa}{b:Nat}{c:Rr}{bs:List Int}(h:Jy H0 H5 b c bs)(ad:H5.y<=H6.y)(ae:H0.y<=H1.y)(ab:b<H1.y)(aa:∀id,id<H1.y->H6.get id=H5.get id):Jy H0 H6 b c bs:=
 ⟨h.wf,⟨N8 h.hx.y ad,λid ac=>by rw[aa id (by omega)];exact h.hx.get id ac⟩,h.lo,by rw[aa b ab];exact h.at_,h.fm,h.by_,h.len,h.p0⟩
def QId {H0 H H1:Qa}(b bt aa:Nat)(c:Rr)(bs:List Int)(n ab:Int)(A:Env)(ks:Kp)(k:Env->Qa->Prop)(av:H1.Wf)(ad:Jy H0 H1 b c bs)(oc:Q6 H H1 b c)(bh:b<H.y)(bN:H.y<=bt)(bj:H.y<=aa)(b3:bt≠aa)(bQ:c.x.f.shapes.length=c.x.f.slots.length)
  (a0:A 0=.P b) (a2:A 2=.P bt) (a6:A 6=.Z ab) (a7:A 7=.Z n) (a9:A 9=.P aa)
  (aF:H1.get bt=some (.C [.Z 0,.slice none 0 0] 33)) (aC:H1.get aa=some (.C [.Z c.x.f.op,.slice none 0 0] 33))
  (bq:∀ (A':Env) (H':Qa) (v:Value),H'.Wf->A' 0=.P b->A' 2=.P bt->A' 9=.P aa->Jy H0 H' b c bs->Q6 H H' b c->H'.get bt=some (.C [.Z 0,.slice none 0 0] 33)->H'.get aa=some (.C [.Z c.x.f.op,v] 33)->QQ H' v (opL c n ab)->k A' H'):
  Qk Pg (.seq (.ops [⟨some 109,.mv (t 0),none,false⟩,⟨some 110,.gen (.nilCheck (t 109)),none,false⟩,⟨some 111,.fldA 0 (t 110),none,false⟩,⟨some 112,.fldA 1 (t 111),none,false⟩,⟨some 113,.ld false 1 (t 112),none,false⟩,⟨some 114,.lenS (t 113),none,false⟩,⟨some 115,.mv (.const (.Z 0)),none,false⟩]) (.block 0 (.loop Xu))) ks k A H1:=by
 obtain⟨aU,sc,bE,ss⟩:=id ad.fm.2.2.1;obtain⟨bF,bG,bH,bI⟩:=id ad.fm.2.2.2;have b2:c.cells[1]? = some (.slice aU c.x.f.shapes.length sc):=by rw[rr1,bE]
 have b5:c.cells[2]? = some (.slice bF c.x.f.slots.length bG):=by rw[<- bH];rfl
 have bR:=ad.fm.1;simp only[Qb,simprocAttr,a0,ad.at_,b2];refine Qp (λm A' H'=>∃ (i:Nat) (v:Value),i<=c.x.f.shapes.length∧m=c.x.f.shapes.length - i∧A' 0=.P b∧A' 2=.P bt∧A' 6=.Z ab∧A' 7=.Z n∧A' 9=.P aa∧
   A' 113=.slice aU c.x.f.shapes.length sc∧A' 114=.Z c.x.f.shapes.length∧A' 115=.Z i∧H'.Wf∧H1.y<=H'.y∧Jy H0 H' b c bs∧Q6 H H' b c∧H'.get bt=some (.C [.Z 0,.slice none 0 0] 33)∧H'.get aa=some (.C [.Z c.x.f.op,v] 33)∧QnI H1 H' v ((opL c n ab).take i)) c.x.f.shapes.length ?_ ?_
 ·refine⟨0,.slice none 0 0,L7 _,by omega,?_,?_,?_,?_,?_,?_,?_,?_,av,Lb _,ad,oc,aF,aC,.inl ⟨rfl,rfl⟩⟩
  all_goals simp only[Qf,simprocAttr,a0,a2,a6,a7,a9]
  all_goals rfl
 rintro m A' H' ⟨i,v,hi,rfl,r0,r2,aS,aT,am,aQ,aR,ax,au,bu,ac,aP,aG,an,ah⟩;simp only[Xu,Qb,simprocAttr,aR,ax]
 by_cases aI:i<c.x.f.shapes.length
 ·have ao:(i:Int)<c.x.f.shapes.length:=by omega
  have b4:=QFB c n ab i aI;obtain⟨b1,e1,bC,rfl,aJ⟩:=ss (by omega);obtain⟨az,e2,bD,rfl,aK⟩:=bI (by omega);have ai:H'.get b1=some (.cells (ints c.x.f.shapes) e1 bC):=(ac.hx.get b1 (ac.wf.lt aJ)).trans aJ;have bi:H'.get az=some (.cells (ints c.x.f.slots) e2 bD):=(ac.hx.get az (ac.wf.lt aK)).trans aK;have d1:(0:Int)<=i∧(i:Int)<c.x.f.shapes.length:=by omega
  have d2:(0:Int)<=i∧(i:Int)<c.x.f.slots.length:=by omega
  have d3:(i:Int).toNat=i:=by omega
  have g1:=ZY (l:=c.x.f.shapes) (i:=i) (by omega);have g2:=ZY (l:=c.x.f.slots) (i:=i) (by omega);generalize c.x.f.shapes.getD i 0=s at *;generalize c.x.f.slots.getD i 0=sl at *;have aW:IntKind.i64.wrap ((i:Int)+1)=((i+1:Nat):Int):=by rw[w64 (by unfold I64;omega)];omega
  simp only[ao,Nf,ZN,Qb,simprocAttr,r0,aS,aT,am,aQ,ax,d1,d2,d3,ai,g1,an,ac.at_,b5,bi,g2];refine⟨ah.below au,?_⟩;refine(QDa b c s sl n ab H' ac.at_).w ?_;rintro _ _ bw ae ⟨rfl,k4,rfl⟩;have aj:H'.y<=k4:=bw;have aN:Ext H' (H'.up k4):=(Ext.refl H').up aj;have ap:=ah.ext au aN;have ak:=ac.up aj;have b8:=aP.up aj;have aH:(H'.up k4).get bt=some (.C [.Z 0,.slice none 0 0] 33):=by rw[Xo];exact aG
  have aD:(H'.up k4).get aa=some (.C [.Z c.x.f.op,v] 33):=by rw[Xo];exact an
  have bP:H1.y<=(H'.up k4).y:=N8 bu aj;refine⟨aN.eqB,?_⟩;generalize H'.up k4=H4 at *;generalize opA c s sl n ab=x at *;have tk:List.take 11 x.cells=x.cells:=rfl;have bK:x.cells.length=11:=rfl;simp only[Qb,simprocAttr,bK];have ag:Ext H4 (H4.push (.C x.cells 95)):=(Ext.refl H4).push _;have b6:=ae.push (.C x.cells 95);have bx:=ak.only ((Q6.refl ak.at_).ext (ae.lt ak.at_) ag) rfl rfl ak.p0;have b9:=b8.ext bh ag;have aY:=(ag.get _ (ae.lt aH)).trans aH;have aX:=(ag.get _ (ae.lt aD)).trans aD;have bd:=ap.ext ae ag;have bc:H.y<=H1.y:=oc.y;have ba:H0.y<=H1.y:=ad.hx.y;have bO:=ad.lo;have bn:=av.lt aF;have bm:=av.lt aC;have ai:b<H1.y:=by omega
  have br:((opL c n ab).take i).length<=100000:=by rw[Sb];omega
  have bM:=ap.below ae;have aM:H1.y<=(H4.push (.C x.cells 95)).y:=by simp only[Qd];omega
  refine bd.app aM b6 br (b1:=H4.y) (by rw[Qc,Lc rfl]) (λa l aA e=>?_) ?_
  ·rcases ap with⟨e2,_⟩ | ⟨aV,e2,_,bp,_⟩;·rw[e2]at e;cases e
   rw[e2]at e;cases e;have:=ae.lt bp;show aV≠H4.y;omega
  intro bJ H6 b7 ar aq bo al;have bz:=bx.same ar ba ai al;have bA:=b9.same ar bc ai al;have aZ:=(al bt bn).trans aY;have aE:=(al aa bm).trans aX;have aL:aa≠b:=by omega
  rw[<- b4]at aq;obtain⟨ay,aO,aB,rfl⟩:∃ay aO aB,bJ=.slice ay aO aB:=by
   rcases aq with⟨rfl,_⟩ | ⟨bL,rfl,_⟩;·exact⟨_,_,_,rfl⟩
   exact⟨_,_,_,rfl⟩
  simp only[Qb,simprocAttr,am,aE,ax,aW];refine⟨_,?_,i+1,_,aI,rfl,?_,?_,?_,?_,?_,?_,?_,?_,b7.set aE _,?_,bz.put (by omega) aL _,bA.put bj aL _,?_,?_,aq.put (λa l aA e=>?_) _⟩;·omega
  all_goals (try simp only[Qf,simprocAttr,r0,r2,aS,aT,am,aQ,aR])
  ·exact N8 aM ar
  ·rw[Qh,Le b3];exact aZ
  ·rw[Qh,Lc rfl]
  have:=bo a l aA e;omega
 have ao:¬ (i:Int)<c.x.f.shapes.length:=by omega
 obtain rfl:i=c.x.f.shapes.length:=by omega
 simp only[ao,NE,Qb,simprocAttr];have bg:(opL c n ab).take c.x.f.shapes.length=opL c n ab:=LF (by unfold opL;rw[Nn,BO];exact Lb _);rw[bg]at ah;refine bq _ H' v au ?_ ?_ ?_ ac aP aG an ah.at
 all_goals simp only[Qf,simprocAttr,r0,r2,am]
structure Dr where
 op:Int
 l:List Ar
 n:Int
 e:Int
def Qjx (e:Int):Dr:=⟨0,[],0,e⟩
def Qjy (H:Qa)(b:Nat)(r:Dr):Value->Qa->Prop:=λu H'=>
 H.y<=H'.y∧(∀id,id<H.y->id≠b->H'.get id=H.get id)∧∃aa,u=.tuple #[.agg #[.Z r.op,aa],.Z r.n,.Z r.e]∧QQ H' aa r.l∧∀a n c,aa=.slice (some a) n c->H.y<=a.block∧a.block<H'.y
def Qjy.err {H H':Qa}{b:Nat}{c:Rr}{r:Dr}{e:Int}(oc:Q6 H H' b c)(h:r=Qjx e):Qjy H b r (.tuple #[.agg #[.Z 0,.slice none 0 0],.Z 0,.Z e]) H':=by
 subst h;exact⟨oc.y,oc.get,_,rfl,⟨none,0,rfl,λh=>absurd h (NX 0)⟩,λa n c h=>by cases h⟩
def QsL (op p:Int)(l:List Ar):Dr:=if((QT op l).2.2==0)=false then Qjx 4 else⟨(QT op l).1,(QT op l).2.1,p,0⟩
def QKs {H0 H H1:Qa}(b bt ac:Nat)(c:Rr)(bs:List Int)(op:Int)(l:List Ar)(v:Value)(r:Dr)(A:Env)(e:Nat->Env->Qa->Prop)(aU:H.Wf)(aj:H1.Wf)(ad:Jy H0 H1 b c bs)(oc:Q6 H H1 b c)(ai:b<H.y)(az:H.y<=bt)(aN:H.y<=ac)(aT:bt≠ac)
  (a0:A 0=.P b) (a2:A 2=.P bt) (a9:A 9=.P ac)
  (ag:H1.get bt=some (.C [.Z 0,.slice none 0 0] 33)) (av:H1.get ac=some (.C [.Z op,v] 33)) (ao:QQ H1 v l) (aA:l.length<=1000) (ay:∀a∈l,I64 a.n) (an:r=QsL op c.p l):
  Qk Pg WK ⟨Rt Pg QM H (Qjy H b r),e⟩ (Rt Pg QM H (Qjy H b r)) A H1:=by
 obtain⟨va,aW,rfl,_⟩:=id ao;have ab:r=if((QT op l).2.2==0)=false then Qjx 4 else⟨(QT op l).1,(QT op l).2.1,c.p,0⟩:=an
 clear an;simp only[WK,Qb,simprocAttr,a9,av];refine(QgA op l H1 _ ao aA ay).w ?_;rintro _ H2 aQ ap ⟨ae,aV,rfl,aE,ak⟩;have aq:=oc.ext ai ae;have ah:=(ae.get _ (aj.lt ag)).trans ag;have aD:=ad.only ((Q6.refl ad.at_).ext (aj.lt ad.at_) ae) rfl rfl ad.p0;generalize QT op l=w at *;obtain⟨aH,aI,rfl,aF⟩:=id aE;simp only[Qb,simprocAttr];have aP:=ap.lt ah;have aM:b<H2.y:=N5 ai aq.y;have aB:(b=H2.y)=False:=by simp;omega
 have am:(bt=H2.y)=False:=by simp;omega
 have aR:(bt=b)=False:=by simp;omega
 have aC:(b=bt)=False:=by simp;omega
 have aa:=λB C D=>(aq.ext ai (((Ext.refl H2).push B).set (i:=H2.y) (Lb _) C)).put (i:=bt) az (by omega) D;have aS:=ae.y;have aL:=oc.y;cases z:w.2.2==0 with
 | false=>
  rw[Lc z]at ab;simp only[Qb,simprocAttr,a2,ah,am,Wn];exact .mk (aa _ _ _).y (.err (aa _ _ _) ab)
 | true=>
  rw[Le (by rw[z];decide)]at ab;simp only[Qb,simprocAttr,a0,a2,ah,aB,am,aC,aD.at_,Qjl,Wn];have aO:=aj.lt ag;refine⟨rfl,.mk (aa _ _ _).y ⟨(aa _ _ _).y,(aa _ _ _).get,_,by rw[ab],?_,λa n au h=>?_⟩⟩;·rw[ab];refine⟨aH,aI,rfl,λh=>?_⟩;obtain⟨ar,e2,aG,rfl,al⟩:=aF h;have ax:=ak _ _ _ rfl;have aJ:=ap.lt al;simp only at ax;exact⟨ar,e2,aG,rfl,by rw[Qh,Le (by omega),Qh,Le (by omega),Qc,Le (by omega)];exact al⟩
  have aK:=ak a n au h;refine⟨by omega,?_⟩;simp only[Qo,Qd];omega
def QyF (x:Int):I64 (IntKind.i64.wrap x):=Qsn x
def QFC (y:Int)(k:Nat)(h:I64 y):I64 (y.fdiv (2 ^ k)):=by
 have ad:(1:Int)<=2 ^ k:=by
  have:=Int.pow_pos (n:=2) (m:=k) (by decide);omega
 generalize (2:Int) ^ k=d at *;rw[Np _ (by omega)]
 by_cases aa:0<=y;·have ab:=Int.ediv_nonneg aa (show(0:Int)<=d by omega);have ac:=Int.ediv_le_self d aa;unfold I64 at *;omega
 have ab:=Int.ediv_neg_of_neg_of_pos (show y<0 by omega) (show(0:Int)<d by omega);have ac:y<=y / d:=(Int.le_ediv_iff_mul_le (by omega)).2 (by
  have:=Int.mul_le_mul_of_nonpos_left (a:=y) (show y<=0 by omega) ad;omega)
 unfold I64 at *;omega
def QDn (x b:Int):I64 (QkV x b):=by
 unfold QkV;split;·unfold I64;omega
 exact QFC _ _ (QyF _)
def QyG (bs:List Int)(p sz:Int)(aa:Bool):I64 (XM bs p sz aa).1:=by
 have z:I64 0:=by unfold I64;omega
 unfold XM
 repeat' split
 all_goals first
  | exact z
  | exact QDn _ _
  | exact QyF _
def QsM (bs:List Int)(p sz:Int)(ab:Bool)(h:((XM bs p sz ab).2==0)=true):0<=p∧p+sz<=bs.length:=by
 unfold XM at h;split at h;·simp at h
 split at h;·simp at h
 rename_i aa;split at h;·simp at h
 simp only[Nw,Lv,not_or,Int.not_lt]at aa;omega
def Qwo (c:Rr)(n ab:Int)(h:I64 n):∀a∈opL c n ab,I64 a.n:=by
 have z:I64 0:=by unfold I64;omega
 have o:I64 1:=by unfold I64;omega
 intro a aa;unfold opL at aa;rw[N4]at aa;obtain⟨k,_,rfl⟩:=aa;unfold opA QFd
 repeat' split
 all_goals first
  | exact h
  | exact z
  | exact o
def QLX {H0 H H1:Qa}(b bt:Nat)(c:Rr)(bs:List Int)(n ab:Int)(r:Dr)(A:Env)(e:Nat->Env->Qa->Prop)(az:H.Wf)(ad:H1.Wf)(aa:Jy H0 H1 b c bs)(oc:Q6 H H1 b c)(ac:b<H.y)(ai:H.y<=bt)(av:c.x.f.shapes.length=c.x.f.slots.length)(ap:I64 n)
  (a0:A 0=.P b) (a2:A 2=.P bt) (a6:A 6=.Z ab) (a7:A 7=.Z n)
  (ag:H1.get bt=some (.C [.Z 0,.slice none 0 0] 33)) (aq:r=QsL c.x.f.op c.p (opL c n ab)):
  Qk Pg Wi ⟨Rt Pg QM H (Qjy H b r),e⟩ (Rt Pg QM H (Qjy H b r)) A H1:=by
 have aF:c.cells[0]? = some (.Z c.x.f.op):=rfl;have ao:=ad.lt ag;have ah:=oc.y;rw[Wi];rw[Zl];generalize an:Qk Pg (PC.seq _ WK) _ _=K;simp only[Qb,simprocAttr,a0,aa.at_,aF];have ae:Ext H1 ((H1.push (.C [.Z 0,.slice none 0 0] 33)).set H1.y (.C [.Z c.x.f.op,.slice none 0 0] 33)):=((Ext.refl H1).push _).set (Lb _) _;have aB:((H1.push (.C [.Z 0,.slice none 0 0] 33)).set H1.y (.C [.Z c.x.f.op,.slice none 0 0] 33)).Wf:=(ad.push _).set (by rw[Qc,Lc rfl]) _;have ak:((H1.push (.C [.Z 0,.slice none 0 0] 33)).set H1.y (.C [.Z c.x.f.op,.slice none 0 0] 33)).get H1.y=some (.C [.Z c.x.f.op,.slice none 0 0] 33):=by rw[Qh,Lc rfl]
 generalize (H1.push (.C [.Z 0,.slice none 0 0] 33)).set H1.y (.C [.Z c.x.f.op,.slice none 0 0] 33)=H2 at *;have au:=aa.only ((Q6.refl aa.at_).ext (ad.lt aa.at_) ae) rfl rfl aa.p0;have aD:=oc.ext ac ae;have am:=(ae.get _ ao).trans ag;have ax:=aa.fm.1;rw[<- an,Zl];refine QId b bt H1.y c bs n ab _ _ _ aB au aD ac ai ah (by omega) av ?_ ?_ ?_ ?_ ?_ am ak ?_;·simp only[Qf,simprocAttr,a0]
 ·simp only[Qf,simprocAttr,a2]
 ·simp only[Qf,simprocAttr,a6]
 ·simp only[Qf,simprocAttr,a7]
 ·simp only[Qf,simprocAttr]
 intro A' H' v aA r0 r2 aE ar aC al aj ay;exact QKs b bt H1.y c bs c.x.f.op (opL c n ab) v r A' e az aA ar aC ac ai ah (by omega) r0 r2 aE al aj ay (by unfold opL;rw[Nn,BO];exact ax) (Qwo c n ab ap) aq
def QBW (bs:List Int)(p:Int):Int:=IntKind.u8.wrap (BitVec.ofInt IntKind.u8.bits (bs.getD p.toNat 0) &&& BitVec.ofInt IntKind.u8.bits 15).toNat
def hi4 (bs:List Int)(p:Int):Int:=IntKind.i64.wrap ((bs.getD p.toNat 0).fdiv (2 ^ (min (Int.toNat 4) IntKind.u8.bits)))
def QtS (bs:List Int)(c:Rr)(n:Int):Dr:=
  if decide (0<=Qy c.x.f.slots 7)=true then
    (if(bs.length:Int)<=c.p then Qjx 9
     else if(QBW bs c.p==0)=false then Qjx 4
     else QsL c.x.f.op (IntKind.i64.wrap (c.p+1)) (opL c n (hi4 bs c.p)))
  else QsL c.x.f.op c.p (opL c n 0)
def QLY {H0 H H1:Qa}(b bt:Nat)(c:Rr)(bs:List Int)(n:Int)(r:Dr)(A:Env)(e:Nat->Env->Qa->Prop)(au:H.Wf)(aH:H1.Wf)(aq:Jy H0 H1 b c bs)(oc:Q6 H H1 b c)(ak:b<H.y)(ab:H.y<=bt)(ar:c.x.f.shapes.length=c.x.f.slots.length)(ao:I64 n)
    (a0:A 0=.P b) (a2:A 2=.P bt) (a6:A 6=.Z 0) (a7:A 7=.Z n)
    (ad:H1.get bt=some (.C [.Z 0,.slice none 0 0] 33)) (ap:r=QtS bs c n):
    Qk Pg Wj ⟨Rt Pg QM H (Qjy H b r),e⟩ (Rt Pg QM H (Qjy H b r)) A H1:=by
  have aa:r=if decide (0<=Qy c.x.f.slots 7)=true then
    (if(bs.length:Int)<=c.p then Qjx 9
     else if(QBW bs c.p==0)=false then Qjx 4
     else QsL c.x.f.op (IntKind.i64.wrap (c.p+1)) (opL c n (hi4 bs c.p)))
    else QsL c.x.f.op c.p (opL c n 0):=ap
  clear ap;have aK:=aH.lt ad;obtain⟨av,hx,lo,ae,fm,by_,len,p0⟩:=id aq;obtain⟨a,cap,aC,aD⟩:=id by_;have ah:c.cells[10]? = some (.slice a bs.length cap):=by rw[QtE,aC]
  have aJ:=QH c.x 7 H1 (fm.ext av hx);generalize Qy c.x.f.slots 7=i7 at *;have az:Wj=.seq (.seq (.ops [⟨some 54,.mv (t 0),none,false⟩,⟨some 55,.gen (.nilCheck (t 54)),none,false⟩,⟨some 56,.fldA 0 (t 55),none,false⟩,⟨some 57,.ld true 10 (t 56),none,false⟩,⟨some 58,.call 53 [(t 57),(.const (.Z 7))],none,false⟩,⟨some 59,.bin .geq (t 58) (.const (.Z 0)),none,false⟩]) (.cond (t 59) Xv .skip)) Wi:=rfl;rw[az,Zl];generalize aj:Qk Pg Wi _ _=K;simp only[Qb,simprocAttr,a0,ae,WF,Xy];refine aJ.w ?_;rintro _ _ aG ax ⟨rfl,k,rfl⟩;have an:H1.y<=k:=aG;have ag:=aq.up an;have ac:=oc.up an;have ai:(H1.up k).get bt=some (.C [.Z 0,.slice none 0 0] 33):=by rw[Xo];exact ad
  have aL:(bt=b)=False:=by simp;omega
  cases z:decide (0<=i7) with
  | false=>
    rw[Le (by rw[z];decide)]at aa;simp only[Qb,simprocAttr,z];rw[<- aj];refine QLX b bt c bs n 0 r _ e au ax ag ac ak ab ar ao ?_ ?_ ?_ ?_ ai aa
    all_goals simp only[Qf,simprocAttr,a0,a2,a6,a7]
  | true=>
    rw[Lc z]at aa;simp only[Xv,Qb,simprocAttr,z,a0,ae,Qjl,ah]
    by_cases g:(bs.length:Int)<=c.p
    · rw[Lc g]at aa
      simp only[g,Nf,Qb,simprocAttr,a2,ad,Wn];exact .mk (ac.put ab (by omega) _).y (.err (ac.put ab (by omega) _) aa)
    · rw[Le g]at aa
      obtain⟨bb,o,e',ro,cs,rfl,al,aE⟩:=aD (by omega);have am:H1.get bb=some (.cells cs e' ro):=(hx.get bb (av.lt al)).trans al;have c1:(0:Int)<=c.p∧c.p<bs.length:=by omega
      have g1:=aE c.p.toNat (by omega);have aA:IntKind.u8.wrap (BitVec.ofInt IntKind.u8.bits (bs.getD c.p.toNat 0) &&& BitVec.ofInt IntKind.u8.bits 15).toNat=QBW bs c.p:=rfl;have aF:IntKind.i64.wrap ((bs.getD c.p.toNat 0).fdiv (2 ^ (min (Int.toNat 4) IntKind.u8.bits)))=hi4 bs c.p:=rfl;have aB:(0:Int)<=4:=by omega
      simp only[g,NE,ZP,Qb,simprocAttr,a0,ae,Qjl,ah,c1,am,g1,aA];cases ay:QBW bs c.p==0 with
      | false=>
        rw[Lc ay]at aa;simp only[Qb,simprocAttr,a2,ad,Wn];exact .mk (ac.put ab (by omega) _).y (.err (ac.put ab (by omega) _) aa)
      | true=>
        rw[Le (by rw[ay];decide)]at aa;simp only[ZO,sxA,sxB,Nat.reduceBEq,Nat.reduceEqDiff,reduceCtorEq,mxA,mxB,Nat.reduceAdd,reduceIte,Nat.reduceLeDiff,splice,a0,ae,Qjl,ah,c1,am,g1,aB,aF,WF,QAw];rw[<- aj];have p1:IntKind.i64.wrap (c.p+1)=c.p+1:=w64 (by unfold I64;omega);have aI:=(Q6.refl ag.at_).set {c with p:=IntKind.i64.wrap (c.p+1)};refine QLX b bt {c with p:=IntKind.i64.wrap (c.p+1)} bs n (hi4 bs c.p) r _ e au (ax.set ag.at_ _) (ag.only aI rfl rfl (by show 0<=IntKind.i64.wrap (c.p+1)∧IntKind.i64.wrap (c.p+1)<=bs.length;rw[p1];omega)) (ac.set _) ak ab ar ao ?_ ?_ ?_ ?_ (by rw[Qh,Le (by omega)];exact ai) aa
        all_goals simp only[Qf,simprocAttr,a0,a2,a7]
def QoT (bs:List Int)(c:Rr):Dr:=
  if decide (0<tl1 c.x.f)=true then
    (if((XM bs c.p (tl1 c.x.f) true).2==0)=false then Qjx (XM bs c.p (tl1 c.x.f) true).2
     else QtS bs {c with p:=IntKind.i64.wrap (c.p+tl1 c.x.f)} (XM bs c.p (tl1 c.x.f) true).1)
  else QtS bs c 0
def QAM {H0:Qa}(b:Nat)(c:Rr)(bs:List Int)(H:Qa)(h:Jy H0 H b c bs)(aC:c.x.f.shapes.length=c.x.f.slots.length):Qe Pg 32 [.P b] H (Qjy H b (QoT bs c)):=by
  refine QdA λai=>?_;obtain⟨r,an⟩:∃r,r=QoT bs c:=⟨_,rfl⟩;rw[<- an];have ab:r=if decide (0<tl1 c.x.f)=true then
    (if((XM bs c.p (tl1 c.x.f) true).2==0)=false then Qjx (XM bs c.p (tl1 c.x.f) true).2
     else QtS bs {c with p:=IntKind.i64.wrap (c.p+tl1 c.x.f)} (XM bs c.p (tl1 c.x.f) true).1)
    else QtS bs c 0:=an
  clear an;obtain⟨ap,hx,lo,ae,fm,by_,len,p0⟩:=id h;obtain⟨a,cap,ay,aJ⟩:=id by_;have aY:c.cells[10]? = some (.slice a bs.length cap):=by rw[QtE,ay]
  have ad:b<H.y:=ai.lt ae;have aO:(b=H.y)=False:=by simp;omega
  have aD:Ext H (H.push (.C [.Z 0,.slice none 0 0] 33)):=(Ext.refl H).push _;have aH:(H.push (.C [.Z 0,.slice none 0 0] 33)).get H.y=some (.C [.Z 0,.slice none 0 0] 33):=by rw[Qc,Lc rfl]
  have bc:=ai.push (.C [.Z 0,.slice none 0 0] 33);have ac:=h.only ((Q6.refl ae).ext ad aD) rfl rfl p0;have aS:=(Q6.refl ae).ext ad aD;have aG:WA=.seq (.ops [⟨some 7,.mv (.const (.Z 0)),none,false⟩]) (.seq (.seq (.ops [⟨some 27,.mv (t 5),none,false⟩,⟨some 28,.bin .gtr (t 27) (.const (.Z 0)),none,false⟩]) (.cond (t 28) Xw .skip)) Wj):=rfl;have aE:∀ (A:Env) (H2:Qa),H2.Wf->Jy H0 H2 b c bs->Q6 H H2 b c->H2.get H.y=some (.C [.Z 0,.slice none 0 0] 33)->A 0=.P b->A 2=.P H.y->A 5=.Z (tl1 c.x.f)->A 6=.Z 0->
      Qk Pg WA ⟨Rt Pg QM H (Qjy H b r),Xi⟩ (Rt Pg QM H (Qjy H b r)) A H2:=by
    intro A H2 aq aa ak am a0 a2 a5 a6;have aR:=Qsu c.x.f;have aX:b<H2.y:=aq.lt aa.at_;have aZ:(H.y=b)=False:=by simp;omega
    rw[aG,Zl,Zl];generalize ax:Qk Pg Wj _ _=K;have aF:Qh3 H2 c.bv bs:=by
      refine⟨a,cap,ay,λaM=>?_⟩;obtain⟨bb,o,e,ro,cs,e1,az,aK⟩:=aJ aM;exact⟨bb,o,e,ro,cs,e1,by rw[aa.hx.get bb (ap.lt az),az],aK⟩
    have aT:=Qew c.bv bs c.p (tl1 c.x.f) true H2 aF len (by unfold I64;omega);have aP:=QsM bs c.p (tl1 c.x.f) true;have aI:=QyG bs c.p (tl1 c.x.f) true;generalize XM bs c.p (tl1 c.x.f) true=g at *;simp only[Qb,simprocAttr,a5];generalize tl1 c.x.f=sz at *;cases z:decide (0<sz) with
    | false=>
      rw[Le (by rw[z];decide)]at ab;have aW:decide (sz>0)=false:=z;simp only[Qb,simprocAttr];rw[<- ax];refine QLY b H.y c bs 0 r _ Xi ai aq aa ak ad (Lb _) aC (by unfold I64;omega) ?_ ?_ ?_ ?_ am ab
      all_goals simp only[Qf,simprocAttr,a0,a2,a6]
    | true=>
      rw[Lc z]at ab;have aW:decide (sz>0)=true:=z;simp only[Xw,Qb,simprocAttr,a0,a5,aa.at_,QtE,Qjl];refine aT.w ?_;rintro _ H3 aB aj ⟨rfl,rfl⟩;simp only[Qb,simprocAttr];cases ar:g.2==0 with
      | false=>
        rw[Lc ar]at ab;simp only[Qb,simprocAttr,a2,am,Wn];exact .mk (ak.put (Lb _) (by omega) _).y (.err (ak.put (Lb _) (by omega) _) ab)
      | true=>
        rw[Le (by rw[ar];decide)]at ab;have ba:=aP ar;have p1:IntKind.i64.wrap (c.p+sz)=c.p+sz:=w64 (by unfold I64;omega);simp only[Qb,simprocAttr,a0,a5,aa.at_,Qjl,WF,QAw];rw[<- ax];have al:=(Q6.refl aa.at_).set {c with p:=IntKind.i64.wrap (c.p+sz)};refine QLY b H.y {c with p:=IntKind.i64.wrap (c.p+sz)} bs g.1 r _ Xi ai (aj.set aa.at_ _) (aa.only al rfl rfl (by show 0<=IntKind.i64.wrap (c.p+sz)∧IntKind.i64.wrap (c.p+sz)<=bs.length;rw[p1];omega)) (ak.set _) ad (Lb _) aC aI ?_ ?_ ?_ ?_ (by rw[Qh,Le (by omega)];exact am) ab
        all_goals simp only[Qf,simprocAttr,a0,a2,a6]
  have aV:=Qnu c.x _ (fm.ext ap ac.hx);have aU:=λk (aL:(H.push (.C [.Z 0,.slice none 0 0] 33)).y<=k)=>QH c.x 7 _ (fm.ext ap (ac.up aL).hx);have ah:tlF c.x.f=bif decide (0<=Qy c.x.f.slots 7) then tl1 c.x.f+1 else tl1 c.x.f:=rfl
  have aR:=Qsu c.x.f;generalize tlF c.x.f=tf at *;generalize Qy c.x.f.slots 7=i7 at *;generalize aQ:WA=pc10 at *;simp only[JR,aQ,Qb,simprocAttr,aO,ae,WF,Xy];generalize H.push (.C [.Z 0,.slice none 0 0] 33)=H1 at *;refine aV.w ?_;rintro _ _ aN aq ⟨rfl,k2,rfl⟩;have ag:H1.y<=k2:=aN;have c2:=(ac.up ag).at_;simp only[Qb,simprocAttr,ac.at_,WF,Xy];refine(aU k2 ag).w ?_;rintro _ _ aB aj ⟨rfl,k3,rfl⟩;have aA:(H1.up k2).y<=k3:=aB;have av:=(ac.up ag).up aA;have al:=(aS.up ag).up aA;have au:((H1.up k2).up k3).get H.y=some (.C [.Z 0,.slice none 0 0] 33):=by rw[Xo,Xo];exact aH
  cases z:decide (0<=i7) with
  | false=>
    rw[z]at ah;have ao:tf=tl1 c.x.f:=ah;simp only[Qb,simprocAttr,z];refine aE _ _ aj av al au ?_ ?_ ?_ ?_
    all_goals simp only[Qf,simprocAttr,ao]
  | true=>
    rw[z]at ah;have ao:IntKind.i64.wrap (tf - 1)=tl1 c.x.f:=by
      rw[show tf=tl1 c.x.f+1 from ah,w64 (by unfold I64;omega)];omega
    simp only[Qb,simprocAttr,z,ao];refine aE _ _ aj av al au ?_ ?_ ?_ ?_
    all_goals simp only[Qf,simprocAttr]
def InB (bs:List Int)(p:Int):Prop:=0<=p∧p<=bs.length
def InB.zero (bs:List Int):InB bs 0:=⟨by omega,by omega⟩
def InB.wrap {bs:List Int}{p:Int}(aa:bs.length<=1000000)(h:InB bs p):InB bs (IntKind.i64.wrap p):=by
 unfold InB at *;rw[w64 (by unfold I64;omega)];exact h
def QDo (aa:Int)(m:Mm):0<=Gc aa m:=by
 unfold Gc
 repeat' split
 all_goals decide
def QyH {bs:List Int}{p:Int}(mid:Int)(m:Mm)(h:InB bs p):InB bs (Qsl mid p m).1.ends:=by
 unfold Qsl;split;·exact h
 exact .zero bs
def QoU {bs:List Int}{p:Int}(ac:bs.length<=1000000)(aa mid:Int)(m:Mm)(h:InB bs p):InB bs (QeS bs p aa mid m).1.ends:=by
 unfold QeS;split;·exact QyH mid m h
 split;·rename_i ab;have ad:=QsM _ _ _ _ ab;have ae:=QDo aa m;exact QyH mid _ (.wrap ac ⟨by omega,ad.2⟩)
 exact .zero bs
def QFD {bs:List Int}{p:Int}(aa:bs.length<=1000000)(ab mid x bb:Int)(h:InB bs p):InB bs (Qx7 bs p ab mid x bb).1.ends:=by
 unfold Qx7;split
 ·rename_i ac;have ad:=QsM _ _ _ _ ac;split;·exact QoU aa ab mid _ (.wrap aa ⟨by omega,ad.2⟩)
  exact .zero bs
 exact .zero bs
def QDp {bs:List Int}{p:Int}(ab:bs.length<=1000000)(aa mid ac x bb:Int)(h:InB bs p):InB bs (Qsm bs p aa mid ac x bb).1.ends:=by
 unfold Qsm;split;·exact .zero bs
 split;·exact h
 split;·exact QFD ab aa mid x bb h
 split
 ·split;·exact .zero bs
  exact QoU ab aa mid _ h
 exact QoU ab aa mid _ h
def QKt {bs:List Int}{p:Int}(aa:bs.length<=1000000)(x bb:Int):InB bs (rdF bs p x bb).1.ends:=by
 unfold rdF;split;·exact .zero bs
 split;·rename_i ab;have ac:=QsM _ _ _ _ ab;exact QDp aa _ _ _ x bb (.wrap aa ⟨by omega,ac.2⟩)
 exact .zero bs
def KJ (bs:List Int)(c c':Rr):Prop:=c'.x=c.x∧c'.bv=c.bv∧InB bs c'.p
def KJ.trans {bs:List Int}{a b c:Rr}(h:KJ bs a b)(h':KJ bs b c):KJ bs a c:=⟨h'.1.trans h.1,h'.2.1.trans h.2.1,h'.2.2⟩
def KJ.self {bs:List Int}{c:Rr}(h:InB bs c.p):KJ bs c c:=⟨rfl,rfl,h⟩
def Qwp {bs:List Int}{c:Rr}(aa:bs.length<=1000000)(n:Int)(h:InB bs c.p):KJ bs c (XF bs c n).2:=⟨rfl,rfl,QAx h aa⟩
def QFE {bs:List Int}(ab:bs.length<=1000000):∀ (n:Nat) (left:Int) (c:Rr),InB bs c.p->KJ bs c (Qnt bs n left c).2
 | 0,_,c,h=>.self h
 | n+1,left,c,h=>by
  rw[Qaj];have aa:=λb=>Qwp ab b h
  repeat' split
  all_goals first
   | exact(aa _).trans (QFE ab n _ _ (aa _).2.2)
   | exact aa _
   | exact .self h
def QFF {bs:List Int}(ab:bs.length<=1000000):∀ (l:List UInt8) (c:Rr),InB bs c.p->KJ bs c (Qss bs l c).2
 | [],c,h=>.self h
 | n::l,c,h=>by
  have aa:=Qwp ab (n.toNat) h;show KJ bs c (if((XF bs c n.toNat).1==0)=true then Qss bs l (XF bs c n.toNat).2 else XF bs c n.toNat).2;split;·exact aa.trans (QFF ab l _ aa.2.2)
  exact aa
def QIe {bs:List Int}{c:Rr}(ab:bs.length<=1000000)(h:InB bs c.p):KJ bs c (Qst bs c).2:=by
 have aa:KJ bs c (QdE bs c).2:=⟨(Qv3 bs c).1,(Qv3 bs c).2,QE9 h ab⟩;unfold Qst;split;·exact aa.trans (QFF ab _ _ aa.2.2)
 exact aa
def QKu {bs:List Int}{c:Rr}(ab:bs.length<=1000000)(h:InB bs c.p):KJ bs c (QtF bs c).2:=by
 have aa:=QFE ab 4 c.x.f.pre c h;unfold QtF QuB;split;·exact aa.trans (QIe ab aa.2.2)
 exact aa
def QFG {bs:List Int}{c:Rr}(h:InB bs c.p):KJ bs c (QoJ bs c).2:=by
 have aa:KJ bs c (QHQ bs c):=⟨rfl,rfl,QFb bs⟩;unfold QoJ
 repeat' split
 all_goals first
  | exact aa
  | exact .self h
def QKv {bs:List Int}{c:Rr}(h:InB bs c.p):KJ bs c (QtG bs c).2:=by
 have aa:KJ bs c (QfY bs c):=⟨rfl,rfl,h⟩;unfold QtG
 repeat' split
 all_goals first
  | exact QFG h
  | exact aa.trans (QFG aa.2.2)
  | exact aa
  | exact .self h
def QBX {bs:List Int}{c:Rr}(aa:bs.length<=1000000)(h:InB bs c.p):KJ bs c (QbR bs c).2:=by
 unfold QbR;cases c.x.f.vex with
 | true=>exact QKv h
 | false=>exact QKu aa h
def QIK {bs:List Int}{c:Rr}(aa:bs.length<=1000000)(h:InB bs c.p):KJ bs c (opF bs c).2:=by
 unfold opF
 repeat' split
 ·exact Qwp aa _ h
 ·exact .self h
 have ab:KJ bs c {c with low:=Qyc bs c.p}:=⟨rfl,rfl,h⟩;exact ab.trans (Qwp aa _ ab.2.2)
def QFH {bs:List Int}{c:Rr}(aa:bs.length<=1000000)(h:InB bs c.p):KJ bs c (QoI bs c).2:=by
 unfold QoI
 repeat' split
 all_goals first
  | exact .self h
  | exact⟨rfl,rfl,QKt aa _ _⟩
def rd0 (x:Lf)(bv:Value):Rr:=⟨x,bv,0,false,0,0,0,0,0,Jx⟩
def rdH (bs:List Int)(c:Rr):Int×Rr:=QbR bs c
def rdO (bs:List Int)(c:Rr):Int×Rr:=bif (rdH bs c).1==0 then opF bs (rdH bs c).2 else rdH bs c
def rdM (bs:List Int)(c:Rr):Int×Rr:=bif (rdO bs c).1==0 then QoI bs (rdO bs c).2 else rdO bs c
def QsN (bs:List Int)(x:Lf)(bv:Value):Dr:=bif (rdM bs (rd0 x bv)).1==0 then QoT bs (rdM bs (rd0 x bv)).2 else Qjx (rdM bs (rd0 x bv)).1
def Qk9 (H:Qa)(r:Dr):Value->Qa->Prop:=λu H'=>
 Ext H H'∧∃aa,u=.tuple #[.agg #[.Z r.op,aa],.Z r.n,.Z r.e]∧QQ H' aa r.l∧∀a n c,aa=.slice (some a) n c->H.y<=a.block∧a.block<H'.y
def QIf:PC:=.seq (.seq (.ops [⟨some 19,.mv (t 8),none,false⟩,⟨some 20,.bin .neq (t 19) (.const (.Z 0)),none,false⟩]) (.cond (t 20) (.seq (.ops [⟨some 21,.build [.Z 0,.slice none 0 0] [],none,false⟩,⟨some 22,.mv (t 8),none,false⟩,⟨none,.st 2 (t 4) (t 21),none,false⟩,⟨some 5,.mv (.const (.Z 0)),none,false⟩,⟨some 6,.mv (t 22),none,false⟩]) .ret) .skip))
 (.seq (.ops [⟨some 23,.call 32 [(t 7)],none,false⟩,⟨some 24,.ext (t 23) 0,none,false⟩,⟨some 25,.ext (t 23) 1,none,false⟩,⟨some 26,.ext (t 23) 2,none,false⟩,⟨none,.st 2 (t 4) (t 24),none,false⟩,⟨some 5,.mv (t 25),none,false⟩,⟨some 6,.mv (t 26),none,false⟩]) .ret)
def QIg:PC:=.seq (.seq (.ops [⟨some 16,.mv (t 8),none,false⟩,⟨some 17,.bin .eql (t 16) (.const (.Z 0)),none,false⟩]) (.cond (t 17) (.ops [⟨some 18,.call 31 [(t 7)],none,false⟩,⟨some 8,.mv (t 18),none,false⟩]) .skip)) QIf
def QKw:PC:=.seq (.seq (.ops [⟨some 13,.mv (t 8),none,false⟩,⟨some 14,.bin .eql (t 13) (.const (.Z 0)),none,false⟩]) (.cond (t 14) (.ops [⟨some 15,.call 30 [(t 7)],none,false⟩,⟨some 8,.mv (t 15),none,false⟩]) .skip)) QIg
structure StR (H H3 H4:Qa) (b bt:Nat) (c0 c:Rr) (bs:List Int) (A:Env) (e:Int):Prop where
 wf:H4.Wf
 rd:Jy H H4 b c bs
 oc:Q6 H3 H4 b c
 kx:c.x=c0.x
 a4:A 4=.P bt
 a7:A 7=.P b
 a8:A 8=.Z e
section
variable {H H3:Qa} {b bt:Nat} {c0:Rr} {bs:List Int} {r:Dr}
def QKx (aH:H.Wf)(aJ:Ext H H3)(ac:H.y<=bt)(aE:H.y<=b)(ak:bt≠b)(aq:bt<H3.y)(aF:b<H3.y)(an:H3.get bt=some (.C [.Z 0,.slice none 0 0] 33))(ax:c0.x.f.shapes.length=c0.x.f.slots.length)
  (m:Int×Rr) (A:Env) (H4:Qa) (h:StR H H3 H4 b bt c0 m.2 bs A m.1) (ad:r=bif m.1==0 then QoT bs m.2 else Qjx m.1):
  Qk Pg QIf ⟨Rt Pg Tryz.f17 H (Qk9 H r),Xi⟩ (Rt Pg Tryz.f17 H (Qk9 H r)) A H4:=by
 obtain⟨aA,aj,oc,kx,a4,a7,a8⟩:=h;have ae:=(oc.get bt aq ak).trans an;have aa:=aj.hx;simp only[QIf,Qb,simprocAttr,a8];cases z:m.1==0 with
 | false=>
  rw[z]at ad;have ab:r=Qjx m.1:=ad;simp only[Qb,simprocAttr,a4,a8,ae,QhA];exact .mk (aa.set ac _).y ⟨aa.set ac _,_,by rw[ab];rfl,by rw[ab];exact⟨none,0,rfl,λh=>absurd h (NX 0)⟩,λa n c h=>by cases h⟩
 | true=>
  rw[z]at ad;have ab:r=QoT bs m.2:=ad;simp only[Qb,simprocAttr,a7];refine(QAM b m.2 bs H4 aj (by rw[kx];exact ax)).w ?_;rintro _ H5 aG aI ⟨av,ai,aK,rfl,ay,ag⟩;have ar:=aA.lt ae;have ao:=(ai bt ar ak).trans ae;have al:Ext H H5:=⟨N8 aa.y av,λid ah=>by rw[ai id (N5 ah aa.y) (by omega),aa.get id ah]⟩;obtain⟨va,aC,rfl,az⟩:=id ay;simp only[Qb,simprocAttr,a4,ao,QhA];refine .mk (al.set ac _).y ⟨al.set ac _,_,by rw[ab],?_,λa n c h=>?_⟩;·rw[ab];refine⟨va,aC,rfl,λh=>?_⟩;obtain⟨am,e2,aB,rfl,au⟩:=az h;have ap:=ag _ _ _ rfl;simp only at ap;exact⟨am,e2,aB,rfl,by rw[Qh,Le (by omega)];exact au⟩
  have aD:=ag a n c h;have:=aa.y;refine⟨by omega,?_⟩;simp only[Qo];omega
def QKy (aq:H.Wf)(av:Ext H H3)(an:H.y<=bt)(al:H.y<=b)(ap:bt≠b)(ao:bt<H3.y)(am:b<H3.y)(ak:H3.get bt=some (.C [.Z 0,.slice none 0 0] 33))(ah:c0.x.f.shapes.length=c0.x.f.slots.length)
  (o:Int×Rr) (A:Env) (H4:Qa) (h:StR H H3 H4 b bt c0 o.2 bs A o.1) (m:Int×Rr) (ac:m=bif o.1==0 then QoI bs o.2 else o) (ag:r=bif m.1==0 then QoT bs m.2 else Qjx m.1):
  Qk Pg QIg ⟨Rt Pg Tryz.f17 H (Qk9 H r),Xi⟩ (Rt Pg Tryz.f17 H (Qk9 H r)) A H4:=by
 have aj:=λm A H4 h=>QKx (r:=r) (c0:=c0) (bs:=bs) aq av an al ap ao am ak ah m A H4 h;have h':=h;obtain⟨ar,aa,oc,kx,a4,a7,a8⟩:=h;rw[QIg,Zl];generalize ae:Qk Pg QIf _ _=K;simp only[Qb,simprocAttr,a8];cases z:o.1==0 with
 | false=>
  rw[z]at ac;have ad:m=o:=ac;subst ad;simp only[Qb,simprocAttr];rw[<- ae];refine aj m _ H4 ⟨ar,aa,oc,kx,?_,?_,?_⟩ ag
  all_goals simp only[Qf,simprocAttr,a4,a7,a8]
 | true=>
  rw[z]at ac;have ad:m=QoI bs o.2:=ac;have ab:=QFH (c:=o.2) aa.len aa.p0;have q:=Qsp b o.2 bs H4 aa (by rw[kx];exact ah);rw[<- ad]at ab q;simp only[Qb,simprocAttr,a7];refine q.w ?_;rintro _ H5 ax au ⟨rfl,ai⟩;simp only[Qb,simprocAttr];rw[<- ae];refine aj m _ H5 ⟨au,aa.only ai ab.1 ab.2.1 ab.2.2,oc.trans ai,ab.1.trans kx,?_,?_,?_⟩ ag
  all_goals simp only[Qf,simprocAttr,a4,a7]
def QKz (ar:H.Wf)(ax:Ext H H3)(am:H.y<=bt)(ak:H.y<=b)(aq:bt≠b)(an:bt<H3.y)(al:b<H3.y)(aj:H3.get bt=some (.C [.Z 0,.slice none 0 0] 33))(ap:c0.x.f.shapes.length=c0.x.f.slots.length)
  (o:Int×Rr) (A:Env) (H4:Qa) (h:StR H H3 H4 b bt c0 o.2 bs A o.1) (m:Int×Rr) (aa:m=bif o.1==0 then opF bs o.2 else o) (w:Int×Rr) (ag:w=bif m.1==0 then QoI bs m.2 else m) (ao:r=bif w.1==0 then QoT bs w.2 else Qjx w.1):
  Qk Pg QKw ⟨Rt Pg Tryz.f17 H (Qk9 H r),Xi⟩ (Rt Pg Tryz.f17 H (Qk9 H r)) A H4:=by
 have ai:=λm A H4 h aa=>QKy (r:=r) (c0:=c0) (bs:=bs) ar ax am ak aq an al aj ap m A H4 h w aa ao;obtain⟨au,ab,oc,kx,a4,a7,a8⟩:=h;rw[QKw,Zl];generalize ae:Qk Pg QIg _ _=K;simp only[Qb,simprocAttr,a8];cases z:o.1==0 with
 | false=>
  rw[z]at aa;have ad:m=o:=aa;subst ad;simp only[Qb,simprocAttr];rw[<- ae];refine ai m _ H4 ⟨au,ab,oc,kx,?_,?_,?_⟩ ag
  all_goals simp only[Qf,simprocAttr,a4,a7,a8]
 | true=>
  rw[z]at aa;have ad:m=opF bs o.2:=aa;have ac:=QIK (c:=o.2) ab.len ab.p0;have q:=QE4 b o.2 bs H4 ab;rw[<- ad]at ac q;simp only[Qb,simprocAttr,a7];refine q.w ?_;rintro _ H5 ay av ⟨rfl,ah⟩;simp only[Qb,simprocAttr];rw[<- ae];refine ai m _ H5 ⟨av,ab.only ah ac.1 ac.2.1 ac.2.2,oc.trans ah,ac.1.trans kx,?_,?_,?_⟩ ag
  all_goals simp only[Qf,simprocAttr,a4,a7]
end
def QtT (x:Lf)(bv:Value)(bs:List Int)(H:Qa)(hx:x.At H)(ai:Qh3 H bv bs)(aj:bs.length<=1000000)(ak:x.f.shapes.length=x.f.slots.length):Qe Pg 17 [.agg x.cells.toArray,bv] H (Qk9 H (QsN bs x bv)):=by
 refine Qsh λal=>?_;obtain⟨va,aa,rfl,_⟩:=id ai;obtain⟨r,ae⟩:∃r,r=QsN bs x (.slice va bs.length aa):=⟨_,rfl⟩;rw[<- ae];have ax:r=bif (rdM bs (rd0 x (.slice va bs.length aa))).1==0 then QoT bs (rdM bs (rd0 x (.slice va bs.length aa))).2 else Qjx (rdM bs (rd0 x (.slice va bs.length aa))).1:=ae
 clear ae;have ar:(Value.agg x.cells.toArray).cells.toList=x.cells:=rfl;obtain⟨aC,sc,aD,_⟩:=id hx.2.2.1;obtain⟨aE,aF,aG,_⟩:=id hx.2.2.2;have aq:Qjb=.seq (.ops [⟨some 2,.box 51 (t 0),none,false⟩,⟨some 4,.alloc 33 [.Z 0,.slice none 0 0],none,false⟩,⟨some 5,.mv (.const (.Z 0)),none,false⟩,⟨some 6,.mv (.const (.Z 0)),none,false⟩]) (.seq (.ops [⟨some 9,.ld true 10 (t 2),none,false⟩,⟨some 10,.mv (t 1),none,false⟩,⟨some 11,.build [.Z 0,.slice none 0 0,.slice none 0 0,.Z 0,.Z 0,.Z 0,.Z 0,.Z 0,.bool false,.Z 0,.slice none 0 0,.Z 0,.bool false,.Z 0,.Z 0,.Z 0,.Z 0,.Z 0,.Z 0,.Z 0,.Z 0,.Z 0,.Z 0,.Z 0,.Z 0,.Z 0,.Z 0,.Z 0] [(0,10,(t 9)),(10,1,(t 10))],none,false⟩,⟨some 7,.alloc 74 [.Z 0,.slice none 0 0,.slice none 0 0,.Z 0,.Z 0,.Z 0,.Z 0,.Z 0,.bool false,.Z 0,.slice none 0 0,.Z 0,.bool false,.Z 0,.Z 0,.Z 0,.Z 0,.Z 0,.Z 0,.Z 0,.Z 0,.Z 0,.Z 0,.Z 0,.Z 0,.Z 0,.Z 0,.Z 0],none,false⟩,⟨none,.st 28 (t 7) (t 11),none,false⟩]) (.seq (.ops [⟨some 12,.call 29 [(t 7)],none,false⟩,⟨some 8,.mv (t 12),none,false⟩]) QKw)):=rfl;rw[aq];simp only[ar,Qb,simprocAttr,Qv,QV];change QzD (some (rd0 x (.slice va bs.length aa)).cells) _ _;have ap:((rd0 x (.slice va bs.length aa)).cells.all λx=>x.oneCell')=true:=by
  show((x.cells++_).all λx=>x.oneCell')=true;rw[Fo,Zg hx];rfl
 generalize ad:rd0 x (.slice va bs.length aa)=c0 at *;have aH:List.take 28 c0.cells=c0.cells:=LF (FM (WF c0));simp only[Qb,simprocAttr,WF,ap];generalize ab:Qa.set _ (H.y+1+1) (.C c0.cells 74)=H3;have an:H.y+1≠H.y+1+1:=by omega
 have am:Ext H H3:=by
  rw[<- ab];exact((((Ext.refl H).push _).push _).push _).set (by omega) _
 have av:H3.get (H.y+1+1)=some (.C c0.cells 74):=by rw[<- ab,Qh,Lc rfl]
 have au:H3.get (H.y+1)=some (.C [.Z 0,.slice none 0 0] 33):=by
  rw[<- ab,Qh,Le an,Qc,Le (by simp only[Qd];omega),Qc,Lc (by simp only[Qd])]
 have aA:H3.y=H.y+1+1+1:=by rw[<- ab];simp only[Qo,Qd]
 clear ab;have ah:c0.x=x:=by rw[<- ad];rfl
 have b0:c0.bv=.slice va bs.length aa:=by rw[<- ad];rfl
 have p0:c0.p=0:=by rw[<- ad];rfl
 have ag:Jy H H3 (H.y+1+1) c0 bs:=⟨al,am,by omega,av,by rw[ah];exact hx,by rw[b0];exact ai,aj,by rw[p0];omega⟩;generalize az:H.y+1+1=b at *;refine(QJ4 b c0 bs H3 ag (by rw[ah];exact ak)).w ?_;rintro _ H4 aB ay ⟨rfl,ao⟩;have ac:=QBX aj ag.p0;simp only[Qb,simprocAttr];refine QKz (bt:=H.y+1) (c0:=c0) al am (by omega) (by omega) an (by omega) (by omega) au (by rw[ah];exact ak) (QbR bs c0) _ H4 ⟨ay,ag.only ao ac.1 ac.2.1 ac.2.2,ao,ac.1,?_,?_,?_⟩ (rdO bs c0) rfl (rdM bs c0) rfl ax
 all_goals simp only[Qf,simprocAttr]
def Rr.els (s t v:Value)(c:Rr):Rr:={c with x:=⟨c.x.f,s,t⟩,bv:=v}
def Qf9 (s t v:Value)(e:Int×Rr):Int×Rr:=(e.1,e.2.els s t v)
section
variable (bs:List Int) (s t v:Value)
def KK (p:Prop)[Decidable p](a b:Int×Rr):Qf9 s t v (if p then a else b)=if p then Qf9 s t v a else Qf9 s t v b:=by split<;>rfl
def QyI:∀ (n:Nat) (left:Int) (c:Rr),Qnt bs n left (c.els s t v)=Qf9 s t v (Qnt bs n left c)
 | 0,_,_=>rfl
 | n+1,left,c=>by
  rw[Qaj,Qaj];simp only[KK];have e:=λb=>QyI n (Qsr left (XN b)) (XF bs c (Gd b)).2;simp only[<- e];rfl
def QyJ:∀ (l:List UInt8) (c:Rr),Qss bs l (c.els s t v)=Qf9 s t v (Qss bs l c)
 | [],_=>rfl
 | n::l,c=>by
  show(if((XF bs c n.toNat).1==0)=true then Qss bs l ((XF bs c n.toNat).2.els s t v) else Qf9 s t v (XF bs c n.toNat))=Qf9 s t v (if((XF bs c n.toNat).1==0)=true then Qss bs l (XF bs c n.toNat).2 else XF bs c n.toNat);rw[KK,QyJ l]
def QAN (c:Rr)(w:Int):QeT (c.els s t v) w=Qf9 s t v (QeT c w):=by
 unfold QeT;rw[KK];rfl
def QFI (c:Rr):QdE bs (c.els s t v)=Qf9 s t v (QdE bs c):=by
 unfold QdE;simp only[KK,<- QAN];rfl
def QDq (c:Rr):Qst bs (c.els s t v)=Qf9 s t v (Qst bs c):=by
 unfold Qst;rw[QFI,KK,<- QyJ];rfl
def QFJ (c:Rr):QtF bs (c.els s t v)=Qf9 s t v (QtF bs c):=by
 unfold QtF QuB;rw[show(c.els s t v).x.f.pre=c.x.f.pre from rfl,QyI,KK,<- QDq];rfl
def QFK (c:Rr):QoJ bs (c.els s t v)=Qf9 s t v (QoJ bs c):=by
 unfold QoJ;simp only[KK];rfl
def QFL (c:Rr):QtG bs (c.els s t v)=Qf9 s t v (QtG bs c):=by
 unfold QtG;simp only[KK,<- QFK];rfl
def QDr (c:Rr):QbR bs (c.els s t v)=Qf9 s t v (QbR bs c):=by
 unfold QbR;rw[show(c.els s t v).x.f.vex=c.x.f.vex from rfl,QFL,QFJ];cases c.x.f.vex<;>rfl
def QIh (c:Rr):opF bs (c.els s t v)=Qf9 s t v (opF bs c):=by
 unfold opF;simp only[KK];rfl
def QFM (c:Rr):QoI bs (c.els s t v)=Qf9 s t v (QoI bs c):=by
 unfold QoI;simp only[KK];rfl
def QIi (c:Rr):rdO bs (c.els s t v)=Qf9 s t v (rdO bs c):=by
 unfold rdO rdH;rw[QDr];show(bif (QbR bs c).1==0 then opF bs ((QbR bs c).2.els s t v) else Qf9 s t v (QbR bs c))=_;rw[QIh];cases(QbR bs c).1==0<;>rfl
def QIj (c:Rr):rdM bs (c.els s t v)=Qf9 s t v (rdM bs c):=by
 unfold rdM;rw[QIi];show(bif (rdO bs c).1==0 then QoI bs ((rdO bs c).2.els s t v) else Qf9 s t v (rdO bs c))=_;rw[QFM];cases(rdO bs c).1==0<;>rfl
end
def Vz (bs:List Int)(f:Fm):Dr:=QsN bs ⟨f,.slice none 0 0,.slice none 0 0⟩ (.slice none 0 0)
def QyK (bs:List Int)(x:Lf)(bv:Value):QsN bs x bv=Vz bs x.f:=by
 unfold Vz QsN;have e:rd0 ⟨x.f,.slice none 0 0,.slice none 0 0⟩ (.slice none 0 0)=(rd0 x bv).els (.slice none 0 0) (.slice none 0 0) (.slice none 0 0):=rfl;rw[e,QIj];rfl
def QKA (x:Lf)(bv:Value)(bs:List Int)(H:Qa)(hx:x.At H)(aa:Qh3 H bv bs)(ab:bs.length<=1000000)(ac:x.f.shapes.length=x.f.slots.length):Qe Pg 17 [.agg x.cells.toArray,bv] H (Qk9 H (Vz bs x.f)):=by
 rw[<- QyK bs x bv];exact QtT x bv bs H hx aa ab ac
def Qwq.by_ {H:Qa}{v:Value}{bs:List Int}(h:Qwq H v bs):Qh3 H v bs:=by
 obtain⟨a,cap,rfl,aa⟩:=h;refine⟨a,cap,rfl,λad=>?_⟩;obtain⟨b,o,c,e,ro,rfl,ac,ab⟩:=aa ad;exact⟨b,o,e,ro,c,rfl,ac,ab⟩
def QsP (bs:List Int):List Fm->Int->Dr
 | [],err=>Qjx err
 | f::l,err=>if((Vz bs f).e==0)=true then⟨(Vz bs f).op,(Vz bs f).l,(Vz bs f).n,0⟩ else QsP bs l (if((Vz bs f).e==9)=true then 9 else err)
def QDt (bs:List Int){L:List Fm}{k:Nat}{f:Fm}(h:L[k]? = some f)(err:Int):QsP bs (L.drop k) err=if((Vz bs f).e==0)=true then⟨(Vz bs f).op,(Vz bs f).l,(Vz bs f).n,0⟩ else QsP bs (L.drop (k+1)) (if((Vz bs f).e==9)=true then 9 else err):=by
 obtain⟨aa,rfl⟩:=Lk.1 h;rw[Nh aa];rfl
def Qqw {T:Qa->Prop}{L:List Fm}{bs:List Int}(aV:∀H,T H->Qe Pg 48 [] H λu H'=>QaY H H' u L)(bi:QhN 64)(aG:∀f∈Qbe bs true 0 L,f.shapes.length=f.slots.length)(va:Value)(aW:∀H H',H.Wf->T H->Ext H H'->T H')(H:Qa)(bh:T H)(aH:Qwq H va bs)(aY:bs.length<=100000):
  Qe Pg 8 [va] H (Qk9 H (QsP bs (Qbe bs true 0 L) 4)):=by
 refine Qoa λak=>?_;simp only[Qe8,Qb,simprocAttr];have ae:Ext H (H.push (.C [.Z 0,.slice none 0 0] 33)):=(Ext.refl H).push _;have ar:(H.push (.C [.Z 0,.slice none 0 0] 33)).get H.y=some (.C [.Z 0,.slice none 0 0] 33):=by rw[Qc,Lc rfl]
 have aO:=ak.push (.C [.Z 0,.slice none 0 0] 33);generalize H.push (.C [.Z 0,.slice none 0 0] 33)=H0 at ae ar aO;refine(QtW aV bi va bs H0 (aW _ _ ak bh ae) (aH.ext ak ae) aY).w ?_;rintro bC H1 b7 av ⟨an,aa,e1,aX,b4,b2⟩;obtain⟨⟨aQ,cap,rfl,bg⟩,bn⟩:=id aX.fms;rw[<- e1]at aG;rw[<- e1];obtain⟨r,aM⟩:∃r,r=QsP bs (aa.map (·.f)) 4:=⟨_,rfl⟩;rw[<- aM];have ba:=aO.lt ar;simp only[Qb,simprocAttr];refine Qp (λm A' H'=>∃ (k:Nat) (err:Int),k<=aa.length∧m=aa.length - k∧H'.Wf∧Ext H1 H'∧
   A' 0=va∧A' 2=.P H.y∧A' 5=.Z err∧A' 12=.slice aQ aa.length cap∧A' 13=.Z aa.length∧A' 14=.Z k∧r=QsP bs ((aa.map (·.f)).drop k) err) aa.length ?_ ?_
 ·refine⟨0,4,L7 _,by omega,av,.refl _,?_,?_,?_,?_,?_,?_,aM⟩
  all_goals simp only[Qf,simprocAttr]
  all_goals rfl
 rintro m A' H3 ⟨k,err,b3,rfl,al,ad,r0,r2,aP,aA,r13,ap,ab⟩;simp only[Qb,simprocAttr,r13,ap];have aj:H3.get H.y=some (.C [.Z 0,.slice none 0 0] 33):=by rw[(an.trans ad).get _ ba];exact ar
 refine Qg (λac=>?_) (λac=>?_)
 ·have ac:k<aa.length:=by have:=Lg ac;omega
  obtain⟨b1,aT,bp,rfl,aK⟩:=bg (by omega);have aZ:H3.get b1=some (.cells (Wm aa) aT bp):=by rw[ad.get _ (av.lt aK)];exact aK
  have d1:(0:Int)<=k∧(k:Int)<aa.length:=by omega
  have d3:(k:Int).toNat=k:=by omega
  have d4:k * 10+10<=aa.length * 10:=by omega
  have aF:IntKind.i64.wrap ((k:Int)+1)=((k+1:Nat):Int):=by rw[w64 (by unfold I64;omega)];omega
  have au:=La ac;have bc:(aa.map (·.f))[k]? = some aa[k].f:=by rw[LD,au];rfl
  have aE:=GA aa k _ au;have bo:=WM aa;have az:aa[k]∈aa:=Nb ac;have aD:=(bn _ az).ext av ad;rw[QDt bs bc]at ab;generalize aa[k]=x at au aE az aD ab;have aR:=Zg aD;simp only[Qb,simprocAttr,r0,aA,ap,d1,d3,d4,aZ,bo,aE,Qv,QV,aR];obtain⟨G1,aq⟩:∃h,h=(H3.push (.C [.Z 0,.slice none 0 0,.slice none 0 0,.Z 0,.Z 0,.Z 0,.Z 0,.Z 0,.bool false,.Z 0] 51)).set H3.y (.C x.cells 51):=⟨_,rfl⟩;have b9:G1.Wf:=by rw[aq];exact(al.push _).set (by rw[Qc,Lc rfl]) _
  have ag:Ext H3 G1:=by rw[aq];exact((Ext.refl H3).push _).set (Lb _) _
  simp only[<- aq];have ay:Ext H G1:=(ae.trans an).trans (ad.trans ag);refine(QKA x va bs G1 (aD.ext al ag) (aH.ext ak ay).by_ (by omega) (aG x.f (Rw az))).w ?_;rintro _ G2 b8 am ⟨ao,bA,rfl,bj,aI⟩;generalize Vz bs x.f=d at *;obtain⟨aB,aC,rfl,bm⟩:=id bj;have aL:G2.get H.y=some (.C [.Z 0,.slice none 0 0] 33):=by rw[(ag.trans ao).get _ (al.lt aj)];exact aj
  have ax:=λC=>((Ext.refl G2).push (.C [.Z 0,.slice none 0 0] 33)).set (i:=G2.y) (Lb _) C;have b6:=am.lt aL;have bd:(H.y=G2.y)=False:=by simp;omega
  simp only[Qb,simprocAttr];cases z:d.e==0 with
  | true=>
   rw[Lc z]at ab;simp only[Qb,simprocAttr,r2,aL,bd,QdM];have ah:Ext H (((G2.push (.C [.Z 0,.slice none 0 0] 33)).set G2.y (.C [.Z d.op,.slice aB d.l.length aC] 33)).set H.y (.C [.Z d.op,.slice aB d.l.length aC] 33)):=(ay.trans (ao.trans (ax _))).set (Lb _) _;have bw:=ay.y;have bx:=(ae.trans an).y;have bz:=ad.y;have bu:=ag.y;have b5:=al.lt aj;refine .mk ah.y ⟨ah,_,by rw[ab],?_,λa n c h=>?_⟩;·rw[ab];refine⟨aB,aC,rfl,λh=>?_⟩;obtain⟨aS,e2,bq,rfl,aJ⟩:=bm h;have aU:=aI _ _ _ rfl;have br:=am.lt aJ;simp only at aU;exact⟨aS,e2,bq,rfl,by rw[Qh,Le (by omega),Qh,Le (by omega),Qc,Le (by omega)];exact aJ⟩
   have ac:=aI a n c h;refine⟨by omega,?_⟩;simp only[Qo,Qd];omega
  | false=>
   rw[Le (by rw[z];decide)]at ab;cases ai:d.e==9 with
   | true=>
    rw[Lc ai]at ab;simp only[Qb,simprocAttr,ai,ap,aF];refine⟨aa.length - (k+1),by omega,k+1,9,by omega,rfl,?_,ad.trans ((ag.trans ao).trans (ax _)),?_,?_,?_,?_,?_,?_,ab⟩;·exact(am.push _).set (by rw[Qc,Lc rfl]) _
    all_goals simp only[Qf,simprocAttr,r0,r2,aA,r13]
   | false=>
    rw[Le (by rw[ai];decide)]at ab;simp only[Qb,simprocAttr,ai,ap,aF];refine⟨aa.length - (k+1),by omega,k+1,err,by omega,rfl,?_,ad.trans ((ag.trans ao).trans (ax _)),?_,?_,?_,?_,?_,?_,ab⟩;·exact(am.push _).set (by rw[Qc,Lc rfl]) _
    all_goals simp only[Qf,simprocAttr,r0,r2,aP,aA,r13]
 have ac:k=aa.length:=by have:=Ll ac;omega
 subst ac;rw[NR (by rw[Nn];exact Lb _)]at ab;have aN:r=Qjx err:=ab;have ah:=ae.trans (an.trans ad);simp only[Qb,simprocAttr,r2,aP,aj,QdM];exact .mk (ah.set (Lb _) _).y ⟨ah.set (Lb _) _,_,by rw[aN];rfl,by rw[aN];exact⟨none,0,rfl,λh=>absurd h (NX 0)⟩,λa n c h=>by cases h⟩
def QpR (aa:Int×Bool):∀l:List Ar,(Q5 aa l).1.length<=l.length
 | []=>Lb _
 | a::l=>by
  have:=QpR aa l;show(if((Zf aa a).2==0)=true then((Zf aa a).1::(Q5 aa l).1,(Q5 aa l).2) else([],(Zf aa a).2)).1.length<=_;split;·simp only[Lo];omega
  exact L7 _
def QDu (op:Int)(l:List Ar):(Ja op l).length<=l.length+1:=by
 unfold Ja;split
 ·split;·simp
  omega
 split;·simp
 split;·simp
 omega
def QFN (op p:Int)(l:List Ar):(QsL op p l).l.length<=5:=by
 unfold QsL;split;·exact L7 _
 rename_i h;show(QT op l).2.1.length<=5;unfold QT at h ⊢;split;·exact L7 _
 rename_i aa;split;·exact L7 _
 have ab:=Qgz (op:=op) (l:=l) (by simpa using aa);have ac:=QpR (WI op l) l;have ad:=QDu op (Q5 (WI op l) l).1;show(Ja op (Q5 (WI op l) l).1).length<=5;omega
def QFO (bs:List Int)(c:Rr):(QoT bs c).l.length<=5:=by
 have aa:∀c n,(QtS bs c n).l.length<=5:=λc n=>by
  unfold QtS
  repeat' split
  all_goals first
   | exact QFN _ _ _
   | exact L7 _
 unfold QoT
 repeat' split
 all_goals first
  | exact aa _ _
  | exact L7 _
def QDv (bs:List Int)(f:Fm):(Vz bs f).l.length<=5:=by
 unfold Vz QsN;cases(rdM bs (rd0 ⟨f,.slice none 0 0,.slice none 0 0⟩ (.slice none 0 0))).1==0;·exact L7 _
 exact QFO _ _
